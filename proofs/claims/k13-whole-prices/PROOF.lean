import PyProof.Rows.All
import Wide.All
import OpenK.AllK
import Wide.FinOn
import HandS.ForMost
import HandS.AnyAll
import KE.KDictKeyed
import HandS.Deep
import HandS.IsInst
import HandS.Style
import HandS.Conv
import HandS.TupMul
import HandS.TupLe
import HandS.TupAny
import KE.KDictDisplayH
import HandS.Star
import KE.DataMinMax
import KE.SortData
import KE.KDictSum
import KE.KDictCopyH
import HandS.Walk
import KE.GoesEnum
import KE.GoesMore
import HandS.Defaults
import HandS.GenList
import PyProof.GenArm
import KE.GoesZip
import KE.KDictZip
import HandS.Words
import Lean
import HandS.WordsExc
import HandS.Head0
import HandS.Head1
import HandS.Head2
import HandS.HeadEnd
import HandS.HeadHook1
import HandS.HeadHook2
import HandS.HeadHook3
import HandS.HeadHook4
import HandS.HeadWalk
import HandS.EndTab
import KE.KStateDown
import PySem.Challenge.RW_starlands_k13_whole_prices
noncomputable section S_Sl1
set_option Elab.async false
set_option linter.all false
set_option maxRecDepth 100000
/-! Data, the monad of draws, how data stand in the abstract heap, the readings by data. -/
namespace Sl
open PySem PySem.Spec PyProof.Rows L2

/-! ### data -/
inductive D where
  | non
  | bl (b : Bool)
  | int (i : Int)
  | tup (ds : List D)
  | lst (ds : List D)
  | dct (kvs : List (D × D))
  | row

/-! ### results: none, one, or one for each draw -/
inductive M (α : Type) where
  | fail
  | ret (a : α)
  | draw (n : Nat) (k : Nat → M α)
def M.bind {α β : Type} (m : M α) (f : α → M β) : M β := M.rec (motive := fun _ => M β) .fail (fun a => f a) (fun n _ k => .draw n k) m
instance : Monad M where
  pure := M.ret
  bind := M.bind
def M.All {α : Type} (P : α → Prop) : M α → Prop
  | .fail => False
  | .ret a => P a
  | .draw n k => ∀ i, i < n → (k i).All P
theorem M.All.mono {α : Type} {P Q : α → Prop} (h : ∀ a, P a → Q a) : ∀ {m : M α}, m.All P → m.All Q
  | .fail, x => x
  | .ret a, x => h a x
  | .draw _ _, x => fun i hi => M.All.mono h (x i hi)
theorem M.All.bind {α β : Type} {P : β → Prop} {f : α → M β} : ∀ {m : M α}, (m.bind f).All P → m.All fun a => (f a).All P
  | .fail, x => x
  | .ret _, x => x
  | .draw _ _, x => fun i hi => M.All.bind (x i hi)
theorem M.All.bind' {α β : Type} {P : β → Prop} {f : α → M β} : ∀ {m : M α}, (m.All fun a => (f a).All P) → (m.bind f).All P
  | .fail, x => x
  | .ret _, x => x
  | .draw _ _, x => fun i hi => M.All.bind' (x i hi)
theorem M.All.and {α : Type} {P Q : α → Prop} : ∀ {m : M α}, m.All P → m.All Q → m.All fun a => P a ∧ Q a
  | .fail, x, _ => x
  | .ret _, x, y => ⟨x, y⟩
  | .draw _ _, x, y => fun i hi => M.All.and (x i hi) (y i hi)
theorem M.bind_assoc {α β γ : Type} {f : α → M β} {g : β → M γ} : ∀ (m : M α), (m.bind f).bind g = m.bind fun a => (f a).bind g
  | .fail => rfl
  | .ret _ => rfl
  | .draw n k => by
    show M.draw n _ = M.draw n _
    congr 1
    funext i
    exact M.bind_assoc (k i)

/-! ### what the readings lean on -/
/-- the row of draws: its list at r, the script at sc (kc: an object of the module), the script's numbers -/
structure RowD where
  r : Addr
  sc : Addr
  ns : List Int
  kc : Bool
structure Wd where
  P : Program
  w : World
  K : PySem.W.Frag
  /-- the tables of the defs' code objects -/
  tabs : List Addr
  row : Option RowD

def Wd.vol (W : Wd) (a : Addr) : Prop := a ∈ W.tabs ∨ ∃ d, W.row = some d ∧ (a = d.r ∨ (d.kc = false ∧ a = d.sc))
/-- a row's list -/
def RowAt (H : Hp) (r sc : Addr) : Prop := ∃ p x y : Int, H r = some (.lst [.ref sc, .int p, .int x, .int y]) ∧ 0 ≤ p ∧ 0 ≤ x ∧ x < 2147483647
def ScAt (W : Wd) (H : Hp) (d : RowD) : Prop := (d.kc = true ∧ ∀ H' : Hp, SqL W.K H' d.sc (d.ns.map V.int)) ∨ (d.kc = false ∧ Rd H d.sc (.lst (d.ns.map V.int)))
structure Good (W : Wd) (H : Hp) : Prop where
  tab : ∀ P ∈ W.tabs, GxR.TabG H P
  row : ∀ d, W.row = some d → RowAt H d.r d.sc ∧ ScAt W H d
structure Ext (W : Wd) (H H' : Hp) : Prop where
  keep : ∀ a o, H a = some o → ¬ W.vol a → H' a = some o
  dom : ∀ a, H a ≠ none → H' a ≠ none
  good : Good W H'
theorem ScAt.seq {W : Wd} {H : Hp} {d : RowD} (h : ScAt W H d) : SqL W.K H d.sc (d.ns.map V.int) := by
  rcases h with ⟨_, h⟩ | ⟨_, h⟩
  · exact h H
  · exact .inl h
theorem Ext.refl {W : Wd} {H : Hp} (g : Good W H) : Ext W H H := ⟨fun _ _ h _ => h, fun _ h => h, g⟩
theorem Ext.trans {W : Wd} {H H1 H2 : Hp} (a : Ext W H H1) (b : Ext W H1 H2) : Ext W H H2 :=
  ⟨fun c o h n => b.keep c o (a.keep c o h n) n, fun c h => b.dom c (a.dom c h), b.good⟩
theorem Ext.free {W : Wd} {H H' : Hp} (e : Ext W H H') {a : Addr} (h : H' a = none) : H a = none := by
  cases q : H a with
  | none => rfl
  | some o => exact absurd h (e.dom a (by rw [q]; exact fun z => nomatch z))
theorem Good.tup {W : Wd} {H : Hp} (g : Good W H) {a : Addr} {xs : List V} (h : H a = some (.tup xs)) : ¬ W.vol a := fun v => by
  rcases v with v | ⟨d, e, rfl | ⟨hk, rfl⟩⟩
  · obtain ⟨ps, q, _⟩ := g.tab a v
    rw [h] at q; cases q
  · obtain ⟨⟨p, x, y, q, _⟩, _⟩ := g.row _ e
    rw [h] at q; cases q
  · rcases (g.row _ e).2 with ⟨hk', _⟩ | ⟨_, q | ⟨u, q⟩⟩
    · rw [hk] at hk'; cases hk'
    · rw [h] at q; cases q
    · rw [h] at q; cases q
/-- the changing ones stay where they are -/
theorem Good.of {W : Wd} {H H' : Hp} (g : Good W H) (h : ∀ a o, W.vol a → H a = some o → H' a = some o) : Good W H' := by
  refine ⟨fun P hP => ?_, fun d e => ?_⟩
  · obtain ⟨ps, q, t⟩ := g.tab P hP
    exact ⟨ps, h _ _ (.inl hP) q, t⟩
  · obtain ⟨⟨p, x, y, q, r1⟩, q2⟩ := g.row d e
    refine ⟨⟨p, x, y, h _ _ (.inr ⟨d, e, .inl rfl⟩) q, r1⟩, ?_⟩
    rcases q2 with q2 | ⟨hk, q2 | ⟨u, q2⟩⟩
    · exact .inl q2
    · exact .inr ⟨hk, .inl (h _ _ (.inr ⟨d, e, .inr ⟨hk, rfl⟩⟩) q2)⟩
    · exact .inr ⟨hk, .inr ⟨u, h _ _ (.inr ⟨d, e, .inr ⟨hk, rfl⟩⟩) q2⟩⟩
/-- a new object -/
theorem Good.put {W : Wd} {H : Hp} (g : Good W H) {a : Addr} {o : HO} (h : H a = none) : Good W (upd H a o) :=
  g.of fun b u _ e => by rw [upd_ne (ne_of_none e h)]; exact e
/-- a change elsewhere -/
theorem Good.write {W : Wd} {H : Hp} (g : Good W H) {a : Addr} {o : HO} (h : ¬ W.vol a) : Good W (upd H a o) :=
  g.of fun b u v e => by rw [upd_ne (show b ≠ a from fun z => h (z ▸ v))]; exact e
theorem Ext.new {W : Wd} {H : Hp} (g : Good W H) {a : Addr} {o : HO} (h : H a = none) : Ext W H (upd H a o) :=
  ⟨fun b u e _ => by rw [upd_ne (ne_of_none e h)]; exact e, fun b e => by
    by_cases hb : b = a
    · subst hb; rw [upd_same]; exact fun z => nomatch z
    · rw [upd_ne hb]; exact e, g.put h⟩

/-! ### data in the abstract heap; F: where what may change stands -/
/-- a thing that does not change -/
def imm : D → Bool
  | .tup ds => immAll ds
  | .lst _ => false
  | .dct _ => false
  | _ => true
where immAll : List D → Bool
  | [] => true
  | d :: ds => imm d && immAll ds
/-- a dict's key -/
def toKey : D → Option NestedKey
  | .non => some .none
  | .int i => some (.num i)
  | .tup ds => (keys ds).map .tup
  | _ => none
where keys : List D → Option (List NestedKey)
  | [] => some []
  | d :: ds => match toKey d, keys ds with
    | some k, some ks => some (k :: ks)
    | _, _ => none
/-- a dict's object, by its entries -/
structure DObj (W : Wd) (a : Addr) (o : Obj) (xs : List (NestedKey × Addr × Value)) : Prop where
  ex : o.ExactDict
  ns : (a == sysModules) = false
  sz : xs.length ≤ sizeLine
  dat : ∃ es ep, o.data = .dict es ep ∧ es.toList = xs.map (entryOfKey (nestedKind W.P W.w))
  nd : (xs.map (·.1)).Nodup
def dO (a : Addr) (o : Obj) : HO := .ext fun h => h.get? a = some o

mutual
/-- F: where what may change stands; a list's things lie elsewhere than the list itself, a dict's do not change -/
inductive Is (W : Wd) (H : Hp) : (Addr → Prop) → V → D → Prop
  | non {F : Addr → Prop} : Is W H F .non .non
  | bl {F : Addr → Prop} (b : Bool) : Is W H F (.bl b) (.bl b)
  | int {F : Addr → Prop} (i : Int) : Is W H F (.int i) (.int i)
  | tup {F : Addr → Prop} {a : Addr} {xs : List V} {ds : List D} : H a = some (.tup xs) → ds.length ≤ sizeLine → IsAll W H F xs ds → Is W H F (.ref a) (.tup ds)
  | lst {F : Addr → Prop} {a : Addr} {xs : List V} {ds : List D} : F a → H a = some (.lst xs) → ds.length ≤ sizeLine → IsAll W H (fun b => F b ∧ b ≠ a) xs ds → Is W H F (.ref a) (.lst ds)
  | dct {F : Addr → Prop} {a : Addr} {o : Obj} {xs : List (NestedKey × Addr × Value)} {kvs : List (D × D)} : F a → H a = some (dO a o) → DObj W a o xs → IsEnts W H (fun _ => False) xs kvs → Is W H F (.ref a) (.dct kvs)
  | row {F : Addr → Prop} {d : RowD} : W.row = some d → Is W H F (.ref d.r) .row
inductive IsAll (W : Wd) (H : Hp) : (Addr → Prop) → List V → List D → Prop
  | nil {F : Addr → Prop} : IsAll W H F [] []
  | cons {F : Addr → Prop} {v : V} {vs : List V} {d : D} {ds : List D} : Is W H F v d → IsAll W H F vs ds → IsAll W H F (v :: vs) (d :: ds)
inductive IsEnts (W : Wd) (H : Hp) : (Addr → Prop) → List (NestedKey × Addr × Value) → List (D × D) → Prop
  | nil {F : Addr → Prop} : IsEnts W H F [] []
  | cons {F : Addr → Prop} {k : NestedKey} {a : Addr} {u : Value} {v : V} {xs : List (NestedKey × Addr × Value)} {dk dv : D} {kvs : List (D × D)} :
      toKey dk = some k → k.depth ≤ 8 → Is W H F (.ref a) dk → RelV v u → Is W H F v dv → IsEnts W H F xs kvs → IsEnts W H F ((k, a, u) :: xs) ((dk, dv) :: kvs)
end
section
variable {W : Wd} {H H' : Hp}
mutual
theorem Is.stay {F F' : Addr → Prop} (hF : ∀ a o, F a → H a = some o → F' a ∧ H' a = some o) (ht : ∀ a xs, H a = some (.tup xs) → H' a = some (.tup xs)) : ∀ {v : V} {d : D}, Is W H F v d → Is W H' F' v d
  | _, _, .non => .non
  | _, _, .bl b => .bl b
  | _, _, .int i => .int i
  | _, _, .tup h z q => .tup (ht _ _ h) z (IsAll.stay hF ht q)
  | _, _, .lst f h z q => .lst (hF _ _ f h).1 (hF _ _ f h).2 z (IsAll.stay (fun a o fa e => ⟨⟨(hF a o fa.1 e).1, fa.2⟩, (hF a o fa.1 e).2⟩) ht q)
  | _, _, .dct f h z q => .dct (hF _ _ f h).1 (hF _ _ f h).2 z (IsEnts.stay (fun _ _ fa _ => fa.elim) ht q)
  | _, _, .row e => .row e
theorem IsAll.stay {F F' : Addr → Prop} (hF : ∀ a o, F a → H a = some o → F' a ∧ H' a = some o) (ht : ∀ a xs, H a = some (.tup xs) → H' a = some (.tup xs)) : ∀ {vs : List V} {ds : List D}, IsAll W H F vs ds → IsAll W H' F' vs ds
  | _, _, .nil => .nil
  | _, _, .cons a b => .cons (Is.stay hF ht a) (IsAll.stay hF ht b)
theorem IsEnts.stay {F F' : Addr → Prop} (hF : ∀ a o, F a → H a = some o → F' a ∧ H' a = some o) (ht : ∀ a xs, H a = some (.tup xs) → H' a = some (.tup xs)) : ∀ {xs : List (NestedKey × Addr × Value)} {kvs : List (D × D)}, IsEnts W H F xs kvs → IsEnts W H' F' xs kvs
  | _, _, .nil => .nil
  | _, _, .cons e n a r b c => .cons e n (Is.stay hF ht a) r (Is.stay hF ht b) (IsEnts.stay hF ht c)
end
variable {F F' : Addr → Prop}
mutual
theorem Is.imm : ∀ {v : V} {d : D}, Is W H F v d → imm d = true → Is W H F' v d
  | _, _, .non, _ => .non
  | _, _, .bl b, _ => .bl b
  | _, _, .int i, _ => .int i
  | _, _, .tup h z q, e => .tup h z (IsAll.imm q (by simpa [Sl.imm] using e))
  | _, _, .lst _ _ _ _, e => by simp [Sl.imm] at e
  | _, _, .dct _ _ _ _, e => by simp [Sl.imm] at e
  | _, _, .row x, _ => .row x
theorem IsAll.imm : ∀ {vs : List V} {ds : List D}, IsAll W H F vs ds → imm.immAll ds = true → IsAll W H F' vs ds
  | _, _, .nil, _ => .nil
  | _, _, .cons a b, e => by
    simp only [Sl.imm.immAll, Bool.and_eq_true] at e
    exact .cons (Is.imm a e.1) (IsAll.imm b e.2)
end
theorem Is.wide (h : ∀ a, F a → F' a) {v : V} {d : D} (x : Is W H F v d) : Is W H F' v d := x.stay (fun a o f e => ⟨h a f, e⟩) fun _ _ e => e
theorem IsAll.wide (h : ∀ a, F a → F' a) {vs : List V} {ds : List D} (x : IsAll W H F vs ds) : IsAll W H F' vs ds := x.stay (fun a o f e => ⟨h a f, e⟩) fun _ _ e => e
/-- where what may change stands: tracked, none of the changing ones -/
def Mutb : HO → Prop
  | .lst _ => True
  | .ext _ => True
  | _ => False
def FOk (W : Wd) (H : Hp) (F : Addr → Prop) : Prop := ∀ a, F a → (∃ o, H a = some o ∧ Mutb o) ∧ ¬ W.vol a
theorem FOk.ext (f : FOk W H F) (e : Ext W H H') : FOk W H' F := fun a h => ⟨let ⟨o, q, m⟩ := (f a h).1; ⟨o, e.keep a o q (f a h).2, m⟩, (f a h).2⟩
theorem FOk.dom (f : FOk W H F) {a : Addr} (h : F a) : H a ≠ none := by
  obtain ⟨o, q, _⟩ := (f a h).1
  rw [q]; exact fun z => nomatch z
theorem FOk.nil : FOk W H fun _ => False := fun _ h => h.elim
theorem FOk.or (f : FOk W H F) (f' : FOk W H F') : FOk W H fun a => F a ∨ F' a := fun a h => h.elim (f a) (f' a)
theorem Is.ext {v : V} {d : D} (x : Is W H F v d) (g : Good W H) (f : FOk W H F) (e : Ext W H H') : Is W H' F v d :=
  x.stay (fun a o h q => ⟨h, e.keep a o q (f a h).2⟩) fun a xs q => e.keep a _ q (g.tup q)
theorem IsAll.ext {vs : List V} {ds : List D} (x : IsAll W H F vs ds) (g : Good W H) (f : FOk W H F) (e : Ext W H H') : IsAll W H' F vs ds :=
  x.stay (fun a o h q => ⟨h, e.keep a o q (f a h).2⟩) fun a xs q => e.keep a _ q (g.tup q)
theorem IsAll.length : ∀ {vs : List V} {ds : List D}, IsAll W H F vs ds → vs.length = ds.length
  | _, _, .nil => rfl
  | _, _, .cons _ b => by simp [IsAll.length b]
theorem IsAll.get : ∀ {vs : List V} {ds : List D} {i : Nat} {d : D}, IsAll W H F vs ds → ds[i]? = some d → ∃ v, vs[i]? = some v ∧ Is W H F v d
  | _, _, _, _, .nil, e => by simp at e
  | _, _, 0, _, .cons a _, e => by simp at e; subst e; exact ⟨_, rfl, a⟩
  | _, _, i + 1, _, .cons _ b, e => by
    obtain ⟨v, h, q⟩ := IsAll.get (i := i) b (by simpa using e)
    exact ⟨v, by simpa using h, q⟩
theorem IsAll.getV : ∀ {vs : List V} {ds : List D} {i : Nat} {v : V}, IsAll W H F vs ds → vs[i]? = some v → ∃ d, ds[i]? = some d ∧ Is W H F v d
  | _, _, _, _, .nil, e => by simp at e
  | _, _, 0, _, .cons a _, e => by simp at e; subst e; exact ⟨_, rfl, a⟩
  | _, _, i + 1, _, .cons _ b, e => by
    obtain ⟨v, h, q⟩ := IsAll.getV (i := i) b (by simpa using e)
    exact ⟨v, by simpa using h, q⟩
theorem IsAll.append : ∀ {vs us : List V} {ds es : List D}, IsAll W H F vs ds → IsAll W H F us es → IsAll W H F (vs ++ us) (ds ++ es)
  | _, _, _, _, .nil, x => x
  | _, _, _, _, .cons a b, x => .cons a (IsAll.append b x)
theorem IsAll.take : ∀ {vs : List V} {ds : List D} (n : Nat), IsAll W H F vs ds → IsAll W H F (vs.take n) (ds.take n)
  | _, _, 0, _ => .nil
  | _, _, _ + 1, .nil => .nil
  | _, _, n + 1, .cons a b => .cons a (IsAll.take n b)
theorem IsAll.drop : ∀ {vs : List V} {ds : List D} (n : Nat), IsAll W H F vs ds → IsAll W H F (vs.drop n) (ds.drop n)
  | _, _, 0, x => x
  | _, _, _ + 1, .nil => .nil
  | _, _, n + 1, .cons _ b => IsAll.drop n b
theorem IsAll.one {v : V} {d : D} (a : Is W H F v d) : IsAll W H F [v] [d] := .cons a .nil
theorem IsAll.reverse : ∀ {vs : List V} {ds : List D}, IsAll W H F vs ds → IsAll W H F vs.reverse ds.reverse
  | _, _, .nil => .nil
  | _, _, .cons a b => by
    rw [List.reverse_cons, List.reverse_cons]
    exact (IsAll.reverse b).append (.one a)
theorem IsAll.ints : ∀ (ns : List Int), IsAll W H F (ns.map V.int) (ns.map D.int)
  | [] => .nil
  | n :: ns => .cons (.int n) (IsAll.ints ns)
end

/-! ### slots by data; ms: the slots whose lists and dicts are changed in place -/
abbrev Rho := List (Option D)
def RelF (W : Wd) (H0 : Hp) (ms : List Nat) (σ : L2.St) (H : Hp) (ρ : Rho) (F : Nat → Addr → Prop) : Prop :=
  (∀ i d, ρ[i]? = some (some d) → ∃ v, σ[i]? = some (some v) ∧ Is W H (F i) v d) ∧ (∀ i, FOk W H (F i)) ∧
    (∀ i ∈ ms, ∀ a, F i a → H0 a = none) ∧ (∀ i ∈ ms, ∀ j, j ≠ i → ∀ a, F i a → ¬ F j a)
structure Rel (W : Wd) (H0 : Hp) (ms : List Nat) (σ : L2.St) (H : Hp) (ρ : Rho) : Prop where
  good : Good W H
  ext : Ext W H0 H
  len : ρ.length = σ.length
  at_ : ∃ F : Nat → Addr → Prop, RelF W H0 ms σ H ρ F
section
variable {W : Wd} {H0 H H' : Hp} {ms : List Nat} {σ : L2.St} {ρ : Rho}
theorem Rel.step (r : Rel W H0 ms σ H ρ) (e : Ext W H H') : Rel W H0 ms σ H' ρ := by
  obtain ⟨F, h1, h2, h3, h4⟩ := r.at_
  refine ⟨e.good, r.ext.trans e, r.len, F, fun i d q => ?_, fun i => (h2 i).ext e, h3, h4⟩
  obtain ⟨v, a, b⟩ := h1 i d q
  exact ⟨v, a, b.ext r.good (h2 i) e⟩
theorem Rel.get (r : Rel W H0 ms σ H ρ) {i : Nat} {d : D} (h : ρ[i]? = some (some d)) : ∃ v G, σ[i]? = some (some v) ∧ Is W H G v d ∧ FOk W H G := by
  obtain ⟨F, h1, h2, h3, h4⟩ := r.at_
  obtain ⟨v, a, b⟩ := h1 i d h
  exact ⟨v, F i, a, b, h2 i⟩
/-- a slot is stored anew -/
theorem Rel.set (r : Rel W H0 ms σ H ρ) (e : Ext W H H') {i : Nat} {v : V} {d : D} {G : Addr → Prop} (x : Is W H' G v d) (g : FOk W H' G)
    (new : ms = [] ∨ (∀ a, G a → H a = none) ∨ (i ∉ ms ∧ ∀ a, G a → H0 a ≠ none)) : Rel W H0 ms (σ.set i (some v)) H' (ρ.set i (some d)) := by
  have r' := r.step e
  obtain ⟨F, h1, h2, h3, h4⟩ := r.at_
  have h1' : ∀ j d, ρ[j]? = some (some d) → ∃ v, σ[j]? = some (some v) ∧ Is W H' (F j) v d := fun j d q => by
    obtain ⟨v, a, b⟩ := h1 j d q
    exact ⟨v, a, b.ext r.good (h2 j) e⟩
  refine ⟨e.good, r.ext.trans e, by rw [List.length_set, List.length_set]; exact r.len, fun j a => (j = i ∧ G a) ∨ (j ≠ i ∧ F j a), fun j d' q => ?_, fun j a ha => ?_, fun j hj a ha => ?_, fun j hj k hk a ha hb => ?_⟩
  · by_cases hj : j = i
    · subst hj
      by_cases hl : j < ρ.length
      · rw [List.getElem?_set_self hl] at q
        cases q
        exact ⟨v, List.getElem?_set_self (by rw [← r.len]; exact hl), x.wide fun a f => .inl ⟨rfl, f⟩⟩
      · rw [List.getElem?_eq_none (by rw [List.length_set]; omega)] at q; cases q
    · rw [List.getElem?_set_ne (Ne.symm hj)] at q
      obtain ⟨v', a, b⟩ := h1' j d' q
      exact ⟨v', by rw [List.getElem?_set_ne (Ne.symm hj)]; exact a, b.wide fun a f => .inr ⟨hj, f⟩⟩
  · rcases ha with ⟨_, z⟩ | ⟨_, z⟩
    · exact g a z
    · exact ((h2 j).ext e) a z
  · rcases ha with ⟨hi, z⟩ | ⟨_, z⟩
    · rcases new with n | n | n
      · rw [n] at hj; cases hj
      · exact r.ext.free (n a z)
      · exact absurd (hi ▸ hj) n.1
    · exact h3 j hj a z
  · have ms0 : ms ≠ [] := fun z => by rw [z] at hj; cases hj
    rcases ha with ⟨hi, y⟩ | ⟨hi, y⟩
    · rcases hb with ⟨hki, z⟩ | ⟨hki, z⟩
      · exact hk (hki.trans hi.symm)
      · rcases new with n | n | n
        · exact ms0 n
        · exact (h2 k).dom z (n a y)
        · exact absurd (hi ▸ hj) n.1
    · rcases hb with ⟨hki, z⟩ | ⟨hki, z⟩
      · rcases new with n | n | n
        · exact ms0 n
        · exact (h2 j).dom y (n a z)
        · exact n.2 a z (h3 j hj a y)
      · exact h4 j hj k hk a y z
/-- a slot is forgotten -/
theorem Rel.kill (r : Rel W H0 ms σ H ρ) (i : Nat) (x : Option V := none) : Rel W H0 ms (σ.set i x) H (ρ.set i none) := by
  obtain ⟨F, h1, h2, h3, h4⟩ := r.at_
  refine ⟨r.good, r.ext, by rw [List.length_set, List.length_set]; exact r.len, fun j a => j ≠ i ∧ F j a, fun j d q => ?_, fun j a ha => h2 j a ha.2, fun j hj a ha => h3 j hj a ha.2, fun j hj k hk a ha hb => h4 j hj k hk a ha.2 hb.2⟩
  by_cases hj : j = i
  · subst hj
    by_cases hl : j < ρ.length
    · rw [List.getElem?_set_self hl] at q; cases q
    · rw [List.getElem?_eq_none (by rw [List.length_set]; omega)] at q; cases q
  · rw [List.getElem?_set_ne (Ne.symm hj)] at q
    obtain ⟨v, a, b⟩ := h1 j d q
    exact ⟨v, by rw [List.getElem?_set_ne (Ne.symm hj)]; exact a, b.stay (fun c o f e => ⟨⟨hj, f⟩, e⟩) fun _ _ e => e⟩
/-- forgetting more of what is known -/
theorem Rel.less (r : Rel W H0 ms σ H ρ) {ρ' : Rho} {σ' : L2.St} (hl : ρ'.length = σ'.length) (h : ∀ (i : Nat) (d : D), ρ'[i]? = some (some d) → ρ[i]? = some (some d) ∧ σ'[i]? = σ[i]?) : Rel W H0 ms σ' H ρ' := by
  obtain ⟨F, h1, h2, h3, h4⟩ := r.at_
  refine ⟨r.good, r.ext, hl, F, fun i d q => ?_, h2, h3, h4⟩
  obtain ⟨q1, q2⟩ := h i d q
  rw [q2]
  exact h1 i d q1
/-- i takes j's thing over, j is forgotten -/
theorem Rel.move (r : Rel W H0 ms σ H ρ) {i j : Nat} {d : D} {v : V} (hij : i ≠ j) (h : ρ[j]? = some (some d)) (hv : σ[j]? = some (some v)) (hi : i ∉ ms ∨ j ∈ ms) : Rel W H0 ms (σ.set i (some v)) H ((ρ.set i (some d)).set j none) := by
  obtain ⟨F, h1, h2, h3, h4⟩ := r.at_
  obtain ⟨v', a, b⟩ := h1 j d h
  rw [hv] at a; cases a
  refine ⟨r.good, r.ext, by simp [r.len], fun k a => k ≠ j ∧ ((k = i ∧ F j a) ∨ (k ≠ i ∧ F k a)), fun k d' q => ?_, fun k a ha => ?_, fun k hk a ha => ?_, fun k hk l hl a ha hb => ?_⟩
  · by_cases hkj : k = j
    · subst hkj
      by_cases hl : k < ρ.length
      · rw [List.getElem?_set_self (by rw [List.length_set]; exact hl)] at q; cases q
      · rw [List.getElem?_eq_none (by simp; omega)] at q; cases q
    · rw [List.getElem?_set_ne (Ne.symm hkj)] at q
      by_cases hki : k = i
      · subst hki
        by_cases hl : k < ρ.length
        · rw [List.getElem?_set_self hl] at q
          cases q
          exact ⟨v, List.getElem?_set_self (by rw [← r.len]; exact hl), b.stay (fun c o f e => ⟨⟨hkj, .inl ⟨rfl, f⟩⟩, e⟩) fun _ _ e => e⟩
        · rw [List.getElem?_eq_none (by simp; omega)] at q; cases q
      · rw [List.getElem?_set_ne (Ne.symm hki)] at q
        obtain ⟨v', a, b⟩ := h1 k d' q
        exact ⟨v', by rw [List.getElem?_set_ne (Ne.symm hki)]; exact a, b.stay (fun c o f e => ⟨⟨hkj, .inr ⟨hki, f⟩⟩, e⟩) fun _ _ e => e⟩
  · rcases ha.2 with ⟨_, z⟩ | ⟨_, z⟩
    · exact h2 j a z
    · exact h2 k a z
  · rcases ha.2 with ⟨z1, z⟩ | ⟨_, z⟩
    · rcases hi with hi | hi
      · exact absurd (z1 ▸ hk) hi
      · exact h3 j hi a z
    · exact h3 k hk a z
  · rcases ha.2 with ⟨z1, z⟩ | ⟨z1, z⟩
    · rcases hb.2 with ⟨y1, y⟩ | ⟨y1, y⟩
      · exact hl (y1.trans z1.symm)
      · rcases hi with hi | hi
        · exact hi (z1 ▸ hk)
        · exact h4 j hi l hb.1 a z y
    · rcases hb.2 with ⟨y1, y⟩ | ⟨y1, y⟩
      · exact h4 k hk j (Ne.symm ha.1) a z y
      · exact h4 k hk l hl a z y
/-- the base may be put up to all but what may change -/
theorem Rel.base (r : Rel W H0 ms σ H ρ) (e : Ext W H H') : ∃ H1, Ext W H0 H1 ∧ Rel W H1 ms σ H' ρ ∧ Ext W H1 H' ∧
    (∀ v d G, Is W H' G v d → FOk W H' G → (∀ a, G a → H a = none) → Is W H1 G v d ∧ FOk W H1 G) ∧
    ∀ (j : Nat) (d : D), j ∉ ms → ρ[j]? = some (some d) → ∃ v G, σ[j]? = some (some v) ∧ Is W H1 G v d ∧ FOk W H1 G := by
  classical
  have r' := r.step e
  obtain ⟨F, h1, h2, h3, h4⟩ := r.at_
  let H1 : Hp := fun a => if ∃ m ∈ ms, F m a then none else H' a
  have e1 : ∀ a, (∃ m ∈ ms, F m a) → H1 a = none := fun a h => if_pos h
  have e2 : ∀ a, ¬ (∃ m ∈ ms, F m a) → H1 a = H' a := fun a h => if_neg h
  have nv : ∀ a, W.vol a → ¬ ∃ m ∈ ms, F m a := fun a v ⟨m, _, f⟩ => (h2 m a f).2 v
  have g1 : Good W H1 := e.good.of fun a o v q => by rw [e2 a (nv a v)]; exact q
  have ext1 : Ext W H0 H1 := by
    refine ⟨fun a o q n => ?_, fun a q => ?_, g1⟩
    · rw [e2 a fun ⟨m, hm, f⟩ => by rw [h3 m hm a f] at q; cases q]
      exact r'.ext.keep a o q n
    · rw [e2 a fun ⟨m, hm, f⟩ => q (h3 m hm a f)]
      exact r'.ext.dom a q
  have ext2 : Ext W H1 H' := by
    refine ⟨fun a o q n => ?_, fun a q => ?_, e.good⟩
    · by_cases h : ∃ m ∈ ms, F m a
      · rw [e1 a h] at q; cases q
      · rw [e2 a h] at q; exact q
    · by_cases h : ∃ m ∈ ms, F m a
      · exact absurd (e1 a h) q
      · rw [e2 a h] at q; exact q
  have h2' : ∀ i, FOk W H' (F i) := fun i => (h2 i).ext e
  have tup : ∀ a xs, H' a = some (.tup xs) → H1 a = some (.tup xs) := fun a xs q => by
    rw [e2 a fun ⟨m, hm, f⟩ => by
      obtain ⟨⟨o, q', mu⟩, _⟩ := h2' m a f
      rw [q] at q'; cases q'; exact mu]
    exact q
  have pin : ∀ (v : V) (d : D) (G : Addr → Prop), Is W H' G v d → FOk W H' G → (∀ a, G a → ¬ ∃ m ∈ ms, F m a) → Is W H1 G v d ∧ FOk W H1 G := fun v d G x g n =>
    ⟨x.stay (fun a o f q => ⟨f, by rw [e2 a (n a f)]; exact q⟩) tup, fun a f => by rw [e2 a (n a f)]; exact g a f⟩
  refine ⟨H1, ext1, ⟨r'.good, ext2, r.len, F, fun i d q => ?_, h2', fun m hm a f => e1 a ⟨m, hm, f⟩, h4⟩, ext2, fun v d G x g n => pin v d G x g fun a f ⟨m, _, f'⟩ => (h2 m).dom f' (n a f), fun j d hj q => ?_⟩
  · obtain ⟨v, a, b⟩ := h1 i d q
    exact ⟨v, a, b.ext r.good (h2 i) e⟩
  · obtain ⟨v, a, b⟩ := h1 j d q
    exact ⟨v, F j, a, pin v d (F j) (b.ext r.good (h2 j) e) (h2' j) fun a f ⟨m, hm, f'⟩ => h4 m hm j (fun z => hj (z ▸ hm)) a f' f⟩
/-- .. and back -/
theorem Rel.unbase {H1 : Hp} (r : Rel W H1 ms σ H ρ) (e : Ext W H0 H1) : Rel W H0 ms σ H ρ := by
  obtain ⟨F, h1, h2, h3, h4⟩ := r.at_
  exact ⟨r.good, e.trans r.ext, r.len, F, h1, h2, fun m hm a f => e.free (h3 m hm a f), h4⟩
/-- a slot is no longer changed in place -/
theorem Rel.fewer {ms' : List Nat} (r : Rel W H0 ms σ H ρ) (h : ∀ m ∈ ms', m ∈ ms) : Rel W H0 ms' σ H ρ := by
  obtain ⟨F, h1, h2, h3, h4⟩ := r.at_
  exact ⟨r.good, r.ext, r.len, F, h1, h2, fun m hm => h3 m (h m hm), fun m hm => h4 m (h m hm)⟩
end
end Sl
end S_Sl1
noncomputable section S_Sl2
set_option Elab.async false
set_option linter.all false
set_option maxRecDepth 100000
set_option maxHeartbeats 1000000
namespace Sl
open PySem PySem.Spec PyProof.Rows L2

/-! ### the readings -/
abbrev Ev := Rho → M D
abbrev EvB := Rho → M Bool
abbrev EvL := Rho → M (List D)
/-- what a value that has come must be -/
def Post (W : Wd) (H : Hp) (fr : Bool) (Q : VK) (d : D) : Prop :=
  ∀ v H' G, Ext W H H' → Is W H' G v d → FOk W H' G → (fr = true → ∀ a, G a → H a = none) → Q v H'
def PostL (W : Wd) (H : Hp) (fr : Bool) (Q : List V → Hp → Prop) (ds : List D) : Prop :=
  ∀ vs H' G, Ext W H H' → IsAll W H' G vs ds → FOk W H' G → (fr = true → ∀ a, G a → H a = none) → Q vs H'
def tOf (W : Wd) (ms : List Nat) (fr : Bool) (f : Ev) : TE := fun σ H Q => ∃ H0 ρ, Rel W H0 ms σ H ρ ∧ (f ρ).All (Post W H fr Q)
def ttOf (W : Wd) (ms : List Nat) (f : EvB) : TT := fun σ H Q => ∃ H0 ρ, Rel W H0 ms σ H ρ ∧ (f ρ).All fun b => ∀ H', Ext W H H' → Q b H'
def taOf (W : Wd) (ms : List Nat) (fr : Bool) (f : EvL) : TA := fun σ H Q => ∃ H0 ρ, Rel W H0 ms σ H ρ ∧ (f ρ).All (PostL W H fr Q)

theorem PE.conv {X : Cx} {e : Expr} {t t' : TE} (h : PE X e t) (c : ∀ σ H Q, t' σ H Q → t σ H Q) : PE X e t' := ⟨fun pins s σ H Q I q => h.run pins s σ H Q I (c σ H Q q)⟩
theorem PT.conv {X : Cx} {e : Expr} {t t' : TT} (h : PT X e t) (c : ∀ σ H Q, t' σ H Q → t σ H Q) : PT X e t' := ⟨fun pins s σ H Q I q => h.run pins s σ H Q I (c σ H Q q)⟩
theorem PW.conv {X : Cx} {e : Expr} {t t' : TT} (h : PW X e t) (c : ∀ σ H Q, t' σ H Q → t σ H Q) : PW X e t' := ⟨fun wh pins s σ H Q I q => h.run wh pins s σ H Q I (c σ H Q q)⟩
theorem PA.conv {X : Cx} {es : List Expr} {t t' : TA} (h : PA X es t) (c : ∀ σ H Q, t' σ H Q → t σ H Q) : PA X es t' := ⟨fun pos pins s σ H Q I q => h.run pos pins s σ H Q I (c σ H Q q)⟩
theorem PS.conv {X : Cx} {st : Stmt} {t t' : TS} (h : PS X st t) (c : ∀ D σ H, t' D σ H → t D σ H) : PS X st t' := ⟨fun pins s σ H D I q => h.run pins s σ H D I (c D σ H q)⟩
theorem PSs.conv {X : Cx} {st : List Stmt} {t t' : TS} (h : PSs X st t) (c : ∀ D σ H, t' D σ H → t D σ H) : PSs X st t' := ⟨fun pins s σ H D I q => h.run pins s σ H D I (c D σ H q)⟩

section
variable {W : Wd} {H0 H H' : Hp} {ms : List Nat} {σ : L2.St} {ρ : Rho} {fr : Bool}
theorem tOf.use {f : Ev} {P : D → Prop} {Q : VK} (r : Rel W H0 ms σ H ρ) (h : (f ρ).All P) (q : ∀ d, P d → Post W H fr Q d) : tOf W ms fr f σ H Q := ⟨H0, ρ, r, h.mono q⟩
theorem ttOf.use {f : EvB} {P : Bool → Prop} {Q : Bool → Hp → Prop} (r : Rel W H0 ms σ H ρ) (h : (f ρ).All P) (q : ∀ b, P b → ∀ H', Ext W H H' → Q b H') : ttOf W ms f σ H Q := ⟨H0, ρ, r, h.mono q⟩
theorem taOf.use {f : EvL} {P : List D → Prop} {Q : List V → Hp → Prop} (r : Rel W H0 ms σ H ρ) (h : (f ρ).All P) (q : ∀ d, P d → PostL W H fr Q d) : taOf W ms fr f σ H Q := ⟨H0, ρ, r, h.mono q⟩
/-- a scalar as it is -/
theorem Post.now {Q : VK} {d : D} {v : V} (p : Post W H fr Q d) (g : Good W H) (x : Is W H (fun _ => False) v d) : Q v H := p v H _ (Ext.refl g) x .nil fun _ _ h => h.elim
theorem Post.later {Q : VK} {d : D} (p : Post W H fr Q d) (e : Ext W H H') : Post W H' fr Q d := fun v H2 G e2 x g f => p v H2 G (e.trans e2) x g fun h a ha => e.free (f h a ha)
theorem PostL.later {Q : List V → Hp → Prop} {d : List D} (p : PostL W H fr Q d) (e : Ext W H H') : PostL W H' fr Q d := fun v H2 G e2 x g f => p v H2 G (e.trans e2) x g fun h a ha => e.free (f h a ha)
end

/-- what the context is to be -/
structure Fit (W : Wd) (X : Cx) : Prop where
  prog : X.prog = W.P
  w : X.w = W.w
  K : X.K = W.K
  calm : X.calm = true
  nd : X.N.Nodup
  un : X.A.units + 200 < cLine
theorem Fit.blk {W : Wd} {X : Cx} (h : Fit W X) {s : Shared} {H : Hp} {scope : Scope} {cenv : Env} {fp : List Addr} : Fit W (X.blk s H scope cenv fp) := ⟨h.prog, h.w, h.K, h.calm, h.nd, h.un⟩

/-! ### names, constants -/
def eVar (i : Nat) : Ev := fun ρ => match ρ[i]? with
  | some (some d) => .ret d
  | _ => .fail
def eC (d : D) : Ev := fun _ => .ret d
def chk (d : D) : M D := if imm d = true then .ret d else .fail
def eImm (f : Ev) : Ev := fun ρ => (f ρ).bind chk
section
variable {X : Cx} {W : Wd} {ms : List Nat} {fr fra frb : Bool} {e a b : Expr} {f fa fb : Ev} {pos : Pos}
theorem px_var {i : Nat} (h : PE X e (tVar i)) : PE X e (tOf W ms false (eVar i)) := by
  refine PE.conv h fun σ H Q ⟨H0, ρ, r, q⟩ => ?_
  unfold eVar at q
  split at q
  · rename_i d hd
    obtain ⟨v, G, hv, x, g⟩ := r.get hd
    exact ⟨v, hv, q v H G (Ext.refl r.good) x g fun h => nomatch h⟩
  · exact q.elim
theorem px_con {v : V} {d : D} (h : PE X e (tC v)) (x : ∀ H, Is W H (fun _ => False) v d) : PE X e (tOf W ms true (eC d)) :=
  PE.conv h fun σ H Q ⟨H0, ρ, r, q⟩ => Post.now q r.good (x H)
theorem px_int {i j} : PE X (.Constant (.int i) j pos) (tOf W ms true (eC (.int i))) := px_con pe_int fun _ => .int i
theorem px_bl {i j} : PE X (.Constant (.bool i) j pos) (tOf W ms true (eC (.bl i))) := px_con pe_bl fun _ => .bl i
theorem px_non {j} : PE X (.Constant .none j pos) (tOf W ms true (eC .non)) := px_con pe_non fun _ => .non
theorem px_glob {x : Str} {i : Int} (hg : Gl X x) (hm : ∃ t, X.mg x = some (.int i t)) (hd : (x == ("__debug__" : Str)) = false := by decide) : PE X (.Name x pos) (tOf W ms true (eC (.int i))) := by
  obtain ⟨t, hm⟩ := hm
  exact px_con (pe_glob hg hm (v := .int i) ⟨t, rfl⟩ hd) fun _ => .int i
theorem px_imm (h : PE X e (tOf W ms fr f)) : PE X e (tOf W ms true (eImm f)) := by
  refine PE.conv h fun σ H Q ⟨H0, ρ, r, q⟩ => ?_
  refine tOf.use r q.bind fun d p v H' G e x g _ => ?_
  unfold chk at p
  split at p
  · rename_i hi
    exact p v H' _ e (x.imm hi) .nil fun _ _ h => h.elim
  · exact p.elim
/-- what is new may be taken for anything -/
theorem px_any (h : PE X e (tOf W ms true f)) : PE X e (tOf W ms false f) :=
  PE.conv h fun σ H Q ⟨H0, ρ, r, q⟩ => tOf.use r q fun d p v H' G e x g _ => p v H' G e x g fun h => nomatch h

/-! ### two operands -/
def e2 (fa fb : Ev) (k : D → D → M D) : Ev := fun ρ => (fa ρ).bind fun a => (fb ρ).bind fun b => k a b
theorem tOp_conv {r : R2} {k : D → D → M D} {σ : L2.St} {H : Hp} {Q : VK}
    (hk : ∀ Hs H a b va vb Ga Gb Q, Ext W Hs H → Is W H Ga va a → FOk W H Ga → (fra = true → ∀ x, Ga x → Hs x = none) → Is W H Gb vb b → FOk W H Gb → (frb = true → ∀ x, Gb x → Hs x = none) →
      (k a b).All (fun d => ∀ v H' G, Ext W H H' → Is W H' G v d → FOk W H' G → (fr = true → ∀ x, G x → Hs x = none) → Q v H') → r va vb H Q)
    (h : tOf W ms fr (e2 fa fb k) σ H Q) : tOp r (tOf W ms fra fa) (tOf W ms frb fb) σ H Q := by
  obtain ⟨H0, ρ, re, q⟩ := h
  refine tOf.use re q.bind fun d p v H1 G e1 x g fx => ?_
  refine tOf.use (re.step e1) p.bind fun d2 p2 v2 H2 G2 e2 x2 g2 f2 => ?_
  refine hk H H2 d d2 v v2 G G2 Q (e1.trans e2) (x.ext e1.good g e2) (g.ext e2) fx x2 g2 (fun h y hy => e1.free (f2 h y hy)) (p2.mono fun d3 p3 v3 H3 G3 e3 x3 g3 f3 => ?_)
  exact p3 v3 H3 G3 ((e1.trans e2).trans e3) x3 g3 f3
/-- two ints -/
def onI2 (k : Int → Int → M D) (a b : D) : M D := match a, b with
  | .int i, .int j => k i j
  | _, _ => .fail
theorem onI2_All {k : Int → Int → M D} {a b : D} {P : D → Prop} (h : (onI2 k a b).All P) : ∃ i j, a = .int i ∧ b = .int j ∧ (k i j).All P := by
  unfold onI2 at h
  split at h
  · exact ⟨_, _, rfl, rfl, h⟩
  · exact h.elim
theorem Is.toInt {W : Wd} {H : Hp} {F : Addr → Prop} {v : V} {i : Int} (x : Is W H F v (.int i)) : v = .int i := by cases x; rfl
theorem Is.toBl {W : Wd} {H : Hp} {F : Addr → Prop} {v : V} {b : Bool} (x : Is W H F v (.bl b)) : v = .bl b := by cases x; rfl
theorem Is.toNon {W : Wd} {H : Hp} {F : Addr → Prop} {v : V} (x : Is W H F v .non) : v = .non := by cases x; rfl
/-- ints in, under a test C, an int out -/
def kI (C : Int → Int → Bool) (g : Int → Int → Int) : D → D → M D := onI2 fun i j => if C i j = true then .ret (.int (g i j)) else .fail
def kB (g : Int → Int → Bool) : D → D → M D := onI2 fun i j => .ret (.bl (g i j))
theorem rI_conv {C : Int → Int → Prop} {C' : Int → Int → Bool} {g : Int → Int → Int} (hC : ∀ i j, C' i j = true → C i j) {σ : L2.St} {H : Hp} {Q : VK} (h : tOf W ms true (e2 fa fb (kI C' g)) σ H Q) :
    tOp (rI C fun i j => .int (g i j)) (tOf W ms fra fa) (tOf W ms frb fb) σ H Q := by
  refine tOp_conv (fun Hs H a b va vb Ga Gb Q e x _ _ y _ _ q => ?_) h
  obtain ⟨i, j, rfl, rfl, q2⟩ := onI2_All q
  split at q2
  · rename_i hc
    exact ⟨i, j, x.toInt, y.toInt, hC i j hc, q2 _ H (fun _ => False) (Ext.refl e.good) (.int _) .nil fun _ _ h => h.elim⟩
  · exact q2.elim
theorem rI0_conv {g : Int → Int → Int} {σ : L2.St} {H : Hp} {Q : VK} (h : tOf W ms true (e2 fa fb (kI (fun _ _ => true) g)) σ H Q) :
    tOp (rI0 fun i j => .int (g i j)) (tOf W ms fra fa) (tOf W ms frb fb) σ H Q := by
  refine tOp_conv (fun Hs H a b va vb Ga Gb Q e x _ _ y _ _ q => ?_) h
  obtain ⟨i, j, rfl, rfl, q⟩ := onI2_All q
  exact ⟨i, j, x.toInt, y.toInt, q _ H (fun _ => False) (Ext.refl e.good) (.int _) .nil fun _ _ h => h.elim⟩
theorem rB0_conv {g : Int → Int → Bool} {σ : L2.St} {H : Hp} {Q : VK} (h : tOf W ms true (e2 fa fb (kB g)) σ H Q) :
    tOp (rI0 fun i j => .bl (g i j)) (tOf W ms fra fa) (tOf W ms frb fb) σ H Q := by
  refine tOp_conv (fun Hs H a b va vb Ga Gb Q e x _ _ y _ _ q => ?_) h
  obtain ⟨i, j, rfl, rfl, q⟩ := onI2_All q
  exact ⟨i, j, x.toInt, y.toInt, q _ H (fun _ => False) (Ext.refl e.good) (.bl _) .nil fun _ _ h => h.elim⟩
abbrev eSub (fa fb : Ev) : Ev := e2 fa fb (kI (fun _ _ => true) fun i j => i - j)
abbrev eMul (fa fb : Ev) : Ev := e2 fa fb (kI (fun i j => decide (-(2 ^ 64) < i ∧ i < 2 ^ 64)) fun i j => i * j)
abbrev eDiv (fa fb : Ev) : Ev := e2 fa fb (kI (fun i j => decide (0 < j ∧ j < 1073741824)) fun i j => i / j)
abbrev eMod (fa fb : Ev) : Ev := e2 fa fb (kI (fun i j => decide (0 < j)) fun i j => i % j)
variable (ha : PE X a (tOf W ms fra fa)) (hb : PE X b (tOf W ms frb fb))
include ha hb
theorem px_sub : PE X (.BinOp a .Sub b pos) (tOf W ms true (eSub fa fb)) := PE.conv (pe_op op_sub ha hb) fun _ _ _ => rI0_conv
theorem px_mul : PE X (.BinOp a .Mult b pos) (tOf W ms true (eMul fa fb)) := PE.conv (pe_op op_mul ha hb) fun _ _ _ => rI_conv fun i j h => .inl (of_decide_eq_true h)
theorem px_div : PE X (.BinOp a .FloorDiv b pos) (tOf W ms true (eDiv fa fb)) := PE.conv (pe_op op_fdiv ha hb) fun _ _ _ => rI_conv fun i j h => of_decide_eq_true h
theorem px_mod : PE X (.BinOp a .Mod b pos) (tOf W ms true (eMod fa fb)) := PE.conv (pe_op op_mod ha hb) fun _ _ _ => rI_conv fun i j h => of_decide_eq_true h
end

/-! ### a + b: ints, lists, tuples -/
def kAdd : D → D → M D
  | .int i, .int j => .ret (.int (i + j))
  | .lst as, .lst bs => if as.length + bs.length ≤ sizeLine then .ret (.lst (as ++ bs)) else .fail
  | .tup as, .tup bs => if as.length + bs.length ≤ sizeLine then .ret (.tup (as ++ bs)) else .fail
  | _, _ => .fail
abbrev eAdd (fa fb : Ev) : Ev := e2 fa fb kAdd
section
variable {X : Cx} {W : Wd} {ms : List Nat} {fr fra frb : Bool} {e a b : Expr} {f fa fb : Ev} {pos : Pos}
theorem IsAll.nil_iff {H : Hp} {F : Addr → Prop} {vs : List V} {ds : List D} (x : IsAll W H F vs ds) : vs = [] ↔ ds = [] := by
  cases x with
  | nil => simp
  | cons _ _ => simp
/-- a new list of what stands -/
theorem Is.newL {H : Hp} {F : Addr → Prop} {p : Addr} {vs : List V} {ds : List D} (g : Good W H) (f : FOk W H F) (x : IsAll W H F vs ds) (hp : H p = none) (hz : ds.length ≤ sizeLine) :
    Ext W H (upd H p (.lst vs)) ∧ Is W (upd H p (.lst vs)) (fun a => a = p ∨ F a) (.ref p) (.lst ds) ∧ FOk W (upd H p (.lst vs)) fun a => a = p ∨ F a := by
  have e := Ext.new (o := .lst vs) g hp
  have nv : ¬ W.vol p := fun v => by
    rcases v with v | ⟨d, ed, v | ⟨k, v⟩⟩
    · obtain ⟨ps, q, _⟩ := g.tab p v
      rw [hp] at q; cases q
    · obtain ⟨⟨_, _, _, q, _⟩, _⟩ := g.row d ed
      rw [← v, hp] at q; cases q
    · rcases (g.row d ed).2 with ⟨k', _⟩ | ⟨_, q | ⟨u, q⟩⟩
      · rw [k] at k'; cases k'
      · rw [← v, hp] at q; cases q
      · rw [← v, hp] at q; cases q
  exact ⟨e, .lst (.inl rfl) upd_same hz ((x.ext g f e).wide fun a h => ⟨.inr h, fun z => f.dom h (z ▸ hp)⟩), fun a h => h.elim (fun z => by subst z; exact ⟨⟨_, upd_same, trivial⟩, nv⟩) (f.ext e a)⟩
theorem Is.newT {H : Hp} {F : Addr → Prop} {p : Addr} {vs : List V} {ds : List D} (g : Good W H) (f : FOk W H F) (x : IsAll W H F vs ds) (hp : H p = none) (hz : ds.length ≤ sizeLine) :
    Ext W H (upd H p (.tup vs)) ∧ Is W (upd H p (.tup vs)) F (.ref p) (.tup ds) ∧ FOk W (upd H p (.tup vs)) F := by
  have e := Ext.new (o := .tup vs) g hp
  exact ⟨e, .tup upd_same hz (x.ext g f e), f.ext e⟩
theorem px_add (ha : PE X a (tOf W ms fra fa)) (hb : PE X b (tOf W ms frb fb)) (hK : X.K = W.K) (hfr : (fr = true → fra = true ∧ frb = true) ) : PE X (.BinOp a .Add b pos) (tOf W ms fr (eAdd fa fb)) := by
  refine PE.conv (pe_op (op_add.or (op_cat.or op_catA)) ha hb) fun σ H Q => ?_
  refine tOp_conv fun Hs H a b va vb Ga Gb Q e x gx fx y gy fy q => ?_
  have un : fr = true → ∀ z, (Ga z ∨ Gb z) → Hs z = none := fun h z hz => hz.elim (fx (hfr h).1 z) (fy (hfr h).2 z)
  unfold kAdd at q
  split at q
  · exact .inl ⟨_, _, x.toInt, y.toInt, q _ H (fun _ => False) (Ext.refl e.good) (.int _) .nil fun _ _ h => h.elim⟩
  · rename_i as bs
    split at q
    · rename_i hz
      cases x with
      | lst f1 h1 z1 x1 =>
        have x1 := IsAll.wide (fun _ h => h.1) x1
        cases y with
        | lst f2 h2 z2 y1 =>
          have y1 := IsAll.wide (fun _ h => h.1) y1
          refine .inr (.inl ⟨_, _, _, _, rfl, rfl, h1, h2, by rw [x1.length, y1.length]; exact hz, fun p hp => ?_⟩)
          obtain ⟨e1, i1, k1⟩ := Is.newL (F := fun z => Ga z ∨ Gb z) e.good (gx.or gy) ((x1.wide fun _ h => .inl h).append (y1.wide fun _ h => .inr h)) hp (by rw [List.length_append]; exact hz)
          refine q _ _ _ e1 i1 k1 fun h z hz => ?_
          rcases hz with rfl | hz
          · exact e.free hp
          · exact un h z hz
    · exact q.elim
  · rename_i as bs
    split at q
    · rename_i hz
      cases x with
      | tup h1 z1 x1 =>
        cases y with
        | tup h2 z2 y1 =>
          refine .inr (.inr ⟨_, _, _, _, rfl, rfl, .inl (.inl h1), .inl (.inl h2), by rw [x1.length, y1.length]; exact hz, fun n => ?_, fun _ n => ?_, fun _ _ p hp => ?_⟩)
          · have nb : as = [] := x1.nil_iff.mp n
            subst nb
            rw [List.nil_append] at q
            exact q _ H (fun z => Ga z ∨ Gb z) (Ext.refl e.good) (.tup h2 z2 (y1.wide fun _ h => .inr h)) (gx.or gy) un
          · have nb : bs = [] := y1.nil_iff.mp n
            subst nb
            rw [List.append_nil] at q
            exact q _ H (fun z => Ga z ∨ Gb z) (Ext.refl e.good) (.tup h1 z1 (x1.wide fun _ h => .inl h)) (gx.or gy) un
          · obtain ⟨e1, i1, k1⟩ := Is.newT (F := fun z => Ga z ∨ Gb z) e.good (gx.or gy) ((x1.wide fun _ h => .inl h).append (y1.wide fun _ h => .inr h)) hp (by rw [List.length_append]; exact hz)
            exact q _ _ _ e1 i1 k1 un
    · exact q.elim
  · exact q.elim
end
end Sl
end S_Sl2
noncomputable section S_Sl3
set_option Elab.async false
set_option linter.all false
set_option maxRecDepth 100000
set_option maxHeartbeats 1000000
namespace Sl
open PySem PySem.Spec PyProof.Rows L2

/-! ### comparisons -/
/-- the comparison op answers k on data -/
def CmpR (X : Cx) (W : Wd) (op : CmpOp) (k : D → D → Option Bool) : Prop := ∃ r : R2, OpR X (compareOp op) r ∧
  ∀ (H : Hp) (a b : D) (va vb : V) (Ga Gb : Addr → Prop) (Q : VK) (c : Bool), Good W H → Is W H Ga va a → FOk W H Ga → Is W H Gb vb b → FOk W H Gb → k a b = some c → Q (.bl c) H → r va vb H Q
def mO {α β : Type} (o : Option α) (f : α → M β) : M β := match o with
  | some a => f a
  | none => .fail
theorem mO_All {α β : Type} {o : Option α} {f : α → M β} {P : β → Prop} (h : (mO o f).All P) : ∃ a, o = some a ∧ (f a).All P := by
  cases o with
  | none => exact h.elim
  | some a => exact ⟨a, rfl, h⟩
def eCmp (k : D → D → Option Bool) (fa fb : Ev) : Ev := fun ρ => (fa ρ).bind fun a => (fb ρ).bind fun b => mO (k a b) fun c => .ret (.bl c)
def bCmp (k : D → D → Option Bool) (fa fb : Ev) : EvB := fun ρ => (fa ρ).bind fun a => (fb ρ).bind fun b => mO (k a b) fun c => .ret c
/-- a op b op' c -/
def eChain (k k' : D → D → Option Bool) (fa fb fc : Ev) : Ev := fun ρ => (fa ρ).bind fun a => (fb ρ).bind fun b => mO (k a b) fun x => if x = true then (fc ρ).bind fun c => mO (k' b c) fun y => .ret (.bl y) else .ret (.bl false)
section
variable {X : Cx} {W : Wd} {ms : List Nat} {fr fra frb frc : Bool} {e a b c : Expr} {f fa fb fc : Ev} {pos : Pos} {op op' : CmpOp} {k k' : D → D → Option Bool}
theorem px_cmp (hk : CmpR X W op k) (ha : PE X a (tOf W ms fra fa)) (hb : PE X b (tOf W ms frb fb)) (hm : behindInMarks op b = false := by first | exact nomark _ | with_unfolding_all rfl) :
    PE X (.Compare a [op] [b] pos) (tOf W ms true (eCmp k fa fb)) := by
  obtain ⟨r, ho, hr⟩ := hk
  refine PE.conv (pe_cmpR ho ha hb hm) fun σ H Q ⟨H0, ρ, re, q⟩ => ?_
  refine tOf.use re q.bind fun d p v H1 G e1 x g _ => ?_
  refine tOf.use (re.step e1) p.bind fun d2 p2 v2 H2 G2 e2 x2 g2 _ => ?_
  obtain ⟨z, hz, p3⟩ := mO_All p2
  exact hr H2 d d2 v v2 G G2 Q z e2.good (x.ext e1.good g e2) (g.ext e2) x2 g2 hz (p3 _ H2 (fun _ => False) (e1.trans e2) (.bl _) .nil fun _ _ h => h.elim)
theorem pt_cmp (hk : CmpR X W op k) (ha : PE X a (tOf W ms fra fa)) (hb : PE X b (tOf W ms frb fb)) (hm : behindInMarks op b = false := by first | exact nomark _ | with_unfolding_all rfl) :
    PT X (.Compare a [op] [b] pos) (ttOf W ms (bCmp k fa fb)) := by
  obtain ⟨r, ho, hr⟩ := hk
  refine PT.conv (pt_cmpR ho ha hb hm) fun σ H Q ⟨H0, ρ, re, q⟩ => ?_
  refine tOf.use re q.bind fun d p v H1 G e1 x g _ => ?_
  refine tOf.use (re.step e1) p.bind fun d2 p2 v2 H2 G2 e2 x2 g2 _ => ?_
  obtain ⟨z, hz, p3⟩ := mO_All p2
  exact hr H2 d d2 v v2 G G2 _ z e2.good (x.ext e1.good g e2) (g.ext e2) x2 g2 hz ⟨z, rfl, p3 H2 (e1.trans e2)⟩
theorem px_chain (hk : CmpR X W op k) (hk' : CmpR X W op' k') (ha : PE X a (tOf W ms fra fa)) (hb : PE X b (tOf W ms frb fb)) (hc : PE X c (tOf W ms frc fc))
    (hm : lastMarks [op, op'] [b, c] = false := by with_unfolding_all rfl) : PE X (.Compare a [op, op'] [b, c] pos) (tOf W ms true (eChain k k' fa fb fc)) := by
  obtain ⟨r, ho, hr⟩ := hk
  obtain ⟨r', ho', hr'⟩ := hk'
  refine PE.conv (pe_chain ho ho' ha hb hc hm) fun σ H Q ⟨H0, ρ, re, q⟩ => ?_
  refine tOf.use re q.bind fun d p v H1 G e1 x g _ => ?_
  refine tOf.use (re.step e1) p.bind fun d2 p2 v2 H2 G2 e2 x2 g2 _ => ?_
  obtain ⟨z, hz, p3⟩ := mO_All p2
  refine hr H2 d d2 v v2 G G2 _ z e2.good (x.ext e1.good g e2) (g.ext e2) x2 g2 hz ⟨z, rfl, ?_⟩
  cases z with
  | false => exact iteF (p3 _ H2 (fun _ => False) (e1.trans e2) (.bl _) .nil fun _ _ h => h.elim)
  | true =>
    refine iteT (tOf.use ((re.step e1).step e2) p3.bind fun d3 p4 v3 H3 G3 e3 x3 g3 _ => ?_)
    obtain ⟨y, hy, p5⟩ := mO_All p4
    exact hr' H3 d2 d3 v2 v3 G2 G3 Q y e3.good (x2.ext e2.good g2 e3) (g2.ext e3) x3 g3 hy (p5 _ H3 (fun _ => False) ((e1.trans e2).trans e3) (.bl _) .nil fun _ _ h => h.elim)
end
/-- ints alone -/
def oI2 (g : Int → Int → Bool) (a b : D) : Option Bool := match a, b with
  | .int i, .int j => some (g i j)
  | _, _ => none
theorem oI2_some {g : Int → Int → Bool} {a b : D} {c : Bool} (h : oI2 g a b = some c) : ∃ i j, a = .int i ∧ b = .int j ∧ g i j = c := by
  unfold oI2 at h
  split at h
  · exact ⟨_, _, rfl, rfl, Option.some.inj h⟩
  · cases h
section
variable {X : Cx} {W : Wd}
theorem cmp_int {op : CmpOp} {g : Int → Int → Bool} (ho : OpR X (compareOp op) (rI0 fun i j => .bl (g i j))) : CmpR X W op (oI2 g) := by
  refine ⟨_, ho, fun H a b va vb Ga Gb Q c g x _ y _ hk q => ?_⟩
  obtain ⟨i, j, rfl, rfl, rfl⟩ := oI2_some hk
  exact ⟨i, j, x.toInt, y.toInt, q⟩
abbrev kLe : D → D → Option Bool := oI2 fun i j => decide (i ≤ j)
abbrev kGt : D → D → Option Bool := oI2 fun i j => decide (j < i)
abbrev kGe : D → D → Option Bool := oI2 fun i j => decide (j ≤ i)
theorem cmp_le : CmpR X W .LtE kLe := cmp_int op_le
theorem cmp_gt : CmpR X W .Gt kGt := cmp_int op_gt
theorem cmp_ge : CmpR X W .GtE kGe := cmp_int op_ge
/-- the ints of a list -/
def intsOf : List D → Option (List Int)
  | [] => some []
  | .int i :: r => (intsOf r).map (i :: ·)
  | _ :: _ => none
theorem intsOf_some : ∀ {ds : List D} {ns : List Int}, intsOf ds = some ns → ds = ns.map D.int
  | [], _, h => by cases h; rfl
  | .int i :: r, ns, h => by
    unfold intsOf at h
    obtain ⟨ms, h1, rfl⟩ := Option.map_eq_some_iff.mp h
    rw [intsOf_some h1] <;> rfl
  | .non :: _, _, h => by simp [intsOf] at h
  | .bl _ :: _, _, h => by simp [intsOf] at h
  | .tup _ :: _, _, h => by simp [intsOf] at h
  | .lst _ :: _, _, h => by simp [intsOf] at h
  | .dct _ :: _, _, h => by simp [intsOf] at h
  | .row :: _, _, h => by simp [intsOf] at h
theorem IsAll.toInts {H : Hp} {F : Addr → Prop} : ∀ {ns : List Int} {vs : List V}, IsAll W H F vs (ns.map D.int) → vs = ns.map V.int
  | [], _, x => by cases x; rfl
  | n :: ns, _, x => by
    cases x with
    | cons a b => rw [a.toInt, IsAll.toInts b] <;> rfl
def kLt (a b : D) : Option Bool := match a, b with
  | .int i, .int j => some (decide (i < j))
  | .tup as, .tup bs => match intsOf as, intsOf bs with
    | some ns, some ms => some (HT.lexLt ns ms)
    | _, _ => none
  | _, _ => none
theorem cmp_lt (hx : Fit W X) : CmpR X W .Lt kLt := by
  refine ⟨_, op_lt.or (op_ltT (Nat.lt_of_le_of_lt (Nat.le_add_right _ _) hx.un)), fun H a b va vb Ga Gb Q c g x _ y _ hk q => ?_⟩
  unfold kLt at hk
  split at hk
  · cases hk
    exact .inl ⟨_, _, x.toInt, y.toInt, q⟩
  · split at hk
    · rename_i ns ms e1 e2
      cases hk
      rw [intsOf_some e1] at x
      rw [intsOf_some e2] at y
      cases x with
      | tup h1 z1 x1 =>
        cases y with
        | tup h2 z2 y1 =>
          rw [x1.toInts] at h1
          rw [y1.toInts] at h2
          exact .inr ⟨_, _, _, _, rfl, rfl, .inl (.inl h1), .inl (.inl h2), q⟩
    · cases hk
  · cases hk

/-! ### == on data -/
mutual
def toPy : D → PyData
  | .non => .none
  | .bl b => .bool b
  | .int i => .int i
  | .tup ds => .tuple (toPys ds)
  | .lst ds => .list (toPys ds)
  | .dct _ => .dict []
  | .row => .dict []
def toPys : List D → List PyData
  | [] => []
  | d :: ds => toPy d :: toPys ds
end
mutual
/-- data that == takes; n: the depth that is left -/
def eqable : Nat → D → Bool
  | _, .non => true
  | _, .bl _ => true
  | _, .int _ => true
  | 0, .tup _ => false
  | n + 1, .tup ds => eqables n ds
  | 0, .lst _ => false
  | n + 1, .lst ds => eqables n ds
  | _, .dct _ => false
  | _, .row => false
def eqables : Nat → List D → Bool
  | _, [] => true
  | n, d :: ds => eqable n d && eqables n ds
end
mutual
theorem Is.dp {H : Hp} {F : Addr → Prop} : ∀ (n : Nat) (d : D) {v : V}, Is W H F v d → eqable n d = true → Dp W.K H v (toPy d)
  | _, .non, _, x, _ => by cases x; exact .non
  | _, .bl b, _, x, _ => by cases x; exact .bl b
  | _, .int i, _, x, _ => by cases x; exact .int i
  | 0, .tup _, _, _, h => by simp [eqable] at h
  | n + 1, .tup ds, _, x, h => by
    cases x with
    | tup h1 z x1 => exact .tup (.inl (.inl h1)) (IsAll.dp n ds x1 (by simpa [eqable] using h))
  | 0, .lst _, _, _, h => by simp [eqable] at h
  | n + 1, .lst ds, _, x, h => by
    cases x with
    | lst f h1 z x1 => exact .lst (.inl (.inl h1)) (IsAll.dp n ds x1 (by simpa [eqable] using h))
  | _, .dct _, _, _, h => by simp [eqable] at h
  | _, .row, _, _, h => by simp [eqable] at h
theorem IsAll.dp {H : Hp} {F : Addr → Prop} : ∀ (n : Nat) (ds : List D) {vs : List V}, IsAll W H F vs ds → eqables n ds = true → DpAll W.K H vs (toPys ds)
  | _, [], _, x, _ => by cases x; exact .nil
  | n, d :: ds, _, x, h => by
    cases x with
    | cons a b =>
      have h' : (eqable n d && eqables n ds) = true := h
      rw [Bool.and_eq_true] at h'
      exact .cons (Is.dp n d a h'.1) (IsAll.dp n ds b h'.2)
end
mutual
theorem shaped_of : ∀ (n : Nat) (d : D), eqable n d = true → (toPy d).canLay0 = true ∧ (toPy d).depth ≤ n
  | _, .non, _ => ⟨by simp [toPy, PyData.canLay0], by simp [toPy, PyData.depth]⟩
  | _, .bl b, _ => ⟨by simp [toPy, PyData.canLay0], by simp [toPy, PyData.depth]⟩
  | _, .int i, _ => ⟨by simp [toPy, PyData.canLay0], by simp [toPy, PyData.depth]⟩
  | 0, .tup _, h => by simp [eqable] at h
  | n + 1, .tup ds, h => by
    obtain ⟨a, b⟩ := shapeds_of n ds (by simpa [eqable] using h)
    exact ⟨by simpa [toPy, PyData.canLay0] using a, by simp only [toPy, PyData.depth]; omega⟩
  | 0, .lst _, h => by simp [eqable] at h
  | n + 1, .lst ds, h => by
    obtain ⟨a, b⟩ := shapeds_of n ds (by simpa [eqable] using h)
    exact ⟨by simpa [toPy, PyData.canLay0] using a, by simp only [toPy, PyData.depth]; omega⟩
  | _, .dct _, h => by simp [eqable] at h
  | _, .row, h => by simp [eqable] at h
theorem shapeds_of : ∀ (n : Nat) (ds : List D), eqables n ds = true → PyData.canLayAll0 (toPys ds) = true ∧ PyData.depthAll (toPys ds) ≤ n
  | _, [], _ => ⟨by simp [toPys, PyData.canLayAll0], by simp [toPys, PyData.depthAll]⟩
  | n, d :: ds, h => by
    have h' : (eqable n d && eqables n ds) = true := h
    rw [Bool.and_eq_true] at h'
    obtain ⟨a1, b1⟩ := shaped_of n d h'.1
    obtain ⟨a2, b2⟩ := shapeds_of n ds h'.2
    exact ⟨by simp [toPys, PyData.canLayAll0, a1, a2], by simp only [toPys, PyData.depthAll]; omega⟩
end
theorem shape {n : Nat} {d : D} (h : eqable n d = true) (hn : n ≤ 64) : SeqAt.shaped (toPy d) = true := by
  obtain ⟨a, b⟩ := shaped_of n d h
  unfold SeqAt.shaped
  rw [a, decide_eq_true (Nat.le_trans b hn)]
  rfl
def kEq (a b : D) : Option Bool := if eqable 20 a && eqable 20 b then some (PyData.eqv (toPy a) (toPy b)) else none
def kNe (a b : D) : Option Bool := if eqable 20 a && eqable 20 b then some (!PyData.eqv (toPy a) (toPy b)) else none
theorem cmp_eq (hx : Fit W X) : CmpR X W .Eq kEq := by
  refine ⟨_, op_eqD (by have := hx.un; omega), fun H a b va vb Ga Gb Q c g x _ y _ hk q => ?_⟩
  unfold kEq at hk
  split at hk
  · rename_i hh
    rw [Bool.and_eq_true] at hh
    cases hk
    rw [hx.K]
    exact ⟨_, _, x.dp _ _ hh.1, y.dp _ _ hh.2, shape hh.1 (by decide), shape hh.2 (by decide), q⟩
  · cases hk
theorem cmp_ne (hx : Fit W X) : CmpR X W .NotEq kNe := by
  refine ⟨_, op_neD (by have := hx.un; omega), fun H a b va vb Ga Gb Q c g x _ y _ hk q => ?_⟩
  unfold kNe at hk
  split at hk
  · rename_i hh
    rw [Bool.and_eq_true] at hh
    cases hk
    rw [hx.K]
    exact ⟨_, _, x.dp _ _ hh.1, y.dp _ _ hh.2, shape hh.1 (by decide), shape hh.2 (by decide), q⟩
  · cases hk
/-- is None, is True -/
def kIs (a b : D) : Option Bool := match a, b with
  | .non, .non => some true
  | _, .non => some false
  | .bl x, .bl y => some (decide (x = y))
  | _, _ => none
def kIsNot (a b : D) : Option Bool := (kIs a b).map (!·)
theorem isNon {H : Hp} {F : Addr → Prop} {v : V} {d : D} (x : Is W H F v d) : decide (v = .non) = match d with | .non => true | _ => false := by
  cases x <;> simp
theorem cmp_is : CmpR X W .Is kIs := by
  refine ⟨_, op_isN.or op_isBl, fun H a b va vb Ga Gb Q c g x _ y _ hk q => ?_⟩
  unfold kIs at hk
  split at hk
  · cases hk
    exact .inl ⟨y.toNon, by rw [isNon x]; exact q⟩
  · rename_i d hd
    cases hk
    refine .inl ⟨y.toNon, ?_⟩
    rw [isNon x]
    cases a with
    | non => exact absurd rfl hd
    | _ => exact q
  · cases hk
    exact .inr ⟨_, _, x.toBl, y.toBl, q⟩
  · cases hk
theorem cmp_isnot : CmpR X W .IsNot kIsNot := by
  refine ⟨_, op_notN.or op_notBl, fun H a b va vb Ga Gb Q c g x _ y _ hk q => ?_⟩
  unfold kIsNot kIs at hk
  split at hk
  · cases hk
    exact .inl ⟨y.toNon, by rw [isNon x]; exact q⟩
  · rename_i d hd
    cases hk
    refine .inl ⟨y.toNon, ?_⟩
    rw [isNon x]
    cases a with
    | non => exact absurd rfl hd
    | _ => exact q
  · cases hk
    exact .inr ⟨_, _, x.toBl, y.toBl, q⟩
  · cases hk
end

/-! ### tests -/
/-- truth -/
def tru : D → M Bool
  | .non => .ret false
  | .bl b => .ret b
  | .int i => .ret (i != 0)
  | .lst ds => .ret (!ds.isEmpty)
  | .tup ds => .ret (!ds.isEmpty)
  | _ => .fail
def bTru (f : Ev) : EvB := fun ρ => (f ρ).bind tru
def bAnd (f g : EvB) : EvB := fun ρ => (f ρ).bind fun b => if b = true then g ρ else .ret false
def bOr (f g : EvB) : EvB := fun ρ => (f ρ).bind fun b => if b = true then .ret true else g ρ
def bNot (f : EvB) : EvB := fun ρ => (f ρ).bind fun b => .ret (!b)
def eIf (c : EvB) (fa fb : Ev) : Ev := fun ρ => (c ρ).bind fun b => if b = true then fa ρ else fb ρ
def onBl {α : Type} (k : Bool → M α) : D → M α
  | .bl b => k b
  | _ => .fail
theorem onBl_All {α : Type} {k : Bool → M α} {d : D} {P : α → Prop} (h : (onBl k d).All P) : ∃ b, d = .bl b ∧ (k b).All P := by
  cases d with
  | bl b => exact ⟨b, rfl, h⟩
  | _ => exact h.elim
def eAnd (fa fb : Ev) : Ev := fun ρ => (fa ρ).bind (onBl fun b => if b = true then fb ρ else .ret (.bl false))
def eOr (fa fb : Ev) : Ev := fun ρ => (fa ρ).bind (onBl fun b => if b = true then .ret (.bl true) else fb ρ)
def eNot (fa : Ev) : Ev := fun ρ => (fa ρ).bind (onBl fun b => .ret (.bl (!b)))
section
variable {X : Cx} {W : Wd} {ms : List Nat} {fr fra frb frc : Bool} {e a b c : Expr} {rest : List Expr} {f fa fb fc : Ev} {ga gb : EvB} {pos : Pos}
theorem isEmptyV {H : Hp} {F : Addr → Prop} {vs : List V} {ds : List D} (x : IsAll W H F vs ds) : vs.isEmpty = ds.isEmpty := by cases x <;> rfl
theorem pt_tru (hK : X.K = W.K) (h : PE X e (tOf W ms fr f)) (he : ∀ whole, isTrue e X.env whole = (do let v ← whole; standAt e.pos; holding [v] (truthy v)) := by intro _; rfl) : PT X e (ttOf W ms (bTru f)) := by
  refine PT.conv (pt_truth h he) fun σ H Q ⟨H0, ρ, re, q⟩ => ?_
  refine tOf.use re q.bind fun d p v H1 G e1 x g _ => ?_
  cases x with
  | non => exact ⟨false, rfl, p H1 e1⟩
  | bl b => exact ⟨b, rfl, p H1 e1⟩
  | int i => exact ⟨i != 0, rfl, p H1 e1⟩
  | tup h1 z x1 => exact ⟨_, .inr (.inl ⟨_, .inl (.inl h1), rfl⟩), by rw [isEmptyV x1]; exact p H1 e1⟩
  | lst f1 h1 z x1 => have x1 := IsAll.wide (fun _ h => h.1) x1; exact ⟨_, .inl ⟨_, .inl (.inl h1), rfl⟩, by rw [isEmptyV x1]; exact p H1 e1⟩
  | dct _ _ _ _ => exact p.elim
  | row _ => exact p.elim
theorem ptw_and1 (h : PT X a (ttOf W ms ga)) : PW X (.BoolOp .And [a] pos) (ttOf W ms ga) := pw_and1 h
theorem ptw_or1 (h : PT X a (ttOf W ms ga)) : PW X (.BoolOp .Or [a] pos) (ttOf W ms ga) := pw_or1 h
theorem ptw_and (ha : PT X a (ttOf W ms ga)) (hb : PW X (.BoolOp .And (b :: rest) pos) (ttOf W ms gb)) : PW X (.BoolOp .And (a :: b :: rest) pos) (ttOf W ms (bAnd ga gb)) := by
  refine PW.conv (pw_and ha hb) fun σ H Q ⟨H0, ρ, re, q⟩ => ?_
  refine ttOf.use re q.bind fun d p H1 e1 => ?_
  cases d with
  | true => exact iteT (ttOf.use (re.step e1) p fun b p H2 e2 => p H2 (e1.trans e2))
  | false => exact iteF (p H1 e1)
theorem ptw_or (ha : PT X a (ttOf W ms ga)) (hb : PW X (.BoolOp .Or (b :: rest) pos) (ttOf W ms gb)) : PW X (.BoolOp .Or (a :: b :: rest) pos) (ttOf W ms (bOr ga gb)) := by
  refine PW.conv (pw_or ha hb) fun σ H Q ⟨H0, ρ, re, q⟩ => ?_
  refine ttOf.use re q.bind fun d p H1 e1 => ?_
  cases d with
  | true => exact iteT (p H1 e1)
  | false => exact iteF (ttOf.use (re.step e1) p fun b p H2 e2 => p H2 (e1.trans e2))
theorem ptt_not (ha : PT X a (ttOf W ms ga)) : PT X (.UnaryOp .Not a pos) (ttOf W ms (bNot ga)) := by
  refine PT.conv (L2.pt_not ha) fun σ H Q ⟨H0, ρ, re, q⟩ => ?_
  exact ttOf.use re q.bind fun d p H1 e1 => p H1 e1
theorem px_if (hc : PT X c (ttOf W ms ga)) (ha : PE X a (tOf W ms fr fa)) (hb : PE X b (tOf W ms fr fb)) : PE X (.IfExp c a b pos) (tOf W ms fr (eIf ga fa fb)) := by
  refine PE.conv (pe_ifExp hc ha hb) fun σ H Q ⟨H0, ρ, re, q⟩ => ?_
  refine ttOf.use re q.bind fun d p H1 e1 => ?_
  cases d with
  | true => exact iteT (tOf.use (re.step e1) p fun d p => Post.later p e1)
  | false => exact iteF (tOf.use (re.step e1) p fun d p => Post.later p e1)
theorem px_one {op} (h : PE X a (tOf W ms fr fa)) : PE X (.BoolOp op [a] pos) (tOf W ms fr fa) := pe_one h
theorem px_and (ha : PE X a (tOf W ms fra fa)) (hb : PE X (.BoolOp .And (b :: rest) pos) (tOf W ms fr fb)) : PE X (.BoolOp .And (a :: b :: rest) pos) (tOf W ms fr (eAnd fa fb)) := by
  refine PE.conv (pe_and ha hb) fun σ H Q ⟨H0, ρ, re, q⟩ => ?_
  refine tOf.use re q.bind fun d p v H1 G e1 x g _ => ?_
  obtain ⟨b, rfl, p⟩ := onBl_All p
  refine ⟨b, x.toBl, ?_⟩
  cases b with
  | true => exact iteT (tOf.use (re.step e1) p fun d p => Post.later p e1)
  | false => exact iteF (p _ H1 (fun _ => False) e1 (.bl _) .nil fun _ _ h => h.elim)
theorem px_or (ha : PE X a (tOf W ms fra fa)) (hb : PE X (.BoolOp .Or (b :: rest) pos) (tOf W ms fr fb)) : PE X (.BoolOp .Or (a :: b :: rest) pos) (tOf W ms fr (eOr fa fb)) := by
  refine PE.conv (pe_or ha hb) fun σ H Q ⟨H0, ρ, re, q⟩ => ?_
  refine tOf.use re q.bind fun d p v H1 G e1 x g _ => ?_
  obtain ⟨b, rfl, p⟩ := onBl_All p
  refine ⟨b, x.toBl, ?_⟩
  cases b with
  | false => exact iteF (tOf.use (re.step e1) p fun d p => Post.later p e1)
  | true => exact iteT (p _ H1 (fun _ => False) e1 (.bl _) .nil fun _ _ h => h.elim)
theorem px_not (ha : PE X a (tOf W ms fra fa)) : PE X (.UnaryOp .Not a pos) (tOf W ms true (eNot fa)) := by
  refine PE.conv (pe_not ha) fun σ H Q ⟨H0, ρ, re, q⟩ => ?_
  refine tOf.use re q.bind fun d p v H1 G e1 x g _ => ?_
  obtain ⟨b, rfl, p⟩ := onBl_All p
  exact ⟨b, x.toBl, p _ H1 (fun _ => False) e1 (.bl _) .nil fun _ _ h => h.elim⟩

/-! ### lists of arguments, displays -/
def lNil : EvL := fun _ => .ret []
def lCons (f : Ev) (g : EvL) : EvL := fun ρ => (f ρ).bind fun d => (g ρ).bind fun ds => .ret (d :: ds)
/-- *e -/
def itemsOf : D → Option (List D)
  | .tup xs => some xs
  | .lst xs => some xs
  | _ => none
def lStar (f : Ev) (g : EvL) : EvL := fun ρ => (f ρ).bind fun d => mO (itemsOf d) fun xs => (g ρ).bind fun ds => .ret (xs ++ ds)
theorem pa_nilD : PA X [] (taOf W ms fr lNil) := PA.conv pa_nil fun σ H Q ⟨H0, ρ, re, q⟩ => q [] H (fun _ => False) (Ext.refl re.good) .nil .nil fun _ _ h => h.elim
theorem pa_consD {es : List Expr} {g : EvL} (ha : PE X a (tOf W ms fr fa)) (hr : PA X es (taOf W ms fr g)) (hs : starEach (a :: es) X.env = (false, eval a X.env) :: starEach es X.env := by rfl) :
    PA X (a :: es) (taOf W ms fr (lCons fa g)) := by
  refine PA.conv (pa_cons ha hr hs) fun σ H Q ⟨H0, ρ, re, q⟩ => ?_
  refine tOf.use re q.bind fun d p v H1 G e1 x gx fx => ?_
  refine taOf.use (re.step e1) p.bind fun ds p2 vs H2 G2 e2 xs g2 f2 => ?_
  refine p2 (v :: vs) H2 (fun z => G z ∨ G2 z) (e1.trans e2) (.cons ((x.ext e1.good gx e2).wide fun _ h => .inl h) (xs.wide fun _ h => .inr h)) ((gx.ext e2).or g2) fun h z hz => ?_
  exact hz.elim (fx h z) fun hz => e1.free (f2 h z hz)
def eTup (g : EvL) : Ev := fun ρ => (g ρ).bind fun ds => if ds.length ≤ sizeLine then .ret (.tup ds) else .fail
def eLst (g : EvL) : Ev := fun ρ => (g ρ).bind fun ds => if ds.length ≤ sizeLine then .ret (.lst ds) else .fail
theorem px_tup {es : List Expr} {g : EvL} {x1} (h : PA X es (taOf W ms fr g)) : PE X (.Tuple es x1 pos) (tOf W ms fr (eTup g)) := by
  refine PE.conv (pe_tup h) fun σ H Q ⟨H0, ρ, re, q⟩ => ?_
  refine taOf.use re q.bind fun ds p vs H1 G e1 xs g fx => ?_
  split at p
  · rename_i hz
    refine ⟨by rw [xs.length]; exact hz, fun q hq => ?_⟩
    obtain ⟨e2, i2, k2⟩ := Is.newT e1.good g xs hq hz
    exact p _ _ _ (e1.trans e2) i2 k2 fx
  · exact p.elim
theorem px_lst {es : List Expr} {g : EvL} (h : PA X es (taOf W ms fr g)) : PE X (.List es pos) (tOf W ms fr (eLst g)) := by
  refine PE.conv (pe_lst h) fun σ H Q ⟨H0, ρ, re, q⟩ => ?_
  refine taOf.use re q.bind fun ds p vs H1 G e1 xs g fx => ?_
  split at p
  · rename_i hz
    refine ⟨by rw [xs.length]; exact hz, fun q hq => ?_⟩
    obtain ⟨e2, i2, k2⟩ := Is.newL e1.good g xs hq hz
    refine p _ _ _ (e1.trans e2) i2 k2 fun h z hz => ?_
    rcases hz with rfl | hz
    · exact e1.free hq
    · exact fx h z hz
  · exact p.elim
end
end Sl
end S_Sl3
noncomputable section S_Sl4
set_option Elab.async false
set_option linter.all false
set_option maxRecDepth 100000
set_option maxHeartbeats 1000000
namespace Sl
open PySem PySem.Spec PyProof.Rows L2

/-! ### indexes -/
def onIx (k : List D → Int → M D) (a b : D) : M D := match a, b with
  | .tup ds, .int i => k ds i
  | .lst ds, .int i => k ds i
  | _, _ => .fail
def kIxS (a b : D) : M D := match a, b with
  | .tup ds, .int i => mO (atI ds i) .ret
  | .lst ds, .int i => mO (atI ds i) .ret
  | _, _ => .fail
theorem IsAll.atI {W : Wd} {H : Hp} {F : Addr → Prop} {vs : List V} {ds : List D} {i : Int} {d : D} (x : IsAll W H F vs ds) (h : atI ds i = some d) : ∃ v, L2.atI vs i = some v ∧ Is W H F v d := by
  unfold L2.atI at h ⊢
  rw [x.length]
  obtain ⟨j, h1, h2⟩ := Option.bind_eq_some_iff.mp h
  obtain ⟨v, h3, h4⟩ := x.get h2
  exact ⟨v, by rw [h1]; exact h3, h4⟩
section
variable {X : Cx} {W : Wd} {ms : List Nat} {fr fra frb frc : Bool} {e a b c : Expr} {rest es : List Expr} {f fa fb fc : Ev} {g : EvL} {pos p2 : Pos} {lo hi : Option Expr}
abbrev eIxS (fa fb : Ev) : Ev := e2 fa fb kIxS
/-- a[i], a list or a tuple -/
theorem px_ixS (hK : X.K = W.K) (ha : PE X a (tOf W ms fra fa)) (hb : PE X b (tOf W ms frb fb)) (hs : PlainIx b := by exact fun _ _ => rfl) : PE X (.Subscript a b pos) (tOf W ms fra (eIxS fa fb)) := by
  refine PE.conv (pe_ix (ix_list.or ix_tup) ha hb hs) fun σ H Q => tOp_conv fun Hs H a b va vb Ga Gb Q e x gx fx y gy fy q => ?_
  unfold kIxS at q
  split at q
  · obtain ⟨d, hd, p⟩ := mO_All q
    cases x with
    | tup h1 z x1 =>
      obtain ⟨v, hv, i1⟩ := x1.atI hd
      exact .inr ⟨_, _, _, v, rfl, y.toInt, .inl (.inl h1), hv, p v H Ga (Ext.refl e.good) i1 gx fx⟩
  · obtain ⟨d, hd, p⟩ := mO_All q
    cases x with
    | lst f1 h1 z x1 =>
      have x1 := IsAll.wide (fun _ h => h.1) x1
      obtain ⟨v, hv, i1⟩ := x1.atI hd
      exact .inl ⟨_, _, _, v, rfl, y.toInt, .inl (.inl h1), hv, p v H Ga (Ext.refl e.good) i1 gx fx⟩
  · exact q.elim

/-! ### slices -/
abbrev EvO := Rho → M (Option Int)
def toOf (W : Wd) (ms : List Nat) (f : EvO) : TO := fun σ H Q => ∃ H0 ρ, Rel W H0 ms σ H ρ ∧ (f ρ).All fun o => ∀ H', Ext W H H' → Q o H'
def oNone : EvO := fun _ => .ret none
def oSome (f : Ev) : EvO := fun ρ => (f ρ).bind fun d => match d with
  | .int i => .ret (some i)
  | _ => .fail
theorem PO.conv {o : Option Expr} {t t' : TO} (h : PO X o t) (c : ∀ σ H Q, t' σ H Q → t σ H Q) : PO X o t' := ⟨fun pins s σ H Q I q => h.run pins s σ H Q I (c σ H Q q)⟩
theorem po_noneD : PO X none (toOf W ms oNone) := PO.conv po_none fun σ H Q ⟨H0, ρ, re, q⟩ => q H (Ext.refl re.good)
theorem po_someD (h : PE X a (tOf W ms fra fa)) : PO X (some a) (toOf W ms (oSome fa)) := by
  refine PO.conv (po_some h) fun σ H Q ⟨H0, ρ, re, q⟩ => ?_
  refine tOf.use re q.bind fun d p v H1 G e1 x gx fx => ?_
  cases d with
  | int i => exact ⟨i, x.toInt, p H1 e1⟩
  | _ => exact p.elim
def cutD (ds : List D) (lo hi : Option Int) : List D := (ds.drop (HT.sIx ds.length 0 lo)).take (HT.sIx ds.length ds.length hi - HT.sIx ds.length 0 lo)
theorem cutD_len (ds : List D) (lo hi : Option Int) : (cutD ds lo hi).length ≤ ds.length := by
  unfold cutD
  rw [List.length_take, List.length_drop]
  omega
theorem IsAll.cut {H : Hp} {F : Addr → Prop} {vs : List V} {ds : List D} {lo hi : Option Int} (x : IsAll W H F vs ds) : IsAll W H F (cutV vs lo hi) (cutD ds lo hi) := by
  unfold cutV cutD
  rw [x.length]
  exact (x.drop _).take _
theorem cut_whole {α : Type} (ds : List α) {lo hi : Option Int} (h : HT.sIx ds.length 0 lo = 0 ∧ HT.sIx ds.length ds.length hi = ds.length) : (ds.drop (HT.sIx ds.length 0 lo)).take (HT.sIx ds.length ds.length hi - HT.sIx ds.length 0 lo) = ds := by
  rw [h.1, h.2]
  simp
def kCut (lo hi : Option Int) : D → M D
  | .tup ds => .ret (.tup (cutD ds lo hi))
  | .lst ds => .ret (.lst (cutD ds lo hi))
  | _ => .fail
def eCut (f : Ev) (l h : EvO) : Ev := fun ρ => (f ρ).bind fun a => (l ρ).bind fun lo => (h ρ).bind fun hi => kCut lo hi a
theorem px_cut (hl : PO X lo (toOf W ms l)) (hh : PO X hi (toOf W ms h)) (hK : X.K = W.K) (he : PE X e (tOf W ms fr f)) : PE X (.Subscript e (.Slice lo hi none p2) pos) (tOf W ms fr (eCut f l h)) := by
  refine PE.conv (pe_slice (sl_list.or sl_tupA) he hl hh) fun σ H Q ⟨H0, ρ, re, q⟩ => ?_
  refine tOf.use re q.bind fun d p v H1 G e1 x gx fx => ?_
  refine ⟨H0, ρ, re.step e1, p.bind.mono fun o1 p1 H2 e2 => ?_⟩
  refine ⟨H0, ρ, (re.step e1).step e2, p1.bind.mono fun o2 p3 H3 e3 => ?_⟩
  have x' := (x.ext e1.good gx e2).ext e2.good (gx.ext e2) e3
  have gx' := (gx.ext e2).ext e3
  have e13 := (e1.trans e2).trans e3
  unfold kCut at p3
  split at p3
  · rename_i ds
    cases x' with
    | @tup _ a xs _ h1 z x1 =>
      refine .inr ⟨a, xs, rfl, .inl (.inl h1), fun hw => ?_, fun hw p hp => ?_⟩
      · have hw' : cutD ds o1 o2 = ds := by rw [x1.length] at hw; exact cut_whole ds hw
        rw [hw'] at p3
        exact p3 _ H3 G e13 (.tup h1 z x1) gx' fx
      · obtain ⟨e4, i4, k4⟩ := Is.newT e3.good gx' (x1.cut (lo := o1) (hi := o2)) hp (Nat.le_trans (cutD_len _ _ _) z)
        exact p3 _ _ G (e13.trans e4) i4 k4 fx
  · rename_i ds
    cases x' with
    | @lst _ a xs _ f1 h1 z x1 =>
      have x1 := IsAll.wide (fun _ h => h.1) x1
      refine .inl ⟨a, xs, rfl, .inl (.inl h1), fun p hp => ?_⟩
      obtain ⟨e4, i4, k4⟩ := Is.newL e3.good gx' (x1.cut (lo := o1) (hi := o2)) hp (Nat.le_trans (cutD_len _ _ _) z)
      refine p3 _ _ _ (e13.trans e4) i4 k4 fun h z hz => ?_
      rcases hz with rfl | hz
      · exact e13.free hp
      · exact fx h z hz
  · exact p3.elim
end

/-! ### x[::-1] -/
theorem places_rev (n : Nat) : Builtin.Slice.slicePlaces ((n : Int) - 1) (-1) (-1) = n := by
  unfold Builtin.Slice.slicePlaces
  rw [if_neg (by decide)]
  by_cases h : (n : Int) - 1 > -1
  · rw [if_pos h]
    have : (n : Int) - 1 - -1 - 1 = (n : Int) - 1 := by omega
    rw [this, show (- -1 : Int) = 1 from rfl, Int.ediv_one]
    omega
  · rw [if_neg h]
    omega
theorem pick_rev (xs : List Value) : (List.range xs.length).filterMap (fun (k : Nat) => xs.toArray[(((xs.length : Int) - 1) + (k : Int) * (-1)).toNat]?) = xs.reverse := by
  have e : ∀ (n : Nat), n ≤ xs.length → (List.range n).filterMap (fun (k : Nat) => xs.toArray[(((xs.length : Int) - 1) + (k : Int) * (-1)).toNat]?) = (xs.drop (xs.length - n)).reverse := by
    intro n
    induction n with
    | zero => intro _; simp
    | succ n ih =>
      intro hn
      rw [List.range_succ, List.filterMap_append, ih (by omega)]
      have hi : (((xs.length : Int) - 1) + (n : Int) * (-1)).toNat = xs.length - (n + 1) := by omega
      have hl : xs.length - (n + 1) < xs.length := by omega
      have h1 : xs.toArray[xs.length - (n + 1)]? = some xs[xs.length - (n + 1)] := by simp [hl]
      have h2 : xs.drop (xs.length - (n + 1)) = xs[xs.length - (n + 1)] :: xs.drop (xs.length - n) := by
        rw [List.drop_eq_getElem_cons hl]
        congr 2
        omega
      rw [h2, List.reverse_cons]
      congr 1
      show List.filterMap _ [n] = _
      rw [List.filterMap_cons, hi, h1]
      rfl
  have := e xs.length (Nat.le_refl _)
  rw [Nat.sub_self, List.drop_zero] at this
  exact this
theorem applied_rev {prog : Program} {w : World} {A : Around} {E : Value → Shared → Prop} {s : Shared} {sl : Addr} {vl vu vs : Value} {n : Nat} {Q : Int × Int × Nat → Shared → Prop} (hs : s.heap.IsSliceOf sl vl vu vs) (pl : IsPart vl none) (pu : IsPart vu none) (ps : IsPart vs (some (-1)))
    (h : Q ((n : Int) - 1, -1, n) s) : wpAny (model prog w) A (Builtin.Slice.sliceApplied (.ref sl) (pure (n : Int))) Q E s := by
  obtain ⟨os, hos, _, hds⟩ := id hs
  unfold Builtin.Slice.sliceApplied Builtin.Slice.sliceFields
  refine wpAny_bind (wpAny_bind (wpAny_field hos hds (x := vl) rfl (wpAny_bind (wpAny_field hos hds (x := vu) rfl (wpAny_bind (wpAny_field hos hds (x := vs) rfl (wpAny_pure ?_)))))))
  refine wpAny_bind (HT.slicePart_ ps ?_)
  show wpAny _ _ (if ((-1 : Int) == 0) = true then _ else _) _ _ s
  rw [if_neg (by decide)]
  refine wpAny_bind (HT.slicePart_ pl (wpAny_bind (HT.slicePart_ pu (wpAny_bind (wpAny_pure ?_)))))
  show wpAny _ _ (pure ((n : Int) - 1, (-1 : Int), Builtin.Slice.slicePlaces ((n : Int) - 1) (-1) (-1))) _ _ s
  rw [places_rev]
  exact wpAny_pure h
theorem getItem_tupRev {prog : Program} {w : World} {A : Around} {E : Value → Shared → Prop} {s : Shared} {t sl : Addr} {xs : List Value} {vl vu vs : Value} {Q : Value → Shared → Prop} (ht : IsTup s.heap t xs.toArray) (hs : s.heap.IsSliceOf sl vl vu vs) (pl : IsPart vl none) (pu : IsPart vu none) (ps : IsPart vs (some (-1)))
    (h : Q (.ref s.heap.objs.size) { s with heap := s.heap.push { cls := .type "tuple", data := .seq xs.reverse.toArray } })
    (hsz : xs.length ≤ sizeLine) : wpAny (model prog w) A (getItem (.ref t) (.ref sl)) Q E s := by
  obtain ⟨os, hos, hcs, _⟩ := id hs
  have hTs : s.TypeIs (.ref sl) "slice" := ⟨os, hos, hcs⟩
  have hfit : sizeOk (.seq xs.reverse.toArray) := by
    show xs.reverse.toArray.size ≤ sizeLine
    rw [List.size_toArray, List.length_reverse]
    exact hsz
  unfold getItem
  try with_reducible refine wpAny_holding ?_
  first | refine wpAny_bind (wpAny_pure ?_) | skip
  refine wpAny_bind (wpAny_sequenceKey ht.typeIs (by decide) ?_)
  refine wpAny_bind (wpAny_callSpecial?_slot (name := Str.ofString "__getitem__") ht.typeIs PyProof.Rows.slot_tuple_getitem (wpAny_call_entry PyProof.Rows.slot_tuple_getitem ht.typeIs entry_tuple_getitem ?_ (args_tuple_getitem _ _)))
  show wpAny _ _ (Builtin.Tuple.tupleItemsOf (.ref t) >>= _) _ _ s
  refine wpAny_bind (tupleItemsOf_ ht ?_)
  refine wpAny_bind (wpAny_typeOf hTs ?_)
  rw [if_pos (by decide)]
  have e1 : ((xs.toArray.size : Nat) : Int) = ((xs.length : Nat) : Int) := by rw [List.size_toArray]
  rw [e1]
  refine wpAny_bind (applied_rev hs pl pu ps ?_)
  have hno : ¬ ((((xs.length : Int) - 1) == 0 && (-1 : Int) == 1 && xs.length == xs.toArray.size) = true) := by
    intro q
    rw [Bool.and_eq_true, Bool.and_eq_true] at q
    exact absurd q.1.2 (by decide)
  show wpAny _ _ (if (((xs.length : Int) - 1) == 0 && (-1 : Int) == 1 && xs.length == xs.toArray.size) = true then _ else _) _ _ s
  rw [if_neg hno, pick_rev]
  first
    | exact wpAny_bind (m := Builtin.Tuple.tupleExact _) (wpAny_newObj_type (wpAny_pure ⟨_, rfl, wpAny_pure h⟩) hfit)
    | exact wpAny_bind (m := Builtin.Tuple.tupleExact _) (wpAny_newObj_type (wpAny_bind (wpAny_pure (wpAny_pure ⟨_, rfl, wpAny_pure h⟩))) hfit)
    | exact wpAny_bind (wpAny_bind (m := Builtin.Tuple.tupleExact _) (wpAny_newObj_type (wpAny_pure (wpAny_pure ⟨_, rfl, wpAny_pure h⟩)) hfit))
section
variable {X : Cx} {W : Wd} {ms : List Nat} {fr : Bool} {e : Expr} {f : Ev} {pos p1 p2 p3 : Pos} {k : Nat}
def tRevT (K : PySem.W.Frag) (te : TE) : TE := fun σ H Q => te σ H fun x H1 => ∃ a xs, x = .ref a ∧ SqT K H1 a xs ∧ ∀ p, H1 p = none → Q (.ref p) (upd H1 p (.tup xs.reverse))
theorem pe_revT {te : TE} (he : PE X e te) : PE X (.Subscript e (.Slice none none (some (.UnaryOp .USub (.Constant (.int 1) k p1) p2)) p3) pos) (tRevT X.K te) := by
  refine ⟨fun pins s σ H Q I h => Subscript_ (thn (he.run pins s σ H _ I h) fun v s1 ⟨x, H1, I1, r1, q1⟩ => ?_)⟩
  obtain ⟨a, xs, rfl, hx, q⟩ := q1
  cases r1
  have part : PO X (some (.UnaryOp .USub (.Constant (.int 1) k p1) p2)) (tPart (tUn (rU fun i => .int (-i)) (tC (.int 1)))) := po_some (pe_un un_neg pe_int)
  refine wpAny_Slice (thn (po_none.run pins s1 σ H1 (fun o H2 => o = none ∧ H2 = H1) I1 ⟨rfl, rfl⟩) fun vl s2 ⟨l, H2, I2, pl, hl, hH2⟩ => ?_)
  subst hl hH2
  refine thn (po_none.run pins s2 σ H2 (fun o H3 => o = none ∧ H3 = H2) I2 ⟨rfl, rfl⟩) fun vu s3 ⟨u, H3, I3, pu, hu, hH3⟩ => ?_
  subst hu hH3
  refine thn (part.run pins s3 σ H3 (fun o H4 => o = some (-1) ∧ H4 = H3) I3 ⟨1, rfl, -1, rfl, rfl, rfl⟩) fun vs s4 ⟨o, H4, I4, ps, ho, hH4⟩ => ?_
  subst ho hH4
  have I5 : Inv X pins σ H4 { s4 with heap := s4.heap.push { cls := .type "slice", data := .fields #[vl, vu, vs] } } := I4.kept (t' := s4.toks) fun b ob z => Heap.get?_push_of_some _ z
  obtain ⟨its, r, ht, hz⟩ := I5.tuple hx
  have hlen := r.length
  show wpAny (model X.prog X.w) X.A (subscriptTail e (.Slice none none (some (.UnaryOp .USub (.Constant (.int 1) k p1) p2)) p3) (.ref a) (.ref s4.heap.objs.size)) (EP X pins σ Q) X.xe { s4 with heap := s4.heap.push { cls := .type "slice", data := .fields #[vl, vu, vs] } }
  refine tail_any (ops := [.ref a, .ref s4.heap.objs.size]) ht.typeIs PyProof.Rows.slot_tuple_getitem.lookup ?_ (by with_unfolding_all rfl)
  refine getItem_tupRev ht (Heap.IsSliceOf.new _ vl vu vs) pl pu ps ?_ (by omega)
  refine ⟨.ref _, _, I5.laid (t' := s4.toks) (o := .tup xs.reverse) (fun b ob z => Heap.get?_push_of_some _ z) (Nat.le_refl _) ?_, rfl, q _ (I5.hok.fresh (Nat.le_refl _))⟩
  exact ⟨by rw [List.length_reverse]; exact hz, _, r.reverse, IsTup.new _ _⟩
def kRevL : D → M D
  | .lst ds => .ret (.lst ds.reverse)
  | _ => .fail
def kRevT : D → M D
  | .tup ds => .ret (.tup ds.reverse)
  | _ => .fail
def e1 (f : Ev) (k : D → M D) : Ev := fun ρ => (f ρ).bind k
theorem px_revL (he : PE X e (tOf W ms fr f)) : PE X (.Subscript e (.Slice none none (some (.UnaryOp .USub (.Constant (.int 1) k p1) p2)) p3) pos) (tOf W ms fr (e1 f kRevL)) := by
  refine PE.conv (pe_revL he) fun σ H Q ⟨H0, ρ, re, q⟩ => ?_
  refine tOf.use re q.bind fun d p v H1 G e1 x gx fx => ?_
  unfold kRevL at p
  split at p
  · cases x with
    | lst f1 h1 z x1 =>
      have x1 := IsAll.wide (fun _ h => h.1) x1
      refine ⟨_, _, rfl, .inl (.inl h1), fun p1 hp => ?_⟩
      obtain ⟨e4, i4, k4⟩ := Is.newL e1.good gx x1.reverse hp (by rw [List.length_reverse]; exact z)
      refine p _ _ _ (e1.trans e4) i4 k4 fun h z hz => ?_
      rcases hz with rfl | hz
      · exact e1.free hp
      · exact fx h z hz
  · exact p.elim
theorem px_revT (he : PE X e (tOf W ms fr f)) : PE X (.Subscript e (.Slice none none (some (.UnaryOp .USub (.Constant (.int 1) k p1) p2)) p3) pos) (tOf W ms fr (e1 f kRevT)) := by
  refine PE.conv (pe_revT he) fun σ H Q ⟨H0, ρ, re, q⟩ => ?_
  refine tOf.use re q.bind fun d p v H1 G e1 x gx fx => ?_
  unfold kRevT at p
  split at p
  · cases x with
    | tup h1 z x1 =>
      refine ⟨_, _, rfl, .inl (.inl h1), fun p1 hp => ?_⟩
      obtain ⟨e4, i4, k4⟩ := Is.newT e1.good gx x1.reverse hp (by rw [List.length_reverse]; exact z)
      exact p _ _ _ (e1.trans e4) i4 k4 fx
  · exact p.elim
end

/-! ### *e; calls of built-ins, of defs -/
/-- what a call with data gives: a new thing, or one that does not change -/
def rOf (W : Wd) (k : List D → M D) : List V → Hp → VK → Prop := fun vs H Q => ∃ ds G, Good W H ∧ IsAll W H G vs ds ∧ FOk W H G ∧ (k ds).All (Post W H true Q)
def eCall (k : List D → M D) (g : EvL) : Ev := fun ρ => (g ρ).bind k
def spOf (n : Nat) (W : Wd) (g : List D → M D) : Sp := fun vs H Q _ => vs.length = n ∧ rOf W g vs H Q
section
variable {X : Cx} {W : Wd} {ms : List Nat} {fr fra : Bool} {e a : Expr} {es : List Expr} {f fa : Ev} {g : EvL} {pos p p2 : Pos} {k : List D → M D}
theorem rOf_conv {σ : L2.St} {H : Hp} {Q : VK} {r : List V → Hp → VK → Prop} (hr : ∀ vs H Q, rOf W k vs H Q → r vs H Q) (h : tOf W ms true (eCall k g) σ H Q) : taOf W ms fr g σ H fun vs H1 => r vs H1 Q := by
  obtain ⟨H0, ρ, re, q⟩ := h
  exact taOf.use re q.bind fun ds p vs H1 G e1 xs gx fx => hr vs H1 Q ⟨ds, G, e1.good, xs, gx, p.mono fun d p => Post.later p e1⟩
theorem pa_starD (ha : PE X a (tOf W ms fr fa)) (hr : PA X es (taOf W ms fr g)) (hs : starEach (.Starred a p :: es) X.env = (true, eval a X.env) :: starEach es X.env := by rfl) : PA X (.Starred a p :: es) (taOf W ms fr (lStar fa g)) := by
  refine PA.conv (StX.pa_star ha hr hs) fun σ H Q ⟨H0, ρ, re, q⟩ => ?_
  refine tOf.use re q.bind fun d p v H1 G e1 x gx fx => ?_
  have fin : ∀ {xs : List V} {ds : List D}, IsAll W H1 G xs ds → ((g ρ).bind fun es => .ret (ds ++ es)).All (PostL W H fr Q) → taOf W ms fr g σ H1 fun ys H2 => Q (xs ++ ys) H2 := fun {xs ds} x1 p => by
    refine taOf.use (re.step e1) p.bind fun es p2 vs H2 G2 e2 xs2 g2 f2 => ?_
    refine p2 (xs ++ vs) H2 (fun z => G z ∨ G2 z) (e1.trans e2) (((x1.ext e1.good gx e2).wide fun _ h => .inl h).append (xs2.wide fun _ h => .inr h)) ((gx.ext e2).or g2) fun h z hz => ?_
    exact hz.elim (fx h z) fun hz => e1.free (f2 h z hz)
  obtain ⟨ds, hd, p⟩ := mO_All p
  cases x with
  | tup h1 z x1 => cases hd; exact ⟨_, _, rfl, .inl (.inl (.inl h1)), fin x1 p⟩
  | lst f1 h1 z x1 => have x1 := IsAll.wide (fun _ h => h.1) x1; cases hd; exact ⟨_, _, rfl, .inr (.inl (.inl h1)), fin x1 p⟩
  | _ => cases hd
end
end Sl
end S_Sl4
noncomputable section S_Sl5
set_option Elab.async false
set_option linter.all false
set_option maxRecDepth 100000
set_option maxHeartbeats 1000000
namespace Sl
open PySem PySem.Spec PyProof.Rows L2

section
variable {X : Cx} {W : Wd} {ms : List Nat} {fr fra : Bool} {e a b : Expr} {es : List Expr} {f fa fb : Ev} {g : EvL} {pos p p2 : Pos} {k : List D → M D} {x : Str}
/-- the call rule of data: f(..) by r answers k -/
def CallD (X : Cx) (W : Wd) (fv : Value) (k : List D → M D) : Prop := CallR X fv (rOf W k)
theorem px_callB {id : String} (hc : CallD X W (.builtin id) k) (hg : Gl X x) (hm : X.mg x = none) (hv : bootBuiltins x = some (.builtin id)) (ha : PA X (e :: es) (taOf W ms fr g)) (hn : x ≠ "__name__" := by decide) (hdb : (x == ("__debug__" : Str)) = false := by decide)
    (he : starEach (e :: es) X.env = (false, eval e X.env) :: starEach es X.env := by rfl) (hpl : (backTo pos (starEach es X.env)).any (·.1) = false := by rfl) : PE X (.Call (.Name x p) (e :: es) [] pos) (tOf W ms true (eCall k g)) :=
  PE.conv (pe_callB hc hg hm hv ha hn hdb he hpl) fun σ H Q h => rOf_conv (fun _ _ _ q => q) h
theorem px_callT {T : String} (hc : CallD X W (.type T) k) (hg : Gl X x) (hm : X.mg x = none) (hv : bootBuiltins x = some (.type T)) (ha : PA X (e :: es) (taOf W ms fr g)) (hn : x ≠ "__name__" := by decide) (hdb : (x == ("__debug__" : Str)) = false := by decide)
    (he : starEach (e :: es) X.env = (false, eval e X.env) :: starEach es X.env := by rfl) (hpl : (backTo pos (starEach es X.env)).any (·.1) = false := by rfl) : PE X (.Call (.Name x p) (e :: es) [] pos) (tOf W ms true (eCall k g)) :=
  PE.conv (pe_callTy hc hg hm hv ha hn hdb he hpl) fun σ H Q h => rOf_conv (fun _ _ _ q => q) h
/-- a def of the module -/
def kFn (n : Nat) (g : List D → M D) (ds : List D) : M D := if ds.length = n then g ds else .fail
theorem px_call {n kk : Nat} {fn : Addr} {fd : FuncData} {ps : List Str} {gg : List D → M D} (F : FnOk X.prog X.w X.K X.mg X.base CX0 kk fn fd ps (spOf n W gg)) (hr : Room kk X.A) (hg : Gl X x) (hm : X.mg x = some (.ref fn)) (hk : PySem.W.keepIn X.K (.ref fn) = true) (hb : Binds X.K fd ps [])
    (ha : PA X (e :: es) (taOf W ms fr g)) (hdb : (x == ("__debug__" : Str)) = false := by decide) (he : starEach (e :: es) X.env = (false, eval e X.env) :: starEach es X.env := by rfl) (hpl : (backTo pos (starEach es X.env)).any (·.1) = false := by rfl) :
    PE X (.Call (.Name x p) (e :: es) [] pos) (tOf W ms true (eCall (kFn n gg) g)) := by
  refine PE.conv (pe_call (E := E0) F hr hg hm hk hb .nil pass0 ha hdb he hpl) fun σ H Q h => ?_
  refine rOf_conv (r := fun vs H Q => spOf n W gg (vs ++ []) H Q E0) (fun vs H Q h => ?_) h
  obtain ⟨ds, G, gd, xs, gx, q⟩ := h
  unfold kFn at q
  split at q
  · rename_i hl
    rw [List.append_nil]
    exact ⟨by rw [xs.length]; exact hl, ds, G, gd, xs, gx, q⟩
  · exact q.elim

/-! ### len, max, min, int, tuple, list -/
def kLen : List D → M D
  | [.tup ds] => .ret (.int ds.length)
  | [.lst ds] => .ret (.int ds.length)
  | _ => .fail
theorem IsAll.un1 {H : Hp} {F : Addr → Prop} {vs : List V} {d : D} (x : IsAll W H F vs [d]) : ∃ v, vs = [v] ∧ Is W H F v d := by
  cases x with
  | cons a b => cases b; exact ⟨_, rfl, a⟩
theorem IsAll.un2 {H : Hp} {F : Addr → Prop} {vs : List V} {d d2 : D} (x : IsAll W H F vs [d, d2]) : ∃ v v2, vs = [v, v2] ∧ Is W H F v d ∧ Is W H F v2 d2 := by
  cases x with
  | cons a b =>
    obtain ⟨v, rfl, y⟩ := b.un1
    exact ⟨_, _, rfl, a, y⟩
theorem Post.int {H : Hp} {Q : VK} {i : Int} (p : Post W H true Q (.int i)) (g : Good W H) : Q (.int i) H := p.now g (.int i)
theorem call_len : CallD X W (.builtin "len") kLen := by
  intro pins s σ H xs us Q I rs h
  refine call_len_seq pins s σ H xs us Q I rs ?_
  obtain ⟨ds, G, gd, ys, gx, q⟩ := h
  unfold kLen at q
  split at q
  · obtain ⟨v, rfl, y⟩ := ys.un1
    cases y with
    | tup h1 z x1 => exact ⟨_, _, rfl, .inr (.inl (.inl h1)), by rw [x1.length]; exact q.int gd⟩
  · obtain ⟨v, rfl, y⟩ := ys.un1
    cases y with
    | lst f1 h1 z x1 => have x1 := IsAll.wide (fun _ h => h.1) x1; exact ⟨_, _, rfl, .inl (.inl (.inl h1)), by rw [x1.length]; exact q.int gd⟩
  · exact q.elim
def kMin2 : List D → M D
  | [.int i, .int j] => .ret (.int (if j < i then j else i))
  | _ => .fail
theorem call_min2 (hx : Fit W X) : CallD X W (.builtin "min") kMin2 := by
  intro pins s σ H xs us Q I rs h
  refine L2.call_min2 hx.calm pins s σ H xs us Q I rs ?_
  obtain ⟨ds, G, gd, ys, gx, q⟩ := h
  unfold kMin2 at q
  split at q
  · obtain ⟨v, v2, rfl, y, y2⟩ := ys.un2
    rw [y.toInt, y2.toInt]
    exact ⟨_, _, rfl, q.int gd⟩
  · exact q.elim
def kInt : List D → M D
  | [.int i] => .ret (.int i)
  | _ => .fail
theorem call_int : CallD X W (.type "int") kInt := by
  intro pins s σ H xs us Q I rs h
  refine call_int1 pins s σ H xs us Q I rs ?_
  obtain ⟨ds, G, gd, ys, gx, q⟩ := h
  unfold kInt at q
  split at q
  · obtain ⟨v, rfl, y⟩ := ys.un1
    rw [y.toInt]
    exact .inl ⟨_, rfl, q.int gd⟩
  · exact q.elim
/-- max of a tuple of ints -/
def kMax : List D → M D
  | [.tup ds] => mO (intsOf ds) fun ns => match ns with
    | n :: ns => .ret (.int (ns.foldl max n))
    | [] => .fail
  | _ => .fail
theorem reads_ints {h : Heap} : ∀ {us : List Value} {ns : List Int}, Vals (ns.map V.int) us → ∃ as, ReadsAll h us (ns.map PyData.int) as
  | _, [], r => by cases r; exact ⟨_, .nil⟩
  | _, n :: ns, r => by
    cases r with
    | cons a b =>
      obtain ⟨t, rfl⟩ := a
      obtain ⟨as, q⟩ := reads_ints (h := h) b
      exact ⟨_, .cons (.int n t) q⟩
theorem alike_ints (ns : List Int) : PySem.W.AlikeAll (ns.map PyData.int) := by
  refine ⟨fun x hx y hy => ?_, fun x hx => ?_⟩
  · obtain ⟨i, _, rfl⟩ := List.mem_map.mp hx
    obtain ⟨j, _, rfl⟩ := List.mem_map.mp hy
    simp [PySem.W.alike]
  · obtain ⟨i, _, rfl⟩ := List.mem_map.mp hx
    exact fun z => nomatch z
theorem depth_ints (ns : List Int) : PyData.depthAll (ns.map PyData.int) = 0 := by
  induction ns with
  | nil => simp [PyData.depthAll]
  | cons n ns ih => simp [PyData.depthAll, PyData.depth, ih]
theorem call_max (hx : Fit W X) : CallD X W (.builtin "max") kMax := by
  intro pins s σ H xs us Q I rs h
  obtain ⟨ds, G, gd, ys, gx, q⟩ := h
  unfold kMax at q
  split at q
  · rename_i ds
    obtain ⟨ns, hns, q⟩ := mO_All q
    obtain ⟨v, rfl, y⟩ := ys.un1
    cases ns with
    | nil => exact q.elim
    | cons n ns =>
      rw [intsOf_some hns] at y
      cases y with
      | tup h1 z x1 =>
        rw [x1.toInts] at h1
        obtain ⟨its, r, ht, hz⟩ := I.tuple (.inl (.inl h1))
        obtain ⟨as, ra⟩ := reads_ints (h := s.heap) r
        have e1 := rs.length
        obtain ⟨u, rfl, ru⟩ : ∃ u, us = [u] ∧ RelV (.ref _) u := by
          cases rs with
          | cons a b => cases b; exact ⟨_, rfl, a⟩
        cases ru
        refine PySem.W.max_tuple_data (I.ok.hd hx.calm) ht (x := .int n) (xs := ns.map PyData.int) (by simpa using ra) (alike_ints (n :: ns)) (by
          have h3 := depth_ints (n :: ns)
          have h4 : PyData.depthAll (.int n :: ns.map PyData.int) = 0 := h3
          rw [h4]
          have := hx.un
          omega) fun i v h' tk bs hv rv hk => ?_
        rw [PySem.W.maxD_ints] at rv
        have hv2 : its[i]? = some v := by simpa using hv
        have I1 : Inv X pins σ H { s with heap := h', toks := tk } := I.kept hk
        have : ∃ t, v = .int (ns.foldl max n) t := by
          cases rv
          exact ⟨_, rfl⟩
        obtain ⟨t, rfl⟩ := this
        exact ⟨.int (ns.foldl max n), H, I1, ⟨t, rfl⟩, Post.int q gd⟩
  · exact q.elim
/-- tuple(..), list(..) of what does not change -/
def kTuple : List D → M D
  | [.lst ds] => if imm.immAll ds = true then .ret (.tup ds) else .fail
  | _ => .fail
def kList : List D → M D
  | [.lst ds] => if imm.immAll ds = true then .ret (.lst ds) else .fail
  | [.tup ds] => if imm.immAll ds = true then .ret (.lst ds) else .fail
  | _ => .fail
theorem call_tuple : CallD X W (.type "tuple") kTuple := by
  intro pins s σ H xs us Q I rs h
  refine call_tuple_of pins s σ H xs us Q I rs ?_
  obtain ⟨ds, G, gd, ys, gx, q⟩ := h
  unfold kTuple at q
  split at q
  · split at q
    · rename_i hi
      obtain ⟨v, rfl, y⟩ := ys.un1
      cases y with
      | lst f1 h1 z x1 =>
        have x1 := IsAll.wide (fun _ h => h.1) x1
        refine ⟨_, _, rfl, .inl ⟨.inl (.inl h1), fun l hl => ?_⟩⟩
        obtain ⟨e1, i1, k1⟩ := Is.newT (F := fun _ => False) gd .nil (x1.imm hi) hl z
        exact q _ _ _ e1 i1 k1 fun _ _ h => h.elim
    · exact q.elim
  · exact q.elim
theorem call_list : CallD X W (.type "list") kList := by
  intro pins s σ H xs us Q I rs h
  refine call_list_of pins s σ H xs us Q I rs ?_
  obtain ⟨ds, G, gd, ys, gx, q⟩ := h
  have fin : ∀ {p : Addr} {xs : List V} {ds : List D} {F : Addr → Prop}, IsAll W H F xs ds → ds.length ≤ sizeLine → imm.immAll ds = true → Post W H true Q (.lst ds) → ∀ l, H l = none → Q (.ref l) (upd H l (.lst xs)) := fun {p xs ds F} x z hi q l hl => by
    obtain ⟨e1, i1, k1⟩ := Is.newL (F := fun _ => False) gd .nil (x.imm hi) hl z
    exact q _ _ _ e1 i1 k1 fun _ a h => h.elim (fun z => by rw [z]; exact hl) fun z => z.elim
  unfold kList at q
  split at q
  · split at q
    · rename_i hi
      obtain ⟨v, rfl, y⟩ := ys.un1
      cases y with
      | lst f1 h1 z x1 => have x1 := IsAll.wide (fun _ h => h.1) x1; exact ⟨_, _, rfl, .inl (.inl (.inl h1)), fin (p := 0) x1 z hi q⟩
    · exact q.elim
  · split at q
    · rename_i hi
      obtain ⟨v, rfl, y⟩ := ys.un1
      cases y with
      | tup h1 z x1 => exact ⟨_, _, rfl, .inr (.inl (.inl h1)), fin (p := 0) x1 z hi q⟩
    · exact q.elim
  · exact q.elim

/-! ### isinstance -/
def tyN : D → Option String
  | .non => some "NoneType"
  | .bl _ => some "bool"
  | .int _ => some "int"
  | .tup _ => some "tuple"
  | .lst _ => some "list"
  | _ => none
theorem Is.ty {H : Hp} {F : Addr → Prop} {v : V} {d : D} {n : String} (x : Is W H F v d) (h : tyN d = some n) : TyX W.K H v (.type n) := by
  cases x with
  | non => cases h; exact .base .non
  | bl b => cases h; exact .base (.bl b)
  | int i => cases h; exact .base (.int i)
  | tup h1 _ _ => cases h; exact .base (.tup h1)
  | lst _ h1 _ _ => cases h; exact .base (.lst h1)
  | _ => cases h
/-- isinstance(.., T) answers k -/
def IsiD (T : String) (k : D → Option Bool) : Prop := ∀ d c, k d = some c → ∃ n, tyN d = some n ∧ kitB n T = some c
def kIsInt : D → Option Bool
  | .int _ => some true
  | .bl _ => some true
  | .non => some false
  | .tup _ => some false
  | .lst _ => some false
  | _ => none
def kIsBool : D → Option Bool
  | .bl _ => some true
  | .int _ => some false
  | .non => some false
  | .tup _ => some false
  | .lst _ => some false
  | _ => none
def kIsTup : D → Option Bool
  | .tup _ => some true
  | .bl _ => some false
  | .int _ => some false
  | .non => some false
  | .lst _ => some false
  | _ => none
def kIsLst : D → Option Bool
  | .lst _ => some true
  | .tup _ => some false
  | .bl _ => some false
  | .int _ => some false
  | .non => some false
  | _ => none
def kIsStr : D → Option Bool
  | .lst _ => some false
  | .tup _ => some false
  | .bl _ => some false
  | .int _ => some false
  | .non => some false
  | _ => none
def kIsSeq : D → Option Bool
  | .lst _ => some true
  | .tup _ => some true
  | .bl _ => some false
  | .int _ => some false
  | .non => some false
  | _ => none
theorem isi_int : IsiD "int" kIsInt := by
  intro d c h
  cases d <;> first | (cases h; exact ⟨_, rfl, by decide +kernel⟩) | cases h
theorem isi_bool : IsiD "bool" kIsBool := by
  intro d c h
  cases d <;> first | (cases h; exact ⟨_, rfl, by decide +kernel⟩) | cases h
theorem isi_tup : IsiD "tuple" kIsTup := by
  intro d c h
  cases d <;> first | (cases h; exact ⟨_, rfl, by decide +kernel⟩) | cases h
theorem isi_lst : IsiD "list" kIsLst := by
  intro d c h
  cases d <;> first | (cases h; exact ⟨_, rfl, by decide +kernel⟩) | cases h
theorem isi_str : IsiD "str" kIsStr := by
  intro d c h
  cases d <;> first | (cases h; exact ⟨_, rfl, by decide +kernel⟩) | cases h
def eIsi (k : D → Option Bool) (f : Ev) : Ev := fun ρ => (f ρ).bind fun d => mO (k d) fun c => .ret (.bl c)
theorem px_isi {Tn : Str} {TT : String} {kk : D → Option Bool} {pi pt : Pos} (hk : IsiD TT kk) (hK : X.K = W.K) (hg : Gl X "isinstance") (hm : X.mg "isinstance" = none) (hgT : Gl X Tn) (hmT : X.mg Tn = none) (hvT : bootBuiltins Tn = some (.type TT)) (ha : PE X e (tOf W ms fr f))
    (hnT : Tn ≠ "__name__" := by decide) (hdT : (Tn == ("__debug__" : Str)) = false := by decide) (hv : bootBuiltins "isinstance" = some (.builtin "isinstance") := by decide +kernel)
    (he : starEach [e, .Name Tn pt] X.env = (false, eval e X.env) :: starEach [.Name Tn pt] X.env := by rfl) :
    PE X (.Call (.Name "isinstance" pi) [e, .Name Tn pt] [] pos) (tOf W ms true (eIsi kk f)) := by
  refine PE.conv (pe_callB call_isi hg hm hv (pa_cons ha (pa_cons (pe_bltn (v := .ty TT) hgT hmT hvT rfl hnT hdT) pa_nil) he) (he := he)) fun σ H Q ⟨H0, ρ, re, q⟩ => ?_
  refine tOf.use re q.bind fun d p v H1 G e1 x g _ => ?_
  obtain ⟨c, hc, p⟩ := mO_All p
  obtain ⟨n, hn, hb⟩ := hk d c hc
  refine ⟨v, .ty TT, .type n, .type TT, c, rfl, .ty TT, by rw [hK]; exact x.ty hn, kit_ty hb, ?_⟩
  exact p _ H1 (fun _ => False) e1 (.bl c) .nil fun _ _ h => h.elim
/-- isinstance(.., (tuple, list)) -/
theorem kitSeq {K : PySem.W.Frag} {d : D} {c : Bool} (h : kIsSeq d = some c) : ∃ n, tyN d = some n ∧ PySem.W.kitAny K (.type n) [.type "tuple", .type "list"] = some c := by
  have step : ∀ {n : String} {b1 b2 : Bool}, kitB n "tuple" = some b1 → kitB n "list" = some b2 → PySem.W.kitAny K (.type n) [.type "tuple", .type "list"] = some (b1 || b2) := fun {n b1 b2} h1 h2 => by
    refine kitAny_cons (kit_ty h1) (fun e => ?_) (fun e => by rw [e]; rfl)
    subst e
    refine kitAny_cons (kit_ty h2) (fun e => ?_) (fun e => by rw [e]; rfl)
    subst e
    exact kitAny_nil
  cases d with
  | non => cases h; exact ⟨_, rfl, step (b1 := false) (b2 := false) (by decide +kernel) (by decide +kernel)⟩
  | bl b => cases h; exact ⟨_, rfl, step (b1 := false) (b2 := false) (by decide +kernel) (by decide +kernel)⟩
  | int b => cases h; exact ⟨_, rfl, step (b1 := false) (b2 := false) (by decide +kernel) (by decide +kernel)⟩
  | tup b => cases h; exact ⟨_, rfl, step (b1 := true) (b2 := false) (by decide +kernel) (by decide +kernel)⟩
  | lst b => cases h; exact ⟨_, rfl, step (b1 := false) (b2 := true) (by decide +kernel) (by decide +kernel)⟩
  | _ => cases h
theorem px_isiSeq {pi pt p1 p3 : Pos} {x1} (hK : X.K = W.K) (hg : Gl X "isinstance") (hm : X.mg "isinstance" = none) (hgT : Gl X "tuple") (hmT : X.mg "tuple" = none) (hgL : Gl X "list") (hmL : X.mg "list" = none) (ha : PE X e (tOf W ms fr f))
    (hv : bootBuiltins "isinstance" = some (.builtin "isinstance") := by decide +kernel) (hvT : bootBuiltins "tuple" = some (.type "tuple") := by decide +kernel) (hvL : bootBuiltins "list" = some (.type "list") := by decide +kernel)
    (he : starEach [e, .Tuple [.Name "tuple" p1, .Name "list" p3] x1 pt] X.env = (false, eval e X.env) :: starEach [.Tuple [.Name "tuple" p1, .Name "list" p3] x1 pt] X.env := by rfl) :
    PE X (.Call (.Name "isinstance" pi) [e, .Tuple [.Name "tuple" p1, .Name "list" p3] x1 pt] [] pos) (tOf W ms true (eIsi kIsSeq f)) := by
  refine PE.conv (pe_callB call_isiT hg hm hv (pa_cons ha (pa_cons (pe_tup (pa_cons (pe_bltn (v := .ty "tuple") hgT hmT hvT rfl) (pa_cons (pe_bltn (v := .ty "list") hgL hmL hvL rfl) pa_nil))) pa_nil) he) (he := he)) fun σ H Q ⟨H0, ρ, re, q⟩ => ?_
  refine tOf.use re q.bind fun d p v H1 G e1 x g _ => ?_
  obtain ⟨c, hc, p⟩ := mO_All p
  obtain ⟨n, hn, hb⟩ := kitSeq (K := X.K) hc
  refine ⟨by show 2 ≤ sizeLine; decide, fun t ht => ?_⟩
  have e2 := Ext.new (o := .tup [.ty "tuple", .ty "list"]) e1.good ht
  refine ⟨v, t, [.ty "tuple", .ty "list"], .type n, [.type "tuple", .type "list"], c, rfl, upd_same, .cons (.ty _) (.cons (.ty _) .nil), ?_, hb, p _ _ (fun _ => False) (e1.trans e2) (.bl c) .nil fun _ _ h => h.elim⟩
  rw [hK]
  exact (x.ext e1.good g e2).ty hn
end
end Sl
end S_Sl5
noncomputable section S_Sl6
set_option Elab.async false
set_option linter.all false
set_option maxRecDepth 100000
set_option maxHeartbeats 1000000
namespace Sl
open PySem PySem.Spec PyProof.Rows L2

/-! ### equality of data -/
mutual
def eqD : D → D → Bool
  | .non, .non => true
  | .bl a, .bl b => a == b
  | .int a, .int b => a == b
  | .tup a, .tup b => eqDs a b
  | .lst a, .lst b => eqDs a b
  | _, _ => false
def eqDs : List D → List D → Bool
  | [], [] => true
  | a :: as, b :: bs => eqD a b && eqDs as bs
  | _, _ => false
end
mutual
theorem eqD_eq : ∀ (a b : D), eqD a b = true → a = b
  | .non, b, h => by cases b <;> first | rfl | (simp [eqD] at h)
  | .bl x, b, h => by cases b <;> first | (simp [eqD] at h; rw [h]) | (simp [eqD] at h)
  | .int x, b, h => by cases b <;> first | (simp [eqD] at h; rw [h]) | (simp [eqD] at h)
  | .tup x, b, h => by
    cases b with
    | tup y => rw [eqDs_eq x y (by simpa [eqD] using h)]
    | _ => simp [eqD] at h
  | .lst x, b, h => by
    cases b with
    | lst y => rw [eqDs_eq x y (by simpa [eqD] using h)]
    | _ => simp [eqD] at h
  | .dct _, b, h => by simp [eqD] at h
  | .row, b, h => by simp [eqD] at h
theorem eqDs_eq : ∀ (a b : List D), eqDs a b = true → a = b
  | [], b, h => by cases b <;> first | rfl | (simp [eqDs] at h)
  | x :: a, b, h => by
    cases b with
    | nil => simp [eqDs] at h
    | cons y b =>
      simp only [eqDs, Bool.and_eq_true] at h
      rw [eqD_eq x y h.1, eqDs_eq a b h.2]
end
mutual
theorem eqD_key : ∀ (a : D) (k : NestedKey), toKey a = some k → eqD a a = true
  | .non, _, _ => by simp [eqD]
  | .bl x, _, h => by simp [toKey] at h
  | .int x, _, _ => by simp [eqD]
  | .tup x, k, h => by
    obtain ⟨ks, h1, _⟩ := Option.map_eq_some_iff.mp (by simpa [toKey] using h)
    simpa [eqD] using eqDs_key x ks h1
  | .lst x, _, h => by simp [toKey] at h
  | .dct _, _, h => by simp [toKey] at h
  | .row, _, h => by simp [toKey] at h
theorem eqDs_key : ∀ (a : List D) (k : List NestedKey), toKey.keys a = some k → eqDs a a = true
  | [], _, _ => by simp [eqDs]
  | x :: a, k, h => by
    unfold toKey.keys at h
    split at h
    · rename_i k1 ks h1 h2
      simp only [eqDs, Bool.and_eq_true]
      exact ⟨eqD_key x k1 h1, eqDs_key a ks h2⟩
    · cases h
end
mutual
theorem toKey_inj : ∀ (a b : D) (k : NestedKey), toKey a = some k → toKey b = some k → a = b
  | .non, b, k, h1, h2 => by
    simp only [toKey, Option.some.injEq] at h1
    subst h1
    cases b with
    | non => rfl
    | tup y => simp [toKey] at h2
    | _ => simp [toKey] at h2
  | .bl x, _, _, h1, _ => by simp [toKey] at h1
  | .int x, b, k, h1, h2 => by
    simp only [toKey, Option.some.injEq] at h1
    subst h1
    cases b with
    | int y => simp only [toKey, Option.some.injEq, NestedKey.num.injEq] at h2; rw [h2]
    | tup y => simp [toKey] at h2
    | _ => simp [toKey] at h2
  | .tup x, b, k, h1, h2 => by
    obtain ⟨ks, h3, rfl⟩ : ∃ ks, toKey.keys x = some ks ∧ .tup ks = k := Option.map_eq_some_iff.mp (by simpa [toKey] using h1)
    cases b with
    | tup y =>
      obtain ⟨ks', h4, h5⟩ : ∃ ks', toKey.keys y = some ks' ∧ NestedKey.tup ks' = .tup ks := Option.map_eq_some_iff.mp (by rw [toKey] at h2; exact h2)
      cases h5
      rw [keys_inj x y _ h3 h4]
    | _ => simp [toKey] at h2
  | .lst x, _, _, h1, _ => by simp [toKey] at h1
  | .dct _, _, _, h1, _ => by simp [toKey] at h1
  | .row, _, _, h1, _ => by simp [toKey] at h1
theorem keys_inj : ∀ (a b : List D) (k : List NestedKey), toKey.keys a = some k → toKey.keys b = some k → a = b
  | [], b, k, h1, h2 => by
    simp only [toKey.keys, Option.some.injEq] at h1
    subst h1
    cases b with
    | nil => rfl
    | cons y b =>
      unfold toKey.keys at h2
      split at h2 <;> cases h2
  | x :: a, b, k, h1, h2 => by
    unfold toKey.keys at h1
    split at h1
    · rename_i k1 ks e1 e2
      cases h1
      cases b with
      | nil => simp [toKey.keys] at h2
      | cons y b =>
        unfold toKey.keys at h2
        split at h2
        · rename_i k1' ks' e3 e4
          cases h2
          rw [toKey_inj x y _ e1 e3, keys_inj a b _ e2 e4]
        · cases h2
    · cases h1
end

/-! ### dicts by data -/
def dGet (kvs : List (D × D)) (d : D) : Option D := (kvs.find? fun p => eqD p.1 d).map (·.2)
def dHas (kvs : List (D × D)) (d : D) : Bool := kvs.any fun p => eqD p.1 d
def dPut (kvs : List (D × D)) (d v : D) : List (D × D) := if dHas kvs d = true then kvs.map fun p => if eqD p.1 d = true then (p.1, v) else p else kvs ++ [(d, v)]
def dPutAll (kvs : List (D × D)) : List (D × D) → List (D × D)
  | [] => kvs
  | p :: r => dPutAll (dPut kvs p.1 p.2) r
/-- what may be a key -/
def keyOk (d : D) : Bool := match toKey d with
  | some k => decide (k.depth ≤ 8)
  | none => false
theorem keyOk_some {d : D} (h : keyOk d = true) : ∃ k, toKey d = some k ∧ k.depth ≤ 8 := by
  unfold keyOk at h
  split at h
  · rename_i k hk
    exact ⟨k, hk, of_decide_eq_true h⟩
  · cases h
theorem eqD_iff {a b : D} {k k' : NestedKey} (h : toKey a = some k) (h' : toKey b = some k') : eqD a b = decide (k = k') := by
  by_cases e : k = k'
  · subst e
    rw [toKey_inj a b _ h h', decide_eq_true rfl]
    exact eqD_key b _ h'
  · rw [decide_eq_false e]
    cases q : eqD a b with
    | false => rfl
    | true =>
      rw [eqD_eq a b q, h'] at h
      exact absurd (Option.some.inj h).symm e
section
variable {W : Wd} {H H' : Hp} {F F' : Addr → Prop}
theorem IsEnts.length : ∀ {xs : List (NestedKey × Addr × Value)} {kvs : List (D × D)}, IsEnts W H F xs kvs → xs.length = kvs.length
  | _, _, .nil => rfl
  | _, _, .cons _ _ _ _ _ t => by simp [IsEnts.length t]
theorem IsEnts.wide (h : ∀ a, F a → F' a) {xs : List (NestedKey × Addr × Value)} {kvs : List (D × D)} (x : IsEnts W H F xs kvs) : IsEnts W H F' xs kvs := x.stay (fun a o f e => ⟨h a f, e⟩) fun _ _ e => e
theorem IsEnts.has {d : D} {k : NestedKey} (hd : toKey d = some k) : ∀ {xs : List (NestedKey × Addr × Value)} {kvs : List (D × D)}, IsEnts W H F xs kvs → (atKey xs k).isSome = dHas kvs d
  | _, _, .nil => rfl
  | _, _, .cons (k := k1) (dk := dk) e n a r b t => by
    have ih := IsEnts.has hd t
    unfold atKey dHas at *
    rw [List.find?_cons, List.any_cons]
    rw [eqD_iff e hd]
    by_cases q : k1 = k
    · simp [q]
    · simp only [decide_eq_false q, Bool.false_or]
      exact ih
theorem IsEnts.get {d v : D} {k : NestedKey} (hd : toKey d = some k) : ∀ {xs : List (NestedKey × Addr × Value)} {kvs : List (D × D)}, IsEnts W H F xs kvs → dGet kvs d = some v → ∃ p vv, atKey xs k = some p ∧ RelV vv p.2 ∧ Is W H F vv v
  | _, _, .nil, h => by cases h
  | _, _, .cons (k := k1) (dk := dk) e n a r b t, h => by
    unfold dGet at h
    unfold atKey
    rw [List.find?_cons] at h ⊢
    rw [eqD_iff e hd] at h
    by_cases q : k1 = k
    · simp only [q, decide_true, Option.map_some, Option.some.injEq] at h ⊢
      subst h
      exact ⟨_, _, rfl, r, b⟩
    · simp only [decide_eq_false q] at h ⊢
      obtain ⟨p, vv, h1, h2⟩ := IsEnts.get hd t (by unfold dGet; exact h)
      unfold atKey at h1
      exact ⟨p, vv, h1, h2⟩
theorem IsEnts.keys_nodup {xs : List (NestedKey × Addr × Value)} : True := trivial
theorem IsEnts.map {d dv : D} {k : NestedKey} {v : V} {u : Value} (hd : toKey d = some k) (rv : RelV v u) (x : Is W H F v dv) : ∀ {xs : List (NestedKey × Addr × Value)} {kvs : List (D × D)}, IsEnts W H F xs kvs →
    IsEnts W H F (xs.map (putAt k u)) (kvs.map fun p => if eqD p.1 d = true then (p.1, dv) else p)
  | _, _, .nil => .nil
  | _, _, .cons (k := k1) (dk := dk) e n a r b t => by
    have ih := IsEnts.map hd rv x t
    rw [List.map_cons, List.map_cons]
    unfold putAt
    dsimp only
    rw [eqD_iff e hd]
    by_cases q : k1 = k
    · rw [if_pos q, decide_eq_true q, if_pos rfl]
      exact .cons e n a rv x ih
    · rw [if_neg q, decide_eq_false q, if_neg Bool.false_ne_true]
      exact .cons e n a r b ih
theorem IsEnts.snoc {d dv : D} {k : NestedKey} {a : Addr} {v : V} {u : Value} (hd : toKey d = some k) (hz : k.depth ≤ 8) (y : Is W H F (.ref a) d) (rv : RelV v u) (x : Is W H F v dv) : ∀ {xs : List (NestedKey × Addr × Value)} {kvs : List (D × D)}, IsEnts W H F xs kvs →
    IsEnts W H F (xs ++ [(k, a, u)]) (kvs ++ [(d, dv)])
  | _, _, .nil => .cons hd hz y rv x .nil
  | _, _, .cons e n b r c t => .cons e n b r c (IsEnts.snoc hd hz y rv x t)
theorem IsEnts.put {d dv : D} {k : NestedKey} {a : Addr} {v : V} {u : Value} (hd : toKey d = some k) (hz : k.depth ≤ 8) (y : Is W H F (.ref a) d) (rv : RelV v u) (x : Is W H F v dv) {xs : List (NestedKey × Addr × Value)} {kvs : List (D × D)} (t : IsEnts W H F xs kvs) :
    IsEnts W H F (storedH xs k a u) (dPut kvs d dv) := by
  unfold storedH dPut
  rw [t.has hd]
  split
  · exact t.map hd rv x
  · exact t.snoc hd hz y rv x
theorem dPut_len (kvs : List (D × D)) (d v : D) : (dPut kvs d v).length ≤ kvs.length + 1 := by
  unfold dPut
  split
  · rw [List.length_map]; omega
  · rw [List.length_append]; exact Nat.le_refl _
theorem stored_nd {xs : List (NestedKey × Addr × Value)} {k : NestedKey} {a : Addr} {u : Value} (h : (xs.map (·.1)).Nodup) : ((storedH xs k a u).map (·.1)).Nodup := by
  unfold storedH
  split
  · have : (xs.map (putAt k u)).map (·.1) = xs.map (·.1) := by
      rw [List.map_map]
      refine List.map_congr_left fun x _ => ?_
      show (putAt k u x).1 = x.1
      unfold putAt
      split <;> rfl
    rw [this]
    exact h
  · rename_i hn
    rw [List.map_append, List.nodup_append]
    refine ⟨h, by simp, fun x hx y hy e => ?_⟩
    simp only [List.map_cons, List.map_nil, List.mem_singleton] at hy
    obtain ⟨z, hz, rfl⟩ := List.mem_map.mp hx
    apply hn
    unfold atKey
    rw [Option.isSome_map, List.find?_isSome]
    exact ⟨z, hz, by simpa using e.trans hy⟩
end

/-! ### in the heap -/
section
variable {X : Cx} {W : Wd} {pins : List (Addr × Obj)} {σ : L2.St} {H : Hp} {s : Shared}
mutual
theorem Is.nest (I : Inv X pins σ H s) {F : Addr → Prop} : ∀ (d : D) {v : V} {u : Value} {k : NestedKey}, Is W H F v d → RelV v u → toKey d = some k → NestedIs s.heap k u
  | .non, _, _, _, x, r, h => by
    cases x; cases r
    simp only [toKey, Option.some.injEq] at h
    subst h; exact .none
  | .bl _, _, _, _, _, _, h => by simp [toKey] at h
  | .int i, _, _, _, x, r, h => by
    cases x
    obtain ⟨t, rfl⟩ := r
    simp only [toKey, Option.some.injEq] at h
    subst h; exact .int i t
  | .tup ds, _, _, _, x, r, h => by
    obtain ⟨ks, h1, rfl⟩ := Option.map_eq_some_iff.mp (by simpa [toKey] using h)
    cases x with
    | tup h2 z x1 =>
      cases r
      obtain ⟨its, rv, ⟨o, ho, hc, n, hd⟩, _⟩ := I.tuple (.inl (.inl h2))
      exact .tup ho hc hd (by simpa using IsAll.nest I ds x1 rv h1)
  | .lst _, _, _, _, _, _, h => by simp [toKey] at h
  | .dct _, _, _, _, _, _, h => by simp [toKey] at h
  | .row, _, _, _, _, _, h => by simp [toKey] at h
theorem IsAll.nest (I : Inv X pins σ H s) {F : Addr → Prop} : ∀ (ds : List D) {vs : List V} {us : List Value} {ks : List NestedKey}, IsAll W H F vs ds → Vals vs us → toKey.keys ds = some ks → NestedAll s.heap ks us
  | [], _, _, _, x, r, h => by
    cases x; cases r
    simp only [toKey.keys, Option.some.injEq] at h
    subst h; exact .nil
  | d :: ds, _, _, _, x, r, h => by
    unfold toKey.keys at h
    split at h
    · rename_i k ks e1 e2
      cases h
      cases x with
      | cons a b =>
        cases r with
        | cons c d' => exact .cons (Is.nest I d a c e1) (IsAll.nest I ds b d' e2)
    · cases h
end
abbrev KN (W : Wd) : HeapKind W.P W.w NestedKey := nestedKind W.P W.w
theorem IsEnts.keysIs (I : Inv X pins σ H s) {F : Addr → Prop} : ∀ {xs : List (NestedKey × Addr × Value)} {kvs : List (D × D)}, IsEnts W H F xs kvs → ∀ x ∈ xs, (KN W).is s.heap x.1 x.2.1
  | _, _, .nil, x, h => by cases h
  | _, _, .cons e n a r b t, x, h => by
    rcases List.mem_cons.mp h with rfl | h
    · exact ⟨Is.nest I _ a rfl e, n⟩
    · exact IsEnts.keysIs I t x h
/-- a dict that stands -/
theorem dictOf (I : Inv X pins σ H s) {F : Addr → Prop} {a : Addr} {o : Obj} {xs : List (NestedKey × Addr × Value)} {kvs : List (D × D)} (h : H a = some (dO a o)) (d : DObj W a o xs) (t : IsEnts W H F xs kvs) : s.heap.DictOfH (KN W) a xs := by
  obtain ⟨h1, _, _⟩ := I.hok a _ h
  obtain ⟨es, ep, h2, h3⟩ := d.dat
  exact ⟨o, es, ep, h1, d.ex, h2, h3, t.keysIs I, d.nd⟩
/-- a dict as an object -/
theorem dobj_of {h : Heap} {a : Addr} {xs : List (NestedKey × Addr × Value)} (m : h.DictOfH (KN W) a xs) (ns : (a == sysModules) = false) (sz : xs.length ≤ sizeLine) : ∃ o, h.get? a = some o ∧ DObj W a o xs := by
  obtain ⟨o, es, ep, h1, h2, h3, h4, _, h5⟩ := m
  exact ⟨o, h1, h2, ns, sz, ⟨es, ep, h3, h4⟩, h5⟩
theorem dO_ok {P : Program} {w : World} {H : Hp} {h : Heap} {a : Addr} {o : Obj} (e : h.get? a = some o) : ObjOk P w H h a (dO a o) := ⟨e, ⟨o, e⟩, fun _ _ x k => k o x⟩
theorem ns_new (I : Inv X pins σ H s) {a : Addr} (h : s.heap.objs.size ≤ a) : (a == sysModules) = false := beq_eq_false_iff_ne.mpr fun z => absurd I.big (Nat.not_lt.mpr (z ▸ h))

/-! ### k in d -/
def rInDc (W : Wd) (neg : Bool) : R2 := fun x y H Q => ∃ (G G' : Addr → Prop) (d : D) (kvs : List (D × D)), Is W H G x d ∧ Is W H G' y (.dct kvs) ∧ keyOk d = true ∧ (∃ a, x = .ref a) ∧ Q (.bl (if neg = true then !dHas kvs d else dHas kvs d)) H
theorem op_inDc (hx : Fit W X) : OpR X (compareOp .In) (rInDc W false) := by
  intro pins s σ H x y v u Q I rx ry ⟨G, G', d, kvs, ix, iy, hk, ⟨a, hxa⟩, q⟩
  subst hxa
  obtain ⟨k, e1, e2⟩ := keyOk_some hk
  cases rx
  cases iy with
  | dct f h dd t =>
    cases ry
    have hkey : (KN W).is s.heap k a := ⟨Is.nest I d ix rfl e1, e2⟩
    have m := dictOf I h dd t
    rw [hx.prog, hx.w]
    have := hx.un
    refine wpAny_in_heap (knd := KN W) (by show X.A.in1.units + 8 < cLine; show X.A.units + 1 + 8 < cLine; omega) hkey dd.ns m ?_
    rw [t.has e1]
    exact ⟨.bl _, H, I.tok _, rfl, q⟩
theorem op_ninDc (hx : Fit W X) : OpR X (compareOp .NotIn) (rInDc W true) := by
  intro pins s σ H x y v u Q I rx ry ⟨G, G', d, kvs, ix, iy, hk, ⟨a, hxa⟩, q⟩
  subst hxa
  obtain ⟨k, e1, e2⟩ := keyOk_some hk
  cases rx
  cases iy with
  | dct f h dd t =>
    cases ry
    have hkey : (KN W).is s.heap k a := ⟨Is.nest I d ix rfl e1, e2⟩
    have m := dictOf I h dd t
    rw [hx.prog, hx.w]
    have := hx.un
    refine notIn_keyed (knd := KN W) (by show X.A.in1.units + 8 < cLine; show X.A.units + 1 + 8 < cLine; omega) hkey dd.ns ⟨_, m, rfl⟩ ?_
    rw [valueAt_pairsH, Option.isSome_map, t.has e1]
    exact ⟨.bl _, H, I.tok _, rfl, q⟩
/-- in a list, in a dict -/
def isTup : D → Bool
  | .tup _ => true
  | _ => false
theorem Is.isTup {F : Addr → Prop} {v : V} {d : D} (x : Is W H F v d) (h : Sl.isTup d = true) : ∃ a, v = .ref a := by
  cases x with
  | tup _ _ _ => exact ⟨_, rfl⟩
  | _ => cases h
def kIn (a b : D) : Option Bool := match b with
  | .lst ds => if eqable 20 a && eqable 20 (.lst ds) then some (ds.any fun z => PyData.eqv (toPy z) (toPy a)) else none
  | .dct kvs => if isTup a && keyOk a then some (dHas kvs a) else none
  | _ => none
def kNotIn (a b : D) : Option Bool := (kIn a b).map (!·)
theorem any_py (ds : List D) (a : D) : (toPys ds).any (fun z => PyData.eqv z (toPy a)) = ds.any fun z => PyData.eqv (toPy z) (toPy a) := by
  induction ds with
  | nil => simp [toPys]
  | cons d ds ih => simp [toPys, ih]
theorem in_conv (neg : Bool) {H : Hp} {a b : D} {va vb : V} {Ga Gb : Addr → Prop} {Q : VK} {c : Bool} (hK : X.K = W.K) (x : Is W H Ga va a) (y : Is W H Gb vb b) (hk : kIn a b = some c) (q : Q (.bl (if neg = true then !c else c)) H) :
    (∃ d ds, Dp X.K H va d ∧ Dp X.K H vb (.list ds) ∧ SeqAt.shaped d = true ∧ SeqAt.shaped (.list ds) = true ∧ Q (.bl (if neg = true then !ds.any fun z => PyData.eqv z d else ds.any fun z => PyData.eqv z d)) H) ∨ rInDc W neg va vb H Q := by
  unfold kIn at hk
  split at hk
  · split at hk
    · rename_i ds hh
      rw [Bool.and_eq_true] at hh
      cases hk
      refine .inl ⟨toPy a, toPys ds, hK ▸ x.dp _ _ hh.1, hK ▸ y.dp _ _ hh.2, shape hh.1 (by decide), shape (d := .lst ds) hh.2 (by decide), ?_⟩
      rw [any_py]
      exact q
    · cases hk
  · split at hk
    · rename_i kvs hh
      rw [Bool.and_eq_true] at hh
      cases hk
      exact .inr ⟨Ga, Gb, a, kvs, x, y, hh.2, x.isTup hh.1, q⟩
    · cases hk
  · cases hk
theorem cmp_in (hx : Fit W X) : CmpR X W .In kIn := by
  refine ⟨_, (op_inD (by have := hx.un; omega)).or (op_inDc hx), fun H a b va vb Ga Gb Q c g x _ y _ hk q => ?_⟩
  exact in_conv false hx.K x y hk q
theorem cmp_notin (hx : Fit W X) : CmpR X W .NotIn kNotIn := by
  refine ⟨_, (op_notInD (by have := hx.un; omega)).or (op_ninDc hx), fun H a b va vb Ga Gb Q c g x _ y _ hk q => ?_⟩
  obtain ⟨c', h1, rfl⟩ := Option.map_eq_some_iff.mp hk
  exact in_conv true hx.K x y h1 q
end

/-! ### d[k] -/
section
variable {X : Cx} {W : Wd} {ms : List Nat} {fr fra frb frc : Bool} {e a b c : Expr} {rest es : List Expr} {f fa fb fc : Ev} {g : EvL} {pos p2 : Pos}
def rIxD (W : Wd) : R2 := fun x y H Q => ∃ (G G' : Addr → Prop) (d dv : D) (kvs : List (D × D)), Is W H G x (.dct kvs) ∧ Is W H G' y d ∧ keyOk d = true ∧ (∃ a, y = .ref a) ∧ dGet kvs d = some dv ∧ ∀ vv, Is W H G vv dv → Q vv H
theorem ix_dct (hx : Fit W X) : IxR X (rIxD W) := by
  intro value slice pins s σ H x y v u Q I rx ry ⟨G, G', d, dv, kvs, ix, iy, hk, ⟨a, hya⟩, hg, q⟩ hs
  subst hya
  obtain ⟨k, e1, e2⟩ := keyOk_some hk
  cases ry
  cases ix with
  | dct f h dd t =>
    cases rx
    have hkey : (KN W).is s.heap k a := ⟨Is.nest I d iy rfl e1, e2⟩
    have m := dictOf I h dd t
    obtain ⟨p, vv, hp, rv, iv⟩ := t.get e1 hg
    refine tail_any m.typeIs PySem.F.slot_dict_getitem.lookup ?_ hs
    rw [hx.prog, hx.w]
    have := hx.un
    refine wpAny_getItem_heap (knd := KN W) (by show X.A.in1.units + 8 < cLine; show X.A.units + 1 + 8 < cLine; omega) hkey m hp ?_
    exact ⟨vv, H, I.tok _, rv, q vv (iv.wide fun _ h => h.elim)⟩
def kIx (a b : D) : M D := match a with
  | .dct kvs => if (isTup b && keyOk b) = true then mO (dGet kvs b) .ret else .fail
  | _ => kIxS a b
abbrev eIx (fa fb : Ev) : Ev := e2 fa fb kIx
/-- a[b]: a list, a tuple, a dict -/
theorem px_ix (hx : Fit W X) (ha : PE X a (tOf W ms fra fa)) (hb : PE X b (tOf W ms frb fb)) (hs : PlainIx b := by exact fun _ _ => rfl) : PE X (.Subscript a b pos) (tOf W ms fra (eIx fa fb)) := by
  refine PE.conv (pe_ix (ix_list.or (ix_tup.or (ix_dct hx))) ha hb hs) fun σ H Q => tOp_conv fun Hs H a b va vb Ga Gb Q e x gx fx y gy fy q => ?_
  unfold kIx at q
  split at q
  · rename_i kvs
    split at q
    · rename_i hh
      rw [Bool.and_eq_true] at hh
      obtain ⟨dv, hd, p⟩ := mO_All q
      exact .inr (.inr ⟨Ga, Gb, b, dv, kvs, x, y, hh.2, y.isTup hh.1, hd, fun vv iv => p vv H Ga (Ext.refl e.good) iv gx fx⟩)
    · exact q.elim
  · unfold kIxS at q
    split at q
    · obtain ⟨d, hd, p⟩ := mO_All q
      cases x with
      | tup h1 z x1 =>
        obtain ⟨v, hv, i1⟩ := x1.atI hd
        exact .inr (.inl ⟨_, _, _, v, rfl, y.toInt, .inl (.inl h1), hv, p v H Ga (Ext.refl e.good) i1 gx fx⟩)
    · obtain ⟨d, hd, p⟩ := mO_All q
      cases x with
      | lst f1 h1 z x1 =>
        have x1 := IsAll.wide (fun _ h => h.1) x1
        obtain ⟨v, hv, i1⟩ := x1.atI hd
        exact .inl ⟨_, _, _, v, rfl, y.toInt, .inl (.inl h1), hv, p v H Ga (Ext.refl e.good) i1 gx fx⟩
    · exact q.elim

/-! ### {}, {k: v} -/
/-- a new dict of what stands -/
theorem Is.newD {H : Hp} {p : Addr} {o : Obj} {xs : List (NestedKey × Addr × Value)} {kvs : List (D × D)} (g : Good W H) (x : IsEnts W H (fun _ => False) xs kvs) (dd : DObj W p o xs) (hp : H p = none) :
    Ext W H (upd H p (dO p o)) ∧ Is W (upd H p (dO p o)) (fun a => a = p) (.ref p) (.dct kvs) ∧ FOk W (upd H p (dO p o)) fun a => a = p := by
  have e := Ext.new (o := dO p o) g hp
  have nv : ¬ W.vol p := fun v => by
    have z := (Is.newL (F := fun _ => False) (vs := []) (ds := []) g .nil .nil hp (Nat.zero_le _)).2.2 p (.inl rfl)
    exact z.2 v
  refine ⟨e, .dct rfl upd_same dd (x.stay (fun a o f q => f.elim) fun a ys q => ?_), fun a h => by subst h; exact ⟨⟨_, upd_same, trivial⟩, nv⟩⟩
  rw [upd_ne (ne_of_none q hp)]
  exact q
def eDict0 : Ev := fun _ => .ret (.dct [])
theorem px_dict0 : PE X (.Dict [] [] pos) (tOf W ms true eDict0) := by
  refine ⟨fun pins s σ H Q I ⟨H0, ρ, re, q⟩ => ?_⟩
  have hn := I.hok.fresh (Nat.le_refl s.heap.objs.size)
  have ns := ns_new I (Nat.le_refl _)
  refine wpAny_Dict_empty ?_
  have m : (s.heap.push { cls := .type "dict", data := .dict #[] }).DictOfH (KN W) s.heap.objs.size [] := Heap.DictOfH.new s.heap
  obtain ⟨o, ho, dd⟩ := dobj_of m ns (Nat.zero_le _)
  obtain ⟨e1, i1, k1⟩ := Is.newD (kvs := []) re.good .nil dd hn
  exact ⟨.ref s.heap.objs.size, _, I.laid (t' := s.toks) (fun _ _ z => Heap.get?_push_of_some _ z) (Nat.le_refl _) (dO_ok ho), rfl, q _ _ _ e1 i1 k1 fun _ a h => by subst h; exact hn⟩
/-- {k: v}, at the objects -/
theorem dict_one {P : Program} {w : World} {A : Around} {E : Value → Shared → Prop} {s : Shared} {env : Env} {knd : HeapKind P w NestedKey} {k v : Expr} {Q : Value → Shared → Prop} (hu : knd.room A)
    (h : wpAny (model P w) A (eval k env) (fun kv s1 => wpAny (model P w) A (eval v env) (fun vv s2 => ∃ kk a, kv = .ref a ∧ knd.is s2.heap kk a ∧ s2.heap.DictOfH knd s.heap.objs.size [] ∧
      ∀ h' tk, h'.DictOfH knd s.heap.objs.size [(kk, a, vv)] → Heap.SameBut s.heap.objs.size s2.heap h' → Q (.ref s.heap.objs.size) { s2 with heap := h', toks := tk }) E s1) E
      { s with heap := s.heap.push { cls := .type "dict", data := .dict #[] } }) :
    wpAny (model P w) A (eval (.Dict [some k] [v] pos) env) Q E s := by
  have hn := pairTrees_length [some k] [v] env pos rfl rfl
  rw [arm_eval_Dict, zip_pairTrees [some k] [v] env pos rfl rfl, dictDisplay_pairs _ (fun z => by rw [z] at hn; cases hn) (by rw [hn]; show 1 < 17; decide)]
  refine wpAny_bind (wpAny_standAt (wpAny_bind (wpAny_subDictH (knd := knd) (Q := fun d s' => wpAny (model P w) A (pure (Value.ref d)) Q E s') hu (by rw [hn]; show 1 ≤ 15; decide) ?_)))
  refine pairTrees_cons_walk (wpAny_mono h (fun kv s1 h1 => wpAny_mono h1 (fun vv s2 h2 => pairTrees_nil_walk ?_) fun _ _ e => e) fun _ _ e => e)
  obtain ⟨kk, a, rfl, hk, hm, hq⟩ := h2
  exact ⟨[(kk, a, vv)], ⟨rfl, rfl, hk, trivial⟩, hm, fun h' tk hd hs => wpAny_pure (hq h' tk hd hs)⟩
def eDict1 (fk fv : Ev) : Ev := fun ρ => (fk ρ).bind fun k => (fv ρ).bind fun v => if (isTup k && (keyOk k && (imm k && imm v))) = true then .ret (.dct [(k, v)]) else .fail
theorem px_dict1 (hx : Fit W X) {k v : Expr} {fk fv : Ev} {frk frv : Bool} (hk : PE X k (tOf W ms frk fk)) (hv : PE X v (tOf W ms frv fv)) : PE X (.Dict [some k] [v] pos) (tOf W ms true (eDict1 fk fv)) := by
  refine ⟨fun pins s σ H Q I ⟨H0, ρ, re, q⟩ => ?_⟩
  have hn := I.hok.fresh (Nat.le_refl s.heap.objs.size)
  have ns := ns_new I (Nat.le_refl _)
  -- the new dict stands empty
  have m0 : (s.heap.push { cls := .type "dict", data := .dict #[] }).DictOfH (KN W) s.heap.objs.size [] := Heap.DictOfH.new s.heap
  obtain ⟨o0, ho0, dd0⟩ := dobj_of m0 ns (Nat.zero_le _)
  obtain ⟨e0, _, k0⟩ := Is.newD (kvs := []) re.good .nil dd0 hn
  have I0 : Inv X pins σ (upd H s.heap.objs.size (dO s.heap.objs.size o0)) { s with heap := s.heap.push { cls := .type "dict", data := .dict #[] } } := I.laid (t' := s.toks) (fun _ _ z => Heap.get?_push_of_some _ z) (Nat.le_refl _) (dO_ok ho0)
  have re0 := re.step e0
  have un := hx.un
  have hk' := hk.run
  have hv' := hv.run
  rw [hx.prog, hx.w] at hk' hv' ⊢
  refine dict_one (knd := KN W) (by show X.A.units + 8 < cLine; omega) ?_
  refine thn (hk' pins _ σ _ (fun vk H1 => ∃ dk, Ext W (upd H s.heap.objs.size (dO s.heap.objs.size o0)) H1 ∧ (∃ G, Is W H1 G vk dk ∧ FOk W H1 G) ∧ (M.bind (fv ρ) fun v => if (isTup dk && (keyOk dk && (imm dk && imm v))) = true then .ret (.dct [(dk, v)]) else .fail).All (Post W H true Q)) I0 ⟨H0, ρ, re0, q.bind.mono fun dk p v H1 G e x g _ => ⟨dk, e, ⟨G, x, g⟩, p⟩⟩) fun uk s1 ⟨vk, H1, I1, rk, dk, e1, ⟨Gk, xk, gk⟩, q1⟩ => ?_
  refine thn (hv' pins _ σ _ (fun vv H2 => ∃ dv, Ext W H1 H2 ∧ (∃ G, Is W H2 G vv dv ∧ FOk W H2 G) ∧ ((if (isTup dk && (keyOk dk && (imm dk && imm dv))) = true then (.ret (.dct [(dk, dv)]) : M D) else .fail).All (Post W H true Q))) I1 ⟨H0, ρ, re0.step e1, q1.bind.mono fun dk p v H1 G e x g _ => ⟨dk, e, ⟨G, x, g⟩, p⟩⟩) fun uv s2 ⟨vv, H2, I2, rv, dv, e2, ⟨Gv, xv, gv⟩, q2⟩ => ?_
  split at q2
  · rename_i hh
    rw [Bool.and_eq_true, Bool.and_eq_true, Bool.and_eq_true] at hh
    obtain ⟨h1, h2, h3, h4⟩ := hh
    obtain ⟨kk, hk1, hk2⟩ := keyOk_some h2
    have xk2 : Is W H2 (fun _ => False) vk dk := (xk.ext e1.good gk e2).imm h3
    have xv2 : Is W H2 (fun _ => False) vv dv := xv.imm h4
    obtain ⟨a, rfl⟩ := xk.isTup h1
    cases rk
    have nv := (k0 _ rfl).2
    have hp0 : upd H s.heap.objs.size (dO s.heap.objs.size o0) s.heap.objs.size = some (dO s.heap.objs.size o0) := upd_same
    have hp2 : H2 s.heap.objs.size = some (dO s.heap.objs.size o0) := e2.keep _ _ (e1.keep _ _ hp0 nv) nv
    refine ⟨kk, a, rfl, ⟨Is.nest I2 dk xk2 rfl hk1, hk2⟩, dictOf I2 (F := fun _ => False) hp2 dd0 .nil, fun h' tk hd hs => ?_⟩
    obtain ⟨o1, ho1, dd1⟩ := dobj_of hd ns (by rw [sizeLine_eq]; show 1 ≤ _; decide)
    have I3 := d_write (t' := tk) I2 (ob := dO s.heap.objs.size o1) (by rw [hp2]; exact True.intro) hs ⟨o1, ho1⟩ (dO_ok ho1)
    have e12 := e1.trans e2
    have ext3 : Ext W H (upd H2 s.heap.objs.size (dO s.heap.objs.size o1)) := by
      refine ⟨fun b o q n => ?_, fun b q => ?_, e2.good.write nv⟩
      · have nb : b ≠ s.heap.objs.size := ne_of_none q hn
        rw [upd_ne nb]
        exact e12.keep b o (by rw [upd_ne nb]; exact q) n
      · by_cases hb : b = s.heap.objs.size
        · subst hb; exact absurd hn q
        · rw [upd_ne hb]
          exact e12.dom b (by rw [upd_ne hb]; exact q)
    have st : ∀ {v d}, Is W H2 (fun _ => False) v d → Is W (upd H2 s.heap.objs.size (dO s.heap.objs.size o1)) (fun _ => False) v d := fun x => x.stay (fun a o f q => f.elim) fun a ys q => by
      rw [upd_ne (fun z => by rw [z, hp2] at q; cases q)]
      exact q
    refine ⟨.ref s.heap.objs.size, _, I3, rfl, q2 (.ref s.heap.objs.size) _ (fun b => b = s.heap.objs.size) ext3 (.dct rfl upd_same dd1 ?_) (fun b hb => by subst hb; exact ⟨⟨_, upd_same, trivial⟩, nv⟩) fun _ b hb => by subst hb; exact hn⟩
    exact (IsEnts.cons hk1 hk2 (st xk2) rv (st xv2) .nil).stay (fun a o f q => f.elim) fun a ys q => q
  · exact q2.elim
end
end Sl
end S_Sl6
noncomputable section S_Sl7
set_option Elab.async false
set_option linter.all false
set_option maxRecDepth 100000
set_option maxHeartbeats 1000000
namespace Sl
open PySem PySem.Spec PyProof.Rows L2

/-! ### statements by data -/
inductive Out where
  | nx (ρ : Rho)
  | rt (d : D)
  | bk (ρ : Rho)
  | ct (ρ : Rho)
abbrev Sv := Rho → M Out
def OutOk (W : Wd) (H0 : Hp) (ms : List Nat) (E : Ends) : Out → Prop
  | .nx ρ => ∀ σ' H', Rel W H0 ms σ' H' ρ → E.nx σ' H'
  | .bk ρ => ∀ σ' H', Rel W H0 ms σ' H' ρ → E.bk σ' H'
  | .ct ρ => ∀ σ' H', Rel W H0 ms σ' H' ρ → E.ct σ' H'
  | .rt d => ∀ v H' G, Ext W H0 H' → Is W H' G v d → FOk W H' G → (∀ a, G a → H0 a = none) → E.rt v H'
def tsOf (W : Wd) (ms : List Nat) (F : Sv) : TS := fun E σ H => ∃ H0 ρ, Rel W H0 ms σ H ρ ∧ (F ρ).All (OutOk W H0 ms E)
def sNx : Sv := fun ρ => .ret (.nx ρ)
def seqO (G : Sv) : Out → M Out
  | .nx ρ => G ρ
  | o => .ret o
def sSeq (F G : Sv) : Sv := fun ρ => (F ρ).bind (seqO G)
def sIf (c : EvB) (F G : Sv) : Sv := fun ρ => (c ρ).bind fun b => if b = true then F ρ else G ρ
def sDrop (f : Ev) : Sv := fun ρ => (f ρ).bind fun _ => .ret (.nx ρ)
def sRet (f : Ev) : Sv := fun ρ => (f ρ).bind fun d => .ret (.rt d)
def sSet (i : Nat) (f : Ev) : Sv := fun ρ => (f ρ).bind fun d => .ret (.nx (ρ.set i (some d)))
def sFail : Sv := fun _ => .fail
section
variable {X : Cx} {W : Wd} {ms : List Nat} {fr fra frb frc : Bool} {e a b c iter : Expr} {es : List Expr} {f fa fb fc : Ev} {g : EvL} {gc : EvB} {F G : Sv} {st : Stmt} {rest body orelse : List Stmt} {pos p2 p3 p4 p5 p6 : Pos} {x y z : Str} {i j l : Nat} {H0 H H' : Hp} {σ : L2.St} {ρ : Rho} {E : Ends}
theorem tss_nil : PSs X [] (tsOf W ms sNx) := PSs.conv pss_nil fun E σ H ⟨H0, ρ, re, q⟩ => q σ H re
theorem seqO_ok {E : Ends} {o : Out} (h : (seqO G o).All (OutOk W H0 ms E)) : OutOk W H0 ms { E with nx := tsOf W ms G E } o := by
  cases o with
  | nx ρ => exact fun σ' H' re => ⟨H0, ρ, re, h⟩
  | rt d => exact h
  | bk ρ => exact h
  | ct ρ => exact h
theorem tss_cons (h1 : PS X st (tsOf W ms F)) (h2 : PSs X rest (tsOf W ms G)) : PSs X (st :: rest) (tsOf W ms (sSeq F G)) :=
  PSs.conv (pss_cons h1 h2) fun E σ H ⟨H0, ρ, re, q⟩ => ⟨H0, ρ, re, q.bind.mono fun o h => seqO_ok h⟩
theorem tss_one (h1 : PS X st (tsOf W ms F)) : PSs X [st] (tsOf W ms F) := pss_one h1
theorem ts_if (hc : PT X c (ttOf W ms gc)) (ha : PSs X body (tsOf W ms F)) (hb : PSs X orelse (tsOf W ms G)) : PS X (.If c body orelse pos) (tsOf W ms (sIf gc F G)) := by
  refine PS.conv (L2.ps_if hc ha hb) fun E σ H ⟨H0, ρ, re, q⟩ => ?_
  refine ttOf.use re q.bind fun d p H1 e1 => ?_
  cases d with
  | true => exact iteT ⟨H0, ρ, re.step e1, p⟩
  | false => exact iteF ⟨H0, ρ, re.step e1, p⟩
theorem ts_drop (he : PE X e (tOf W ms fr f)) (hs : swapsWith e none pos.line X.env = pure false := by rfl) : PS X (.Expr e pos) (tsOf W ms (sDrop f)) := by
  refine PS.conv (L2.ps_expr he hs) fun E σ H ⟨H0, ρ, re, q⟩ => ?_
  exact tOf.use re q.bind fun d p v H1 G e1 x g _ => p σ H1 (re.step e1)
theorem ts_ret (he : PE X e (tOf W ms true f)) : PS X (.Return (some e) pos) (tsOf W ms (sRet f)) := by
  refine PS.conv (L2.ps_ret he) fun E σ H ⟨H0, ρ, re, q⟩ => ?_
  exact tOf.use re q.bind fun d p v H1 G e1 x g fx => p v H1 G (re.ext.trans e1) x g fun a ha => re.ext.free (fx rfl a ha)
/-- return of what is changed in place -/
theorem ts_retv (h : PE X e (tVar i)) (hi : i ∈ ms) : PS X (.Return (some e) pos) (tsOf W ms (sRet (eVar i))) := by
  refine PS.conv (L2.ps_ret h) fun E σ H ⟨H0, ρ, re, q⟩ => ?_
  unfold sRet eVar at q
  split at q
  · rename_i d hd
    obtain ⟨F, h1, h2, h3, h4⟩ := re.at_
    obtain ⟨v, hv, x⟩ := h1 i d hd
    exact ⟨v, hv, q v H (F i) re.ext x (h2 i) (h3 i hi)⟩
  · exact q.elim
theorem ts_never : PS X st (tsOf W ms sFail) := PS.conv ps_never fun E σ H ⟨H0, ρ, re, q⟩ => q
/-- name = value -/
theorem ts_set (hN : X.N.Nodup) (hi : X.N[i]? = some x) (hx : Loc X.env.scope x) (he : PE X e (tOf W ms fr f)) (hm : ms = [] ∨ fr = true) (hs : swapsWith e (some (.Name x p2)) pos.line X.env = pure false := by rfl) (hf : X.fn x = true ∨ X.env.scope.names.lookup x = some .local := by first | exact .inl rfl | exact .inr rfl | assumption) :
    PS X (.Assign [.Name x p2] e pos) (tsOf W ms (sSet i f)) := by
  refine PS.conv (L2.ps_set hN hi hx he hs hf) fun E σ H ⟨H0, ρ, re, q⟩ => ?_
  exact tOf.use re q.bind fun d p v H1 G e1 x g fx => p _ H1 (re.set e1 x g (hm.imp id fun h => .inl (fx h)))
/-- name = name, the old one is not used again -/
def sMove (i j : Nat) : Sv := fun ρ => match ρ[j]? with
  | some (some d) => .ret (.nx ((ρ.set i (some d)).set j none))
  | _ => .fail
theorem ts_move (hN : X.N.Nodup) (hi : X.N[i]? = some x) (hx : Loc X.env.scope x) (he : PE X e (tVar j)) (hij : i ≠ j) (hm : i ∉ ms ∨ j ∈ ms) (hs : swapsWith e (some (.Name x p2)) pos.line X.env = pure false := by rfl) (hf : X.fn x = true ∨ X.env.scope.names.lookup x = some .local := by first | exact .inl rfl | exact .inr rfl | assumption) :
    PS X (.Assign [.Name x p2] e pos) (tsOf W ms (sMove i j)) := by
  refine PS.conv (L2.ps_set hN hi hx he hs hf) fun E σ H ⟨H0, ρ, re, q⟩ => ?_
  unfold sMove at q
  split at q
  · rename_i d hd
    obtain ⟨v, G, hv, _⟩ := re.get hd
    exact ⟨v, hv, q _ H (re.move hij hd hv hm)⟩
  · exact q.elim
/-- a, b = x, y -/
def sPar (i j : Nat) (fa fb : Ev) : Sv := fun ρ => (fa ρ).bind fun a => (fb ρ).bind fun b => .ret (.nx ((ρ.set i (some a)).set j (some b)))
theorem ts_par {px py pt : Pos} {kt k2 pt2} (hc : X.calm = true) (hN : X.N.Nodup) (hi : X.N[i]? = some x) (hj : X.N[j]? = some y) (hij : i ≠ j)
    (hx : X.env.scope.names.lookup x = some .local) (hy : X.env.scope.names.lookup y = some .local) (ha : PE X a (tOf W ms fra fa)) (hb : PE X b (tOf W ms frb fb)) (hma : ms = [] ∨ fra = true) (hmb : ms = [] ∨ frb = true)
    (hw : swappedStores [.Tuple [.Name x px, .Name y py] kt pt] (.Tuple [a, b] k2 pt2) X.env = pure (some [x, y]))
    (hs : swapsWithSole [.Tuple [.Name x px, .Name y py] kt pt] (.Tuple [a, b] k2 pt2) pos.line X.env = pure false := by rfl)
    (hs1 : starEach (a :: [b]) X.env = (false, eval a X.env) :: starEach [b] X.env := by rfl) (hs2 : starEach (b :: []) X.env = (false, eval b X.env) :: starEach [] X.env := by rfl) :
    PS X (.Assign [.Tuple [.Name x px, .Name y py] kt pt] (.Tuple [a, b] k2 pt2) pos) (tsOf W ms (sPar i j fa fb)) := by
  refine PS.conv (L2.ps_par hc hN hi hj hij hx hy (pa_cons ha (pa_cons hb pa_nil hs2) hs1) hw hs) fun E σ H ⟨H0, ρ, re, q⟩ => ?_
  refine tOf.use re q.bind fun d p v H1 G e1 x g fx => ?_
  refine tOf.use (re.step e1) p.bind fun d2 p2 v2 H2 G2 e2 x2 g2 fx2 => ?_
  exact ⟨v, v2, rfl, p2 _ H2 ((re.set e1 x g (hma.imp id fun h => .inl (fx h))).set e2 x2 g2 (hmb.imp id fun h => .inl (fx2 h)))⟩
def sPar3 (i j l : Nat) (fa fb fc : Ev) : Sv := fun ρ => (fa ρ).bind fun a => (fb ρ).bind fun b => (fc ρ).bind fun c => .ret (.nx (((ρ.set i (some a)).set j (some b)).set l (some c)))
theorem ts_par3 {px py pz pt : Pos} {kt k2 pt2} (hc : X.calm = true) (hN : X.N.Nodup) (hi : X.N[i]? = some x) (hj : X.N[j]? = some y) (hl : X.N[l]? = some z) (hij : i ≠ j) (hil : i ≠ l) (hjl : j ≠ l)
    (hx : X.env.scope.names.lookup x = some .local) (hy : X.env.scope.names.lookup y = some .local) (hz : X.env.scope.names.lookup z = some .local) (ha : PE X a (tOf W ms fra fa)) (hb : PE X b (tOf W ms frb fb)) (hcc : PE X c (tOf W ms frc fc)) (hma : ms = [] ∨ fra = true) (hmb : ms = [] ∨ frb = true) (hmc : ms = [] ∨ frc = true)
    (hw : swappedStores [.Tuple [.Name x px, .Name y py, .Name z pz] kt pt] (.Tuple [a, b, c] k2 pt2) X.env = pure (some [x, y, z]))
    (hs : swapsWithSole [.Tuple [.Name x px, .Name y py, .Name z pz] kt pt] (.Tuple [a, b, c] k2 pt2) pos.line X.env = pure false := by rfl)
    (hs1 : starEach (a :: [b, c]) X.env = (false, eval a X.env) :: starEach [b, c] X.env := by rfl) (hs2 : starEach (b :: [c]) X.env = (false, eval b X.env) :: starEach [c] X.env := by rfl) (hs3 : starEach (c :: []) X.env = (false, eval c X.env) :: starEach [] X.env := by rfl) :
    PS X (.Assign [.Tuple [.Name x px, .Name y py, .Name z pz] kt pt] (.Tuple [a, b, c] k2 pt2) pos) (tsOf W ms (sPar3 i j l fa fb fc)) := by
  refine PS.conv (L2.ps_par3 hc hN hi hj hl hij hil hjl hx hy hz (pa_cons ha (pa_cons hb (pa_cons hcc pa_nil hs3) hs2) hs1) hw hs) fun E σ H ⟨H0, ρ, re, q⟩ => ?_
  refine tOf.use re q.bind fun d p v H1 G e1 x g fx => ?_
  refine tOf.use (re.step e1) p.bind fun d2 p2 v2 H2 G2 e2 x2 g2 fx2 => ?_
  refine tOf.use ((re.step e1).step e2) p2.bind fun d3 p3 v3 H3 G3 e3 x3 g3 fx3 => ?_
  exact ⟨v, v2, v3, rfl, p3 _ H3 (((re.set e1 x g (hma.imp id fun h => .inl (fx h))).set e2 x2 g2 (hmb.imp id fun h => .inl (fx2 h))).set e3 x3 g3 (hmc.imp id fun h => .inl (fx3 h)))⟩

/-! ### targets -/
theorem set_wash (σ : L2.St) (i j : Nat) (a : Option V) : ((σ.set i a).set j none).set i none = (σ.set j none).set i none := by
  by_cases h : i = j
  · subst h; simp
  · rw [List.set_comm _ _ h, List.set_set]
theorem wipe2 (σ : L2.St) (i j : Nat) (a b : Option V) : wipe ((σ.set i a).set j b) [i, j] = wipe σ [i, j] := by
  show (((σ.set i a).set j b).set j none).set i none = (σ.set j none).set i none
  rw [List.set_set, set_wash]
theorem wipe3 (σ : L2.St) (i j l : Nat) (a b c : Option V) : wipe (((σ.set i a).set j b).set l c) [i, j, l] = wipe σ [i, j, l] := by
  show (((((σ.set i a).set j b).set l c).set l none).set j none).set i none = ((σ.set l none).set j none).set i none
  rw [List.set_set]
  by_cases h : j = l
  · subst h
    rw [List.set_set, List.set_set, List.set_set, set_wash]
  · rw [List.set_comm _ _ h, List.set_set]
    by_cases h2 : i = l
    · subst h2
      by_cases h3 : i = j
      · exact absurd h3.symm h
      · rw [List.set_set] <;> simp [List.set_comm _ _ h3]
    · rw [List.set_comm _ _ h2, set_wash]
abbrev TVs := List Nat
abbrev Gv := D → Rho → M Rho
/-- a value that the base has is stored -/
def tgOf (W : Wd) (ms tv : List Nat) (F : Gv) : TG := fun v σ H Q => ∃ H0 ρ d G, Rel W H0 ms σ H ρ ∧ Is W H G v d ∧ FOk W H G ∧ (ms = [] ∨ (∀ a, G a → H0 a ≠ none)) ∧ (F d ρ).All fun ρ' => ∀ σ', wipe σ' tv = wipe σ tv → Rel W H0 ms σ' H ρ' → Q σ' H
theorem PG.conv {tg : Expr} {t t' : TG} (h : PG X tg t) (c : ∀ v σ H Q, t' v σ H Q → t v σ H Q) : PG X tg t' := ⟨fun pins s σ H v u Q I r q => h.run pins s σ H v u Q I r (c v σ H Q q)⟩
def gVar (i : Nat) : Gv := fun d ρ => .ret (ρ.set i (some d))
theorem tg_name (hN : X.N.Nodup) (hi : X.N[i]? = some x) (hx : Loc X.env.scope x) (hm : i ∉ ms) (hf : X.fn x = true ∨ X.env.scope.names.lookup x = some .local := by first | exact .inl rfl | exact .inr rfl | assumption) : PG X (.Name x pos) (tgOf W ms [i] (gVar i)) := by
  refine PG.conv (pg_name hN hi hx hf) fun v σ H Q ⟨H0, ρ, d, G, re, ix, g, hb, q⟩ => ?_
  refine q _ (by simp [wipe]) (re.set (Ext.refl re.good) ix g ?_)
  rcases hb with h | h
  · exact .inl h
  · exact .inr (.inr ⟨hm, h⟩)
def gTup2 (i j : Nat) : Gv := fun d ρ => match d with
  | .tup [a, b] => .ret ((ρ.set i (some a)).set j (some b))
  | _ => .fail
theorem tg_tup2 {px py : Pos} {k : Nat} (hx : Fit W X) (hi : X.N[i]? = some x) (hj : X.N[j]? = some y) (lx : Loc X.env.scope x) (ly : Loc X.env.scope y) (hm : i ∉ ms) (hm2 : j ∉ ms) (hf : X.fn x = true ∨ X.env.scope.names.lookup x = some .local := by first | exact .inl rfl | exact .inr rfl | assumption) (hf2 : X.fn y = true ∨ X.env.scope.names.lookup y = some .local := by first | exact .inl rfl | exact .inr rfl | assumption) :
    PG X (.Tuple [.Name x px, .Name y py] k pos) (tgOf W ms [i, j] (gTup2 i j)) := by
  refine PG.conv (pg_tup hx.calm (pgs_cons (pg_name hx.nd hi lx hf) (pgs_cons (pg_name hx.nd hj ly hf2) pgs_nil)) (n := 2)) fun v σ H Q ⟨H0, ρ, d, G, re, ix, g, hb, q⟩ => ?_
  unfold gTup2 at q
  split at q
  · cases ix with
    | tup h1 z xs =>
      obtain ⟨v1, v2, rfl, y1, y2⟩ := xs.un2
      have nw : ∀ {l : Nat}, l ∉ ms → ms = [] ∨ (∀ a, G a → H a = none) ∨ (l ∉ ms ∧ ∀ a, G a → H0 a ≠ none) := fun {l} hl => by
        rcases hb with h | h
        · exact .inl h
        · exact .inr (.inr ⟨hl, h⟩)
      exact ⟨_, _, rfl, .inl (.inl h1), rfl, v1, _, rfl, v2, _, rfl, rfl, q _ (wipe2 ..) ((re.set (Ext.refl re.good) y1 g (nw hm)).set (Ext.refl re.good) y2 g (nw hm2))⟩
  · exact q.elim
def gTup3 (i j l : Nat) : Gv := fun d ρ => match d with
  | .tup [a, b, c] => .ret (((ρ.set i (some a)).set j (some b)).set l (some c))
  | _ => .fail
theorem IsAll.un3 {H : Hp} {F : Addr → Prop} {vs : List V} {d d2 d3 : D} (x : IsAll W H F vs [d, d2, d3]) : ∃ v v2 v3, vs = [v, v2, v3] ∧ Is W H F v d ∧ Is W H F v2 d2 ∧ Is W H F v3 d3 := by
  cases x with
  | cons a b =>
    obtain ⟨v, v2, rfl, y, y2⟩ := b.un2
    exact ⟨_, _, _, rfl, a, y, y2⟩
theorem tg_tup3 {px py pz : Pos} {k : Nat} (hx : Fit W X) (hi : X.N[i]? = some x) (hj : X.N[j]? = some y) (hl : X.N[l]? = some z) (lx : Loc X.env.scope x) (ly : Loc X.env.scope y) (lz : Loc X.env.scope z) (hm : i ∉ ms) (hm2 : j ∉ ms) (hm3 : l ∉ ms) (hf : X.fn x = true ∨ X.env.scope.names.lookup x = some .local := by first | exact .inl rfl | exact .inr rfl | assumption) (hf2 : X.fn y = true ∨ X.env.scope.names.lookup y = some .local := by first | exact .inl rfl | exact .inr rfl | assumption) (hf3 : X.fn z = true ∨ X.env.scope.names.lookup z = some .local := by first | exact .inl rfl | exact .inr rfl | assumption) :
    PG X (.Tuple [.Name x px, .Name y py, .Name z pz] k pos) (tgOf W ms [i, j, l] (gTup3 i j l)) := by
  refine PG.conv (pg_tup hx.calm (pgs_cons (pg_name hx.nd hi lx hf) (pgs_cons (pg_name hx.nd hj ly hf2) (pgs_cons (pg_name hx.nd hl lz hf3) pgs_nil))) (n := 3)) fun v σ H Q ⟨H0, ρ, d, G, re, ix, g, hb, q⟩ => ?_
  unfold gTup3 at q
  split at q
  · cases ix with
    | tup h1 z xs =>
      obtain ⟨v1, v2, v3, rfl, y1, y2, y3⟩ := xs.un3
      have nw : ∀ {l : Nat}, l ∉ ms → ms = [] ∨ (∀ a, G a → H a = none) ∨ (l ∉ ms ∧ ∀ a, G a → H0 a ≠ none) := fun {l} hl => by
        rcases hb with h | h
        · exact .inl h
        · exact .inr (.inr ⟨hl, h⟩)
      exact ⟨_, _, rfl, .inl (.inl h1), rfl, v1, _, rfl, v2, _, rfl, v3, _, rfl, rfl, q _ (wipe3 ..) (((re.set (Ext.refl re.good) y1 g (nw hm)).set (Ext.refl re.good) y2 g (nw hm2)).set (Ext.refl re.good) y3 g (nw hm3))⟩
  · exact q.elim
/-- target = a value that does not change -/
def sTgt (F : Gv) (f : Ev) : Sv := fun ρ => (f ρ).bind fun d => (chk d).bind fun d => (F d ρ).bind fun ρ' => .ret (.nx ρ')
theorem chk_All {d : D} {P : D → Prop} (h : (chk d).All P) : imm d = true ∧ P d := by
  unfold chk at h
  split at h
  · rename_i hi; exact ⟨hi, h⟩
  · exact h.elim
theorem ts_tgt {tg : Expr} {F : Gv} {tv : List Nat} (hg : PG X tg (tgOf W ms tv F)) (he : PE X e (tOf W ms fr f)) (hs : swapsWithSole [tg] e pos.line X.env = pure false := by rfl) (hw : swappedStores [tg] e X.env = pure none := by rfl)
    (h1 : (assignEach [tg] X.env).map (·.2) = [assign tg X.env] := by rfl) : PS X (.Assign [tg] e pos) (tsOf W ms (sTgt F f)) := by
  refine PS.conv (L2.ps_asg he hg hs hw h1) fun E σ H ⟨H0, ρ, re, q⟩ => ?_
  refine tOf.use re q.bind fun d p v H1 G e1 x g fx => ?_
  obtain ⟨hi, p⟩ := chk_All p.bind
  exact ⟨H0, ρ, d, fun _ => False, re.step e1, x.imm hi, .nil, .inr fun a h => h.elim, p.bind.mono fun ρ' p σ' _ re' => p σ' H1 re'⟩
end

/-! ### what is walked -/
def WalkD (W : Wd) (J : It) (H1 : Hp) (ds : List D) : Prop := ∃ (G : Hp → Prop) (Y : Nat → Hp → V → Hp → Prop), Walk J ds.length G Y ∧ (∀ H, Ext W H1 H → G H) ∧
  ∀ i x H H', i < ds.length → Ext W H1 H → Y i H x H' → Ext W H H' ∧ ∃ d G', ds[i]? = some d ∧ Is W H' G' x d ∧ FOk W H' G' ∧ ∀ a, G' a → H1 a ≠ none
def tiOf (W : Wd) (ms : List Nat) (f : EvL) : TI := fun σ H R => ∃ H0 ρ, Rel W H0 ms σ H ρ ∧ (f ρ).All fun ds => ∀ J H1 H', Ext W H H' → Ext W H0 H1 → Rel W H1 ms σ H' ρ → WalkD W J H1 ds → R J H'
theorem PI.conv {X : Cx} {tg iter : Expr} {t t' : TI} (h : PI X tg iter t) (c : ∀ σ H R, t' σ H R → t σ H R) : PI X tg iter t' := ⟨fun pins s σ H R I q => h.run pins s σ H R I (c σ H R q)⟩
def iSeq (K : PySem.W.Frag) (tl : TE) : TI := fun σ H R => tl σ H fun x H1 => ∃ a xs, x = .ref a ∧ ((SqL K H1 a xs ∧ R (Itl K a) H1) ∨ (SqT K H1 a xs ∧ R (Itt K a) H1))
theorem pi_seq {X : Cx} {tg l : Expr} {tl : TE} (hl : PE X l tl) : PI X tg l (iSeq X.K tl) := by
  refine ⟨fun pins s σ H R I h => ?_⟩
  refine thn (hl.run pins s σ H _ I h) fun v s1 ⟨x, H1, I1, r1, q1⟩ => ?_
  obtain ⟨a, xs, e, q⟩ := q1
  subst e
  cases r1
  have fp : ∀ b ∈ [s1.heap.objs.size], FpOk X pins H1 b := fun b hb => by
    have e : b = s1.heap.objs.size := by simpa using hb
    subst e
    exact I1.fpOk (Nat.le_refl _) (I1.hok.fresh (Nat.le_refl _))
  rcases q with ⟨hq, q⟩ | ⟨hq, q⟩
  · obtain ⟨its, rv, p, hz⟩ := I1.list hq
    refine wpAny_pyIter_list p.isList ?_
    exact ⟨s1.heap.objs.size, [s1.heap.objs.size], _, _, H1, rfl, I1.kept (t' := s1.toks) fun b o e => Heap.get?_push_of_some _ e, turn_list a _, ⟨_, Heap.get?_push_size _ rfl, rfl, rfl⟩, fp, q⟩
  · obtain ⟨its, rv, p, hz⟩ := I1.tuple hq
    refine wpAny_pyIter_tuple (show s1.heap.IsTuple a its.toArray from p) ?_
    exact ⟨s1.heap.objs.size, [s1.heap.objs.size], _, _, H1, rfl, I1.kept (t' := s1.toks) fun b o e => Heap.get?_push_of_some _ e, turn_tuple a _, ⟨_, Heap.get?_push_size _ rfl, rfl, rfl⟩, fp, q⟩
section
variable {X : Cx} {W : Wd} {ms : List Nat} {fr fra : Bool} {e a iter tg : Expr} {f fa : Ev} {g : EvL} {pos p : Pos} {x : Str} {i j : Nat} {H0 H H' H1 : Hp} {σ : L2.St} {ρ : Rho}
theorem Is.dom {H : Hp} {G : Addr → Prop} (f : FOk W H G) : ∀ a, G a → H a ≠ none := fun a h => f.dom h
theorem walkD_lst {v : V} {ds : List D} {G : Addr → Prop} (g1 : Good W H1) (ix : Is W H1 G v (.lst ds)) (gx : FOk W H1 G) : ∃ a, v = .ref a ∧ (∀ H, Ext W H1 H → ∃ xs, SqL W.K H a xs) ∧ WalkD W (Itl W.K a) H1 ds := by
  cases ix with
  | @lst _ a xs _ hf h1 z x1 =>
    have x1 := IsAll.wide (fun _ h => h.1) x1
    refine ⟨a, rfl, fun H e => ⟨xs, .inl (.inl (e.keep _ _ h1 (gx _ hf).2))⟩, fun H => SqL W.K H a xs, YAt xs, x1.length ▸ walk_list, fun H e => .inl (.inl (e.keep _ _ h1 (gx _ hf).2)), ?_⟩
    rintro i x H H' _ e ⟨rfl, hx⟩
    obtain ⟨d, hd, iv⟩ := x1.getV hx
    exact ⟨Ext.refl e.good, d, G, hd, iv.ext g1 gx e, gx.ext e, fun a h => gx.dom h⟩
theorem walkD_tup {v : V} {ds : List D} {G : Addr → Prop} (g1 : Good W H1) (ix : Is W H1 G v (.tup ds)) (gx : FOk W H1 G) : ∃ a, v = .ref a ∧ (∀ H, Ext W H1 H → ∃ xs, SqT W.K H a xs) ∧ WalkD W (Itt W.K a) H1 ds := by
  cases ix with
  | @tup _ a xs _ h1 z x1 =>
    refine ⟨a, rfl, fun H e => ⟨xs, .inl (.inl (e.keep _ _ h1 (g1.tup h1)))⟩, fun H => SqT W.K H a xs, YAt xs, x1.length ▸ walk_tup, fun H e => .inl (.inl (e.keep _ _ h1 (g1.tup h1))), ?_⟩
    rintro i x H H' _ e ⟨rfl, hx⟩
    obtain ⟨d, hd, iv⟩ := x1.getV hx
    exact ⟨Ext.refl e.good, d, G, hd, iv.ext g1 gx e, gx.ext e, fun a h => gx.dom h⟩
def kItems (d : D) : M (List D) := mO (itemsOf d) .ret
/-- items of what is new, or does not change -/
def lNew (f : Ev) : EvL := fun ρ => (f ρ).bind kItems
theorem items_walk {v : V} {d : D} {G : Addr → Prop} {ds : List D} (hd : itemsOf d = some ds) (g1 : Good W H1) (ix : Is W H1 G v d) (gx : FOk W H1 G) (hK : X.K = W.K) (e1 : Ext W H1 H') {R : It → Hp → Prop} (q : ∀ J, WalkD W J H1 ds → R J H') :
    ∃ a xs, v = .ref a ∧ ((SqL X.K H' a xs ∧ R (Itl X.K a) H') ∨ (SqT X.K H' a xs ∧ R (Itt X.K a) H')) := by
  rw [hK]
  cases d with
  | lst es =>
    cases hd
    obtain ⟨a, rfl, h, w⟩ := walkD_lst g1 ix gx
    obtain ⟨xs, hx⟩ := h H' e1
    exact ⟨a, xs, rfl, .inl ⟨hx, q _ w⟩⟩
  | tup es =>
    cases hd
    obtain ⟨a, rfl, h, w⟩ := walkD_tup g1 ix gx
    obtain ⟨xs, hx⟩ := h H' e1
    exact ⟨a, xs, rfl, .inr ⟨hx, q _ w⟩⟩
  | _ => cases hd
theorem ti_new (hx : Fit W X) (he : PE X e (tOf W ms true f)) : PI X tg e (tiOf W ms (lNew f)) := by
  refine PI.conv (pi_seq he) fun σ H R ⟨H0, ρ, re, q⟩ => ?_
  refine tOf.use re q.bind fun d p v H1 G e1 x g fx => ?_
  obtain ⟨ds, hd, p⟩ := mO_All p
  obtain ⟨Hb, b1, b2, b3, b4, _⟩ := re.base e1
  obtain ⟨iv, gv⟩ := b4 v d G x g (fx rfl)
  exact items_walk hd b1.good iv gv hx.K b3 fun J w => p J Hb H1 e1 b1 b2 w
/-- items of a slot -/
def lVar (j : Nat) : EvL := lNew (eVar j)
theorem ti_var (hx : Fit W X) (he : PE X e (tVar j)) (hj : j ∉ ms) : PI X tg e (tiOf W ms (lVar j)) := by
  refine PI.conv (pi_seq he) fun σ H R ⟨H0, ρ, re, q⟩ => ?_
  unfold lVar lNew eVar at q
  split at q
  · rename_i d hd
    obtain ⟨Hb, b1, b2, b3, _, b5⟩ := re.base (Ext.refl re.good)
    obtain ⟨v, G, hv, iv, gv⟩ := b5 j d hj hd
    obtain ⟨ds, hds, p⟩ := mO_All (show (kItems d).All _ from q)
    exact ⟨v, hv, items_walk hds b1.good iv gv hx.K b3 fun J w => p J Hb H (Ext.refl re.good) b1 b2 w⟩
  · exact q.elim
/-- range(n) -/
def rangeD (n : Int) : List D := (List.range n.toNat).map fun (i : Nat) => D.int (i : Int)
def lRange (g : EvL) : EvL := fun ρ => (g ρ).bind fun ds => match ds with
  | [.int n] => if -(2 ^ 62) ≤ n ∧ n < 2 ^ 62 then .ret (rangeD n) else .fail
  | _ => .fail
theorem walkD_range (n : Int) : WalkD W (Itr 0 n.toNat) H1 (rangeD n) := by
  have hl : (rangeD n).length = n.toNat := by simp [rangeD]
  refine ⟨fun _ => True, YFn fun i => .int (0 + i), by rw [hl]; exact walk_range, fun _ _ => trivial, ?_⟩
  rintro i x H H' hi e ⟨rfl, rfl⟩
  rw [hl] at hi
  refine ⟨Ext.refl e.good, .int (i : Int), fun _ => False, by simp [rangeD, hi], ?_, .nil, fun _ h => h.elim⟩
  show Is W H' _ (V.int (0 + (i : Int))) (D.int (i : Int))
  rw [Int.zero_add]
  exact .int _
theorem ti_range {p : Pos} (hg : Gl X "range") (hm : X.mg "range" = none) (ha : PA X [a] (taOf W ms fr g)) (hs : starEach [a] X.env = [(false, eval a X.env)] := by rfl) : PI X tg (.Call (.Name "range" p) [a] [] pos) (tiOf W ms (lRange g)) := by
  refine PI.conv (pi_range1 hg hm ha hs) fun σ H R ⟨H0, ρ, re, q⟩ => ?_
  refine taOf.use re q.bind fun ds p vs H1 G e1 xs gx fx => ?_
  split at p
  · split at p
    · rename_i n hn
      obtain ⟨v, rfl, y⟩ := xs.un1
      rw [y.toInt]
      obtain ⟨Hb, b1, b2, b3, _, _⟩ := re.base e1
      exact ⟨n, rfl, hn.1, hn.2, p _ Hb H1 e1 b1 b2 (walkD_range n)⟩
    · exact p.elim
  · exact p.elim
end

/-! ### for -/
/-- the loop over the items -/
def loopO (next : Rho → M Out) : Out → M Out
  | .nx ρ => next ρ
  | .ct ρ => next ρ
  | .bk ρ => .ret (.nx ρ)
  | .rt d => .ret (.rt d)
def loopF (g : Gv) (F : Sv) : List D → Rho → M Out
  | [], ρ => .ret (.nx ρ)
  | d :: ds, ρ => (g d ρ).bind fun ρ1 => (F ρ1).bind (loopO (loopF g F ds))
def sFor (g : Gv) (f : EvL) (F : Sv) : Sv := fun ρ => (f ρ).bind fun ds => loopF g F ds ρ
section
variable {X : Cx} {W : Wd} {ms : List Nat} {fr fra : Bool} {e a c iter tg : Expr} {body : List Stmt} {f fa : Ev} {g : EvL} {gv : Gv} {gc : EvB} {F : Sv} {pos p : Pos} {x : Str} {i j : Nat} {H0 H H' H1 : Hp} {σ : L2.St} {ρ : Rho} {E : Ends}
/-- told at the lower base -/
theorem OutOk.up {o : Out} (e : Ext W H0 H1) (h : OutOk W H0 ms E o) : OutOk W H1 ms E o := by
  cases o with
  | nx ρ => exact fun σ' H' re => h σ' H' (re.unbase e)
  | bk ρ => exact fun σ' H' re => h σ' H' (re.unbase e)
  | ct ρ => exact fun σ' H' re => h σ' H' (re.unbase e)
  | rt d => exact fun v H' G e2 x g fx => h v H' G (e.trans e2) x g fun a ha => e.free (fx a ha)
theorem loopO_ok {next : Rho → M Out} {o : Out} {Nx : L2.St → Hp → Prop} (h : (loopO next o).All (OutOk W H0 ms E)) (hn : ∀ ρ, (next ρ).All (OutOk W H0 ms E) → ∀ σ' H', Rel W H0 ms σ' H' ρ → Nx σ' H') :
    OutOk W H0 ms { E with nx := Nx, ct := Nx, bk := E.nx } o := by
  cases o with
  | nx ρ => exact hn ρ h
  | ct ρ => exact hn ρ h
  | bk ρ => exact h
  | rt d => exact h
theorem M.All.imp {α : Type} {P Q : α → Prop} {m : M α} (x : m.All P) (h : ∀ a, P a → Q a) : m.All Q := x.mono h
theorem ts_for (hx : Fit W X) (hp : PassesOwn (model X.prog X.w) X.A X.env X.xe) (hi : PI X tg iter (tiOf W ms g)) {tv : List Nat} (hg : PG X tg (tgOf W ms tv gv)) (hb : PSs X body (tsOf W ms F))
    (hs : ∀ x, foldedSetIterable iter X.env x = pure x := by intro _; rfl) : PS X (.For tg iter body [] pos) (tsOf W ms (sFor gv g F)) := by
  refine PS.conv (L2.ps_for hp hx.calm hi hg hb hs) fun E σ H ⟨H0, ρ, re, q⟩ => ?_
  refine ⟨H0, ρ, re, q.bind.mono fun ds q J H1 H' e e01 re1 ⟨G, Y, w, wG, wY⟩ => ?_⟩
  refine for_it w (fun j σ H => ∃ ρ', Rel W H1 ms σ H ρ' ∧ (loopF gv F (ds.drop j) ρ').All (OutOk W H1 ms E)) ⟨ρ, re1, q.mono fun o h => OutOk.up e01 h⟩ (fun j σ H _ ⟨ρ', r, _⟩ => wG H r.ext) ?_ ?_
  · rintro j x σ H H' hj ⟨ρ', r, q⟩ y
    obtain ⟨e2, d, G', hd, ix, gx, dx⟩ := wY j x H H' hj r.ext y
    have hdr : ds.drop j = d :: ds.drop (j + 1) := by
      obtain ⟨h1, h2⟩ := List.getElem?_eq_some_iff.mp hd
      rw [List.drop_eq_getElem_cons h1, h2]
    rw [hdr] at q
    refine ⟨H1, ρ', d, G', r.step e2, ix, gx, .inr dx, M.All.imp (M.All.bind q) fun ρ1 q σ' _ re' => ?_⟩
    exact ⟨H1, ρ1, re', q.bind.mono fun o h => loopO_ok h fun ρ2 h2 σ2 H2 re2 => ⟨ρ2, re2, h2⟩⟩
  · rintro σ H ⟨ρ', r, q⟩
    rw [List.drop_length] at q
    exact q σ H r

/-! ### while -/
def whileF (c : EvB) (F : Sv) : Nat → Sv
  | 0, _ => .fail
  | n + 1, ρ => (c ρ).bind fun b => if b = true then (F ρ).bind (loopO (whileF c F n)) else .ret (.nx ρ)
def sWhile (fu : Rho → Nat) (c : EvB) (F : Sv) : Sv := fun ρ => whileF c F (fu ρ) ρ
theorem ts_while (fu : Rho → Nat) (hp : PassesOwn (model X.prog X.w) X.A X.env X.xe) (hc : PT X c (ttOf W ms gc)) (hb : PSs X body (tsOf W ms F)) : PS X (.While c body [] pos) (tsOf W ms (sWhile fu gc F)) := by
  refine PS.conv (L2.ps_while hp hc hb) fun E σ H ⟨H0, ρ, re, q⟩ => ?_
  refine ⟨fun m σ H => ∃ ρ', Rel W H0 ms σ H ρ' ∧ (whileF gc F m ρ').All (OutOk W H0 ms E), ⟨fu ρ, ρ, re, q⟩, ?_⟩
  rintro m σ H ⟨ρ', r, q⟩
  cases m with
  | zero => exact q.elim
  | succ m =>
    refine ttOf.use r (M.All.bind q) fun b p H1 e1 => ?_
    cases b with
    | false => exact iteF (p σ H1 (r.step e1))
    | true =>
      refine iteT ⟨fun σ H => ∃ ρ', Rel W H0 ms σ H ρ' ∧ (whileF gc F m ρ').All (OutOk W H0 ms E), fun σ' H' h => ⟨m, Nat.lt_succ_self m, h⟩, ?_⟩
      exact ⟨H0, ρ', r.step e1, M.All.imp (M.All.bind p) fun o h => loopO_ok h fun ρ2 h2 σ2 H2 re2 => ⟨ρ2, re2, h2⟩⟩

/-! ### x.append(e), d[k] = v -/
def appD (i : Nat) (ρ : Rho) (ds : List D) (d : D) : M Out := if imm d = true ∧ ds.length < sizeLine then .ret (.nx (ρ.set i (some (.lst (ds ++ [d]))))) else .fail
def sApp (i : Nat) (f : Ev) : Sv := fun ρ => match ρ[i]? with
  | some (some (.lst ds)) => (f ρ).bind (appD i ρ ds)
  | _ => .fail
def putD (i : Nat) (ρ : Rho) (kvs : List (D × D)) (v k : D) : M Out :=
  if (isTup k && (keyOk k && (imm k && imm v))) = true ∧ kvs.length < sizeLine then .ret (.nx (ρ.set i (some (.dct (dPut kvs k v))))) else .fail
def sPut (i : Nat) (fk fv : Ev) : Sv := fun ρ => match ρ[i]? with
  | some (some (.dct kvs)) => (fv ρ).bind fun v => (fk ρ).bind (putD i ρ kvs v)
  | _ => .fail
/-- what is changed in place is written -/
theorem Rel.write (r : Rel W H0 ms σ H ρ) (hi : i ∈ ms) {d d' : D} {a0 : Addr} {o : HO} (F' : Nat → Addr → Prop) (h : RelF W H0 ms σ H ρ F') (ha : F' i a0) (mo : ∃ u, H a0 = some u ∧ Mutb u) (mo' : Mutb o)
    (x : ∀ v, σ[i]? = some (some v) → Is W (upd H a0 o) (F' i) v d') (hd : ρ[i]? = some (some d)) : Rel W H0 ms σ (upd H a0 o) (ρ.set i (some d')) := by
  obtain ⟨h1, h2, h3, h4⟩ := h
  have nv := (h2 i a0 ha).2
  have h0 := h3 i hi a0 ha
  have ntup : ∀ b xs, H b = some (.tup xs) → b ≠ a0 := fun b xs q z => by
    obtain ⟨u, hu, mu⟩ := mo
    rw [z, hu] at q
    cases q
    exact mu
  refine ⟨r.good.write nv, ⟨fun b u q n => ?_, fun b q => ?_, r.good.write nv⟩, by rw [List.length_set]; exact r.len, F', fun k dk q => ?_, fun k b hb => ?_, h3, h4⟩
  · rw [upd_ne (fun z => by rw [z, h0] at q; cases q)]
    exact r.ext.keep b u q n
  · by_cases hb : b = a0
    · rw [hb, upd_same]; exact fun z => nomatch z
    · rw [upd_ne hb]; exact r.ext.dom b q
  · by_cases hk : k = i
    · subst hk
      obtain ⟨v, hv, _⟩ := h1 k d hd
      have hl : k < ρ.length := (List.getElem?_eq_some_iff.mp hd).1
      rw [List.getElem?_set_self hl] at q
      cases q
      exact ⟨v, hv, x v hv⟩
    · rw [List.getElem?_set_ne (Ne.symm hk)] at q
      obtain ⟨v, hv, ix⟩ := h1 k dk q
      refine ⟨v, hv, ix.stay (fun b u hb q => ⟨hb, ?_⟩) fun b xs q => ?_⟩
      · rw [upd_ne (show b ≠ a0 from fun z => h4 i hi k hk a0 ha (by rw [← z]; exact hb))]; exact q
      · rw [upd_ne (ntup b xs q)]; exact q
  · obtain ⟨⟨u, hu, mu⟩, n⟩ := h2 k b hb
    refine ⟨?_, n⟩
    by_cases hb' : b = a0
    · rw [hb', upd_same]; exact ⟨o, rfl, mo'⟩
    · rw [upd_ne hb']; exact ⟨u, hu, mu⟩
theorem RelF.ext {F' : Nat → Addr → Prop} (h : RelF W H0 ms σ H ρ F') (g : Good W H) (e : Ext W H H') : RelF W H0 ms σ H' ρ F' :=
  ⟨fun i d q => let ⟨v, a, b⟩ := h.1 i d q; ⟨v, a, b.ext g (h.2.1 i) e⟩, fun i => (h.2.1 i).ext e, h.2.2.1, h.2.2.2⟩
theorem ts_app {p1 p2 p3 : Pos} (hK : X.K = W.K) (ho : PE X a (tVar i)) (hi : i ∈ ms) (he : PE X e (tOf W ms fr f))
    (hbase : attributeBase a "append" X.env (eval a X.env) = eval a X.env := by rfl)
    (hfew : ((backTo p2 (starEach (e :: []) X.env)).all (fun x => !x.1) && (backToKw p2 (keywordEach [] X.env)).all (fun x => x.1.isSome)
      && decide ((e :: ([] : List Expr)).length + ([] : List Keyword).length + (if ([] : List Keyword).isEmpty then 0 else 1) < 30)) = true := by rfl)
    (hline : (p1.endLine == p2.line) = true := by rfl) (hs : starEach (e :: []) X.env = (false, eval e X.env) :: starEach [] X.env := by rfl) (hplain : (backTo p2 (starEach [] X.env)).any (·.1) = false := by rfl)
    (hsw : swapsWith (.Call (.Attribute a "append" p1) [e] [] p2) none p3.line X.env = pure false := by rfl) :
    PS X (.Expr (.Call (.Attribute a "append" p1) [e] [] p2) p3) (tsOf W ms (sApp i f)) := by
  refine PS.conv (L2.ps_expr (pe_bm F.plainAttrs_list F.slot_list_append (by with_unfolding_all rfl) mt_append ho (pa_cons he pa_nil hs) hbase hfew hline hs hplain) hsw) fun E σ H ⟨H0, ρ, re, q⟩ => ?_
  unfold sApp at q
  split at q
  · rename_i ds hd
    obtain ⟨v0, G0, hv0, _⟩ := re.get hd
    refine ⟨v0, hv0, ?_⟩
    have re0 := re
    obtain ⟨F, h1, h2, h3, h4⟩ := re0.at_
    obtain ⟨v, hv, x⟩ := h1 i _ hd
    rw [hv0] at hv
    cases hv
    cases x with
    | @lst _ l xs _ fl hl z x1 =>
      refine ⟨.inl ⟨rfl, _, .inl (.inl hl)⟩, ?_⟩
      refine tOf.use re q.bind fun d p v1 H1 G e1 y gy _ => ?_
      unfold appD at p
      split at p
      · rename_i hh
        have hl1 : H1 l = some (.lst xs) := e1.keep _ _ hl (h2 i l fl).2
        have x1' := x1.ext re.good (fun a h => h2 i a h.1) e1
        have iy : Is W H1 (fun _ => False) v1 d := y.imm hh.1
        refine ⟨l, xs, v1, rfl, rfl, hl1, by rw [x1.length]; exact hh.2, p σ _ ?_⟩
        have ne : ∀ {b : Addr} {ys : List V}, H1 b = some (.tup ys) → b ≠ l := fun {b ys} q z => by rw [z, hl1] at q; cases q
        have old : IsAll W (upd H1 l (.lst (xs ++ [v1]))) (fun b => F i b ∧ b ≠ l) xs ds := x1'.stay (fun a o h q => ⟨h, by rw [upd_ne h.2]; exact q⟩) fun b ys q => by rw [upd_ne (ne q)]; exact q
        have new : IsAll W (upd H1 l (.lst (xs ++ [v1]))) (fun b => F i b ∧ b ≠ l) [v1] [d] := .one (iy.stay (fun a o h q => h.elim) fun b ys q => by rw [upd_ne (ne q)]; exact q)
        refine Rel.write (re.step e1) hi F (RelF.ext ⟨h1, h2, h3, h4⟩ re.good e1) fl ⟨_, hl1, trivial⟩ trivial (fun v hv => ?_) hd
        rw [hv0] at hv
        cases hv
        exact .lst fl upd_same (by rw [List.length_append]; exact hh.2) (old.append new)
      · exact p.elim
  · exact q.elim
def tStore (W : Wd) : TSet := fun o i v H Q => ∃ a ob xs kvs k dk dv b, o = .ref a ∧ i = .ref b ∧ H a = some (dO a ob) ∧ DObj W a ob xs ∧ IsEnts W H (fun _ => False) xs kvs ∧ Is W H (fun _ => False) i dk ∧ toKey dk = some k ∧ k.depth ≤ 8 ∧ Is W H (fun _ => False) v dv ∧ kvs.length < sizeLine ∧
  ∀ ob' xs', DObj W a ob' xs' → IsEnts W (upd H a (dO a ob')) (fun _ => False) xs' (dPut kvs dk dv) → Q (upd H a (dO a ob'))
theorem IsEnts.len {H : Hp} {F : Addr → Prop} : ∀ {xs : List (NestedKey × Addr × Value)} {kvs : List (D × D)}, IsEnts W H F xs kvs → xs.length = kvs.length
  | _, _, .nil => rfl
  | _, _, .cons _ _ _ _ _ t => by rw [List.length_cons, List.length_cons, IsEnts.len t]
theorem set_dct (hx : Fit W X) : PSet X (tStore W) := by
  intro pins s σ H o i v ov iv u Q I ro ri rv ⟨a, ob, xs, kvs, k, dk, dv, b, ho, hi, ha, dd, t, ik, hk1, hk2, jv, hz, q⟩
  subst ho hi
  cases ro
  cases ri
  have hkey : (KN W).is s.heap k b := ⟨Is.nest I dk ik rfl hk1, hk2⟩
  have m := dictOf I (F := fun _ => False) ha dd t
  have := hx.un
  have hl : xs.length = kvs.length := t.len
  have hr : (KN W).room X.A.in1 := by show X.A.in1.units + 8 < cLine; show X.A.units + 1 + 8 < cLine; omega
  have go := wpAny_setItem_heap (prog := W.P) (w := W.w) (knd := KN W) (A := X.A) (E := X.xe) (v := u) (Q := fun _ s' => ∃ H', Inv X pins σ H' s' ∧ Q H') hr hkey m (fun h' hd hs => by
    have hl2 := storedH_length xs k b u
    obtain ⟨o1, ho1, dd1⟩ := dobj_of hd dd.ns (by omega)
    have I3 := d_write (t' := s.toks + (KN W).draws k) I (ob := dO a o1) (by rw [ha]; exact True.intro) hs ⟨o1, ho1⟩ (dO_ok ho1)
    refine ⟨_, I3, q o1 _ dd1 ?_⟩
    refine (t.put hk1 hk2 ik rv jv).stay (fun a o f q => f.elim) fun c ys q => ?_
    rw [upd_ne (fun z => by rw [z, ha] at q; cases q)]
    exact q) (by omega)
  rw [hx.prog, hx.w]
  exact go
theorem ts_put {k v : Expr} {fk fv : Ev} {frk frv : Bool} {p1 : Pos} (hx : Fit W X) (ho : PE X a (tVar i)) (hi : i ∈ ms) (hk : PE X k (tOf W ms frk fk)) (hv : PE X v (tOf W ms frv fv))
    (hs : swapsWithSole [.Subscript a k p1] v pos.line X.env = pure false := by rfl) (hw : swappedStores [.Subscript a k p1] v X.env = pure none := by rfl)
    (h1 : (assignEach [.Subscript a k p1] X.env).map (·.2) = [assign (.Subscript a k p1) X.env] := by rfl)
    (ha : ∀ v, assign (.Subscript a k p1) X.env v = (do
      let ov ← holding [v] (eval a X.env)
      let iv ← holding [v, ov] (eval k X.env)
      standAt p1
      holding [v, ov, iv] (setItem ov iv v)
      release [v, ov, iv] []) := by intro _; rfl) : PS X (.Assign [.Subscript a k p1] v pos) (tsOf W ms (sPut i fk fv)) := by
  refine PS.conv (L2.ps_asg hv (pg_sub ho hk (set_dct hx) ha) hs hw h1) fun E σ H ⟨H0, ρ, re, q⟩ => ?_
  unfold sPut at q
  split at q
  · rename_i kvs hd
    refine tOf.use re q.bind fun dv p v1 H1 G1 e1 y gy _ => ?_
    obtain ⟨v0, G0, hv0, _⟩ := re.get hd
    refine ⟨v0, hv0, ?_⟩
    refine tOf.use (re.step e1) p.bind fun dk p v2 H2 G2 e2 y2 gy2 _ => ?_
    unfold putD at p
    split at p
    · rename_i hh
      obtain ⟨hh, hz⟩ := hh
      rw [Bool.and_eq_true, Bool.and_eq_true, Bool.and_eq_true] at hh
      obtain ⟨hh1, hh2, hh3, hh4⟩ := hh
      obtain ⟨kk, hk1, hk2⟩ := keyOk_some hh2
      obtain ⟨b, rfl⟩ := y2.isTup hh1
      have e12 := e1.trans e2
      obtain ⟨F, h1, h2, h3, h4⟩ := re.at_
      obtain ⟨v, hv, x⟩ := h1 i _ hd
      rw [hv0] at hv
      cases hv
      have x' := x.ext re.good (h2 i) e12
      cases x' with
      | @dct _ l o xs _ fl hl dd t =>
        refine ⟨l, o, xs, kvs, kk, dk, dv, b, rfl, rfl, hl, dd, t, y2.imm hh3, hk1, hk2, (y.ext e1.good gy e2).imm hh4, hz, fun ob' xs' dd' t' => p σ _ ?_⟩
        refine Rel.write (re.step e12) hi F (RelF.ext ⟨h1, h2, h3, h4⟩ re.good e12) fl ⟨_, hl, trivial⟩ trivial (fun v hv => ?_) hd
        rw [hv0] at hv
        cases hv
        exact .dct fl upd_same dd' t'
    · exact p.elim
  · exact q.elim

/-! ### from here on less is changed in place -/
def retOnly : Out → M Out
  | .rt d => .ret (.rt d)
  | _ => .fail
def sLess (F : Sv) : Sv := fun ρ => (F ρ).bind retOnly
theorem tss_less {ms' : List Nat} {rest : List Stmt} (h : PSs X rest (tsOf W ms' F)) (hs : ∀ m ∈ ms', m ∈ ms) : PSs X rest (tsOf W ms (sLess F)) := by
  refine PSs.conv h fun E σ H ⟨H0, ρ, re, q⟩ => ⟨H0, ρ, re.fewer hs, q.bind.mono fun o h => ?_⟩
  cases o with
  | rt d => exact h
  | _ => exact h.elim
end
end Sl
end S_Sl7
noncomputable section S_Sl8
set_option Elab.async false
set_option linter.all false
set_option maxRecDepth 100000
set_option maxHeartbeats 1000000
namespace Sl
open PySem PySem.Spec PyProof.Rows L2

/-! ### list comprehensions -/
def wipeR (ρ : Rho) : List Nat → Rho
  | [] => ρ
  | v :: vs => (wipeR ρ vs).set v none
theorem Good.nvol {W : Wd} {H : Hp} {p : Addr} (g : Good W H) (hp : H p = none) : ¬ W.vol p :=
  ((Is.newL (F := fun _ => False) (vs := []) (ds := []) g .nil .nil hp (Nat.zero_le _)).2.2 p (.inl rfl)).2
theorem Rel.wipe {W : Wd} {H0 H : Hp} {ms : List Nat} {σ : L2.St} {ρ : Rho} (r : Rel W H0 ms σ H ρ) : ∀ vs : List Nat, Rel W H0 ms (L2.wipe σ vs) H (wipeR ρ vs)
  | [] => r
  | v :: vs => (Rel.wipe r vs).kill v
theorem wipe_ix {σ : L2.St} {i : Nat} : ∀ {vs : List Nat}, i ∈ vs → (L2.wipe σ vs)[i]? = if i < σ.length then some none else none
  | [], h => by cases h
  | v :: vs, h => by
    show ((L2.wipe σ vs).set v none)[i]? = _
    by_cases e : v = i
    · subst e
      rw [List.getElem?_set]
      simp [L2.wipe_length]
    · rw [List.getElem?_set_ne e]
      rcases List.mem_cons.mp h with h | h
      · exact absurd h.symm e
      · exact wipe_ix h
theorem wipe_wipe (σ : L2.St) (vs : List Nat) : L2.wipe (L2.wipe σ vs) vs = L2.wipe σ vs := by
  refine List.ext_getElem? fun i => ?_
  by_cases h : i ∈ vs
  · rw [wipe_ix h, wipe_ix h, L2.wipe_length]
  · rw [L2.wipe_out h, L2.wipe_out h]
def bYes : EvB := fun _ => .ret true
def lcGo (gv : Gv) (ft : EvB) (f : Ev) : List D → Rho → M (List D)
  | [], _ => .ret []
  | d :: ds, ρ => (gv d ρ).bind fun ρ1 => (ft ρ1).bind fun b => if b = true then (f ρ1).bind fun y => (chk y).bind fun y => (lcGo gv ft f ds ρ).bind fun ys => .ret (y :: ys) else lcGo gv ft f ds ρ
def eLc (vs : List Nat) (fi : EvL) (gv : Gv) (ft : EvB) (f : Ev) : Ev := fun ρ => (fi ρ).bind fun ds => if ds.length ≤ sizeLine then (lcGo gv ft f ds (wipeR ρ vs)).bind fun xs => .ret (.lst xs) else .fail
section
variable {X : Cx} {W : Wd} {ms : List Nat} {fr fra : Bool} {elt tg iter : Expr} {ifs : List Expr} {scope : Scope} {own : List (Str × Nat)} {pos : Pos} {fi : EvL} {gv : Gv} {ft : EvB} {f : Ev}
theorem pts_nilD : PTs X [] (ttOf W ms bYes) := ⟨fun pins s σ H Q I ⟨H0, ρ, re, q⟩ => (pts_nil (X := X)).run pins s σ H Q I (q H (Ext.refl re.good))⟩
theorem pts_oneD {c : Expr} (h : PT X c (ttOf W ms ft)) : PTs X [c] (ttOf W ms ft) := pts_one h
theorem lc_conv {vs : List Nat} {σ : L2.St} {Hs : Hp} {Q : VK} (h : tOf W ms true (eLc vs fi gv ft f) σ Hs Q) : tLc (tiOf W ms fi) (tgOf W ms vs gv) (ttOf W ms ft) (tOf W ms fr f) vs σ Hs Q := by
  obtain ⟨H0, ρ, re, q⟩ := h
  refine ⟨H0, ρ, re, q.bind.mono fun ds q J H1 H' e e01 re1 ⟨G, Y, w, wG, wY⟩ Ln hD => ?_⟩
  split at q
  · rename_i hz
    have nD := e.good.nvol hD
    have rw1 := re1.wipe vs
    have e1 : Ext W H' (upd H' Ln (.lst [])) := Ext.new e.good hD
    refine lc_it w (fun j H => ∃ acc xs, H Ln = some (.lst acc) ∧ acc.length ≤ j ∧ IsAll W H (fun _ => False) acc xs ∧ Ext W H' H ∧ (lcGo gv ft f (ds.drop j) (wipeR ρ vs)).All fun ys => Post W Hs true Q (.lst (xs ++ ys)))
      ⟨[], [], upd_same, Nat.le_refl _, .nil, e1, (M.All.bind q).mono fun ys h => h⟩ (fun j H hj ⟨_, _, _, _, _, e2, _⟩ => wG H (re1.ext.trans e2)) ?_ ?_
    · rintro j x H H2 hj ⟨acc, xs, hacc, hlen, ia, e2, q⟩ y
      obtain ⟨e3, d, G', hd, ix, gx, dx⟩ := wY j x H H2 hj (re1.ext.trans e2) y
      have hdr : ds.drop j = d :: ds.drop (j + 1) := by
        obtain ⟨h1, h2⟩ := List.getElem?_eq_some_iff.mp hd
        rw [List.drop_eq_getElem_cons h1, h2]
      rw [hdr] at q
      refine ⟨H1, wipeR ρ vs, d, G', rw1.step (e2.trans e3), ix, gx, .inr dx, M.All.imp (M.All.bind q) fun ρ1 q σ' hw re' => ⟨hw.trans (wipe_wipe ..), ?_⟩⟩
      refine ttOf.use re' (M.All.bind q) fun b q H3 e4 => ?_
      have keep : ∀ {H4 : Hp}, Ext W H2 H4 → H4 Ln = some (.lst acc) ∧ IsAll W H4 (fun _ => False) acc xs ∧ Ext W H' H4 := fun {H4} e5 =>
        ⟨e5.keep _ _ (e3.keep _ _ hacc nD) nD, (ia.ext e2.good .nil e3).ext e3.good .nil e5, (e2.trans e3).trans e5⟩
      cases b with
      | false =>
        refine iteF ?_
        obtain ⟨k1, k2, k3⟩ := keep e4
        exact ⟨acc, xs, k1, Nat.le_succ_of_le hlen, k2, k3, q⟩
      | true =>
        refine iteT (tOf.use (re'.step e4) (M.All.bind q) fun y q v H4 G4 e5 iy gy _ => ?_)
        obtain ⟨hi, q⟩ := chk_All (M.All.bind q)
        obtain ⟨k1, k2, k3⟩ := keep (e4.trans e5)
        have hlt : acc.length < sizeLine := by omega
        have ne : ∀ {b : Addr} {ys : List V}, H4 b = some (.tup ys) → b ≠ Ln := fun {b ys} q z => by rw [z, k1] at q; cases q
        have st : ∀ {vs : List V} {ds : List D}, IsAll W H4 (fun _ => False) vs ds → IsAll W (upd H4 Ln (.lst (acc ++ [v]))) (fun _ => False) vs ds := fun {vs ds} x => x.stay (fun a o h q => h.elim) fun b ys q => by rw [upd_ne (ne q)]; exact q
        refine ⟨acc, k1, hlt, acc ++ [v], xs ++ [y], upd_same, by rw [List.length_append]; exact Nat.succ_le_succ hlen, (st k2).append (st (.one (iy.imm hi))), ⟨fun b o q n => ?_, fun b q => ?_, k3.good.write nD⟩, ?_⟩
        · rw [upd_ne (ne_of_none q hD)]
          exact k3.keep b o q n
        · by_cases hb : b = Ln
          · rw [hb, upd_same]; exact fun z => nomatch z
          · rw [upd_ne hb]; exact k3.dom b q
        · refine (M.All.bind q).mono fun ys h => ?_
          rw [List.append_assoc]
          exact h
    · rintro H ⟨acc, xs, hacc, hlen, ia, e2, q⟩
      rw [List.drop_length] at q
      have q' : Post W Hs true Q (.lst (xs ++ [])) := q
      rw [List.append_nil] at q'
      refine q' _ H (fun a => a = Ln) (e.trans e2) (.lst rfl hacc ?_ (ia.wide fun _ h => h.elim)) (fun a h => by rw [h]; exact ⟨⟨_, hacc, trivial⟩, nD⟩) fun _ a h => by rw [h]; exact e.free hD
      rw [← ia.length]
      omega
  · exact q.elim
theorem px_lc (hx : Fit W X) (hi : PI X tg iter (tiOf W ms fi)) (ok : BlkOk X.N X.env.scope scope own)
    (hg : ∀ (s : Shared) (H : Hp) (C : Addr) (cl : List (Str × Addr)) (fp : List Addr), PG (X.blk s H scope (compEnvC scope cl C X.env) fp) tg (tgOf W ms (own.map (·.2)) gv))
    (ht : ∀ (s : Shared) (H : Hp) (C : Addr) (cl : List (Str × Addr)) (fp : List Addr), PTs (X.blk s H scope (compEnvC scope cl C X.env) fp) ifs (ttOf W ms ft))
    (he : ∀ (s : Shared) (H : Hp) (C : Addr) (cl : List (Str × Addr)) (fp : List Addr), PE (X.blk s H scope (compEnvC scope cl C X.env) fp) elt (tOf W ms fr f)) (hs : ∀ x, foldedSetIterable iter X.env x = pure x := by intro _; rfl) :
    PE X (.ListComp elt [⟨tg, iter, ifs, 0⟩] scope pos) (tOf W ms true (eLc (own.map (·.2)) fi gv ft f)) := by
  exact PE.conv (pe_lc hx.calm hx.nd hi ok hg ht he hs) fun σ Hs Q h => lc_conv h
/-- name = [..] -/
theorem ts_setLc {i : Nat} {y : Str} {py spos : Pos} (hx : Fit W X) (hy : X.N[i]? = some y) (hyl : X.env.scope.names.lookup y = some .local)
    (hi : PI X tg iter (tiOf W ms fi)) (ok : BlkOk X.N X.env.scope scope own)
    (hg : ∀ (s : Shared) (H : Hp) (C : Addr) (cl : List (Str × Addr)) (fp : List Addr), PG (X.blk s H scope (compEnvC scope cl C X.env) fp) tg (tgOf W ms (own.map (·.2)) gv))
    (ht : ∀ (s : Shared) (H : Hp) (C : Addr) (cl : List (Str × Addr)) (fp : List Addr), PTs (X.blk s H scope (compEnvC scope cl C X.env) fp) ifs (ttOf W ms ft))
    (he : ∀ (s : Shared) (H : Hp) (C : Addr) (cl : List (Str × Addr)) (fp : List Addr), PE (X.blk s H scope (compEnvC scope cl C X.env) fp) elt (tOf W ms fr f))
    (hsw : swapsWith (.ListComp elt [⟨tg, iter, ifs, 0⟩] scope pos) (some (.Name y py)) spos.line X.env = pure true := by rfl) (hs : ∀ x, foldedSetIterable iter X.env x = pure x := by intro _; rfl) :
    PS X (.Assign [.Name y py] (.ListComp elt [⟨tg, iter, ifs, 0⟩] scope pos) spos) (tsOf W ms (sSet i (eLc (own.map (·.2)) fi gv ft f))) := by
  refine PS.conv (ps_setLc hx.calm hx.nd hy hyl hsw hi ok hg ht he hs) fun E σ H ⟨H0, ρ, re, q⟩ => ?_
  exact lc_conv ⟨H0, ρ, re, M.All.imp (M.All.bind q) fun d (p : OutOk W H0 ms E (.nx (ρ.set i (some d)))) v H1 G e1 ix g fx => p _ H1 (re.set e1 ix g (.inr (.inl (fx rfl))))⟩
end
end Sl
end S_Sl8
noncomputable section S_Sl9
set_option Elab.async false
set_option linter.all false
set_option maxRecDepth 100000
set_option maxHeartbeats 1000000
namespace Sl
open PySem PySem.Spec PyProof.Rows L2

/-! ### enumerate(tuple) -/
theorem meets_enum1 {v : Value} {o : Obj} {H : Heap → Prop} (B : Begins v o H) :
    Meets (Builtin.«enumerate.__new__» ⟨[.type "enumerate", v], []⟩) (fun _ R s => H s.heap ∧
      R (.ok (.ret (.ref (s.heap.push o).objs.size))) { s with heap := (s.heap.push o).push { cls := .type "enumerate", data := .fields #[.none, .bool false, .ref s.heap.objs.size, rawInt 0, .none, .none] } }) :=
  .of_wp fun prog w A R s h => by
    obtain ⟨hp, g, d, tk, os⟩ := s; obtain ⟨h1, h⟩ := h
    have hsub := sub_enumerate
    have q1 : ∀ {A' : Around} {E : Value → Shared → Prop} {Q : Value → Shared → Prop}, Q (.ref hp.objs.size) ⟨hp.push o, g, d, tk, os⟩ → wpAny (model prog w) A' (pyIter v) Q E ⟨hp, g, d, tk, os⟩ :=
      fun q => B.iter prog w _ _ ⟨hp, g, d, tk, os⟩ _ h1 q
    wp_walk using q1
    refine wpAny_stack_any fun st => wpAny_pure ?_
    split
    · rename_i c _ _ _ _ _
      cases (c == Value.type "enumerate")
      · wp_walk using q1
        exact ⟨_, rfl, h⟩
      · wp_walk using q1
        exact ⟨_, rfl, h⟩
    · wp_walk using q1
      exact ⟨_, rfl, h⟩
theorem call_enum1 {prog : Program} {w : World} {A : Around} {E : Value → Shared → Prop} {s : Shared} {v : Value} {o : Obj} {H : Heap → Prop} {Q : Value → Shared → Prop} (B : Begins v o H) (h1 : H s.heap)
    (h : ∀ h', IsEnum h' (s.heap.objs.size + 1) s.heap.objs.size 0 .none → h'.get? s.heap.objs.size = some o → h'.objs.size = s.heap.objs.size + 2 →
      (∀ b o, s.heap.get? b = some o → h'.get? b = some o) → Q (.ref (s.heap.objs.size + 1)) { s with heap := h' }) :
    wpAny (model prog w) A (call (.type "enumerate") [v]) Q E s := by
  refine callType_new F.called_enumerate (by decide) (F.typeCall_enumerate_1 _) (F.newCall_enumerate_1 _) (fun obj => F.args_object_init_2 obj _) F.entry_enumerate_new (meets_enum1 B) ⟨h1, ?_⟩
  have hz : (s.heap.push o).objs.size = s.heap.objs.size + 1 := Heap.size_push ..
  show _ ∧ _
  rw [hz]
  have he : IsEnum ((s.heap.push o).push { cls := .type "enumerate", data := .fields #[.none, .bool false, .ref s.heap.objs.size, rawInt 0, .none, .none] }) (s.heap.objs.size + 1) s.heap.objs.size 0 .none := by
    have := Heap.get?_push_size (s.heap.push o) (o := { cls := .type "enumerate", data := .fields #[.none, .bool false, .ref s.heap.objs.size, rawInt 0, .none, .none] }) rfl
    rw [hz] at this; exact this
  exact ⟨⟨_, he, rfl⟩, h _ he (Heap.get?_push_of_some _ (Heap.get?_push_size _ B.free)) (by rw [Heap.size_push, hz]) fun b o x => Heap.get?_push_of_some _ (Heap.get?_push_of_some _ x)⟩
def Itet (K : PySem.W.Frag) (a : Addr) : It :=
  ⟨fun i H => ∃ (xs : List V) (x : V), SqT K H a xs ∧ xs[i]? = some x, fun i H v H' => ∃ T x, v = .ref T ∧ H T = none ∧ H' = upd H T (.tup [.int (i : Nat), x]) ∧ ∀ xs, SqT K H a xs → xs[i]? = some x, fun i H => ∃ xs : List V, SqT K H a xs ∧ xs.length ≤ i⟩
theorem turn_enumT {P : Program} {w : World} {K : PySem.W.Frag} {elts : List Expr} {kk : Nat} {tpos : Pos} (a e it : Addr) :
    Turn P w K (.Tuple elts kk tpos) (Itet K a) [e, it] e (fun i h => (∃ old, IsEnum h e it ((i : Nat) : Int) old) ∧ h.IsTupleIter it a i ∧ e ≠ it) where
  mem := by simp
  obj := fun i h st b hb => by
    obtain ⟨⟨old, he⟩, ⟨o, ho, hc, hd⟩, _⟩ := st
    have e' : b = e ∨ b = it := by simpa using hb
    rcases e' with z | z
    · rw [z]; exact ⟨_, he, fun v q => nomatch q⟩
    · rw [z]; exact ⟨o, ho, fun v q => by rw [hd] at q; cases q⟩
  keep := fun i h h' st k => let ⟨⟨old, he⟩, hi, hne⟩ := st; ⟨⟨old, k e (by simp) _ he⟩, hi.at fun o q => k it (by simp) o q, hne⟩
  item := by
    intro X hP hw hK hc i pins s σ H E I hf st hg
    subst hP hw hK
    obtain ⟨⟨old, he⟩, hit, hne⟩ := st
    obtain ⟨xs, x, hq, hx⟩ := hg
    obtain ⟨its, rv, p, hz⟩ := I.tuple hq
    have hat : it ≠ a := fun z => by
      obtain ⟨o, q, c, _⟩ := hit
      obtain ⟨o', q', c', _⟩ := p
      rw [← z, q] at q'
      cases q'
      exact absurd (Value.type.inj (c.symm.trans c')) (by decide)
    have hae : e ≠ a := fun z => by
      obtain ⟨o', q', c', _⟩ := p
      rw [← z, he] at q'
      cases q'
      exact absurd (Value.type.inj c') (by decide)
    have hlt : i < its.length := by
      obtain ⟨u, hu, ru⟩ := rv.get hx
      exact (List.getElem?_eq_some_iff.mp hu).1
    have hel : e < s.heap.objs.size := Heap.lt_size he
    have hil : it < s.heap.objs.size := by obtain ⟨_, q, _⟩ := hit; exact Heap.lt_size q
    have D := Draws.tuple (prog := X.prog) (w := X.w) (A := X.A.in1) (show X.A.in1.handled = none from I.ok.hd hc) it a (Ne.symm hat) its.toArray
    refine wpAny_pyNext_enum_itemD D he (i := i) ⟨hit, show s.heap.IsTuple a its.toArray from p⟩ (by simpa using hlt) hne (by simp [hne, hae]) fun u h' tk hu ho hst' hT hsz hk => ?_
    obtain ⟨hit', _⟩ := hst'
    have ru : RelV x u := by
      obtain ⟨u', hu', ru⟩ := rv.get hx
      have hu2 : its[i]? = some u := by simpa using hu
      rw [hu2] at hu'
      cases hu'
      exact ru
    refine ⟨_, rfl, wpAny_letOwnedTupleGo_enum (s := { s with heap := h', toks := tk + 1 }) ho fun h'' he' sb => ?_⟩
    have hT2 : h''.get? s.heap.objs.size = some { cls := .type "tuple", data := .seq #[.int i tk, u] } := (sb.2 _ (Nat.ne_of_gt hel)).trans hT
    have new : ObjOk X.prog X.w (upd H s.heap.objs.size (.tup [.int (i : Nat), x])) h'' s.heap.objs.size (.tup [.int (i : Nat), x]) :=
      ⟨by show 2 ≤ sizeLine; decide, [.int i tk, u], .cons ⟨_, rfl⟩ (.cons ru .nil), ⟨_, hT2, rfl, _, rfl⟩⟩
    have I1 : Inv X pins σ (upd H s.heap.objs.size (.tup [.int (i : Nat), x])) { s with heap := h'', toks := tk + 1 } :=
      I.turnedNew (ch := [e, it]) (fun b ob hb q => (sb.2 b (fun z => hb (by simp [z]))).trans (hk b ob (fun z => hb (by simp [z])) (fun z => hb (by simp [z])) q)) hf (Nat.le_refl _) new
    refine ⟨.ref s.heap.objs.size, _, I1, rfl, ⟨_, x, rfl, I.hok.fresh (Nat.le_refl _), rfl, fun ys hy => by rw [I.tuple_inj hy hq]; exact hx⟩, ⟨⟨u, ?_⟩, hit'.at fun o q => (sb.2 it (Ne.symm hne)).trans q, hne⟩, fun b hb => ?_⟩
    · have e1 : ((i + 1 : Nat) : Int) = (i : Int) + 1 := by omega
      rw [e1]; exact he'
    · have hb' : b < s.heap.objs.size := by
        have e' : b = e ∨ b = it := by simpa using hb
        rcases e' with z | z
        · rw [z]; exact hel
        · rw [z]; exact hil
      rw [upd_ne (Nat.ne_of_lt hb')]
      exact (hf b hb).1
  done := by
    intro X hP hw hK hc i pins s σ H E I hf st hg
    subst hP hw hK
    obtain ⟨⟨old, he⟩, hit, hne⟩ := st
    obtain ⟨xs, hq, hx⟩ := hg
    obtain ⟨its, rv, p, hz⟩ := I.tuple hq
    obtain ⟨f0, f1, f2, f3, f4, f5⟩ := hf it (by simp)
    have hl := rv.length
    have hh : X.A.in1.handled = none := I.ok.hd hc
    have D : Draws X.prog X.w X.A.in1 it [it, a] i (fun _ _ => False) (fun j h => j = i ∧ h.IsTupleIter it a j ∧ h.IsTuple a its.toArray) := by
      refine ⟨fun _ _ st => let ⟨o, ho, _⟩ := st.2.1; ⟨o, ho⟩, fun _ _ _ st hk => ⟨st.1, st.2.1.at fun o e => hk it (by simp) o e, st.2.2.at fun o e => hk a (by simp) o e⟩, fun j s Q E hj st _ => absurd st.1 (Nat.ne_of_lt hj), fun s Q E st hE => ?_⟩
      exact wpAny_nextOf_tuple_end hh st.2.1 st.2.2 (by simp; omega) hE
    exact wpAny_pyNext_enum_endD D he ⟨rfl, hit, show s.heap.IsTuple a its.toArray from p⟩ fun h' eb => ⟨rfl, I.turned (t' := s.toks) (fun b o hb q => eb b o hb q) f0 f1 f3 f4 f5⟩
  self := fun A i s Q E st h => let ⟨⟨_, he⟩, _⟩ := st; wpAny_pyIter_enum he h
def iEnumT (K : PySem.W.Frag) (ta : TA) : TI := fun σ H R => ta σ H fun vs H1 => ∃ a xs, vs = [.ref a] ∧ SqT K H1 a xs ∧ R (Itet K a) H1
theorem pi_enumT {X : Cx} {e : Expr} {ta : TA} {p pos tpos : Pos} {elts : List Expr} {kk : Nat} (hg : Gl X "enumerate") (hm : X.mg "enumerate" = none) (ha : PA X [e] ta) (hs : starEach [e] X.env = [(false, eval e X.env)] := by rfl) :
    PI X (.Tuple elts kk tpos) (.Call (.Name "enumerate" p) [e] [] pos) (iEnumT X.K ta) := by
  refine ⟨fun pins s σ H R I h => ?_⟩
  refine Call_ (ld_blt I hg hm boot_enumerate (PyProof.Rows.callWith_type1 (thn (ha.run pos pins s σ H _ I h) fun us s1 ⟨vs, H1, I1, r1, q1⟩ => ?_) hs rfl))
  obtain ⟨a, xs, ex, hq, q⟩ := q1
  subst ex
  cases r1 with
  | cons r rr =>
    cases rr
    cases r
    obtain ⟨its, rv, p', hz⟩ := I1.tuple hq
    refine call_enum1 (begins_tuple a its.toArray) (show s1.heap.IsTuple a its.toArray from p') fun h' he hit hsz hk => wpAny_pyIter_enum he ?_
    have I2 : Inv X pins σ H1 { s1 with heap := h' } := I1.kept (t' := s1.toks) hk
    refine ⟨s1.heap.objs.size + 1, [s1.heap.objs.size + 1, s1.heap.objs.size], _, _, H1, rfl, I2, turn_enumT a (s1.heap.objs.size + 1) s1.heap.objs.size, ⟨⟨.none, he⟩, ⟨_, hit, rfl, rfl⟩, Nat.succ_ne_self _⟩, fun b hb => ?_, q⟩
    have e' : b = s1.heap.objs.size + 1 ∨ b = s1.heap.objs.size := by simpa using hb
    have hle : s1.heap.objs.size ≤ b := by
      rcases e' with z | z
      · rw [z]; exact Nat.le_add_right _ _
      · rw [z]; exact Nat.le_refl _
    exact I1.fpOk hle (I1.hok.fresh hle)
/-- enumerate(tuple), by data -/
def enumD (ds : List D) : Nat → List D
  | i => match ds with
    | [] => []
    | d :: ds => .tup [.int (i : Int), d] :: enumD ds (i + 1)
theorem enumD_len : ∀ (ds : List D) (i : Nat), (enumD ds i).length = ds.length
  | [], _ => rfl
  | d :: ds, i => by show (enumD ds (i + 1)).length + 1 = _; rw [enumD_len ds]; rfl
theorem enumD_get : ∀ (ds : List D) (i j : Nat) (d : D), ds[j]? = some d → (enumD ds i)[j]? = some (.tup [.int ((i + j : Nat) : Int), d])
  | [], _, _, _, h => by simp at h
  | d :: ds, i, 0, e, h => by
    simp at h
    subst h
    rfl
  | d :: ds, i, j + 1, e, h => by
    show (enumD ds (i + 1))[j]? = _
    rw [enumD_get ds (i + 1) j e (by simpa using h)]
    have : i + 1 + j = i + (j + 1) := by omega
    rw [this]
def lEnum (g : EvL) : EvL := fun ρ => (g ρ).bind fun as => match as with
  | [.tup ds] => if imm (.tup ds) = true then .ret (enumD ds 0) else .fail
  | _ => .fail
section
variable {X : Cx} {W : Wd} {ms : List Nat} {fr : Bool} {e : Expr} {g : EvL}
theorem walk_enumT {K : PySem.W.Frag} {a : Addr} {xs : List V} : Walk (Itet K a) xs.length (fun H => SqT K H a xs) (YPair (fun i => some (.int (i : Nat))) (fun i => xs[i]?)) := by
  refine ⟨fun i _ hi q => ⟨xs, xs[i], q, by simp [hi]⟩, fun _ q => ⟨xs, q, Nat.le_refl _⟩, fun i H v H' _ q y => ?_⟩
  obtain ⟨T, x, h1, h2, h3, h4⟩ := y
  exact ⟨T, .int (i : Nat), x, h1, h2, h3, rfl, h4 xs q⟩
theorem ti_enum {p pos tpos : Pos} {elts : List Expr} {kk : Nat} (hx : Fit W X) (hg : Gl X "enumerate") (hm : X.mg "enumerate" = none) (ha : PA X [e] (taOf W ms fr g)) (hs : starEach [e] X.env = [(false, eval e X.env)] := by rfl) :
    PI X (.Tuple elts kk tpos) (.Call (.Name "enumerate" p) [e] [] pos) (tiOf W ms (lEnum g)) := by
  refine PI.conv (pi_enumT hg hm ha hs) fun σ H R ⟨H0, ρ, re, q⟩ => ?_
  refine taOf.use re q.bind fun as p vs H1 G e1 xs gx _ => ?_
  split at p
  · split at p
    · rename_i ds hi
      obtain ⟨v, rfl, y⟩ := xs.un1
      obtain ⟨Hb, b1, b2, b3, b4, _⟩ := re.base e1
      obtain ⟨iv, gv⟩ := b4 v _ (fun _ => False) (y.imm hi) .nil fun _ h => h.elim
      cases iv with
      | @tup _ a ys _ h1 z x1 =>
        refine ⟨a, ys, rfl, by rw [hx.K]; exact .inl (.inl (b3.keep _ _ h1 (b1.good.tup h1))), ?_⟩
        rw [hx.K]
        refine p _ Hb H1 e1 b1 b2 ⟨fun H => SqT W.K H a ys, YPair (fun i => some (.int (i : Nat))) (fun i => ys[i]?), by rw [enumD_len, ← x1.length]; exact walk_enumT, fun H e => .inl (.inl (e.keep _ _ h1 (b1.good.tup h1))), ?_⟩
        rintro i x H H' hi' e ⟨T, x', y', rfl, hT, rfl, hx1, hy1⟩
        cases hx1
        obtain ⟨d, hd, iv⟩ := x1.getV hy1
        have hge := enumD_get ds 0 i d hd
        rw [Nat.zero_add] at hge
        have iv' := iv.ext b1.good .nil e
        obtain ⟨f1, f2, f3⟩ := Is.newT (vs := [.int (i : Nat), y']) (ds := [.int (i : Int), d]) e.good .nil (.cons (.int _) (.one iv')) hT (by show 2 ≤ sizeLine; decide)
        exact ⟨f1, _, _, hge, f2, f3, fun a h => h.elim⟩
    · exact p.elim
  · exact p.elim
end
end Sl
end S_Sl9
noncomputable section S_Sl10
set_option Elab.async false
set_option linter.all false
set_option maxRecDepth 100000
set_option maxHeartbeats 1000000
namespace Sl
open PySem PySem.Spec PyProof.Rows L2

/-! ### a def by its body -/
def startR (N : List Str) (ds : List D) : Rho := ds.map some ++ List.replicate (N.length - ds.length) none
def endO : Out → M D
  | .rt d => .ret d
  | .nx _ => .ret .non
  | _ => .fail
def gOf (N : List Str) (F : Sv) (ds : List D) : M D := (F (startR N ds)).bind endO
theorem Rel.start {W : Wd} {H : Hp} {ms : List Nat} {N : List Str} {vs : List V} {ds : List D} {G : Addr → Prop} (g : Good W H) (xs : IsAll W H G vs ds) (f : FOk W H G) (hm : ∀ i ∈ ms, ds.length ≤ i) : Rel W H ms (L2.start N vs) H (startR N ds) := by
  have hl := xs.length
  refine ⟨g, Ext.refl g, by unfold startR L2.start; simp [hl], fun i a => i < ds.length ∧ G a, fun i d q => ?_, fun i a h => f a h.2, fun i hi a h => absurd h.1 (Nat.not_lt.mpr (hm i hi)), fun i hi j _ a h => absurd h.1 (Nat.not_lt.mpr (hm i hi))⟩
  unfold startR at q
  by_cases hi : i < ds.length
  · rw [List.getElem?_append_left (by simpa using hi), List.getElem?_map] at q
    cases e : ds[i]? with
    | none => rw [e] at q; cases q
    | some d' =>
      rw [e] at q
      cases q
      obtain ⟨v, hv, ix⟩ := xs.get e
      refine ⟨v, ?_, ix.wide fun a h => ⟨hi, h⟩⟩
      unfold L2.start
      rw [List.getElem?_append_left (by rw [List.length_map, hl]; exact hi), List.getElem?_map, hv]
      rfl
  · rw [List.getElem?_append_right (by simpa using hi), List.getElem?_replicate] at q
    split at q <;> cases q
theorem fn_data {W : Wd} {mg : Str → Option Value} {base : Heap} {N ps : List Str} {ms : List Nat} {k : Nat} {x : Str} {params : Arguments} {body : List Stmt} {scope : Scope} {f : Addr} {fd : FuncData} {Fv : Sv}
    (F : FunD W.K x x params body scope [] [] f fd) (S : FnScope N ps scope) (hm : ∀ i ∈ ms, ps.length ≤ i)
    (hb : ∀ (cdv : Value) (A : Around) (outer : List Env) (s : Shared) (H : Hp) (E : XK), fd.code = cdv → Room k (A.deeper (envOfC x scope s.heap.objs.size f cdv)) →
      PSs (cxOf CX0 W.P W.w W.K mg base N x scope f cdv A outer s H E).nox body (tsOf W ms Fv)) :
    FnOk W.P W.w W.K mg base CX0 (k + 1) f fd ps (spOf ps.length W (gOf N Fv)) := by
  obtain ⟨oc, od, dV, kV, doc, pm, an, cdv, ct, osl, rfl, lk, hcd, _, _⟩ := F.ex
  refine fn_of lk hcd S (fun vs H Q E h => h.1) fun A outer s H vs Q E hr hsp => ⟨tsOf W ms Fv, PSs.nox (hb cdv A outer s H E rfl hr), ?_⟩
  obtain ⟨hl, ds, G, gd, xs, gx, q⟩ := hsp
  have hd : ds.length = ps.length := by rw [← xs.length]; exact hl
  refine ⟨H, startR N ds, Rel.start gd xs gx fun i hi => by rw [hd]; exact hm i hi, (M.All.bind (show ((Fv (startR N ds)).bind endO).All _ from q)).mono fun o h => ?_⟩
  cases o with
  | rt d => exact fun v H' G' e ix gx' fr => h v H' G' e ix gx' fun _ => fr
  | nx ρ => exact fun σ' H' re => h .non H' (fun _ => False) re.ext .non .nil fun _ _ z => z.elim
  | bk ρ => exact h.elim
  | ct ρ => exact h.elim
end Sl
end S_Sl10
noncomputable section S_Sl11
set_option Elab.async false
set_option linter.all false
set_option maxRecDepth 100000
set_option maxHeartbeats 1000000
namespace Sl
open PySem PySem.Spec PyProof.Rows L2 GenW

/-! ### a generator expression's frame -/
abbrev Cx.gen (X : Cx) (A : Around) (s : Shared) (H : Hp) (ge : Env) (fp : List Addr) (pn : List (Addr × Obj)) : Cx :=
  { X with A := A, s_0 := s, H_0 := H, env := ge, outer := X.stack, stack := ge :: X.stack, ex := fp, fn := fun _ => false, pn := pn, xe := fun _ _ => False }
/-- its scope: names of its own, names that the def keeps in cells -/
structure GenOk (N : List Str) (sc scope : Scope) (own : List (Str × Nat)) : Prop where
  blk : BlkOk N sc scope own
  cell : ∀ y ∈ scope.names, y.2 ≠ .cell
  dot : scope.names.lookup (".0" : Str) = some NameKind.local
  co : scope.isCoroutine = false
theorem gen_start {X : Cx} {pins : List (Addr × Obj)} {σ : L2.St} {H : Hp} {s : Shared} {scope : Scope} {own : List (Str × Nat)} {fp : List Addr} {A : Around} {code : Value} {pn : List (Addr × Obj)} {h5 : Heap} {gens : Array GenState} {tk : Nat} {m5 : Str → Option Value}
    (I : Inv X pins σ H s) (ok : GenOk X.N X.env.scope scope own) (hN : X.N.Nodup) (hfp : ∀ b ∈ fp, FpOk X pins H b ∧ b < s.heap.objs.size) (kp : ∀ b o, s.heap.get? b = some o → h5.get? b = some o)
    (ns : h5.Ns s.heap.objs.size m5) (hb : AllBare gens) (hA : A.frames = some (genEnv scope (cloFrom X.env.cells scope.names []) s.heap.objs.size code builtinsNs X.env :: X.stack)) (hh : A.handled = none)
    (hpn : ∀ p ∈ pn, h5.get? p.1 = some p.2 ∧ s.heap.objs.size < p.1 ∧ ∀ v, p.2.data ≠ .cell v) :
    Inv (Cx.gen X A s H (genEnv scope (cloFrom X.env.cells scope.names []) s.heap.objs.size code builtinsNs X.env) fp pn) [] (wipe σ (own.map (·.2))) H { s with heap := h5, gens := gens, toks := tk } := by
  have okB := ok.blk
  have hfree : ∀ y ∈ scope.names, y.2 = .free → ∃ c, X.env.cells.lookup y.1 = some c := fun y hy e => by
    rcases okB.free y hy e with k | k
    · exact I.ok.has _ (.inl k)
    · exact I.ok.has _ (.inr k)
  have cm : ∀ {y c}, (cloFrom X.env.cells scope.names []).lookup y = some c → X.env.cells.lookup y = some c ∧ c < s.heap.objs.size := fun {y c} e => by
    rcases cloFrom_mem (PySem.mem_of_lookup e) with hm | ⟨h1, rfl⟩
    · cases hm
    · obtain ⟨c, hc⟩ := hfree _ h1 rfl
      rw [hc]
      obtain ⟨w, z⟩ := I.cell _ _ hc
      exact ⟨rfl, z.lt⟩
  have look : ∀ {y}, scope.names.lookup y = some .free → ∃ c, (cloFrom X.env.cells scope.names []).lookup y = some c ∧ X.env.cells.lookup y = some c := fun {y} hl => by
    obtain ⟨c', e'⟩ := L2.mem_lookup (cloFrom_has (cells := X.env.cells) (acc := []) (PySem.mem_of_lookup hl))
    exact ⟨c', e', (cm e').1⟩
  have fr0 : ∀ y, scope.names.lookup y = some .cell → False := fun y e => ok.cell _ (PySem.mem_of_lookup e) rfl
  have hfs : ∀ b ∈ frs X.stack, b < s.heap.objs.size := fun b hb => by
    rcases List.mem_cons.mp (I.stkSub b hb) with z | z
    · rw [z]; exact I.lt
    · exact Nat.lt_of_not_le fun q => I.nofs q z
  refine ⟨⟨I.ok.mod, okB.kind, I.ok.glob, rfl, Nat.le_refl _, fun y z c e1 e2 => I.ok.inj y z c (cm e1).1 (cm e2).1, fun y hy => ?_, fun y c z e => (nomatch (show false = true from z)), fun _ => hh, hA, .inr ⟨rfl, rfl⟩, fun b hb => ⟨?_, fun y c e z => ?_⟩, I.bs, Nat.le_trans I.ok.bsz I.sz, fun b o e hb => ?_, fun b hb z => ?_, I.stack, I.stkFree⟩,
    rfl, hb, Un.kept kp, ⟨m5, ns, fun i y av e1 e2 e3 => ?_⟩, fun y c e => ?_, I.hok.fresh (Nat.le_refl _), fun y c e => I.freeC y c (cm e).1, fun p hp => ?_, I.hok.kept kp, by rw [wipe_length]; exact I.len⟩
  · rcases hy with hy | hy
    · exact (fr0 y hy).elim
    · obtain ⟨c, h1, _⟩ := look hy
      exact ⟨c, h1⟩
  · show b ≠ s.heap.objs.size
    exact Nat.ne_of_lt (hfp b hb).2
  · exact (hfp b hb).1.2.2.2.2.1 y c (cm e).1 z
  · rcases (hfp b hb).1.2.2.2.1 with z | z
    · exact I.ok.noex b o e z
    · exact absurd (Nat.lt_of_lt_of_le (Heap.lt_size e) (Nat.le_trans I.ok.bsz z)) (Nat.lt_irrefl _)
  · rcases List.mem_cons.mp (I.stkSub b z) with z | z
    · exact (hfp b hb).1.2.1 z
    · exact (hfp b hb).1.2.2.1 z
  · obtain ⟨e2, hne⟩ := wipe_some e2
    have no : ∀ k, scope.names.lookup y = some k → (k = .local ∨ k = .cell) → False := fun k e hh => by
      rcases okB.own _ (PySem.mem_of_lookup e) hh with e' | e'
      · obtain ⟨p, hp, hpy⟩ := List.mem_map.mp e'
        have e3 := okB.ix p hp
        have : p.1 = y := hpy
        rw [this] at e3
        exact hne (List.mem_map.mpr ⟨p, hp, nodup_ix hN e3 e1⟩)
      · exact e' (List.mem_of_getElem? e1)
    have hfr : scope.names.lookup y = some .free := by
      have e3 : Vis scope y := e3
      rcases e3 with e3 | e3 | e3
      · exact (no _ e3 (.inl rfl)).elim
      · exact (no _ e3 (.inr rfl)).elim
      · exact e3
    obtain ⟨m, hn, hl⟩ := I.loc
    have hvis : Vis X.env.scope y := (okB.free _ (PySem.mem_of_lookup hfr) rfl).elim (fun k => .inr (.inl k)) (fun k => .inr (.inr k))
    obtain ⟨w, r, q⟩ := hl i y av e1 e2 hvis
    refine ⟨w, r, .inr ⟨.inr hfr, ?_⟩⟩
    obtain ⟨c, h1, h2⟩ := look hfr
    rcases q with ⟨k, _⟩ | ⟨_, c', e', z⟩
    · have k : X.env.scope.names.lookup y = some .local := k
      rcases okB.free _ (PySem.mem_of_lookup hfr) rfl with k' | k' <;> rw [show X.env.scope.names.lookup y = _ from k'] at k <;> cases k
    · rw [h2] at e'; cases e'
      exact ⟨c, h1, z.keeps kp⟩
  · obtain ⟨w, z⟩ := I.cell y c (cm e).1
    exact ⟨w, z.keeps kp⟩
  · have hp : p ∈ pn := by simpa using hp
    obtain ⟨h1, h2, h3⟩ := hpn p hp
    exact ⟨h1, I.hok.fresh (Nat.le_of_lt h2), Nat.ne_of_gt h2, fun z => absurd (hfs p.1 z) (Nat.not_lt.mpr (Nat.le_of_lt h2)), h3⟩
theorem over_compLoop {A : Around} {e : Expr} {gs : List Comprehension} {sc : Scope} {p : Pos} {it acc : Value} {env : Env} : A.over (.compLoop (.GeneratorExp e gs sc p) 0 it acc env) [] = A.deeper env := by
  first
    | rfl
    | (obtain ⟨hd, d, fr, gs, u⟩ := A; simp [Around.over, Around.deeper, marksOver, frameCount, unitsOf, envsOf, guardsOf, pushEnvs, pushGuards, Code.envs, Code.env?, Code.isFrame, Code.guards, Code.isGuard, Code.weight, Code.frames, Code.isCreation, Code.isCaller, Code.cUnits])
theorem over_compStart {A : Around} {e : Expr} {gs : List Comprehension} {sc : Scope} {p : Pos} {it acc : Value} {env : Env} : A.over (.compStart (.GeneratorExp e gs sc p) 0 it acc env) [] = A.deeper env := by
  first
    | rfl
    | (obtain ⟨hd, d, fr, gs, u⟩ := A; simp [Around.over, Around.deeper, marksOver, frameCount, unitsOf, envsOf, guardsOf, pushEnvs, pushGuards, Code.envs, Code.env?, Code.isFrame, Code.guards, Code.isGuard, Code.weight, Code.frames, Code.isCreation, Code.isCaller, Code.cUnits])

/-! ### all (q = true), any (q = false): by data -/
def qGo (q : Bool) (gv : Gv) (f : Ev) : List D → Rho → M Bool
  | [], _ => .ret q
  | d :: ds, ρ => (gv d ρ).bind fun ρ1 => (f ρ1).bind (onBl fun b => if b = q then qGo q gv f ds ρ else .ret (!q))
def eQ (q : Bool) (vs : List Nat) (fi : EvL) (gv : Gv) (f : Ev) : Ev := fun ρ => (fi ρ).bind fun ds => (qGo q gv f ds (wipeR ρ vs)).bind fun b => .ret (.bl b)

section
variable {X : Cx} {W : Wd} {ms : List Nat} {fr : Bool} {elt tg iter : Expr} {scope : Scope} {pos : Pos} {gv : Gv} {f : Ev} {Aw : Around} {s0 : Shared} {Hc : Hp} {ge : Env} {fp : List Addr} {pn : List (Addr × Obj)} {vs : List Nat} {σ : L2.St} {it : Addr} {tn : Nat → Heap → Prop} {J : It} {H1 : Hp} {ds : List D} {ρw : Rho} {q : Bool} {Fin : Bool → Hp → Prop}
/-- asleep, or about to take item i -/
structure GAt (X : Cx) (W : Wd) (Aw : Around) (s0 : Shared) (Hc : Hp) (ge : Env) (fp : List Addr) (pn : List (Addr × Obj)) (σ : L2.St) (tn : Nat → Heap → Prop) (i : Nat) (H : Hp) (s : Shared) : Prop where
  inv : Inv (Cx.gen X Aw s0 Hc ge fp pn) [] σ H s
  at_ : tn i s.heap
  nt : ∀ b ∈ fp, H b = none
  ext : Ext W Hc H
theorem GAt.same {i : Nat} {H : Hp} {s s' : Shared} (a : GAt X W Aw s0 Hc ge fp pn σ tn i H s) (hh : s'.heap = s.heap) (ho : s'.os = s.os) (hb : AllBare s'.gens) : GAt X W Aw s0 Hc ge fp pn σ tn i H s' := by
  refine ⟨a.inv.call' (ch := []) ho (by rw [hh]; exact Un.kept fun _ _ e => e) (by rw [hh]; exact a.inv.hok) hb fun b z => by simp at z, by rw [hh]; exact a.at_, a.nt, a.ext⟩
def GCont (W : Wd) (gv : Gv) (f : Ev) (q : Bool) (Fin : Bool → Hp → Prop) (rest : List D) (ρw : Rho) (H : Hp) : Prop := (qGo q gv f rest ρw).All fun b => ∀ H', Ext W H H' → Fin b H'
def GYp (X : Cx) (W : Wd) (Aw : Around) (s0 : Shared) (Hc : Hp) (ge : Env) (fp : List Addr) (pn : List (Addr × Obj)) (σ : L2.St) (tn : Nat → Heap → Prop) (gv : Gv) (f : Ev) (q : Bool) (Fin : Bool → Hp → Prop) (ds : List D) (ρw : Rho) : Protocol := fun m _ v s kap =>
  ∃ b i H, v = .bool b ∧ i + m = ds.length ∧ GAt X W Aw s0 Hc ge fp pn σ tn i H s ∧ (b ≠ q → ∀ H', Ext W H H' → Fin (!q) H') ∧
    (b = q → GCont W gv f q Fin (ds.drop i) ρw H ∧ ∀ s'', s''.heap = s.heap → s''.os = s.os → AllBare s''.gens → kap (.send .none) s'')
def GRp (X : Cx) (W : Wd) (Aw : Around) (s0 : Shared) (Hc : Hp) (ge : Env) (fp : List Addr) (pn : List (Addr × Obj)) (σ : L2.St) (q : Bool) (Fin : Bool → Hp → Prop) : Nat → Shared → Shared → Prop := fun m _ s => m = 0 ∧ ∃ H, Inv (Cx.gen X Aw s0 Hc ge fp pn) [] σ H s ∧ Ext W Hc H ∧ ∀ H', Ext W H H' → Fin q H'
theorem seg_gen (hx : Fit W X) (hge : ge.scope.isCoroutine = false) (hh : Aw.handled = none) (T : Turn X.prog X.w X.K tg J fp it tn) (wd : WalkD W J H1 ds) (re : Rel W H1 ms σ Hc ρw) (hσ : wipe σ vs = σ) (hp : ∀ b ∈ fp, ∀ p ∈ pn, p.1 ≠ b)
    (hg : PG (Cx.gen X (Aw.deeper ge) s0 Hc ge fp pn) tg (tgOf W ms vs gv)) (he : PE (Cx.gen X (Aw.deeper ge) s0 Hc ge fp pn) elt (tOf W ms fr f)) :
    ∀ (m i : Nat) (s₀ s : Shared) (H : Hp), i + m = ds.length → GAt X W (Aw.deeper ge) s0 Hc ge fp pn σ tn i H s → GCont W gv f q Fin (ds.drop i) ρw H →
      Seg (model X.prog X.w) Aw (fun n s₀ r s₁ => r = .ok .next ∧ GRp X W (Aw.deeper ge) s0 Hc ge fp pn σ q Fin n s₀ s₁) (GYp X W (Aw.deeper ge) s0 Hc ge fp pn σ tn gv f q Fin ds ρw) m s₀
        (.compLoop (.GeneratorExp elt [⟨tg, iter, [], 0⟩] scope pos) 0 (.ref it) .none ge)
        ((model X.prog X.w).den (.compLoop (.GeneratorExp elt [⟨tg, iter, [], 0⟩] scope pos) 0 (.ref it) .none ge)) [] s := by
  obtain ⟨G, Y, w, wG, wY⟩ := wd
  have stat : ∀ {σ' : L2.St} {H' : Hp} {s' : Shared}, Inv (Cx.gen X (Aw.deeper ge) s0 Hc ge fp pn) [] σ' H' s' → (∀ b ∈ fp, H' b = none) → ∀ b ∈ fp, FpOk (Cx.gen X (Aw.deeper ge) s0 Hc ge fp pn) [] H' b := fun {σ' H' s'} I' hn b hb =>
    ⟨hn b hb, (I'.ok.exf b hb).1, I'.ok.exfs b hb, .inl hb, fun x c e => (I'.ok.exf b hb).2 x c e, fun p hp' => by
      rcases List.mem_append.mp hp' with z | z
      · exact hp b hb p z
      · cases z⟩
  intro m
  induction m with
  | zero =>
    intro i s₀ s H hi a c
    have e : i = ds.length := by omega
    subst e
    show Seg _ Aw _ _ _ s₀ _ ((compTurn (.GeneratorExp elt [⟨tg, iter, [], 0⟩] scope pos) 0 (.ref it) .none ge).onRaise (leaving ge)) [] s
    rw [compTurn_gen, Sem.onRaise_eq_wrap]
    refine seg_bind_wrap (wpAny_standAt ?_)
    refine seg_bind_wrap ?_
    rw [over_compLoop]
    refine wpAny_mono (T.done (Cx.gen X (Aw.deeper ge) s0 Hc ge fp pn) rfl rfl rfl hx.calm ds.length [] s σ H _ a.inv (stat a.inv a.nt) a.at_ (w.stops H (wG H (re.ext.trans a.ext)))) (fun r s1 ⟨hr, I1⟩ => ?_) fun _ _ e => e
    subst hr
    have c' : (qGo q gv f (ds.drop ds.length) ρw).All fun b => ∀ H', Ext W H H' → Fin b H' := c
    rw [List.drop_length] at c'
    exact seg_end (.ok .next) ⟨rfl, rfl, H, I1, a.ext, c'⟩
  | succ m ih =>
    intro i s₀ s H hi a c
    have hlt : i < ds.length := by omega
    have gH := wG H (re.ext.trans a.ext)
    show Seg _ Aw _ _ _ s₀ _ ((compTurn (.GeneratorExp elt [⟨tg, iter, [], 0⟩] scope pos) 0 (.ref it) .none ge).onRaise (leaving ge)) [] s
    rw [compTurn_gen, Sem.onRaise_eq_wrap]
    refine seg_bind_wrap (wpAny_standAt ?_)
    refine seg_bind_wrap ?_
    rw [over_compLoop]
    refine wpAny_mono (T.item (Cx.gen X (Aw.deeper ge) s0 Hc ge fp pn) rfl rfl rfl hx.calm i [] s σ H _ a.inv (stat a.inv a.nt) a.at_ (w.goes i H hlt gH)) (fun r s1 ⟨u, hr, h1⟩ => ?_) fun _ _ e => e
    subst hr
    refine seg_bind_wrap ?_
    rw [over_compLoop]
    refine wpAny_mono h1 (fun _ s2 ⟨x, H2, I2, rx, yl, st2, n2⟩ => ?_) fun _ _ e => e
    obtain ⟨e2, d, G', hd, ix, gx, dx⟩ := wY i x H H2 hlt (re.ext.trans a.ext) (w.yields i H x H2 hlt gH yl)
    have hdr : ds.drop i = d :: ds.drop (i + 1) := by
      obtain ⟨h1, h2⟩ := List.getElem?_eq_some_iff.mp hd
      rw [List.drop_eq_getElem_cons h1, h2]
    unfold GCont at c
    rw [hdr] at c
    have ec2 := a.ext.trans e2
    have I2' := I2.pinned (stat I2 n2) (T.obj _ _ st2)
    refine seg_bind_wrap ?_
    rw [over_compLoop]
    refine wpAny_mono (hg.run _ s2 σ H2 x u (fun σ' H' => H' = H2 ∧ wipe σ' vs = wipe σ vs ∧ ∃ ρ1, Rel W H1 ms σ' H2 ρ1 ∧ ((f ρ1).bind (onBl fun b => if b = q then qGo q gv f (ds.drop (i + 1)) ρw else .ret (!q))).All fun b => ∀ H', Ext W H H' → Fin b H') I2' rx
      ⟨H1, ρw, d, G', re.step ec2, ix, gx, .inr dx, M.All.imp (M.All.bind c) fun ρ1 c σ' hw re' => ⟨rfl, hw, ρ1, re', c⟩⟩) (fun _ s3 ⟨σ3, H3, I3, eH, hw, ρ1, re3, c⟩ => ?_) fun _ _ e => False.elim e
    subst eH
    refine seg_bind_wrap ?_
    rw [List.forIn_nil]
    refine wpAny_pure ?_
    simp only [if_true]
    have hy : ∀ v, yieldOut ge v = yieldValue v := fun v => by simp only [yieldOut, hge, Bool.false_eq_true, if_false]
    simp only [hy]
    rw [Sem.bind_eq_wrap', Sem.bind_eq_wrap', Sem.wrap_wrap, Sem.wrap_wrap]
    refine seg_wrap ?_
    rw [over_compLoop]
    refine wpAny_mono (he.run _ s3 σ3 H3 (fun vv H4 => Ext W H3 H4 ∧ ∃ b, vv = .bl b ∧ ((if b = q then qGo q gv f (ds.drop (i + 1)) ρw else .ret (!q)) : M Bool).All fun b => ∀ H', Ext W H H' → Fin b H') I3
      ⟨H1, ρ1, re3, (M.All.bind c).mono fun d c vv H4 G4 e4 iv _ _ => ?_⟩) (fun v s4 ⟨vv, H4, I4, rv, e4, b, hb, c⟩ => ?_) fun _ _ e => False.elim e
    · obtain ⟨b, rfl, c⟩ := onBl_All c
      exact ⟨e4, b, iv.toBl, c⟩
    · subst hb
      cases rv
      have e24 := e2.trans e4
      have pin' : ∀ b ∈ fp, ∀ o, s2.heap.get? b = some o → s4.heap.get? b = some o ∧ H4 b = none := fun b hb o e =>
        let z := I4.pin (b, o) (List.mem_append_right _ (List.mem_append_right _ (mem_pinsAt hb e)))
        ⟨z.1, z.2.1⟩
      have hl : σ.length = σ3.length := by rw [← hσ, ← hw, wipe_length]
      have a4 : GAt X W (Aw.deeper ge) s0 Hc ge fp pn σ tn (i + 1) H4 s4 := by
        refine ⟨(I4.unpinned (pins := [])).weak hl fun j v e => ?_, T.keep _ _ _ st2 fun b hb o e => (pin' b hb o e).1, fun b hb => ?_, a.ext.trans e24⟩
        · rw [← hσ, ← hw] at e
          exact (wipe_some e).1
        · obtain ⟨o, e, _⟩ := T.obj _ _ st2 b hb
          exact (pin' b hb o e).2
      refine seg_at (seg_yield rfl rfl rfl ⟨b, i + 1, H4, rfl, by omega, a4, fun hbq H' e => ?_, fun hbq => ?_⟩)
      · rw [if_neg hbq] at c
        exact c H' (e24.trans e)
      · rw [if_pos hbq] at c
        have c4 : GCont W gv f q Fin (ds.drop (i + 1)) ρw H4 := c.mono fun b h H' e => h H' (e24.trans e)
        exact ⟨c4, fun s'' h1 h2 h3 => seg_again rfl (ih (i + 1) s'' s'' H4 (by omega) (a4.same h1 h2 h3) c4)⟩
theorem seg_genS (hx : Fit W X) (hge : ge.scope.isCoroutine = false) (hh : Aw.handled = none) (T : Turn X.prog X.w X.K tg J fp it tn) (wd : WalkD W J H1 ds) (re : Rel W H1 ms σ Hc ρw) (hσ : wipe σ vs = σ) (hp : ∀ b ∈ fp, ∀ p ∈ pn, p.1 ≠ b)
    (hg : PG (Cx.gen X (Aw.deeper ge) s0 Hc ge fp pn) tg (tgOf W ms vs gv)) (he : PE (Cx.gen X (Aw.deeper ge) s0 Hc ge fp pn) elt (tOf W ms fr f))
    (s₀ s : Shared) (H : Hp) (a : GAt X W (Aw.deeper ge) s0 Hc ge fp pn σ tn 0 H s) (c : GCont W gv f q Fin ds ρw H) :
      Seg (model X.prog X.w) Aw (fun n s₀ r s₁ => r = .ok .next ∧ GRp X W (Aw.deeper ge) s0 Hc ge fp pn σ q Fin n s₀ s₁) (GYp X W (Aw.deeper ge) s0 Hc ge fp pn σ tn gv f q Fin ds ρw) ds.length s₀
        (.compStart (.GeneratorExp elt [⟨tg, iter, [], 0⟩] scope pos) 0 (.ref it) .none ge)
        ((model X.prog X.w).den (.compStart (.GeneratorExp elt [⟨tg, iter, [], 0⟩] scope pos) 0 (.ref it) .none ge)) [] s := by
  have loop := seg_gen (q := q) (Fin := Fin) (iter := iter) (scope := scope) (pos := pos) hx hge hh T wd re hσ hp hg he ds.length 0 s₀ s H (Nat.zero_add _) a (by rw [List.drop_zero]; exact c)
  show Seg _ Aw _ _ _ s₀ _ ((compStart (.GeneratorExp elt [⟨tg, iter, [], 0⟩] scope pos) 0 (.ref it) .none ge).onRaise (leaving ge)) [] s
  unfold compStart
  rw [Sem.onRaise_eq_wrap]
  show Seg _ Aw _ _ _ s₀ _ ((ask >>= _).wrap _ _ _ _) [] s
  refine seg_bind_wrap (wpAny_askSetting ?_)
  split
  · exact seg_again rfl loop
  · first
      | exact seg_bind_wrap (wpAny_rule (seg_bind_wrap (wpAny_standAt (seg_bind_wrap (T.self _ 0 s _ _ a.at_ (seg_again rfl loop))))))
      | (refine seg_bind_wrap (wpAny_rule ?_); show Seg _ Aw _ _ _ s₀ _ ((standAt iter.pos >>= _).wrap _ _ _ _) [] s; exact seg_bind_wrap (wpAny_standAt (seg_bind_wrap (T.self _ 0 s _ _ a.at_ (seg_again rfl loop)))))

/-! ### the consumer -/
theorem gen_next {A : Around} {E : Value → Shared → Prop} {g : Nat} {a : Addr} {go : Obj} {Qf : Option Value → Shared → Prop} (hh : A.handled = none) (hd : A.depth < recursionLimit) (hgo : (a, go) ∈ pn) (hgen : ∀ h : Heap, h.get? a = some go → h.IsGen a g)
    {m : Nat} {s : Shared} {gs : GenState} (hg : s.heap.IsGen a g) (hl : s.heap.NoLimit) (hgs : s.gens[g]? = some gs)
    (hgo2 : gs.Goes (model X.prog X.w) A.in1 (fun n s₀ r s₁ => r = .ok .next ∧ GRp X W (Aw.deeper ge) s0 Hc ge fp pn σ q Fin n s₀ s₁) (GYp X W (Aw.deeper ge) s0 Hc ge fp pn σ tn gv f q Fin ds ρw) m (.send .none) (s.setGen g .running))
    (hY : ∀ b s1, (∃ i H, GAt X W (Aw.deeper ge) s0 Hc ge fp pn σ tn i H s1 ∧ b ≠ q ∧ ∀ H', Ext W H H' → Fin (!q) H') ∨ (b = q ∧ s1.heap.IsGen a g ∧ s1.heap.NoLimit ∧ m ≠ 0 ∧ ∃ gs', s1.gens[g]? = some gs' ∧
        gs'.Goes (model X.prog X.w) A.in1 (fun n s₀ r s₁ => r = .ok .next ∧ GRp X W (Aw.deeper ge) s0 Hc ge fp pn σ q Fin n s₀ s₁) (GYp X W (Aw.deeper ge) s0 Hc ge fp pn σ tn gv f q Fin ds ρw) (m - 1) (.send .none) (s1.setGen g .running)) → Qf (some (.bool b)) s1)
    (hR : ∀ s1, (∃ H, Inv (Cx.gen X (Aw.deeper ge) s0 Hc ge fp pn) [] σ H s1 ∧ Ext W Hc H ∧ ∀ H', Ext W H H' → Fin q H') → Qf none s1) : wpAny (model X.prog X.w) A (pyNext (.ref a)) Qf E s := by
  have hgl : g < s.gens.size := (Array.getElem?_eq_some_iff.mp hgs).1
  refine wpAny_gsz (n := g + 1) hgl (wpAny_pyNext_genexpQ hh hl hd hg hgs hgo2 (fun v s1 gs' hbare hv => ?_) fun s1 hp h' hk => ?_)
  · obtain ⟨b, i, H, rfl, hi, at1, hs, hc⟩ := hv
    intro hsz
    refine hY b _ ?_
    have hbr : AllBare (s1.setGen g gs').gens := allBare_setGen at1.inv.bare hbare
    have at2 := at1.same (s' := s1.setGen g gs') rfl rfl hbr
    by_cases hb : b = q
    · obtain ⟨_, kap⟩ := hc hb
      have hsz1 : g < s1.gens.size := by
        have z : (s1.setGen g gs').gens.size = s1.gens.size := setGen_size _ _ _
        omega
      have k2 := kap ((s1.setGen g gs').setGen g .running) rfl rfl (allBare_setGen hbr rfl)
      cases m with
      | zero => exact k2.elim
      | succ m =>
        exact .inr ⟨hb, hgen _ (at1.inv.pin (a, go) (List.mem_append_left _ hgo)).1, at1.inv.nolimit, Nat.succ_ne_zero m, gs', setGen_at hsz1, k2⟩
    · exact .inl ⟨i, H, at2, hb, hs hb⟩
  · obtain ⟨_, H, I, e, hF⟩ := hp
    intro _
    exact hR _ ⟨H, I.call' (ch := []) (s' := { s1.setGen g .finished with heap := h' }) rfl (Un.kept hk) (I.hok.kept hk) (allBare_setGen I.bare rfl) fun b z => by simp at z, e, hF⟩
theorem all_loop {A : Around} {g : Nat} {a : Addr} {go : Obj} {Rf : Result → Shared → Prop} (hh : A.handled = none) (hd : A.depth < recursionLimit) (hgo : (a, go) ∈ pn) (hgen : ∀ h : Heap, h.get? a = some go → h.IsGen a g)
    (hend : ∀ b H s1, Inv (Cx.gen X (Aw.deeper ge) s0 Hc ge fp pn) [] σ H s1 → Ext W Hc H → (∀ H', Ext W H H' → Fin b H') → Rf (.ok (.ret (.bool b))) s1) :
    ∀ (m : Nat) (s : Shared), s.heap.IsGen a g → s.heap.NoLimit → (∃ gs, s.gens[g]? = some gs ∧ gs.Goes (model X.prog X.w) A.in1.in1 (fun n s₀ r s₁ => r = .ok .next ∧ GRp X W (Aw.deeper ge) s0 Hc ge fp pn σ true Fin n s₀ s₁) (GYp X W (Aw.deeper ge) s0 Hc ge fp pn σ tn gv f true Fin ds ρw) m (.send .none) (s.setGen g .running)) →
      codeAny (model X.prog X.w) A (.builtin "all.loop" ⟨[.ref a], []⟩) Rf s := by
  intro m
  induction m with
  | zero =>
    intro s hg hl ⟨gs, hgs, hgo2⟩
    refine codeAny_builtin F.entry_all_loop ?_
    rw [Around.under_plainId F.plain_all_loop _]
    show wpAny _ A.in1 (pyNext (.ref a) >>= _) _ _ s
    refine wpAny_bind (gen_next (A := A.in1) hh hd hgo hgen hg hl hgs hgo2 (fun b s1 h => ?_) fun s1 ⟨H, I, e, hF⟩ => wpAny_bind (wpAny_rule (wpAny_pure (hend _ H s1 I e hF))))
    rcases h with ⟨i, H, a1, hb, hF⟩ | ⟨_, _, _, h, _⟩
    · have eb : b = false := by cases b <;> simp_all
      subst eb
      refine wpAny_bind (wpAny_holding (wpAny_truthy_bool (wpAny_bind (wpAny_letGo ?_))))
      first
        | exact wpAny_bind (wpAny_rule (wpAny_pure (hend _ H s1 a1.inv a1.ext hF)))
        | (simp only [Bool.false_eq_true, if_false, if_true]; exact wpAny_bind (wpAny_rule (wpAny_pure (hend _ H s1 a1.inv a1.ext hF))))
    · exact absurd rfl h
  | succ m ih =>
    intro s hg hl ⟨gs, hgs, hgo2⟩
    refine codeAny_builtin F.entry_all_loop ?_
    rw [Around.under_plainId F.plain_all_loop _]
    show wpAny _ A.in1 (pyNext (.ref a) >>= _) _ _ s
    refine wpAny_bind (gen_next (A := A.in1) hh hd hgo hgen hg hl hgs hgo2 (fun b s1 h => ?_) fun s1 ⟨H, I, e, hF⟩ => wpAny_bind (wpAny_rule (wpAny_pure (hend _ H s1 I e hF))))
    rcases h with ⟨i, H, a1, hb, hF⟩ | ⟨hb, hg1, hl1, _, gs', hgs', hgo'⟩
    · have eb : b = false := by cases b <;> simp_all
      subst eb
      refine wpAny_bind (wpAny_holding (wpAny_truthy_bool (wpAny_bind (wpAny_letGo ?_))))
      first
        | exact wpAny_bind (wpAny_rule (wpAny_pure (hend _ H s1 a1.inv a1.ext hF)))
        | (simp only [Bool.false_eq_true, if_false, if_true]; exact wpAny_bind (wpAny_rule (wpAny_pure (hend _ H s1 a1.inv a1.ext hF))))
    · subst hb
      refine wpAny_bind (wpAny_holding (wpAny_truthy_bool (wpAny_bind (wpAny_letGo ?_))))
      first
        | exact wpAny_pure ⟨plainId_quiet F.plain_all_loop _, ih s1 hg1 hl1 ⟨gs', hgs', hgo'⟩⟩
        | (simp only [Bool.false_eq_true, if_false, if_true]; exact wpAny_pure ⟨plainId_quiet F.plain_all_loop _, ih s1 hg1 hl1 ⟨gs', hgs', hgo'⟩⟩)
theorem any_loop {A : Around} {g : Nat} {a : Addr} {go : Obj} {Rf : Result → Shared → Prop} (hh : A.handled = none) (hd : A.depth < recursionLimit) (hgo : (a, go) ∈ pn) (hgen : ∀ h : Heap, h.get? a = some go → h.IsGen a g)
    (hend : ∀ b H s1, Inv (Cx.gen X (Aw.deeper ge) s0 Hc ge fp pn) [] σ H s1 → Ext W Hc H → (∀ H', Ext W H H' → Fin b H') → Rf (.ok (.ret (.bool b))) s1) :
    ∀ (m : Nat) (s : Shared), s.heap.IsGen a g → s.heap.NoLimit → (∃ gs, s.gens[g]? = some gs ∧ gs.Goes (model X.prog X.w) A.in1.in1 (fun n s₀ r s₁ => r = .ok .next ∧ GRp X W (Aw.deeper ge) s0 Hc ge fp pn σ false Fin n s₀ s₁) (GYp X W (Aw.deeper ge) s0 Hc ge fp pn σ tn gv f false Fin ds ρw) m (.send .none) (s.setGen g .running)) →
      codeAny (model X.prog X.w) A (.builtin "any.loop" ⟨[.ref a], []⟩) Rf s := by
  intro m
  induction m with
  | zero =>
    intro s hg hl ⟨gs, hgs, hgo2⟩
    refine codeAny_builtin F.entry_any_loop ?_
    rw [Around.under_plainId F.plain_any_loop _]
    show wpAny _ A.in1 (pyNext (.ref a) >>= _) _ _ s
    refine wpAny_bind (gen_next (A := A.in1) hh hd hgo hgen hg hl hgs hgo2 (fun b s1 h => ?_) fun s1 ⟨H, I, e, hF⟩ => wpAny_bind (wpAny_rule (wpAny_pure (hend _ H s1 I e hF))))
    rcases h with ⟨i, H, a1, hb, hF⟩ | ⟨_, _, _, h, _⟩
    · have eb : b = true := by cases b <;> simp_all
      subst eb
      refine wpAny_bind (wpAny_holding (wpAny_truthy_bool (wpAny_bind (wpAny_letGo ?_))))
      first
        | exact wpAny_bind (wpAny_rule (wpAny_pure (hend _ H s1 a1.inv a1.ext hF)))
        | (simp only [Bool.false_eq_true, if_false, if_true]; exact wpAny_bind (wpAny_rule (wpAny_pure (hend _ H s1 a1.inv a1.ext hF))))
    · exact absurd rfl h
  | succ m ih =>
    intro s hg hl ⟨gs, hgs, hgo2⟩
    refine codeAny_builtin F.entry_any_loop ?_
    rw [Around.under_plainId F.plain_any_loop _]
    show wpAny _ A.in1 (pyNext (.ref a) >>= _) _ _ s
    refine wpAny_bind (gen_next (A := A.in1) hh hd hgo hgen hg hl hgs hgo2 (fun b s1 h => ?_) fun s1 ⟨H, I, e, hF⟩ => wpAny_bind (wpAny_rule (wpAny_pure (hend _ H s1 I e hF))))
    rcases h with ⟨i, H, a1, hb, hF⟩ | ⟨hb, hg1, hl1, _, gs', hgs', hgo'⟩
    · have eb : b = true := by cases b <;> simp_all
      subst eb
      refine wpAny_bind (wpAny_holding (wpAny_truthy_bool (wpAny_bind (wpAny_letGo ?_))))
      first
        | exact wpAny_bind (wpAny_rule (wpAny_pure (hend _ H s1 a1.inv a1.ext hF)))
        | (simp only [Bool.false_eq_true, if_false, if_true]; exact wpAny_bind (wpAny_rule (wpAny_pure (hend _ H s1 a1.inv a1.ext hF))))
    · subst hb
      refine wpAny_bind (wpAny_holding (wpAny_truthy_bool (wpAny_bind (wpAny_letGo ?_))))
      first
        | exact wpAny_pure ⟨plainId_quiet F.plain_any_loop _, ih s1 hg1 hl1 ⟨gs', hgs', hgo'⟩⟩
        | (simp only [Bool.false_eq_true, if_false, if_true]; exact wpAny_pure ⟨plainId_quiet F.plain_any_loop _, ih s1 hg1 hl1 ⟨gs', hgs', hgo'⟩⟩)
end
end Sl
end S_Sl11
noncomputable section S_Sl12
set_option Elab.async false
set_option linter.all false
set_option maxRecDepth 100000
set_option maxHeartbeats 1000000
namespace Sl
open PySem PySem.Spec PyProof.Rows L2 GenW

theorem tab_ext {W : Wd} {H : Hp} {P : Addr} {ps ps' : Array Value} (g : Good W H) (hP : P ∈ W.tabs) (h : H P = some (.tbl ps)) (t : TriplesOk ps'.toList) : Ext W H (upd H P (.tbl ps')) := by
  have gd : Good W (upd H P (.tbl ps')) := by
    refine ⟨fun P' hP' => ?_, fun d e => ?_⟩
    · by_cases z : P' = P
      · rw [z]; exact ⟨ps', upd_same, t⟩
      · obtain ⟨qs, q, t'⟩ := g.tab P' hP'
        exact ⟨qs, by rw [upd_ne z]; exact q, t'⟩
    · obtain ⟨⟨p, x, y, q, r⟩, q2⟩ := g.row d e
      refine ⟨⟨p, x, y, by rw [upd_ne (fun z => by rw [z, h] at q; cases q)]; exact q, r⟩, ?_⟩
      rcases q2 with q2 | ⟨hk, q2 | ⟨u, q2⟩⟩
      · exact .inl q2
      · exact .inr ⟨hk, .inl (by rw [upd_ne (fun z => by rw [z, h] at q2; cases q2)]; exact q2)⟩
      · exact .inr ⟨hk, .inr ⟨u, by rw [upd_ne (fun z => by rw [z, h] at q2; cases q2)]; exact q2⟩⟩
  refine ⟨fun a o q n => ?_, fun a q => ?_, gd⟩
  · rw [upd_ne (show a ≠ P from fun z => n (.inl (by rw [z]; exact hP)))]; exact q
  · by_cases z : a = P
    · rw [z, upd_same]; exact fun z => nomatch z
    · rw [upd_ne z]; exact q
/-- where the def's code object and its table stand -/
structure CodeAt (W : Wd) (X : Cx) (c P : Addr) : Prop where
  tab : P ∈ W.tabs
  at_ : GxR.TabB X.base X.mg c P
  code : X.env.code = .ref c
section
variable {X : Cx} {W : Wd} {ms : List Nat} {fr : Bool} {elt tg iter : Expr} {scope : Scope} {own : List (Str × Nat)} {gpos p pos : Pos} {fi : EvL} {gv : Gv} {f : Ev} {c P : Addr} {k : Nat}
/-- a generator that is ready; what any, all make of it -/
theorem gen_ready {q : Bool} {pins : List (Addr × Obj)} {s : Shared} {σ : L2.St} {H : Hp} {Q : VK} {Qf : Value → Shared → Prop} (hx : Fit W X) (hr : Room (k + 1) X.A) (ca : CodeAt W X c P) (ok : GenOk X.N X.env.scope scope own) (hi : PI X tg iter (tiOf W ms fi))
    (hg : ∀ (A : Around) (s : Shared) (H : Hp) (code : Value) (fp : List Addr) (pn : List (Addr × Obj)), PG (Cx.gen X A s H (genEnv scope (cloFrom X.env.cells scope.names []) s.heap.objs.size code builtinsNs X.env) fp pn) tg (tgOf W ms (own.map (·.2)) gv))
    (he : ∀ (A : Around) (s : Shared) (H : Hp) (code : Value) (fp : List Addr) (pn : List (Addr × Obj)), Room k A → PE (Cx.gen X A s H (genEnv scope (cloFrom X.env.cells scope.names []) s.heap.objs.size code builtinsNs X.env) fp pn) elt (tOf W ms fr f))
    (hs : ∀ v, genFold iter X.env v = pure v) (I : Inv X pins σ H s) (h : tOf W ms true (eQ q (own.map (·.2)) fi gv f) σ H Q)
    (hQ : ∀ (s0 : Shared) (Hc : Hp) (ge : Env) (fp : List Addr) (a : Addr) (go : Obj) (g : Nat) (tn : Nat → Heap → Prop) (ds : List D) (ρw : Rho) (s5 : Shared), (∀ h : Heap, h.get? a = some go → h.IsGen a g) → s5.heap.IsGen a g → s5.heap.NoLimit →
      (∃ gs, s5.gens[g]? = some gs ∧ gs.Goes (model X.prog X.w) X.A.in1.in1 (fun n s₀ r s₁ => r = .ok .next ∧ GRp X W (X.A.in1.in1.deeper ge) s0 Hc ge fp [(a, go)] (wipe σ (own.map (·.2))) q (fun b H => Q (.bl b) H) n s₀ s₁) (GYp X W (X.A.in1.in1.deeper ge) s0 Hc ge fp [(a, go)] (wipe σ (own.map (·.2))) tn gv f q (fun b H => Q (.bl b) H) ds ρw) ds.length (.send .none) (s5.setGen g .running)) →
      (∀ b H s1, Inv (Cx.gen X (X.A.in1.in1.deeper ge) s0 Hc ge fp [(a, go)]) [] (wipe σ (own.map (·.2))) H s1 → Ext W Hc H → (∀ H', Ext W H H' → Q (.bl b) H') → EP X pins σ Q (.bool b) s1) → Qf (.ref a) s5) :
    wpAny (model X.prog X.w) X.A (eval (.GeneratorExp elt [⟨tg, iter, [], 0⟩] scope gpos) X.env) Qf X.xe s := by
  obtain ⟨H0, ρ, re, q1⟩ := h
  generalize hvs : own.map (·.2) = vs at hg hQ q1
  have hfree : ∀ y ∈ scope.names, y.2 = .free → ∃ c, X.env.cells.lookup y.1 = some c := fun y hy e => by
    rcases ok.blk.free y hy e with k | k
    · exact I.ok.has _ (.inl k)
    · exact I.ok.has _ (.inr k)
  refine wpAny_GeneratorExp_make ok.co (closure_ok hfree) ok.cell ok.dot ok.blk.kind (by have := hr.dp; omega) ?_ hs
  refine thn (hi.run pins s σ H (fun J H' => ∃ ds H1, Ext W H H' ∧ Rel W H1 ms σ H' ρ ∧ WalkD W J H1 ds ∧ ((qGo q gv f ds (wipeR ρ vs)).bind fun b => .ret (.bl b)).All (Post W H true Q)) I ⟨H0, ρ, re, q1.bind.mono fun ds q1 J H1 H' e e01 re1 wk => ⟨ds, H1, e, re1, wk, q1⟩⟩) fun xv s1 h1 => thn h1 fun itv s2 h2 => ?_
  obtain ⟨it, fp, tn, J, H2, rfl, I2, T, st2, f2, ds, H1, e, re1, wd, q2⟩ := h2
  refine ⟨I2.nolimit, ?_⟩
  obtain ⟨ps, hP, ht⟩ := re1.good.tab P ca.tab
  have hPs : s2.heap.get? P = some { cls := .none, data := .fields ps } := I2.hok P _ hP
  have cd : PySem.W.CodeHd s2.heap c P := ca.at_.code.keeps fun b u e => I2.bk b u e
  have nfP : ∀ b ∈ fp, b ≠ P := fun b hb z => by
    have := (f2 b hb).1
    rw [z, hP] at this
    cases this
  have cont : ∀ (code : Value) (h3 : Heap) (tk : Nat) (ps' : Array Value), Heap.ExtBut P s2.heap h3 → s2.heap.objs.size ≤ h3.objs.size → h3.get? P = some { cls := .none, data := .fields ps' } → (∃ more, ps' = ps ++ more) → TriplesOk ps'.toList →
      wpAny (model X.prog X.w) X.A (builtinsFor X.env.globals X.env.builtins) (fun bi s₄ =>
        ∀ h', h'.Ns s₄.heap.objs.size (fun y => if y = ".0" then some (.ref it) else none) → Heap.SameBut s₄.heap.objs.size (s₄.heap.push { cls := .type "frame", data := .dict #[] }) h' →
          Qf (.ref h'.objs.size) { s₄ with
            gens := s₄.gens.push (.fresh (.compStart (.GeneratorExp elt [⟨tg, iter, [], 0⟩] scope gpos) 0 (.ref it) .none (genEnv scope (cloFrom X.env.cells scope.names []) s₄.heap.objs.size code bi X.env))),
            toks := s₄.toks + 1 + 1 + 1,
            heap := h'.push { cls := .type "generator", data := .fields #[.int s₄.gens.size 0, .str "<genexpr>" (s₄.toks + 1), .str (X.env.qual ++ "<genexpr>") (s₄.toks + 1 + 1)] } }) X.xe { s2 with heap := h3, toks := tk } := by
    intro code h3 tk ps' hxb hsz hP3 hmore ht3
    obtain ⟨more, rfl⟩ := hmore
    have I3 := GxR.inv_tab (more := more) (h' := h3) (g' := s2.gens) (d' := s2.drawn) (t' := tk) I2 hP (fun b u hb e => hxb b u hb e) hP3 I2.bare
    have e23 := tab_ext re1.good ca.tab hP ht3
    generalize hH3 : upd H2 P (.tbl (ps ++ more)) = H3 at I3 e23
    have f3 : ∀ b ∈ fp, FpOk X pins H3 b := fun b hb => by
      obtain ⟨f0, fr⟩ := f2 b hb
      refine ⟨?_, fr⟩
      rw [← hH3, upd_ne (nfP b hb)]
      exact f0
    have st3 : tn 0 h3 := T.keep _ _ _ st2 fun b hb o e => hxb b o (nfP b hb) e
    obtain ⟨bm, ob, b1, b2, b3, b4, b5, b6, b7, b8⟩ := ca.at_.bm
    refine wpAny_builtinsFor (m := X.mg) (by rw [I3.ok.glob]; exact I3.mod.glob.keeps I3.bk) b1 b2 (I3.bk _ _ b5) b6 b7 b8 ?_
    intro h' hn' hs'
    generalize hs3 : ({ s2 with heap := h3, toks := tk } : Shared) = s3 at I3 hn' hs' ⊢
    have hh3 : s3.heap = h3 := by rw [← hs3]
    generalize hgo : ({ cls := .type "generator", data := .fields #[.int s3.gens.size 0, .str "<genexpr>" (s3.toks + 1), .str (X.env.qual ++ "<genexpr>") (s3.toks + 1 + 1)] } : Obj) = go
    have hszh : h'.objs.size = s3.heap.objs.size + 1 := by rw [hs'.1, Heap.size_push]
    have keep' : ∀ b o, s3.heap.get? b = some o → (h'.push go).get? b = some o := fun b o e => Heap.get?_push_of_some _ (hs'.extBut b o (Nat.ne_of_lt (Heap.lt_size e)) (Heap.get?_push_of_some _ e))
    have gat : (h'.push go).get? h'.objs.size = some go := by rw [← hgo]; exact Heap.get?_push_size _ rfl
    have hgen : ∀ h : Heap, h.get? h'.objs.size = some go → h.IsGen h'.objs.size s3.gens.size := fun h e => ⟨go, _, _, e, by rw [← hgo], by rw [← hgo], by rw [← hgo]⟩
    have lt3 : ∀ b ∈ fp, b < s3.heap.objs.size := fun b hb => by
      obtain ⟨o, e, _⟩ := T.obj _ _ st3 b hb
      rw [hh3]; exact Heap.lt_size e
    have hAf : (X.A.in1.in1.deeper (genEnv scope (cloFrom X.env.cells scope.names []) s3.heap.objs.size code builtinsNs X.env)).frames = some (genEnv scope (cloFrom X.env.cells scope.names []) s3.heap.objs.size code builtinsNs X.env :: X.stack) :=
      Around.frames_deeper (show X.A.in1.in1.frames = some X.stack from I3.ok.frames)
    have hbare : AllBare (s3.gens.push (.fresh (.compStart (.GeneratorExp elt [⟨tg, iter, [], 0⟩] scope gpos) 0 (.ref it) .none (genEnv scope (cloFrom X.env.cells scope.names []) s3.heap.objs.size code builtinsNs X.env)))) := AllBare.push I3.bare rfl
    have I5 := gen_start (A := X.A.in1.in1.deeper (genEnv scope (cloFrom X.env.cells scope.names []) s3.heap.objs.size code builtinsNs X.env)) (code := code) (pn := [(h'.objs.size, go)]) (h5 := h'.push go)
      (gens := s3.gens.push (.fresh (.compStart (.GeneratorExp elt [⟨tg, iter, [], 0⟩] scope gpos) 0 (.ref it) .none (genEnv scope (cloFrom X.env.cells scope.names []) s3.heap.objs.size code builtinsNs X.env)))) (tk := s3.toks + 1 + 1 + 1)
      I3 ok hx.nd (fun b hb => ⟨f3 b hb, lt3 b hb⟩) keep' (hn'.push _) hbare hAf (by show X.A.handled = none; exact hr.hd) (fun p hp => by
        rw [List.mem_singleton.mp hp]
        exact ⟨gat, by rw [hszh]; exact Nat.lt_succ_self _, fun v z => by rw [← hgo] at z; cases z⟩)
    rw [hvs] at I5
    generalize hge : genEnv scope (cloFrom X.env.cells scope.names []) s3.heap.objs.size code builtinsNs X.env = ge at I5 hAf hbare ⊢
    have roomk : Room k (X.A.in1.in1.deeper ge) := by
      refine ⟨hr.hd, ?_, ?_⟩
      · have := hr.dp
        show X.A.depth + 1 + 3 * k + 5 < _
        omega
      · have := hr.un
        show X.A.units + 1 + 1 + 3 + 16 * k + 200 < _
        omega
    have a5 : GAt X W (X.A.in1.in1.deeper ge) s3 H3 ge fp [(h'.objs.size, go)] (wipe σ vs) tn 0 H3 { s3 with heap := h'.push go, gens := s3.gens.push (.fresh (.compStart (.GeneratorExp elt [⟨tg, iter, [], 0⟩] scope gpos) 0 (.ref it) .none ge)), toks := s3.toks + 1 + 1 + 1 } :=
      ⟨I5, T.keep _ _ _ st3 fun b _ o e => keep' b o (by rw [hh3]; exact e), fun b hb => (f3 b hb).1, Ext.refl e23.good⟩
    have cc : GCont W gv f q (fun b H => Q (.bl b) H) ds (wipeR ρ vs) H3 := (M.All.bind q2).mono fun b hb H' e' => hb (.bl b) H' (fun _ => False) ((e.trans e23).trans e') (.bl b) .nil fun _ _ z => z.elim
    refine hQ s3 H3 ge fp h'.objs.size go s3.gens.size tn ds (wipeR ρ vs) _ hgen (hgen _ gat) (I3.nolimit.keeps keep') ⟨_, Array.getElem?_push_size .., rfl, ?_⟩ fun b H' s1 I1 e1 hF => ?_
    · have a6 := a5.same (s' := ({ s3 with heap := h'.push go, gens := s3.gens.push (.fresh (.compStart (.GeneratorExp elt [⟨tg, iter, [], 0⟩] scope gpos) 0 (.ref it) .none ge)), toks := s3.toks + 1 + 1 + 1 } : Shared).setGen s3.gens.size .running) rfl rfl (allBare_setGen (s := { s3 with heap := h'.push go, gens := s3.gens.push (.fresh (.compStart (.GeneratorExp elt [⟨tg, iter, [], 0⟩] scope gpos) 0 (.ref it) .none ge)), toks := s3.toks + 1 + 1 + 1 }) hbare rfl)
      refine seg_genS (fr := fr) (Aw := X.A.in1.in1) (ge := ge) (vs := vs) (H1 := H1) hx (by rw [← hge]; exact ok.co) hr.hd T wd ((re1.step e23).wipe vs) (wipe_wipe ..) (fun b hb p hp z => ?_) ?_ ?_ _ _ H3 a6 cc
      · rw [List.mem_singleton.mp hp] at z
        have h1 := lt3 b hb
        rw [← z, hszh] at h1
        exact absurd h1 (Nat.not_lt.mpr (Nat.le_succ _))
      · rw [← hge]
        exact hg _ s3 H3 code fp _
      · rw [← hge]
        refine he _ s3 H3 code fp _ ?_
        rw [hge]
        exact roomk
    · have I6 : Inv X pins σ H' s1 := I3.call' (ch := fp) I1.os I1.base I1.hok I1.bare fun b hb => ⟨(f3 b hb).2.2.2.1, (f3 b hb).2.1, (f3 b hb).2.2.2.2.1, (f3 b hb).2.2.2.2.2⟩
      exact ⟨.bl b, H', I6, rfl, hF H' (Ext.refl e1.good)⟩
  cases hf : codeAmong gpos ps.toList with
  | none =>
    refine wpAny_genexprCodeX ca.code (cd.code hPs ht) (cd.tab hPs) hf fun c' h' tk hx hge hlt hco' _ htab' _ => ?_
    obtain ⟨o1, vs, f1, tf, fl, tg, inF, tx, tt, op, _, _, _, _, _, _, _, _, _, htr, _⟩ := hco'
    exact cont _ h' tk _ hx (Nat.le_trans hge (Nat.le_of_lt hlt)) htab'.2 ⟨_, rfl⟩ htr
  | some cv =>
    refine wpAny_genexprCode_hit ca.code (cd.code hPs ht) hf ?_
    exact cont cv s2.heap s2.toks ps (Heap.ExtBut.refl _ _) (Nat.le_refl _) hPs ⟨#[], by simp⟩ ht
theorem boot_all : bootBuiltins "all" = some (.builtin "all") := by decide +kernel
theorem px_allG (hx : Fit W X) (hr : Room (k + 1) X.A) (ca : CodeAt W X c P) (hn : Gl X "all") (hm : X.mg "all" = none) (ok : GenOk X.N X.env.scope scope own) (hi : PI X tg iter (tiOf W ms fi))
    (hg : ∀ (A : Around) (s : Shared) (H : Hp) (code : Value) (fp : List Addr) (pn : List (Addr × Obj)), PG (Cx.gen X A s H (genEnv scope (cloFrom X.env.cells scope.names []) s.heap.objs.size code builtinsNs X.env) fp pn) tg (tgOf W ms (own.map (·.2)) gv))
    (he : ∀ (A : Around) (s : Shared) (H : Hp) (code : Value) (fp : List Addr) (pn : List (Addr × Obj)), Room k A → PE (Cx.gen X A s H (genEnv scope (cloFrom X.env.cells scope.names []) s.heap.objs.size code builtinsNs X.env) fp pn) elt (tOf W ms fr f))
    (hs : ∀ v, genFold iter X.env v = pure v := by intro _; rfl)
    (hst : starEach [.GeneratorExp elt [⟨tg, iter, [], 0⟩] scope gpos] X.env = (false, eval (.GeneratorExp elt [⟨tg, iter, [], 0⟩] scope gpos) X.env) :: starEach [] X.env := by rfl) :
    PE X (.Call (.Name "all" p) [.GeneratorExp elt [⟨tg, iter, [], 0⟩] scope gpos] [] pos) (tOf W ms true (eQ true (own.map (·.2)) fi gv f)) := by
  refine ⟨fun pins s σ H Q I h => ?_⟩
  refine wpAny_Call_Name_kw (ld_blt I hn hm boot_all ?_)
  refine PyProof.Rows.callWith_builtin1 ?_ hst (by rfl)
  rw [hst]
  show wpAny _ _ (spliced ((false, eval (.GeneratorExp elt [⟨tg, iter, [], 0⟩] scope gpos) X.env) :: backTo pos (starEach [] X.env))) _ _ s
  refine Calls.spliced_cons (gen_ready hx hr ca ok hi hg he hs I h fun s0 Hc ge fp a go g tn ds ρw s5 hgen hg5 hl5 hgo hend => ?_)
  refine Calls.spliced_nil ?_
  refine call_function_tree F.kind_all F.plain_all F.entry_all (F.args_all1 _) ?_
  unfold Builtin.«all»
  refine wpAny_bind (m := oneArg "all" _) (wpAny_pure ?_)
  refine wpAny_bind (wpAny_pyIter_gen hg5 (wpAny_pure ⟨plainId_quiet F.plain_all_loop _, ?_⟩))
  exact all_loop (Aw := X.A.in1.in1) (ge := ge) (s0 := s0) (Hc := Hc) (fp := fp) (tn := tn) (gv := gv) (f := f) (ds := ds) (ρw := ρw) hr.hd (by have := hr.dp; show X.A.depth < _; omega) (List.mem_singleton.mpr rfl) hgen (fun b H s1 I1 e hF => hend b H s1 I1 e hF) ds.length s5 hg5 hl5 hgo
theorem px_anyG (hx : Fit W X) (hr : Room (k + 1) X.A) (ca : CodeAt W X c P) (hn : Gl X "any") (hm : X.mg "any" = none) (ok : GenOk X.N X.env.scope scope own) (hi : PI X tg iter (tiOf W ms fi))
    (hg : ∀ (A : Around) (s : Shared) (H : Hp) (code : Value) (fp : List Addr) (pn : List (Addr × Obj)), PG (Cx.gen X A s H (genEnv scope (cloFrom X.env.cells scope.names []) s.heap.objs.size code builtinsNs X.env) fp pn) tg (tgOf W ms (own.map (·.2)) gv))
    (he : ∀ (A : Around) (s : Shared) (H : Hp) (code : Value) (fp : List Addr) (pn : List (Addr × Obj)), Room k A → PE (Cx.gen X A s H (genEnv scope (cloFrom X.env.cells scope.names []) s.heap.objs.size code builtinsNs X.env) fp pn) elt (tOf W ms fr f))
    (hs : ∀ v, genFold iter X.env v = pure v := by intro _; rfl)
    (hst : starEach [.GeneratorExp elt [⟨tg, iter, [], 0⟩] scope gpos] X.env = (false, eval (.GeneratorExp elt [⟨tg, iter, [], 0⟩] scope gpos) X.env) :: starEach [] X.env := by rfl) :
    PE X (.Call (.Name "any" p) [.GeneratorExp elt [⟨tg, iter, [], 0⟩] scope gpos] [] pos) (tOf W ms true (eQ false (own.map (·.2)) fi gv f)) := by
  refine ⟨fun pins s σ H Q I h => ?_⟩
  refine wpAny_Call_Name_kw (ld_blt I hn hm boot_any ?_)
  refine PyProof.Rows.callWith_builtin1 ?_ hst (by rfl)
  rw [hst]
  show wpAny _ _ (spliced ((false, eval (.GeneratorExp elt [⟨tg, iter, [], 0⟩] scope gpos) X.env) :: backTo pos (starEach [] X.env))) _ _ s
  refine Calls.spliced_cons (gen_ready hx hr ca ok hi hg he hs I h fun s0 Hc ge fp a go g tn ds ρw s5 hgen hg5 hl5 hgo hend => ?_)
  refine Calls.spliced_nil ?_
  refine call_function_tree F.kind_any F.plain_any F.entry_any (F.args_any1 _) ?_
  unfold Builtin.«any»
  refine wpAny_bind (m := oneArg "any" _) (wpAny_pure ?_)
  refine wpAny_bind (wpAny_pyIter_gen hg5 (wpAny_pure ⟨plainId_quiet F.plain_any_loop _, ?_⟩))
  exact any_loop (Aw := X.A.in1.in1) (ge := ge) (s0 := s0) (Hc := Hc) (fp := fp) (tn := tn) (gv := gv) (f := f) (ds := ds) (ρw := ρw) hr.hd (by have := hr.dp; show X.A.depth < _; omega) (List.mem_singleton.mpr rfl) hgen (fun b H s1 I1 e hF => hend b H s1 I1 e hF) ds.length s5 hg5 hl5 hgo
end
end Sl
end S_Sl12
noncomputable section S_Sl13
set_option Elab.async false
set_option linter.all false
set_option maxRecDepth 100000
set_option maxHeartbeats 1000000
namespace Sl
open PySem PySem.Spec PyProof.Rows L2

/-! ### a + b of what does not change: new -/
def kAddF : D → D → M D
  | .int i, .int j => .ret (.int (i + j))
  | .lst as, .lst bs => if (imm.immAll as && imm.immAll bs) = true ∧ as.length + bs.length ≤ sizeLine then .ret (.lst (as ++ bs)) else .fail
  | .tup as, .tup bs => if (imm.immAll as && imm.immAll bs) = true ∧ as.length + bs.length ≤ sizeLine then .ret (.tup (as ++ bs)) else .fail
  | _, _ => .fail
abbrev eAddF (fa fb : Ev) : Ev := e2 fa fb kAddF
section
variable {X : Cx} {W : Wd} {ms : List Nat} {fr fra frb : Bool} {e a b : Expr} {f fa fb : Ev} {pos p : Pos} {g : EvL} {x : Str}
theorem px_addF (ha : PE X a (tOf W ms fra fa)) (hb : PE X b (tOf W ms frb fb)) : PE X (.BinOp a .Add b pos) (tOf W ms true (eAddF fa fb)) := by
  refine PE.conv (pe_op (op_add.or (op_cat.or op_catA)) ha hb) fun σ H Q => ?_
  refine tOp_conv fun Hs H a b va vb Ga Gb Q e x gx fx y gy fy q => ?_
  unfold kAddF at q
  split at q
  · exact .inl ⟨_, _, x.toInt, y.toInt, q _ H (fun _ => False) (Ext.refl e.good) (.int _) .nil fun _ _ h => h.elim⟩
  · rename_i as bs
    split at q
    · rename_i hh
      obtain ⟨hi, hz⟩ := hh
      rw [Bool.and_eq_true] at hi
      cases x with
      | lst f1 h1 z1 x1 =>
        cases y with
        | lst f2 h2 z2 y1 =>
          refine .inr (.inl ⟨_, _, _, _, rfl, rfl, h1, h2, by rw [x1.length, y1.length]; exact hz, fun p hp => ?_⟩)
          obtain ⟨e1, i1, k1⟩ := Is.newL (F := fun _ => False) e.good .nil ((x1.imm hi.1).append (y1.imm hi.2)) hp (by rw [List.length_append]; exact hz)
          refine q _ _ _ e1 i1 k1 fun h z hz => ?_
          rcases hz with rfl | hz
          · exact e.free hp
          · exact hz.elim
    · exact q.elim
  · rename_i as bs
    split at q
    · rename_i hh
      obtain ⟨hi, hz⟩ := hh
      rw [Bool.and_eq_true] at hi
      cases x with
      | tup h1 z1 x1 =>
        cases y with
        | tup h2 z2 y1 =>
          refine .inr (.inr ⟨_, _, _, _, rfl, rfl, .inl (.inl h1), .inl (.inl h2), by rw [x1.length, y1.length]; exact hz, fun n => ?_, fun _ n => ?_, fun _ _ p hp => ?_⟩)
          · have nb : as = [] := x1.nil_iff.mp n
            subst nb
            rw [List.nil_append] at q
            exact q _ H (fun _ => False) (Ext.refl e.good) (.tup h2 z2 (y1.imm hi.2)) .nil fun _ _ h => h.elim
          · have nb : bs = [] := y1.nil_iff.mp n
            subst nb
            rw [List.append_nil] at q
            exact q _ H (fun _ => False) (Ext.refl e.good) (.tup h1 z1 (x1.imm hi.1)) .nil fun _ _ h => h.elim
          · obtain ⟨e1, i1, k1⟩ := Is.newT (F := fun _ => False) e.good .nil ((x1.imm hi.1).append (y1.imm hi.2)) hp (by rw [List.length_append]; exact hz)
            exact q _ _ _ e1 i1 k1 fun _ _ h => h.elim
    · exact q.elim
  · exact q.elim

/-! ### list(d) -/
theorem IsEnts.keysAll {H : Hp} {F : Addr → Prop} : ∀ {xs : List (NestedKey × Addr × Value)} {kvs : List (D × D)}, IsEnts W H F xs kvs → IsAll W H F ((xs.map fun x => x.2.1).map V.ref) (kvs.map (·.1))
  | _, _, .nil => .nil
  | _, _, .cons _ _ a _ _ t => .cons a (IsEnts.keysAll t)
/-- the keys of a dict's object -/
theorem keys_of {es : Array DictEntry} {xs : List (NestedKey × Addr × Value)} {acc : Array Value} (he : es.toList = xs.map (entryOfKey (nestedKind W.P W.w))) (it : ItemsOf (fun i v => ∃ en : DictEntry, es[i]? = some en ∧ v = en.key) acc es.size) :
    acc.toList = (xs.map fun x => x.2.1).map Value.ref := by
  have l1 : es.size = xs.length := by rw [← Array.length_toList, he, List.length_map]
  have hl : acc.toList.length = xs.length := by rw [Array.length_toList, it.1]; exact l1
  rw [List.map_map]
  apply List.ext_getElem?
  intro j
  rw [List.getElem?_map]
  cases hj : acc.toList[j]? with
  | none =>
    have h1 := List.getElem?_eq_none_iff.mp hj
    rw [List.getElem?_eq_none (by omega)]
    rfl
  | some v =>
    obtain ⟨en, hen, hv⟩ := it.2 j v (by rw [← Array.getElem?_toList]; exact hj)
    have qe : es.toList[j]? = some en := by rw [Array.getElem?_toList]; exact hen
    rw [he, List.getElem?_map] at qe
    cases hb : xs[j]? with
    | none => rw [hb] at qe; cases qe
    | some b =>
      rw [hb] at qe
      have e2 : entryOfKey (nestedKind W.P W.w) b = en := Option.some.inj qe
      rw [hv, ← e2]
      rfl
def kListA : List D → M D
  | [.dct kvs] => .ret (.lst (kvs.map (·.1)))
  | ds => kList ds
theorem call_listA (hx : Fit W X) : CallD X W (.type "list") kListA := by
  intro pins s σ H xs us Q I rs h
  obtain ⟨ds, G, gd, ys, gx, q⟩ := h
  unfold kListA at q
  split at q
  · rename_i kvs
    obtain ⟨v, rfl, y⟩ := ys.un1
    obtain ⟨u, rfl, ru⟩ := rs.one
    cases y with
    | @dct _ a o xs _ fa ha dd t =>
      cases ru
      obtain ⟨ho, _, _⟩ := I.hok a _ ha
      obtain ⟨es, ep, hdt, he⟩ := dd.dat
      have l1 : es.size = xs.length := by rw [← Array.length_toList, he, List.length_map]
      have l2 : xs.length = kvs.length := t.len
      have hz := dd.sz
      refine PySem.W.kdl_call (kdl_raw dd.ns dd.ex hdt) (I.ok.hd hx.calm) ho (by omega) fun h' tk acc' c' kp e it => ?_
      have eb := keys_of he it
      have rv : Vals ((xs.map fun x => x.2.1).map V.ref) acc'.toList := by rw [eb]; exact vals_refs _
      have hn := I.hok.fresh (Nat.le_refl s.heap.objs.size)
      have lz : (kvs.map (·.1)).length ≤ sizeLine := by rw [List.length_map]; omega
      have ia := t.keysAll
      obtain ⟨e1, i1, k1⟩ := Is.newL (F := fun _ => False) gd .nil ia hn lz
      refine ⟨.ref s.heap.objs.size, _, I.laid (t' := tk) (o := .lst ((xs.map fun x => x.2.1).map V.ref)) kp (Nat.le_refl _) ?_, rfl, q _ _ _ e1 i1 k1 fun _ a h => h.elim (fun z => by rw [z]; exact hn) fun z => z.elim⟩
      exact ⟨by rw [ia.length]; exact lz, acc'.toList, c', rv, by rw [Array.toArray_toList]; exact e⟩
  · exact call_list pins s σ H xs us Q I rs ⟨_, G, gd, ys, gx, q⟩
/-- list(range(n)) -/
def eListRg (f : Ev) : Ev := fun ρ => (f ρ).bind fun d => match d with
  | .int n => if 0 ≤ n ∧ n < 1000 then .ret (.lst (rangeD n)) else .fail
  | _ => .fail
theorem rgV_is {H : Hp} (n : Int) : IsAll W H (fun _ => False) (rgV 0 n) (rangeD n) := by
  unfold rgV rangeD
  rw [Int.sub_zero]
  generalize List.range n.toNat = l
  induction l with
  | nil => exact .nil
  | cons i l ih =>
    refine .cons ?_ ih
    show Is W H _ (V.int (0 + (i : Int))) (D.int (i : Int))
    rw [Int.zero_add]
    exact .int _
theorem px_listRg {p2 pos2 : Pos} (hx : Fit W X) (hg : Gl X "list") (hm : X.mg "list" = none) (hg2 : Gl X "range") (hm2 : X.mg "range" = none) (ha : PE X a (tOf W ms fra fa))
    (na : starEach [.Call (.Name "range" p2) [a] [] pos2] X.env = (false, eval (.Call (.Name "range" p2) [a] [] pos2) X.env) :: starEach [] X.env := by rfl) (na2 : starEach [a] X.env = (false, eval a X.env) :: starEach [] X.env := by rfl) :
    PE X (.Call (.Name "list" p) [.Call (.Name "range" p2) [a] [] pos2] [] pos) (tOf W ms true (eListRg fa)) := by
  refine PE.conv (pe_listRg hx.calm hg hm (prg_1 hg2 hm2 ha na2) na) fun σ H Q ⟨H0, ρ, re, q⟩ => ?_
  refine tOf.use re q.bind fun d p v H1 G e1 x g fx => ?_
  cases d with
  | int n =>
    have p' : M.All (Post W H true Q) (if 0 ≤ n ∧ n < 1000 then .ret (.lst (rangeD n)) else .fail) := p
    split at p'
    · rename_i hn
      refine ⟨n, x.toInt, ⟨by omega, by omega, by omega, by omega, by omega⟩, fun q hq => ?_⟩
      have hl : (rangeD n).length ≤ sizeLine := by
        have : (rangeD n).length = n.toNat := by simp [rangeD]
        rw [this, sizeLine_eq]; omega
      obtain ⟨e2, i2, k2⟩ := Is.newL (F := fun _ => False) e1.good .nil (rgV_is n) hq hl
      exact p' _ _ _ (e1.trans e2) i2 k2 fun _ a h => h.elim (fun z => by rw [z]; exact e1.free hq) fun z => z.elim
    · exact p'.elim
  | _ => exact p.elim

/-! ### tuple * int -/
theorem tuple_mul1 (l : Addr) (items : Array Value) (n : Nat) (dd : Option Addr) (sl : Array (Option Value)) (u : Tok) :
    Meets (Builtin.«tuple.__mul__» ⟨[.ref l, .int 1 u], []⟩) (fun _ R s => s.heap.get? l = some { cls := .type "tuple", dict := dd, data := .seq items n, slots := sl } ∧ R (.ok (.ret (Value.ref l))) s) :=
  .of_wp fun prog w A R s h => by
    obtain ⟨hp, g, d, tk, os⟩ := s
    obtain ⟨hl, h⟩ := h
    have f1 := AutoSeq1.idx_int
    wp_walk using AutoSeq1.wpAny_loadPart' hl
    exact ⟨_, rfl, h⟩
def rRep1 (K : PySem.W.Frag) : R2 := fun x y H Q => ∃ l xs, x = .ref l ∧ y = .int 1 ∧ SqT K H l xs ∧ Q (.ref l) H
theorem op_rep1 : OpR X (binaryOp .Mult) (rRep1 X.K) := by
  intro pins s σ H x y v u Q I rx ry h
  obtain ⟨l, xs, rfl, rfl, hT, q⟩ := h
  cases rx
  obtain ⟨t, rfl⟩ := ry
  obtain ⟨its, r, ⟨⟨cls, dd, data, sl⟩, ho, hc, n, hd⟩, hs⟩ := I.tuple hT
  simp only at hc hd
  subst hc hd
  refine wpAny_binaryOp_repeat_ref (T := "tuple") (U := "int") (by decide) ⟨_, ho, rfl⟩ (fun s' => typeIs_int s' 1 t) noFill_tuple_mul F.fills_int_mul F.slot_int_rmul repeat_tuple F.slot_int_index.lookup
    (call_meets F.slot_int_rmul (typeIs_int s 1 t) F.entry_int_rmul (F.args_int_rmul_2 _ _) (int_rmul_tuple 1 t l its.toArray n dd sl)
      ⟨ho, rfl, ⟨_, ho, rfl⟩, call_meets F.slot_tuple_mul ⟨_, ho, rfl⟩ F.entry_tuple_mul (F.args_tuple_mul_2 _ _) (tuple_mul1 l its.toArray n dd sl t) ⟨ho, ?_⟩⟩)
  exact ⟨.ref l, H, I, rfl, q⟩
def kRep : D → D → M D
  | .tup ds, .int k => if imm.immAll ds = true ∧ ds ≠ [] ∧ 1 ≤ k ∧ k ≤ 1000 ∧ ds.length ≤ 1000 then .ret (.tup (List.replicate k.toNat ds).flatten) else .fail
  | _, _ => .fail
theorem IsAll.rep {H : Hp} {F : Addr → Prop} {vs : List V} {ds : List D} (x : IsAll W H F vs ds) : ∀ k : Nat, IsAll W H F (List.replicate k vs).flatten (List.replicate k ds).flatten
  | 0 => .nil
  | k + 1 => by
    rw [List.replicate_succ, List.replicate_succ, List.flatten_cons, List.flatten_cons]
    exact x.append (IsAll.rep x k)
theorem px_rep (hK : X.K = W.K) (ha : PE X a (tOf W ms fra fa)) (hb : PE X b (tOf W ms frb fb)) : PE X (.BinOp a .Mult b pos) (tOf W ms true (e2 fa fb kRep)) := by
  refine PE.conv (pe_op (op_repT.or op_rep1) ha hb) fun σ H Q => ?_
  refine tOp_conv fun Hs H a b va vb Ga Gb Q e x gx fx y gy fy q => ?_
  unfold kRep at q
  split at q
  · rename_i ds k
    split at q
    · rename_i hh
      obtain ⟨hi, hne, h1, h2, h3⟩ := hh
      cases x with
      | tup ha z x1 =>
        by_cases hk : k = 1
        · subst hk
          refine .inr ⟨_, _, rfl, y.toInt, .inl (.inl ha), ?_⟩
          have e1 : (List.replicate (1 : Int).toNat ds).flatten = ds := by
            show (List.replicate 1 ds).flatten = ds
            simp
          rw [e1] at q
          exact q _ H (fun _ => False) (Ext.refl e.good) (.tup ha z (x1.imm hi)) .nil fun _ _ h => h.elim
        · refine .inl ⟨_, k, _, rfl, y.toInt, .inl (.inl ha), fun n => hne (x1.nil_iff.mp n), by omega, h2, by rw [x1.length]; exact h3, fun p hp => ?_⟩
          have hl : (List.replicate k.toNat ds).flatten.length ≤ sizeLine := by
            rw [PyProof.Rows.lm_len_rep_flat, sizeLine_eq]
            have a1 : k.toNat * ds.length ≤ 1000 * 1000 := Nat.mul_le_mul (by omega) h3
            omega
          obtain ⟨e1, i1, k1⟩ := Is.newT (F := fun _ => False) e.good .nil ((x1.imm hi).rep k.toNat) hp hl
          exact q _ _ _ e1 i1 k1 fun _ _ h => h.elim
    · exact q.elim
  · exact q.elim
end

/-! ### sorted -/
def tup1 : D → Bool
  | .tup (_ :: _) => true
  | _ => false
def notTup : D → Bool
  | .bl _ => true
  | .int _ => true
  | _ => false
def srtOk (ds : List D) : Bool := (ds.all fun d => eqable 20 d && ds.all fun d' => PySem.W.alike (toPy d) (toPy d')) && (ds.all tup1 || ds.all notTup)
def srt (ds : List D) : List D := ds.mergeSort (PySem.W.dataLe false toPy)
section
variable {X : Cx} {W : Wd} {pins : List (Addr × Obj)} {σ : L2.St} {H : Hp} {s : Shared}
mutual
theorem Is.reads (I : Inv X pins σ H s) : ∀ (n : Nat) (d : D) {F : Addr → Prop} {v : V} {u : Value}, Is W H F v d → RelV v u → eqable n d = true → imm d = true → Reads s.heap u (toPy d) []
  | _, .non, _, _, _, x, r, _, _ => by cases x; cases r; rw [toPy]; exact .none
  | _, .bl b, _, _, _, x, r, _, _ => by cases x; cases r; rw [toPy]; exact .bool b
  | _, .int i, _, _, _, x, r, _, _ => by
    cases x
    obtain ⟨t, rfl⟩ := r
    rw [toPy]
    exact .int i t
  | 0, .tup _, _, _, _, _, _, h, _ => by simp [eqable] at h
  | n + 1, .tup ds, _, _, _, x, r, h, hi => by
    cases x with
    | tup h2 z x1 =>
      cases r
      obtain ⟨its, rv, ⟨o, ho, hc, k, hd⟩, _⟩ := I.tuple (.inl (.inl h2))
      rw [toPy]
      exact .tuple ho hc hd (IsAll.reads I n ds x1 (by simpa using rv) (by simpa [eqable] using h) (by simpa [Sl.imm] using hi))
  | _, .lst _, _, _, _, _, _, _, hi => by simp [Sl.imm] at hi
  | _, .dct _, _, _, _, _, _, _, hi => by simp [Sl.imm] at hi
  | _, .row, _, _, _, _, _, h, _ => by simp [eqable] at h
theorem IsAll.reads (I : Inv X pins σ H s) : ∀ (n : Nat) (ds : List D) {F : Addr → Prop} {vs : List V} {us : List Value}, IsAll W H F vs ds → Vals vs us → eqables n ds = true → imm.immAll ds = true → ReadsAll s.heap us (toPys ds) []
  | _, [], _, _, _, x, r, _, _ => by cases x; cases r; rw [toPys]; exact .nil
  | n, d :: ds, _, _, _, x, r, h, hi => by
    cases x with
    | cons a b =>
      cases r with
      | cons c c' =>
        have h' : (eqable n d && eqables n ds) = true := h
        rw [Bool.and_eq_true] at h'
        simp only [Sl.imm.immAll, Bool.and_eq_true] at hi
        rw [toPys]
        exact .cons (as := []) (Is.reads I n d a c h'.1 hi.1) (IsAll.reads I n ds b c' h'.2 hi.2)
end
theorem srt_parts {ds : List D} (h : srtOk ds = true) : (∀ d ∈ ds, eqable 20 d = true) ∧ PySem.W.AllAlike (ds.map toPy) ∧ PySem.W.Sortable (ds.map toPy) := by
  unfold srtOk at h
  rw [Bool.and_eq_true, List.all_eq_true, Bool.or_eq_true] at h
  obtain ⟨h1, h2⟩ := h
  refine ⟨fun d hd => (Bool.and_eq_true_iff.mp (h1 d hd)).1, fun x hx y hy => ?_, ?_⟩
  · obtain ⟨d, hd, rfl⟩ := List.mem_map.mp hx
    obtain ⟨d', hd', rfl⟩ := List.mem_map.mp hy
    exact List.all_eq_true.mp (Bool.and_eq_true_iff.mp (h1 d hd)).2 d' hd'
  · rcases h2 with h2 | h2
    · refine .inl fun x hx => ?_
      obtain ⟨d, hd, rfl⟩ := List.mem_map.mp hx
      have q := List.all_eq_true.mp h2 d hd
      cases d with
      | tup es =>
        cases es with
        | cons a b => exact ⟨toPy a, toPys b, by rw [toPy, toPys]⟩
        | nil => cases q
      | _ => cases q
    · refine .inr fun x hx => ?_
      obtain ⟨d, hd, rfl⟩ := List.mem_map.mp hx
      have q := List.all_eq_true.mp h2 d hd
      cases d with
      | bl b => rw [toPy]; exact ⟨fun z => (nomatch z), fun _ z => (nomatch z)⟩
      | int i => rw [toPy]; exact ⟨fun z => (nomatch z), fun _ z => (nomatch z)⟩
      | _ => cases q
theorem immAll_mem {ds : List D} (h : imm.immAll ds = true) : ∀ d ∈ ds, imm d = true := by
  induction ds with
  | nil => intro d hd; cases hd
  | cons a ds ih =>
    simp only [Sl.imm.immAll, Bool.and_eq_true] at h
    intro d hd
    rcases List.mem_cons.mp hd with rfl | hd
    · exact h.1
    · exact ih h.2 d hd
/-- what the values stand for -/
theorem each_of (I : Inv X pins σ H s) : ∀ {ds : List D} {vs : List V} {us : List Value}, IsAll W H (fun _ => False) vs ds → Vals vs us → PySem.W.EachIs (fun u d => ∃ v, RelV v u ∧ Is W H (fun _ => False) v d) us ds
  | [], _, _, x, r => by cases x; cases r; exact .nil
  | _ :: _, _, _, x, r => by
    cases x with
    | cons a b =>
      cases r with
      | cons c c' => exact .cons ⟨_, c, a⟩ (each_of I b c')
theorem each_reads (I : Inv X pins σ H s) : ∀ {ds : List D} {vs : List V} {us : List Value}, IsAll W H (fun _ => False) vs ds → Vals vs us → (∀ d ∈ ds, eqable 20 d = true) → (∀ d ∈ ds, imm d = true) → PySem.W.EachIs (fun u d => Reads s.heap u (toPy d) []) us ds
  | [], _, _, x, r, _, _ => by cases x; cases r; exact .nil
  | d :: _, _, _, x, r, h, h2 => by
    cases x with
    | cons a b =>
      cases r with
      | cons c c' => exact .cons (Is.reads I 20 d a c (h _ List.mem_cons_self) (h2 _ List.mem_cons_self)) (each_reads I b c' (fun d hd => h d (List.mem_cons_of_mem _ hd)) fun d hd => h2 d (List.mem_cons_of_mem _ hd))
theorem of_each : ∀ {ds : List D} {us : List Value}, PySem.W.EachIs (fun u d => ∃ v, RelV v u ∧ Is W H (fun _ => False) v d) us ds → ∃ vs, Vals vs us ∧ IsAll W H (fun _ => False) vs ds
  | _, _, .nil => ⟨[], .nil, .nil⟩
  | _, _, .cons ⟨v, r, x⟩ t => by
    obtain ⟨vs, a, b⟩ := of_each t
    exact ⟨v :: vs, .cons r a, .cons x b⟩
def kSorted : List D → M D
  | [.lst ds] => if (imm.immAll ds && srtOk ds) = true then .ret (.lst (srt ds)) else .fail
  | [.dct kvs] => if (imm.immAll (kvs.map (·.1)) && srtOk (kvs.map (·.1))) = true then .ret (.lst (srt (kvs.map (·.1)))) else .fail
  | _ => .fail
theorem depth_le {ds : List D} (h : ∀ d ∈ ds, eqable 20 d = true) : ∀ d ∈ ds, (toPy d).depth ≤ 20 := fun d hd => (shaped_of 20 d (h d hd)).2
theorem call_sorted (hx : Fit W X) : CallD X W (.builtin "sorted") kSorted := by
  intro pins s σ H xs us Q I rs h
  obtain ⟨ds, G, gd, ys, gx, q⟩ := h
  unfold kSorted at q
  split at q
  · rename_i ds
    split at q
    · rename_i hh
      rw [Bool.and_eq_true] at hh
      obtain ⟨hi, hs⟩ := hh
      obtain ⟨he, hal, hk⟩ := srt_parts hs
      obtain ⟨v, rfl, y⟩ := ys.un1
      obtain ⟨u, rfl, ru⟩ := rs.one
      cases y with
      | lst f1 h1 z x1 =>
        cases ru
        obtain ⟨its, rv, pl, hz⟩ := I.list (.inl (.inl h1))
        have x2 := x1.imm hi (F' := fun _ => False)
        have un := hx.un
        refine PySem.W.sorted_data (enc := toPy) (R := fun u d => ∃ v, RelV v u ∧ Is W H (fun _ => False) v d) pl.isList (each_of I x2 rv) ((each_reads I x2 rv he (immAll_mem hi)).mono fun _ _ r => ⟨[], r⟩) hal hk z
          (fun d hd => by have := depth_le he d hd; omega) fun out ho eo => ?_
        obtain ⟨vs, rv2, x3⟩ := of_each eo
        obtain ⟨c, hc⟩ := PyProof.Rows.sortedAll_at s.heap its (List.toArray out)
        have hn := I.hok.fresh (Nat.le_succ s.heap.objs.size)
        have lz : (srt ds).length ≤ sizeLine := by unfold srt; rw [List.length_mergeSort]; exact z
        obtain ⟨e1, i1, k1⟩ := Is.newL (F := fun _ => False) gd .nil x3 hn lz
        refine ⟨.ref (s.heap.objs.size + 1), _, I.laid (t' := s.toks) (o := .lst vs) (fun b o e => PyProof.Rows.sortedAll_old e) (Nat.le_succ _) ?_, rfl, q _ _ _ e1 i1 k1 fun _ a h => h.elim (fun z => by rw [z]; exact hn) fun z => z.elim⟩
        exact ⟨by rw [x3.length]; exact lz, out, c, rv2, hc⟩
    · exact q.elim
  · rename_i kvs
    split at q
    · rename_i hh
      rw [Bool.and_eq_true] at hh
      obtain ⟨hi, hs⟩ := hh
      obtain ⟨he, hal, hk⟩ := srt_parts hs
      obtain ⟨v, rfl, y⟩ := ys.un1
      obtain ⟨u, rfl, ru⟩ := rs.one
      cases y with
      | @dct _ a o xs _ fa ha dd t =>
        cases ru
        obtain ⟨ho, _, _⟩ := I.hok a _ ha
        obtain ⟨es, ep, hdt, hes⟩ := dd.dat
        have l1 : es.size = xs.length := by rw [← Array.length_toList, hes, List.length_map]
        have l2 : xs.length = kvs.length := t.len
        have hz := dd.sz
        have un := hx.un
        refine Calls.call_function_entry PyProof.Rows.kind_sorted PyProof.Rows.plain_sorted PyProof.Rows.entry_sorted (PyProof.Rows.args_sorted1 _) ?_
        unfold Builtin.«sorted»
        refine wpAny_bind (m := checkCount "sorted" 1 1 _) (wpAny_pure ?_)
        refine wpAny_bind (PySem.W.kdu_collect (A := X.A.in1) (kdl_raw dd.ns dd.ex hdt) (I.ok.hd hx.calm) ho (by omega) fun h' tk acc kp it => ?_)
        have eb := keys_of hes it
        have rv : Vals ((xs.map fun x => x.2.1).map V.ref) acc.toList := by rw [eb]; exact vals_refs _
        have x2 := (t.keysAll).imm hi (F' := fun _ => False)
        have I1 : Inv X pins σ H { s with heap := h', toks := tk } := I.kept kp
        have hlen : acc.toList.length ≤ sizeLine := by rw [← rv.length, x2.length, List.length_map]; omega
        refine wpAny_bind (wpAny_newList ?_ hlen)
        have hoL : (h'.push (seqObj "list" acc.toList.toArray 0)).get? h'.objs.size = some (seqObj "list" acc.toList.toArray 0) := Heap.get?_push_size _ rfl
        show wpAny _ _ _ _ _ { s with heap := h'.push (seqObj "list" acc.toList.toArray 0), toks := tk }
        have I2 : Inv X pins σ H { s with heap := h'.push (seqObj "list" acc.toList.toArray 0), toks := tk } := I1.kept (t' := tk) fun b o e => Heap.get?_push_of_some _ e
        have sort := PySem.W.list_sort_data (prog := X.prog) (w := X.w) (A := X.A.in1) (E := X.xe) (s := { s with heap := h'.push (seqObj "list" acc.toList.toArray 0), toks := tk }) (enc := toPy) (R := fun u d => ∃ v, RelV v u ∧ Is W H (fun _ => False) v d) (a := h'.objs.size) (n := 0) (bs := kvs.map (·.1)) hoL (each_of I2 x2 rv)
          ((each_reads I2 x2 rv he (immAll_mem hi)).mono fun _ _ r => ⟨[], r, fun z => nomatch z⟩) hal hk (by rw [List.length_map]; omega) (fun d hd => by have := depth_le he d hd; show X.A.units + 1 + 1 + _ < _; omega)
          (Q := fun r s' => EP X pins σ Q (.ref h'.objs.size) s') fun out ho eo => ?_
        · exact wpAny_bind (wpAny_holding (thn sort fun r s' z => wpAny_pure ⟨_, rfl, z⟩))
        · obtain ⟨vs, rv2, x3⟩ := of_each eo
          obtain ⟨c, hc⟩ := PyProof.Rows.sortedHeap_at (vs := acc.toList) (out := List.toArray out) hoL
          have hn := I1.hok.fresh (Nat.le_refl h'.objs.size)
          have lz : (srt (kvs.map (·.1))).length ≤ sizeLine := by unfold srt; rw [List.length_mergeSort, List.length_map]; omega
          obtain ⟨e1, i1, k1⟩ := Is.newL (F := fun _ => False) gd .nil x3 hn lz
          refine ⟨.ref h'.objs.size, _, I1.laid (t' := tk) (o := .lst vs) (fun b u e => ?_) (Nat.le_refl _) ?_, rfl, q _ _ _ e1 i1 k1 fun _ a h => h.elim (fun z => by rw [z]; exact hn) fun z => z.elim⟩
          · have hb : b < h'.objs.size := Heap.lt_size e
            rw [PyProof.Rows.sortedHeap_old (Nat.ne_of_lt hb) (by rw [size_push']; exact Nat.lt_succ_of_lt hb)]
            exact Heap.get?_push_of_some _ e
          · exact ⟨by rw [x3.length]; exact lz, out, c, rv2, hc⟩
    · exact q.elim
  · exact q.elim
end
end Sl
end S_Sl13
noncomputable section S_Sl14
set_option Elab.async false
set_option linter.all false
set_option maxRecDepth 100000
set_option maxHeartbeats 1000000
namespace Sl
open PySem PySem.Spec PyProof.Rows L2

/-! ### dict(zip(a, b)), a and b anything that is drawn from -/
section
variable {prog : Program} {w : World} {A : Around} {E : Value → Shared → Prop} {s : Shared} {z TI TO i1 i2 T : Addr} {fp1 fp2 : List Addr} {n i : Nat} {P1 P2 : Nat → Value → Prop} {St1 St2 : Nat → Heap → Prop} {f : Bool} {oT : Obj}
/-- the two parts of next: the held tuple, then whatever the items' loop does -/
theorem zipHeld_item {Q : Option Value → Shared → Prop} (S : ZipSep2 z TI TO i1 i2 fp1 fp2) (D1 : Draws prog w A.in1 i1 fp1 n P1 St1) (D2 : Draws prog w A.in1 i2 fp2 n P2 St2)
    (hz : IsZipHeld s.heap z TI TO T f) (hT : s.heap.get? T = some oT) (hTI : IsTupOf2 s.heap TI (.ref i1) (.ref i2)) (st1 : St1 i s.heap) (st2 : St2 i s.heap) (hlt : i < n)
    (hQ : ∀ x1 x2 h' tk, P1 i x1 → P2 i x2 → IsZipHeld h' z TI TO T true → St1 (i + 1) h' → St2 (i + 1) h' → IsTupOf2 h' s.heap.objs.size x1 x2 → h'.objs.size = s.heap.objs.size + 1 →
      (∀ c o, c ≠ z → c ≠ i1 → c ≠ i2 → s.heap.get? c = some o → h'.get? c = some o) → Q (some (.ref s.heap.objs.size)) { s with heap := h', toks := tk }) :
    wpAny (model prog w) A (pyNext (.ref z)) Q E s := by
  have ty : s.TypeIs (.ref z) "zip" := ⟨_, hz, rfl⟩
  have body : wpAny (model prog w) A.in1 (Builtin.«zip.__next__» ⟨[.ref z], []⟩) (fun fin s' => ∃ v, fin = .done (.ret v) ∧ wpAny (model prog w) A (pure (some v)) Q E s') (fun e s' => False) s := by
    show wpAny _ _ (field (.ref z) 2 >>= _) _ _ _
    refine wpAny_bind (wpAny_field hz rfl (x := .bool false) rfl ?_)
    show wpAny _ _ (field (.ref z) 3 >>= _) _ _ _
    refine wpAny_bind (wpAny_field hz rfl (x := .ref TI) rfl (wpAny_bind (wpAny_seqItems hTI rfl ?_)))
    show wpAny _ _ (Builtin.SmallTypes.ownedTupleIsFree (.ref z) >>= _) _ _ _
    refine wpAny_bind (wpAny_tupleHeld_zip hz hT fun ha hza sa => ?_)
    simp only [Bool.false_eq_true, if_false]
    rw [← Array.forIn_toList]
    simp only [List.forIn_cons, List.forIn_nil]
    refine wpAny_bind (wpAny_bind (wpAny_bind (wpAny_holding ?_)))
    show wpAny _ _ (Builtin.SmallTypes.nextOf (.ref i1) >>= _) _ _ { s with heap := ha }
    refine wpAny_bind (D1.item i _ _ _ hlt (D1.over st1 sa S.zf1) fun x1 hb t1 p1 q1 sb => wpAny_pure (wpAny_pure ?_))
    replace sb : Heap.SameBut i1 ha hb := sb
    refine wpAny_bind (wpAny_bind (wpAny_holding ?_))
    show wpAny _ _ (Builtin.SmallTypes.nextOf (.ref i2) >>= _) _ _ { s with heap := hb, toks := t1 }
    refine wpAny_bind (D2.item i _ _ _ hlt (D2.over (D2.over st2 sa S.zf2) sb S.sep1_2) fun x2 hc t2 p2 q2 sc => wpAny_pure (wpAny_pure (wpAny_pure ?_)))
    replace sc : Heap.SameBut i2 hb hc := sc
    show wpAny _ _ (newTuple [x1, x2] >>= _) _ _ _
    refine wpAny_bind (wpAny_newTuple (wpAny_pure ⟨_, rfl, wpAny_pure ?_⟩))
    have size : hc.objs.size = s.heap.objs.size := by rw [sc.1, sb.1, sa.1]
    have keep : ∀ c o, c ≠ z → c ≠ i1 → c ≠ i2 → s.heap.get? c = some o → hc.get? c = some o := fun c o c0 c1 c2 e => sc.extBut _ _ c2 (sb.extBut _ _ c1 (sa.extBut _ _ c0 e))
    have pair : IsTupOf2 (hc.push { cls := .type "tuple", data := .seq #[x1, x2] }) hc.objs.size x1 x2 := Heap.get?_push_size _ rfl
    have grown : (hc.push { cls := .type "tuple", data := .seq #[x1, x2] }).objs.size = hc.objs.size + 1 := Heap.size_push ..
    have zh : IsZipHeld hc z TI TO T true := sc.extBut _ _ S.zi2 (sb.extBut _ _ S.zi1 hza)
    show Q (some (.ref hc.objs.size)) _
    rw [size] at pair grown ⊢
    exact hQ x1 x2 _ t2 p1 p2 (Heap.get?_push_of_some _ zh) (D1.frame _ _ _ (D1.over q1 sc S.sep2_1) fun b _ o e => Heap.get?_push_of_some _ e) (D2.frame _ _ _ q2 fun b _ o e => Heap.get?_push_of_some _ e) pair grown fun c o c0 c1 c2 e => Heap.get?_push_of_some _ (keep c o c0 c1 c2 e)
  unfold pyNext
  exact wpAny_bind (wpAny_attempt (wpAny_callSpecial?_slot (name := Str.ofString "__next__") ty F.slot_zip_next (wpAny_call_entry F.slot_zip_next ty F.entry_zip_next (wpAny_mono body (fun _ _ x => x) fun _ _ x => x.elim) (F.args_zip_next_1 _))))
theorem zipHeld_end {Q : Option Value → Shared → Prop} (S : ZipSep2 z TI TO i1 i2 fp1 fp2) (D1 : Draws prog w A.in1 i1 fp1 n P1 St1)
    (hz : IsZipHeld s.heap z TI TO T f) (hT : s.heap.get? T = some oT) (hTI : IsTupOf2 s.heap TI (.ref i1) (.ref i2)) (st1 : St1 n s.heap)
    (hQ : ∀ h', (∀ c o, c ≠ z → c ≠ i1 → c ≠ i2 → s.heap.get? c = some o → h'.get? c = some o) → Q none { s with heap := h' }) : wpAny (model prog w) A (pyNext (.ref z)) Q E s := by
  have ty : s.TypeIs (.ref z) "zip" := ⟨_, hz, rfl⟩
  unfold pyNext
  refine wpAny_bind (wpAny_attempt (wpAny_callSpecial?_slot (name := Str.ofString "__next__") ty F.slot_zip_next (wpAny_call_entry F.slot_zip_next ty F.entry_zip_next ?_ (F.args_zip_next_1 _))))
  show wpAny _ _ (field (.ref z) 2 >>= _) _ _ _
  refine wpAny_bind (wpAny_field hz rfl (x := .bool false) rfl ?_)
  show wpAny _ _ (field (.ref z) 3 >>= _) _ _ _
  refine wpAny_bind (wpAny_field hz rfl (x := .ref TI) rfl (wpAny_bind (wpAny_seqItems hTI rfl ?_)))
  show wpAny _ _ (Builtin.SmallTypes.ownedTupleIsFree (.ref z) >>= _) _ _ _
  refine wpAny_bind (wpAny_tupleHeld_zip hz hT fun ha hza sa => ?_)
  simp only [Bool.false_eq_true, if_false]
  rw [← Array.forIn_toList]
  simp only [List.forIn_cons, List.forIn_nil]
  refine wpAny_bind (wpAny_bind (wpAny_bind (wpAny_holding ?_)))
  show wpAny _ _ (Builtin.SmallTypes.nextOf (.ref i1) >>= _) _ _ { s with heap := ha }
  refine wpAny_bind (D1.done _ _ _ (D1.over st1 sa S.zf1) fun hb e kb ⟨o, ho, hc⟩ => ?_)
  refine wpAny_bind (wpAny_isInstance (T := "StopIteration") (b := true) ⟨o, ho, hc⟩ isSubtype_stop (wpAny_pure (hQ _ fun c o c0 c1 _ e => kb c o c1 (sa.extBut _ _ c0 e))))
end
/-- zip as dict's argument -/
theorem zipArg {prog : Program} {w : World} {z TI TO i1 i2 : Addr} {fp1 fp2 : List Addr} {n : Nat} {P1 P2 : Nat → Value → Prop} {St1 St2 : Nat → Heap → Prop} (S : ZipSep2 z TI TO i1 i2 fp1 fp2)
    (D1 : ∀ A : Around, A.handled = none → Draws prog w A i1 fp1 n P1 St1) (D2 : ∀ A : Around, A.handled = none → Draws prog w A i2 fp2 n P2 St2) (t1 : ∀ h, St1 0 h → ∀ b ∈ fp1, ∃ o, h.get? b = some o) (t2 : ∀ h, St2 0 h → ∀ b ∈ fp2, ∃ o, h.get? b = some o) :
    PairArg prog w "zip" z (z :: TI :: TO :: (fp1 ++ fp2)) [z, TO, i1, i2] n (fun i k v => P1 i k ∧ P2 i v)
      (fun h => IsZip h z TI TO .none ∧ IsTupOf2 h TI (.ref i1) (.ref i2) ∧ (∃ a b, IsTupOf2 h TO a b) ∧ St1 0 h ∧ St2 0 h) where
  type := fun s ok => ⟨_, ok.1, rfl⟩
  notDict := by decide
  keep := fun h h' ⟨hz, hTI, ⟨a, b, hTO⟩, s1, s2⟩ hk => ⟨hk _ _ hz, hk _ _ hTI, ⟨a, b, hk _ _ hTO⟩, (D1 ⟨none, 0, none, none, 0⟩ rfl).frame _ _ _ s1 fun b _ o e => hk b o e, (D2 ⟨none, 0, none, none, 0⟩ rfl).frame _ _ _ s2 fun b _ o e => hk b o e⟩
  there := fun h ⟨hz, hTI, ⟨a, c, hTO⟩, s1, s2⟩ b hb => by
    rcases List.mem_cons.mp hb with rfl | hb
    · exact ⟨_, hz⟩
    rcases List.mem_cons.mp hb with rfl | hb
    · exact ⟨_, hTI⟩
    rcases List.mem_cons.mp hb with rfl | hb
    · exact ⟨_, hTO⟩
    rcases List.mem_append.mp hb with hb | hb
    · exact t1 h s1 b hb
    · exact t2 h s2 b hb
  sub := fun b hb => by
    have m1 := S.mem1
    have m2 := S.mem2
    simp only [List.mem_cons, List.not_mem_nil, or_false] at hb
    rcases hb with rfl | rfl | rfl | rfl <;> simp [m1, m2]
  noKeys := fun A s Q E hA ok h => getAttrOr_miss_zip ok.1 rfl rfl rfl zip_no_keys (by decide +kernel) hA h
  iter := fun A s d Q E hA ok hd hdf h => by
    obtain ⟨hz, hTI, ⟨a, b, hTO⟩, s1, s2⟩ := ok
    simp only [List.mem_cons, List.mem_append, not_or] at hdf
    obtain ⟨dz, dTI, dTO, d1, d2⟩ := hdf
    have di1 : d ≠ i1 := fun e => d1 (by rw [e]; exact S.mem1)
    have di2 : d ≠ i2 := fun e => d2 (by rw [e]; exact S.mem2)
    have hAi : A.in1.handled = none := hA
    have E1 := D1 A.in1 hAi
    have E2 := D2 A.in1 hAi
    refine wpAny_pyIter_zip hz (h z [z, TO, i1, i2] (fun i h => IsTupOf2 h TI (.ref i1) (.ref i2) ∧ St1 i h ∧ St2 i h ∧
      ((IsZip h z TI TO .none ∧ ∃ a b, IsTupOf2 h TO a b) ∨ ∃ T f oT, IsZipHeld h z TI TO T f ∧ h.get? T = some oT ∧ T ≠ z ∧ T ≠ i1 ∧ T ≠ i2 ∧ T ≠ d)) s.heap s.toks ?_
      ⟨hTI, s1, s2, .inl ⟨hz, a, b, hTO⟩⟩ (fun _ _ e => e) fun b hb => .inl hb)
    refine ⟨fun hm => ?_, fun i h h' ⟨g1, g2, g3, g4⟩ hk => ?_, fun i t Q2 E2' hi ⟨g1, g2, g3, g4⟩ hds hQ => ?_, fun t Q2 E2' ⟨g1, g2, g3, g4⟩ hQ => ?_⟩
    · simp only [List.mem_cons, List.not_mem_nil, or_false] at hm
      rcases hm with e | e | e | e
      · exact dz e
      · exact dTO e
      · exact di1 e
      · exact di2 e
    · refine ⟨hk _ _ (Ne.symm dTI) g1, E1.frame _ _ _ g2 fun b hb o e => hk b o (fun q => d1 (q ▸ hb)) e, E2.frame _ _ _ g3 fun b hb o e => hk b o (fun q => d2 (q ▸ hb)) e, ?_⟩
      rcases g4 with ⟨q1, a, b, q2⟩ | ⟨T, f, oT, q1, q2, r1, r2, r3, r4⟩
      · exact .inl ⟨hk _ _ (Ne.symm dz) q1, a, b, hk _ _ (Ne.symm dTO) q2⟩
      · exact .inr ⟨T, f, oT, hk _ _ (Ne.symm dz) q1, hk _ _ r4 q2, r1, r2, r3, r4⟩
    · have gt : ∀ {c o}, t.heap.get? c = some o → t.heap.objs.size ≠ c := fun e => Nat.ne_of_gt (Heap.lt_size e)
      have n1 : t.heap.objs.size ≠ i1 := let ⟨_, e⟩ := E1.live _ _ g2; gt e
      have n2 : t.heap.objs.size ≠ i2 := let ⟨_, e⟩ := E2.live _ _ g3; gt e
      rcases g4 with ⟨q1, a, b, q2⟩ | ⟨T, f, oT, q1, q2, r1, r2, r3, r4⟩
      · refine wpAny_pyNext_zipD2_item S E1 E2 q1 g1 q2 g2 g3 hi hi fun x1 x2 h' tk p1 p2 z1 z2 z3 z4 z5 z6 z7 => ?_
        exact hQ _ x1 x2 h' tk ⟨p1, p2⟩ (.inl ⟨_, z5, rfl, _, rfl⟩) ⟨z7 _ _ S.TIz S.TITO S.TIi1 S.TIi2 g1, z3, z4, .inr ⟨_, false, _, z1, z5, gt q1, n1, n2, Nat.ne_of_gt hds⟩⟩
          fun c o hc e => z7 c o (fun x => hc (by simp [x])) (fun x => hc (by simp [x])) (fun x => hc (by simp [x])) (fun x => hc (by simp [x])) e
      · refine zipHeld_item S E1 E2 q1 q2 g1 g2 g3 hi fun x1 x2 h' tk p1 p2 z1 z3 z4 z5 z6 z7 => ?_
        exact hQ _ x1 x2 h' tk ⟨p1, p2⟩ (.inl ⟨_, z5, rfl, _, rfl⟩) ⟨z7 _ _ S.TIz S.TIi1 S.TIi2 g1, z3, z4, .inr ⟨T, true, oT, z1, z7 _ _ r1 r2 r3 q2, r1, r2, r3, r4⟩⟩
          fun c o hc e => z7 c o (fun x => hc (by simp [x])) (fun x => hc (by simp [x])) (fun x => hc (by simp [x])) e
    · rcases g4 with ⟨q1, a, b, q2⟩ | ⟨T, f, oT, q1, q2, r1, r2, r3, r4⟩
      · exact wpAny_pyNext_zipD2_end S E1 E2 q1 g1 q2 g2 g3 (Nat.le_refl _) (Nat.le_refl _) (.inl rfl) fun h' tk hk => hQ h' tk fun c o hc e => hk c o (fun x => hc (by simp [x])) (fun x => hc (by simp [x])) (fun x => hc (by simp [x])) (fun x => hc (by simp [x])) e
      · exact zipHeld_end S E1 q1 q2 g1 g2 fun h' hk => hQ h' t.toks fun c o hc e => hk c o (fun x => hc (by simp [x])) (fun x => hc (by simp [x])) (fun x => hc (by simp [x])) e

theorem dPut_add (kvs : List (D × D)) (d v : D) : (dPut kvs d v).length ≤ kvs.length + 1 := dPut_len kvs d v
theorem dPutAll_len : ∀ (ps kvs : List (D × D)), (dPutAll kvs ps).length ≤ kvs.length + ps.length
  | [], kvs => Nat.le_refl _
  | p :: ps, kvs => by
    have h1 := dPutAll_len ps (dPut kvs p.1 p.2)
    have h2 := dPut_len kvs p.1 p.2
    show (dPutAll (dPut kvs p.1 p.2) ps).length ≤ _
    rw [List.length_cons]
    omega
section
variable {W : Wd} {H : Hp}
theorem IsEnts.putAll {F : Addr → Prop} : ∀ {ps : List (NestedKey × Addr × Value)} {pd : List (D × D)} {xs : List (NestedKey × Addr × Value)} {kvs : List (D × D)}, IsEnts W H F ps pd → IsEnts W H F xs kvs → IsEnts W H F (storedAllH xs ps) (dPutAll kvs pd)
  | _, _, _, _, .nil, t => t
  | _, _, _, _, .cons e n a r b c, t => by
    have z := IsEnts.putAll c (t.put e n a r b)
    exact z
theorem mk_ents : ∀ {ks ds : List D} {vk vv : List V} {us ws : List Value}, IsAll W H (fun _ => False) vk ks → Vals vk us → IsAll W H (fun _ => False) vv ds → Vals vv ws → (ks.all fun k => isTup k && keyOk k) = true → ks.length = ds.length →
    ∃ ps, IsEnts W H (fun _ => False) ps (ks.zip ds) ∧ ps.length = ks.length ∧ ∀ (i : Nat) (key v : Value), us[i]? = some key → ws[i]? = some v → ∃ k b, ps[i]? = some (k, b, v) ∧ key = .ref b
  | [], _, _, _, _, _, x, r, y, r', _, hl => by
    cases x; cases r
    exact ⟨[], .nil, rfl, fun i key v h => by simp at h⟩
  | k :: ks, [], _, _, _, _, _, _, _, _, _, hl => by simp at hl
  | k :: ks, d :: ds, _, _, _, _, x, r, y, r', h, hl => by
    cases x with
    | cons a as =>
      cases y with
      | cons b bs =>
        cases r with
        | @cons vk0 uk0 _ _ c cs =>
          cases r' with
          | cons c' cs' =>
            simp only [List.all_cons, Bool.and_eq_true] at h
            obtain ⟨ps, h1, h2, h3⟩ := mk_ents as cs bs cs' (by simpa using h.2) (by simpa using hl)
            obtain ⟨kk, e1, e2⟩ := keyOk_some h.1.2
            obtain ⟨p, rfl⟩ := a.isTup h.1.1
            cases c
            refine ⟨(kk, p, _) :: ps, .cons e1 e2 a c' b h1, by simp [h2], fun i key v q1 q2 => ?_⟩
            cases i with
            | zero =>
              simp at q1 q2
              subst q1 q2
              exact ⟨kk, p, rfl, rfl⟩
            | succ i => exact h3 i key v (by simpa using q1) (by simpa using q2)
end
theorem natNe {a b : Nat} (h : a ≠ b) : @Ne Addr a b := h
theorem sep5 (n l t : Nat) (h1 : l < n) (h2 : t < n) : ZipSep2 (n + 4) (n + 2) (n + 3) n (n + 1) [n, l] [n + 1, t] := by
  have m : ∀ {a b c : Nat}, a ≠ b → a ≠ c → (a : Addr) ∉ ([b, c] : List Addr) := fun {a b c} p q h => by
    rcases List.mem_cons.mp h with h | h
    · exact p h
    · exact q (List.mem_singleton.mp h)
  refine ⟨natNe ?_, natNe ?_, natNe ?_, natNe ?_, List.mem_cons_self, m ?_ ?_, m ?_ ?_, natNe ?_, List.mem_cons_self, m ?_ ?_, m ?_ ?_, m ?_ ?_, m ?_ ?_⟩ <;> omega
theorem old5 (n b : Nat) (h : b < n) : (b : Addr) ≠ n + 5 ∧ (b : Addr) ∉ ([n + 4, n + 3, n, n + 1] : List Addr) := by
  refine ⟨natNe (by omega), fun z => ?_⟩
  have e : b = n + 4 ∨ b = n + 3 ∨ b = n ∨ b = n + 1 := by simpa using z
  omega
def kDictZip (a b : D) : M D := match a, b with
  | .lst ks, .tup ds => if ((ks.all fun k => isTup k && keyOk k) && (imm.immAll ks && imm.immAll ds)) = true ∧ ks.length = ds.length then .ret (.dct (dPutAll [] (ks.zip ds))) else .fail
  | _, _ => .fail
section
variable {X : Cx} {W : Wd} {ms : List Nat} {fr fra frb : Bool} {a b : Expr} {fa fb : Ev} {pos p pos2 p2 : Pos}
theorem px_dictZip (hx : Fit W X) (hg : Gl X "dict") (hm : X.mg "dict" = none) (hg2 : Gl X "zip") (hm2 : X.mg "zip" = none) (ha : PE X a (tOf W ms fra fa)) (hb : PE X b (tOf W ms frb fb))
    (na : starEach [.Call (.Name "zip" p2) [a, b] [] pos2] X.env = (false, eval (.Call (.Name "zip" p2) [a, b] [] pos2) X.env) :: starEach [] X.env := by rfl)
    (hs1 : starEach (a :: [b]) X.env = (false, eval a X.env) :: starEach [b] X.env := by rfl) (hs2 : starEach (b :: []) X.env = (false, eval b X.env) :: starEach [] X.env := by rfl) (hpl : (backTo pos2 (starEach [b] X.env)).any (·.1) = false := by rfl) :
    PE X (.Call (.Name "dict" p) [.Call (.Name "zip" p2) [a, b] [] pos2] [] pos) (tOf W ms true (e2 fa fb kDictZip)) := by
  refine ⟨fun pins s σ H Q I ⟨H0, ρ, re, q⟩ => ?_⟩
  have un := hx.un
  refine Call_ (ld_blt I hg hm PyProof.Rows.boot_dict (PyProof.Rows.callWith_type1 (args_cons (Call_ (ld_blt I hg2 hm2 PyProof.Rows.boot_zip (PyProof.Rows.callWith_type1
    (thn ((pa_cons ha (pa_cons hb pa_nil hs2) hs1).run pos2 pins s σ H (fun vs H2 => ∃ va vb da db Ga Gb, vs = [va, vb] ∧ Ext W H H2 ∧ Is W H2 Ga va da ∧ Is W H2 Gb vb db ∧ (kDictZip da db).All (Post W H true Q)) I
      ⟨H0, ρ, re, q.bind.mono fun da p va H1 G1 e1 x g _ => ⟨H0, ρ, re.step e1, p.bind.mono fun db p vb H2 G2 e2 y g2 _ => ⟨va, vb, da, db, G1, G2, rfl, e1.trans e2, x.ext e1.good g e2, y, p⟩⟩⟩)
      fun us s1 ⟨vs, H1, I1, r1, q1⟩ => ?_) hs1 hpl))) na) na))
  obtain ⟨va, vb, da, db, Ga, Gb, rfl, e, x, y, q⟩ := q1
  unfold kDictZip at q
  split at q
  · rename_i ks ds
    split at q
    · rename_i hh
      obtain ⟨hh, hlen⟩ := hh
      rw [Bool.and_eq_true, Bool.and_eq_true] at hh
      obtain ⟨hk, hi1, hi2⟩ := hh
      cases r1 with
      | cons r rr =>
        cases rr with
        | cons r' rr =>
          cases rr
          cases x with
          | @lst _ l xs _ fl hl z x1 =>
            cases y with
            | @tup _ t ys _ ht zy y1 =>
              cases r
              cases r'
              obtain ⟨its, rv, p1, _⟩ := I1.list (.inl (.inl hl))
              obtain ⟨its2, rv2, p2, _⟩ := I1.tuple (.inl (.inl ht))
              have x2 := x1.imm hi1 (F' := fun _ => False)
              have y2 := y1.imm hi2 (F' := fun _ => False)
              obtain ⟨ps, pe, pl, pg⟩ := mk_ents x2 rv y2 rv2 hk hlen
              have la : l < s1.heap.objs.size := p1.lt
              have lb : t < s1.heap.objs.size := by obtain ⟨o, ho, _⟩ := p2; exact Heap.lt_size ho
              have n1 : its.length = ks.length := by rw [← rv.length, x1.length]
              have n2 : its2.length = ds.length := by rw [← rv2.length, y1.length]
              refine zip_begins2 (begins_list l its.toArray) (begins_tuple t its2.toArray) p1.isList (show s1.heap.IsTuple t its2.toArray from p2) fun h' hz hTI hTO g1 g2 hsz hkp => ?_
              refine args_nil ?_
              have sep : ZipSep2 (s1.heap.objs.size + 4) (s1.heap.objs.size + 2) (s1.heap.objs.size + 3) s1.heap.objs.size (s1.heap.objs.size + 1) [s1.heap.objs.size, l] [s1.heap.objs.size + 1, t] := sep5 _ _ _ la lb
              have D1 : ∀ A : Around, A.handled = none → Draws X.prog X.w A s1.heap.objs.size [s1.heap.objs.size, l] its.toArray.size (fun i v => its.toArray[i]? = some v) (fun i h => h.IsListIter s1.heap.objs.size l i ∧ h.IsList l its.toArray) := fun A hA => Draws.list hA _ _ (Nat.ne_of_lt la) _
              have D2 : ∀ A : Around, A.handled = none → Draws X.prog X.w A (s1.heap.objs.size + 1) [s1.heap.objs.size + 1, t] its.toArray.size (fun i v => its2.toArray[i]? = some v) (fun i h => h.IsTupleIter (s1.heap.objs.size + 1) t i ∧ h.IsTuple t its2.toArray) := fun A hA => by
                have z := Draws.tuple (prog := X.prog) (w := X.w) hA (s1.heap.objs.size + 1) t (Nat.ne_of_lt (Nat.lt_succ_of_lt lb)) its2.toArray
                have es : its2.toArray.size = its.toArray.size := by rw [List.size_toArray, List.size_toArray, n1, n2, hlen]
                rw [es] at z
                exact z
              have P := zipArg sep D1 D2 (fun h st b hb => by
                simp only [List.mem_cons, List.not_mem_nil, or_false] at hb
                rcases hb with rfl | rfl
                · exact let ⟨o, ho, _⟩ := st.1; ⟨o, ho⟩
                · exact let ⟨o, ho, _⟩ := st.2; ⟨o, ho⟩) (fun h st b hb => by
                simp only [List.mem_cons, List.not_mem_nil, or_false] at hb
                rcases hb with rfl | rfl
                · exact let ⟨o, ho, _⟩ := st.1; ⟨o, ho⟩
                · exact let ⟨o, ho, _⟩ := st.2; ⟨o, ho⟩)
              have old : ∀ h2 : Heap, (∀ b o, b ≠ h'.objs.size → b ∉ [s1.heap.objs.size + 4, s1.heap.objs.size + 3, s1.heap.objs.size, s1.heap.objs.size + 1] → h'.get? b = some o → h2.get? b = some o) → ∀ b o, s1.heap.get? b = some o → h2.get? b = some o := fun h2 hk b o eb => by
                obtain ⟨q1, q2⟩ := old5 _ _ (Heap.lt_size eb)
                exact hk b o (by rw [hsz]; exact q1) q2 (hkp b o eb)
              have kis : ∀ x ∈ ps, (KN W).is s1.heap x.1 x.2.1 := IsEnts.keysIs I1 pe
              rw [hx.prog, hx.w] at P
              have run := call_dict_pairsH (knd := KN W) (A := X.A) (E := X.xe) (s := { s1 with heap := h' }) (ps := ps) (Q := EP X pins σ Q) P (I.ok.hd hx.calm) (by show X.A.units + 1 + 1 + 8 < cLine; omega)
                ⟨hz, hTI, ⟨_, _, hTO⟩, ⟨⟨_, g1, rfl, rfl⟩, p1.isList.at fun o e => hkp _ o e⟩, ⟨⟨_, g2, rfl, rfl⟩, (show s1.heap.IsTuple t its2.toArray from p2).at fun o e => hkp _ o e⟩⟩
                ⟨by rw [pl, List.size_toArray, n1], fun i key v h => pg i key v (by simpa using h.1) (by simpa using h.2)⟩
                (fun h2 hk x hxm => (nestedKind_stays (prog := W.P) (w := W.w)).stays (fun b o vs n eb _ => old h2 hk b o eb) (kis x hxm))
                (by rw [List.size_toArray, n1]; exact z)
                (fun h2 tk hd hk => ?_)
              · rw [hx.prog, hx.w]
                exact run
              · have nsd : (h'.objs.size == sysModules) = false := beq_eq_false_iff_ne.mpr fun z => absurd I1.big (Nat.not_lt.mpr (by rw [← z]; omega))
                have hsz2 := storedAllH_length ps ([] : List (NestedKey × Addr × Value))
                rw [List.length_nil, Nat.zero_add] at hsz2
                obtain ⟨o, ho, dd⟩ := dobj_of hd nsd (by omega)
                have hn : H1 h'.objs.size = none := I1.hok.fresh (by omega)
                have kp2 : ∀ b o, s1.heap.get? b = some o → h2.get? b = some o := fun b o eb => hk b o (old5 _ _ (Heap.lt_size eb)).2 (hkp b o eb)
                have I3 := I1.laid (t' := tk) (h' := h2) (a := h'.objs.size) (o := dO h'.objs.size o) kp2 (by omega) (dO_ok ho)
                obtain ⟨e1, i1, k1⟩ := Is.newD (kvs := dPutAll [] (ks.zip ds)) e.good (IsEnts.putAll pe .nil) dd hn
                exact ⟨.ref h'.objs.size, _, I3, rfl, q _ _ _ (e.trans e1) i1 k1 fun _ b hb => by rw [hb]; exact e.free hn⟩
    · exact q.elim
  · exact q.elim
end
end Sl
end S_Sl14
noncomputable section S_Sl15
set_option Elab.async false
set_option linter.all false
set_option maxRecDepth 100000
set_option maxHeartbeats 1000000
namespace Sl
open PySem PySem.Spec PyProof.Rows L2

/-! ### what a def of the module keeps -/
def Fn (P : Program) (w : World) (K : PySem.W.Frag) (mg : Str → Option Value) (base : Heap) (W : Wd) (kk : Nat) (x : Str) (n : Nat) (gg : List D → M D) : Prop :=
  ∃ fn fd ps, FnOk P w K mg base CX0 kk fn fd ps (spOf n W gg) ∧ mg x = some (.ref fn) ∧ PySem.W.keepIn K (.ref fn) = true ∧ Binds K fd ps []
section
variable {X : Cx} {W : Wd} {ms : List Nat} {fr : Bool} {e : Expr} {es : List Expr} {g : EvL} {pos p : Pos} {x : Str}
theorem px_callF {kk n : Nat} {gg : List D → M D} (F : Fn X.prog X.w X.K X.mg X.base W kk x n gg) (hr : Room kk X.A) (hg : Gl X x) (ha : PA X (e :: es) (taOf W ms fr g)) (hdb : (x == ("__debug__" : Str)) = false := by decide)
    (he : starEach (e :: es) X.env = (false, eval e X.env) :: starEach es X.env := by rfl) (hpl : (backTo pos (starEach es X.env)).any (·.1) = false := by rfl) :
    PE X (.Call (.Name x p) (e :: es) [] pos) (tOf W ms true (eCall (kFn n gg) g)) := by
  obtain ⟨fn, fd, ps, F, gm, kp, hb⟩ := F
  exact px_call F hr hg gm kp hb ha hdb he hpl
end
theorem fit_of {W : Wd} {mg : Str → Option Value} {base : Heap} {N : List Str} {k : Nat} {x : Str} {scope : Scope} {f : Addr} {cdv : Value} {A : Around} {outer : List Env} {s : Shared} {H : Hp} {E : XK} (nd : N.Nodup) (hr : Room k (A.deeper (envOfC x scope s.heap.objs.size f cdv))) :
    Fit W (cxOf CX0 W.P W.w W.K mg base N x scope f cdv A outer s H E).nox := ⟨rfl, rfl, rfl, rfl, nd, by have := hr.un; show (A.deeper (envOfC x scope s.heap.objs.size f cdv)).units + 200 < _; omega⟩
theorem Fit.gen {W : Wd} {X : Cx} (hx : Fit W X) {A : Around} {s : Shared} {H : Hp} {ge : Env} {fp : List Addr} {pn : List (Addr × Obj)} {k : Nat} (hr : Room k A) : Fit W (Cx.gen X A s H ge fp pn) := ⟨hx.prog, hx.w, hx.K, hx.calm, hx.nd, by have := hr.un; show A.units + 200 < _; omega⟩

/-! ### a comprehension's scope, by computing -/
def blkB (N : List Str) (sc scope : Scope) (own : List (Str × Nat)) : Bool :=
  decide (scope.kind = .function) && (scope.names.all (fun y => decide (scope.names.lookup y.1 = some y.2)) && (own.all (fun p => decide (N[p.2]? = some p.1)) &&
    (scope.names.all (fun y => !decide (y.2 = .free) || (decide (sc.names.lookup y.1 = some .cell) || decide (sc.names.lookup y.1 = some .free))) &&
      scope.names.all (fun y => !(decide (y.2 = .local) || decide (y.2 = .cell)) || (decide (y.1 ∈ own.map (·.1)) || !decide (y.1 ∈ N))))))
theorem blk_ok {N : List Str} {sc scope : Scope} {own : List (Str × Nat)} (h : blkB N sc scope own = true) : BlkOk N sc scope own := by
  unfold blkB at h
  simp only [Bool.and_eq_true, List.all_eq_true, Bool.or_eq_true, Bool.not_eq_true', decide_eq_true_eq, decide_eq_false_iff_not, Bool.or_eq_false_iff] at h
  obtain ⟨h1, h2, h3, h4, h5⟩ := h
  refine ⟨h1, h2, h3, fun y hy e => (h4 y hy).elim (fun z => absurd e z) id, fun y hy e => ?_⟩
  rcases h5 y hy with z | z
  · rcases e with e | e
    · exact absurd e z.1
    · exact absurd e z.2
  · exact z
def genB (N : List Str) (sc scope : Scope) (own : List (Str × Nat)) : Bool :=
  blkB N sc scope own && (scope.names.all (fun y => !decide (y.2 = .cell)) && (decide (scope.names.lookup (".0" : Str) = some NameKind.local) && decide (scope.isCoroutine = false)))
theorem gen_ok {N : List Str} {sc scope : Scope} {own : List (Str × Nat)} (h : genB N sc scope own = true) : GenOk N sc scope own := by
  unfold genB at h
  simp only [Bool.and_eq_true, List.all_eq_true, Bool.not_eq_true', decide_eq_true_eq, decide_eq_false_iff_not] at h
  obtain ⟨h1, h2, h3, h4⟩ := h
  exact ⟨blk_ok h1, h2, h3, h4⟩

/-! ### the text -/
def top (i : Nat) : Stmt := PySem.Challenge.pw_starlands_k13_whole_prices.main.body.getD i (.Pass ⟨0, 0, 0, 0⟩)
abbrev FnP (K : PySem.W.Frag) (x : Str) (i : Nat) (f : Addr) (fd : FuncData) : Prop := FunD K x x (defArgs (top i)) (defBody (top i)) (defScope (top i)) [] [] f fd
/-- a def's promise, handed on by its name -/
theorem fn_of_data {W : Wd} {mg : Str → Option Value} {base : Heap} {kk : Nat} {x : Str} {i : Nat} {f : Addr} {fd : FuncData} {ps : List Str} {gg : List D → M D} (F : FnP W.K x i f fd) (gm : mg x = some (.ref f))
    (h : FnOk W.P W.w W.K mg base CX0 kk f fd ps (spOf ps.length W gg)) (hb : Binds W.K fd ps []) : Fn W.P W.w W.K mg base W kk x ps.length gg := ⟨f, fd, ps, h, gm, F.kp, hb⟩

/-! ### more of statements -/
def sTgt0 (F : Gv) (f : Ev) : Sv := fun ρ => (f ρ).bind fun d => (F d ρ).bind fun ρ' => .ret (.nx ρ')
section
variable {X : Cx} {W : Wd} {ms tv : List Nat} {fr : Bool} {e tg : Expr} {f : Ev} {F : Gv} {pos p1 p2 : Pos} {k : Nat}
/-- target = a new value -/
theorem ts_tgtF (hg : PG X tg (tgOf W ms tv F)) (he : PE X e (tOf W ms true f)) (hs : swapsWithSole [tg] e pos.line X.env = pure false := by rfl) (hw : swappedStores [tg] e X.env = pure none := by rfl)
    (h1 : (assignEach [tg] X.env).map (·.2) = [assign tg X.env] := by rfl) : PS X (.Assign [tg] e pos) (tsOf W ms (sTgt0 F f)) := by
  refine PS.conv (L2.ps_asg he hg hs hw h1) fun E σ H ⟨H0, ρ, re, q⟩ => ?_
  refine tOf.use re q.bind fun d p v H1 G e1 x g fx => ?_
  obtain ⟨Hb, b1, b2, b3, b4, _⟩ := re.base e1
  obtain ⟨iv, gv⟩ := b4 v d G x g (fx rfl)
  exact ⟨Hb, ρ, d, G, b2, x, g, .inr fun a h => gv.dom h, p.bind.mono fun ρ' p σ' _ re' => p σ' H1 (re'.unbase b1)⟩
/-- nothing is changed in place -/
theorem ts_tgt0 (hg : PG X tg (tgOf W [] tv F)) (he : PE X e (tOf W [] fr f)) (hs : swapsWithSole [tg] e pos.line X.env = pure false := by rfl) (hw : swappedStores [tg] e X.env = pure none := by rfl)
    (h1 : (assignEach [tg] X.env).map (·.2) = [assign tg X.env] := by rfl) : PS X (.Assign [tg] e pos) (tsOf W [] (sTgt0 F f)) := by
  refine PS.conv (L2.ps_asg he hg hs hw h1) fun E σ H ⟨H0, ρ, re, q⟩ => ?_
  refine tOf.use re q.bind fun d p v H1 G e1 x g fx => ?_
  exact ⟨H0, ρ, d, G, re.step e1, x, g, .inl rfl, p.bind.mono fun ρ' p σ' _ re' => p σ' H1 re'⟩
/-- -1 -/
theorem px_neg1 : PE X (.UnaryOp .USub (.Constant (.int 1) k p1) p2) (tOf W ms true (eC (.int (-1)))) :=
  PE.conv (pe_un un_neg pe_int) fun σ H Q ⟨H0, ρ, re, q⟩ => ⟨1, rfl, Post.now (v := .int (-1)) q re.good (.int _)⟩
end

/-! ### as many turns as it takes -/
open Classical in
noncomputable def fuC (c : EvB) (F : Sv) (ρ : Rho) : Nat := if h : ∃ n, (whileF c F n ρ).All fun _ => True then h.choose else 0
theorem whileF_any {c : EvB} {F : Sv} {P : Out → Prop} : ∀ (n m : Nat) (ρ : Rho), (whileF c F n ρ).All P → (whileF c F m ρ).All (fun _ => True) → (whileF c F m ρ).All P
  | 0, _, _, h, _ => h.elim
  | _ + 1, 0, _, _, h => h.elim
  | n + 1, m + 1, ρ, h, h' => by
    refine M.All.bind' (((M.All.bind h).and (M.All.bind h')).mono fun b ⟨h1, h2⟩ => ?_)
    cases b with
    | false => exact h1
    | true =>
      rw [if_pos rfl] at h1 h2 ⊢
      refine M.All.bind' (((M.All.bind h1).and (M.All.bind h2)).mono fun o ⟨g1, g2⟩ => ?_)
      cases o with
      | nx ρ' => exact whileF_any n m ρ' g1 g2
      | ct ρ' => exact whileF_any n m ρ' g1 g2
      | bk ρ' => exact g1
      | rt d => exact g1
theorem whileC {c : EvB} {F : Sv} {P : Out → Prop} {n : Nat} {ρ : Rho} (h : (whileF c F n ρ).All P) : (sWhile (fuC c F) c F ρ).All P := by
  have ex : ∃ n, (whileF c F n ρ).All fun _ => True := ⟨n, h.mono fun _ _ => trivial⟩
  have e : fuC c F ρ = ex.choose := by unfold fuC; rw [dif_pos ex]
  unfold sWhile
  rw [e]
  exact whileF_any n _ ρ h ex.choose_spec
end Sl
end S_Sl15
noncomputable section S_Sm1
set_option Elab.async false
set_option linter.all false
set_option maxRecDepth 100000
set_option maxHeartbeats 1000000
namespace Sl
open PySem PySem.Spec PyProof.Rows L2
structure Kit (mg : Str → Option Value) : Prop where
  n_isinstance : mg "isinstance" = none
  n_int : mg "int" = none
  n_bool : mg "bool" = none
  n_tuple : mg "tuple" = none
  n_list : mg "list" = none
  n_str : mg "str" = none
  n_len : mg "len" = none
  n_max : mg "max" = none
  n_min : mg "min" = none
  n_sorted : mg "sorted" = none
  n_dict : mg "dict" = none
  n_zip : mg "zip" = none
  n_range : mg "range" = none
  n_enumerate : mg "enumerate" = none
  n_all : mg "all" = none
  n_any : mg "any" = none
  g_LEAST_ARMS : ∃ t, mg "LEAST_ARMS" = some (.int 3 t)
  g_MOST_ARMS : ∃ t, mg "MOST_ARMS" = some (.int 4 t)
  g_MOST_LENGTH : ∃ t, mg "MOST_LENGTH" = some (.int 4 t)
  g_MOST_PRICE : ∃ t, mg "MOST_PRICE" = some (.int 1000 t)
  g_MOST_CHEAP : ∃ t, mg "MOST_CHEAP" = some (.int 2000 t)
/-! ### is_in -/
abbrev N_is_in : List Str := ["value", "least", "most"]
abbrev ps_is_in : List Str := ["value", "least", "most"]
def F_is_in : Sv := (sRet (eAnd (eIsi kIsInt (eVar 0)) (eAnd (eNot (eIsi kIsBool (eVar 0))) (eChain kLe kLe (eVar 1) (eVar 0) (eVar 2)))))
def g_is_in : List D → M D := gOf N_is_in F_is_in
theorem sc_is_in : FnScope N_is_in ps_is_in (defScope (top 9)) := ⟨rfl, rfl, rfl, by decide +kernel, rfl, by decide +kernel, by decide +kernel⟩
theorem ok_is_in {W : Wd} {mg : Str → Option Value} {base : Heap} {f : Addr} {fd : FuncData} (kt : Kit mg) (F : FnP W.K "is_in" 9 f fd) :
    FnOk W.P W.w W.K mg base CX0 1 f fd ps_is_in (spOf ps_is_in.length W g_is_in) := by
  refine fn_data (k := 0) (ms := []) (Fv := F_is_in) F sc_is_in (by decide) fun cdv A outer s H E hcd hr => ?_
  have hx := fit_of (W := W) (mg := mg) (base := base) (N := N_is_in) (outer := outer) (E := E) (H := H) sc_is_in.nd hr
  exact (tss_one (ts_ret (px_and (px_isi isi_int hx.K rfl kt.n_isinstance rfl kt.n_int (by decide +kernel) (px_var (pe_var (i := 0) rfl (.inl rfl)))) (px_and (px_not (px_isi isi_bool hx.K rfl kt.n_isinstance rfl kt.n_bool (by decide +kernel) (px_var (pe_var (i := 0) rfl (.inl rfl))))) (px_one (px_chain cmp_le cmp_le (px_var (pe_var (i := 1) rfl (.inl rfl))) (px_var (pe_var (i := 0) rfl (.inl rfl))) (px_var (pe_var (i := 2) rfl (.inl rfl)))))))))
theorem fn_is_in {W : Wd} {mg : Str → Option Value} {base : Heap} {f : Addr} {fd : FuncData} (kt : Kit mg) (F : FnP W.K "is_in" 9 f fd) (gm : mg "is_in" = some (.ref f)) : Fn W.P W.w W.K mg base W 1 "is_in" 3 g_is_in :=
  fn_of_data F gm (ok_is_in kt  F) (F.bindsN fun _ _ _ _ _ _ us hl => match us, hl with | [_, _, _], _ => rfl)
/-! ### near -/
abbrev N_near : List Str := ["arms", "length", "cell", "step", "found", "arm"]
abbrev ps_near : List Str := ["arms", "length", "cell"]
def F_near : Sv := (sSeq (sIf (bCmp kEq (eVar 2) (eC (.int 0)))
 (sRet (eLc [5] (lRange (lCons (eVar 0) lNil)) (gVar 5) bYes (eAddF (eC (.int 1)) (eMul (eVar 5) (eVar 1)))))
 sNx)
 (sSeq (sSet 3 (eMod (eSub (eVar 2) (eC (.int 1))) (eVar 1)))
 (sSeq (sSet 4 (eLst (lCons (eIf (bTru (eVar 3)) (eSub (eVar 2) (eC (.int 1))) (eC (.int 0))) lNil)))
 (sSeq (sIf (bCmp kLt (eAddF (eVar 3) (eC (.int 1))) (eVar 1))
 (sApp 4 (eAddF (eVar 2) (eC (.int 1))))
 sNx)
 (sRet (eVar 4))))))
def g_near : List D → M D := gOf N_near F_near
theorem sc_near : FnScope N_near ps_near (defScope (top 10)) := ⟨rfl, rfl, rfl, by decide +kernel, rfl, by decide +kernel, by decide +kernel⟩
theorem ok_near {W : Wd} {mg : Str → Option Value} {base : Heap} {f : Addr} {fd : FuncData} (kt : Kit mg) (F : FnP W.K "near" 10 f fd) :
    FnOk W.P W.w W.K mg base CX0 1 f fd ps_near (spOf ps_near.length W g_near) := by
  refine fn_data (k := 0) (ms := [4]) (Fv := F_near) F sc_near (by decide) fun cdv A outer s H E hcd hr => ?_
  have hx := fit_of (W := W) (mg := mg) (base := base) (N := N_near) (outer := outer) (E := E) (H := H) sc_near.nd hr
  exact (tss_cons (ts_if (pt_cmp (cmp_eq hx) (px_var (pe_var (i := 2) rfl (.inl rfl))) px_int)
 (tss_one (ts_ret (px_lc (own := [("arm", 5)]) hx (ti_range rfl kt.n_range (pa_consD (px_var (pe_var (i := 0) rfl (.inl rfl))) pa_nilD)) (blk_ok (by kernel_rfl)) (fun _ _ _ _ _ => (tg_name hx.nd rfl (.inl rfl) (by decide))) (fun _ _ _ _ _ => pts_nilD) (fun _ _ _ _ _ => (px_addF px_int (px_mul (px_var (pe_var (i := 5) rfl (.inl rfl))) (px_var (pe_var (i := 1) rfl (.inr (.inl rfl))))))))))
 tss_nil)
 (tss_cons (ts_set hx.nd (i := 3) rfl (.inl rfl) (px_mod (px_sub (px_var (pe_var (i := 2) rfl (.inl rfl))) px_int) (px_var (pe_var (i := 1) rfl (.inr (.inl rfl))))) (.inr rfl))
 (tss_cons (ts_set hx.nd (i := 4) rfl (.inl rfl) (px_lst (pa_consD (px_if (pt_tru hx.K (px_var (pe_var (i := 3) rfl (.inl rfl)))) (px_sub (px_var (pe_var (i := 2) rfl (.inl rfl))) px_int) px_int) pa_nilD)) (.inr rfl))
 (tss_cons (ts_if (pt_cmp (cmp_lt hx) (px_addF (px_var (pe_var (i := 3) rfl (.inl rfl))) px_int) (px_var (pe_var (i := 1) rfl (.inr (.inl rfl)))))
 (tss_one (ts_app hx.K (pe_var (i := 4) rfl (.inl rfl)) (by decide) (px_addF (px_var (pe_var (i := 2) rfl (.inl rfl))) px_int)))
 tss_nil)
 (tss_one (ts_retv (pe_var (i := 4) rfl (.inl rfl)) (by decide)))))))
theorem fn_near {W : Wd} {mg : Str → Option Value} {base : Heap} {f : Addr} {fd : FuncData} (kt : Kit mg) (F : FnP W.K "near" 10 f fd) (gm : mg "near" = some (.ref f)) : Fn W.P W.w W.K mg base W 1 "near" 3 g_near :=
  fn_of_data F gm (ok_near kt  F) (F.bindsN fun _ _ _ _ _ _ us hl => match us, hl with | [_, _, _], _ => rfl)
/-! ### length_of -/
abbrev N_length_of : List Str := ["chart"]
abbrev ps_length_of : List Str := ["chart"]
def F_length_of : Sv := (sRet (eDiv (eSub (eCall kLen (lCons (eIx (eVar 0) (eC (.int 1))) lNil)) (eC (.int 1))) (eIx (eVar 0) (eC (.int 0)))))
def g_length_of : List D → M D := gOf N_length_of F_length_of
theorem sc_length_of : FnScope N_length_of ps_length_of (defScope (top 11)) := ⟨rfl, rfl, rfl, by decide +kernel, rfl, by decide +kernel, by decide +kernel⟩
theorem ok_length_of {W : Wd} {mg : Str → Option Value} {base : Heap} {f : Addr} {fd : FuncData} (kt : Kit mg) (F : FnP W.K "length_of" 11 f fd) :
    FnOk W.P W.w W.K mg base CX0 1 f fd ps_length_of (spOf ps_length_of.length W g_length_of) := by
  refine fn_data (k := 0) (ms := []) (Fv := F_length_of) F sc_length_of (by decide) fun cdv A outer s H E hcd hr => ?_
  have hx := fit_of (W := W) (mg := mg) (base := base) (N := N_length_of) (outer := outer) (E := E) (H := H) sc_length_of.nd hr
  exact (tss_one (ts_ret (px_div (px_sub (px_callB call_len rfl kt.n_len (by decide +kernel) (pa_consD (px_ix hx (px_var (pe_var (i := 0) rfl (.inl rfl))) px_int) pa_nilD)) px_int) (px_ix hx (px_var (pe_var (i := 0) rfl (.inl rfl))) px_int))))
theorem fn_length_of {W : Wd} {mg : Str → Option Value} {base : Heap} {f : Addr} {fd : FuncData} (kt : Kit mg) (F : FnP W.K "length_of" 11 f fd) (gm : mg "length_of" = some (.ref f)) : Fn W.P W.w W.K mg base W 1 "length_of" 1 g_length_of :=
  fn_of_data F gm (ok_length_of kt  F) (F.bindsN fun _ _ _ _ _ _ us hl => match us, hl with | [_], _ => rfl)
/-! ### hangs -/
abbrev N_hangs : List Str := ["arms", "cells", "some", "length", "found", "rows", "more", "cell", "other"]
abbrev ps_hangs : List Str := ["arms", "cells", "some"]
def F_hangs : Sv := (sSeq (sIf (bNot (bTru (eVar 2)))
 (sRet (eC (.bl false)))
 sNx)
 (sSeq (sPar3 3 4 5 (eDiv (eSub (eCall kLen (lCons (eVar 1) lNil)) (eC (.int 1))) (eVar 0)) (eLst (lCons (eImm (eIx (eVar 2) (eC (.int 0)))) lNil)) (eLst (lCons (eImm (eIx (eVar 2) (eC (.int 0)))) lNil)))
 (sSeq (sWhile (fun _ => 40) (bTru (eVar 5))
 (sSeq (sSet 6 (eLst lNil))
 (sSeq (sFor (gVar 7) (lVar 5)
 (sFor (gVar 8) (lNew (eCall (kFn 3 g_near) (lCons (eVar 0) (lCons (eVar 3) (lCons (eVar 7) lNil)))))
 (sIf (bAnd (bCmp kIn (eVar 8) (eVar 2)) (bCmp kNotIn (eVar 8) (eVar 4)))
 (sSeq (sApp 4 (eVar 8))
 (sApp 6 (eVar 8)))
 sNx)))
 (sMove 5 6))))
 (sRet (eCmp kEq (eCall kLen (lCons (eVar 4) lNil)) (eCall kLen (lCons (eVar 2) lNil)))))))
def g_hangs : List D → M D := gOf N_hangs F_hangs
theorem sc_hangs : FnScope N_hangs ps_hangs (defScope (top 12)) := ⟨rfl, rfl, rfl, by decide +kernel, rfl, by decide +kernel, by decide +kernel⟩
theorem ok_hangs {W : Wd} {mg : Str → Option Value} {base : Heap} {f : Addr} {fd : FuncData} (kt : Kit mg) (c_near : Fn W.P W.w W.K mg base W 1 "near" 3 g_near) (F : FnP W.K "hangs" 12 f fd) :
    FnOk W.P W.w W.K mg base CX0 2 f fd ps_hangs (spOf ps_hangs.length W g_hangs) := by
  refine fn_data (k := 1) (ms := [4, 6]) (Fv := F_hangs) F sc_hangs (by decide) fun cdv A outer s H E hcd hr => ?_
  have hx := fit_of (W := W) (mg := mg) (base := base) (N := N_hangs) (outer := outer) (E := E) (H := H) sc_hangs.nd hr
  exact (tss_cons (ts_if (ptt_not (pt_tru hx.K (px_var (pe_var (i := 2) rfl (.inl rfl)))))
 (tss_one (ts_ret px_bl))
 tss_nil)
 (tss_cons (ts_par3 hx.calm hx.nd (i := 3) (j := 4) (l := 5) rfl rfl rfl (by decide) (by decide) (by decide) rfl rfl rfl (px_div (px_sub (px_callB call_len rfl kt.n_len (by decide +kernel) (pa_consD (px_var (pe_var (i := 1) rfl (.inl rfl))) pa_nilD)) px_int) (px_var (pe_var (i := 0) rfl (.inl rfl)))) (px_lst (pa_consD (px_imm (px_ix hx (px_var (pe_var (i := 2) rfl (.inl rfl))) px_int)) pa_nilD)) (px_lst (pa_consD (px_imm (px_ix hx (px_var (pe_var (i := 2) rfl (.inl rfl))) px_int)) pa_nilD)) (.inr rfl) (.inr rfl) (.inr rfl) rfl)
 (tss_cons (ts_while (fun _ => 40) PassesOwn.never (pt_tru hx.K (px_var (pe_var (i := 5) rfl (.inl rfl))))
 (tss_cons (ts_set hx.nd (i := 6) rfl (.inl rfl) (px_lst (fr := true) pa_nilD) (.inr rfl))
 (tss_cons (ts_for hx PassesOwn.never (ti_var hx (pe_var (i := 5) rfl (.inl rfl)) (by decide)) (tg_name hx.nd rfl (.inl rfl) (by decide))
 (tss_one (ts_for hx PassesOwn.never (ti_new hx (px_callF c_near (hr.mono (by decide)) rfl (pa_consD (px_var (pe_var (i := 0) rfl (.inl rfl))) (pa_consD (px_var (pe_var (i := 3) rfl (.inl rfl))) (pa_consD (px_var (pe_var (i := 7) rfl (.inl rfl))) pa_nilD))))) (tg_name hx.nd rfl (.inl rfl) (by decide))
 (tss_one (ts_if (PW.pt (ptw_and (pt_cmp (cmp_in hx) (px_var (pe_var (i := 8) rfl (.inl rfl))) (px_var (pe_var (i := 2) rfl (.inl rfl)))) (ptw_and1 (pt_cmp (cmp_notin hx) (px_var (pe_var (i := 8) rfl (.inl rfl))) (px_var (pe_var (i := 4) rfl (.inl rfl)))))))
 (tss_cons (ts_app hx.K (pe_var (i := 4) rfl (.inl rfl)) (by decide) (px_var (pe_var (i := 8) rfl (.inl rfl))))
 (tss_one (ts_app hx.K (pe_var (i := 6) rfl (.inl rfl)) (by decide) (px_var (pe_var (i := 8) rfl (.inl rfl))))))
 tss_nil)))))
 (tss_one (ts_move hx.nd (i := 5) rfl (.inl rfl) (pe_var (i := 6) rfl (.inl rfl)) (by decide) (by decide))))))
 (tss_one (ts_ret (px_cmp (cmp_eq hx) (px_callB call_len rfl kt.n_len (by decide +kernel) (pa_consD (px_var (pe_var (i := 4) rfl (.inl rfl))) pa_nilD)) (px_callB call_len rfl kt.n_len (by decide +kernel) (pa_consD (px_var (pe_var (i := 2) rfl (.inl rfl))) pa_nilD))))))))
theorem fn_hangs {W : Wd} {mg : Str → Option Value} {base : Heap} {f : Addr} {fd : FuncData} (kt : Kit mg) (c_near : Fn W.P W.w W.K mg base W 1 "near" 3 g_near) (F : FnP W.K "hangs" 12 f fd) (gm : mg "hangs" = some (.ref f)) : Fn W.P W.w W.K mg base W 2 "hangs" 3 g_hangs :=
  fn_of_data F gm (ok_hangs kt c_near F) (F.bindsN fun _ _ _ _ _ _ us hl => match us, hl with | [_, _, _], _ => rfl)
/-! ### held -/
abbrev N_held : List Str := ["cells", "land", "cell", "one"]
abbrev ps_held : List Str := ["cells", "land"]
def F_held : Sv := (sRet (eLc [2, 3] (lEnum (lCons (eVar 0) lNil)) (gTup2 2 3) (bCmp kEq (eVar 3) (eVar 1)) (eVar 2)))
def g_held : List D → M D := gOf N_held F_held
theorem sc_held : FnScope N_held ps_held (defScope (top 13)) := ⟨rfl, rfl, rfl, by decide +kernel, rfl, by decide +kernel, by decide +kernel⟩
theorem ok_held {W : Wd} {mg : Str → Option Value} {base : Heap} {f : Addr} {fd : FuncData} (kt : Kit mg) (F : FnP W.K "held" 13 f fd) :
    FnOk W.P W.w W.K mg base CX0 1 f fd ps_held (spOf ps_held.length W g_held) := by
  refine fn_data (k := 0) (ms := []) (Fv := F_held) F sc_held (by decide) fun cdv A outer s H E hcd hr => ?_
  have hx := fit_of (W := W) (mg := mg) (base := base) (N := N_held) (outer := outer) (E := E) (H := H) sc_held.nd hr
  exact (tss_one (ts_ret (px_lc (own := [("cell", 2), ("one", 3)]) hx (ti_enum hx rfl kt.n_enumerate (pa_consD (px_var (pe_var (i := 0) rfl (.inl rfl))) pa_nilD)) (blk_ok (by kernel_rfl)) (fun _ _ _ _ _ => (tg_tup2 (Fit.blk hx) rfl rfl (.inl rfl) (.inl rfl) (by decide) (by decide))) (fun _ _ _ _ _ => (pts_oneD (pt_cmp (cmp_eq (Fit.blk hx)) (px_var (pe_var (i := 3) rfl (.inl rfl))) (px_var (pe_var (i := 1) rfl (.inr (.inl rfl))))))) (fun _ _ _ _ _ => (px_var (pe_var (i := 2) rfl (.inl rfl)))))))
theorem fn_held {W : Wd} {mg : Str → Option Value} {base : Heap} {f : Addr} {fd : FuncData} (kt : Kit mg) (F : FnP W.K "held" 13 f fd) (gm : mg "held" = some (.ref f)) : Fn W.P W.w W.K mg base W 1 "held" 2 g_held :=
  fn_of_data F gm (ok_held kt  F) (F.bindsN fun _ _ _ _ _ _ us hl => match us, hl with | [_, _], _ => rfl)
/-! ### are_cells -/
abbrev N_are_cells : List Str := ["arms", "cells", "lands", "length", "one", "land"]
abbrev ps_are_cells : List Str := ["arms", "cells"]
def F_are_cells : Sv := (sSeq (sIf (bOr (bCmp kLt (eCall kLen (lCons (eVar 1) lNil)) (eAddF (eVar 0) (eC (.int 1)))) (bOr (bTru (eMod (eSub (eCall kLen (lCons (eVar 1) lNil)) (eC (.int 1))) (eVar 0))) (bCmp kGt (eDiv (eSub (eCall kLen (lCons (eVar 1) lNil)) (eC (.int 1))) (eVar 0)) (eC (.int 4)))))
 (sRet (eC (.bl false)))
 sNx)
 (sSeq (sSet 3 (eDiv (eSub (eCall kLen (lCons (eVar 1) lNil)) (eC (.int 1))) (eVar 0)))
 (sSeq (sIf (bNot (bTru (eQ true [4] (lVar 1) (gVar 4) (eCall (kFn 3 g_is_in) (lCons (eVar 4) (lCons (eC (.int 0)) (lCons (eVar 3) lNil)))))))
 (sRet (eC (.bl false)))
 sNx)
 (sSeq (sSet 2 (eAddF (eCall kMax (lCons (eVar 1) lNil)) (eC (.int 1))))
 (sRet (eAnd (eCmp kGt (eVar 2) (eC (.int 1))) (eQ true [5] (lRange (lCons (eVar 2) lNil)) (gVar 5) (eCall (kFn 3 g_hangs) (lCons (eVar 0) (lCons (eVar 1) (lCons (eCall (kFn 2 g_held) (lCons (eVar 1) (lCons (eVar 5) lNil))) lNil)))))))))))
def g_are_cells : List D → M D := gOf N_are_cells F_are_cells
theorem sc_are_cells : FnScope N_are_cells ps_are_cells (defScope (top 14)) := ⟨rfl, rfl, rfl, by decide +kernel, rfl, by decide +kernel, by decide +kernel⟩
theorem ok_are_cells {W : Wd} {mg : Str → Option Value} {base : Heap} {f : Addr} {fd : FuncData} (kt : Kit mg) (c_is_in : Fn W.P W.w W.K mg base W 1 "is_in" 3 g_is_in) (c_held : Fn W.P W.w W.K mg base W 1 "held" 2 g_held) (c_hangs : Fn W.P W.w W.K mg base W 2 "hangs" 3 g_hangs) {c P : Addr} (hP : P ∈ W.tabs) (tb : GxR.TabB base mg c P) (hcode : fd.code = .ref c) (F : FnP W.K "are_cells" 14 f fd) :
    FnOk W.P W.w W.K mg base CX0 4 f fd ps_are_cells (spOf ps_are_cells.length W g_are_cells) := by
  refine fn_data (k := 3) (ms := []) (Fv := F_are_cells) F sc_are_cells (by decide) fun cdv A outer s H E hcd hr => ?_
  have hx := fit_of (W := W) (mg := mg) (base := base) (N := N_are_cells) (outer := outer) (E := E) (H := H) sc_are_cells.nd hr
  have hc : cdv = .ref c := hcd.symm.trans hcode
  exact (tss_cons (ts_if (PW.pt (ptw_or (pt_cmp (cmp_lt hx) (px_callB call_len rfl kt.n_len (by decide +kernel) (pa_consD (px_var (pe_var (i := 1) rfl (.inr (.inl rfl)))) pa_nilD)) (px_addF (px_var (pe_var (i := 0) rfl (.inr (.inl rfl)))) px_int)) (ptw_or (pt_tru hx.K (px_mod (px_sub (px_callB call_len rfl kt.n_len (by decide +kernel) (pa_consD (px_var (pe_var (i := 1) rfl (.inr (.inl rfl)))) pa_nilD)) px_int) (px_var (pe_var (i := 0) rfl (.inr (.inl rfl)))))) (ptw_or1 (pt_cmp cmp_gt (px_div (px_sub (px_callB call_len rfl kt.n_len (by decide +kernel) (pa_consD (px_var (pe_var (i := 1) rfl (.inr (.inl rfl)))) pa_nilD)) px_int) (px_var (pe_var (i := 0) rfl (.inr (.inl rfl))))) (px_glob rfl kt.g_MOST_LENGTH))))))
 (tss_one (ts_ret px_bl))
 tss_nil)
 (tss_cons (ts_set hx.nd (i := 3) rfl (.inr rfl) (px_div (px_sub (px_callB call_len rfl kt.n_len (by decide +kernel) (pa_consD (px_var (pe_var (i := 1) rfl (.inr (.inl rfl)))) pa_nilD)) px_int) (px_var (pe_var (i := 0) rfl (.inr (.inl rfl))))) (.inl rfl))
 (tss_cons (ts_if (ptt_not (pt_tru hx.K (px_allG (own := [("one", 4)]) (k := 1) hx (hr.mono (by decide)) ⟨hP, tb, hc⟩ rfl kt.n_all (gen_ok (by kernel_rfl)) (ti_var hx (pe_var (i := 1) rfl (.inr (.inl rfl))) (by decide)) (fun _ _ _ _ _ _ => (tg_name hx.nd rfl (.inl rfl) (by decide))) (fun _ _ _ _ _ _ hr1 => (px_callF c_is_in (hr1.mono (by decide)) rfl (pa_consD (px_var (pe_var (i := 4) rfl (.inl rfl))) (pa_consD (px_any px_int) (pa_consD (px_var (pe_var (i := 3) rfl (.inr (.inr rfl)))) pa_nilD))))))))
 (tss_one (ts_ret px_bl))
 tss_nil)
 (tss_cons (ts_set hx.nd (i := 2) rfl (.inl rfl) (px_addF (px_callB (call_max hx) rfl kt.n_max (by decide +kernel) (pa_consD (px_var (pe_var (i := 1) rfl (.inr (.inl rfl)))) pa_nilD)) px_int) (.inl rfl))
 (tss_one (ts_ret (px_and (px_cmp cmp_gt (px_var (pe_var (i := 2) rfl (.inl rfl))) px_int) (px_one (px_allG (own := [("land", 5)]) (k := 2) hx (hr.mono (by decide)) ⟨hP, tb, hc⟩ rfl kt.n_all (gen_ok (by kernel_rfl)) (ti_range rfl kt.n_range (pa_consD (px_var (pe_var (i := 2) rfl (.inl rfl))) pa_nilD)) (fun _ _ _ _ _ _ => (tg_name hx.nd rfl (.inl rfl) (by decide))) (fun _ _ _ _ _ _ hr1 => (px_callF c_hangs (hr1.mono (by decide)) rfl (pa_consD (px_var (pe_var (i := 0) rfl (.inr (.inr rfl)))) (pa_consD (px_var (pe_var (i := 1) rfl (.inr (.inr rfl)))) (pa_consD (px_any (px_callF c_held (hr1.mono (by decide)) rfl (pa_consD (px_var (pe_var (i := 1) rfl (.inr (.inr rfl)))) (pa_consD (px_var (pe_var (i := 5) rfl (.inl rfl))) pa_nilD)))) pa_nilD))))))))))))))
theorem fn_are_cells {W : Wd} {mg : Str → Option Value} {base : Heap} {f : Addr} {fd : FuncData} (kt : Kit mg) (c_is_in : Fn W.P W.w W.K mg base W 1 "is_in" 3 g_is_in) (c_held : Fn W.P W.w W.K mg base W 1 "held" 2 g_held) (c_hangs : Fn W.P W.w W.K mg base W 2 "hangs" 3 g_hangs) {c P : Addr} (hP : P ∈ W.tabs) (tb : GxR.TabB base mg c P) (hcode : fd.code = .ref c) (F : FnP W.K "are_cells" 14 f fd) (gm : mg "are_cells" = some (.ref f)) : Fn W.P W.w W.K mg base W 4 "are_cells" 2 g_are_cells :=
  fn_of_data F gm (ok_are_cells kt c_is_in c_held c_hangs hP tb hcode F) (F.bindsN fun _ _ _ _ _ _ us hl => match us, hl with | [_, _], _ => rfl)
/-! ### is_map -/
abbrev N_is_map : List Str := ["value"]
abbrev ps_is_map : List Str := ["value"]
def F_is_map : Sv := (sSeq (sIf (bOr (bNot (bTru (eIsi kIsTup (eVar 0)))) (bOr (bCmp kNe (eCall kLen (lCons (eVar 0) lNil)) (eC (.int 2))) (bNot (bTru (eCall (kFn 3 g_is_in) (lCons (eIx (eVar 0) (eC (.int 0))) (lCons (eC (.int 3)) (lCons (eC (.int 4)) lNil))))))))
 (sRet (eC (.bl false)))
 sNx)
 (sRet (eAnd (eIsi kIsTup (eIx (eVar 0) (eC (.int 1)))) (eCall (kFn 2 g_are_cells) (lCons (eIx (eVar 0) (eC (.int 0))) (lCons (eIx (eVar 0) (eC (.int 1))) lNil))))))
def g_is_map : List D → M D := gOf N_is_map F_is_map
theorem sc_is_map : FnScope N_is_map ps_is_map (defScope (top 15)) := ⟨rfl, rfl, rfl, by decide +kernel, rfl, by decide +kernel, by decide +kernel⟩
theorem ok_is_map {W : Wd} {mg : Str → Option Value} {base : Heap} {f : Addr} {fd : FuncData} (kt : Kit mg) (c_is_in : Fn W.P W.w W.K mg base W 1 "is_in" 3 g_is_in) (c_are_cells : Fn W.P W.w W.K mg base W 4 "are_cells" 2 g_are_cells) (F : FnP W.K "is_map" 15 f fd) :
    FnOk W.P W.w W.K mg base CX0 5 f fd ps_is_map (spOf ps_is_map.length W g_is_map) := by
  refine fn_data (k := 4) (ms := []) (Fv := F_is_map) F sc_is_map (by decide) fun cdv A outer s H E hcd hr => ?_
  have hx := fit_of (W := W) (mg := mg) (base := base) (N := N_is_map) (outer := outer) (E := E) (H := H) sc_is_map.nd hr
  exact (tss_cons (ts_if (PW.pt (ptw_or (ptt_not (pt_tru hx.K (px_isi isi_tup hx.K rfl kt.n_isinstance rfl kt.n_tuple (by decide +kernel) (px_var (pe_var (i := 0) rfl (.inl rfl)))))) (ptw_or (pt_cmp (cmp_ne hx) (px_callB call_len rfl kt.n_len (by decide +kernel) (pa_consD (px_var (pe_var (i := 0) rfl (.inl rfl))) pa_nilD)) px_int) (ptw_or1 (ptt_not (pt_tru hx.K (px_callF c_is_in (hr.mono (by decide)) rfl (pa_consD (px_ix hx (px_var (pe_var (i := 0) rfl (.inl rfl))) px_int) (pa_consD (px_any (px_glob rfl kt.g_LEAST_ARMS)) (pa_consD (px_any (px_glob rfl kt.g_MOST_ARMS)) pa_nilD))))))))))
 (tss_one (ts_ret px_bl))
 tss_nil)
 (tss_one (ts_ret (px_and (px_isi isi_tup hx.K rfl kt.n_isinstance rfl kt.n_tuple (by decide +kernel) (px_ix hx (px_var (pe_var (i := 0) rfl (.inl rfl))) px_int)) (px_one (px_callF c_are_cells (hr.mono (by decide)) rfl (pa_consD (px_ix hx (px_var (pe_var (i := 0) rfl (.inl rfl))) px_int) (pa_consD (px_ix hx (px_var (pe_var (i := 0) rfl (.inl rfl))) px_int) pa_nilD))))))))
theorem fn_is_map {W : Wd} {mg : Str → Option Value} {base : Heap} {f : Addr} {fd : FuncData} (kt : Kit mg) (c_is_in : Fn W.P W.w W.K mg base W 1 "is_in" 3 g_is_in) (c_are_cells : Fn W.P W.w W.K mg base W 4 "are_cells" 2 g_are_cells) (F : FnP W.K "is_map" 15 f fd) (gm : mg "is_map" = some (.ref f)) : Fn W.P W.w W.K mg base W 5 "is_map" 1 g_is_map :=
  fn_of_data F gm (ok_is_map kt c_is_in c_are_cells F) (F.bindsN fun _ _ _ _ _ _ us hl => match us, hl with | [_], _ => rfl)
/-! ### need_map -/
abbrev N_need_map : List Str := ["chart"]
abbrev ps_need_map : List Str := ["chart"]
def F_need_map : Sv := (sIf (bNot (bTru (eCall (kFn 1 g_is_map) (lCons (eVar 0) lNil))))
 sFail
 sNx)
def g_need_map : List D → M D := gOf N_need_map F_need_map
theorem sc_need_map : FnScope N_need_map ps_need_map (defScope (top 16)) := ⟨rfl, rfl, rfl, by decide +kernel, rfl, by decide +kernel, by decide +kernel⟩
theorem ok_need_map {W : Wd} {mg : Str → Option Value} {base : Heap} {f : Addr} {fd : FuncData} (kt : Kit mg) (c_is_map : Fn W.P W.w W.K mg base W 5 "is_map" 1 g_is_map) (F : FnP W.K "need_map" 16 f fd) :
    FnOk W.P W.w W.K mg base CX0 6 f fd ps_need_map (spOf ps_need_map.length W g_need_map) := by
  refine fn_data (k := 5) (ms := []) (Fv := F_need_map) F sc_need_map (by decide) fun cdv A outer s H E hcd hr => ?_
  have hx := fit_of (W := W) (mg := mg) (base := base) (N := N_need_map) (outer := outer) (E := E) (H := H) sc_need_map.nd hr
  exact (tss_one (ts_if (ptt_not (pt_tru hx.K (px_callF c_is_map (hr.mono (by decide)) rfl (pa_consD (px_var (pe_var (i := 0) rfl (.inl rfl))) pa_nilD))))
 (tss_one ts_never)
 tss_nil))
theorem fn_need_map {W : Wd} {mg : Str → Option Value} {base : Heap} {f : Addr} {fd : FuncData} (kt : Kit mg) (c_is_map : Fn W.P W.w W.K mg base W 5 "is_map" 1 g_is_map) (F : FnP W.K "need_map" 16 f fd) (gm : mg "need_map" = some (.ref f)) : Fn W.P W.w W.K mg base W 6 "need_map" 1 g_need_map :=
  fn_of_data F gm (ok_need_map kt c_is_map F) (F.bindsN fun _ _ _ _ _ _ us hl => match us, hl with | [_], _ => rfl)
/-! ### lands_of -/
abbrev N_lands_of : List Str := ["chart"]
abbrev ps_lands_of : List Str := ["chart"]
def F_lands_of : Sv := (sRet (eAddF (eCall kMax (lCons (eIx (eVar 0) (eC (.int 1))) lNil)) (eC (.int 1))))
def g_lands_of : List D → M D := gOf N_lands_of F_lands_of
theorem sc_lands_of : FnScope N_lands_of ps_lands_of (defScope (top 17)) := ⟨rfl, rfl, rfl, by decide +kernel, rfl, by decide +kernel, by decide +kernel⟩
theorem ok_lands_of {W : Wd} {mg : Str → Option Value} {base : Heap} {f : Addr} {fd : FuncData} (kt : Kit mg) (F : FnP W.K "lands_of" 17 f fd) :
    FnOk W.P W.w W.K mg base CX0 1 f fd ps_lands_of (spOf ps_lands_of.length W g_lands_of) := by
  refine fn_data (k := 0) (ms := []) (Fv := F_lands_of) F sc_lands_of (by decide) fun cdv A outer s H E hcd hr => ?_
  have hx := fit_of (W := W) (mg := mg) (base := base) (N := N_lands_of) (outer := outer) (E := E) (H := H) sc_lands_of.nd hr
  exact (tss_one (ts_ret (px_addF (px_callB (call_max hx) rfl kt.n_max (by decide +kernel) (pa_consD (px_ix hx (px_var (pe_var (i := 0) rfl (.inl rfl))) px_int) pa_nilD)) px_int)))
theorem fn_lands_of {W : Wd} {mg : Str → Option Value} {base : Heap} {f : Addr} {fd : FuncData} (kt : Kit mg) (F : FnP W.K "lands_of" 17 f fd) (gm : mg "lands_of" = some (.ref f)) : Fn W.P W.w W.K mg base W 1 "lands_of" 1 g_lands_of :=
  fn_of_data F gm (ok_lands_of kt  F) (F.bindsN fun _ _ _ _ _ _ us hl => match us, hl with | [_], _ => rfl)
/-! ### outward -/
abbrev N_outward : List Str := ["chart", "arm", "length"]
abbrev ps_outward : List Str := ["chart", "arm"]
def F_outward : Sv := (sSeq (sSet 2 (eCall (kFn 1 g_length_of) (lCons (eVar 0) lNil)))
 (sRet (eCall kListA (lCons (eCut (eIx (eVar 0) (eC (.int 1))) (oSome (eAddF (eC (.int 1)) (eMul (eVar 1) (eVar 2)))) (oSome (eAddF (eC (.int 1)) (eMul (eAddF (eVar 1) (eC (.int 1))) (eVar 2))))) lNil))))
def g_outward : List D → M D := gOf N_outward F_outward
theorem sc_outward : FnScope N_outward ps_outward (defScope (top 18)) := ⟨rfl, rfl, rfl, by decide +kernel, rfl, by decide +kernel, by decide +kernel⟩
theorem ok_outward {W : Wd} {mg : Str → Option Value} {base : Heap} {f : Addr} {fd : FuncData} (kt : Kit mg) (c_length_of : Fn W.P W.w W.K mg base W 1 "length_of" 1 g_length_of) (F : FnP W.K "outward" 18 f fd) :
    FnOk W.P W.w W.K mg base CX0 2 f fd ps_outward (spOf ps_outward.length W g_outward) := by
  refine fn_data (k := 1) (ms := []) (Fv := F_outward) F sc_outward (by decide) fun cdv A outer s H E hcd hr => ?_
  have hx := fit_of (W := W) (mg := mg) (base := base) (N := N_outward) (outer := outer) (E := E) (H := H) sc_outward.nd hr
  exact (tss_cons (ts_set hx.nd (i := 2) rfl (.inl rfl) (px_callF c_length_of (hr.mono (by decide)) rfl (pa_consD (px_var (pe_var (i := 0) rfl (.inl rfl))) pa_nilD)) (.inl rfl))
 (tss_one (ts_ret (px_callT (call_listA hx) rfl kt.n_list (by decide +kernel) (pa_consD (px_cut (po_someD (px_addF px_int (px_mul (px_var (pe_var (i := 1) rfl (.inl rfl))) (px_var (pe_var (i := 2) rfl (.inl rfl)))))) (po_someD (px_addF px_int (px_mul (px_addF (px_var (pe_var (i := 1) rfl (.inl rfl))) px_int) (px_var (pe_var (i := 2) rfl (.inl rfl)))))) hx.K (px_ix hx (px_var (pe_var (i := 0) rfl (.inl rfl))) px_int)) pa_nilD)))))
theorem fn_outward {W : Wd} {mg : Str → Option Value} {base : Heap} {f : Addr} {fd : FuncData} (kt : Kit mg) (c_length_of : Fn W.P W.w W.K mg base W 1 "length_of" 1 g_length_of) (F : FnP W.K "outward" 18 f fd) (gm : mg "outward" = some (.ref f)) : Fn W.P W.w W.K mg base W 2 "outward" 2 g_outward :=
  fn_of_data F gm (ok_outward kt c_length_of F) (F.bindsN fun _ _ _ _ _ _ us hl => match us, hl with | [_, _], _ => rfl)
/-! ### order_on -/
abbrev N_order_on : List Str := ["chart", "arm", "found", "land"]
abbrev ps_order_on : List Str := ["chart", "arm"]
def F_order_on : Sv := (sSeq (sSet 2 (eLst lNil))
 (sSeq (sFor (gVar 3) (lNew (eCall (kFn 2 g_outward) (lCons (eVar 0) (lCons (eVar 1) lNil))))
 (sIf (bAnd (bCmp kNe (eVar 3) (eIx (eIx (eVar 0) (eC (.int 1))) (eC (.int 0)))) (bCmp kNotIn (eVar 3) (eVar 2)))
 (sApp 2 (eVar 3))
 sNx))
 (sRet (eCall kTuple (lCons (eVar 2) lNil)))))
def g_order_on : List D → M D := gOf N_order_on F_order_on
theorem sc_order_on : FnScope N_order_on ps_order_on (defScope (top 20)) := ⟨rfl, rfl, rfl, by decide +kernel, rfl, by decide +kernel, by decide +kernel⟩
theorem ok_order_on {W : Wd} {mg : Str → Option Value} {base : Heap} {f : Addr} {fd : FuncData} (kt : Kit mg) (c_outward : Fn W.P W.w W.K mg base W 2 "outward" 2 g_outward) (F : FnP W.K "order_on" 20 f fd) :
    FnOk W.P W.w W.K mg base CX0 3 f fd ps_order_on (spOf ps_order_on.length W g_order_on) := by
  refine fn_data (k := 2) (ms := [2]) (Fv := F_order_on) F sc_order_on (by decide) fun cdv A outer s H E hcd hr => ?_
  have hx := fit_of (W := W) (mg := mg) (base := base) (N := N_order_on) (outer := outer) (E := E) (H := H) sc_order_on.nd hr
  exact (tss_cons (ts_set hx.nd (i := 2) rfl (.inl rfl) (px_lst (fr := true) pa_nilD) (.inr rfl))
 (tss_cons (ts_for hx PassesOwn.never (ti_new hx (px_callF c_outward (hr.mono (by decide)) rfl (pa_consD (px_var (pe_var (i := 0) rfl (.inl rfl))) (pa_consD (px_var (pe_var (i := 1) rfl (.inl rfl))) pa_nilD)))) (tg_name hx.nd rfl (.inl rfl) (by decide))
 (tss_one (ts_if (PW.pt (ptw_and (pt_cmp (cmp_ne hx) (px_var (pe_var (i := 3) rfl (.inl rfl))) (px_ix hx (px_ix hx (px_var (pe_var (i := 0) rfl (.inl rfl))) px_int) px_int)) (ptw_and1 (pt_cmp (cmp_notin hx) (px_var (pe_var (i := 3) rfl (.inl rfl))) (px_var (pe_var (i := 2) rfl (.inl rfl)))))))
 (tss_one (ts_app hx.K (pe_var (i := 2) rfl (.inl rfl)) (by decide) (px_var (pe_var (i := 3) rfl (.inl rfl)))))
 tss_nil)))
 (tss_one (ts_ret (px_callT call_tuple rfl kt.n_tuple (by decide +kernel) (pa_consD (px_var (pe_var (i := 2) rfl (.inl rfl))) pa_nilD))))))
theorem fn_order_on {W : Wd} {mg : Str → Option Value} {base : Heap} {f : Addr} {fd : FuncData} (kt : Kit mg) (c_outward : Fn W.P W.w W.K mg base W 2 "outward" 2 g_outward) (F : FnP W.K "order_on" 20 f fd) (gm : mg "order_on" = some (.ref f)) : Fn W.P W.w W.K mg base W 3 "order_on" 2 g_order_on :=
  fn_of_data F gm (ok_order_on kt c_outward F) (F.bindsN fun _ _ _ _ _ _ us hl => match us, hl with | [_, _], _ => rfl)
/-! ### all_orders -/
abbrev N_all_orders : List Str := ["chart", "arm"]
abbrev ps_all_orders : List Str := ["chart"]
def F_all_orders : Sv := (sRet (eCall kTuple (lCons (eLc [1] (lRange (lCons (eIx (eVar 0) (eC (.int 0))) lNil)) (gVar 1) bYes (eCall (kFn 2 g_order_on) (lCons (eVar 0) (lCons (eVar 1) lNil)))) lNil)))
def g_all_orders : List D → M D := gOf N_all_orders F_all_orders
theorem sc_all_orders : FnScope N_all_orders ps_all_orders (defScope (top 21)) := ⟨rfl, rfl, rfl, by decide +kernel, rfl, by decide +kernel, by decide +kernel⟩
theorem ok_all_orders {W : Wd} {mg : Str → Option Value} {base : Heap} {f : Addr} {fd : FuncData} (kt : Kit mg) (c_order_on : Fn W.P W.w W.K mg base W 3 "order_on" 2 g_order_on) (F : FnP W.K "all_orders" 21 f fd) :
    FnOk W.P W.w W.K mg base CX0 4 f fd ps_all_orders (spOf ps_all_orders.length W g_all_orders) := by
  refine fn_data (k := 3) (ms := []) (Fv := F_all_orders) F sc_all_orders (by decide) fun cdv A outer s H E hcd hr => ?_
  have hx := fit_of (W := W) (mg := mg) (base := base) (N := N_all_orders) (outer := outer) (E := E) (H := H) sc_all_orders.nd hr
  exact (tss_one (ts_ret (px_callT call_tuple rfl kt.n_tuple (by decide +kernel) (pa_consD (px_any (px_lc (own := [("arm", 1)]) hx (ti_range rfl kt.n_range (pa_consD (px_ix hx (px_var (pe_var (i := 0) rfl (.inr (.inl rfl)))) px_int) pa_nilD)) (blk_ok (by kernel_rfl)) (fun _ _ _ _ _ => (tg_name hx.nd rfl (.inl rfl) (by decide))) (fun _ _ _ _ _ => pts_nilD) (fun _ _ _ _ _ => (px_callF c_order_on (hr.mono (by decide)) rfl (pa_consD (px_var (pe_var (i := 0) rfl (.inr (.inl rfl)))) (pa_consD (px_var (pe_var (i := 1) rfl (.inl rfl))) pa_nilD)))))) pa_nilD))))
theorem fn_all_orders {W : Wd} {mg : Str → Option Value} {base : Heap} {f : Addr} {fd : FuncData} (kt : Kit mg) (c_order_on : Fn W.P W.w W.K mg base W 3 "order_on" 2 g_order_on) (F : FnP W.K "all_orders" 21 f fd) (gm : mg "all_orders" = some (.ref f)) : Fn W.P W.w W.K mg base W 4 "all_orders" 1 g_all_orders :=
  fn_of_data F gm (ok_all_orders kt c_order_on F) (F.bindsN fun _ _ _ _ _ _ us hl => match us, hl with | [_], _ => rfl)
end Sl
end S_Sm1
noncomputable section S_Sm2
set_option Elab.async false
set_option linter.all false
set_option maxRecDepth 100000
set_option maxHeartbeats 1000000
namespace Sl
open PySem PySem.Spec PyProof.Rows L2
/-! ### is_taking -/
abbrev N_is_taking : List Str := ["chart", "value"]
abbrev ps_is_taking : List Str := ["chart", "value"]
def F_is_taking : Sv := (sSeq (sIf (bOr (bNot (bTru (eIsi kIsTup (eVar 1)))) (bOr (bCmp kNe (eCall kLen (lCons (eVar 1) lNil)) (eC (.int 2))) (bNot (bTru (eCall (kFn 3 g_is_in) (lCons (eIx (eVar 1) (eC (.int 0))) (lCons (eC (.int 0)) (lCons (eSub (eCall (kFn 1 g_lands_of) (lCons (eVar 0) lNil)) (eC (.int 1))) lNil))))))))
 (sRet (eC (.bl false)))
 sNx)
 (sRet (eCall (kFn 3 g_is_in) (lCons (eIx (eVar 1) (eC (.int 1))) (lCons (eC (.int 0)) (lCons (eSub (eCall kLen (lCons (eIx (eVar 0) (eC (.int 1))) lNil)) (eC (.int 1))) lNil))))))
def g_is_taking : List D → M D := gOf N_is_taking F_is_taking
theorem sc_is_taking : FnScope N_is_taking ps_is_taking (defScope (top 23)) := ⟨rfl, rfl, rfl, by decide +kernel, rfl, by decide +kernel, by decide +kernel⟩
theorem ok_is_taking {W : Wd} {mg : Str → Option Value} {base : Heap} {f : Addr} {fd : FuncData} (kt : Kit mg) (c_lands_of : Fn W.P W.w W.K mg base W 1 "lands_of" 1 g_lands_of) (c_is_in : Fn W.P W.w W.K mg base W 1 "is_in" 3 g_is_in) (F : FnP W.K "is_taking" 23 f fd) :
    FnOk W.P W.w W.K mg base CX0 2 f fd ps_is_taking (spOf ps_is_taking.length W g_is_taking) := by
  refine fn_data (k := 1) (ms := []) (Fv := F_is_taking) F sc_is_taking (by decide) fun cdv A outer s H E hcd hr => ?_
  have hx := fit_of (W := W) (mg := mg) (base := base) (N := N_is_taking) (outer := outer) (E := E) (H := H) sc_is_taking.nd hr
  exact (tss_cons (ts_if (PW.pt (ptw_or (ptt_not (pt_tru hx.K (px_isi isi_tup hx.K rfl kt.n_isinstance rfl kt.n_tuple (by decide +kernel) (px_var (pe_var (i := 1) rfl (.inl rfl)))))) (ptw_or (pt_cmp (cmp_ne hx) (px_callB call_len rfl kt.n_len (by decide +kernel) (pa_consD (px_var (pe_var (i := 1) rfl (.inl rfl))) pa_nilD)) px_int) (ptw_or1 (ptt_not (pt_tru hx.K (px_callF c_is_in (hr.mono (by decide)) rfl (pa_consD (px_ix hx (px_var (pe_var (i := 1) rfl (.inl rfl))) px_int) (pa_consD (px_any px_int) (pa_consD (px_any (px_sub (px_callF c_lands_of (hr.mono (by decide)) rfl (pa_consD (px_var (pe_var (i := 0) rfl (.inl rfl))) pa_nilD)) px_int)) pa_nilD))))))))))
 (tss_one (ts_ret px_bl))
 tss_nil)
 (tss_one (ts_ret (px_callF c_is_in (hr.mono (by decide)) rfl (pa_consD (px_ix hx (px_var (pe_var (i := 1) rfl (.inl rfl))) px_int) (pa_consD (px_any px_int) (pa_consD (px_any (px_sub (px_callB call_len rfl kt.n_len (by decide +kernel) (pa_consD (px_ix hx (px_var (pe_var (i := 0) rfl (.inl rfl))) px_int) pa_nilD)) px_int)) pa_nilD)))))))
theorem fn_is_taking {W : Wd} {mg : Str → Option Value} {base : Heap} {f : Addr} {fd : FuncData} (kt : Kit mg) (c_lands_of : Fn W.P W.w W.K mg base W 1 "lands_of" 1 g_lands_of) (c_is_in : Fn W.P W.w W.K mg base W 1 "is_in" 3 g_is_in) (F : FnP W.K "is_taking" 23 f fd) (gm : mg "is_taking" = some (.ref f)) : Fn W.P W.w W.K mg base W 2 "is_taking" 2 g_is_taking :=
  fn_of_data F gm (ok_is_taking kt c_lands_of c_is_in F) (F.bindsN fun _ _ _ _ _ _ us hl => match us, hl with | [_, _], _ => rfl)
/-! ### is_made -/
abbrev N_is_made : List Str := ["chart", "taking", "cell", "other", "land", "one"]
abbrev ps_is_made : List Str := ["chart", "taking"]
def F_is_made : Sv := (sSeq (sTgt0 (gTup2 4 2) (eVar 1))
 (sSeq (sSet 3 (eIx (eIx (eVar 0) (eC (.int 1))) (eVar 2)))
 (sSeq (sIf (bOr (bCmp kEq (eVar 3) (eVar 4)) (bNot (bTru (eQ false [5] (lNew (eCall (kFn 3 g_near) (lCons (eIx (eVar 0) (eC (.int 0))) (lCons (eCall (kFn 1 g_length_of) (lCons (eVar 0) lNil)) (lCons (eVar 2) lNil))))) (gVar 5) (eCmp kEq (eIx (eIx (eVar 0) (eC (.int 1))) (eVar 5)) (eVar 4))))))
 (sRet (eC (.bl false)))
 sNx)
 (sRet (eCall (kFn 3 g_hangs) (lCons (eIx (eVar 0) (eC (.int 0))) (lCons (eIx (eVar 0) (eC (.int 1))) (lCons (eLc [5] (lNew (eCall (kFn 2 g_held) (lCons (eIx (eVar 0) (eC (.int 1))) (lCons (eVar 3) lNil)))) (gVar 5) (bCmp kNe (eVar 5) (eVar 2)) (eVar 5)) lNil))))))))
def g_is_made : List D → M D := gOf N_is_made F_is_made
theorem sc_is_made : FnScope N_is_made ps_is_made (defScope (top 24)) := ⟨rfl, rfl, rfl, by decide +kernel, rfl, by decide +kernel, by decide +kernel⟩
theorem ok_is_made {W : Wd} {mg : Str → Option Value} {base : Heap} {f : Addr} {fd : FuncData} (kt : Kit mg) (c_length_of : Fn W.P W.w W.K mg base W 1 "length_of" 1 g_length_of) (c_near : Fn W.P W.w W.K mg base W 1 "near" 3 g_near) (c_held : Fn W.P W.w W.K mg base W 1 "held" 2 g_held) (c_hangs : Fn W.P W.w W.K mg base W 2 "hangs" 3 g_hangs) {c P : Addr} (hP : P ∈ W.tabs) (tb : GxR.TabB base mg c P) (hcode : fd.code = .ref c) (F : FnP W.K "is_made" 24 f fd) :
    FnOk W.P W.w W.K mg base CX0 3 f fd ps_is_made (spOf ps_is_made.length W g_is_made) := by
  refine fn_data (k := 2) (ms := []) (Fv := F_is_made) F sc_is_made (by decide) fun cdv A outer s H E hcd hr => ?_
  have hx := fit_of (W := W) (mg := mg) (base := base) (N := N_is_made) (outer := outer) (E := E) (H := H) sc_is_made.nd hr
  have hc : cdv = .ref c := hcd.symm.trans hcode
  exact (tss_cons (ts_tgt0 (tg_tup2 hx rfl rfl (.inr rfl) (.inr rfl) (by decide) (by decide)) (px_var (pe_var (i := 1) rfl (.inl rfl))))
 (tss_cons (ts_set hx.nd (i := 3) rfl (.inl rfl) (px_ix hx (px_ix hx (px_var (pe_var (i := 0) rfl (.inr (.inl rfl)))) px_int) (px_var (pe_var (i := 2) rfl (.inr (.inl rfl))))) (.inl rfl))
 (tss_cons (ts_if (PW.pt (ptw_or (pt_cmp (cmp_eq hx) (px_var (pe_var (i := 3) rfl (.inl rfl))) (px_var (pe_var (i := 4) rfl (.inr (.inl rfl))))) (ptw_or1 (ptt_not (pt_tru hx.K (px_anyG (own := [("one", 5)]) (k := 0) hx (hr.mono (by decide)) ⟨hP, tb, hc⟩ rfl kt.n_any (gen_ok (by kernel_rfl)) (ti_new hx (px_callF c_near (hr.mono (by decide)) rfl (pa_consD (px_ix hx (px_var (pe_var (i := 0) rfl (.inr (.inl rfl)))) px_int) (pa_consD (px_any (px_callF c_length_of (hr.mono (by decide)) rfl (pa_consD (px_var (pe_var (i := 0) rfl (.inr (.inl rfl)))) pa_nilD))) (pa_consD (px_var (pe_var (i := 2) rfl (.inr (.inl rfl)))) pa_nilD))))) (fun _ _ _ _ _ _ => (tg_name hx.nd rfl (.inl rfl) (by decide))) (fun _ _ _ _ _ _ hr1 => (px_cmp (cmp_eq (Fit.gen hx hr1)) (px_ix (Fit.gen hx hr1) (px_ix (Fit.gen hx hr1) (px_var (pe_var (i := 0) rfl (.inr (.inr rfl)))) px_int) (px_var (pe_var (i := 5) rfl (.inl rfl)))) (px_var (pe_var (i := 4) rfl (.inr (.inr rfl))))))))))))
 (tss_one (ts_ret px_bl))
 tss_nil)
 (tss_one (ts_ret (px_callF c_hangs (hr.mono (by decide)) rfl (pa_consD (px_ix hx (px_var (pe_var (i := 0) rfl (.inr (.inl rfl)))) px_int) (pa_consD (px_ix hx (px_var (pe_var (i := 0) rfl (.inr (.inl rfl)))) px_int) (pa_consD (px_any (px_lc (own := [("one", 5)]) hx (ti_new hx (px_callF c_held (hr.mono (by decide)) rfl (pa_consD (px_ix hx (px_var (pe_var (i := 0) rfl (.inr (.inl rfl)))) px_int) (pa_consD (px_var (pe_var (i := 3) rfl (.inl rfl))) pa_nilD)))) (blk_ok (by kernel_rfl)) (fun _ _ _ _ _ => (tg_name hx.nd rfl (.inl rfl) (by decide))) (fun _ _ _ _ _ => (pts_oneD (pt_cmp (cmp_ne (Fit.blk hx)) (px_var (pe_var (i := 5) rfl (.inl rfl))) (px_var (pe_var (i := 2) rfl (.inr (.inl rfl))))))) (fun _ _ _ _ _ => (px_var (pe_var (i := 5) rfl (.inl rfl)))))) pa_nilD)))))))))
theorem fn_is_made {W : Wd} {mg : Str → Option Value} {base : Heap} {f : Addr} {fd : FuncData} (kt : Kit mg) (c_length_of : Fn W.P W.w W.K mg base W 1 "length_of" 1 g_length_of) (c_near : Fn W.P W.w W.K mg base W 1 "near" 3 g_near) (c_held : Fn W.P W.w W.K mg base W 1 "held" 2 g_held) (c_hangs : Fn W.P W.w W.K mg base W 2 "hangs" 3 g_hangs) {c P : Addr} (hP : P ∈ W.tabs) (tb : GxR.TabB base mg c P) (hcode : fd.code = .ref c) (F : FnP W.K "is_made" 24 f fd) (gm : mg "is_made" = some (.ref f)) : Fn W.P W.w W.K mg base W 3 "is_made" 2 g_is_made :=
  fn_of_data F gm (ok_is_made kt c_length_of c_near c_held c_hangs hP tb hcode F) (F.bindsN fun _ _ _ _ _ _ us hl => match us, hl with | [_, _], _ => rfl)
/-! ### all_takings -/
abbrev N_all_takings : List Str := ["chart", "found", "land", "cell"]
abbrev ps_all_takings : List Str := ["chart"]
def F_all_takings : Sv := (sSeq (sSet 1 (eLst lNil))
 (sSeq (sFor (gVar 2) (lRange (lCons (eCall (kFn 1 g_lands_of) (lCons (eVar 0) lNil)) lNil))
 (sSet 1 (eAddF (eVar 1) (eLc [3] (lRange (lCons (eCall kLen (lCons (eIx (eVar 0) (eC (.int 1))) lNil)) lNil)) (gVar 3) (bTru (eCall (kFn 2 g_is_made) (lCons (eVar 0) (lCons (eTup (lCons (eVar 2) (lCons (eVar 3) lNil))) lNil)))) (eTup (lCons (eVar 2) (lCons (eVar 3) lNil)))))))
 (sRet (eVar 1))))
def g_all_takings : List D → M D := gOf N_all_takings F_all_takings
theorem sc_all_takings : FnScope N_all_takings ps_all_takings (defScope (top 25)) := ⟨rfl, rfl, rfl, by decide +kernel, rfl, by decide +kernel, by decide +kernel⟩
theorem ok_all_takings {W : Wd} {mg : Str → Option Value} {base : Heap} {f : Addr} {fd : FuncData} (kt : Kit mg) (c_lands_of : Fn W.P W.w W.K mg base W 1 "lands_of" 1 g_lands_of) (c_is_made : Fn W.P W.w W.K mg base W 3 "is_made" 2 g_is_made) (F : FnP W.K "all_takings" 25 f fd) :
    FnOk W.P W.w W.K mg base CX0 4 f fd ps_all_takings (spOf ps_all_takings.length W g_all_takings) := by
  refine fn_data (k := 3) (ms := [1]) (Fv := F_all_takings) F sc_all_takings (by decide) fun cdv A outer s H E hcd hr => ?_
  have hx := fit_of (W := W) (mg := mg) (base := base) (N := N_all_takings) (outer := outer) (E := E) (H := H) sc_all_takings.nd hr
  exact (tss_cons (ts_set hx.nd (i := 1) rfl (.inl rfl) (px_lst (fr := true) pa_nilD) (.inr rfl))
 (tss_cons (ts_for hx PassesOwn.never (ti_range rfl kt.n_range (pa_consD (px_any (px_callF c_lands_of (hr.mono (by decide)) rfl (pa_consD (px_var (pe_var (i := 0) rfl (.inr (.inl rfl)))) pa_nilD))) pa_nilD)) (tg_name hx.nd rfl (.inr rfl) (by decide))
 (tss_one (ts_set hx.nd (i := 1) rfl (.inl rfl) (px_addF (px_var (pe_var (i := 1) rfl (.inl rfl))) (px_lc (own := [("cell", 3)]) hx (ti_range rfl kt.n_range (pa_consD (px_any (px_callB call_len rfl kt.n_len (by decide +kernel) (pa_consD (px_ix hx (px_var (pe_var (i := 0) rfl (.inr (.inl rfl)))) px_int) pa_nilD))) pa_nilD)) (blk_ok (by kernel_rfl)) (fun _ _ _ _ _ => (tg_name hx.nd rfl (.inl rfl) (by decide))) (fun _ _ _ _ _ => (pts_oneD (pt_tru (Fit.blk hx).K (px_callF c_is_made (hr.mono (by decide)) rfl (pa_consD (px_var (pe_var (i := 0) rfl (.inr (.inl rfl)))) (pa_consD (px_tup (pa_consD (px_var (pe_var (i := 2) rfl (.inr (.inl rfl)))) (pa_consD (px_var (pe_var (i := 3) rfl (.inl rfl))) pa_nilD))) pa_nilD)))))) (fun _ _ _ _ _ => (px_tup (pa_consD (px_var (pe_var (i := 2) rfl (.inr (.inl rfl)))) (pa_consD (px_var (pe_var (i := 3) rfl (.inl rfl))) pa_nilD)))))) (.inr rfl))))
 (tss_one (ts_retv (pe_var (i := 1) rfl (.inl rfl)) (by decide)))))
theorem fn_all_takings {W : Wd} {mg : Str → Option Value} {base : Heap} {f : Addr} {fd : FuncData} (kt : Kit mg) (c_lands_of : Fn W.P W.w W.K mg base W 1 "lands_of" 1 g_lands_of) (c_is_made : Fn W.P W.w W.K mg base W 3 "is_made" 2 g_is_made) (F : FnP W.K "all_takings" 25 f fd) (gm : mg "all_takings" = some (.ref f)) : Fn W.P W.w W.K mg base W 4 "all_takings" 1 g_all_takings :=
  fn_of_data F gm (ok_all_takings kt c_lands_of c_is_made F) (F.bindsN fun _ _ _ _ _ _ us hl => match us, hl with | [_], _ => rfl)
/-! ### taken -/
abbrev N_taken : List Str := ["chart", "taking", "land", "cell"]
abbrev ps_taken : List Str := ["chart", "taking"]
def F_taken : Sv := (sSeq (sTgt0 (gTup2 2 3) (eVar 1))
 (sRet (eTup (lCons (eImm (eIx (eVar 0) (eC (.int 0)))) (lCons (eTup (lStar (eCut (eImm (eIx (eVar 0) (eC (.int 1)))) oNone (oSome (eVar 3))) (lCons (eImm (eVar 2)) (lStar (eCut (eImm (eIx (eVar 0) (eC (.int 1)))) (oSome (eAddF (eVar 3) (eC (.int 1)))) oNone) lNil)))) lNil)))))
def g_taken : List D → M D := gOf N_taken F_taken
theorem sc_taken : FnScope N_taken ps_taken (defScope (top 26)) := ⟨rfl, rfl, rfl, by decide +kernel, rfl, by decide +kernel, by decide +kernel⟩
theorem ok_taken {W : Wd} {mg : Str → Option Value} {base : Heap} {f : Addr} {fd : FuncData} (kt : Kit mg) (F : FnP W.K "taken" 26 f fd) :
    FnOk W.P W.w W.K mg base CX0 1 f fd ps_taken (spOf ps_taken.length W g_taken) := by
  refine fn_data (k := 0) (ms := []) (Fv := F_taken) F sc_taken (by decide) fun cdv A outer s H E hcd hr => ?_
  have hx := fit_of (W := W) (mg := mg) (base := base) (N := N_taken) (outer := outer) (E := E) (H := H) sc_taken.nd hr
  exact (tss_cons (ts_tgt0 (tg_tup2 hx rfl rfl (.inl rfl) (.inl rfl) (by decide) (by decide)) (px_var (pe_var (i := 1) rfl (.inl rfl))))
 (tss_one (ts_ret (px_tup (pa_consD (px_imm (px_ix hx (px_var (pe_var (i := 0) rfl (.inl rfl))) px_int)) (pa_consD (px_tup (pa_starD (px_cut po_noneD (po_someD (px_var (pe_var (i := 3) rfl (.inl rfl)))) hx.K (px_imm (px_ix hx (px_var (pe_var (i := 0) rfl (.inl rfl))) px_int))) (pa_consD (px_imm (px_var (pe_var (i := 2) rfl (.inl rfl)))) (pa_starD (px_cut (po_someD (px_addF (px_var (pe_var (i := 3) rfl (.inl rfl))) px_int)) po_noneD hx.K (px_imm (px_ix hx (px_var (pe_var (i := 0) rfl (.inl rfl))) px_int))) pa_nilD)))) pa_nilD))))))
theorem fn_taken {W : Wd} {mg : Str → Option Value} {base : Heap} {f : Addr} {fd : FuncData} (kt : Kit mg) (F : FnP W.K "taken" 26 f fd) (gm : mg "taken" = some (.ref f)) : Fn W.P W.w W.K mg base W 1 "taken" 2 g_taken :=
  fn_of_data F gm (ok_taken kt  F) (F.bindsN fun _ _ _ _ _ _ us hl => match us, hl with | [_, _], _ => rfl)
/-! ### bare_of -/
abbrev N_bare_of : List Str := ["chart", "hub", "arm", "land"]
abbrev ps_bare_of : List Str := ["chart"]
def F_bare_of : Sv := (sSeq (sSet 1 (eIx (eIx (eVar 0) (eC (.int 1))) (eC (.int 0))))
 (sRet (eCall kLen (lCons (eLc [2] (lRange (lCons (eIx (eVar 0) (eC (.int 0))) lNil)) (gVar 2) (bTru (eQ true [3] (lNew (eCall (kFn 2 g_outward) (lCons (eVar 0) (lCons (eVar 2) lNil)))) (gVar 3) (eCmp kEq (eVar 3) (eVar 1)))) (eC (.int 1))) lNil))))
def g_bare_of : List D → M D := gOf N_bare_of F_bare_of
theorem sc_bare_of : FnScope N_bare_of ps_bare_of (defScope (top 28)) := ⟨rfl, rfl, rfl, by decide +kernel, rfl, by decide +kernel, by decide +kernel⟩
theorem ok_bare_of {W : Wd} {mg : Str → Option Value} {base : Heap} {f : Addr} {fd : FuncData} (kt : Kit mg) (c_outward : Fn W.P W.w W.K mg base W 2 "outward" 2 g_outward) {c P : Addr} (hP : P ∈ W.tabs) (tb : GxR.TabB base mg c P) (hcode : fd.code = .ref c) (F : FnP W.K "bare_of" 28 f fd) :
    FnOk W.P W.w W.K mg base CX0 3 f fd ps_bare_of (spOf ps_bare_of.length W g_bare_of) := by
  refine fn_data (k := 2) (ms := []) (Fv := F_bare_of) F sc_bare_of (by decide) fun cdv A outer s H E hcd hr => ?_
  have hx := fit_of (W := W) (mg := mg) (base := base) (N := N_bare_of) (outer := outer) (E := E) (H := H) sc_bare_of.nd hr
  have hc : cdv = .ref c := hcd.symm.trans hcode
  exact (tss_cons (ts_set hx.nd (i := 1) rfl (.inr rfl) (px_ix hx (px_ix hx (px_var (pe_var (i := 0) rfl (.inr (.inl rfl)))) px_int) px_int) (.inl rfl))
 (tss_one (ts_ret (px_callB call_len rfl kt.n_len (by decide +kernel) (pa_consD (px_any (px_lc (own := [("arm", 2)]) hx (ti_range rfl kt.n_range (pa_consD (px_ix hx (px_var (pe_var (i := 0) rfl (.inr (.inl rfl)))) px_int) pa_nilD)) (blk_ok (by kernel_rfl)) (fun _ _ _ _ _ => (tg_name hx.nd rfl (.inl rfl) (by decide))) (fun _ _ _ _ _ => (pts_oneD (pt_tru (Fit.blk hx).K (px_allG (own := [("land", 3)]) (k := 0) (Fit.blk hx) (hr.mono (by decide)) ⟨hP, tb, hc⟩ rfl kt.n_all (gen_ok (by kernel_rfl)) (ti_new (Fit.blk hx) (px_callF c_outward (hr.mono (by decide)) rfl (pa_consD (px_var (pe_var (i := 0) rfl (.inr (.inl rfl)))) (pa_consD (px_var (pe_var (i := 2) rfl (.inl rfl))) pa_nilD)))) (fun _ _ _ _ _ _ => (tg_name hx.nd rfl (.inl rfl) (by decide))) (fun _ _ _ _ _ _ hr1 => (px_cmp (cmp_eq (Fit.gen (Fit.blk hx) hr1)) (px_var (pe_var (i := 3) rfl (.inl rfl))) (px_var (pe_var (i := 1) rfl (.inr (.inr rfl)))))))))) (fun _ _ _ _ _ => px_int))) pa_nilD)))))
theorem fn_bare_of {W : Wd} {mg : Str → Option Value} {base : Heap} {f : Addr} {fd : FuncData} (kt : Kit mg) (c_outward : Fn W.P W.w W.K mg base W 2 "outward" 2 g_outward) {c P : Addr} (hP : P ∈ W.tabs) (tb : GxR.TabB base mg c P) (hcode : fd.code = .ref c) (F : FnP W.K "bare_of" 28 f fd) (gm : mg "bare_of" = some (.ref f)) : Fn W.P W.w W.K mg base W 3 "bare_of" 1 g_bare_of :=
  fn_of_data F gm (ok_bare_of kt c_outward hP tb hcode F) (F.bindsN fun _ _ _ _ _ _ us hl => match us, hl with | [_], _ => rfl)
/-! ### freezes -/
abbrev N_freezes : List Str := ["chart"]
abbrev ps_freezes : List Str := ["chart"]
def F_freezes : Sv := (sRet (eCmp kGt (eCall (kFn 1 g_bare_of) (lCons (eVar 0) lNil)) (eC (.int 1))))
def g_freezes : List D → M D := gOf N_freezes F_freezes
theorem sc_freezes : FnScope N_freezes ps_freezes (defScope (top 29)) := ⟨rfl, rfl, rfl, by decide +kernel, rfl, by decide +kernel, by decide +kernel⟩
theorem ok_freezes {W : Wd} {mg : Str → Option Value} {base : Heap} {f : Addr} {fd : FuncData} (kt : Kit mg) (c_bare_of : Fn W.P W.w W.K mg base W 3 "bare_of" 1 g_bare_of) (F : FnP W.K "freezes" 29 f fd) :
    FnOk W.P W.w W.K mg base CX0 4 f fd ps_freezes (spOf ps_freezes.length W g_freezes) := by
  refine fn_data (k := 3) (ms := []) (Fv := F_freezes) F sc_freezes (by decide) fun cdv A outer s H E hcd hr => ?_
  have hx := fit_of (W := W) (mg := mg) (base := base) (N := N_freezes) (outer := outer) (E := E) (H := H) sc_freezes.nd hr
  exact (tss_one (ts_ret (px_cmp cmp_gt (px_callF c_bare_of (hr.mono (by decide)) rfl (pa_consD (px_var (pe_var (i := 0) rfl (.inl rfl))) pa_nilD)) px_int)))
theorem fn_freezes {W : Wd} {mg : Str → Option Value} {base : Heap} {f : Addr} {fd : FuncData} (kt : Kit mg) (c_bare_of : Fn W.P W.w W.K mg base W 3 "bare_of" 1 g_bare_of) (F : FnP W.K "freezes" 29 f fd) (gm : mg "freezes" = some (.ref f)) : Fn W.P W.w W.K mg base W 4 "freezes" 1 g_freezes :=
  fn_of_data F gm (ok_freezes kt c_bare_of F) (F.bindsN fun _ _ _ _ _ _ us hl => match us, hl with | [_], _ => rfl)
/-! ### tips -/
abbrev N_tips : List Str := ["chart", "arm"]
abbrev ps_tips : List Str := ["chart"]
def F_tips : Sv := (sRet (eCall kTuple (lCons (eLc [1] (lRange (lCons (eIx (eVar 0) (eC (.int 0))) lNil)) (gVar 1) bYes (eIx (eCall (kFn 2 g_outward) (lCons (eVar 0) (lCons (eVar 1) lNil))) (eC (.int (-1))))) lNil)))
def g_tips : List D → M D := gOf N_tips F_tips
theorem sc_tips : FnScope N_tips ps_tips (defScope (top 30)) := ⟨rfl, rfl, rfl, by decide +kernel, rfl, by decide +kernel, by decide +kernel⟩
theorem ok_tips {W : Wd} {mg : Str → Option Value} {base : Heap} {f : Addr} {fd : FuncData} (kt : Kit mg) (c_outward : Fn W.P W.w W.K mg base W 2 "outward" 2 g_outward) (F : FnP W.K "tips" 30 f fd) :
    FnOk W.P W.w W.K mg base CX0 3 f fd ps_tips (spOf ps_tips.length W g_tips) := by
  refine fn_data (k := 2) (ms := []) (Fv := F_tips) F sc_tips (by decide) fun cdv A outer s H E hcd hr => ?_
  have hx := fit_of (W := W) (mg := mg) (base := base) (N := N_tips) (outer := outer) (E := E) (H := H) sc_tips.nd hr
  exact (tss_one (ts_ret (px_callT call_tuple rfl kt.n_tuple (by decide +kernel) (pa_consD (px_any (px_lc (own := [("arm", 1)]) hx (ti_range rfl kt.n_range (pa_consD (px_ix hx (px_var (pe_var (i := 0) rfl (.inr (.inl rfl)))) px_int) pa_nilD)) (blk_ok (by kernel_rfl)) (fun _ _ _ _ _ => (tg_name hx.nd rfl (.inl rfl) (by decide))) (fun _ _ _ _ _ => pts_nilD) (fun _ _ _ _ _ => (px_ix (Fit.blk hx) (px_callF c_outward (hr.mono (by decide)) rfl (pa_consD (px_var (pe_var (i := 0) rfl (.inr (.inl rfl)))) (pa_consD (px_var (pe_var (i := 1) rfl (.inl rfl))) pa_nilD))) px_neg1)))) pa_nilD))))
theorem fn_tips {W : Wd} {mg : Str → Option Value} {base : Heap} {f : Addr} {fd : FuncData} (kt : Kit mg) (c_outward : Fn W.P W.w W.K mg base W 2 "outward" 2 g_outward) (F : FnP W.K "tips" 30 f fd) (gm : mg "tips" = some (.ref f)) : Fn W.P W.w W.K mg base W 3 "tips" 1 g_tips :=
  fn_of_data F gm (ok_tips kt c_outward F) (F.bindsN fun _ _ _ _ _ _ us hl => match us, hl with | [_], _ => rfl)
/-! ### key_of -/
abbrev N_key_of : List Str := ["chart", "start"]
abbrev ps_key_of : List Str := ["chart"]
def F_key_of : Sv := (sSeq (sSet 1 (eTup (lCons (eIx (eVar 0) (eC (.int 0))) (lCons (eCall kLen (lCons (eIx (eVar 0) (eC (.int 1))) lNil)) (lCons (eCall (kFn 1 g_lands_of) (lCons (eVar 0) lNil)) lNil)))))
 (sRet (eIf (bTru (eCall (kFn 1 g_freezes) (lCons (eVar 0) lNil))) (eTup (lStar (eImm (eVar 1)) (lCons (eImm (eIx (eIx (eVar 0) (eC (.int 1))) (eC (.int 0)))) (lCons (eCall (kFn 1 g_all_orders) (lCons (eVar 0) lNil)) lNil)))) (eTup (lStar (eImm (eVar 1)) (lCons (eCall (kFn 1 g_tips) (lCons (eVar 0) lNil)) lNil))))))
def g_key_of : List D → M D := gOf N_key_of F_key_of
theorem sc_key_of : FnScope N_key_of ps_key_of (defScope (top 32)) := ⟨rfl, rfl, rfl, by decide +kernel, rfl, by decide +kernel, by decide +kernel⟩
theorem ok_key_of {W : Wd} {mg : Str → Option Value} {base : Heap} {f : Addr} {fd : FuncData} (kt : Kit mg) (c_lands_of : Fn W.P W.w W.K mg base W 1 "lands_of" 1 g_lands_of) (c_freezes : Fn W.P W.w W.K mg base W 4 "freezes" 1 g_freezes) (c_all_orders : Fn W.P W.w W.K mg base W 4 "all_orders" 1 g_all_orders) (c_tips : Fn W.P W.w W.K mg base W 3 "tips" 1 g_tips) (F : FnP W.K "key_of" 32 f fd) :
    FnOk W.P W.w W.K mg base CX0 5 f fd ps_key_of (spOf ps_key_of.length W g_key_of) := by
  refine fn_data (k := 4) (ms := []) (Fv := F_key_of) F sc_key_of (by decide) fun cdv A outer s H E hcd hr => ?_
  have hx := fit_of (W := W) (mg := mg) (base := base) (N := N_key_of) (outer := outer) (E := E) (H := H) sc_key_of.nd hr
  exact (tss_cons (ts_set hx.nd (i := 1) rfl (.inl rfl) (px_tup (pa_consD (px_ix hx (px_var (pe_var (i := 0) rfl (.inl rfl))) px_int) (pa_consD (px_any (px_callB call_len rfl kt.n_len (by decide +kernel) (pa_consD (px_ix hx (px_var (pe_var (i := 0) rfl (.inl rfl))) px_int) pa_nilD))) (pa_consD (px_any (px_callF c_lands_of (hr.mono (by decide)) rfl (pa_consD (px_var (pe_var (i := 0) rfl (.inl rfl))) pa_nilD))) pa_nilD)))) (.inl rfl))
 (tss_one (ts_ret (px_if (pt_tru hx.K (px_callF c_freezes (hr.mono (by decide)) rfl (pa_consD (px_var (pe_var (i := 0) rfl (.inl rfl))) pa_nilD))) (px_tup (pa_starD (px_imm (px_var (pe_var (i := 1) rfl (.inl rfl)))) (pa_consD (px_imm (px_ix hx (px_ix hx (px_var (pe_var (i := 0) rfl (.inl rfl))) px_int) px_int)) (pa_consD (px_callF c_all_orders (hr.mono (by decide)) rfl (pa_consD (px_var (pe_var (i := 0) rfl (.inl rfl))) pa_nilD)) pa_nilD)))) (px_tup (pa_starD (px_imm (px_var (pe_var (i := 1) rfl (.inl rfl)))) (pa_consD (px_callF c_tips (hr.mono (by decide)) rfl (pa_consD (px_var (pe_var (i := 0) rfl (.inl rfl))) pa_nilD)) pa_nilD)))))))
theorem fn_key_of {W : Wd} {mg : Str → Option Value} {base : Heap} {f : Addr} {fd : FuncData} (kt : Kit mg) (c_lands_of : Fn W.P W.w W.K mg base W 1 "lands_of" 1 g_lands_of) (c_freezes : Fn W.P W.w W.K mg base W 4 "freezes" 1 g_freezes) (c_all_orders : Fn W.P W.w W.K mg base W 4 "all_orders" 1 g_all_orders) (c_tips : Fn W.P W.w W.K mg base W 3 "tips" 1 g_tips) (F : FnP W.K "key_of" 32 f fd) (gm : mg "key_of" = some (.ref f)) : Fn W.P W.w W.K mg base W 5 "key_of" 1 g_key_of :=
  fn_of_data F gm (ok_key_of kt c_lands_of c_freezes c_all_orders c_tips F) (F.bindsN fun _ _ _ _ _ _ us hl => match us, hl with | [_], _ => rfl)
/-! ### need_two -/
abbrev N_need_two : List Str := ["one", "other"]
abbrev ps_need_two : List Str := ["one", "other"]
def F_need_two : Sv := (sSeq (sDrop (eCall (kFn 1 g_need_map) (lCons (eVar 0) lNil)))
 (sIf (bOr (bNot (bTru (eCall (kFn 1 g_is_map) (lCons (eVar 1) lNil)))) (bOr (bCmp kNe (eIx (eVar 1) (eC (.int 0))) (eIx (eVar 0) (eC (.int 0)))) (bOr (bCmp kNe (eCall kLen (lCons (eIx (eVar 1) (eC (.int 1))) lNil)) (eCall kLen (lCons (eIx (eVar 0) (eC (.int 1))) lNil))) (bCmp kNe (eCall (kFn 1 g_lands_of) (lCons (eVar 1) lNil)) (eCall (kFn 1 g_lands_of) (lCons (eVar 0) lNil))))))
 sFail
 sNx))
def g_need_two : List D → M D := gOf N_need_two F_need_two
theorem sc_need_two : FnScope N_need_two ps_need_two (defScope (top 34)) := ⟨rfl, rfl, rfl, by decide +kernel, rfl, by decide +kernel, by decide +kernel⟩
theorem ok_need_two {W : Wd} {mg : Str → Option Value} {base : Heap} {f : Addr} {fd : FuncData} (kt : Kit mg) (c_need_map : Fn W.P W.w W.K mg base W 6 "need_map" 1 g_need_map) (c_is_map : Fn W.P W.w W.K mg base W 5 "is_map" 1 g_is_map) (c_lands_of : Fn W.P W.w W.K mg base W 1 "lands_of" 1 g_lands_of) (F : FnP W.K "need_two" 34 f fd) :
    FnOk W.P W.w W.K mg base CX0 7 f fd ps_need_two (spOf ps_need_two.length W g_need_two) := by
  refine fn_data (k := 6) (ms := []) (Fv := F_need_two) F sc_need_two (by decide) fun cdv A outer s H E hcd hr => ?_
  have hx := fit_of (W := W) (mg := mg) (base := base) (N := N_need_two) (outer := outer) (E := E) (H := H) sc_need_two.nd hr
  exact (tss_cons (ts_drop (px_callF c_need_map (hr.mono (by decide)) rfl (pa_consD (px_var (pe_var (i := 0) rfl (.inl rfl))) pa_nilD)))
 (tss_one (ts_if (PW.pt (ptw_or (ptt_not (pt_tru hx.K (px_callF c_is_map (hr.mono (by decide)) rfl (pa_consD (px_var (pe_var (i := 1) rfl (.inl rfl))) pa_nilD)))) (ptw_or (pt_cmp (cmp_ne hx) (px_ix hx (px_var (pe_var (i := 1) rfl (.inl rfl))) px_int) (px_ix hx (px_var (pe_var (i := 0) rfl (.inl rfl))) px_int)) (ptw_or (pt_cmp (cmp_ne hx) (px_callB call_len rfl kt.n_len (by decide +kernel) (pa_consD (px_ix hx (px_var (pe_var (i := 1) rfl (.inl rfl))) px_int) pa_nilD)) (px_callB call_len rfl kt.n_len (by decide +kernel) (pa_consD (px_ix hx (px_var (pe_var (i := 0) rfl (.inl rfl))) px_int) pa_nilD))) (ptw_or1 (pt_cmp (cmp_ne hx) (px_callF c_lands_of (hr.mono (by decide)) rfl (pa_consD (px_var (pe_var (i := 1) rfl (.inl rfl))) pa_nilD)) (px_callF c_lands_of (hr.mono (by decide)) rfl (pa_consD (px_var (pe_var (i := 0) rfl (.inl rfl))) pa_nilD))))))))
 (tss_one ts_never)
 tss_nil)))
theorem fn_need_two {W : Wd} {mg : Str → Option Value} {base : Heap} {f : Addr} {fd : FuncData} (kt : Kit mg) (c_need_map : Fn W.P W.w W.K mg base W 6 "need_map" 1 g_need_map) (c_is_map : Fn W.P W.w W.K mg base W 5 "is_map" 1 g_is_map) (c_lands_of : Fn W.P W.w W.K mg base W 1 "lands_of" 1 g_lands_of) (F : FnP W.K "need_two" 34 f fd) (gm : mg "need_two" = some (.ref f)) : Fn W.P W.w W.K mg base W 7 "need_two" 2 g_need_two :=
  fn_of_data F gm (ok_need_two kt c_need_map c_is_map c_lands_of F) (F.bindsN fun _ _ _ _ _ _ us hl => match us, hl with | [_, _], _ => rfl)
/-! ### need_prices -/
abbrev N_need_prices : List Str := ["chart", "prices", "one"]
abbrev ps_need_prices : List Str := ["chart", "prices"]
def F_need_prices : Sv := (sSeq (sIf (bOr (bNot (bTru (eIsi kIsTup (eVar 1)))) (bCmp kNe (eCall kLen (lCons (eVar 1) lNil)) (eCall (kFn 1 g_lands_of) (lCons (eVar 0) lNil))))
 sFail
 sNx)
 (sIf (bNot (bTru (eQ true [2] (lVar 1) (gVar 2) (eCall (kFn 3 g_is_in) (lCons (eVar 2) (lCons (eC (.int 0)) (lCons (eC (.int 1000)) lNil)))))))
 sFail
 sNx))
def g_need_prices : List D → M D := gOf N_need_prices F_need_prices
theorem sc_need_prices : FnScope N_need_prices ps_need_prices (defScope (top 38)) := ⟨rfl, rfl, rfl, by decide +kernel, rfl, by decide +kernel, by decide +kernel⟩
theorem ok_need_prices {W : Wd} {mg : Str → Option Value} {base : Heap} {f : Addr} {fd : FuncData} (kt : Kit mg) (c_lands_of : Fn W.P W.w W.K mg base W 1 "lands_of" 1 g_lands_of) (c_is_in : Fn W.P W.w W.K mg base W 1 "is_in" 3 g_is_in) {c P : Addr} (hP : P ∈ W.tabs) (tb : GxR.TabB base mg c P) (hcode : fd.code = .ref c) (F : FnP W.K "need_prices" 38 f fd) :
    FnOk W.P W.w W.K mg base CX0 3 f fd ps_need_prices (spOf ps_need_prices.length W g_need_prices) := by
  refine fn_data (k := 2) (ms := []) (Fv := F_need_prices) F sc_need_prices (by decide) fun cdv A outer s H E hcd hr => ?_
  have hx := fit_of (W := W) (mg := mg) (base := base) (N := N_need_prices) (outer := outer) (E := E) (H := H) sc_need_prices.nd hr
  have hc : cdv = .ref c := hcd.symm.trans hcode
  exact (tss_cons (ts_if (PW.pt (ptw_or (ptt_not (pt_tru hx.K (px_isi isi_tup hx.K rfl kt.n_isinstance rfl kt.n_tuple (by decide +kernel) (px_var (pe_var (i := 1) rfl (.inl rfl)))))) (ptw_or1 (pt_cmp (cmp_ne hx) (px_callB call_len rfl kt.n_len (by decide +kernel) (pa_consD (px_var (pe_var (i := 1) rfl (.inl rfl))) pa_nilD)) (px_callF c_lands_of (hr.mono (by decide)) rfl (pa_consD (px_var (pe_var (i := 0) rfl (.inl rfl))) pa_nilD))))))
 (tss_one ts_never)
 tss_nil)
 (tss_one (ts_if (ptt_not (pt_tru hx.K (px_allG (own := [("one", 2)]) (k := 1) hx (hr.mono (by decide)) ⟨hP, tb, hc⟩ rfl kt.n_all (gen_ok (by kernel_rfl)) (ti_var hx (pe_var (i := 1) rfl (.inl rfl)) (by decide)) (fun _ _ _ _ _ _ => (tg_name hx.nd rfl (.inl rfl) (by decide))) (fun _ _ _ _ _ _ hr1 => (px_callF c_is_in (hr1.mono (by decide)) rfl (pa_consD (px_var (pe_var (i := 2) rfl (.inl rfl))) (pa_consD (px_any px_int) (pa_consD (px_any (px_glob rfl kt.g_MOST_PRICE)) pa_nilD))))))))
 (tss_one ts_never)
 tss_nil)))
theorem fn_need_prices {W : Wd} {mg : Str → Option Value} {base : Heap} {f : Addr} {fd : FuncData} (kt : Kit mg) (c_lands_of : Fn W.P W.w W.K mg base W 1 "lands_of" 1 g_lands_of) (c_is_in : Fn W.P W.w W.K mg base W 1 "is_in" 3 g_is_in) {c P : Addr} (hP : P ∈ W.tabs) (tb : GxR.TabB base mg c P) (hcode : fd.code = .ref c) (F : FnP W.K "need_prices" 38 f fd) (gm : mg "need_prices" = some (.ref f)) : Fn W.P W.w W.K mg base W 3 "need_prices" 2 g_need_prices :=
  fn_of_data F gm (ok_need_prices kt c_lands_of c_is_in hP tb hcode F) (F.bindsN fun _ _ _ _ _ _ us hl => match us, hl with | [_, _], _ => rfl)
/-! ### need_priced -/
abbrev N_need_priced : List Str := ["one", "other", "prices"]
abbrev ps_need_priced : List Str := ["one", "other", "prices"]
def F_need_priced : Sv := (sSeq (sDrop (eCall (kFn 2 g_need_two) (lCons (eVar 0) (lCons (eVar 1) lNil))))
 (sDrop (eCall (kFn 2 g_need_prices) (lCons (eVar 0) (lCons (eVar 2) lNil)))))
def g_need_priced : List D → M D := gOf N_need_priced F_need_priced
theorem sc_need_priced : FnScope N_need_priced ps_need_priced (defScope (top 39)) := ⟨rfl, rfl, rfl, by decide +kernel, rfl, by decide +kernel, by decide +kernel⟩
theorem ok_need_priced {W : Wd} {mg : Str → Option Value} {base : Heap} {f : Addr} {fd : FuncData} (kt : Kit mg) (c_need_two : Fn W.P W.w W.K mg base W 7 "need_two" 2 g_need_two) (c_need_prices : Fn W.P W.w W.K mg base W 3 "need_prices" 2 g_need_prices) (F : FnP W.K "need_priced" 39 f fd) :
    FnOk W.P W.w W.K mg base CX0 8 f fd ps_need_priced (spOf ps_need_priced.length W g_need_priced) := by
  refine fn_data (k := 7) (ms := []) (Fv := F_need_priced) F sc_need_priced (by decide) fun cdv A outer s H E hcd hr => ?_
  have hx := fit_of (W := W) (mg := mg) (base := base) (N := N_need_priced) (outer := outer) (E := E) (H := H) sc_need_priced.nd hr
  exact (tss_cons (ts_drop (px_callF c_need_two (hr.mono (by decide)) rfl (pa_consD (px_var (pe_var (i := 0) rfl (.inl rfl))) (pa_consD (px_var (pe_var (i := 1) rfl (.inl rfl))) pa_nilD))))
 (tss_one (ts_drop (px_callF c_need_prices (hr.mono (by decide)) rfl (pa_consD (px_var (pe_var (i := 0) rfl (.inl rfl))) (pa_consD (px_var (pe_var (i := 2) rfl (.inl rfl))) pa_nilD))))))
theorem fn_need_priced {W : Wd} {mg : Str → Option Value} {base : Heap} {f : Addr} {fd : FuncData} (kt : Kit mg) (c_need_two : Fn W.P W.w W.K mg base W 7 "need_two" 2 g_need_two) (c_need_prices : Fn W.P W.w W.K mg base W 3 "need_prices" 2 g_need_prices) (F : FnP W.K "need_priced" 39 f fd) (gm : mg "need_priced" = some (.ref f)) : Fn W.P W.w W.K mg base W 8 "need_priced" 3 g_need_priced :=
  fn_of_data F gm (ok_need_priced kt c_need_two c_need_prices F) (F.bindsN fun _ _ _ _ _ _ us hl => match us, hl with | [_, _, _], _ => rfl)
end Sl
end S_Sm2
noncomputable section S_Sm3
set_option Elab.async false
set_option linter.all false
set_option maxRecDepth 100000
set_option maxHeartbeats 1000000
namespace Sl
open PySem PySem.Spec PyProof.Rows L2
/-! ### least_rows -/
abbrev N_least_rows : List Str := ["chart", "prices", "found", "fresh", "more", "here", "price", "many", "taking", "there", "part"]
abbrev ps_least_rows : List Str := ["chart", "prices"]
noncomputable def F_least_rows : Sv := (sSeq (sPar 2 3 (eDict1 (eVar 0) (eTup (lCons (eC (.int 0)) (lCons (eC (.int 0)) (lCons (eC .non) (lCons (eC .non) lNil)))))) (eLst (lCons (eImm (eVar 0)) lNil)))
 (sSeq (sWhile (fuC (bTru (eVar 3)) (sSeq (sSet 4 eDict0)
 (sSeq (sFor (gVar 5) (lVar 3)
 (sSeq (sTgt0 (gTup2 6 7) (eCut (eImm (eIx (eVar 2) (eVar 5))) oNone (oSome (eC (.int 2)))))
 (sFor (gVar 8) (lNew (eCall (kFn 1 g_all_takings) (lCons (eVar 5) lNil)))
 (sSeq (sPar 9 10 (eCall (kFn 2 g_taken) (lCons (eVar 5) (lCons (eVar 8) lNil))) (eTup (lCons (eAddF (eVar 6) (eIx (eVar 1) (eIx (eVar 8) (eC (.int 0))))) (lCons (eAddF (eVar 7) (eC (.int 1))) lNil))))
 (sIf (bOr (bCmp kNotIn (eVar 9) (eVar 2)) (bCmp kLt (eVar 10) (eCut (eIx (eVar 2) (eVar 9)) oNone (oSome (eC (.int 2))))))
 (sSeq (sPut 2 (eVar 9) (eTup (lStar (eVar 10) (lCons (eVar 5) (lCons (eVar 8) lNil)))))
 (sPut 4 (eVar 9) (eC (.bl true))))
 sNx)))))
 (sSet 3 (eCall kListA (lCons (eVar 4) lNil)))))) (bTru (eVar 3)) (sSeq (sSet 4 eDict0)
 (sSeq (sFor (gVar 5) (lVar 3)
 (sSeq (sTgt0 (gTup2 6 7) (eCut (eImm (eIx (eVar 2) (eVar 5))) oNone (oSome (eC (.int 2)))))
 (sFor (gVar 8) (lNew (eCall (kFn 1 g_all_takings) (lCons (eVar 5) lNil)))
 (sSeq (sPar 9 10 (eCall (kFn 2 g_taken) (lCons (eVar 5) (lCons (eVar 8) lNil))) (eTup (lCons (eAddF (eVar 6) (eIx (eVar 1) (eIx (eVar 8) (eC (.int 0))))) (lCons (eAddF (eVar 7) (eC (.int 1))) lNil))))
 (sIf (bOr (bCmp kNotIn (eVar 9) (eVar 2)) (bCmp kLt (eVar 10) (eCut (eIx (eVar 2) (eVar 9)) oNone (oSome (eC (.int 2))))))
 (sSeq (sPut 2 (eVar 9) (eTup (lStar (eVar 10) (lCons (eVar 5) (lCons (eVar 8) lNil)))))
 (sPut 4 (eVar 9) (eC (.bl true))))
 sNx)))))
 (sSet 3 (eCall kListA (lCons (eVar 4) lNil))))))
 (sRet (eVar 2))))
noncomputable def g_least_rows : List D → M D := gOf N_least_rows F_least_rows
theorem sc_least_rows : FnScope N_least_rows ps_least_rows (defScope (top 40)) := ⟨rfl, rfl, rfl, by decide +kernel, rfl, by decide +kernel, by decide +kernel⟩
theorem ok_least_rows {W : Wd} {mg : Str → Option Value} {base : Heap} {f : Addr} {fd : FuncData} (kt : Kit mg) (c_all_takings : Fn W.P W.w W.K mg base W 4 "all_takings" 1 g_all_takings) (c_taken : Fn W.P W.w W.K mg base W 1 "taken" 2 g_taken) (F : FnP W.K "least_rows" 40 f fd) :
    FnOk W.P W.w W.K mg base CX0 5 f fd ps_least_rows (spOf ps_least_rows.length W g_least_rows) := by
  refine fn_data (k := 4) (ms := [2, 4]) (Fv := F_least_rows) F sc_least_rows (by decide) fun cdv A outer s H E hcd hr => ?_
  have hx := fit_of (W := W) (mg := mg) (base := base) (N := N_least_rows) (outer := outer) (E := E) (H := H) sc_least_rows.nd hr
  exact (tss_cons (ts_par hx.calm hx.nd (i := 2) (j := 3) rfl rfl (by decide) rfl rfl (px_dict1 hx (px_var (pe_var (i := 0) rfl (.inl rfl))) (px_tup (pa_consD px_int (pa_consD px_int (pa_consD px_non (pa_consD px_non pa_nilD)))))) (px_lst (pa_consD (px_imm (px_var (pe_var (i := 0) rfl (.inl rfl)))) pa_nilD)) (.inr rfl) (.inr rfl) rfl)
 (tss_cons (ts_while (fuC _ _) PassesOwn.never (pt_tru hx.K (px_var (pe_var (i := 3) rfl (.inl rfl))))
 (tss_cons (ts_set hx.nd (i := 4) rfl (.inl rfl) px_dict0 (.inr rfl))
 (tss_cons (ts_for hx PassesOwn.never (ti_var hx (pe_var (i := 3) rfl (.inl rfl)) (by decide)) (tg_name hx.nd rfl (.inl rfl) (by decide))
 (tss_cons (ts_tgtF (tg_tup2 hx rfl rfl (.inl rfl) (.inl rfl) (by decide) (by decide)) (px_cut po_noneD (po_someD px_int) hx.K (px_imm (px_ix hx (px_var (pe_var (i := 2) rfl (.inl rfl))) (px_var (pe_var (i := 5) rfl (.inl rfl)))))))
 (tss_one (ts_for hx PassesOwn.never (ti_new hx (px_callF c_all_takings (hr.mono (by decide)) rfl (pa_consD (px_var (pe_var (i := 5) rfl (.inl rfl))) pa_nilD))) (tg_name hx.nd rfl (.inl rfl) (by decide))
 (tss_cons (ts_par hx.calm hx.nd (i := 9) (j := 10) rfl rfl (by decide) rfl rfl (px_callF c_taken (hr.mono (by decide)) rfl (pa_consD (px_var (pe_var (i := 5) rfl (.inl rfl))) (pa_consD (px_var (pe_var (i := 8) rfl (.inl rfl))) pa_nilD))) (px_tup (pa_consD (px_addF (px_var (pe_var (i := 6) rfl (.inl rfl))) (px_ix hx (px_var (pe_var (i := 1) rfl (.inl rfl))) (px_ix hx (px_var (pe_var (i := 8) rfl (.inl rfl))) px_int))) (pa_consD (px_addF (px_var (pe_var (i := 7) rfl (.inl rfl))) px_int) pa_nilD))) (.inr rfl) (.inr rfl) rfl)
 (tss_one (ts_if (PW.pt (ptw_or (pt_cmp (cmp_notin hx) (px_var (pe_var (i := 9) rfl (.inl rfl))) (px_var (pe_var (i := 2) rfl (.inl rfl)))) (ptw_or1 (pt_cmp (cmp_lt hx) (px_var (pe_var (i := 10) rfl (.inl rfl))) (px_cut po_noneD (po_someD px_int) hx.K (px_ix hx (px_var (pe_var (i := 2) rfl (.inl rfl))) (px_var (pe_var (i := 9) rfl (.inl rfl)))))))))
 (tss_cons (ts_put hx (pe_var (i := 2) rfl (.inl rfl)) (by decide) (px_var (pe_var (i := 9) rfl (.inl rfl))) (px_tup (pa_starD (px_var (pe_var (i := 10) rfl (.inl rfl))) (pa_consD (px_var (pe_var (i := 5) rfl (.inl rfl))) (pa_consD (px_var (pe_var (i := 8) rfl (.inl rfl))) pa_nilD)))))
 (tss_one (ts_put hx (pe_var (i := 4) rfl (.inl rfl)) (by decide) (px_var (pe_var (i := 9) rfl (.inl rfl))) px_bl)))
 tss_nil)))))))
 (tss_one (ts_set hx.nd (i := 3) rfl (.inl rfl) (px_callT (call_listA hx) rfl kt.n_list (by decide +kernel) (pa_consD (px_var (pe_var (i := 4) rfl (.inl rfl))) pa_nilD)) (.inr rfl))))))
 (tss_one (ts_retv (pe_var (i := 2) rfl (.inl rfl)) (by decide)))))
theorem fn_least_rows {W : Wd} {mg : Str → Option Value} {base : Heap} {f : Addr} {fd : FuncData} (kt : Kit mg) (c_all_takings : Fn W.P W.w W.K mg base W 4 "all_takings" 1 g_all_takings) (c_taken : Fn W.P W.w W.K mg base W 1 "taken" 2 g_taken) (F : FnP W.K "least_rows" 40 f fd) (gm : mg "least_rows" = some (.ref f)) : Fn W.P W.w W.K mg base W 5 "least_rows" 2 g_least_rows :=
  fn_of_data F gm (ok_least_rows kt c_all_takings c_taken F) (F.bindsN fun _ _ _ _ _ _ us hl => match us, hl with | [_, _], _ => rfl)
/-! ### row_to -/
abbrev N_row_to : List Str := ["found", "other", "row", "here"]
abbrev ps_row_to : List Str := ["found", "other"]
def F_row_to : Sv := (sSeq (sPar 2 3 (eLst lNil) (eImm (eVar 1)))
 (sSeq (sWhile (fun _ => 40) (bCmp kIsNot (eIx (eIx (eVar 0) (eVar 3)) (eC (.int 3))) (eC .non))
 (sSeq (sApp 2 (eIx (eIx (eVar 0) (eVar 3)) (eC (.int 3))))
 (sSet 3 (eImm (eIx (eIx (eVar 0) (eVar 3)) (eC (.int 2)))))))
 (sRet (eCall kTuple (lCons (e1 (eVar 2) kRevL) lNil)))))
def g_row_to : List D → M D := gOf N_row_to F_row_to
theorem sc_row_to : FnScope N_row_to ps_row_to (defScope (top 41)) := ⟨rfl, rfl, rfl, by decide +kernel, rfl, by decide +kernel, by decide +kernel⟩
theorem ok_row_to {W : Wd} {mg : Str → Option Value} {base : Heap} {f : Addr} {fd : FuncData} (kt : Kit mg) (F : FnP W.K "row_to" 41 f fd) :
    FnOk W.P W.w W.K mg base CX0 1 f fd ps_row_to (spOf ps_row_to.length W g_row_to) := by
  refine fn_data (k := 0) (ms := [2]) (Fv := F_row_to) F sc_row_to (by decide) fun cdv A outer s H E hcd hr => ?_
  have hx := fit_of (W := W) (mg := mg) (base := base) (N := N_row_to) (outer := outer) (E := E) (H := H) sc_row_to.nd hr
  exact (tss_cons (ts_par hx.calm hx.nd (i := 2) (j := 3) rfl rfl (by decide) rfl rfl (px_lst (fr := true) pa_nilD) (px_imm (px_var (pe_var (i := 1) rfl (.inl rfl)))) (.inr rfl) (.inr rfl) rfl)
 (tss_cons (ts_while (fun _ => 40) PassesOwn.never (pt_cmp cmp_isnot (px_ix hx (px_ix hx (px_var (pe_var (i := 0) rfl (.inl rfl))) (px_var (pe_var (i := 3) rfl (.inl rfl)))) px_int) px_non)
 (tss_cons (ts_app hx.K (pe_var (i := 2) rfl (.inl rfl)) (by decide) (px_ix hx (px_ix hx (px_var (pe_var (i := 0) rfl (.inl rfl))) (px_var (pe_var (i := 3) rfl (.inl rfl)))) px_int))
 (tss_one (ts_set hx.nd (i := 3) rfl (.inl rfl) (px_imm (px_ix hx (px_ix hx (px_var (pe_var (i := 0) rfl (.inl rfl))) (px_var (pe_var (i := 3) rfl (.inl rfl)))) px_int)) (.inr rfl)))))
 (tss_one (ts_ret (px_callT call_tuple rfl kt.n_tuple (by decide +kernel) (pa_consD (px_revL (px_var (pe_var (i := 2) rfl (.inl rfl)))) pa_nilD))))))
theorem fn_row_to {W : Wd} {mg : Str → Option Value} {base : Heap} {f : Addr} {fd : FuncData} (kt : Kit mg) (F : FnP W.K "row_to" 41 f fd) (gm : mg "row_to" = some (.ref f)) : Fn W.P W.w W.K mg base W 1 "row_to" 2 g_row_to :=
  fn_of_data F gm (ok_row_to kt  F) (F.bindsN fun _ _ _ _ _ _ us hl => match us, hl with | [_, _], _ => rfl)
/-! ### cheap_row -/
abbrev N_cheap_row : List Str := ["one", "other", "prices", "found"]
abbrev ps_cheap_row : List Str := ["one", "other", "prices"]
noncomputable def F_cheap_row : Sv := (sSeq (sDrop (eCall (kFn 3 g_need_priced) (lCons (eVar 0) (lCons (eVar 1) (lCons (eVar 2) lNil)))))
 (sSeq (sIf (bCmp kNe (eCall (kFn 1 g_key_of) (lCons (eVar 0) lNil)) (eCall (kFn 1 g_key_of) (lCons (eVar 1) lNil)))
 (sRet (eC .non))
 sNx)
 (sSeq (sSet 3 (eCall (kFn 2 g_least_rows) (lCons (eVar 0) (lCons (eVar 2) lNil))))
 (sRet (eTup (lCons (eImm (eIx (eIx (eVar 3) (eVar 1)) (eC (.int 0)))) (lCons (eCall (kFn 2 g_row_to) (lCons (eVar 3) (lCons (eVar 1) lNil))) lNil)))))))
noncomputable def g_cheap_row : List D → M D := gOf N_cheap_row F_cheap_row
theorem sc_cheap_row : FnScope N_cheap_row ps_cheap_row (defScope (top 42)) := ⟨rfl, rfl, rfl, by decide +kernel, rfl, by decide +kernel, by decide +kernel⟩
theorem ok_cheap_row {W : Wd} {mg : Str → Option Value} {base : Heap} {f : Addr} {fd : FuncData} (kt : Kit mg) (c_need_priced : Fn W.P W.w W.K mg base W 8 "need_priced" 3 g_need_priced) (c_key_of : Fn W.P W.w W.K mg base W 5 "key_of" 1 g_key_of) (c_least_rows : Fn W.P W.w W.K mg base W 5 "least_rows" 2 g_least_rows) (c_row_to : Fn W.P W.w W.K mg base W 1 "row_to" 2 g_row_to) (F : FnP W.K "cheap_row" 42 f fd) :
    FnOk W.P W.w W.K mg base CX0 9 f fd ps_cheap_row (spOf ps_cheap_row.length W g_cheap_row) := by
  refine fn_data (k := 8) (ms := []) (Fv := F_cheap_row) F sc_cheap_row (by decide) fun cdv A outer s H E hcd hr => ?_
  have hx := fit_of (W := W) (mg := mg) (base := base) (N := N_cheap_row) (outer := outer) (E := E) (H := H) sc_cheap_row.nd hr
  exact (tss_cons (ts_drop (px_callF c_need_priced (hr.mono (by decide)) rfl (pa_consD (px_var (pe_var (i := 0) rfl (.inl rfl))) (pa_consD (px_var (pe_var (i := 1) rfl (.inl rfl))) (pa_consD (px_var (pe_var (i := 2) rfl (.inl rfl))) pa_nilD)))))
 (tss_cons (ts_if (pt_cmp (cmp_ne hx) (px_callF c_key_of (hr.mono (by decide)) rfl (pa_consD (px_var (pe_var (i := 0) rfl (.inl rfl))) pa_nilD)) (px_callF c_key_of (hr.mono (by decide)) rfl (pa_consD (px_var (pe_var (i := 1) rfl (.inl rfl))) pa_nilD)))
 (tss_one (ts_ret px_non))
 tss_nil)
 (tss_cons (ts_set hx.nd (i := 3) rfl (.inl rfl) (px_callF c_least_rows (hr.mono (by decide)) rfl (pa_consD (px_var (pe_var (i := 0) rfl (.inl rfl))) (pa_consD (px_var (pe_var (i := 2) rfl (.inl rfl))) pa_nilD))) (.inl rfl))
 (tss_one (ts_ret (px_tup (pa_consD (px_imm (px_ix hx (px_ix hx (px_var (pe_var (i := 3) rfl (.inl rfl))) (px_var (pe_var (i := 1) rfl (.inl rfl)))) px_int)) (pa_consD (px_callF c_row_to (hr.mono (by decide)) rfl (pa_consD (px_var (pe_var (i := 3) rfl (.inl rfl))) (pa_consD (px_var (pe_var (i := 1) rfl (.inl rfl))) pa_nilD))) pa_nilD))))))))
theorem fn_cheap_row {W : Wd} {mg : Str → Option Value} {base : Heap} {f : Addr} {fd : FuncData} (kt : Kit mg) (c_need_priced : Fn W.P W.w W.K mg base W 8 "need_priced" 3 g_need_priced) (c_key_of : Fn W.P W.w W.K mg base W 5 "key_of" 1 g_key_of) (c_least_rows : Fn W.P W.w W.K mg base W 5 "least_rows" 2 g_least_rows) (c_row_to : Fn W.P W.w W.K mg base W 1 "row_to" 2 g_row_to) (F : FnP W.K "cheap_row" 42 f fd) (gm : mg "cheap_row" = some (.ref f)) : Fn W.P W.w W.K mg base W 9 "cheap_row" 3 g_cheap_row :=
  fn_of_data F gm (ok_cheap_row kt c_need_priced c_key_of c_least_rows c_row_to F) (F.bindsN fun _ _ _ _ _ _ us hl => match us, hl with | [_, _, _], _ => rfl)
/-! ### price_of -/
abbrev N_price_of : List Str := ["one", "prices", "value", "price", "taking"]
abbrev ps_price_of : List Str := ["one", "prices", "value"]
def F_price_of : Sv := (sSeq (sSet 3 (eC (.int 0)))
 (sSeq (sFor (gVar 4) (lVar 2)
 (sSeq (sIf (bOr (bNot (bTru (eCall (kFn 2 g_is_taking) (lCons (eVar 0) (lCons (eVar 4) lNil))))) (bNot (bTru (eCall (kFn 2 g_is_made) (lCons (eVar 0) (lCons (eVar 4) lNil))))))
 (sRet (eC .non))
 sNx)
 (sPar 3 0 (eAddF (eVar 3) (eIx (eVar 1) (eIx (eVar 4) (eC (.int 0))))) (eCall (kFn 2 g_taken) (lCons (eVar 0) (lCons (eVar 4) lNil))))))
 (sRet (eTup (lCons (eImm (eVar 3)) (lCons (eImm (eVar 0)) lNil))))))
def g_price_of : List D → M D := gOf N_price_of F_price_of
theorem sc_price_of : FnScope N_price_of ps_price_of (defScope (top 43)) := ⟨rfl, rfl, rfl, by decide +kernel, rfl, by decide +kernel, by decide +kernel⟩
theorem ok_price_of {W : Wd} {mg : Str → Option Value} {base : Heap} {f : Addr} {fd : FuncData} (kt : Kit mg) (c_is_taking : Fn W.P W.w W.K mg base W 2 "is_taking" 2 g_is_taking) (c_is_made : Fn W.P W.w W.K mg base W 3 "is_made" 2 g_is_made) (c_taken : Fn W.P W.w W.K mg base W 1 "taken" 2 g_taken) (F : FnP W.K "price_of" 43 f fd) :
    FnOk W.P W.w W.K mg base CX0 4 f fd ps_price_of (spOf ps_price_of.length W g_price_of) := by
  refine fn_data (k := 3) (ms := []) (Fv := F_price_of) F sc_price_of (by decide) fun cdv A outer s H E hcd hr => ?_
  have hx := fit_of (W := W) (mg := mg) (base := base) (N := N_price_of) (outer := outer) (E := E) (H := H) sc_price_of.nd hr
  exact (tss_cons (ts_set hx.nd (i := 3) rfl (.inl rfl) px_int (.inl rfl))
 (tss_cons (ts_for hx PassesOwn.never (ti_var hx (pe_var (i := 2) rfl (.inl rfl)) (by decide)) (tg_name hx.nd rfl (.inl rfl) (by decide))
 (tss_cons (ts_if (PW.pt (ptw_or (ptt_not (pt_tru hx.K (px_callF c_is_taking (hr.mono (by decide)) rfl (pa_consD (px_var (pe_var (i := 0) rfl (.inl rfl))) (pa_consD (px_var (pe_var (i := 4) rfl (.inl rfl))) pa_nilD))))) (ptw_or1 (ptt_not (pt_tru hx.K (px_callF c_is_made (hr.mono (by decide)) rfl (pa_consD (px_var (pe_var (i := 0) rfl (.inl rfl))) (pa_consD (px_var (pe_var (i := 4) rfl (.inl rfl))) pa_nilD))))))))
 (tss_one (ts_ret px_non))
 tss_nil)
 (tss_one (ts_par hx.calm hx.nd (i := 3) (j := 0) rfl rfl (by decide) rfl rfl (px_addF (px_var (pe_var (i := 3) rfl (.inl rfl))) (px_ix hx (px_var (pe_var (i := 1) rfl (.inl rfl))) (px_ix hx (px_var (pe_var (i := 4) rfl (.inl rfl))) px_int))) (px_callF c_taken (hr.mono (by decide)) rfl (pa_consD (px_var (pe_var (i := 0) rfl (.inl rfl))) (pa_consD (px_var (pe_var (i := 4) rfl (.inl rfl))) pa_nilD))) (.inl rfl) (.inl rfl) rfl))))
 (tss_one (ts_ret (px_tup (pa_consD (px_imm (px_var (pe_var (i := 3) rfl (.inl rfl)))) (pa_consD (px_imm (px_var (pe_var (i := 0) rfl (.inl rfl)))) pa_nilD)))))))
theorem fn_price_of {W : Wd} {mg : Str → Option Value} {base : Heap} {f : Addr} {fd : FuncData} (kt : Kit mg) (c_is_taking : Fn W.P W.w W.K mg base W 2 "is_taking" 2 g_is_taking) (c_is_made : Fn W.P W.w W.K mg base W 3 "is_made" 2 g_is_made) (c_taken : Fn W.P W.w W.K mg base W 1 "taken" 2 g_taken) (F : FnP W.K "price_of" 43 f fd) (gm : mg "price_of" = some (.ref f)) : Fn W.P W.w W.K mg base W 4 "price_of" 3 g_price_of :=
  fn_of_data F gm (ok_price_of kt c_is_taking c_is_made c_taken F) (F.bindsN fun _ _ _ _ _ _ us hl => match us, hl with | [_, _, _], _ => rfl)
/-! ### shows_cheap_row -/
abbrev N_shows_cheap_row : List Str := ["one", "other", "prices", "value", "best"]
abbrev ps_shows_cheap_row : List Str := ["one", "other", "prices", "value"]
noncomputable def F_shows_cheap_row : Sv := (sSeq (sDrop (eCall (kFn 3 g_need_priced) (lCons (eVar 0) (lCons (eVar 1) (lCons (eVar 2) lNil)))))
 (sSeq (sIf (bOr (bCmp kIs (eVar 3) (eC .non)) (bCmp kNe (eCall (kFn 1 g_key_of) (lCons (eVar 0) lNil)) (eCall (kFn 1 g_key_of) (lCons (eVar 1) lNil))))
 (sRet (eAnd (eCmp kIs (eVar 3) (eC .non)) (eCmp kNe (eCall (kFn 1 g_key_of) (lCons (eVar 0) lNil)) (eCall (kFn 1 g_key_of) (lCons (eVar 1) lNil)))))
 sNx)
 (sSeq (sSet 4 (eIx (eIx (eCall (kFn 2 g_least_rows) (lCons (eVar 0) (lCons (eVar 2) lNil))) (eVar 1)) (eC (.int 0))))
 (sSeq (sIf (bOr (bNot (bTru (eIsi kIsTup (eVar 3)))) (bOr (bCmp kNe (eCall kLen (lCons (eVar 3) lNil)) (eC (.int 2))) (bNot (bTru (eCall (kFn 3 g_is_in) (lCons (eIx (eVar 3) (eC (.int 0))) (lCons (eVar 4) (lCons (eVar 4) lNil))))))))
 (sRet (eC (.bl false)))
 sNx)
 (sSeq (sIf (bOr (bNot (bTru (eIsi kIsTup (eIx (eVar 3) (eC (.int 1)))))) (bCmp kGt (eCall kLen (lCons (eIx (eVar 3) (eC (.int 1))) lNil)) (eC (.int 2000))))
 (sRet (eC (.bl false)))
 sNx)
 (sRet (eCmp kEq (eCall (kFn 3 g_price_of) (lCons (eVar 0) (lCons (eVar 2) (lCons (eIx (eVar 3) (eC (.int 1))) lNil)))) (eTup (lCons (eVar 4) (lCons (eVar 1) lNil))))))))))
noncomputable def g_shows_cheap_row : List D → M D := gOf N_shows_cheap_row F_shows_cheap_row
theorem sc_shows_cheap_row : FnScope N_shows_cheap_row ps_shows_cheap_row (defScope (top 44)) := ⟨rfl, rfl, rfl, by decide +kernel, rfl, by decide +kernel, by decide +kernel⟩
theorem ok_shows_cheap_row {W : Wd} {mg : Str → Option Value} {base : Heap} {f : Addr} {fd : FuncData} (kt : Kit mg) (c_need_priced : Fn W.P W.w W.K mg base W 8 "need_priced" 3 g_need_priced) (c_key_of : Fn W.P W.w W.K mg base W 5 "key_of" 1 g_key_of) (c_least_rows : Fn W.P W.w W.K mg base W 5 "least_rows" 2 g_least_rows) (c_is_in : Fn W.P W.w W.K mg base W 1 "is_in" 3 g_is_in) (c_price_of : Fn W.P W.w W.K mg base W 4 "price_of" 3 g_price_of) (F : FnP W.K "shows_cheap_row" 44 f fd) :
    FnOk W.P W.w W.K mg base CX0 9 f fd ps_shows_cheap_row (spOf ps_shows_cheap_row.length W g_shows_cheap_row) := by
  refine fn_data (k := 8) (ms := []) (Fv := F_shows_cheap_row) F sc_shows_cheap_row (by decide) fun cdv A outer s H E hcd hr => ?_
  have hx := fit_of (W := W) (mg := mg) (base := base) (N := N_shows_cheap_row) (outer := outer) (E := E) (H := H) sc_shows_cheap_row.nd hr
  exact (tss_cons (ts_drop (px_callF c_need_priced (hr.mono (by decide)) rfl (pa_consD (px_var (pe_var (i := 0) rfl (.inl rfl))) (pa_consD (px_var (pe_var (i := 1) rfl (.inl rfl))) (pa_consD (px_var (pe_var (i := 2) rfl (.inl rfl))) pa_nilD)))))
 (tss_cons (ts_if (PW.pt (ptw_or (pt_cmp cmp_is (px_var (pe_var (i := 3) rfl (.inl rfl))) px_non) (ptw_or1 (pt_cmp (cmp_ne hx) (px_callF c_key_of (hr.mono (by decide)) rfl (pa_consD (px_var (pe_var (i := 0) rfl (.inl rfl))) pa_nilD)) (px_callF c_key_of (hr.mono (by decide)) rfl (pa_consD (px_var (pe_var (i := 1) rfl (.inl rfl))) pa_nilD))))))
 (tss_one (ts_ret (px_and (px_cmp cmp_is (px_var (pe_var (i := 3) rfl (.inl rfl))) px_non) (px_one (px_cmp (cmp_ne hx) (px_callF c_key_of (hr.mono (by decide)) rfl (pa_consD (px_var (pe_var (i := 0) rfl (.inl rfl))) pa_nilD)) (px_callF c_key_of (hr.mono (by decide)) rfl (pa_consD (px_var (pe_var (i := 1) rfl (.inl rfl))) pa_nilD)))))))
 tss_nil)
 (tss_cons (ts_set hx.nd (i := 4) rfl (.inl rfl) (px_ix hx (px_ix hx (px_callF c_least_rows (hr.mono (by decide)) rfl (pa_consD (px_var (pe_var (i := 0) rfl (.inl rfl))) (pa_consD (px_var (pe_var (i := 2) rfl (.inl rfl))) pa_nilD))) (px_var (pe_var (i := 1) rfl (.inl rfl)))) px_int) (.inl rfl))
 (tss_cons (ts_if (PW.pt (ptw_or (ptt_not (pt_tru hx.K (px_isi isi_tup hx.K rfl kt.n_isinstance rfl kt.n_tuple (by decide +kernel) (px_var (pe_var (i := 3) rfl (.inl rfl)))))) (ptw_or (pt_cmp (cmp_ne hx) (px_callB call_len rfl kt.n_len (by decide +kernel) (pa_consD (px_var (pe_var (i := 3) rfl (.inl rfl))) pa_nilD)) px_int) (ptw_or1 (ptt_not (pt_tru hx.K (px_callF c_is_in (hr.mono (by decide)) rfl (pa_consD (px_ix hx (px_var (pe_var (i := 3) rfl (.inl rfl))) px_int) (pa_consD (px_var (pe_var (i := 4) rfl (.inl rfl))) (pa_consD (px_var (pe_var (i := 4) rfl (.inl rfl))) pa_nilD))))))))))
 (tss_one (ts_ret px_bl))
 tss_nil)
 (tss_cons (ts_if (PW.pt (ptw_or (ptt_not (pt_tru hx.K (px_isi isi_tup hx.K rfl kt.n_isinstance rfl kt.n_tuple (by decide +kernel) (px_ix hx (px_var (pe_var (i := 3) rfl (.inl rfl))) px_int)))) (ptw_or1 (pt_cmp cmp_gt (px_callB call_len rfl kt.n_len (by decide +kernel) (pa_consD (px_ix hx (px_var (pe_var (i := 3) rfl (.inl rfl))) px_int) pa_nilD)) (px_glob rfl kt.g_MOST_CHEAP)))))
 (tss_one (ts_ret px_bl))
 tss_nil)
 (tss_one (ts_ret (px_cmp (cmp_eq hx) (px_callF c_price_of (hr.mono (by decide)) rfl (pa_consD (px_var (pe_var (i := 0) rfl (.inl rfl))) (pa_consD (px_var (pe_var (i := 2) rfl (.inl rfl))) (pa_consD (px_ix hx (px_var (pe_var (i := 3) rfl (.inl rfl))) px_int) pa_nilD)))) (px_tup (pa_consD (px_var (pe_var (i := 4) rfl (.inl rfl))) (pa_consD (px_var (pe_var (i := 1) rfl (.inl rfl))) pa_nilD)))))))))))
theorem fn_shows_cheap_row {W : Wd} {mg : Str → Option Value} {base : Heap} {f : Addr} {fd : FuncData} (kt : Kit mg) (c_need_priced : Fn W.P W.w W.K mg base W 8 "need_priced" 3 g_need_priced) (c_key_of : Fn W.P W.w W.K mg base W 5 "key_of" 1 g_key_of) (c_least_rows : Fn W.P W.w W.K mg base W 5 "least_rows" 2 g_least_rows) (c_is_in : Fn W.P W.w W.K mg base W 1 "is_in" 3 g_is_in) (c_price_of : Fn W.P W.w W.K mg base W 4 "price_of" 3 g_price_of) (F : FnP W.K "shows_cheap_row" 44 f fd) (gm : mg "shows_cheap_row" = some (.ref f)) : Fn W.P W.w W.K mg base W 9 "shows_cheap_row" 4 g_shows_cheap_row :=
  fn_of_data F gm (ok_shows_cheap_row kt c_need_priced c_key_of c_least_rows c_is_in c_price_of F) (F.bindsN fun _ _ _ _ _ _ us hl => match us, hl with | [_, _, _, _], _ => rfl)
/-! ### cheapest_from -/
abbrev N_cheapest_from : List Str := ["chart", "prices", "found", "one"]
abbrev ps_cheapest_from : List Str := ["chart", "prices"]
noncomputable def F_cheapest_from : Sv := (sSeq (sDrop (eCall (kFn 1 g_need_map) (lCons (eVar 0) lNil)))
 (sSeq (sDrop (eCall (kFn 2 g_need_prices) (lCons (eVar 0) (lCons (eVar 1) lNil))))
 (sSeq (sSet 2 (eCall (kFn 2 g_least_rows) (lCons (eVar 0) (lCons (eVar 1) lNil))))
 (sRet (eCall kTuple (lCons (eLc [3] (lNew (eCall kSorted (lCons (eVar 2) lNil))) (gVar 3) bYes (eIx (eIx (eVar 2) (eVar 3)) (eC (.int 0)))) lNil))))))
noncomputable def g_cheapest_from : List D → M D := gOf N_cheapest_from F_cheapest_from
theorem sc_cheapest_from : FnScope N_cheapest_from ps_cheapest_from (defScope (top 45)) := ⟨rfl, rfl, rfl, by decide +kernel, rfl, by decide +kernel, by decide +kernel⟩
theorem ok_cheapest_from {W : Wd} {mg : Str → Option Value} {base : Heap} {f : Addr} {fd : FuncData} (kt : Kit mg) (c_need_map : Fn W.P W.w W.K mg base W 6 "need_map" 1 g_need_map) (c_need_prices : Fn W.P W.w W.K mg base W 3 "need_prices" 2 g_need_prices) (c_least_rows : Fn W.P W.w W.K mg base W 5 "least_rows" 2 g_least_rows) (F : FnP W.K "cheapest_from" 45 f fd) :
    FnOk W.P W.w W.K mg base CX0 7 f fd ps_cheapest_from (spOf ps_cheapest_from.length W g_cheapest_from) := by
  refine fn_data (k := 6) (ms := []) (Fv := F_cheapest_from) F sc_cheapest_from (by decide) fun cdv A outer s H E hcd hr => ?_
  have hx := fit_of (W := W) (mg := mg) (base := base) (N := N_cheapest_from) (outer := outer) (E := E) (H := H) sc_cheapest_from.nd hr
  exact (tss_cons (ts_drop (px_callF c_need_map (hr.mono (by decide)) rfl (pa_consD (px_var (pe_var (i := 0) rfl (.inl rfl))) pa_nilD)))
 (tss_cons (ts_drop (px_callF c_need_prices (hr.mono (by decide)) rfl (pa_consD (px_var (pe_var (i := 0) rfl (.inl rfl))) (pa_consD (px_var (pe_var (i := 1) rfl (.inl rfl))) pa_nilD))))
 (tss_cons (ts_set hx.nd (i := 2) rfl (.inr rfl) (px_callF c_least_rows (hr.mono (by decide)) rfl (pa_consD (px_var (pe_var (i := 0) rfl (.inl rfl))) (pa_consD (px_var (pe_var (i := 1) rfl (.inl rfl))) pa_nilD))) (.inl rfl))
 (tss_one (ts_ret (px_callT call_tuple rfl kt.n_tuple (by decide +kernel) (pa_consD (px_any (px_lc (own := [("one", 3)]) hx (ti_new hx (px_callB (call_sorted hx) rfl kt.n_sorted (by decide +kernel) (pa_consD (px_var (pe_var (i := 2) rfl (.inr (.inl rfl)))) pa_nilD))) (blk_ok (by kernel_rfl)) (fun _ _ _ _ _ => (tg_name hx.nd rfl (.inl rfl) (by decide))) (fun _ _ _ _ _ => pts_nilD) (fun _ _ _ _ _ => (px_ix (Fit.blk hx) (px_ix (Fit.blk hx) (px_var (pe_var (i := 2) rfl (.inr (.inl rfl)))) (px_var (pe_var (i := 3) rfl (.inl rfl)))) px_int)))) pa_nilD)))))))
theorem fn_cheapest_from {W : Wd} {mg : Str → Option Value} {base : Heap} {f : Addr} {fd : FuncData} (kt : Kit mg) (c_need_map : Fn W.P W.w W.K mg base W 6 "need_map" 1 g_need_map) (c_need_prices : Fn W.P W.w W.K mg base W 3 "need_prices" 2 g_need_prices) (c_least_rows : Fn W.P W.w W.K mg base W 5 "least_rows" 2 g_least_rows) (F : FnP W.K "cheapest_from" 45 f fd) (gm : mg "cheapest_from" = some (.ref f)) : Fn W.P W.w W.K mg base W 7 "cheapest_from" 2 g_cheapest_from :=
  fn_of_data F gm (ok_cheapest_from kt c_need_map c_need_prices c_least_rows F) (F.bindsN fun _ _ _ _ _ _ us hl => match us, hl with | [_, _], _ => rfl)
/-! ### shows_price_paper -/
abbrev N_shows_price_paper : List Str := ["one", "other", "prices", "value", "found", "some", "numbers", "here", "taking", "each"]
abbrev ps_shows_price_paper : List Str := ["one", "other", "prices", "value"]
noncomputable def F_shows_price_paper : Sv := (sSeq (sDrop (eCall (kFn 2 g_need_two) (lCons (eVar 0) (lCons (eVar 1) lNil))))
 (sSeq (sIf (bCmp kNe (eCall (kFn 1 g_key_of) (lCons (eVar 0) lNil)) (eCall (kFn 1 g_key_of) (lCons (eVar 1) lNil)))
 sFail
 sNx)
 (sSeq (sDrop (eCall (kFn 2 g_need_prices) (lCons (eVar 0) (lCons (eVar 2) lNil))))
 (sSeq (sSet 4 (eCall (kFn 2 g_least_rows) (lCons (eVar 0) (lCons (eVar 2) lNil))))
 (sSeq (sSet 5 (eCall kSorted (lCons (eVar 4) lNil)))
 (sSeq (sIf (bOr (bNot (bTru (eIsi kIsTup (eVar 3)))) (bCmp kNe (eCall kLen (lCons (eVar 3) lNil)) (eCall kLen (lCons (eVar 5) lNil))))
 (sRet (eC (.bl false)))
 sNx)
 (sSeq (sIf (bNot (bTru (eQ true [9] (lVar 3) (gVar 9) (eAnd (eIsi kIsInt (eVar 9)) (eNot (eIsi kIsBool (eVar 9)))))))
 (sRet (eC (.bl false)))
 sNx)
 (sSeq (sSet 6 (e2 (eVar 5) (eVar 3) kDictZip))
 (sSeq (sIf (bOr (bCmp kNe (eIx (eVar 6) (eVar 0)) (eC (.int 0))) (bCmp kNe (eIx (eVar 6) (eVar 1)) (eIx (eIx (eVar 4) (eVar 1)) (eC (.int 0)))))
 (sRet (eC (.bl false)))
 sNx)
 (sSeq (sFor (gVar 7) (lVar 5)
 (sFor (gVar 8) (lNew (eCall (kFn 1 g_all_takings) (lCons (eVar 7) lNil)))
 (sIf (bCmp kGt (eSub (eIx (eVar 6) (eCall (kFn 2 g_taken) (lCons (eVar 7) (lCons (eVar 8) lNil)))) (eIx (eVar 6) (eVar 7))) (eIx (eVar 2) (eIx (eVar 8) (eC (.int 0)))))
 (sRet (eC (.bl false)))
 sNx)))
 (sRet (eC (.bl true)))))))))))))
noncomputable def g_shows_price_paper : List D → M D := gOf N_shows_price_paper F_shows_price_paper
theorem sc_shows_price_paper : FnScope N_shows_price_paper ps_shows_price_paper (defScope (top 46)) := ⟨rfl, rfl, rfl, by decide +kernel, rfl, by decide +kernel, by decide +kernel⟩
theorem ok_shows_price_paper {W : Wd} {mg : Str → Option Value} {base : Heap} {f : Addr} {fd : FuncData} (kt : Kit mg) (c_need_two : Fn W.P W.w W.K mg base W 7 "need_two" 2 g_need_two) (c_key_of : Fn W.P W.w W.K mg base W 5 "key_of" 1 g_key_of) (c_need_prices : Fn W.P W.w W.K mg base W 3 "need_prices" 2 g_need_prices) (c_least_rows : Fn W.P W.w W.K mg base W 5 "least_rows" 2 g_least_rows) (c_all_takings : Fn W.P W.w W.K mg base W 4 "all_takings" 1 g_all_takings) (c_taken : Fn W.P W.w W.K mg base W 1 "taken" 2 g_taken) {c P : Addr} (hP : P ∈ W.tabs) (tb : GxR.TabB base mg c P) (hcode : fd.code = .ref c) (F : FnP W.K "shows_price_paper" 46 f fd) :
    FnOk W.P W.w W.K mg base CX0 8 f fd ps_shows_price_paper (spOf ps_shows_price_paper.length W g_shows_price_paper) := by
  refine fn_data (k := 7) (ms := []) (Fv := F_shows_price_paper) F sc_shows_price_paper (by decide) fun cdv A outer s H E hcd hr => ?_
  have hx := fit_of (W := W) (mg := mg) (base := base) (N := N_shows_price_paper) (outer := outer) (E := E) (H := H) sc_shows_price_paper.nd hr
  have hc : cdv = .ref c := hcd.symm.trans hcode
  exact (tss_cons (ts_drop (px_callF c_need_two (hr.mono (by decide)) rfl (pa_consD (px_var (pe_var (i := 0) rfl (.inl rfl))) (pa_consD (px_var (pe_var (i := 1) rfl (.inl rfl))) pa_nilD))))
 (tss_cons (ts_if (pt_cmp (cmp_ne hx) (px_callF c_key_of (hr.mono (by decide)) rfl (pa_consD (px_var (pe_var (i := 0) rfl (.inl rfl))) pa_nilD)) (px_callF c_key_of (hr.mono (by decide)) rfl (pa_consD (px_var (pe_var (i := 1) rfl (.inl rfl))) pa_nilD)))
 (tss_one ts_never)
 tss_nil)
 (tss_cons (ts_drop (px_callF c_need_prices (hr.mono (by decide)) rfl (pa_consD (px_var (pe_var (i := 0) rfl (.inl rfl))) (pa_consD (px_var (pe_var (i := 2) rfl (.inl rfl))) pa_nilD))))
 (tss_cons (ts_set hx.nd (i := 4) rfl (.inl rfl) (px_callF c_least_rows (hr.mono (by decide)) rfl (pa_consD (px_var (pe_var (i := 0) rfl (.inl rfl))) (pa_consD (px_var (pe_var (i := 2) rfl (.inl rfl))) pa_nilD))) (.inl rfl))
 (tss_cons (ts_set hx.nd (i := 5) rfl (.inl rfl) (px_callB (call_sorted hx) rfl kt.n_sorted (by decide +kernel) (pa_consD (px_var (pe_var (i := 4) rfl (.inl rfl))) pa_nilD)) (.inl rfl))
 (tss_cons (ts_if (PW.pt (ptw_or (ptt_not (pt_tru hx.K (px_isi isi_tup hx.K rfl kt.n_isinstance rfl kt.n_tuple (by decide +kernel) (px_var (pe_var (i := 3) rfl (.inl rfl)))))) (ptw_or1 (pt_cmp (cmp_ne hx) (px_callB call_len rfl kt.n_len (by decide +kernel) (pa_consD (px_var (pe_var (i := 3) rfl (.inl rfl))) pa_nilD)) (px_callB call_len rfl kt.n_len (by decide +kernel) (pa_consD (px_var (pe_var (i := 5) rfl (.inl rfl))) pa_nilD))))))
 (tss_one (ts_ret px_bl))
 tss_nil)
 (tss_cons (ts_if (ptt_not (pt_tru hx.K (px_allG (own := [("each", 9)]) (k := 0) hx (hr.mono (by decide)) ⟨hP, tb, hc⟩ rfl kt.n_all (gen_ok (by kernel_rfl)) (ti_var hx (pe_var (i := 3) rfl (.inl rfl)) (by decide)) (fun _ _ _ _ _ _ => (tg_name hx.nd rfl (.inl rfl) (by decide))) (fun _ _ _ _ _ _ hr1 => (px_and (px_isi isi_int (Fit.gen hx hr1).K rfl kt.n_isinstance rfl kt.n_int (by decide +kernel) (px_var (pe_var (i := 9) rfl (.inl rfl)))) (px_one (px_not (px_isi isi_bool (Fit.gen hx hr1).K rfl kt.n_isinstance rfl kt.n_bool (by decide +kernel) (px_var (pe_var (i := 9) rfl (.inl rfl)))))))))))
 (tss_one (ts_ret px_bl))
 tss_nil)
 (tss_cons (ts_set hx.nd (i := 6) rfl (.inl rfl) (px_dictZip hx rfl kt.n_dict rfl kt.n_zip (px_var (pe_var (i := 5) rfl (.inl rfl))) (px_var (pe_var (i := 3) rfl (.inl rfl)))) (.inl rfl))
 (tss_cons (ts_if (PW.pt (ptw_or (pt_cmp (cmp_ne hx) (px_ix hx (px_var (pe_var (i := 6) rfl (.inl rfl))) (px_var (pe_var (i := 0) rfl (.inl rfl)))) px_int) (ptw_or1 (pt_cmp (cmp_ne hx) (px_ix hx (px_var (pe_var (i := 6) rfl (.inl rfl))) (px_var (pe_var (i := 1) rfl (.inl rfl)))) (px_ix hx (px_ix hx (px_var (pe_var (i := 4) rfl (.inl rfl))) (px_var (pe_var (i := 1) rfl (.inl rfl)))) px_int)))))
 (tss_one (ts_ret px_bl))
 tss_nil)
 (tss_cons (ts_for hx PassesOwn.never (ti_var hx (pe_var (i := 5) rfl (.inl rfl)) (by decide)) (tg_name hx.nd rfl (.inl rfl) (by decide))
 (tss_one (ts_for hx PassesOwn.never (ti_new hx (px_callF c_all_takings (hr.mono (by decide)) rfl (pa_consD (px_var (pe_var (i := 7) rfl (.inl rfl))) pa_nilD))) (tg_name hx.nd rfl (.inl rfl) (by decide))
 (tss_one (ts_if (pt_cmp cmp_gt (px_sub (px_ix hx (px_var (pe_var (i := 6) rfl (.inl rfl))) (px_callF c_taken (hr.mono (by decide)) rfl (pa_consD (px_var (pe_var (i := 7) rfl (.inl rfl))) (pa_consD (px_var (pe_var (i := 8) rfl (.inl rfl))) pa_nilD)))) (px_ix hx (px_var (pe_var (i := 6) rfl (.inl rfl))) (px_var (pe_var (i := 7) rfl (.inl rfl))))) (px_ix hx (px_var (pe_var (i := 2) rfl (.inl rfl))) (px_ix hx (px_var (pe_var (i := 8) rfl (.inl rfl))) px_int)))
 (tss_one (ts_ret px_bl))
 tss_nil)))))
 (tss_one (ts_ret px_bl))))))))))))
theorem fn_shows_price_paper {W : Wd} {mg : Str → Option Value} {base : Heap} {f : Addr} {fd : FuncData} (kt : Kit mg) (c_need_two : Fn W.P W.w W.K mg base W 7 "need_two" 2 g_need_two) (c_key_of : Fn W.P W.w W.K mg base W 5 "key_of" 1 g_key_of) (c_need_prices : Fn W.P W.w W.K mg base W 3 "need_prices" 2 g_need_prices) (c_least_rows : Fn W.P W.w W.K mg base W 5 "least_rows" 2 g_least_rows) (c_all_takings : Fn W.P W.w W.K mg base W 4 "all_takings" 1 g_all_takings) (c_taken : Fn W.P W.w W.K mg base W 1 "taken" 2 g_taken) {c P : Addr} (hP : P ∈ W.tabs) (tb : GxR.TabB base mg c P) (hcode : fd.code = .ref c) (F : FnP W.K "shows_price_paper" 46 f fd) (gm : mg "shows_price_paper" = some (.ref f)) : Fn W.P W.w W.K mg base W 8 "shows_price_paper" 4 g_shows_price_paper :=
  fn_of_data F gm (ok_shows_price_paper kt c_need_two c_key_of c_need_prices c_least_rows c_all_takings c_taken hP tb hcode F) (F.bindsN fun _ _ _ _ _ _ us hl => match us, hl with | [_, _, _, _], _ => rfl)
end Sl
end S_Sm3
noncomputable section S_Sm4
set_option Elab.async false
set_option linter.all false
set_option maxRecDepth 100000
set_option maxHeartbeats 1000000
namespace Sl
open PySem PySem.Spec PyProof.Rows L2
def g__law_taken : List D → M D
  | [.row, .int n] => if 0 < n ∧ n < 1073741824 then .draw n.toNat (fun i => .ret (.int (i : Int))) else .fail
  | _ => .fail
/-! ### _law_pick -/
abbrev N__law_pick : List Str := ["_law_row", "_law_things"]
abbrev ps__law_pick : List Str := ["_law_row", "_law_things"]
def F__law_pick : Sv := (sRet (eImm (eIx (eVar 1) (eCall (kFn 2 g__law_taken) (lCons (eVar 0) (lCons (eCall kLen (lCons (eVar 1) lNil)) lNil))))))
def g__law_pick : List D → M D := gOf N__law_pick F__law_pick
theorem sc__law_pick : FnScope N__law_pick ps__law_pick (defScope (top 49)) := ⟨rfl, rfl, rfl, by decide +kernel, rfl, by decide +kernel, by decide +kernel⟩
theorem ok__law_pick {W : Wd} {mg : Str → Option Value} {base : Heap} {f : Addr} {fd : FuncData} (kt : Kit mg) (c__law_taken : Fn W.P W.w W.K mg base W 1 "_law_taken" 2 g__law_taken) (F : FnP W.K "_law_pick" 49 f fd) :
    FnOk W.P W.w W.K mg base CX0 2 f fd ps__law_pick (spOf ps__law_pick.length W g__law_pick) := by
  refine fn_data (k := 1) (ms := []) (Fv := F__law_pick) F sc__law_pick (by decide) fun cdv A outer s H E hcd hr => ?_
  have hx := fit_of (W := W) (mg := mg) (base := base) (N := N__law_pick) (outer := outer) (E := E) (H := H) sc__law_pick.nd hr
  exact (tss_one (ts_ret (px_imm (px_ix hx (px_var (pe_var (i := 1) rfl (.inl rfl))) (px_callF c__law_taken (hr.mono (by decide)) rfl (pa_consD (px_var (pe_var (i := 0) rfl (.inl rfl))) (pa_consD (px_any (px_callB call_len rfl kt.n_len (by decide +kernel) (pa_consD (px_var (pe_var (i := 1) rfl (.inl rfl))) pa_nilD))) pa_nilD)))))))
theorem fn__law_pick {W : Wd} {mg : Str → Option Value} {base : Heap} {f : Addr} {fd : FuncData} (kt : Kit mg) (c__law_taken : Fn W.P W.w W.K mg base W 1 "_law_taken" 2 g__law_taken) (F : FnP W.K "_law_pick" 49 f fd) (gm : mg "_law_pick" = some (.ref f)) : Fn W.P W.w W.K mg base W 2 "_law_pick" 2 g__law_pick :=
  fn_of_data F gm (ok__law_pick kt c__law_taken F) (F.bindsN fun _ _ _ _ _ _ us hl => match us, hl with | [_, _], _ => rfl)
/-! ### _law_near -/
abbrev N__law_near : List Str := ["_law_arms", "_law_length", "_law_cell", "_law_found", "_law_arm", "_law_step", "_law_here", "_law_inner"]
abbrev ps__law_near : List Str := ["_law_arms", "_law_length", "_law_cell"]
def F__law_near : Sv := (sSeq (sSet 3 (eLst lNil))
 (sSeq (sFor (gVar 4) (lRange (lCons (eVar 0) lNil))
 (sFor (gVar 5) (lRange (lCons (eVar 1) lNil))
 (sSeq (sSet 6 (eAddF (eAddF (eC (.int 1)) (eMul (eVar 4) (eVar 1))) (eVar 5)))
 (sSeq (sSet 7 (eIf (bCmp kEq (eVar 5) (eC (.int 0))) (eC (.int 0)) (eSub (eVar 6) (eC (.int 1)))))
 (sSeq (sIf (bCmp kEq (eVar 2) (eVar 7))
 (sApp 3 (eVar 6))
 sNx)
 (sIf (bCmp kEq (eVar 2) (eVar 6))
 (sApp 3 (eVar 7))
 sNx))))))
 (sRet (eCall kSorted (lCons (eVar 3) lNil)))))
def g__law_near : List D → M D := gOf N__law_near F__law_near
theorem sc__law_near : FnScope N__law_near ps__law_near (defScope (top 51)) := ⟨rfl, rfl, rfl, by decide +kernel, rfl, by decide +kernel, by decide +kernel⟩
theorem ok__law_near {W : Wd} {mg : Str → Option Value} {base : Heap} {f : Addr} {fd : FuncData} (kt : Kit mg) (F : FnP W.K "_law_near" 51 f fd) :
    FnOk W.P W.w W.K mg base CX0 1 f fd ps__law_near (spOf ps__law_near.length W g__law_near) := by
  refine fn_data (k := 0) (ms := [3]) (Fv := F__law_near) F sc__law_near (by decide) fun cdv A outer s H E hcd hr => ?_
  have hx := fit_of (W := W) (mg := mg) (base := base) (N := N__law_near) (outer := outer) (E := E) (H := H) sc__law_near.nd hr
  exact (tss_cons (ts_set hx.nd (i := 3) rfl (.inl rfl) (px_lst (fr := true) pa_nilD) (.inr rfl))
 (tss_cons (ts_for hx PassesOwn.never (ti_range rfl kt.n_range (pa_consD (px_var (pe_var (i := 0) rfl (.inl rfl))) pa_nilD)) (tg_name hx.nd rfl (.inl rfl) (by decide))
 (tss_one (ts_for hx PassesOwn.never (ti_range rfl kt.n_range (pa_consD (px_var (pe_var (i := 1) rfl (.inl rfl))) pa_nilD)) (tg_name hx.nd rfl (.inl rfl) (by decide))
 (tss_cons (ts_set hx.nd (i := 6) rfl (.inl rfl) (px_addF (px_addF px_int (px_mul (px_var (pe_var (i := 4) rfl (.inl rfl))) (px_var (pe_var (i := 1) rfl (.inl rfl))))) (px_var (pe_var (i := 5) rfl (.inl rfl)))) (.inr rfl))
 (tss_cons (ts_set hx.nd (i := 7) rfl (.inl rfl) (px_if (pt_cmp (cmp_eq hx) (px_var (pe_var (i := 5) rfl (.inl rfl))) px_int) px_int (px_sub (px_var (pe_var (i := 6) rfl (.inl rfl))) px_int)) (.inr rfl))
 (tss_cons (ts_if (pt_cmp (cmp_eq hx) (px_var (pe_var (i := 2) rfl (.inl rfl))) (px_var (pe_var (i := 7) rfl (.inl rfl))))
 (tss_one (ts_app hx.K (pe_var (i := 3) rfl (.inl rfl)) (by decide) (px_var (pe_var (i := 6) rfl (.inl rfl)))))
 tss_nil)
 (tss_one (ts_if (pt_cmp (cmp_eq hx) (px_var (pe_var (i := 2) rfl (.inl rfl))) (px_var (pe_var (i := 6) rfl (.inl rfl))))
 (tss_one (ts_app hx.K (pe_var (i := 3) rfl (.inl rfl)) (by decide) (px_var (pe_var (i := 7) rfl (.inl rfl)))))
 tss_nil))))))))
 (tss_one (ts_ret (px_callB (call_sorted hx) rfl kt.n_sorted (by decide +kernel) (pa_consD (px_var (pe_var (i := 3) rfl (.inl rfl))) pa_nilD))))))
theorem fn__law_near {W : Wd} {mg : Str → Option Value} {base : Heap} {f : Addr} {fd : FuncData} (kt : Kit mg) (F : FnP W.K "_law_near" 51 f fd) (gm : mg "_law_near" = some (.ref f)) : Fn W.P W.w W.K mg base W 1 "_law_near" 3 g__law_near :=
  fn_of_data F gm (ok__law_near kt  F) (F.bindsN fun _ _ _ _ _ _ us hl => match us, hl with | [_, _, _], _ => rfl)
/-! ### _law_hangs -/
abbrev N__law_hangs : List Str := ["_law_arms", "_law_length", "_law_some", "_law_seen", "_law_walk_here", "_law_more", "_law_cell", "_law_one"]
abbrev ps__law_hangs : List Str := ["_law_arms", "_law_length", "_law_some"]
def F__law_hangs : Sv := (sSeq (sTgt0 (gTup2 3 4) (eTup (lCons (eCut (eVar 2) oNone (oSome (eC (.int 1)))) (lCons (eCut (eVar 2) oNone (oSome (eC (.int 1)))) lNil))))
 (sSeq (sWhile (fun _ => 40) (bCmp kNe (eVar 4) (eLst lNil))
 (sSeq (sSet 5 (eLst lNil))
 (sSeq (sFor (gVar 6) (lVar 4)
 (sSet 5 (eAddF (eVar 5) (eLc [7] (lNew (eCall (kFn 3 g__law_near) (lCons (eVar 0) (lCons (eVar 1) (lCons (eVar 6) lNil))))) (gVar 7) (bAnd (bCmp kIn (eVar 7) (eVar 2)) (bAnd (bCmp kNotIn (eVar 7) (eVar 3)) (bCmp kNotIn (eVar 7) (eVar 5)))) (eVar 7)))))
 (sTgt0 (gTup2 3 4) (eTup (lCons (eAddF (eVar 3) (eVar 5)) (lCons (eVar 5) lNil)))))))
 (sRet (eAnd (eCmp kNe (eVar 2) (eLst lNil)) (eCmp kEq (eCall kLen (lCons (eVar 3) lNil)) (eCall kLen (lCons (eVar 2) lNil)))))))
def g__law_hangs : List D → M D := gOf N__law_hangs F__law_hangs
theorem sc__law_hangs : FnScope N__law_hangs ps__law_hangs (defScope (top 52)) := ⟨rfl, rfl, rfl, by decide +kernel, rfl, by decide +kernel, by decide +kernel⟩
theorem ok__law_hangs {W : Wd} {mg : Str → Option Value} {base : Heap} {f : Addr} {fd : FuncData} (kt : Kit mg) (c__law_near : Fn W.P W.w W.K mg base W 1 "_law_near" 3 g__law_near) (F : FnP W.K "_law_hangs" 52 f fd) :
    FnOk W.P W.w W.K mg base CX0 2 f fd ps__law_hangs (spOf ps__law_hangs.length W g__law_hangs) := by
  refine fn_data (k := 1) (ms := []) (Fv := F__law_hangs) F sc__law_hangs (by decide) fun cdv A outer s H E hcd hr => ?_
  have hx := fit_of (W := W) (mg := mg) (base := base) (N := N__law_hangs) (outer := outer) (E := E) (H := H) sc__law_hangs.nd hr
  exact (tss_cons (ts_tgt0 (tg_tup2 hx rfl rfl (.inr rfl) (.inl rfl) (by decide) (by decide)) (px_tup (pa_consD (px_cut po_noneD (po_someD px_int) hx.K (px_var (pe_var (i := 2) rfl (.inr (.inl rfl))))) (pa_consD (px_cut po_noneD (po_someD px_int) hx.K (px_var (pe_var (i := 2) rfl (.inr (.inl rfl))))) pa_nilD))))
 (tss_cons (ts_while (fun _ => 40) PassesOwn.never (pt_cmp (cmp_ne hx) (px_var (pe_var (i := 4) rfl (.inl rfl))) (px_lst (fr := true) pa_nilD))
 (tss_cons (ts_set hx.nd (i := 5) rfl (.inr rfl) (px_lst (fr := true) pa_nilD) (.inl rfl))
 (tss_cons (ts_for hx PassesOwn.never (ti_var hx (pe_var (i := 4) rfl (.inl rfl)) (by decide)) (tg_name hx.nd rfl (.inl rfl) (by decide))
 (tss_one (ts_set hx.nd (i := 5) rfl (.inr rfl) (px_addF (px_var (pe_var (i := 5) rfl (.inr (.inl rfl)))) (px_lc (own := [("_law_one", 7)]) hx (ti_new hx (px_callF c__law_near (hr.mono (by decide)) rfl (pa_consD (px_var (pe_var (i := 0) rfl (.inl rfl))) (pa_consD (px_var (pe_var (i := 1) rfl (.inl rfl))) (pa_consD (px_var (pe_var (i := 6) rfl (.inl rfl))) pa_nilD))))) (blk_ok (by kernel_rfl)) (fun _ _ _ _ _ => (tg_name hx.nd rfl (.inl rfl) (by decide))) (fun _ _ _ _ _ => (pts_oneD (PW.pt (ptw_and (pt_cmp (cmp_in (Fit.blk hx)) (px_var (pe_var (i := 7) rfl (.inl rfl))) (px_var (pe_var (i := 2) rfl (.inr (.inl rfl))))) (ptw_and (pt_cmp (cmp_notin (Fit.blk hx)) (px_var (pe_var (i := 7) rfl (.inl rfl))) (px_var (pe_var (i := 3) rfl (.inr (.inl rfl))))) (ptw_and1 (pt_cmp (cmp_notin (Fit.blk hx)) (px_var (pe_var (i := 7) rfl (.inl rfl))) (px_var (pe_var (i := 5) rfl (.inr (.inl rfl))))))))))) (fun _ _ _ _ _ => (px_var (pe_var (i := 7) rfl (.inl rfl)))))) (.inl rfl))))
 (tss_one (ts_tgt0 (tg_tup2 hx rfl rfl (.inr rfl) (.inl rfl) (by decide) (by decide)) (px_tup (pa_consD (px_any (px_addF (px_var (pe_var (i := 3) rfl (.inr (.inl rfl)))) (px_var (pe_var (i := 5) rfl (.inr (.inl rfl)))))) (pa_consD (px_var (pe_var (i := 5) rfl (.inr (.inl rfl)))) pa_nilD))))))))
 (tss_one (ts_ret (px_and (px_cmp (cmp_ne hx) (px_var (pe_var (i := 2) rfl (.inr (.inl rfl)))) (px_lst (fr := true) pa_nilD)) (px_one (px_cmp (cmp_eq hx) (px_callB call_len rfl kt.n_len (by decide +kernel) (pa_consD (px_var (pe_var (i := 3) rfl (.inr (.inl rfl)))) pa_nilD)) (px_callB call_len rfl kt.n_len (by decide +kernel) (pa_consD (px_var (pe_var (i := 2) rfl (.inr (.inl rfl)))) pa_nilD)))))))))
theorem fn__law_hangs {W : Wd} {mg : Str → Option Value} {base : Heap} {f : Addr} {fd : FuncData} (kt : Kit mg) (c__law_near : Fn W.P W.w W.K mg base W 1 "_law_near" 3 g__law_near) (F : FnP W.K "_law_hangs" 52 f fd) (gm : mg "_law_hangs" = some (.ref f)) : Fn W.P W.w W.K mg base W 2 "_law_hangs" 3 g__law_hangs :=
  fn_of_data F gm (ok__law_hangs kt c__law_near F) (F.bindsN fun _ _ _ _ _ _ us hl => match us, hl with | [_, _, _], _ => rfl)
/-! ### _law_map -/
abbrev N__law_map : List Str := ["_law_row", "_law_arms", "_law_length", "_law_lands", "_law_left", "_law_cuts", "_law_arm", "_law_step", "_law_turn", "_law_one", "_law_names", "_law_order", "_law_cells", "_law_used", "_law_land", "_law_pair", "_law_k"]
abbrev ps__law_map : List Str := ["_law_row", "_law_arms", "_law_length", "_law_lands"]
def F__law_map : Sv := (sSeq (sPar 4 5 (eLst lNil) (eLst lNil))
 (sSeq (sFor (gVar 6) (lRange (lCons (eVar 1) lNil))
 (sSet 4 (eAddF (eVar 4) (eLc [7] (lRange (lCons (eVar 2) lNil)) (gVar 7) bYes (eTup (lCons (eVar 6) (lCons (eVar 7) lNil)))))))
 (sSeq (sFor (gVar 8) (lRange (lCons (eSub (eVar 3) (eC (.int 1))) lNil))
 (sSeq (sSet 9 (eCall (kFn 2 g__law_pick) (lCons (eVar 0) (lCons (eVar 4) lNil))))
 (sPar 5 4 (eAddF (eVar 5) (eLst (lCons (eVar 9) lNil))) (eLc [15] (lVar 4) (gVar 15) (bCmp kNe (eVar 15) (eVar 9)) (eVar 15)))))
 (sSeq (sPar 10 11 (eListRg (eVar 3)) (eLst lNil))
 (sSeq (sFor (gVar 8) (lRange (lCons (eVar 3) lNil))
 (sSeq (sSet 9 (eCall (kFn 2 g__law_pick) (lCons (eVar 0) (lCons (eVar 10) lNil))))
 (sPar 11 10 (eAddF (eVar 11) (eLst (lCons (eVar 9) lNil))) (eLc [16] (lVar 10) (gVar 16) (bCmp kNe (eVar 16) (eVar 9)) (eVar 16)))))
 (sSeq (sPar 12 13 (eLst (lCons (eImm (eIx (eVar 11) (eC (.int 0)))) lNil)) (eC (.int 1)))
 (sSeq (sFor (gVar 6) (lRange (lCons (eVar 1) lNil))
 (sSeq (sSet 14 (eImm (eIx (eVar 11) (eC (.int 0)))))
 (sFor (gVar 7) (lRange (lCons (eVar 2) lNil))
 (sSeq (sIf (bCmp kIn (eTup (lCons (eVar 6) (lCons (eVar 7) lNil))) (eVar 5))
 (sPar 14 13 (eImm (eIx (eVar 11) (eVar 13))) (eAddF (eVar 13) (eC (.int 1))))
 sNx)
 (sApp 12 (eVar 14))))))
 (sRet (eTup (lCons (eImm (eVar 1)) (lCons (eCall kTuple (lCons (eVar 12) lNil)) lNil)))))))))))
def g__law_map : List D → M D := gOf N__law_map F__law_map
theorem sc__law_map : FnScope N__law_map ps__law_map (defScope (top 53)) := ⟨rfl, rfl, rfl, by decide +kernel, rfl, by decide +kernel, by decide +kernel⟩
theorem ok__law_map {W : Wd} {mg : Str → Option Value} {base : Heap} {f : Addr} {fd : FuncData} (kt : Kit mg) (c__law_pick : Fn W.P W.w W.K mg base W 2 "_law_pick" 2 g__law_pick) (F : FnP W.K "_law_map" 53 f fd) :
    FnOk W.P W.w W.K mg base CX0 3 f fd ps__law_map (spOf ps__law_map.length W g__law_map) := by
  refine fn_data (k := 2) (ms := [12]) (Fv := F__law_map) F sc__law_map (by decide) fun cdv A outer s H E hcd hr => ?_
  have hx := fit_of (W := W) (mg := mg) (base := base) (N := N__law_map) (outer := outer) (E := E) (H := H) sc__law_map.nd hr
  exact (tss_cons (ts_par hx.calm hx.nd (i := 4) (j := 5) rfl rfl (by decide) rfl rfl (px_lst (fr := true) pa_nilD) (px_lst (fr := true) pa_nilD) (.inr rfl) (.inr rfl) rfl)
 (tss_cons (ts_for hx PassesOwn.never (ti_range rfl kt.n_range (pa_consD (px_var (pe_var (i := 1) rfl (.inl rfl))) pa_nilD)) (tg_name hx.nd rfl (.inr rfl) (by decide))
 (tss_one (ts_set hx.nd (i := 4) rfl (.inl rfl) (px_addF (px_var (pe_var (i := 4) rfl (.inl rfl))) (px_lc (own := [("_law_step", 7)]) hx (ti_range rfl kt.n_range (pa_consD (px_var (pe_var (i := 2) rfl (.inl rfl))) pa_nilD)) (blk_ok (by kernel_rfl)) (fun _ _ _ _ _ => (tg_name hx.nd rfl (.inl rfl) (by decide))) (fun _ _ _ _ _ => pts_nilD) (fun _ _ _ _ _ => (px_tup (pa_consD (px_var (pe_var (i := 6) rfl (.inr (.inl rfl)))) (pa_consD (px_var (pe_var (i := 7) rfl (.inl rfl))) pa_nilD)))))) (.inr rfl))))
 (tss_cons (ts_for hx PassesOwn.never (ti_range rfl kt.n_range (pa_consD (px_any (px_sub (px_var (pe_var (i := 3) rfl (.inl rfl))) px_int)) pa_nilD)) (tg_name hx.nd rfl (.inl rfl) (by decide))
 (tss_cons (ts_set hx.nd (i := 9) rfl (.inr rfl) (px_callF c__law_pick (hr.mono (by decide)) rfl (pa_consD (px_var (pe_var (i := 0) rfl (.inl rfl))) (pa_consD (px_var (pe_var (i := 4) rfl (.inl rfl))) pa_nilD))) (.inr rfl))
 (tss_one (ts_par hx.calm hx.nd (i := 5) (j := 4) rfl rfl (by decide) rfl rfl (px_addF (px_var (pe_var (i := 5) rfl (.inl rfl))) (px_lst (pa_consD (px_var (pe_var (i := 9) rfl (.inr (.inl rfl)))) pa_nilD))) (px_lc (own := [("_law_pair", 15)]) hx (ti_var hx (pe_var (i := 4) rfl (.inl rfl)) (by decide)) (blk_ok (by kernel_rfl)) (fun _ _ _ _ _ => (tg_name hx.nd rfl (.inl rfl) (by decide))) (fun _ _ _ _ _ => (pts_oneD (pt_cmp (cmp_ne (Fit.blk hx)) (px_var (pe_var (i := 15) rfl (.inl rfl))) (px_var (pe_var (i := 9) rfl (.inr (.inl rfl))))))) (fun _ _ _ _ _ => (px_var (pe_var (i := 15) rfl (.inl rfl))))) (.inr rfl) (.inr rfl) rfl))))
 (tss_cons (ts_par hx.calm hx.nd (i := 10) (j := 11) rfl rfl (by decide) rfl rfl (px_listRg hx rfl kt.n_list rfl kt.n_range (px_var (pe_var (i := 3) rfl (.inl rfl)))) (px_lst (fr := true) pa_nilD) (.inr rfl) (.inr rfl) rfl)
 (tss_cons (ts_for hx PassesOwn.never (ti_range rfl kt.n_range (pa_consD (px_var (pe_var (i := 3) rfl (.inl rfl))) pa_nilD)) (tg_name hx.nd rfl (.inl rfl) (by decide))
 (tss_cons (ts_set hx.nd (i := 9) rfl (.inr rfl) (px_callF c__law_pick (hr.mono (by decide)) rfl (pa_consD (px_var (pe_var (i := 0) rfl (.inl rfl))) (pa_consD (px_var (pe_var (i := 10) rfl (.inl rfl))) pa_nilD))) (.inr rfl))
 (tss_one (ts_par hx.calm hx.nd (i := 11) (j := 10) rfl rfl (by decide) rfl rfl (px_addF (px_var (pe_var (i := 11) rfl (.inl rfl))) (px_lst (pa_consD (px_var (pe_var (i := 9) rfl (.inr (.inl rfl)))) pa_nilD))) (px_lc (own := [("_law_k", 16)]) hx (ti_var hx (pe_var (i := 10) rfl (.inl rfl)) (by decide)) (blk_ok (by kernel_rfl)) (fun _ _ _ _ _ => (tg_name hx.nd rfl (.inl rfl) (by decide))) (fun _ _ _ _ _ => (pts_oneD (pt_cmp (cmp_ne (Fit.blk hx)) (px_var (pe_var (i := 16) rfl (.inl rfl))) (px_var (pe_var (i := 9) rfl (.inr (.inl rfl))))))) (fun _ _ _ _ _ => (px_var (pe_var (i := 16) rfl (.inl rfl))))) (.inr rfl) (.inr rfl) rfl))))
 (tss_cons (ts_par hx.calm hx.nd (i := 12) (j := 13) rfl rfl (by decide) rfl rfl (px_lst (pa_consD (px_imm (px_ix hx (px_var (pe_var (i := 11) rfl (.inl rfl))) px_int)) pa_nilD)) px_int (.inr rfl) (.inr rfl) rfl)
 (tss_cons (ts_for hx PassesOwn.never (ti_range rfl kt.n_range (pa_consD (px_var (pe_var (i := 1) rfl (.inl rfl))) pa_nilD)) (tg_name hx.nd rfl (.inr rfl) (by decide))
 (tss_cons (ts_set hx.nd (i := 14) rfl (.inl rfl) (px_imm (px_ix hx (px_var (pe_var (i := 11) rfl (.inl rfl))) px_int)) (.inr rfl))
 (tss_one (ts_for hx PassesOwn.never (ti_range rfl kt.n_range (pa_consD (px_var (pe_var (i := 2) rfl (.inl rfl))) pa_nilD)) (tg_name hx.nd rfl (.inl rfl) (by decide))
 (tss_cons (ts_if (pt_cmp (cmp_in hx) (px_tup (pa_consD (px_var (pe_var (i := 6) rfl (.inr (.inl rfl)))) (pa_consD (px_var (pe_var (i := 7) rfl (.inl rfl))) pa_nilD))) (px_var (pe_var (i := 5) rfl (.inl rfl))))
 (tss_one (ts_par hx.calm hx.nd (i := 14) (j := 13) rfl rfl (by decide) rfl rfl (px_imm (px_ix hx (px_var (pe_var (i := 11) rfl (.inl rfl))) (px_var (pe_var (i := 13) rfl (.inl rfl))))) (px_addF (px_var (pe_var (i := 13) rfl (.inl rfl))) px_int) (.inr rfl) (.inr rfl) rfl))
 tss_nil)
 (tss_one (ts_app hx.K (pe_var (i := 12) rfl (.inl rfl)) (by decide) (px_var (pe_var (i := 14) rfl (.inl rfl))))))))))
 (tss_one (ts_ret (px_tup (pa_consD (px_imm (px_var (pe_var (i := 1) rfl (.inl rfl)))) (pa_consD (px_callT call_tuple rfl kt.n_tuple (by decide +kernel) (pa_consD (px_var (pe_var (i := 12) rfl (.inl rfl))) pa_nilD)) pa_nilD))))))))))))
theorem fn__law_map {W : Wd} {mg : Str → Option Value} {base : Heap} {f : Addr} {fd : FuncData} (kt : Kit mg) (c__law_pick : Fn W.P W.w W.K mg base W 2 "_law_pick" 2 g__law_pick) (F : FnP W.K "_law_map" 53 f fd) (gm : mg "_law_map" = some (.ref f)) : Fn W.P W.w W.K mg base W 3 "_law_map" 4 g__law_map :=
  fn_of_data F gm (ok__law_map kt c__law_pick F) (F.bindsN fun _ _ _ _ _ _ us hl => match us, hl with | [_, _, _, _], _ => rfl)
/-! ### _law_takings -/
abbrev N__law_takings : List Str := ["_law_chart", "_law_arms", "_law_cells", "_law_length", "_law_found", "_law_land", "_law_cell", "_law_other", "_law_rest", "_law_one"]
abbrev ps__law_takings : List Str := ["_law_chart"]
def F__law_takings : Sv := (sSeq (sTgt0 (gTup2 1 2) (eImm (eVar 0)))
 (sSeq (sPar 3 4 (eDiv (eSub (eCall kLen (lCons (eVar 2) lNil)) (eC (.int 1))) (eVar 1)) (eLst lNil))
 (sSeq (sFor (gVar 5) (lRange (lCons (eAddF (eCall kMax (lCons (eVar 2) lNil)) (eC (.int 1))) lNil))
 (sFor (gVar 6) (lRange (lCons (eCall kLen (lCons (eVar 2) lNil)) lNil))
 (sSeq (sSet 7 (eImm (eIx (eVar 2) (eVar 6))))
 (sIf (bAnd (bCmp kNe (eVar 7) (eVar 5)) (bCmp kNe (eLc [9] (lNew (eCall (kFn 3 g__law_near) (lCons (eVar 1) (lCons (eVar 3) (lCons (eVar 6) lNil))))) (gVar 9) (bCmp kEq (eIx (eVar 2) (eVar 9)) (eVar 5)) (eVar 9)) (eLst lNil)))
 (sSeq (sSet 8 (eLc [9] (lRange (lCons (eCall kLen (lCons (eVar 2) lNil)) lNil)) (gVar 9) (bAnd (bCmp kEq (eIx (eVar 2) (eVar 9)) (eVar 7)) (bCmp kNe (eVar 9) (eVar 6))) (eVar 9)))
 (sIf (bAnd (bCmp kNe (eVar 8) (eLst lNil)) (bTru (eCall (kFn 3 g__law_hangs) (lCons (eVar 1) (lCons (eVar 3) (lCons (eVar 8) lNil))))))
 (sApp 4 (eTup (lCons (eVar 5) (lCons (eVar 6) lNil))))
 sNx))
 sNx))))
 (sRet (eVar 4)))))
def g__law_takings : List D → M D := gOf N__law_takings F__law_takings
theorem sc__law_takings : FnScope N__law_takings ps__law_takings (defScope (top 54)) := ⟨rfl, rfl, rfl, by decide +kernel, rfl, by decide +kernel, by decide +kernel⟩
theorem ok__law_takings {W : Wd} {mg : Str → Option Value} {base : Heap} {f : Addr} {fd : FuncData} (kt : Kit mg) (c__law_near : Fn W.P W.w W.K mg base W 1 "_law_near" 3 g__law_near) (c__law_hangs : Fn W.P W.w W.K mg base W 2 "_law_hangs" 3 g__law_hangs) (F : FnP W.K "_law_takings" 54 f fd) :
    FnOk W.P W.w W.K mg base CX0 3 f fd ps__law_takings (spOf ps__law_takings.length W g__law_takings) := by
  refine fn_data (k := 2) (ms := [4]) (Fv := F__law_takings) F sc__law_takings (by decide) fun cdv A outer s H E hcd hr => ?_
  have hx := fit_of (W := W) (mg := mg) (base := base) (N := N__law_takings) (outer := outer) (E := E) (H := H) sc__law_takings.nd hr
  exact (tss_cons (ts_tgtF (tg_tup2 hx rfl rfl (.inl rfl) (.inr rfl) (by decide) (by decide)) (px_imm (px_var (pe_var (i := 0) rfl (.inl rfl)))))
 (tss_cons (ts_par hx.calm hx.nd (i := 3) (j := 4) rfl rfl (by decide) rfl rfl (px_div (px_sub (px_callB call_len rfl kt.n_len (by decide +kernel) (pa_consD (px_var (pe_var (i := 2) rfl (.inr (.inl rfl)))) pa_nilD)) px_int) (px_var (pe_var (i := 1) rfl (.inl rfl)))) (px_lst (fr := true) pa_nilD) (.inr rfl) (.inr rfl) rfl)
 (tss_cons (ts_for hx PassesOwn.never (ti_range rfl kt.n_range (pa_consD (px_any (px_addF (px_callB (call_max hx) rfl kt.n_max (by decide +kernel) (pa_consD (px_var (pe_var (i := 2) rfl (.inr (.inl rfl)))) pa_nilD)) px_int)) pa_nilD)) (tg_name hx.nd rfl (.inr rfl) (by decide))
 (tss_one (ts_for hx PassesOwn.never (ti_range rfl kt.n_range (pa_consD (px_any (px_callB call_len rfl kt.n_len (by decide +kernel) (pa_consD (px_var (pe_var (i := 2) rfl (.inr (.inl rfl)))) pa_nilD))) pa_nilD)) (tg_name hx.nd rfl (.inr rfl) (by decide))
 (tss_cons (ts_set hx.nd (i := 7) rfl (.inr rfl) (px_imm (px_ix hx (px_var (pe_var (i := 2) rfl (.inr (.inl rfl)))) (px_var (pe_var (i := 6) rfl (.inr (.inl rfl)))))) (.inr rfl))
 (tss_one (ts_if (PW.pt (ptw_and (pt_cmp (cmp_ne hx) (px_var (pe_var (i := 7) rfl (.inr (.inl rfl)))) (px_var (pe_var (i := 5) rfl (.inr (.inl rfl))))) (ptw_and1 (pt_cmp (cmp_ne hx) (px_lc (own := [("_law_one", 9)]) hx (ti_new hx (px_callF c__law_near (hr.mono (by decide)) rfl (pa_consD (px_var (pe_var (i := 1) rfl (.inl rfl))) (pa_consD (px_var (pe_var (i := 3) rfl (.inl rfl))) (pa_consD (px_var (pe_var (i := 6) rfl (.inr (.inl rfl)))) pa_nilD))))) (blk_ok (by kernel_rfl)) (fun _ _ _ _ _ => (tg_name hx.nd rfl (.inl rfl) (by decide))) (fun _ _ _ _ _ => (pts_oneD (pt_cmp (cmp_eq (Fit.blk hx)) (px_ix (Fit.blk hx) (px_var (pe_var (i := 2) rfl (.inr (.inl rfl)))) (px_var (pe_var (i := 9) rfl (.inl rfl)))) (px_var (pe_var (i := 5) rfl (.inr (.inl rfl))))))) (fun _ _ _ _ _ => (px_var (pe_var (i := 9) rfl (.inl rfl))))) (px_lst (fr := true) pa_nilD)))))
 (tss_cons (ts_setLc (i := 8) (own := [("_law_one", 9)]) hx rfl rfl (ti_range rfl kt.n_range (pa_consD (px_any (px_callB call_len rfl kt.n_len (by decide +kernel) (pa_consD (px_var (pe_var (i := 2) rfl (.inr (.inl rfl)))) pa_nilD))) pa_nilD)) (blk_ok (by kernel_rfl)) (fun _ _ _ _ _ => (tg_name hx.nd rfl (.inl rfl) (by decide))) (fun _ _ _ _ _ => (pts_oneD (PW.pt (ptw_and (pt_cmp (cmp_eq (Fit.blk hx)) (px_ix (Fit.blk hx) (px_var (pe_var (i := 2) rfl (.inr (.inl rfl)))) (px_var (pe_var (i := 9) rfl (.inl rfl)))) (px_var (pe_var (i := 7) rfl (.inr (.inl rfl))))) (ptw_and1 (pt_cmp (cmp_ne (Fit.blk hx)) (px_var (pe_var (i := 9) rfl (.inl rfl))) (px_var (pe_var (i := 6) rfl (.inr (.inl rfl)))))))))) (fun _ _ _ _ _ => (px_var (pe_var (i := 9) rfl (.inl rfl)))))
 (tss_one (ts_if (PW.pt (ptw_and (pt_cmp (cmp_ne hx) (px_var (pe_var (i := 8) rfl (.inl rfl))) (px_lst (fr := true) pa_nilD)) (ptw_and1 (pt_tru hx.K (px_callF c__law_hangs (hr.mono (by decide)) rfl (pa_consD (px_var (pe_var (i := 1) rfl (.inl rfl))) (pa_consD (px_var (pe_var (i := 3) rfl (.inl rfl))) (pa_consD (px_var (pe_var (i := 8) rfl (.inl rfl))) pa_nilD))))))))
 (tss_one (ts_app hx.K (pe_var (i := 4) rfl (.inl rfl)) (by decide) (px_tup (pa_consD (px_var (pe_var (i := 5) rfl (.inr (.inl rfl)))) (pa_consD (px_var (pe_var (i := 6) rfl (.inr (.inl rfl)))) pa_nilD)))))
 tss_nil)))
 tss_nil))))))
 (tss_one (ts_retv (pe_var (i := 4) rfl (.inl rfl)) (by decide))))))
theorem fn__law_takings {W : Wd} {mg : Str → Option Value} {base : Heap} {f : Addr} {fd : FuncData} (kt : Kit mg) (c__law_near : Fn W.P W.w W.K mg base W 1 "_law_near" 3 g__law_near) (c__law_hangs : Fn W.P W.w W.K mg base W 2 "_law_hangs" 3 g__law_hangs) (F : FnP W.K "_law_takings" 54 f fd) (gm : mg "_law_takings" = some (.ref f)) : Fn W.P W.w W.K mg base W 3 "_law_takings" 1 g__law_takings :=
  fn_of_data F gm (ok__law_takings kt c__law_near c__law_hangs F) (F.bindsN fun _ _ _ _ _ _ us hl => match us, hl with | [_], _ => rfl)
/-! ### _law_behind -/
abbrev N__law_behind : List Str := ["_law_chart", "_law_taking", "_law_land", "_law_cell"]
abbrev ps__law_behind : List Str := ["_law_chart", "_law_taking"]
def F__law_behind : Sv := (sSeq (sTgt0 (gTup2 2 3) (eVar 1))
 (sRet (eTup (lCons (eImm (eIx (eVar 0) (eC (.int 0)))) (lCons (eAddF (eAddF (eCut (eIx (eVar 0) (eC (.int 1))) oNone (oSome (eVar 3))) (eTup (lCons (eVar 2) lNil))) (eCut (eIx (eVar 0) (eC (.int 1))) (oSome (eAddF (eVar 3) (eC (.int 1)))) oNone)) lNil)))))
def g__law_behind : List D → M D := gOf N__law_behind F__law_behind
theorem sc__law_behind : FnScope N__law_behind ps__law_behind (defScope (top 55)) := ⟨rfl, rfl, rfl, by decide +kernel, rfl, by decide +kernel, by decide +kernel⟩
theorem ok__law_behind {W : Wd} {mg : Str → Option Value} {base : Heap} {f : Addr} {fd : FuncData} (kt : Kit mg) (F : FnP W.K "_law_behind" 55 f fd) :
    FnOk W.P W.w W.K mg base CX0 1 f fd ps__law_behind (spOf ps__law_behind.length W g__law_behind) := by
  refine fn_data (k := 0) (ms := []) (Fv := F__law_behind) F sc__law_behind (by decide) fun cdv A outer s H E hcd hr => ?_
  have hx := fit_of (W := W) (mg := mg) (base := base) (N := N__law_behind) (outer := outer) (E := E) (H := H) sc__law_behind.nd hr
  exact (tss_cons (ts_tgt0 (tg_tup2 hx rfl rfl (.inl rfl) (.inl rfl) (by decide) (by decide)) (px_var (pe_var (i := 1) rfl (.inl rfl))))
 (tss_one (ts_ret (px_tup (pa_consD (px_imm (px_ix hx (px_var (pe_var (i := 0) rfl (.inl rfl))) px_int)) (pa_consD (px_addF (px_addF (px_cut po_noneD (po_someD (px_var (pe_var (i := 3) rfl (.inl rfl)))) hx.K (px_ix hx (px_var (pe_var (i := 0) rfl (.inl rfl))) px_int)) (px_tup (pa_consD (px_var (pe_var (i := 2) rfl (.inl rfl))) pa_nilD))) (px_cut (po_someD (px_addF (px_var (pe_var (i := 3) rfl (.inl rfl))) px_int)) po_noneD hx.K (px_ix hx (px_var (pe_var (i := 0) rfl (.inl rfl))) px_int))) pa_nilD))))))
theorem fn__law_behind {W : Wd} {mg : Str → Option Value} {base : Heap} {f : Addr} {fd : FuncData} (kt : Kit mg) (F : FnP W.K "_law_behind" 55 f fd) (gm : mg "_law_behind" = some (.ref f)) : Fn W.P W.w W.K mg base W 1 "_law_behind" 2 g__law_behind :=
  fn_of_data F gm (ok__law_behind kt  F) (F.bindsN fun _ _ _ _ _ _ us hl => match us, hl with | [_, _], _ => rfl)
/-! ### _law_walk -/
abbrev N__law_walk : List Str := ["_law_row", "_law_chart", "_law_many", "_law_steps", "_law_turn", "_law_some"]
abbrev ps__law_walk : List Str := ["_law_row", "_law_chart", "_law_many"]
def F__law_walk : Sv := (sSeq (sSet 3 (eLst lNil))
 (sSeq (sFor (gVar 4) (lRange (lCons (eVar 2) lNil))
 (sSeq (sSet 5 (eCall (kFn 1 g__law_takings) (lCons (eVar 1) lNil)))
 (sIf (bCmp kNe (eVar 5) (eLst lNil))
 (sSeq (sApp 3 (eCall (kFn 2 g__law_pick) (lCons (eVar 0) (lCons (eVar 5) lNil))))
 (sSet 1 (eCall (kFn 2 g__law_behind) (lCons (eVar 1) (lCons (eIx (eVar 3) (eC (.int (-1)))) lNil)))))
 sNx)))
 (sRet (eTup (lCons (eCall kTuple (lCons (eVar 3) lNil)) (lCons (eImm (eVar 1)) lNil))))))
def g__law_walk : List D → M D := gOf N__law_walk F__law_walk
theorem sc__law_walk : FnScope N__law_walk ps__law_walk (defScope (top 57)) := ⟨rfl, rfl, rfl, by decide +kernel, rfl, by decide +kernel, by decide +kernel⟩
theorem ok__law_walk {W : Wd} {mg : Str → Option Value} {base : Heap} {f : Addr} {fd : FuncData} (kt : Kit mg) (c__law_takings : Fn W.P W.w W.K mg base W 3 "_law_takings" 1 g__law_takings) (c__law_pick : Fn W.P W.w W.K mg base W 2 "_law_pick" 2 g__law_pick) (c__law_behind : Fn W.P W.w W.K mg base W 1 "_law_behind" 2 g__law_behind) (F : FnP W.K "_law_walk" 57 f fd) :
    FnOk W.P W.w W.K mg base CX0 4 f fd ps__law_walk (spOf ps__law_walk.length W g__law_walk) := by
  refine fn_data (k := 3) (ms := [3]) (Fv := F__law_walk) F sc__law_walk (by decide) fun cdv A outer s H E hcd hr => ?_
  have hx := fit_of (W := W) (mg := mg) (base := base) (N := N__law_walk) (outer := outer) (E := E) (H := H) sc__law_walk.nd hr
  exact (tss_cons (ts_set hx.nd (i := 3) rfl (.inl rfl) (px_lst (fr := true) pa_nilD) (.inr rfl))
 (tss_cons (ts_for hx PassesOwn.never (ti_range rfl kt.n_range (pa_consD (px_var (pe_var (i := 2) rfl (.inl rfl))) pa_nilD)) (tg_name hx.nd rfl (.inl rfl) (by decide))
 (tss_cons (ts_set hx.nd (i := 5) rfl (.inl rfl) (px_callF c__law_takings (hr.mono (by decide)) rfl (pa_consD (px_var (pe_var (i := 1) rfl (.inl rfl))) pa_nilD)) (.inr rfl))
 (tss_one (ts_if (pt_cmp (cmp_ne hx) (px_var (pe_var (i := 5) rfl (.inl rfl))) (px_lst (fr := true) pa_nilD))
 (tss_cons (ts_app hx.K (pe_var (i := 3) rfl (.inl rfl)) (by decide) (px_callF c__law_pick (hr.mono (by decide)) rfl (pa_consD (px_var (pe_var (i := 0) rfl (.inl rfl))) (pa_consD (px_var (pe_var (i := 5) rfl (.inl rfl))) pa_nilD))))
 (tss_one (ts_set hx.nd (i := 1) rfl (.inl rfl) (px_callF c__law_behind (hr.mono (by decide)) rfl (pa_consD (px_var (pe_var (i := 1) rfl (.inl rfl))) (pa_consD (px_ix hx (px_var (pe_var (i := 3) rfl (.inl rfl))) px_neg1) pa_nilD))) (.inr rfl))))
 tss_nil))))
 (tss_one (ts_ret (px_tup (pa_consD (px_callT call_tuple rfl kt.n_tuple (by decide +kernel) (pa_consD (px_var (pe_var (i := 3) rfl (.inl rfl))) pa_nilD)) (pa_consD (px_imm (px_var (pe_var (i := 1) rfl (.inl rfl)))) pa_nilD)))))))
theorem fn__law_walk {W : Wd} {mg : Str → Option Value} {base : Heap} {f : Addr} {fd : FuncData} (kt : Kit mg) (c__law_takings : Fn W.P W.w W.K mg base W 3 "_law_takings" 1 g__law_takings) (c__law_pick : Fn W.P W.w W.K mg base W 2 "_law_pick" 2 g__law_pick) (c__law_behind : Fn W.P W.w W.K mg base W 1 "_law_behind" 2 g__law_behind) (F : FnP W.K "_law_walk" 57 f fd) (gm : mg "_law_walk" = some (.ref f)) : Fn W.P W.w W.K mg base W 4 "_law_walk" 3 g__law_walk :=
  fn_of_data F gm (ok__law_walk kt c__law_takings c__law_pick c__law_behind F) (F.bindsN fun _ _ _ _ _ _ us hl => match us, hl with | [_, _, _], _ => rfl)
/-! ### _law_island -/
abbrev N__law_island : List Str := ["_law_row", "_law_most", "_law_length"]
abbrev ps__law_island : List Str := ["_law_row", "_law_most"]
def F__law_island : Sv := (sSeq (sSet 2 (eAddF (eC (.int 1)) (eCall (kFn 2 g__law_taken) (lCons (eVar 0) (lCons (eVar 1) lNil)))))
 (sRet (eTup (lCons (eAddF (eC (.int 3)) (eCall (kFn 2 g__law_taken) (lCons (eVar 0) (lCons (eC (.int 2)) lNil)))) (lCons (eImm (eVar 2)) (lCons (eAddF (eC (.int 2)) (eCall (kFn 2 g__law_taken) (lCons (eVar 0) (lCons (eVar 2) lNil)))) lNil))))))
def g__law_island : List D → M D := gOf N__law_island F__law_island
theorem sc__law_island : FnScope N__law_island ps__law_island (defScope (top 58)) := ⟨rfl, rfl, rfl, by decide +kernel, rfl, by decide +kernel, by decide +kernel⟩
theorem ok__law_island {W : Wd} {mg : Str → Option Value} {base : Heap} {f : Addr} {fd : FuncData} (kt : Kit mg) (c__law_taken : Fn W.P W.w W.K mg base W 1 "_law_taken" 2 g__law_taken) (F : FnP W.K "_law_island" 58 f fd) :
    FnOk W.P W.w W.K mg base CX0 2 f fd ps__law_island (spOf ps__law_island.length W g__law_island) := by
  refine fn_data (k := 1) (ms := []) (Fv := F__law_island) F sc__law_island (by decide) fun cdv A outer s H E hcd hr => ?_
  have hx := fit_of (W := W) (mg := mg) (base := base) (N := N__law_island) (outer := outer) (E := E) (H := H) sc__law_island.nd hr
  exact (tss_cons (ts_set hx.nd (i := 2) rfl (.inl rfl) (px_addF px_int (px_callF c__law_taken (hr.mono (by decide)) rfl (pa_consD (px_var (pe_var (i := 0) rfl (.inl rfl))) (pa_consD (px_var (pe_var (i := 1) rfl (.inl rfl))) pa_nilD)))) (.inl rfl))
 (tss_one (ts_ret (px_tup (pa_consD (px_addF px_int (px_callF c__law_taken (hr.mono (by decide)) rfl (pa_consD (px_var (pe_var (i := 0) rfl (.inl rfl))) (pa_consD (px_any px_int) pa_nilD)))) (pa_consD (px_imm (px_var (pe_var (i := 2) rfl (.inl rfl)))) (pa_consD (px_addF px_int (px_callF c__law_taken (hr.mono (by decide)) rfl (pa_consD (px_var (pe_var (i := 0) rfl (.inl rfl))) (pa_consD (px_var (pe_var (i := 2) rfl (.inl rfl))) pa_nilD)))) pa_nilD)))))))
theorem fn__law_island {W : Wd} {mg : Str → Option Value} {base : Heap} {f : Addr} {fd : FuncData} (kt : Kit mg) (c__law_taken : Fn W.P W.w W.K mg base W 1 "_law_taken" 2 g__law_taken) (F : FnP W.K "_law_island" 58 f fd) (gm : mg "_law_island" = some (.ref f)) : Fn W.P W.w W.K mg base W 2 "_law_island" 2 g__law_island :=
  fn_of_data F gm (ok__law_island kt c__law_taken F) (F.bindsN fun _ _ _ _ _ _ us hl => match us, hl with | [_, _], _ => rfl)
/-! ### _law_least -/
abbrev N__law_least : List Str := ["_law_chart", "_law_prices", "_law_found", "_law_walk_here", "_law_more", "_law_here", "_law_one", "_law_there", "_law_price_here"]
abbrev ps__law_least : List Str := ["_law_chart", "_law_prices"]
noncomputable def F__law_least : Sv := (sSeq (sPar 2 3 (eDict1 (eVar 0) (eC (.int 0))) (eLst (lCons (eImm (eVar 0)) lNil)))
 (sSeq (sWhile (fuC (bCmp kNe (eVar 3) (eLst lNil)) (sSeq (sSet 4 (eLst lNil))
 (sSeq (sFor (gVar 5) (lVar 3)
 (sFor (gVar 6) (lNew (eCall (kFn 1 g__law_takings) (lCons (eVar 5) lNil)))
 (sSeq (sPar 7 8 (eCall (kFn 2 g__law_behind) (lCons (eVar 5) (lCons (eVar 6) lNil))) (eAddF (eIx (eVar 2) (eVar 5)) (eIx (eVar 1) (eIx (eVar 6) (eC (.int 0))))))
 (sIf (bOr (bCmp kNotIn (eVar 7) (eVar 2)) (bCmp kLt (eVar 8) (eIx (eVar 2) (eVar 7))))
 (sSeq (sPut 2 (eVar 7) (eVar 8))
 (sApp 4 (eVar 7)))
 sNx))))
 (sMove 3 4)))) (bCmp kNe (eVar 3) (eLst lNil)) (sSeq (sSet 4 (eLst lNil))
 (sSeq (sFor (gVar 5) (lVar 3)
 (sFor (gVar 6) (lNew (eCall (kFn 1 g__law_takings) (lCons (eVar 5) lNil)))
 (sSeq (sPar 7 8 (eCall (kFn 2 g__law_behind) (lCons (eVar 5) (lCons (eVar 6) lNil))) (eAddF (eIx (eVar 2) (eVar 5)) (eIx (eVar 1) (eIx (eVar 6) (eC (.int 0))))))
 (sIf (bOr (bCmp kNotIn (eVar 7) (eVar 2)) (bCmp kLt (eVar 8) (eIx (eVar 2) (eVar 7))))
 (sSeq (sPut 2 (eVar 7) (eVar 8))
 (sApp 4 (eVar 7)))
 sNx))))
 (sMove 3 4))))
 (sRet (eVar 2))))
noncomputable def g__law_least : List D → M D := gOf N__law_least F__law_least
theorem sc__law_least : FnScope N__law_least ps__law_least (defScope (top 59)) := ⟨rfl, rfl, rfl, by decide +kernel, rfl, by decide +kernel, by decide +kernel⟩
theorem ok__law_least {W : Wd} {mg : Str → Option Value} {base : Heap} {f : Addr} {fd : FuncData} (kt : Kit mg) (c__law_takings : Fn W.P W.w W.K mg base W 3 "_law_takings" 1 g__law_takings) (c__law_behind : Fn W.P W.w W.K mg base W 1 "_law_behind" 2 g__law_behind) (F : FnP W.K "_law_least" 59 f fd) :
    FnOk W.P W.w W.K mg base CX0 4 f fd ps__law_least (spOf ps__law_least.length W g__law_least) := by
  refine fn_data (k := 3) (ms := [2, 4]) (Fv := F__law_least) F sc__law_least (by decide) fun cdv A outer s H E hcd hr => ?_
  have hx := fit_of (W := W) (mg := mg) (base := base) (N := N__law_least) (outer := outer) (E := E) (H := H) sc__law_least.nd hr
  exact (tss_cons (ts_par hx.calm hx.nd (i := 2) (j := 3) rfl rfl (by decide) rfl rfl (px_dict1 hx (px_var (pe_var (i := 0) rfl (.inl rfl))) px_int) (px_lst (pa_consD (px_imm (px_var (pe_var (i := 0) rfl (.inl rfl)))) pa_nilD)) (.inr rfl) (.inr rfl) rfl)
 (tss_cons (ts_while (fuC _ _) PassesOwn.never (pt_cmp (cmp_ne hx) (px_var (pe_var (i := 3) rfl (.inl rfl))) (px_lst (fr := true) pa_nilD))
 (tss_cons (ts_set hx.nd (i := 4) rfl (.inl rfl) (px_lst (fr := true) pa_nilD) (.inr rfl))
 (tss_cons (ts_for hx PassesOwn.never (ti_var hx (pe_var (i := 3) rfl (.inl rfl)) (by decide)) (tg_name hx.nd rfl (.inl rfl) (by decide))
 (tss_one (ts_for hx PassesOwn.never (ti_new hx (px_callF c__law_takings (hr.mono (by decide)) rfl (pa_consD (px_var (pe_var (i := 5) rfl (.inl rfl))) pa_nilD))) (tg_name hx.nd rfl (.inl rfl) (by decide))
 (tss_cons (ts_par hx.calm hx.nd (i := 7) (j := 8) rfl rfl (by decide) rfl rfl (px_callF c__law_behind (hr.mono (by decide)) rfl (pa_consD (px_var (pe_var (i := 5) rfl (.inl rfl))) (pa_consD (px_var (pe_var (i := 6) rfl (.inl rfl))) pa_nilD))) (px_addF (px_ix hx (px_var (pe_var (i := 2) rfl (.inl rfl))) (px_var (pe_var (i := 5) rfl (.inl rfl)))) (px_ix hx (px_var (pe_var (i := 1) rfl (.inl rfl))) (px_ix hx (px_var (pe_var (i := 6) rfl (.inl rfl))) px_int))) (.inr rfl) (.inr rfl) rfl)
 (tss_one (ts_if (PW.pt (ptw_or (pt_cmp (cmp_notin hx) (px_var (pe_var (i := 7) rfl (.inl rfl))) (px_var (pe_var (i := 2) rfl (.inl rfl)))) (ptw_or1 (pt_cmp (cmp_lt hx) (px_var (pe_var (i := 8) rfl (.inl rfl))) (px_ix hx (px_var (pe_var (i := 2) rfl (.inl rfl))) (px_var (pe_var (i := 7) rfl (.inl rfl))))))))
 (tss_cons (ts_put hx (pe_var (i := 2) rfl (.inl rfl)) (by decide) (px_var (pe_var (i := 7) rfl (.inl rfl))) (px_var (pe_var (i := 8) rfl (.inl rfl))))
 (tss_one (ts_app hx.K (pe_var (i := 4) rfl (.inl rfl)) (by decide) (px_var (pe_var (i := 7) rfl (.inl rfl))))))
 tss_nil))))))
 (tss_one (ts_move hx.nd (i := 3) rfl (.inl rfl) (pe_var (i := 4) rfl (.inl rfl)) (by decide) (by decide))))))
 (tss_one (ts_retv (pe_var (i := 2) rfl (.inl rfl)) (by decide)))))
theorem fn__law_least {W : Wd} {mg : Str → Option Value} {base : Heap} {f : Addr} {fd : FuncData} (kt : Kit mg) (c__law_takings : Fn W.P W.w W.K mg base W 3 "_law_takings" 1 g__law_takings) (c__law_behind : Fn W.P W.w W.K mg base W 1 "_law_behind" 2 g__law_behind) (F : FnP W.K "_law_least" 59 f fd) (gm : mg "_law_least" = some (.ref f)) : Fn W.P W.w W.K mg base W 4 "_law_least" 2 g__law_least :=
  fn_of_data F gm (ok__law_least kt c__law_takings c__law_behind F) (F.bindsN fun _ _ _ _ _ _ us hl => match us, hl with | [_, _], _ => rfl)
/-! ### _law_price -/
abbrev N__law_price : List Str := ["_law_chart", "_law_prices", "_law_word", "_law_price_here", "_law_one"]
abbrev ps__law_price : List Str := ["_law_chart", "_law_prices", "_law_word"]
def F__law_price : Sv := (sSeq (sSet 3 (eC (.int 0)))
 (sSeq (sFor (gVar 4) (lVar 2)
 (sSeq (sIf (bCmp kNotIn (eVar 4) (eCall (kFn 1 g__law_takings) (lCons (eVar 0) lNil)))
 (sRet (eC .non))
 sNx)
 (sPar 3 0 (eAddF (eVar 3) (eIx (eVar 1) (eIx (eVar 4) (eC (.int 0))))) (eCall (kFn 2 g__law_behind) (lCons (eVar 0) (lCons (eVar 4) lNil))))))
 (sRet (eTup (lCons (eImm (eVar 3)) (lCons (eImm (eVar 0)) lNil))))))
def g__law_price : List D → M D := gOf N__law_price F__law_price
theorem sc__law_price : FnScope N__law_price ps__law_price (defScope (top 60)) := ⟨rfl, rfl, rfl, by decide +kernel, rfl, by decide +kernel, by decide +kernel⟩
theorem ok__law_price {W : Wd} {mg : Str → Option Value} {base : Heap} {f : Addr} {fd : FuncData} (kt : Kit mg) (c__law_takings : Fn W.P W.w W.K mg base W 3 "_law_takings" 1 g__law_takings) (c__law_behind : Fn W.P W.w W.K mg base W 1 "_law_behind" 2 g__law_behind) (F : FnP W.K "_law_price" 60 f fd) :
    FnOk W.P W.w W.K mg base CX0 4 f fd ps__law_price (spOf ps__law_price.length W g__law_price) := by
  refine fn_data (k := 3) (ms := []) (Fv := F__law_price) F sc__law_price (by decide) fun cdv A outer s H E hcd hr => ?_
  have hx := fit_of (W := W) (mg := mg) (base := base) (N := N__law_price) (outer := outer) (E := E) (H := H) sc__law_price.nd hr
  exact (tss_cons (ts_set hx.nd (i := 3) rfl (.inl rfl) px_int (.inl rfl))
 (tss_cons (ts_for hx PassesOwn.never (ti_var hx (pe_var (i := 2) rfl (.inl rfl)) (by decide)) (tg_name hx.nd rfl (.inl rfl) (by decide))
 (tss_cons (ts_if (pt_cmp (cmp_notin hx) (px_var (pe_var (i := 4) rfl (.inl rfl))) (px_callF c__law_takings (hr.mono (by decide)) rfl (pa_consD (px_var (pe_var (i := 0) rfl (.inl rfl))) pa_nilD)))
 (tss_one (ts_ret px_non))
 tss_nil)
 (tss_one (ts_par hx.calm hx.nd (i := 3) (j := 0) rfl rfl (by decide) rfl rfl (px_addF (px_var (pe_var (i := 3) rfl (.inl rfl))) (px_ix hx (px_var (pe_var (i := 1) rfl (.inl rfl))) (px_ix hx (px_var (pe_var (i := 4) rfl (.inl rfl))) px_int))) (px_callF c__law_behind (hr.mono (by decide)) rfl (pa_consD (px_var (pe_var (i := 0) rfl (.inl rfl))) (pa_consD (px_var (pe_var (i := 4) rfl (.inl rfl))) pa_nilD))) (.inl rfl) (.inl rfl) rfl))))
 (tss_one (ts_ret (px_tup (pa_consD (px_imm (px_var (pe_var (i := 3) rfl (.inl rfl)))) (pa_consD (px_imm (px_var (pe_var (i := 0) rfl (.inl rfl)))) pa_nilD)))))))
theorem fn__law_price {W : Wd} {mg : Str → Option Value} {base : Heap} {f : Addr} {fd : FuncData} (kt : Kit mg) (c__law_takings : Fn W.P W.w W.K mg base W 3 "_law_takings" 1 g__law_takings) (c__law_behind : Fn W.P W.w W.K mg base W 1 "_law_behind" 2 g__law_behind) (F : FnP W.K "_law_price" 60 f fd) (gm : mg "_law_price" = some (.ref f)) : Fn W.P W.w W.K mg base W 4 "_law_price" 3 g__law_price :=
  fn_of_data F gm (ok__law_price kt c__law_takings c__law_behind F) (F.bindsN fun _ _ _ _ _ _ us hl => match us, hl with | [_, _, _], _ => rfl)
end Sl
end S_Sm4
noncomputable section S_Sn1
set_option Elab.async false
set_option linter.all false
set_option maxRecDepth 100000
set_option maxHeartbeats 1000000
namespace Sl
open PySem PySem.Spec PyProof.Rows L2

/-! ### _law_taken: a draw -/
abbrev N__law_taken : List Str := ["_law_row", "_law_many", "_law_found", "_law_cell"]
theorem sc__law_taken : FnScope N__law_taken ["_law_row", "_law_many"] (defScope (top 48)) := ⟨rfl, rfl, rfl, by decide +kernel, rfl, by decide +kernel, by decide +kernel⟩
/-- the row's list -/
abbrev rowL (d : RowD) (p x y : Int) : List V := [.ref d.sc, .int p, .int x, .int y]
theorem row_ext {W : Wd} {H : Hp} {d : RowD} {p x y p' x' y' : Int} (g : Good W H) (e : W.row = some d) (h : H d.r = some (.lst (rowL d p x y))) (h1 : 0 ≤ p') (h2 : 0 ≤ x') (h3 : x' < 2147483647) : Ext W H (upd H d.r (.lst (rowL d p' x' y'))) := by
  have sr : ∀ u : Prop, Rd H d.sc (.lst (d.ns.map V.int)) → d.sc = d.r → u := fun u q z => by
    rw [z] at q
    rcases q with q | ⟨o, q⟩
    · rw [h] at q
      have q1 := HO.lst.inj (Option.some.inj q)
      cases hn : d.ns with
      | nil => rw [hn] at q1; cases q1
      | cons n ns => rw [hn] at q1; cases q1
    · rw [h] at q; cases q
  have gd : Good W (upd H d.r (.lst (rowL d p' x' y'))) := by
    refine ⟨fun P hP => ?_, fun d' e' => ?_⟩
    · obtain ⟨ps, q, t⟩ := g.tab P hP
      exact ⟨ps, by rw [upd_ne (fun z => by rw [z, h] at q; cases q)]; exact q, t⟩
    · rw [e] at e'
      cases e'
      refine ⟨⟨p', x', y', upd_same, h1, h2, h3⟩, ?_⟩
      rcases (g.row d e).2 with q | ⟨hk, q⟩
      · exact .inl q
      · refine .inr ⟨hk, ?_⟩
        have ne : d.sc ≠ d.r := fun z => sr _ q z
        rcases q with q | ⟨u, q⟩
        · exact .inl (by rw [upd_ne ne]; exact q)
        · exact .inr ⟨u, by rw [upd_ne ne]; exact q⟩
  refine ⟨fun a o q n => ?_, fun a q => ?_, gd⟩
  · rw [upd_ne (show a ≠ d.r from fun z => n (.inr ⟨d, e, .inl z⟩))]; exact q
  · by_cases z : a = d.r
    · rw [z, upd_same]; exact fun z => nomatch z
    · rw [upd_ne z]; exact q
/-- the row as it stands -/
structure RowNow (W : Wd) (d : RowD) (H : Hp) (p x y : Int) : Prop where
  good : Good W H
  row : W.row = some d
  at_ : H d.r = some (.lst (rowL d p x y))
  p0 : 0 ≤ p
  x0 : 0 ≤ x
  x1 : x < 2147483647
theorem RowNow.of {W : Wd} {d : RowD} {H : Hp} (g : Good W H) (e : W.row = some d) : ∃ p x y, RowNow W d H p x y := by
  obtain ⟨⟨p, x, y, h, h1, h2, h3⟩, _⟩ := g.row d e
  exact ⟨p, x, y, g, e, h, h1, h2, h3⟩
section
variable {W : Wd} {d : RowD} {H : Hp} {p x y : Int} {σ : L2.St} {Q : VK} {te : TE} {E : Ends} {K : PySem.W.Frag}
theorem RowNow.put (r : RowNow W d H p x y) {p' x' y' : Int} (h1 : 0 ≤ p') (h2 : 0 ≤ x') (h3 : x' < 2147483647) : Ext W H (upd H d.r (.lst (rowL d p' x' y'))) ∧ RowNow W d (upd H d.r (.lst (rowL d p' x' y'))) p' x' y' :=
  let e := row_ext (y' := y') r.good r.row r.at_ h1 h2 h3
  ⟨e, e.good, r.row, upd_same, h1, h2, h3⟩
/-- row[k] -/
def tRow (K : PySem.W.Frag) (k : Int) : TE := tOp (rIxL K) (tVar 0) (tC (.int k))
theorem row_rd (r : RowNow W d H p x y) (h0 : σ[0]? = some (some (.ref d.r))) {k : Int} {v : V} (hk : atI (rowL d p x y) k = some v) (q : Q v H) : tRow K k σ H Q :=
  ⟨_, h0, _, _, _, _, rfl, rfl, .inl (.inl r.at_), hk, q⟩
/-- row[k] = v -/
theorem row_wr {xv : V} {k : Int} {j : Nat} (r : RowNow W d H p x y) (h0 : σ[0]? = some (some (.ref d.r))) (hj : ixN 4 k = some j) {L : List V} (hL : (rowL d p x y).set j xv = L) (q : E.nx σ (upd H d.r (.lst L))) :
    gSub (tVar 0) (tC (.int k)) rSetL xv σ H E.nx := ⟨_, h0, _, _, _, _, rfl, rfl, r.at_, hj, by rw [hL]; exact q⟩
end
theorem draw_lt {n : Int} (h : 0 < n) (a : Int) : ∃ i : Nat, i < n.toNat ∧ a % n = (i : Int) := by
  have h1 := Int.emod_nonneg a (show n ≠ 0 by omega)
  have h2 := Int.emod_lt_of_pos a h
  exact ⟨(a % n).toNat, by omega, by omega⟩
theorem ok__law_taken {W : Wd} {mg : Str → Option Value} {base : Heap} {f : Addr} {fd : FuncData} (kt : Kit mg) (F : FnP W.K "_law_taken" 48 f fd) : FnOk W.P W.w W.K mg base CX0 1 f fd ["_law_row", "_law_many"] (spOf 2 W g__law_taken) := by
  obtain ⟨oc, od, dV, kV, doc, pm, an, cdv, ct, osl, rfl, lk, hcd, _, _⟩ := F.ex
  refine fn_of lk hcd sc__law_taken (fun vs H Q E h => h.1) fun A outer s H vs Q E hr hsp => ?_
  have nd := sc__law_taken.nd
  have der := (show PSs (cxOf CX0 W.P W.w W.K mg base N__law_taken "_law_taken" (defScope (top 48)) f cdv A outer s H E).nox (defBody (top 48)) _ from (pss_cons (ps_if (pt_cmpR op_gt (pe_ix ix_list (pe_var (i := 0) rfl (.inl rfl)) pe_int (fun _ _ => rfl)) pe_int (nomark _)) (pss_cons (ps_set nd (i := 2) rfl (.inl rfl) (pe_op op_mod (pe_callTy call_int1 rfl kt.n_int (by decide +kernel) (pa_cons (pe_ix ix_list (pe_var (i := 0) rfl (.inl rfl)) pe_int (fun _ _ => rfl)) pa_nil)) (pe_var (i := 1) rfl (.inl rfl))))
    (pss_cons (ps_asg (pe_op op_fdiv (pe_ix ix_list (pe_var (i := 0) rfl (.inl rfl)) pe_int (fun _ _ => rfl)) (pe_var (i := 1) rfl (.inl rfl))) (pg_sub (pe_var (i := 0) rfl (.inl rfl)) pe_int set_list))
    (pss_one (ps_ret (pe_var (i := 2) rfl (.inl rfl)))))) pss_nil)
    (pss_cons (ps_asg (pe_op op_add (pe_ix ix_list (pe_var (i := 0) rfl (.inl rfl)) pe_int (fun _ _ => rfl)) pe_int) (pg_sub (pe_var (i := 0) rfl (.inl rfl)) pe_int set_list))
    (pss_cons (ps_if (pt_cmpR op_gt (pe_ix ix_list (pe_var (i := 0) rfl (.inl rfl)) pe_int (fun _ _ => rfl)) (pe_callB call_len_seq rfl kt.n_len boot_len (pa_cons (pe_ix ix_list (pe_var (i := 0) rfl (.inl rfl)) pe_int (fun _ _ => rfl)) pa_nil)) (nomark _)) (pss_cons (ps_asg (pe_op op_mod (pe_callTy call_int1 rfl kt.n_int (by decide +kernel) (pa_cons (pe_op op_add (pe_op op_mul (pe_ix ix_list (pe_var (i := 0) rfl (.inl rfl)) pe_int (fun _ _ => rfl)) pe_int) pe_int) pa_nil)) pe_int) (pg_sub (pe_var (i := 0) rfl (.inl rfl)) pe_int set_list))
    (pss_one (ps_ret (pe_op op_mod (pe_callTy call_int1 rfl kt.n_int (by decide +kernel) (pa_cons (pe_op op_fdiv (pe_ix ix_list (pe_var (i := 0) rfl (.inl rfl)) pe_int (fun _ _ => rfl)) pe_int) pa_nil)) (pe_var (i := 1) rfl (.inl rfl)))))) pss_nil)
    (pss_cons (ps_set nd (i := 3) rfl (.inl rfl) (pe_ix ix_list (pe_ix ix_list (pe_var (i := 0) rfl (.inl rfl)) pe_int (fun _ _ => rfl)) (pe_op op_sub (pe_ix ix_list (pe_var (i := 0) rfl (.inl rfl)) pe_int (fun _ _ => rfl)) pe_int) (fun _ _ => rfl)))
    (pss_cons (ps_asg (pe_op op_mod (pe_callTy call_int1 rfl kt.n_int (by decide +kernel) (pa_cons (pe_op op_add (pe_op op_add (pe_op op_mul (pe_ix ix_list (pe_var (i := 0) rfl (.inl rfl)) pe_int (fun _ _ => rfl)) pe_int) (pe_var (i := 3) rfl (.inl rfl))) pe_int) pa_nil)) pe_int) (pg_sub (pe_var (i := 0) rfl (.inl rfl)) pe_int set_list))
    (pss_cons (ps_if (pt_cmpR op_ge (pe_var (i := 3) rfl (.inl rfl)) (pe_op op_pow pe_int pe_int) (nomark _)) (pss_one (ps_asg (pe_op op_fdiv (pe_var (i := 3) rfl (.inl rfl)) (pe_var (i := 1) rfl (.inl rfl))) (pg_sub (pe_var (i := 0) rfl (.inl rfl)) pe_int set_list))) pss_nil)
    (pss_one (ps_ret (pe_op op_mod (pe_callTy call_int1 rfl kt.n_int (by decide +kernel) (pa_cons (pe_var (i := 3) rfl (.inl rfl)) pa_nil)) (pe_var (i := 1) rfl (.inl rfl))))))))))))
  refine ⟨_, PSs.nox der, ?_⟩
  obtain ⟨hl, ds, G, gd, xs, gx, q⟩ := hsp
  unfold g__law_taken at q
  split at q
  · rename_i n
    split at q
    · rename_i hn
      obtain ⟨v1, v2, rfl, y1, y2⟩ := xs.un2
      rw [y2.toInt]
      cases y1 with
      | @row _ d hrow =>
        have fin : ∀ (a : Int) (H' : Hp), Ext W H H' → Q (.int (a % n)) H' := fun a H' e => by
          obtain ⟨i, hi, ea⟩ := draw_lt hn.1 a
          rw [ea]
          exact q i hi (.int i) H' (fun _ => False) e (.int _) .nil fun _ _ h => h.elim
        obtain ⟨p, x, y, r⟩ := RowNow.of gd hrow
        refine row_rd r rfl rfl ⟨_, _, rfl, rfl, _, rfl, ?_⟩
        by_cases hy : 0 < y
        · rw [decide_eq_true hy]
          refine iteT (row_rd r rfl rfl (.inl ⟨_, rfl, _, rfl, _, _, rfl, rfl, hn.1, ?_⟩))
          refine row_rd r rfl rfl ⟨_, rfl, _, _, rfl, rfl, hn, row_wr r rfl rfl rfl ⟨_, rfl, ?_⟩⟩
          exact fin y _ (r.put r.p0 r.x0 r.x1).1
        · rw [decide_eq_false hy]
          refine iteF ?_
          have p1 : 0 ≤ p + 1 := by have := r.p0; omega
          obtain ⟨e1, r1⟩ := r.put (y' := y) p1 r.x0 r.x1
          refine row_rd r rfl rfl ⟨_, _, rfl, rfl, row_wr r rfl rfl rfl ?_⟩
          have sq := ((r1.good.row d hrow).2).seq
          refine row_rd r1 rfl rfl (row_rd r1 rfl rfl ⟨_, _, rfl, .inl sq, ⟨_, _, rfl, rfl, _, rfl, ?_⟩⟩)
          by_cases hlen : ((d.ns.map V.int).length : Int) < p + 1
          · rw [decide_eq_true hlen]
            have b1 := Int.emod_nonneg (x * 48271 + 11) (show (2147483647 : Int) ≠ 0 by decide)
            have b2 := Int.emod_lt_of_pos (x * 48271 + 11) (show (0 : Int) < 2147483647 by decide)
            obtain ⟨e2, r2⟩ := r1.put (y' := y) r1.p0 b1 b2
            have := r1.x0
            have := r1.x1
            refine iteT (row_rd r1 rfl rfl ⟨_, _, rfl, rfl, .inl ⟨by omega, by omega⟩, _, _, rfl, rfl, .inl ⟨_, rfl, _, _, rfl, rfl, (show (0 : Int) < 2147483647 by decide), row_wr r1 rfl rfl rfl ?_⟩⟩)
            refine row_rd r2 rfl rfl ⟨_, _, rfl, rfl, ⟨by decide, by decide⟩, .inl ⟨_, rfl, _, rfl, _, _, rfl, rfl, hn.1, ?_⟩⟩
            exact fin _ _ (e1.trans e2)
          · rw [decide_eq_false hlen]
            refine iteF ?_
            rw [List.length_map] at hlen
            have hp : p.toNat < d.ns.length := by have := r.p0; omega
            have hc : atI (d.ns.map V.int) (p + 1 - 1) = some (.int d.ns[p.toNat]) := by
              have e : p + 1 - 1 = ((p.toNat : Nat) : Int) := by have := r.p0; omega
              rw [e]
              exact atI_nat (by simp [hp])
            generalize d.ns[p.toNat] = c at hc
            refine row_rd r1 rfl rfl (row_rd r1 rfl rfl ⟨_, _, rfl, rfl, ⟨_, _, _, _, rfl, rfl, sq, hc, ?_⟩⟩)
            have b1 := Int.emod_nonneg (x * 48271 + c + 11) (show (2147483647 : Int) ≠ 0 by decide)
            have b2 := Int.emod_lt_of_pos (x * 48271 + c + 11) (show (0 : Int) < 2147483647 by decide)
            obtain ⟨e2, r2⟩ := r1.put (y' := y) r1.p0 b1 b2
            have := r1.x0
            have := r1.x1
            refine row_rd r1 rfl rfl ⟨_, _, rfl, rfl, .inl ⟨by omega, by omega⟩, ⟨_, rfl, _, _, rfl, rfl, _, _, rfl, rfl, .inl ⟨_, rfl, _, _, rfl, rfl, (show (0 : Int) < 2147483647 by decide), row_wr r1 rfl rfl rfl ?_⟩⟩⟩
            refine ⟨_, rfl, ⟨_, _, rfl, rfl, ⟨by decide, by decide, by decide⟩, _, _, rfl, rfl, _, rfl, ?_⟩⟩
            by_cases hbig : (10 : Int) ^ (18 : Int).toNat ≤ c
            · rw [decide_eq_true hbig]
              obtain ⟨e3, r3⟩ := r2.put (y' := c / n) r2.p0 r2.x0 r2.x1
              refine iteT ⟨_, rfl, _, rfl, _, _, rfl, rfl, hn, row_wr r2 rfl rfl rfl ?_⟩
              exact ⟨_, rfl, .inl ⟨_, rfl, _, rfl, _, _, rfl, rfl, hn.1, fin _ _ ((e1.trans e2).trans e3)⟩⟩
            · rw [decide_eq_false hbig]
              exact iteF ⟨_, rfl, .inl ⟨_, rfl, _, rfl, _, _, rfl, rfl, hn.1, fin _ _ (e1.trans e2)⟩⟩
    · exact q.elim
  · exact q.elim
end Sl
end S_Sn1
noncomputable section S_Sn2
set_option Elab.async false
set_option linter.all false
set_option maxRecDepth 100000
set_option maxHeartbeats 1000000
namespace Sl
open PySem PySem.Spec PyProof.Rows L2
abbrev N__law_alike : List Str := ["_law_found", "_law_due", "_law_k"]
abbrev ps__law_alike : List Str := ["_law_found", "_law_due"]
def F__law_alike (gr : List D → M D) : Sv := (sSeq (sIf (bTru (eIsi kIsSeq (eVar 1)))
 (sSeq (sIf (bOr (bNot (bTru (eIsi kIsSeq (eVar 0)))) (bCmp kNe (eIsi kIsLst (eVar 0)) (eIsi kIsLst (eVar 1))))
 (sRet (eC (.bl false)))
 sNx)
 (sSeq (sIf (bCmp kNe (eCall kLen (lCons (eVar 0) lNil)) (eCall kLen (lCons (eVar 1) lNil)))
 (sRet (eC (.bl false)))
 sNx)
 (sRet (eCmp kEq (eLc [2] (lRange (lCons (eCall kLen (lCons (eVar 1) lNil)) lNil)) (gVar 2) (bNot (bTru (eCall (kFn 2 gr) (lCons (eIx (eVar 0) (eVar 2)) (lCons (eIx (eVar 1) (eVar 2)) lNil))))) (eVar 2)) (eLst lNil)))))
 sNx)
 (sSeq (sIf (bOr (bCmp kIs (eVar 1) (eC .non)) (bTru (eIsi kIsStr (eVar 1))))
 (sRet (eAnd (eCmp kEq (eVar 0) (eVar 1)) (eCmp kEq (eIsi kIsStr (eVar 0)) (eIsi kIsStr (eVar 1)))))
 sNx)
 (sRet (eAnd (eIsi kIsInt (eVar 0)) (eAnd (eCmp kEq (eIsi kIsBool (eVar 0)) (eIsi kIsBool (eVar 1))) (eCmp kEq (eVar 0) (eVar 1)))))))
def g__law_alike0 : List D → M D := fun _ => .fail
def g__law_alike1 : List D → M D := gOf N__law_alike (F__law_alike g__law_alike0)
def g__law_alike2 : List D → M D := gOf N__law_alike (F__law_alike g__law_alike1)
theorem sc__law_alike : FnScope N__law_alike ps__law_alike (defScope (top 50)) := ⟨rfl, rfl, rfl, by decide +kernel, rfl, by decide +kernel, by decide +kernel⟩
theorem fn__law_alikeS {W : Wd} {mg : Str → Option Value} {base : Heap} {f : Addr} {fd : FuncData} {kk : Nat} {gr : List D → M D} (kt : Kit mg) (cself : Fn W.P W.w W.K mg base W kk "_law_alike" 2 gr) (F : FnP W.K "_law_alike" 50 f fd) (gm : mg "_law_alike" = some (.ref f)) :
    Fn W.P W.w W.K mg base W (kk + 1) "_law_alike" 2 (gOf N__law_alike (F__law_alike gr)) := by
  have h : FnOk W.P W.w W.K mg base CX0 (kk + 1) f fd ps__law_alike (spOf ps__law_alike.length W (gOf N__law_alike (F__law_alike gr))) := by
    refine fn_data (k := kk) (ms := []) (Fv := F__law_alike gr) F sc__law_alike (by decide) fun cdv A outer s H E hcd hr => ?_
    have hx := fit_of (W := W) (mg := mg) (base := base) (N := N__law_alike) (outer := outer) (E := E) (H := H) sc__law_alike.nd hr
    exact (tss_cons (ts_if (pt_tru hx.K (px_isiSeq hx.K rfl kt.n_isinstance rfl kt.n_tuple rfl kt.n_list (px_var (pe_var (i := 1) rfl (.inr (.inl rfl))))))
 (tss_cons (ts_if (PW.pt (ptw_or (ptt_not (pt_tru hx.K (px_isiSeq hx.K rfl kt.n_isinstance rfl kt.n_tuple rfl kt.n_list (px_var (pe_var (i := 0) rfl (.inr (.inl rfl))))))) (ptw_or1 (pt_cmp (cmp_ne hx) (px_isi isi_lst hx.K rfl kt.n_isinstance rfl kt.n_list (by decide +kernel) (px_var (pe_var (i := 0) rfl (.inr (.inl rfl))))) (px_isi isi_lst hx.K rfl kt.n_isinstance rfl kt.n_list (by decide +kernel) (px_var (pe_var (i := 1) rfl (.inr (.inl rfl)))))))))
 (tss_one (ts_ret px_bl))
 tss_nil)
 (tss_cons (ts_if (pt_cmp (cmp_ne hx) (px_callB call_len rfl kt.n_len (by decide +kernel) (pa_consD (px_var (pe_var (i := 0) rfl (.inr (.inl rfl)))) pa_nilD)) (px_callB call_len rfl kt.n_len (by decide +kernel) (pa_consD (px_var (pe_var (i := 1) rfl (.inr (.inl rfl)))) pa_nilD)))
 (tss_one (ts_ret px_bl))
 tss_nil)
 (tss_one (ts_ret (px_cmp (cmp_eq hx) (px_lc (own := [("_law_k", 2)]) hx (ti_range rfl kt.n_range (pa_consD (px_any (px_callB call_len rfl kt.n_len (by decide +kernel) (pa_consD (px_var (pe_var (i := 1) rfl (.inr (.inl rfl)))) pa_nilD))) pa_nilD)) (blk_ok (by kernel_rfl)) (fun _ _ _ _ _ => (tg_name hx.nd rfl (.inl rfl) (by decide))) (fun _ _ _ _ _ => (pts_oneD (ptt_not (pt_tru (Fit.blk hx).K (px_callF cself hr rfl (pa_consD (px_ix (Fit.blk hx) (px_var (pe_var (i := 0) rfl (.inr (.inl rfl)))) (px_var (pe_var (i := 2) rfl (.inl rfl)))) (pa_consD (px_ix (Fit.blk hx) (px_var (pe_var (i := 1) rfl (.inr (.inl rfl)))) (px_var (pe_var (i := 2) rfl (.inl rfl)))) pa_nilD))))))) (fun _ _ _ _ _ => (px_var (pe_var (i := 2) rfl (.inl rfl))))) (px_lst (fr := true) pa_nilD))))))
 tss_nil)
 (tss_cons (ts_if (PW.pt (ptw_or (pt_cmp cmp_is (px_var (pe_var (i := 1) rfl (.inr (.inl rfl)))) px_non) (ptw_or1 (pt_tru hx.K (px_isi isi_str hx.K rfl kt.n_isinstance rfl kt.n_str (by decide +kernel) (px_var (pe_var (i := 1) rfl (.inr (.inl rfl)))))))))
 (tss_one (ts_ret (px_and (px_cmp (cmp_eq hx) (px_var (pe_var (i := 0) rfl (.inr (.inl rfl)))) (px_var (pe_var (i := 1) rfl (.inr (.inl rfl))))) (px_one (px_cmp (cmp_eq hx) (px_isi isi_str hx.K rfl kt.n_isinstance rfl kt.n_str (by decide +kernel) (px_var (pe_var (i := 0) rfl (.inr (.inl rfl))))) (px_isi isi_str hx.K rfl kt.n_isinstance rfl kt.n_str (by decide +kernel) (px_var (pe_var (i := 1) rfl (.inr (.inl rfl))))))))))
 tss_nil)
 (tss_one (ts_ret (px_and (px_isi isi_int hx.K rfl kt.n_isinstance rfl kt.n_int (by decide +kernel) (px_var (pe_var (i := 0) rfl (.inr (.inl rfl))))) (px_and (px_cmp (cmp_eq hx) (px_isi isi_bool hx.K rfl kt.n_isinstance rfl kt.n_bool (by decide +kernel) (px_var (pe_var (i := 0) rfl (.inr (.inl rfl))))) (px_isi isi_bool hx.K rfl kt.n_isinstance rfl kt.n_bool (by decide +kernel) (px_var (pe_var (i := 1) rfl (.inr (.inl rfl)))))) (px_one (px_cmp (cmp_eq hx) (px_var (pe_var (i := 0) rfl (.inr (.inl rfl)))) (px_var (pe_var (i := 1) rfl (.inr (.inl rfl))))))))))))
  exact fn_of_data F gm h (F.bindsN fun _ _ _ _ _ _ us hl => match us, hl with | [_, _], _ => rfl)
theorem fn__law_alike0 {W : Wd} {mg : Str → Option Value} {base : Heap} {f : Addr} {fd : FuncData} (F : FnP W.K "_law_alike" 50 f fd) (gm : mg "_law_alike" = some (.ref f)) : Fn W.P W.w W.K mg base W 0 "_law_alike" 2 g__law_alike0 := by
  refine fn_of_data F gm (ps := ps__law_alike) ⟨fun vs H Q E h => h.1, fun A outer s H args us vs Q E hr e0 hb r hsp => ?_⟩ (F.bindsN fun _ _ _ _ _ _ us hl => match us, hl with | [_, _], _ => rfl)
  obtain ⟨_, ds, G, _, _, _, q⟩ := hsp
  exact q.elim
theorem fn__law_alike {W : Wd} {mg : Str → Option Value} {base : Heap} {f : Addr} {fd : FuncData} (kt : Kit mg) (F : FnP W.K "_law_alike" 50 f fd) (gm : mg "_law_alike" = some (.ref f)) : Fn W.P W.w W.K mg base W 2 "_law_alike" 2 g__law_alike2 :=
  fn__law_alikeS kt (fn__law_alikeS kt (fn__law_alike0 F gm) F gm) F gm
abbrev N_law : List Str := ["_law_script", "_law_row", "_law_arms", "_law_length", "_law_lands", "_law_k", "_law_chart", "_law_prices", "_law_other", "_law_least_here", "_law_found", "_law_every", "_law_one", "_law_best", "_law_word", "_law_steps", "_law_value", "_law_due", "_law_paper", "_law_some", "_law_numbers", "_law_here"]
noncomputable def F_law : Sv := (sSeq (sTgt0 (gTup3 2 3 4) (eCall (kFn 2 g__law_island) (lCons (eVar 1) (lCons (eC (.int 2)) lNil))))
 (sSeq (sPar 6 7 (eCall (kFn 4 g__law_map) (lCons (eVar 1) (lCons (eVar 2) (lCons (eVar 3) (lCons (eVar 4) lNil))))) (eCall kTuple (lCons (eLc [5] (lRange (lCons (eVar 4) lNil)) (gVar 5) bYes (eCall (kFn 2 g__law_taken) (lCons (eVar 1) (lCons (eC (.int 6)) lNil)))) lNil)))
 (sSeq (sSet 8 (eIf (bCmp kGt (eCall (kFn 2 g__law_taken) (lCons (eVar 1) (lCons (eC (.int 3)) lNil))) (eC (.int 0))) (eIx (eCall (kFn 3 g__law_walk) (lCons (eVar 1) (lCons (eVar 6) (lCons (eCall (kFn 2 g__law_taken) (lCons (eVar 1) (lCons (eC (.int 8)) lNil))) lNil)))) (eC (.int 1))) (eCall (kFn 4 g__law_map) (lCons (eVar 1) (lCons (eVar 2) (lCons (eVar 3) (lCons (eVar 4) lNil)))))))
 (sSeq (sTgt0 (gTup2 9 10) (eTup (lCons (eCall (kFn 2 g__law_least) (lCons (eVar 6) (lCons (eVar 7) lNil))) (lCons (eCall (kFn 3 g_cheap_row) (lCons (eVar 6) (lCons (eVar 8) (lCons (eVar 7) lNil)))) lNil))))
 (sSeq (sSet 11 (eCall kSorted (lCons (eCall kListA (lCons (eVar 9) lNil)) lNil)))
 (sSeq (sIf (bOr (bNot (bTru (eCall (kFn 2 g__law_alike2) (lCons (eCall (kFn 2 g_cheapest_from) (lCons (eVar 6) (lCons (eVar 7) lNil))) (lCons (eCall kTuple (lCons (eLc [12] (lVar 11) (gVar 12) bYes (eIx (eVar 9) (eVar 12))) lNil)) lNil))))) (bCmp kNe (eCmp kIs (eVar 10) (eC .non)) (eCmp kNotIn (eVar 8) (eVar 9))))
 (sRet (eC (.bl false)))
 sNx)
 (sSeq (sIf (bCmp kIs (eVar 10) (eC .non))
 (sRet (eAnd (eCmp kIs (eCall (kFn 4 g_shows_cheap_row) (lCons (eVar 6) (lCons (eVar 8) (lCons (eVar 7) (lCons (eC .non) lNil))))) (eC (.bl true))) (eCmp kIs (eCall (kFn 4 g_shows_cheap_row) (lCons (eVar 6) (lCons (eVar 8) (lCons (eVar 7) (lCons (eTup (lCons (eC (.int 0)) (lCons (eTup lNil) lNil))) lNil))))) (eC (.bl false)))))
 sNx)
 (sSeq (sTgt0 (gTup2 13 14) (eImm (eVar 10)))
 (sSeq (sIf (bOr (bCmp kNe (eVar 13) (eIx (eVar 9) (eVar 8))) (bOr (bNot (bTru (eIsi kIsTup (eVar 14)))) (bOr (bCmp kGt (eCall kLen (lCons (eVar 14) lNil)) (eC (.int 2000))) (bCmp kNe (eCall (kFn 3 g__law_price) (lCons (eVar 6) (lCons (eVar 7) (lCons (eVar 14) lNil)))) (eTup (lCons (eVar 13) (lCons (eVar 8) lNil)))))))
 (sRet (eC (.bl false)))
 sNx)
 (sSeq (sSet 15 (eIx (eCall (kFn 3 g__law_walk) (lCons (eVar 1) (lCons (eVar 6) (lCons (eC (.int 3)) lNil)))) (eC (.int 0))))
 (sSeq (sFor (gVar 16) (lNew (eLst (lCons (eImm (eVar 10)) (lCons (eCall kListA (lCons (eVar 10) lNil)) (lCons (eTup (lCons (eAddF (eVar 13) (eC (.int 1))) (lCons (eImm (eVar 14)) lNil))) (lCons (eTup (lCons (eImm (eVar 13)) (lCons (eCall kListA (lCons (eVar 14) lNil)) lNil))) (lCons (eTup (lCons (eImm (eVar 13)) (lCons (eCut (eImm (eVar 14)) (oSome (eC (.int 1))) oNone) lNil))) (lCons (eTup (lCons (eImm (eVar 13)) (lCons (eImm (eVar 15)) lNil))) (lCons (eC .non) (lCons (eC (.int 3)) (lCons (eTup (lCons (eImm (eVar 13)) (lCons (eAddF (eVar 14) (eTup (lCons (eTup (lCons (eVar 4) (lCons (eC (.int 0)) lNil))) lNil))) lNil))) lNil)))))))))))
 (sSeq (sSet 17 (eAnd (eIsi kIsTup (eVar 16)) (eAnd (eCmp kEq (eCall kLen (lCons (eVar 16) lNil)) (eC (.int 2))) (eAnd (eCmp kEq (eIx (eVar 16) (eC (.int 0))) (eVar 13)) (eIsi kIsTup (eIx (eVar 16) (eC (.int 1))))))))
 (sSeq (sSet 17 (eAnd (eVar 17) (eCmp kEq (eCall (kFn 3 g__law_price) (lCons (eVar 6) (lCons (eVar 7) (lCons (eIx (eVar 16) (eC (.int 1))) lNil)))) (eTup (lCons (eVar 13) (lCons (eVar 8) lNil))))))
 (sIf (bNot (bTru (eCall (kFn 2 g__law_alike2) (lCons (eCall (kFn 4 g_shows_cheap_row) (lCons (eVar 6) (lCons (eVar 8) (lCons (eVar 7) (lCons (eVar 16) lNil))))) (lCons (eVar 17) lNil)))))
 (sRet (eC (.bl false)))
 sNx))))
 (sSeq (sSet 18 (eCall kTuple (lCons (eLc [12] (lVar 11) (gVar 12) bYes (eIx (eVar 9) (eVar 12))) lNil)))
 (sSeq (sSet 19 (eLst (lCons (eImm (eVar 18)) (lCons (eCall kListA (lCons (eVar 18) lNil)) (lCons (eCut (eImm (eVar 18)) (oSome (eC (.int 1))) oNone) (lCons (e1 (eImm (eVar 18)) kRevT) (lCons (eCall kTuple (lCons (eLc [12] (lVar 18) (gVar 12) bYes (eAddF (eVar 12) (eC (.int 1)))) lNil)) (lCons (e2 (eTup (lCons (eC (.int 0)) lNil)) (eCall kLen (lCons (eVar 18) lNil)) kRep) (lCons (eC .non) lNil)))))))))
 (sSeq (sFor (gVar 5) (lRange (lCons (eCall kMin2 (lCons (eC (.int 6)) (lCons (eCall kLen (lCons (eVar 18) lNil)) lNil))) lNil))
 (sApp 19 (eAddF (eAddF (eCut (eVar 18) oNone (oSome (eVar 5))) (eTup (lCons (eSub (eAddF (eIx (eVar 18) (eVar 5)) (eC (.int 1))) (eMul (eC (.int 2)) (eCall (kFn 2 g__law_taken) (lCons (eVar 1) (lCons (eC (.int 2)) lNil))))) lNil))) (eCut (eVar 18) (oSome (eAddF (eVar 5) (eC (.int 1)))) oNone))))
 (sLess (sSeq (sFor (gVar 16) (lVar 19)
 (sSeq (sSet 17 (eAnd (eIsi kIsTup (eVar 16)) (eCmp kEq (eCall kLen (lCons (eVar 16) lNil)) (eCall kLen (lCons (eVar 11) lNil)))))
 (sSeq (sIf (bTru (eVar 17))
 (sSeq (sSet 20 eDict0)
 (sSeq (sFor (gVar 5) (lRange (lCons (eCall kLen (lCons (eVar 11) lNil)) lNil))
 (sPut 20 (eIx (eVar 11) (eVar 5)) (eIx (eVar 16) (eVar 5))))
 (sSeq (sSet 17 (eAnd (eCmp kEq (eIx (eVar 20) (eVar 6)) (eC (.int 0))) (eCmp kEq (eIx (eVar 20) (eVar 8)) (eVar 13))))
 (sFor (gVar 21) (lVar 11)
 (sFor (gVar 12) (lNew (eCall (kFn 1 g__law_takings) (lCons (eVar 21) lNil)))
 (sSet 17 (eAnd (eVar 17) (eCmp kLe (eSub (eIx (eVar 20) (eCall (kFn 2 g__law_behind) (lCons (eVar 21) (lCons (eVar 12) lNil)))) (eIx (eVar 20) (eVar 21))) (eIx (eVar 7) (eIx (eVar 12) (eC (.int 0))))))))))))
 sNx)
 (sIf (bNot (bTru (eCall (kFn 2 g__law_alike2) (lCons (eCall (kFn 4 g_shows_price_paper) (lCons (eVar 6) (lCons (eVar 8) (lCons (eVar 7) (lCons (eVar 16) lNil))))) (lCons (eVar 17) lNil)))))
 (sRet (eC (.bl false)))
 sNx))))
 (sRet (eC (.bl true)))))))))))))))))))
theorem sc_law : FnScope N_law ["_law_script"] (defScope (top 61)) := ⟨rfl, rfl, rfl, by decide +kernel, rfl, by decide +kernel, by decide +kernel⟩
theorem der_law {W : Wd} {mg : Str → Option Value} {base : Heap} {f : Addr} (kt : Kit mg)
    (c__law_island : Fn W.P W.w W.K mg base W 2 "_law_island" 2 g__law_island)
    (c__law_map : Fn W.P W.w W.K mg base W 3 "_law_map" 4 g__law_map)
    (c__law_taken : Fn W.P W.w W.K mg base W 1 "_law_taken" 2 g__law_taken)
    (c__law_walk : Fn W.P W.w W.K mg base W 4 "_law_walk" 3 g__law_walk)
    (c__law_least : Fn W.P W.w W.K mg base W 4 "_law_least" 2 g__law_least)
    (c_cheap_row : Fn W.P W.w W.K mg base W 9 "cheap_row" 3 g_cheap_row)
    (c_cheapest_from : Fn W.P W.w W.K mg base W 7 "cheapest_from" 2 g_cheapest_from)
    (c__law_alike : Fn W.P W.w W.K mg base W 2 "_law_alike" 2 g__law_alike2)
    (c_shows_cheap_row : Fn W.P W.w W.K mg base W 9 "shows_cheap_row" 4 g_shows_cheap_row)
    (c__law_price : Fn W.P W.w W.K mg base W 4 "_law_price" 3 g__law_price)
    (c__law_takings : Fn W.P W.w W.K mg base W 3 "_law_takings" 1 g__law_takings)
    (c__law_behind : Fn W.P W.w W.K mg base W 1 "_law_behind" 2 g__law_behind)
    (c_shows_price_paper : Fn W.P W.w W.K mg base W 8 "shows_price_paper" 4 g_shows_price_paper)
    {cdv : Value} {A : Around} {outer : List Env} {s : Shared} {H : Hp} {E : XK} (hr : Room 9 (A.deeper (envOfC "law" (defScope (top 61)) s.heap.objs.size f cdv))) :
    PSs (cxOf CX0 W.P W.w W.K mg base N_law "law" (defScope (top 61)) f cdv A outer s H E).nox (defBody (top 61)).tail (tsOf W [19, 20] F_law) := by
  have hx := fit_of (W := W) (mg := mg) (base := base) (N := N_law) (outer := outer) (E := E) (H := H) sc_law.nd hr
  exact (tss_cons (ts_tgtF (tg_tup3 hx rfl rfl rfl (.inl rfl) (.inl rfl) (.inl rfl) (by decide) (by decide) (by decide)) (px_callF c__law_island (hr.mono (by decide)) rfl (pa_consD (px_var (pe_var (i := 1) rfl (.inr (.inl rfl)))) (pa_consD (px_any px_int) pa_nilD))))
 (tss_cons (ts_par hx.calm hx.nd (i := 6) (j := 7) rfl rfl (by decide) rfl rfl (px_callF c__law_map (hr.mono (by decide)) rfl (pa_consD (px_var (pe_var (i := 1) rfl (.inr (.inl rfl)))) (pa_consD (px_var (pe_var (i := 2) rfl (.inl rfl))) (pa_consD (px_var (pe_var (i := 3) rfl (.inl rfl))) (pa_consD (px_var (pe_var (i := 4) rfl (.inl rfl))) pa_nilD))))) (px_callT call_tuple rfl kt.n_tuple (by decide +kernel) (pa_consD (px_any (px_lc (own := [("_law_k", 5)]) hx (ti_range rfl kt.n_range (pa_consD (px_var (pe_var (i := 4) rfl (.inl rfl))) pa_nilD)) (blk_ok (by kernel_rfl)) (fun _ _ _ _ _ => (tg_name hx.nd rfl (.inl rfl) (by decide))) (fun _ _ _ _ _ => pts_nilD) (fun _ _ _ _ _ => (px_callF c__law_taken (hr.mono (by decide)) rfl (pa_consD (px_var (pe_var (i := 1) rfl (.inr (.inl rfl)))) (pa_consD (px_any px_int) pa_nilD)))))) pa_nilD)) (.inr rfl) (.inr rfl) rfl)
 (tss_cons (ts_set hx.nd (i := 8) rfl (.inl rfl) (px_if (pt_cmp cmp_gt (px_callF c__law_taken (hr.mono (by decide)) rfl (pa_consD (px_var (pe_var (i := 1) rfl (.inr (.inl rfl)))) (pa_consD (px_any px_int) pa_nilD))) px_int) (px_ix hx (px_callF c__law_walk (hr.mono (by decide)) rfl (pa_consD (px_var (pe_var (i := 1) rfl (.inr (.inl rfl)))) (pa_consD (px_var (pe_var (i := 6) rfl (.inl rfl))) (pa_consD (px_any (px_callF c__law_taken (hr.mono (by decide)) rfl (pa_consD (px_var (pe_var (i := 1) rfl (.inr (.inl rfl)))) (pa_consD (px_any px_int) pa_nilD)))) pa_nilD)))) px_int) (px_callF c__law_map (hr.mono (by decide)) rfl (pa_consD (px_var (pe_var (i := 1) rfl (.inr (.inl rfl)))) (pa_consD (px_var (pe_var (i := 2) rfl (.inl rfl))) (pa_consD (px_var (pe_var (i := 3) rfl (.inl rfl))) (pa_consD (px_var (pe_var (i := 4) rfl (.inl rfl))) pa_nilD)))))) (.inr rfl))
 (tss_cons (ts_tgtF (tg_tup2 hx rfl rfl (.inr rfl) (.inl rfl) (by decide) (by decide)) (px_tup (pa_consD (px_callF c__law_least (hr.mono (by decide)) rfl (pa_consD (px_var (pe_var (i := 6) rfl (.inl rfl))) (pa_consD (px_var (pe_var (i := 7) rfl (.inl rfl))) pa_nilD))) (pa_consD (px_callF c_cheap_row (hr.mono (by decide)) rfl (pa_consD (px_var (pe_var (i := 6) rfl (.inl rfl))) (pa_consD (px_var (pe_var (i := 8) rfl (.inl rfl))) (pa_consD (px_var (pe_var (i := 7) rfl (.inl rfl))) pa_nilD)))) pa_nilD))))
 (tss_cons (ts_set hx.nd (i := 11) rfl (.inl rfl) (px_callB (call_sorted hx) rfl kt.n_sorted (by decide +kernel) (pa_consD (px_any (px_callT (call_listA hx) rfl kt.n_list (by decide +kernel) (pa_consD (px_var (pe_var (i := 9) rfl (.inr (.inl rfl)))) pa_nilD))) pa_nilD)) (.inr rfl))
 (tss_cons (ts_if (PW.pt (ptw_or (ptt_not (pt_tru hx.K (px_callF c__law_alike (hr.mono (by decide)) rfl (pa_consD (px_any (px_callF c_cheapest_from (hr.mono (by decide)) rfl (pa_consD (px_var (pe_var (i := 6) rfl (.inl rfl))) (pa_consD (px_var (pe_var (i := 7) rfl (.inl rfl))) pa_nilD)))) (pa_consD (px_any (px_callT call_tuple rfl kt.n_tuple (by decide +kernel) (pa_consD (px_any (px_lc (own := [("_law_one", 12)]) hx (ti_var hx (pe_var (i := 11) rfl (.inl rfl)) (by decide)) (blk_ok (by kernel_rfl)) (fun _ _ _ _ _ => (tg_name hx.nd rfl (.inl rfl) (by decide))) (fun _ _ _ _ _ => pts_nilD) (fun _ _ _ _ _ => (px_ix (Fit.blk hx) (px_var (pe_var (i := 9) rfl (.inr (.inl rfl)))) (px_var (pe_var (i := 12) rfl (.inl rfl))))))) pa_nilD))) pa_nilD))))) (ptw_or1 (pt_cmp (cmp_ne hx) (px_cmp cmp_is (px_var (pe_var (i := 10) rfl (.inl rfl))) px_non) (px_cmp (cmp_notin hx) (px_var (pe_var (i := 8) rfl (.inl rfl))) (px_var (pe_var (i := 9) rfl (.inr (.inl rfl)))))))))
 (tss_one (ts_ret px_bl))
 tss_nil)
 (tss_cons (ts_if (pt_cmp cmp_is (px_var (pe_var (i := 10) rfl (.inl rfl))) px_non)
 (tss_one (ts_ret (px_and (px_cmp cmp_is (px_callF c_shows_cheap_row (hr.mono (by decide)) rfl (pa_consD (px_var (pe_var (i := 6) rfl (.inl rfl))) (pa_consD (px_var (pe_var (i := 8) rfl (.inl rfl))) (pa_consD (px_var (pe_var (i := 7) rfl (.inl rfl))) (pa_consD (px_any px_non) pa_nilD))))) px_bl) (px_one (px_cmp cmp_is (px_callF c_shows_cheap_row (hr.mono (by decide)) rfl (pa_consD (px_var (pe_var (i := 6) rfl (.inl rfl))) (pa_consD (px_var (pe_var (i := 8) rfl (.inl rfl))) (pa_consD (px_var (pe_var (i := 7) rfl (.inl rfl))) (pa_consD (px_any (px_tup (pa_consD px_int (pa_consD (px_tup (fr := true) pa_nilD) pa_nilD)))) pa_nilD))))) px_bl)))))
 tss_nil)
 (tss_cons (ts_tgtF (tg_tup2 hx rfl rfl (.inl rfl) (.inl rfl) (by decide) (by decide)) (px_imm (px_var (pe_var (i := 10) rfl (.inl rfl)))))
 (tss_cons (ts_if (PW.pt (ptw_or (pt_cmp (cmp_ne hx) (px_var (pe_var (i := 13) rfl (.inl rfl))) (px_ix hx (px_var (pe_var (i := 9) rfl (.inr (.inl rfl)))) (px_var (pe_var (i := 8) rfl (.inl rfl))))) (ptw_or (ptt_not (pt_tru hx.K (px_isi isi_tup hx.K rfl kt.n_isinstance rfl kt.n_tuple (by decide +kernel) (px_var (pe_var (i := 14) rfl (.inl rfl)))))) (ptw_or (pt_cmp cmp_gt (px_callB call_len rfl kt.n_len (by decide +kernel) (pa_consD (px_var (pe_var (i := 14) rfl (.inl rfl))) pa_nilD)) px_int) (ptw_or1 (pt_cmp (cmp_ne hx) (px_callF c__law_price (hr.mono (by decide)) rfl (pa_consD (px_var (pe_var (i := 6) rfl (.inl rfl))) (pa_consD (px_var (pe_var (i := 7) rfl (.inl rfl))) (pa_consD (px_var (pe_var (i := 14) rfl (.inl rfl))) pa_nilD)))) (px_tup (pa_consD (px_var (pe_var (i := 13) rfl (.inl rfl))) (pa_consD (px_var (pe_var (i := 8) rfl (.inl rfl))) pa_nilD)))))))))
 (tss_one (ts_ret px_bl))
 tss_nil)
 (tss_cons (ts_set hx.nd (i := 15) rfl (.inl rfl) (px_ix hx (px_callF c__law_walk (hr.mono (by decide)) rfl (pa_consD (px_var (pe_var (i := 1) rfl (.inr (.inl rfl)))) (pa_consD (px_var (pe_var (i := 6) rfl (.inl rfl))) (pa_consD (px_any px_int) pa_nilD)))) px_int) (.inr rfl))
 (tss_cons (ts_for hx PassesOwn.never (ti_new hx (px_lst (pa_consD (px_imm (px_var (pe_var (i := 10) rfl (.inl rfl)))) (pa_consD (px_callT (call_listA hx) rfl kt.n_list (by decide +kernel) (pa_consD (px_var (pe_var (i := 10) rfl (.inl rfl))) pa_nilD)) (pa_consD (px_tup (pa_consD (px_addF (px_var (pe_var (i := 13) rfl (.inl rfl))) px_int) (pa_consD (px_imm (px_var (pe_var (i := 14) rfl (.inl rfl)))) pa_nilD))) (pa_consD (px_tup (pa_consD (px_imm (px_var (pe_var (i := 13) rfl (.inl rfl)))) (pa_consD (px_callT (call_listA hx) rfl kt.n_list (by decide +kernel) (pa_consD (px_var (pe_var (i := 14) rfl (.inl rfl))) pa_nilD)) pa_nilD))) (pa_consD (px_tup (pa_consD (px_imm (px_var (pe_var (i := 13) rfl (.inl rfl)))) (pa_consD (px_cut (po_someD px_int) po_noneD hx.K (px_imm (px_var (pe_var (i := 14) rfl (.inl rfl))))) pa_nilD))) (pa_consD (px_tup (pa_consD (px_imm (px_var (pe_var (i := 13) rfl (.inl rfl)))) (pa_consD (px_imm (px_var (pe_var (i := 15) rfl (.inl rfl)))) pa_nilD))) (pa_consD px_non (pa_consD px_int (pa_consD (px_tup (pa_consD (px_imm (px_var (pe_var (i := 13) rfl (.inl rfl)))) (pa_consD (px_addF (px_var (pe_var (i := 14) rfl (.inl rfl))) (px_tup (pa_consD (px_tup (pa_consD (px_var (pe_var (i := 4) rfl (.inl rfl))) (pa_consD (px_any px_int) pa_nilD))) pa_nilD))) pa_nilD))) pa_nilD))))))))))) (tg_name hx.nd rfl (.inl rfl) (by decide))
 (tss_cons (ts_set hx.nd (i := 17) rfl (.inl rfl) (px_and (px_isi isi_tup hx.K rfl kt.n_isinstance rfl kt.n_tuple (by decide +kernel) (px_var (pe_var (i := 16) rfl (.inl rfl)))) (px_and (px_cmp (cmp_eq hx) (px_callB call_len rfl kt.n_len (by decide +kernel) (pa_consD (px_var (pe_var (i := 16) rfl (.inl rfl))) pa_nilD)) px_int) (px_and (px_cmp (cmp_eq hx) (px_ix hx (px_var (pe_var (i := 16) rfl (.inl rfl))) px_int) (px_var (pe_var (i := 13) rfl (.inl rfl)))) (px_one (px_isi isi_tup hx.K rfl kt.n_isinstance rfl kt.n_tuple (by decide +kernel) (px_ix hx (px_var (pe_var (i := 16) rfl (.inl rfl))) px_int)))))) (.inr rfl))
 (tss_cons (ts_set hx.nd (i := 17) rfl (.inl rfl) (px_and (px_var (pe_var (i := 17) rfl (.inl rfl))) (px_one (px_cmp (cmp_eq hx) (px_callF c__law_price (hr.mono (by decide)) rfl (pa_consD (px_var (pe_var (i := 6) rfl (.inl rfl))) (pa_consD (px_var (pe_var (i := 7) rfl (.inl rfl))) (pa_consD (px_ix hx (px_var (pe_var (i := 16) rfl (.inl rfl))) px_int) pa_nilD)))) (px_tup (pa_consD (px_var (pe_var (i := 13) rfl (.inl rfl))) (pa_consD (px_var (pe_var (i := 8) rfl (.inl rfl))) pa_nilD)))))) (.inr rfl))
 (tss_one (ts_if (ptt_not (pt_tru hx.K (px_callF c__law_alike (hr.mono (by decide)) rfl (pa_consD (px_any (px_callF c_shows_cheap_row (hr.mono (by decide)) rfl (pa_consD (px_var (pe_var (i := 6) rfl (.inl rfl))) (pa_consD (px_var (pe_var (i := 8) rfl (.inl rfl))) (pa_consD (px_var (pe_var (i := 7) rfl (.inl rfl))) (pa_consD (px_var (pe_var (i := 16) rfl (.inl rfl))) pa_nilD)))))) (pa_consD (px_var (pe_var (i := 17) rfl (.inl rfl))) pa_nilD)))))
 (tss_one (ts_ret px_bl))
 tss_nil)))))
 (tss_cons (ts_set hx.nd (i := 18) rfl (.inl rfl) (px_callT call_tuple rfl kt.n_tuple (by decide +kernel) (pa_consD (px_any (px_lc (own := [("_law_one", 12)]) hx (ti_var hx (pe_var (i := 11) rfl (.inl rfl)) (by decide)) (blk_ok (by kernel_rfl)) (fun _ _ _ _ _ => (tg_name hx.nd rfl (.inl rfl) (by decide))) (fun _ _ _ _ _ => pts_nilD) (fun _ _ _ _ _ => (px_ix (Fit.blk hx) (px_var (pe_var (i := 9) rfl (.inr (.inl rfl)))) (px_var (pe_var (i := 12) rfl (.inl rfl))))))) pa_nilD)) (.inr rfl))
 (tss_cons (ts_set hx.nd (i := 19) rfl (.inl rfl) (px_lst (pa_consD (px_imm (px_var (pe_var (i := 18) rfl (.inl rfl)))) (pa_consD (px_callT (call_listA hx) rfl kt.n_list (by decide +kernel) (pa_consD (px_var (pe_var (i := 18) rfl (.inl rfl))) pa_nilD)) (pa_consD (px_cut (po_someD px_int) po_noneD hx.K (px_imm (px_var (pe_var (i := 18) rfl (.inl rfl))))) (pa_consD (px_revT (px_imm (px_var (pe_var (i := 18) rfl (.inl rfl))))) (pa_consD (px_callT call_tuple rfl kt.n_tuple (by decide +kernel) (pa_consD (px_any (px_lc (own := [("_law_one", 12)]) hx (ti_var hx (pe_var (i := 18) rfl (.inl rfl)) (by decide)) (blk_ok (by kernel_rfl)) (fun _ _ _ _ _ => (tg_name hx.nd rfl (.inl rfl) (by decide))) (fun _ _ _ _ _ => pts_nilD) (fun _ _ _ _ _ => (px_addF (px_var (pe_var (i := 12) rfl (.inl rfl))) px_int)))) pa_nilD)) (pa_consD (px_rep hx.K (px_tup (pa_consD px_int pa_nilD)) (px_callB call_len rfl kt.n_len (by decide +kernel) (pa_consD (px_var (pe_var (i := 18) rfl (.inl rfl))) pa_nilD))) (pa_consD px_non pa_nilD)))))))) (.inr rfl))
 (tss_cons (ts_for hx PassesOwn.never (ti_range rfl kt.n_range (pa_consD (px_any (px_callB (call_min2 hx) rfl kt.n_min (by decide +kernel) (pa_consD (px_any px_int) (pa_consD (px_any (px_callB call_len rfl kt.n_len (by decide +kernel) (pa_consD (px_var (pe_var (i := 18) rfl (.inl rfl))) pa_nilD))) pa_nilD)))) pa_nilD)) (tg_name hx.nd rfl (.inl rfl) (by decide))
 (tss_one (ts_app hx.K (pe_var (i := 19) rfl (.inl rfl)) (by decide) (px_addF (px_addF (px_cut po_noneD (po_someD (px_var (pe_var (i := 5) rfl (.inl rfl)))) hx.K (px_var (pe_var (i := 18) rfl (.inl rfl)))) (px_tup (pa_consD (px_sub (px_addF (px_ix hx (px_var (pe_var (i := 18) rfl (.inl rfl))) (px_var (pe_var (i := 5) rfl (.inl rfl)))) px_int) (px_mul px_int (px_callF c__law_taken (hr.mono (by decide)) rfl (pa_consD (px_var (pe_var (i := 1) rfl (.inr (.inl rfl)))) (pa_consD (px_any px_int) pa_nilD))))) pa_nilD))) (px_cut (po_someD (px_addF (px_var (pe_var (i := 5) rfl (.inl rfl))) px_int)) po_noneD hx.K (px_var (pe_var (i := 18) rfl (.inl rfl))))))))
 (tss_less (ms' := [20]) (tss_cons (ts_for hx PassesOwn.never (ti_var hx (pe_var (i := 19) rfl (.inl rfl)) (by decide)) (tg_name hx.nd rfl (.inl rfl) (by decide))
 (tss_cons (ts_set hx.nd (i := 17) rfl (.inl rfl) (px_and (px_isi isi_tup hx.K rfl kt.n_isinstance rfl kt.n_tuple (by decide +kernel) (px_var (pe_var (i := 16) rfl (.inl rfl)))) (px_one (px_cmp (cmp_eq hx) (px_callB call_len rfl kt.n_len (by decide +kernel) (pa_consD (px_var (pe_var (i := 16) rfl (.inl rfl))) pa_nilD)) (px_callB call_len rfl kt.n_len (by decide +kernel) (pa_consD (px_var (pe_var (i := 11) rfl (.inl rfl))) pa_nilD))))) (.inr rfl))
 (tss_cons (ts_if (pt_tru hx.K (px_var (pe_var (i := 17) rfl (.inl rfl))))
 (tss_cons (ts_set hx.nd (i := 20) rfl (.inl rfl) px_dict0 (.inr rfl))
 (tss_cons (ts_for hx PassesOwn.never (ti_range rfl kt.n_range (pa_consD (px_any (px_callB call_len rfl kt.n_len (by decide +kernel) (pa_consD (px_var (pe_var (i := 11) rfl (.inl rfl))) pa_nilD))) pa_nilD)) (tg_name hx.nd rfl (.inl rfl) (by decide))
 (tss_one (ts_put hx (pe_var (i := 20) rfl (.inl rfl)) (by decide) (px_ix hx (px_var (pe_var (i := 11) rfl (.inl rfl))) (px_var (pe_var (i := 5) rfl (.inl rfl)))) (px_ix hx (px_var (pe_var (i := 16) rfl (.inl rfl))) (px_var (pe_var (i := 5) rfl (.inl rfl)))))))
 (tss_cons (ts_set hx.nd (i := 17) rfl (.inl rfl) (px_and (px_cmp (cmp_eq hx) (px_ix hx (px_var (pe_var (i := 20) rfl (.inl rfl))) (px_var (pe_var (i := 6) rfl (.inl rfl)))) px_int) (px_one (px_cmp (cmp_eq hx) (px_ix hx (px_var (pe_var (i := 20) rfl (.inl rfl))) (px_var (pe_var (i := 8) rfl (.inl rfl)))) (px_var (pe_var (i := 13) rfl (.inl rfl)))))) (.inr rfl))
 (tss_one (ts_for hx PassesOwn.never (ti_var hx (pe_var (i := 11) rfl (.inl rfl)) (by decide)) (tg_name hx.nd rfl (.inl rfl) (by decide))
 (tss_one (ts_for hx PassesOwn.never (ti_new hx (px_callF c__law_takings (hr.mono (by decide)) rfl (pa_consD (px_var (pe_var (i := 21) rfl (.inl rfl))) pa_nilD))) (tg_name hx.nd rfl (.inl rfl) (by decide))
 (tss_one (ts_set hx.nd (i := 17) rfl (.inl rfl) (px_and (px_var (pe_var (i := 17) rfl (.inl rfl))) (px_one (px_cmp cmp_le (px_sub (px_ix hx (px_var (pe_var (i := 20) rfl (.inl rfl))) (px_callF c__law_behind (hr.mono (by decide)) rfl (pa_consD (px_var (pe_var (i := 21) rfl (.inl rfl))) (pa_consD (px_var (pe_var (i := 12) rfl (.inl rfl))) pa_nilD)))) (px_ix hx (px_var (pe_var (i := 20) rfl (.inl rfl))) (px_var (pe_var (i := 21) rfl (.inl rfl))))) (px_ix hx (px_var (pe_var (i := 7) rfl (.inl rfl))) (px_ix hx (px_var (pe_var (i := 12) rfl (.inl rfl))) px_int))))) (.inr rfl))))))))))
 tss_nil)
 (tss_one (ts_if (ptt_not (pt_tru hx.K (px_callF c__law_alike (hr.mono (by decide)) rfl (pa_consD (px_any (px_callF c_shows_price_paper (hr.mono (by decide)) rfl (pa_consD (px_var (pe_var (i := 6) rfl (.inl rfl))) (pa_consD (px_var (pe_var (i := 8) rfl (.inl rfl))) (pa_consD (px_var (pe_var (i := 7) rfl (.inl rfl))) (pa_consD (px_var (pe_var (i := 16) rfl (.inl rfl))) pa_nilD)))))) (pa_consD (px_var (pe_var (i := 17) rfl (.inl rfl))) pa_nilD)))))
 (tss_one (ts_ret px_bl))
 tss_nil)))))
 (tss_one (ts_ret px_bl))) (by decide))))))))))))))))
end Sl
end S_Sn2
noncomputable section S_Sn3
set_option Elab.async false
set_option linter.all false
set_option maxRecDepth 100000
set_option maxHeartbeats 1000000
namespace Sl
open PySem PySem.Spec PyProof.Rows L2

/-- the def x of the module, the i-th statement -/
def Has (K : PySem.W.Frag) (mg : Str → Option Value) (x : Str) (i : Nat) : Prop := ∃ f fd, FnP K x i f fd ∧ mg x = some (.ref f)
/-- .. with its code object's table -/
def HasC (W : Wd) (mg : Str → Option Value) (base : Heap) (x : Str) (i : Nat) : Prop := ∃ f fd c P, FnP W.K x i f fd ∧ mg x = some (.ref f) ∧ fd.code = .ref c ∧ P ∈ W.tabs ∧ GxR.TabB base mg c P

/-- the law's promise -/
def spLaw (W0 : Wd) : Sp := fun vs H Q _ => ∃ (a : Addr) (ns : List Int), vs = [.ref a] ∧ SqL W0.K H a (ns.map V.int) ∧ Good W0 H ∧ ∀ H', Q (.bl true) H'
/-- the slots where the row stands -/
def rho0 : Rho := ((List.replicate N_law.length none).set 1 (some .row))
theorem row_new {W0 : Wd} {H : Hp} {a p : Addr} {ns : List Int} (g : Good W0 H) (h0 : W0.row = none) (hp : H p = none) (hs : SqL W0.K H a (ns.map V.int)) : ∃ kc, Good { W0 with row := some ⟨p, a, ns, kc⟩ } (upd H p (.lst [.ref a, .int 0, .int 13913, .int 0])) := by
  have tabs : ∀ P ∈ W0.tabs, GxR.TabG (upd H p (.lst [.ref a, .int 0, .int 13913, .int 0])) P := fun P hP => by
    obtain ⟨ps, q, t⟩ := g.tab P hP
    exact ⟨ps, by rw [upd_ne (ne_of_none q hp)]; exact q, t⟩
  have row : RowAt (upd H p (.lst [.ref a, .int 0, .int 13913, .int 0])) p a := ⟨0, 13913, 0, upd_same, by decide, by decide, by decide⟩
  rcases hs with hs | hs
  · refine ⟨false, tabs, fun d e => ?_⟩
    cases e
    refine ⟨row, .inr ⟨rfl, ?_⟩⟩
    rcases hs with hs | ⟨u, hs⟩
    · exact .inl (by rw [upd_ne (ne_of_none hs hp)]; exact hs)
    · exact .inr ⟨u, by rw [upd_ne (ne_of_none hs hp)]; exact hs⟩
  · refine ⟨true, tabs, fun d e => ?_⟩
    cases e
    exact ⟨row, .inl ⟨rfl, fun H' => .inr hs⟩⟩

theorem ok_law {W0 : Wd} {mg : Str → Option Value} {base : Heap} {f : Addr} {fd : FuncData} (h0 : W0.row = none) (kt : Kit mg) (F : FnP W0.K "law" 61 f fd)
        (h__law_taken : Has W0.K mg "_law_taken" 48)
    (h__law_island : Has W0.K mg "_law_island" 58)
    (h__law_pick : Has W0.K mg "_law_pick" 49)
    (h__law_map : Has W0.K mg "_law_map" 53)
    (h__law_near : Has W0.K mg "_law_near" 51)
    (h__law_hangs : Has W0.K mg "_law_hangs" 52)
    (h__law_takings : Has W0.K mg "_law_takings" 54)
    (h__law_behind : Has W0.K mg "_law_behind" 55)
    (h__law_walk : Has W0.K mg "_law_walk" 57)
    (h__law_least : Has W0.K mg "_law_least" 59)
    (h_is_in : Has W0.K mg "is_in" 9)
    (h_held : Has W0.K mg "held" 13)
    (h_near : Has W0.K mg "near" 10)
    (h_hangs : Has W0.K mg "hangs" 12)
    (h_are_cells : HasC W0 mg base "are_cells" 14)
    (h_is_map : Has W0.K mg "is_map" 15)
    (h_need_map : Has W0.K mg "need_map" 16)
    (h_lands_of : Has W0.K mg "lands_of" 17)
    (h_need_two : Has W0.K mg "need_two" 34)
    (h_need_prices : HasC W0 mg base "need_prices" 38)
    (h_need_priced : Has W0.K mg "need_priced" 39)
    (h_length_of : Has W0.K mg "length_of" 11)
    (h_outward : Has W0.K mg "outward" 18)
    (h_bare_of : HasC W0 mg base "bare_of" 28)
    (h_freezes : Has W0.K mg "freezes" 29)
    (h_order_on : Has W0.K mg "order_on" 20)
    (h_all_orders : Has W0.K mg "all_orders" 21)
    (h_tips : Has W0.K mg "tips" 30)
    (h_key_of : Has W0.K mg "key_of" 32)
    (h_is_made : HasC W0 mg base "is_made" 24)
    (h_all_takings : Has W0.K mg "all_takings" 25)
    (h_taken : Has W0.K mg "taken" 26)
    (h_least_rows : Has W0.K mg "least_rows" 40)
    (h_row_to : Has W0.K mg "row_to" 41)
    (h_cheap_row : Has W0.K mg "cheap_row" 42)
    (h_cheapest_from : Has W0.K mg "cheapest_from" 45)
    (h__law_alike : Has W0.K mg "_law_alike" 50)
    (h_is_taking : Has W0.K mg "is_taking" 23)
    (h_price_of : Has W0.K mg "price_of" 43)
    (h_shows_cheap_row : Has W0.K mg "shows_cheap_row" 44)
    (h__law_price : Has W0.K mg "_law_price" 60)
    (h_shows_price_paper : HasC W0 mg base "shows_price_paper" 46)
    (plain : (F_law rho0).All fun o => o = .rt (.bl true)) : FnOk W0.P W0.w W0.K mg base CX0 10 f fd ["_law_script"] (spLaw W0) := by
  obtain ⟨oc, od, dV, kV, doc, pm, an, cdv, ct, osl, rfl, lk, hcd, _, _⟩ := F.ex
  refine fn_of lk hcd sc_law (fun vs H Q E h => by obtain ⟨a, ns, rfl, _⟩ := h; rfl) fun A outer s H vs Q E hr hsp => ?_
  have all : ∀ row : Option RowD, PSs (cxOf CX0 W0.P W0.w W0.K mg base N_law "law" (defScope (top 61)) f cdv A outer s H E).nox (defBody (top 61)).tail (tsOf { W0 with row := row } [19, 20] F_law) := by
    intro row
    have c__law_taken : Fn W0.P W0.w W0.K mg base { W0 with row := row } 1 "_law_taken" 2 g__law_taken := by
      obtain ⟨f, fd, F, gm⟩ := h__law_taken
      exact fn_of_data (W := { W0 with row := row }) F gm (ok__law_taken (W := { W0 with row := row }) kt F) (F.bindsN fun _ _ _ _ _ _ us hl => match us, hl with | [_, _], _ => rfl)
    have c__law_island : Fn W0.P W0.w W0.K mg base { W0 with row := row } 2 "_law_island" 2 g__law_island := by
      obtain ⟨f, fd, F, gm⟩ := h__law_island
      exact fn__law_island (W := { W0 with row := row }) kt c__law_taken F gm
    have c__law_pick : Fn W0.P W0.w W0.K mg base { W0 with row := row } 2 "_law_pick" 2 g__law_pick := by
      obtain ⟨f, fd, F, gm⟩ := h__law_pick
      exact fn__law_pick (W := { W0 with row := row }) kt c__law_taken F gm
    have c__law_map : Fn W0.P W0.w W0.K mg base { W0 with row := row } 3 "_law_map" 4 g__law_map := by
      obtain ⟨f, fd, F, gm⟩ := h__law_map
      exact fn__law_map (W := { W0 with row := row }) kt c__law_pick F gm
    have c__law_near : Fn W0.P W0.w W0.K mg base { W0 with row := row } 1 "_law_near" 3 g__law_near := by
      obtain ⟨f, fd, F, gm⟩ := h__law_near
      exact fn__law_near (W := { W0 with row := row }) kt  F gm
    have c__law_hangs : Fn W0.P W0.w W0.K mg base { W0 with row := row } 2 "_law_hangs" 3 g__law_hangs := by
      obtain ⟨f, fd, F, gm⟩ := h__law_hangs
      exact fn__law_hangs (W := { W0 with row := row }) kt c__law_near F gm
    have c__law_takings : Fn W0.P W0.w W0.K mg base { W0 with row := row } 3 "_law_takings" 1 g__law_takings := by
      obtain ⟨f, fd, F, gm⟩ := h__law_takings
      exact fn__law_takings (W := { W0 with row := row }) kt c__law_near c__law_hangs F gm
    have c__law_behind : Fn W0.P W0.w W0.K mg base { W0 with row := row } 1 "_law_behind" 2 g__law_behind := by
      obtain ⟨f, fd, F, gm⟩ := h__law_behind
      exact fn__law_behind (W := { W0 with row := row }) kt  F gm
    have c__law_walk : Fn W0.P W0.w W0.K mg base { W0 with row := row } 4 "_law_walk" 3 g__law_walk := by
      obtain ⟨f, fd, F, gm⟩ := h__law_walk
      exact fn__law_walk (W := { W0 with row := row }) kt c__law_takings c__law_pick c__law_behind F gm
    have c__law_least : Fn W0.P W0.w W0.K mg base { W0 with row := row } 4 "_law_least" 2 g__law_least := by
      obtain ⟨f, fd, F, gm⟩ := h__law_least
      exact fn__law_least (W := { W0 with row := row }) kt c__law_takings c__law_behind F gm
    have c_is_in : Fn W0.P W0.w W0.K mg base { W0 with row := row } 1 "is_in" 3 g_is_in := by
      obtain ⟨f, fd, F, gm⟩ := h_is_in
      exact fn_is_in (W := { W0 with row := row }) kt  F gm
    have c_held : Fn W0.P W0.w W0.K mg base { W0 with row := row } 1 "held" 2 g_held := by
      obtain ⟨f, fd, F, gm⟩ := h_held
      exact fn_held (W := { W0 with row := row }) kt  F gm
    have c_near : Fn W0.P W0.w W0.K mg base { W0 with row := row } 1 "near" 3 g_near := by
      obtain ⟨f, fd, F, gm⟩ := h_near
      exact fn_near (W := { W0 with row := row }) kt  F gm
    have c_hangs : Fn W0.P W0.w W0.K mg base { W0 with row := row } 2 "hangs" 3 g_hangs := by
      obtain ⟨f, fd, F, gm⟩ := h_hangs
      exact fn_hangs (W := { W0 with row := row }) kt c_near F gm
    have c_are_cells : Fn W0.P W0.w W0.K mg base { W0 with row := row } 4 "are_cells" 2 g_are_cells := by
      obtain ⟨f, fd, c, P, F, gm, hc, hP, tb⟩ := h_are_cells
      exact fn_are_cells (W := { W0 with row := row }) kt c_is_in c_held c_hangs hP tb hc F gm
    have c_is_map : Fn W0.P W0.w W0.K mg base { W0 with row := row } 5 "is_map" 1 g_is_map := by
      obtain ⟨f, fd, F, gm⟩ := h_is_map
      exact fn_is_map (W := { W0 with row := row }) kt c_is_in c_are_cells F gm
    have c_need_map : Fn W0.P W0.w W0.K mg base { W0 with row := row } 6 "need_map" 1 g_need_map := by
      obtain ⟨f, fd, F, gm⟩ := h_need_map
      exact fn_need_map (W := { W0 with row := row }) kt c_is_map F gm
    have c_lands_of : Fn W0.P W0.w W0.K mg base { W0 with row := row } 1 "lands_of" 1 g_lands_of := by
      obtain ⟨f, fd, F, gm⟩ := h_lands_of
      exact fn_lands_of (W := { W0 with row := row }) kt  F gm
    have c_need_two : Fn W0.P W0.w W0.K mg base { W0 with row := row } 7 "need_two" 2 g_need_two := by
      obtain ⟨f, fd, F, gm⟩ := h_need_two
      exact fn_need_two (W := { W0 with row := row }) kt c_need_map c_is_map c_lands_of F gm
    have c_need_prices : Fn W0.P W0.w W0.K mg base { W0 with row := row } 3 "need_prices" 2 g_need_prices := by
      obtain ⟨f, fd, c, P, F, gm, hc, hP, tb⟩ := h_need_prices
      exact fn_need_prices (W := { W0 with row := row }) kt c_lands_of c_is_in hP tb hc F gm
    have c_need_priced : Fn W0.P W0.w W0.K mg base { W0 with row := row } 8 "need_priced" 3 g_need_priced := by
      obtain ⟨f, fd, F, gm⟩ := h_need_priced
      exact fn_need_priced (W := { W0 with row := row }) kt c_need_two c_need_prices F gm
    have c_length_of : Fn W0.P W0.w W0.K mg base { W0 with row := row } 1 "length_of" 1 g_length_of := by
      obtain ⟨f, fd, F, gm⟩ := h_length_of
      exact fn_length_of (W := { W0 with row := row }) kt  F gm
    have c_outward : Fn W0.P W0.w W0.K mg base { W0 with row := row } 2 "outward" 2 g_outward := by
      obtain ⟨f, fd, F, gm⟩ := h_outward
      exact fn_outward (W := { W0 with row := row }) kt c_length_of F gm
    have c_bare_of : Fn W0.P W0.w W0.K mg base { W0 with row := row } 3 "bare_of" 1 g_bare_of := by
      obtain ⟨f, fd, c, P, F, gm, hc, hP, tb⟩ := h_bare_of
      exact fn_bare_of (W := { W0 with row := row }) kt c_outward hP tb hc F gm
    have c_freezes : Fn W0.P W0.w W0.K mg base { W0 with row := row } 4 "freezes" 1 g_freezes := by
      obtain ⟨f, fd, F, gm⟩ := h_freezes
      exact fn_freezes (W := { W0 with row := row }) kt c_bare_of F gm
    have c_order_on : Fn W0.P W0.w W0.K mg base { W0 with row := row } 3 "order_on" 2 g_order_on := by
      obtain ⟨f, fd, F, gm⟩ := h_order_on
      exact fn_order_on (W := { W0 with row := row }) kt c_outward F gm
    have c_all_orders : Fn W0.P W0.w W0.K mg base { W0 with row := row } 4 "all_orders" 1 g_all_orders := by
      obtain ⟨f, fd, F, gm⟩ := h_all_orders
      exact fn_all_orders (W := { W0 with row := row }) kt c_order_on F gm
    have c_tips : Fn W0.P W0.w W0.K mg base { W0 with row := row } 3 "tips" 1 g_tips := by
      obtain ⟨f, fd, F, gm⟩ := h_tips
      exact fn_tips (W := { W0 with row := row }) kt c_outward F gm
    have c_key_of : Fn W0.P W0.w W0.K mg base { W0 with row := row } 5 "key_of" 1 g_key_of := by
      obtain ⟨f, fd, F, gm⟩ := h_key_of
      exact fn_key_of (W := { W0 with row := row }) kt c_lands_of c_freezes c_all_orders c_tips F gm
    have c_is_made : Fn W0.P W0.w W0.K mg base { W0 with row := row } 3 "is_made" 2 g_is_made := by
      obtain ⟨f, fd, c, P, F, gm, hc, hP, tb⟩ := h_is_made
      exact fn_is_made (W := { W0 with row := row }) kt c_length_of c_near c_held c_hangs hP tb hc F gm
    have c_all_takings : Fn W0.P W0.w W0.K mg base { W0 with row := row } 4 "all_takings" 1 g_all_takings := by
      obtain ⟨f, fd, F, gm⟩ := h_all_takings
      exact fn_all_takings (W := { W0 with row := row }) kt c_lands_of c_is_made F gm
    have c_taken : Fn W0.P W0.w W0.K mg base { W0 with row := row } 1 "taken" 2 g_taken := by
      obtain ⟨f, fd, F, gm⟩ := h_taken
      exact fn_taken (W := { W0 with row := row }) kt  F gm
    have c_least_rows : Fn W0.P W0.w W0.K mg base { W0 with row := row } 5 "least_rows" 2 g_least_rows := by
      obtain ⟨f, fd, F, gm⟩ := h_least_rows
      exact fn_least_rows (W := { W0 with row := row }) kt c_all_takings c_taken F gm
    have c_row_to : Fn W0.P W0.w W0.K mg base { W0 with row := row } 1 "row_to" 2 g_row_to := by
      obtain ⟨f, fd, F, gm⟩ := h_row_to
      exact fn_row_to (W := { W0 with row := row }) kt  F gm
    have c_cheap_row : Fn W0.P W0.w W0.K mg base { W0 with row := row } 9 "cheap_row" 3 g_cheap_row := by
      obtain ⟨f, fd, F, gm⟩ := h_cheap_row
      exact fn_cheap_row (W := { W0 with row := row }) kt c_need_priced c_key_of c_least_rows c_row_to F gm
    have c_cheapest_from : Fn W0.P W0.w W0.K mg base { W0 with row := row } 7 "cheapest_from" 2 g_cheapest_from := by
      obtain ⟨f, fd, F, gm⟩ := h_cheapest_from
      exact fn_cheapest_from (W := { W0 with row := row }) kt c_need_map c_need_prices c_least_rows F gm
    have c__law_alike : Fn W0.P W0.w W0.K mg base { W0 with row := row } 2 "_law_alike" 2 g__law_alike2 := by
      obtain ⟨f, fd, F, gm⟩ := h__law_alike
      exact fn__law_alike (W := { W0 with row := row }) kt  F gm
    have c_is_taking : Fn W0.P W0.w W0.K mg base { W0 with row := row } 2 "is_taking" 2 g_is_taking := by
      obtain ⟨f, fd, F, gm⟩ := h_is_taking
      exact fn_is_taking (W := { W0 with row := row }) kt c_lands_of c_is_in F gm
    have c_price_of : Fn W0.P W0.w W0.K mg base { W0 with row := row } 4 "price_of" 3 g_price_of := by
      obtain ⟨f, fd, F, gm⟩ := h_price_of
      exact fn_price_of (W := { W0 with row := row }) kt c_is_taking c_is_made c_taken F gm
    have c_shows_cheap_row : Fn W0.P W0.w W0.K mg base { W0 with row := row } 9 "shows_cheap_row" 4 g_shows_cheap_row := by
      obtain ⟨f, fd, F, gm⟩ := h_shows_cheap_row
      exact fn_shows_cheap_row (W := { W0 with row := row }) kt c_need_priced c_key_of c_least_rows c_is_in c_price_of F gm
    have c__law_price : Fn W0.P W0.w W0.K mg base { W0 with row := row } 4 "_law_price" 3 g__law_price := by
      obtain ⟨f, fd, F, gm⟩ := h__law_price
      exact fn__law_price (W := { W0 with row := row }) kt c__law_takings c__law_behind F gm
    have c_shows_price_paper : Fn W0.P W0.w W0.K mg base { W0 with row := row } 8 "shows_price_paper" 4 g_shows_price_paper := by
      obtain ⟨f, fd, c, P, F, gm, hc, hP, tb⟩ := h_shows_price_paper
      exact fn_shows_price_paper (W := { W0 with row := row }) kt c_need_two c_key_of c_need_prices c_least_rows c_all_takings c_taken hP tb hc F gm
    exact der_law (W := { W0 with row := row }) kt c__law_island c__law_map c__law_taken c__law_walk c__law_least c_cheap_row c_cheapest_from c__law_alike c_shows_cheap_row c__law_price c__law_takings c__law_behind c_shows_price_paper hr
  have first : PS (cxOf CX0 W0.P W0.w W0.K mg base N_law "law" (defScope (top 61)) f cdv A outer s H E).nox ((defBody (top 61)).headD (.Pass ⟨0, 0, 0, 0⟩)) _ :=
    ps_set sc_law.nd (i := 1) rfl (.inr rfl) (pe_lst (pa_cons (pe_var (i := 0) rfl (.inl rfl)) (pa_cons pe_int (pa_cons pe_int (pa_cons pe_int pa_nil)))))
  have rest : PSs (cxOf CX0 W0.P W0.w W0.K mg base N_law "law" (defScope (top 61)) f cdv A outer s H E).nox (defBody (top 61)).tail (fun E σ H => ∃ row, tsOf { W0 with row := row } [19, 20] F_law E σ H) :=
    ⟨fun pins s σ H D I ⟨row, h⟩ => (all row).run pins s σ H D I h⟩
  refine ⟨_, PSs.nox (pss_cons first rest), ?_⟩
  obtain ⟨a, ns, rfl, hs, g, q⟩ := hsp
  refine ⟨_, rfl, by show 4 ≤ sizeLine; decide, fun p hp => ?_⟩
  obtain ⟨kc, g1⟩ := row_new g h0 hp hs
  refine ⟨some ⟨p, a, ns, kc⟩, _, rho0, ⟨g1, Ext.refl g1, rfl, fun _ _ => False, fun i d hd => ?_, fun i => .nil, fun _ _ _ h => h.elim, fun _ _ _ _ _ h => h.elim⟩, plain.mono fun o ho => ?_⟩
  · by_cases hi : i = 1
    · subst hi
      have e : d = .row := by
        have e : rho0[1]? = some (some D.row) := rfl
        rw [e] at hd
        cases hd
        rfl
      subst e
      exact ⟨.ref p, rfl, Is.row (d := ⟨p, a, ns, kc⟩) rfl⟩
    · unfold rho0 at hd
      rw [List.getElem?_set_ne (Ne.symm hi), List.getElem?_replicate] at hd
      split at hd <;> cases hd
  · subst ho
    intro v H' G e x gx _
    rw [x.toBl]
    exact q H'
end Sl
end S_Sn3
noncomputable section S_Hd
set_option Elab.async false
set_option linter.all false
set_option maxRecDepth 100000
set_option maxHeartbeats 0
namespace Sl
open PySem PySem.Spec PyProof.Rows L2
def dOf (i : Nat) (x : Str) : He.DefD := ⟨(x, none), x, x, defArgs (top i), defBody (top i), defScope (top i), [], []⟩

def fnL : List He.DefD := [dOf 48 "_law_taken", dOf 58 "_law_island", dOf 49 "_law_pick", dOf 53 "_law_map", dOf 51 "_law_near", dOf 52 "_law_hangs", dOf 54 "_law_takings", dOf 55 "_law_behind", dOf 57 "_law_walk", dOf 59 "_law_least", dOf 9 "is_in", dOf 13 "held", dOf 10 "near", dOf 12 "hangs", dOf 14 "are_cells", dOf 15 "is_map", dOf 16 "need_map", dOf 17 "lands_of", dOf 34 "need_two", dOf 38 "need_prices", dOf 39 "need_priced", dOf 11 "length_of", dOf 18 "outward", dOf 28 "bare_of", dOf 29 "freezes", dOf 20 "order_on", dOf 21 "all_orders", dOf 30 "tips", dOf 32 "key_of", dOf 24 "is_made", dOf 25 "all_takings", dOf 26 "taken", dOf 40 "least_rows", dOf 41 "row_to", dOf 42 "cheap_row", dOf 45 "cheapest_from", dOf 50 "_law_alike", dOf 23 "is_taking", dOf 43 "price_of", dOf 44 "shows_cheap_row", dOf 60 "_law_price", dOf 46 "shows_price_paper", dOf 61 "law"]
def faL : List He.Fa := [.glo "_law_taken", .glo "_law_island", .glo "_law_pick", .glo "_law_map", .glo "_law_near", .glo "_law_hangs", .glo "_law_takings", .glo "_law_behind", .glo "_law_walk", .glo "_law_least", .glo "is_in", .glo "held", .glo "near", .glo "hangs", .glo "are_cells", .glo "is_map", .glo "need_map", .glo "lands_of", .glo "need_two", .glo "need_prices", .glo "need_priced", .glo "length_of", .glo "outward", .glo "bare_of", .glo "freezes", .glo "order_on", .glo "all_orders", .glo "tips", .glo "key_of", .glo "is_made", .glo "all_takings", .glo "taken", .glo "least_rows", .glo "row_to", .glo "cheap_row", .glo "cheapest_from", .glo "_law_alike", .glo "is_taking", .glo "price_of", .glo "shows_cheap_row", .glo "_law_price", .glo "shows_price_paper", .glo "law", .free "isinstance", .free "int", .free "bool", .free "tuple", .free "list", .free "str", .free "len", .free "max", .free "min", .free "sorted", .free "dict", .free "zip", .free "range", .free "enumerate", .free "all", .free "any", .int "LEAST_ARMS" 3, .int "MOST_ARMS" 4, .int "MOST_LENGTH" 4, .int "MOST_PRICE" 1000, .int "MOST_CHEAP" 2000]
def tfL : List He.Defn := [("are_cells", none), ("is_made", none), ("bare_of", none), ("need_prices", none), ("shows_price_paper", none)]
def looseL : List PySem.Str := (["LandError", "BadMap", "NotOne", "BadPrices", "LEAST_ARMS", "MOST_ARMS", "MOST_LENGTH", "is_in", "near", "length_of", "hangs", "held", "are_cells", "is_map", "need_map", "lands_of", "outward", "order_on", "all_orders", "is_taking"] : List PySem.Str) ++ (["is_made", "all_takings", "taken", "bare_of", "freezes", "tips", "key_of", "need_two", "MOST_PRICE", "MOST_CHEAP", "need_prices", "need_priced", "least_rows", "row_to", "cheap_row", "price_of", "shows_cheap_row", "cheapest_from", "shows_price_paper", "_law_taken"] : List PySem.Str) ++ (["_law_pick", "_law_alike", "_law_near", "_law_hangs", "_law_map", "_law_takings", "_law_behind", "_law_from", "_law_walk", "_law_island", "_law_least", "_law_price"] : List PySem.Str)
abbrev Rw : PySem.W.OpenRow := PySem.W.OpenLaw.row PySem.Challenge.rw_starlands_k13_whole_prices
abbrev hkL : PySem.W.Hook := He.hookX 4 faL fnL [] tfL (fun _ => true)
def obL (s : PySem.W.SharedT) : He.AlX := He.obsX 4 faL fnL [] tfL (fun _ => true) (HandSHeadRun.getT s)
theorem obL_eq (s : PySem.W.SharedT) : obL s = hkL.obs s.abs := He.obsX_eq (HandSHeadRun.getT_eq s)
theorem runL (w : World) : HandSHeadRun.RunEq Rw (PySem.W.view Rw.prog [61]) hkL obL 4000 looseL w := by
  intro os
  kernel_rfl

theorem kit_of {w : World} {K : PySem.W.Frag} {h : Heap} {mg : Str → Option Value} (X : K.In h) (G : h.Ns mainGlobals mg) (c : He.SaysT faL fnL [] w K) : Kit mg :=
  ⟨He.free_ok X G (c.d.fact 43 (f := .free "isinstance") rfl), He.free_ok X G (c.d.fact 44 (f := .free "int") rfl), He.free_ok X G (c.d.fact 45 (f := .free "bool") rfl), He.free_ok X G (c.d.fact 46 (f := .free "tuple") rfl), He.free_ok X G (c.d.fact 47 (f := .free "list") rfl), He.free_ok X G (c.d.fact 48 (f := .free "str") rfl), He.free_ok X G (c.d.fact 49 (f := .free "len") rfl), He.free_ok X G (c.d.fact 50 (f := .free "max") rfl), He.free_ok X G (c.d.fact 51 (f := .free "min") rfl), He.free_ok X G (c.d.fact 52 (f := .free "sorted") rfl), He.free_ok X G (c.d.fact 53 (f := .free "dict") rfl), He.free_ok X G (c.d.fact 54 (f := .free "zip") rfl), He.free_ok X G (c.d.fact 55 (f := .free "range") rfl), He.free_ok X G (c.d.fact 56 (f := .free "enumerate") rfl), He.free_ok X G (c.d.fact 57 (f := .free "all") rfl), He.free_ok X G (c.d.fact 58 (f := .free "any") rfl), He.int_ok X G (c.d.fact 59 (f := .int "LEAST_ARMS" 3) rfl), He.int_ok X G (c.d.fact 60 (f := .int "MOST_ARMS" 4) rfl), He.int_ok X G (c.d.fact 61 (f := .int "MOST_LENGTH" 4) rfl), He.int_ok X G (c.d.fact 62 (f := .int "MOST_PRICE" 1000) rfl), He.int_ok X G (c.d.fact 63 (f := .int "MOST_CHEAP" 2000) rfl)⟩
theorem has_of {w : World} {K : PySem.W.Frag} {h : Heap} {mg : Str → Option Value} (X : K.In h) (G : h.Ns mainGlobals mg) (c : He.SaysT faL fnL [] w K) (j : Nat) (x : Str) (i : Nat) (h1 : fnL[j]? = some (dOf i x)) (h2 : faL[j]? = some (.glo x)) : Has K mg x i := by
  obtain ⟨fd, F⟩ := c.d.def_ j (d := dOf i x) h1
  exact ⟨_, fd, F, He.glo_ok X G (c.d.fact j (f := .glo x) h2)⟩
theorem hasC_of {W : Wd} {w : World} {h base : Heap} {mg : Str → Option Value} (X : W.K.In h) (G : h.Ns mainGlobals mg) (c : He.SaysX faL fnL [] tfL (fun _ => true) w h W.K) (j : Nat) (x : Str) (i : Nat) (h1 : fnL[j]? = some (dOf i x)) (h2 : faL[j]? = some (.glo x)) (h3 : (x, none) ∈ tfL)
    (ht : ∀ p ∈ tfL, (He.cT W.K p).2 ∈ W.tabs ∧ GxR.TabB base mg (He.cT W.K p).1 (He.cT W.K p).2) : HasC W mg base x i := by
  obtain ⟨fd, F⟩ := c.t.d.def_ j (d := dOf i x) h1
  obtain ⟨oc, od, dV, kV, doc, pm, an, cdv, ct, osl, e, lk, hcd, _, _⟩ := id F.ex
  obtain ⟨c0, hc0⟩ := He.codeIn_ref hcd
  have ec : fd.code = .ref c0 := by rw [e]; exact hc0
  have e2 : He.codeOf W.K (x, none) = c0 := He.codeOf_eq (p := (x, none)) lk ec
  obtain ⟨t1, t2⟩ := ht _ h3
  refine ⟨_, fd, (He.cT W.K (x, none)).1, (He.cT W.K (x, none)).2, F, He.glo_ok X G (c.t.d.fact j (f := .glo x) h2), ?_, t1, t2⟩
  rw [ec]
  show Value.ref c0 = .ref (He.codeOf W.K (x, none))
  rw [e2]
theorem facts {w : World} {K : PySem.W.Frag} {h : Heap} {mg : Str → Option Value} {fa : Addr} (plain : (F_law rho0).All fun o => o = .rt (.bl true)) (X : K.In h) (G : h.Ns mainGlobals mg) (hmg : mg ("law" : Str) = some (.ref fa)) (c : He.SaysX faL fnL [] tfL (fun _ => true) w h K) :
    LamX.LawAtS PySem.Challenge.rw_starlands_k13_whole_prices w K CX0 10 63 "_law_script" mg fa h := by
  let W0 : Wd := ⟨PySem.Challenge.rw_starlands_k13_whole_prices.prog, w, K, (tfL.map (He.cT K)).map (·.2), none⟩
  obtain ⟨fd, F⟩ := c.t.d.def_ 42 (d := dOf 61 "law") rfl
  have e := hmg.symm.trans (He.glo_ok X G (c.t.d.fact 42 (f := .glo "law") rfl))
  cases e
  refine ⟨fd, tfL.map (He.cT K), spLaw W0, fun p hp => ?_, fun p hp => ?_, fun p hp => ?_, ?_, fun H a ns hl hb ht hs => ?_, fun base KX GX ht => ?_⟩
  · obtain ⟨q, hq, rfl⟩ := List.mem_map.mp hp
    exact c.empty q hq
  · obtain ⟨q, hq, rfl⟩ := List.mem_map.mp hp
    exact c.out q hq
  · obtain ⟨q, hq, rfl⟩ := List.mem_map.mp hp
    exact PySem.W.codeHd_of_K X (c.hd q hq)
  · have b := FunD.bindsA (ps := ["_law_script"]) F fun _ _ _ _ _ _ us hl => match us, hl with | [_], _ => rfl
    exact fun s u => b s [u] rfl
  · refine ⟨a, ns, rfl, hs, ⟨fun P hP => ?_, fun d e => by cases e⟩, fun _ => rfl⟩
    obtain ⟨p, hp, rfl⟩ := List.mem_map.mp hP
    exact ⟨#[], ht p hp, trivial⟩
  · have ht' : ∀ p ∈ tfL, (He.cT W0.K p).2 ∈ W0.tabs ∧ GxR.TabB base mg (He.cT W0.K p).1 (He.cT W0.K p).2 := fun p hp => by
      have t := ht _ (List.mem_map.mpr ⟨p, hp, rfl⟩)
      exact ⟨List.mem_map.mpr ⟨_, List.mem_map.mpr ⟨p, hp, rfl⟩, rfl⟩, ⟨t.code, t.bm, t.gP⟩⟩
    exact ok_law (W0 := W0) rfl (kit_of X G c.t) F
      (has_of X G c.t 0 "_law_taken" 48 rfl rfl)
      (has_of X G c.t 1 "_law_island" 58 rfl rfl)
      (has_of X G c.t 2 "_law_pick" 49 rfl rfl)
      (has_of X G c.t 3 "_law_map" 53 rfl rfl)
      (has_of X G c.t 4 "_law_near" 51 rfl rfl)
      (has_of X G c.t 5 "_law_hangs" 52 rfl rfl)
      (has_of X G c.t 6 "_law_takings" 54 rfl rfl)
      (has_of X G c.t 7 "_law_behind" 55 rfl rfl)
      (has_of X G c.t 8 "_law_walk" 57 rfl rfl)
      (has_of X G c.t 9 "_law_least" 59 rfl rfl)
      (has_of X G c.t 10 "is_in" 9 rfl rfl)
      (has_of X G c.t 11 "held" 13 rfl rfl)
      (has_of X G c.t 12 "near" 10 rfl rfl)
      (has_of X G c.t 13 "hangs" 12 rfl rfl)
      (hasC_of (W := W0) X G c 14 "are_cells" 14 rfl rfl (by decide) ht')
      (has_of X G c.t 15 "is_map" 15 rfl rfl)
      (has_of X G c.t 16 "need_map" 16 rfl rfl)
      (has_of X G c.t 17 "lands_of" 17 rfl rfl)
      (has_of X G c.t 18 "need_two" 34 rfl rfl)
      (hasC_of (W := W0) X G c 19 "need_prices" 38 rfl rfl (by decide) ht')
      (has_of X G c.t 20 "need_priced" 39 rfl rfl)
      (has_of X G c.t 21 "length_of" 11 rfl rfl)
      (has_of X G c.t 22 "outward" 18 rfl rfl)
      (hasC_of (W := W0) X G c 23 "bare_of" 28 rfl rfl (by decide) ht')
      (has_of X G c.t 24 "freezes" 29 rfl rfl)
      (has_of X G c.t 25 "order_on" 20 rfl rfl)
      (has_of X G c.t 26 "all_orders" 21 rfl rfl)
      (has_of X G c.t 27 "tips" 30 rfl rfl)
      (has_of X G c.t 28 "key_of" 32 rfl rfl)
      (hasC_of (W := W0) X G c 29 "is_made" 24 rfl rfl (by decide) ht')
      (has_of X G c.t 30 "all_takings" 25 rfl rfl)
      (has_of X G c.t 31 "taken" 26 rfl rfl)
      (has_of X G c.t 32 "least_rows" 40 rfl rfl)
      (has_of X G c.t 33 "row_to" 41 rfl rfl)
      (has_of X G c.t 34 "cheap_row" 42 rfl rfl)
      (has_of X G c.t 35 "cheapest_from" 45 rfl rfl)
      (has_of X G c.t 36 "_law_alike" 50 rfl rfl)
      (has_of X G c.t 37 "is_taking" 23 rfl rfl)
      (has_of X G c.t 38 "price_of" 43 rfl rfl)
      (has_of X G c.t 39 "shows_cheap_row" 44 rfl rfl)
      (has_of X G c.t 40 "_law_price" 60 rfl rfl)
      (hasC_of (W := W0) X G c 41 "shows_price_paper" 46 rfl rfl (by decide) ht')
      plain
end Sl
end S_Hd
noncomputable section S_Sp1
set_option Elab.async false
set_option linter.all false
set_option maxRecDepth 100000
/-! equal data, by computing -/
namespace Sl
mutual
def dBeq : D → D → Bool
  | .non, .non => true
  | .bl a, .bl b => a == b
  | .int a, .int b => decide (a = b)
  | .tup a, .tup b => dsBeq a b
  | .lst a, .lst b => dsBeq a b
  | .row, .row => true
  | _, _ => false
def dsBeq : List D → List D → Bool
  | [], [] => true
  | a :: as, b :: bs => dBeq a b && dsBeq as bs
  | _, _ => false
end
mutual
theorem dBeq_eq : ∀ {a b : D}, dBeq a b = true → a = b
  | .non, .non, _ => rfl
  | .bl a, .bl b, h => by rw [dBeq] at h; rw [eq_of_beq h]
  | .int a, .int b, h => by rw [dBeq] at h; rw [of_decide_eq_true h]
  | .tup a, .tup b, h => by rw [dBeq] at h; rw [dsBeq_eq h]
  | .lst a, .lst b, h => by rw [dBeq] at h; rw [dsBeq_eq h]
  | .row, .row, _ => rfl
  | .non, .bl _, h | .non, .int _, h | .non, .tup _, h | .non, .lst _, h | .non, .dct _, h | .non, .row, h => by simp [dBeq] at h
  | .bl _, .non, h | .bl _, .int _, h | .bl _, .tup _, h | .bl _, .lst _, h | .bl _, .dct _, h | .bl _, .row, h => by simp [dBeq] at h
  | .int _, .non, h | .int _, .bl _, h | .int _, .tup _, h | .int _, .lst _, h | .int _, .dct _, h | .int _, .row, h => by simp [dBeq] at h
  | .tup _, .non, h | .tup _, .int _, h | .tup _, .bl _, h | .tup _, .lst _, h | .tup _, .dct _, h | .tup _, .row, h => by simp [dBeq] at h
  | .lst _, .non, h | .lst _, .int _, h | .lst _, .tup _, h | .lst _, .bl _, h | .lst _, .dct _, h | .lst _, .row, h => by simp [dBeq] at h
  | .dct _, .non, h | .dct _, .int _, h | .dct _, .tup _, h | .dct _, .lst _, h | .dct _, .bl _, h | .dct _, .dct _, h | .dct _, .row, h => by simp [dBeq] at h
  | .row, .non, h | .row, .int _, h | .row, .tup _, h | .row, .lst _, h | .row, .dct _, h | .row, .bl _, h => by simp [dBeq] at h
theorem dsBeq_eq : ∀ {a b : List D}, dsBeq a b = true → a = b
  | [], [], _ => rfl
  | a :: as, b :: bs, h => by
    rw [dsBeq, Bool.and_eq_true] at h
    rw [dBeq_eq h.1, dsBeq_eq h.2]
  | [], _ :: _, h => by simp [dsBeq] at h
  | _ :: _, [], h => by simp [dsBeq] at h
end
/-- returns this one -/
def isRet (d : D) : M D → Bool
  | .ret e => dBeq e d
  | _ => false
theorem isRet_eq {d : D} : ∀ {m : M D}, isRet d m = true → m = .ret d
  | .ret e, h => by rw [dBeq_eq (show dBeq e d = true from h)]
end Sl
end S_Sp1
noncomputable section S_Sp2
set_option Elab.async false
set_option linter.all false
set_option maxRecDepth 100000
/-! Dicts by their keys; loops by what stays; least prices on a finite graph. -/
namespace Sl
open PySem PySem.Spec PyProof.Rows L2
open Classical

/-! ### dicts -/
def Ky (d : D) : Prop := ∃ k, toKey d = some k
abbrev keysOf (f : List (D × D)) : List D := f.map (·.1)
def Kys (f : List (D × D)) : Prop := ∀ p ∈ f, Ky p.1
theorem Ky.refl {d : D} (h : Ky d) : eqD d d = true := let ⟨k, e⟩ := h; eqD_key d k e
theorem Ky.iff {a b : D} (h : Ky b) : eqD a b = true ↔ a = b := ⟨eqD_eq a b, fun e => by rw [e]; exact h.refl⟩
theorem dHas_iff {f : List (D × D)} {d : D} (hd : Ky d) : dHas f d = true ↔ d ∈ keysOf f := by
  unfold dHas keysOf
  rw [List.any_eq_true, List.mem_map]
  exact ⟨fun ⟨p, hp, e⟩ => ⟨p, hp, hd.iff.mp e⟩, fun ⟨p, hp, e⟩ => ⟨p, hp, hd.iff.mpr e⟩⟩
theorem dGet_isSome {f : List (D × D)} {d : D} (hd : Ky d) : (dGet f d).isSome = true ↔ d ∈ keysOf f := by
  unfold dGet
  rw [Option.isSome_map, List.find?_isSome, ← dHas_iff hd]
  unfold dHas
  rw [List.any_eq_true]
theorem dGet_key {f : List (D × D)} {d v : D} (hd : Ky d) (h : dGet f d = some v) : d ∈ keysOf f := (dGet_isSome hd).mp (by rw [h]; rfl)
theorem dGet_of_key {f : List (D × D)} {d : D} (hd : Ky d) (h : d ∈ keysOf f) : ∃ v, dGet f d = some v := Option.isSome_iff_exists.mp ((dGet_isSome hd).mpr h)
theorem dGet_none {f : List (D × D)} {d : D} (hd : Ky d) (h : d ∉ keysOf f) : dGet f d = none := by
  cases e : dGet f d with
  | none => rfl
  | some v => exact absurd (dGet_key hd e) h
theorem dGet_mem {f : List (D × D)} {d v : D} (h : dGet f d = some v) : (d, v) ∈ f := by
  unfold dGet at h
  obtain ⟨p, h1, h2⟩ := Option.map_eq_some_iff.mp h
  have e := eqD_eq _ _ (List.find?_some (p := fun p : D × D => eqD p.1 d) h1)
  have m := List.mem_of_find?_eq_some h1
  obtain ⟨a, b⟩ := p
  subst h2
  subst e
  exact m
theorem keys_put (f : List (D × D)) (d v : D) (hd : Ky d) : keysOf (dPut f d v) = if d ∈ keysOf f then keysOf f else keysOf f ++ [d] := by
  unfold dPut
  by_cases h : dHas f d = true
  · rw [if_pos h, if_pos ((dHas_iff hd).mp h)]
    unfold keysOf
    rw [List.map_map]
    apply List.map_congr_left
    intro p _
    show (if eqD p.1 d = true then (p.1, v) else p).1 = p.1
    split <;> rfl
  · rw [if_neg h, if_neg (fun m => h ((dHas_iff hd).mpr m))]
    simp [keysOf]
theorem dGet_put (f : List (D × D)) {d u : D} (v : D) (hd : Ky d) (hu : Ky u) : dGet (dPut f d v) u = if u = d then some v else dGet f u := by
  unfold dPut
  by_cases h : dHas f d = true
  · rw [if_pos h]
    unfold dGet
    rw [List.find?_map]
    have e : ((fun p : D × D => eqD p.1 u) ∘ fun p => if eqD p.1 d = true then (p.1, v) else p) = fun p : D × D => eqD p.1 u := by
      funext p
      show eqD (if eqD p.1 d = true then (p.1, v) else p).1 u = _
      split <;> rfl
    rw [e]
    by_cases hud : u = d
    · subst hud
      rw [if_pos rfl]
      obtain ⟨p, hp⟩ := Option.isSome_iff_exists.mp (List.find?_isSome.mpr (by
        obtain ⟨p, m, e⟩ := List.any_eq_true.mp h
        exact ⟨p, m, e⟩) : (List.find? (fun p : D × D => eqD p.1 u) f).isSome = true)
      rw [hp]
      show some (if eqD p.1 u = true then (p.1, v) else p).2 = _
      rw [if_pos (List.find?_some (p := fun p : D × D => eqD p.1 u) hp)]
    · rw [if_neg hud]
      cases hp : List.find? (fun p : D × D => eqD p.1 u) f with
      | none => rfl
      | some p =>
        show some (if eqD p.1 d = true then (p.1, v) else p).2 = some p.2
        have e1 := eqD_eq _ _ (List.find?_some (p := fun p : D × D => eqD p.1 u) hp)
        rw [if_neg (fun q => hud (e1.symm.trans (eqD_eq _ _ q)))]
  · rw [if_neg h]
    unfold dGet
    rw [List.find?_append]
    by_cases hud : u = d
    · subst hud
      rw [if_pos rfl]
      have e1 : List.find? (fun p : D × D => eqD p.1 u) f = none := List.find?_eq_none.mpr fun p hp q => h (List.any_eq_true.mpr ⟨p, hp, q⟩)
      rw [e1]
      simp [hu.refl]
    · rw [if_neg hud]
      have e1 : eqD d u = false := by
        cases e : eqD d u with
        | false => rfl
        | true => exact absurd (eqD_eq _ _ e).symm hud
      cases hp : List.find? (fun p : D × D => eqD p.1 u) f with
      | none => simp [e1]
      | some p => simp
theorem Kys.put {f : List (D × D)} (h : Kys f) {d v : D} (hd : Ky d) : Kys (dPut f d v) := by
  intro p hp
  have m : p.1 ∈ keysOf (dPut f d v) := List.mem_map.mpr ⟨p, hp, rfl⟩
  rw [keys_put f d v hd] at m
  split at m
  · obtain ⟨q, hq, e⟩ := List.mem_map.mp m
    rw [← e]; exact h q hq
  · rcases List.mem_append.mp m with m | m
    · obtain ⟨q, hq, e⟩ := List.mem_map.mp m
      rw [← e]; exact h q hq
    · rw [List.mem_singleton.mp m]; exact hd
theorem nodup_put {f : List (D × D)} (h : (keysOf f).Nodup) {d v : D} (hd : Ky d) : (keysOf (dPut f d v)).Nodup := by
  rw [keys_put f d v hd]
  split
  · exact h
  · rename_i hn
    rw [List.nodup_append]
    exact ⟨h, List.pairwise_singleton _ _, fun a ha b hb e => hn (by rw [List.mem_singleton.mp hb] at e; rw [← e]; exact ha)⟩
theorem mem_put {f : List (D × D)} {d v u : D} (hd : Ky d) : u ∈ keysOf (dPut f d v) ↔ u = d ∨ u ∈ keysOf f := by
  rw [keys_put f d v hd]
  split
  · rename_i h
    exact ⟨.inr, fun x => x.elim (fun e => e ▸ h) id⟩
  · rw [List.mem_append, List.mem_singleton]
    exact ⟨fun x => x.symm, fun x => x.symm⟩

/-! ### loops by what stays -/
theorem loopF_inv {g : Gv} {F : Sv} (I : List D → Rho → Prop) (step : ∀ d ds ρ, I (d :: ds) ρ → ∃ ρ1 ρ2, g d ρ = .ret ρ1 ∧ F ρ1 = .ret (.nx ρ2) ∧ I ds ρ2) : ∀ ds ρ, I ds ρ → ∃ ρ', loopF g F ds ρ = .ret (.nx ρ') ∧ I [] ρ'
  | [], ρ, h => ⟨ρ, rfl, h⟩
  | d :: ds, ρ, h => by
    obtain ⟨ρ1, ρ2, e1, e2, h2⟩ := step d ds ρ h
    obtain ⟨ρ', e3, h3⟩ := loopF_inv I step ds ρ2 h2
    refine ⟨ρ', ?_, h3⟩
    show (g d ρ).bind _ = _
    rw [e1]
    show (F ρ1).bind _ = _
    rw [e2]
    exact e3
/-- the same, with draws -/
theorem loopF_all {g : Gv} {F : Sv} {P : Out → Prop} (I : List D → Rho → Prop) (step : ∀ d ds ρ, I (d :: ds) ρ → (g d ρ).All fun ρ1 => (F ρ1).All fun o => (∃ ρ2, o = .nx ρ2 ∧ I ds ρ2)) (hP : ∀ ρ, I [] ρ → P (.nx ρ)) : ∀ ds ρ, I ds ρ → (loopF g F ds ρ).All P
  | [], ρ, h => hP ρ h
  | d :: ds, ρ, h => by
    refine M.All.bind' ((step d ds ρ h).mono fun ρ1 h1 => M.All.bind' (h1.mono fun o ho => ?_))
    obtain ⟨ρ2, rfl, h2⟩ := ho
    exact loopF_all I step hP ds ρ2 h2

/-! ### sums -/
def sumL (f : D → Nat) : List D → Nat
  | [] => 0
  | d :: ds => f d + sumL f ds
theorem sum_le {f g : D → Nat} : ∀ {l : List D}, (∀ u ∈ l, f u ≤ g u) → sumL f l ≤ sumL g l
  | [], _ => Nat.le_refl _
  | d :: l, h => Nat.add_le_add (h d (List.mem_cons_self ..)) (sum_le fun u hu => h u (List.mem_cons_of_mem _ hu))
theorem sum_lt {f g : D → Nat} {v : D} : ∀ {l : List D}, (∀ u ∈ l, f u ≤ g u) → v ∈ l → f v < g v → sumL f l < sumL g l
  | d :: l, h, hv, hlt => by
    have a := h d (List.mem_cons_self ..)
    rcases List.mem_cons.mp hv with rfl | hv
    · have b := sum_le fun u hu => h u (List.mem_cons_of_mem _ hu)
      show _ + _ < _ + _
      omega
    · have b := sum_lt (fun u hu => h u (List.mem_cons_of_mem _ hu)) hv hlt
      show _ + _ < _ + _
      omega
theorem sum_const {f : D → Nat} {k : Nat} : ∀ {l : List D}, (∀ u ∈ l, f u ≤ k) → sumL f l ≤ l.length * k
  | [], _ => Nat.zero_le _
  | d :: l, h => by
    have a := h d (List.mem_cons_self ..)
    have b := sum_const fun u hu => h u (List.mem_cons_of_mem _ hu)
    show _ + _ ≤ (l.length + 1) * k
    rw [Nat.add_mul]
    omega

/-! ### least prices -/
structure Gf where
  Ul : List D
  ts : D → List D
  nx : D → D → D
  w : D → Int
  c0 : D
  in0 : c0 ∈ Ul
  nxIn : ∀ h ∈ Ul, ∀ t ∈ ts h, nx h t ∈ Ul
  w0 : ∀ h ∈ Ul, ∀ t ∈ ts h, 0 ≤ w t ∧ w t ≤ 5
inductive Gf.Wk (g : Gf) (e : Int) : D → Int → Int → Prop
  | z : Wk g e g.c0 0 0
  | s {h t : D} {p m : Int} : Wk g e h p m → t ∈ g.ts h → Wk g e (g.nx h t) (p + g.w t) (m + e)
abbrev Lab := D → Option (Int × Int)
section
variable {g : Gf} {e : Int}
theorem Gf.Wk.dom {v : D} {p m : Int} (x : g.Wk e v p m) : v ∈ g.Ul := by
  induction x with
  | z => exact g.in0
  | s _ ht ih => exact g.nxIn _ ih _ ht
theorem Gf.Wk.pos (he : 0 ≤ e) {v : D} {p m : Int} (x : g.Wk e v p m) : 0 ≤ p ∧ 0 ≤ m := by
  induction x with
  | z => exact ⟨Int.le_refl _, Int.le_refl _⟩
  | s x ht ih => have := g.w0 _ x.dom _ ht; omega
theorem Gf.Wk.other {v : D} {p m : Int} (x : g.Wk e v p m) (e' : Int) : ∃ m', g.Wk e' v p m' := by
  induction x with
  | z => exact ⟨0, .z⟩
  | s _ ht ih => obtain ⟨m', y⟩ := ih; exact ⟨m' + e', .s y ht⟩
end
def LeL (a b : Int × Int) : Prop := a.1 < b.1 ∨ (a.1 = b.1 ∧ a.2 ≤ b.2)
def LtL (a b : Int × Int) : Prop := a.1 < b.1 ∨ (a.1 = b.1 ∧ a.2 < b.2)
theorem LeL.trans {a b c : Int × Int} (x : LeL a b) (y : LeL b c) : LeL a c := by unfold LeL at *; omega
theorem LtL.le {a b : Int × Int} (x : LtL a b) : LeL a b := by unfold LeL LtL at *; omega
theorem LeL.of_not {a b : Int × Int} (x : ¬ LtL a b) : LeL b a := by unfold LeL LtL at *; omega
theorem LeL.rfl' (a : Int × Int) : LeL a a := .inr ⟨rfl, Int.le_refl _⟩
def cnt (g : Gf) (L : Lab) : Nat := sumL (fun v => if (L v).isSome = true then 1 else 0) g.Ul
theorem cnt_le (g : Gf) (L : Lab) : cnt g L ≤ g.Ul.length := by
  have := sum_const (f := fun v => if (L v).isSome = true then 1 else 0) (k := 1) (l := g.Ul) fun u _ => by split <;> omega
  unfold cnt
  omega
noncomputable def putL (L : Lab) (v : D) (x : Int × Int) : Lab := fun u => if u = v then some x else L u
theorem cnt_put (g : Gf) (L : Lab) (v : D) (x : Int × Int) : cnt g L ≤ cnt g (putL L v x) := sum_le fun u _ => by
  show (if (L u).isSome = true then 1 else 0) ≤ if (putL L v x u).isSome = true then 1 else 0
  unfold putL
  by_cases h : u = v
  · rw [if_pos h]; split <;> simp
  · rw [if_neg h]; exact Nat.le_refl _
theorem cnt_new (g : Gf) (L : Lab) (v : D) (x : Int × Int) (hv : v ∈ g.Ul) (hn : L v = none) : cnt g L + 1 ≤ cnt g (putL L v x) := by
  refine sum_lt (v := v) (fun u _ => ?_) hv ?_
  · show (if (L u).isSome = true then 1 else 0) ≤ if (putL L v x u).isSome = true then 1 else 0
    unfold putL
    by_cases h : u = v
    · rw [if_pos h]; split <;> simp
    · rw [if_neg h]; exact Nat.le_refl _
  · show (if (L v).isSome = true then 1 else 0) < if (putL L v x v).isSome = true then 1 else 0
    unfold putL
    rw [hn, if_pos rfl]
    simp
structure Bf (g : Gf) (e : Int) (L : Lab) (pend : D → D → Prop) : Prop where
  start : L g.c0 = some (0, 0)
  walk : ∀ v p m, L v = some (p, m) → g.Wk e v p m
  closed : ∀ h p m t, L h = some (p, m) → t ∈ g.ts h → ¬ pend h t → ∃ x, L (g.nx h t) = some x ∧ LeL x (p + g.w t, m + e)
  bound : ∀ v p m, L v = some (p, m) → p ≤ 5 * (cnt g L : Int)
section
variable {g : Gf} {e : Int} {L : Lab} {pend pend' : D → D → Prop}
theorem Bf.keep (b : Bf g e L pend) {h t : D} {p m : Int} {x : Int × Int} (hL : L h = some (p, m)) (hx : L (g.nx h t) = some x) (hn : ¬ LtL (p + g.w t, m + e) x)
    (hp : ∀ h' t', pend h' t' → pend' h' t' ∨ (h' = h ∧ t' = t)) : Bf g e L pend' := by
  refine ⟨b.start, b.walk, fun h1 p1 m1 t1 e1 i1 n1 => ?_, b.bound⟩
  by_cases q : h1 = h ∧ t1 = t
  · obtain ⟨rfl, rfl⟩ := q
    rw [hL] at e1
    cases e1
    exact ⟨x, hx, LeL.of_not hn⟩
  · exact b.closed h1 p1 m1 t1 e1 i1 fun z => (hp h1 t1 z).elim n1 q
theorem Bf.put (he : 0 ≤ e) (b : Bf g e L pend) {h t : D} {p m : Int} (hL : L h = some (p, m)) (ht : t ∈ g.ts h) (hx : ∀ x, L (g.nx h t) = some x → LtL (p + g.w t, m + e) x)
    (hp : ∀ h' t', pend h' t' → pend' h' t' ∨ (h' = h ∧ t' = t)) (hv : ∀ t', pend' (g.nx h t) t') : Bf g e (putL L (g.nx h t) (p + g.w t, m + e)) pend' := by
  have wh := b.walk _ _ _ hL
  have hw := g.w0 _ wh.dom _ ht
  have wp := wh.pos he
  refine ⟨?_, fun v p1 m1 e1 => ?_, fun h1 p1 m1 t1 e1 i1 n1 => ?_, fun v p1 m1 e1 => ?_⟩
  · unfold putL
    by_cases q : g.c0 = g.nx h t
    · have := hx (0, 0) (by rw [← q]; exact b.start)
      unfold LtL at this
      simp only at this
      omega
    · rw [if_neg q]; exact b.start
  · unfold putL at e1
    split at e1
    · rename_i q
      cases e1
      rw [q]
      exact .s wh ht
    · exact b.walk _ _ _ e1
  · by_cases q : h1 = g.nx h t
    · exact absurd (q ▸ hv t1) n1
    · have e2 : L h1 = some (p1, m1) := by
        unfold putL at e1
        rw [if_neg q] at e1
        exact e1
      by_cases q2 : h1 = h ∧ t1 = t
      · obtain ⟨rfl, rfl⟩ := q2
        rw [hL] at e2
        cases e2
        exact ⟨_, by unfold putL; rw [if_pos rfl], LeL.rfl' _⟩
      · obtain ⟨x, hx1, hx2⟩ := b.closed h1 p1 m1 t1 e2 i1 fun z => (hp h1 t1 z).elim n1 q2
        by_cases q3 : g.nx h1 t1 = g.nx h t
        · rw [q3] at hx1 ⊢
          exact ⟨_, by unfold putL; rw [if_pos rfl], (hx x hx1).le.trans hx2⟩
        · exact ⟨x, by unfold putL; rw [if_neg q3]; exact hx1, hx2⟩
  · have c1 := cnt_put g L (g.nx h t) (p + g.w t, m + e)
    unfold putL at e1
    split at e1
    · cases e1
      cases hv1 : L (g.nx h t) with
      | none =>
        have c2 := cnt_new g L (g.nx h t) (p + g.w t, m + e) (g.nxIn _ wh.dom _ ht) hv1
        have := b.bound _ _ _ hL
        omega
      | some x =>
        have := b.bound _ _ _ hv1
        have := hx x hv1
        unfold LtL at this
        simp only at this
        omega
    · have := b.bound _ _ _ e1
      omega
theorem Bf.least (b : Bf g e L fun _ _ => False) {v : D} {p m : Int} (x : g.Wk e v p m) : ∃ y, L v = some y ∧ LeL y (p, m) := by
  induction x with
  | z => exact ⟨_, b.start, LeL.rfl' _⟩
  | s x ht ih =>
    obtain ⟨y, h1, h2⟩ := ih
    obtain ⟨z, h3, h4⟩ := b.closed _ y.1 y.2 _ h1 ht id
    refine ⟨z, h3, h4.trans ?_⟩
    unfold LeL at *
    simp only at *
    omega
theorem Bf.same {e' : Int} {L' : Lab} (b : Bf g e L fun _ _ => False) (b' : Bf g e' L' fun _ _ => False) (v : D) : (L v).map (·.1) = (L' v).map (·.1) := by
  have one : ∀ {e e' : Int} {L L' : Lab}, Bf g e L (fun _ _ => False) → Bf g e' L' (fun _ _ => False) → ∀ x, L v = some x → ∃ y, L' v = some y ∧ y.1 ≤ x.1 := by
    intro e e' L L' b b' x hx
    obtain ⟨m', w⟩ := (b.walk v x.1 x.2 hx).other e'
    obtain ⟨y, h1, h2⟩ := b'.least w
    refine ⟨y, h1, ?_⟩
    unfold LeL at h2
    simp only at h2
    omega
  cases h : L v with
  | none =>
    cases h' : L' v with
    | none => rfl
    | some y =>
      obtain ⟨x, hx, _⟩ := one b' b y h'
      rw [h] at hx; cases hx
  | some x =>
    obtain ⟨y, hy, l1⟩ := one b b' x h
    obtain ⟨x', hx', l2⟩ := one b' b y hy
    rw [h] at hx'
    cases hx'
    rw [hy]
    show some x.1 = some y.1
    congr 1
    omega
/-- how much may still fall -/
noncomputable def phi (g : Gf) (L : Lab) : Nat := sumL (fun v => match L v with | none => 5 * g.Ul.length + 1 | some x => x.1.toNat) g.Ul
noncomputable def psi (g : Gf) (L : Lab) : Nat := sumL (fun v => match L v with | none => 0 | some x => x.2.toNat) g.Ul
theorem phi_put (he : 0 ≤ e) (b : Bf g e L pend) {h t : D} {p m : Int} (hL : L h = some (p, m)) (ht : t ∈ g.ts h) (hx : ∀ x, L (g.nx h t) = some x → p + g.w t < x.1) (hb : p + g.w t ≤ 5 * (g.Ul.length : Int)) :
    phi g (putL L (g.nx h t) (p + g.w t, m + e)) < phi g L := by
  have wh := b.walk _ _ _ hL
  have hw := g.w0 _ wh.dom _ ht
  have wp := wh.pos he
  refine sum_lt (v := g.nx h t) (fun u _ => ?_) (g.nxIn _ wh.dom _ ht) ?_
  · unfold putL
    by_cases q : u = g.nx h t
    · simp only [if_pos q]
      subst q
      cases hv : L (g.nx h t) with
      | none => simp only; omega
      | some x => have := hx x hv; simp only; omega
    · simp only [if_neg q]; exact Nat.le_refl _
  · unfold putL
    simp only [if_true]
    cases hv : L (g.nx h t) with
    | none => simp only; omega
    | some x => have := hx x hv; simp only; omega
theorem psi_put (he : 0 ≤ e) (b : Bf g e L pend) {h t : D} {p m : Int} {x : Int × Int} (hL : L h = some (p, m)) (ht : t ∈ g.ts h) (hx : L (g.nx h t) = some x) (h1 : p + g.w t = x.1) (h2 : m + e < x.2) :
    phi g (putL L (g.nx h t) (p + g.w t, m + e)) ≤ phi g L ∧ psi g (putL L (g.nx h t) (p + g.w t, m + e)) < psi g L := by
  have wh := b.walk _ _ _ hL
  have hw := g.w0 _ wh.dom _ ht
  have wp := wh.pos he
  constructor
  · refine sum_le fun u _ => ?_
    unfold putL
    by_cases q : u = g.nx h t
    · simp only [if_pos q]
      subst q
      simp only [hx]
      omega
    · simp only [if_neg q]; exact Nat.le_refl _
  · refine sum_lt (v := g.nx h t) (fun u _ => ?_) (g.nxIn _ wh.dom _ ht) ?_
    · unfold putL
      by_cases q : u = g.nx h t
      · simp only [if_pos q]
        subst q
        simp only [hx]
        omega
      · simp only [if_neg q]; exact Nat.le_refl _
    · unfold putL
      simp only [if_true, hx]
      omega
theorem Bf.cap (b : Bf g e L pend) {v : D} {p m : Int} (h : L v = some (p, m)) : p ≤ 5 * (g.Ul.length : Int) := by
  have := b.bound _ _ _ h
  have := cnt_le g L
  omega
theorem phi_cap (b : Bf g e L pend) : phi g L ≤ g.Ul.length * (5 * g.Ul.length + 1) := by
  refine sum_const fun u _ => ?_
  cases h : L u with
  | none => exact Nat.le_refl _
  | some x =>
    have := b.cap (p := x.1) (m := x.2) h
    simp only
    omega
end
end Sl
end S_Sp2
noncomputable section S_Sp3
set_option Elab.async false
set_option linter.all false
set_option maxRecDepth 100000
/-! The class of a map, as facts; least_rows. -/
namespace Sl
open PySem PySem.Spec PyProof.Rows L2
open Classical

theorem bind_ret {α β : Type} (a : α) (f : α → M β) : (M.ret a).bind f = f a := rfl
theorem seqO_nx (G : Sv) (ρ : Rho) : seqO G (.nx ρ) = G ρ := by rfl
theorem seqO_rt (G : Sv) (d : D) : seqO G (.rt d) = .ret (.rt d) := by rfl
theorem bind_retP {α β : Type} (a : α) (f : α → M β) : (M.ret a).bind f = f a := by rfl
structure Cl where
  a : Nat
  n : Nat
  len : Nat
  Ul : List D
  ts : D → List D
  nx : D → D → D
  ky : D
inductive Rc (C : Cl) (c : D) : D → Prop
  | z : Rc C c c
  | s {h t : D} : Rc C c h → t ∈ C.ts h → Rc C c (C.nx h t)
structure Cl.Ok (C : Cl) : Prop where
  conn : ∀ c ∈ C.Ul, ∀ v ∈ C.Ul, Rc C c v
  few : C.Ul.length ≤ 30
  nLo : 2 ≤ C.n
  nHi : C.n ≤ 3
  lenHi : C.len ≤ 9
  lenLo : 1 ≤ C.len
  tsLen : ∀ c ∈ C.Ul, (C.ts c).length < 1000
  shape : ∀ c ∈ C.Ul, ∃ cs : List Int, c = .tup [.int C.a, .tup (cs.map D.int)] ∧ cs.length = C.len
  ismap : ∀ c ∈ C.Ul, g_is_map [c] = .ret (.bl true)
  lands : ∀ c ∈ C.Ul, g_lands_of [c] = .ret (.int C.n)
  key : ∀ c ∈ C.Ul, g_key_of [c] = .ret C.ky
  kyRefl : kNe C.ky C.ky = some false
  good : ∀ c ∈ C.Ul, (isTup c && (keyOk c && (imm c && (eqable 20 c && (eqable 19 c && tup1 c))))) = true
  alike : ∀ c ∈ C.Ul, ∀ d ∈ C.Ul, PySem.W.alike (toPy c) (toPy d) = true
  all : ∀ c ∈ C.Ul, g_all_takings [c] = .ret (.lst (C.ts c))
  law : ∀ c ∈ C.Ul, g__law_takings [c] = .ret (.lst (C.ts c))
  nxIn : ∀ c ∈ C.Ul, ∀ t ∈ C.ts c, C.nx c t ∈ C.Ul
  taken : ∀ c ∈ C.Ul, ∀ t ∈ C.ts c, g_taken [c, t] = .ret (C.nx c t)
  behind : ∀ c ∈ C.Ul, ∀ t ∈ C.ts c, g__law_behind [c, t] = .ret (C.nx c t)
  tk : ∀ c ∈ C.Ul, ∀ t ∈ C.ts c, ∃ k x : Nat, t = .tup [.int k, .int x] ∧ k < C.n ∧ x < C.len
  made : ∀ c ∈ C.Ul, ∀ k x : Nat, k < C.n → x < C.len → g_is_made [c, .tup [.int k, .int x]] = .ret (.bl (decide (D.tup [.int k, .int x] ∈ C.ts c)))
/-- prices -/
structure PrOk (C : Cl) (pr : List Int) : Prop where
  len : pr.length = C.n
  rng : ∀ p ∈ pr, 0 ≤ p ∧ p ≤ 5
def wOf (pr : List Int) : D → Int
  | .tup (.int k :: _) => pr.getD k.toNat 0
  | _ => 0
abbrev prD (pr : List Int) : D := .tup (pr.map .int)

theorem Cl.Ok.isT {C : Cl} (ok : C.Ok) {c : D} (h : c ∈ C.Ul) : isTup c = true := by have := ok.good c h; simp only [Bool.and_eq_true] at this; exact this.1
theorem Cl.Ok.kOk {C : Cl} (ok : C.Ok) {c : D} (h : c ∈ C.Ul) : keyOk c = true := by have := ok.good c h; simp only [Bool.and_eq_true] at this; exact this.2.1
theorem Cl.Ok.im {C : Cl} (ok : C.Ok) {c : D} (h : c ∈ C.Ul) : imm c = true := by have := ok.good c h; simp only [Bool.and_eq_true] at this; exact this.2.2.1
theorem Cl.Ok.eqb {C : Cl} (ok : C.Ok) {c : D} (h : c ∈ C.Ul) : eqable 20 c = true := by have := ok.good c h; simp only [Bool.and_eq_true] at this; exact this.2.2.2.1
theorem Cl.Ok.eq19 {C : Cl} (ok : C.Ok) {c : D} (h : c ∈ C.Ul) : eqable 19 c = true := by have := ok.good c h; simp only [Bool.and_eq_true] at this; exact this.2.2.2.2.1
theorem Cl.Ok.t1 {C : Cl} (ok : C.Ok) {c : D} (h : c ∈ C.Ul) : tup1 c = true := by have := ok.good c h; simp only [Bool.and_eq_true] at this; exact this.2.2.2.2.2
theorem Cl.Ok.ky' {C : Cl} (ok : C.Ok) {c : D} (h : c ∈ C.Ul) : Ky c := let ⟨k, e, _⟩ := keyOk_some (ok.kOk h); ⟨k, e⟩

/-! ### least_rows' relaxing -/
abbrev v4 (p m : Int) (h t : D) : D := .tup [.int p, .int m, h, t]
def lrB3 : Sv := (sSeq (sPar 9 10 (eCall (kFn 2 g_taken) (lCons (eVar 5) (lCons (eVar 8) lNil))) (eTup (lCons (eAddF (eVar 6) (eIx (eVar 1) (eIx (eVar 8) (eC (.int 0))))) (lCons (eAddF (eVar 7) (eC (.int 1))) lNil))))
 (sIf (bOr (bCmp kNotIn (eVar 9) (eVar 2)) (bCmp kLt (eVar 10) (eCut (eIx (eVar 2) (eVar 9)) oNone (oSome (eC (.int 2))))))
 (sSeq (sPut 2 (eVar 9) (eTup (lStar (eVar 10) (lCons (eVar 5) (lCons (eVar 8) lNil)))))
 (sPut 4 (eVar 9) (eC (.bl true))))
 sNx))
def ltB (a b : Int × Int) : Bool := HT.lexLt [a.1, a.2] [b.1, b.2]
theorem ltB_iff (a b : Int × Int) : ltB a b = true ↔ LtL a b := by
  unfold ltB LtL
  simp only [HT.lexLt]
  split
  · rename_i h
    split
    · rename_i h2
      simp only [Bool.false_eq_true, false_iff]
      omega
    · rw [decide_eq_true_eq]
      omega
  · rw [decide_eq_true_eq]
    omega
def betR (f : List (D × D)) (v : D) (p m : Int) : Bool := match dGet f v with
  | some (.tup (.int q :: .int k :: _)) => ltB (p, m) (q, k)
  | _ => true
theorem kIx_dct {f : List (D × D)} {v x : D} (i1 : isTup v = true) (i2 : keyOk v = true) (h : dGet f v = some x) : kIx (.dct f) v = .ret x := by
  simp [kIx, i1, i2, h, mO]
theorem kNotIn_dct {f : List (D × D)} {v : D} (i1 : isTup v = true) (i2 : keyOk v = true) : kNotIn v (.dct f) = some (!(dGet f v).isSome) := by
  have hh : dHas f v = (dGet f v).isSome := by
    unfold dHas dGet
    rw [Option.isSome_map, Bool.eq_iff_iff, List.find?_isSome, List.any_eq_true]
  simp [kNotIn, kIn, i1, i2, hh]
theorem kCut_v4 (p m : Int) (h t : D) : kCut none (some 2) (v4 p m h t) = .ret (.tup [.int p, .int m]) := rfl
theorem kLt_pair (p m q k : Int) : kLt (.tup [.int p, .int m]) (.tup [.int q, .int k]) = some (ltB (p, m) (q, k)) := rfl
theorem small_le {n : Nat} (h : n < 1000) : n < sizeLine := by rw [sizeLine_eq]; omega
theorem le2 : (2 : Nat) ≤ sizeLine := by rw [sizeLine_eq]; omega
theorem le4 : (4 : Nat) ≤ sizeLine := by rw [sizeLine_eq]; omega
theorem lrB3_run {ch P fr h t v : D} {o9 o10 : Option D} {f mo : List (D × D)} {p m k w : Int} (e1 : g_taken [h, t] = .ret v) (e2 : kIx t (.int 0) = .ret (.int k)) (e3 : kIx P (.int k) = .ret (.int w))
    (i1 : isTup v = true) (i2 : keyOk v = true) (i3 : imm v = true) (i4 : imm h = true) (i5 : imm t = true) (z1 : f.length < 1000) (z2 : mo.length < 1000)
    (hf : ∀ x, dGet f v = some x → ∃ q k h t, x = v4 q k h t) :
    ∃ y9 y10, lrB3 [some ch, some P, some (.dct f), some fr, some (.dct mo), some h, some (.int p), some (.int m), some t, o9, o10] =
      .ret (.nx (if betR f v (p + w) (m + 1) = true then [some ch, some P, some (.dct (dPut f v (v4 (p + w) (m + 1) h t))), some fr, some (.dct (dPut mo v (.bl true))), some h, some (.int p), some (.int m), some t, some y9, some y10]
        else [some ch, some P, some (.dct f), some fr, some (.dct mo), some h, some (.int p), some (.int m), some t, some y9, some y10])) := by
  refine ⟨v, .tup [.int (p + w), .int (m + 1)], ?_⟩
  cases hg : dGet f v with
  | none => simp [sSeq, sPar, eCall, lCons, lNil, eVar, bind_retP, kFn, eTup, Sl.e2, kAddF, eC, seqO_nx, seqO_rt, sIf, bOr, bCmp, mO, sPut, lStar, itemsOf, putD, imm, imm.immAll, oNone, oSome, eCut, sNx, eImm, chk, sSet, sDrop, sRet, bNot, bTru, tru, eCmp, eIsi, eAnd, eOr, eNot, onBl, le2, le4, lrB3, e1, e2, e3, kNotIn_dct i1 i2, betR, hg, i1, i2, i3, i4, i5, small_le z1, small_le z2]
  | some x =>
    obtain ⟨q, k, h', t', rfl⟩ := hf x hg
    by_cases hb : ltB (p + w, m + 1) (q, k) = true
    · simp [sSeq, sPar, eCall, lCons, lNil, eVar, bind_retP, kFn, eTup, Sl.e2, kAddF, eC, seqO_nx, seqO_rt, sIf, bOr, bCmp, mO, sPut, lStar, itemsOf, putD, imm, imm.immAll, oNone, oSome, eCut, sNx, eImm, chk, sSet, sDrop, sRet, bNot, bTru, tru, eCmp, eIsi, eAnd, eOr, eNot, onBl, le2, le4, lrB3, e1, e2, e3, kNotIn_dct i1 i2, betR, hg, i1, i2, i3, i4, i5, small_le z1, small_le z2, kIx_dct i1 i2 hg, kCut_v4, kLt_pair, hb]
    · simp [sSeq, sPar, eCall, lCons, lNil, eVar, bind_retP, kFn, eTup, Sl.e2, kAddF, eC, seqO_nx, seqO_rt, sIf, bOr, bCmp, mO, sPut, lStar, itemsOf, putD, imm, imm.immAll, oNone, oSome, eCut, sNx, eImm, chk, sSet, sDrop, sRet, bNot, bTru, tru, eCmp, eIsi, eAnd, eOr, eNot, onBl, le2, le4, lrB3, e1, e2, e3, kNotIn_dct i1 i2, betR, hg, i1, i2, i3, i4, i5, small_le z1, small_le z2, kIx_dct i1 i2 hg, kCut_v4, kLt_pair, hb]
end Sl
end S_Sp3
noncomputable section S_Sp4
set_option Elab.async false
set_option linter.all false
set_option maxRecDepth 100000
/-! least_rows: its loops. -/
namespace Sl
open PySem PySem.Spec PyProof.Rows L2
open Classical

theorem bind_eq_ret {α β : Type} {f : α → M β} {b : β} : ∀ {m : M α}, m.bind f = .ret b → ∃ a, m = .ret a ∧ f a = .ret b
  | .fail, h => by cases h
  | .ret a, h => ⟨a, rfl, h⟩
  | .draw n k, h => by cases h
theorem whileF_det {c : EvB} {F : Sv} {o : Out} : ∀ (n m : Nat) (ρ : Rho), whileF c F n ρ = .ret o → (whileF c F m ρ).All (fun _ => True) → whileF c F m ρ = .ret o
  | 0, _, _, h, _ => by cases h
  | _ + 1, 0, _, _, h => h.elim
  | n + 1, m + 1, ρ, h, h' => by
    obtain ⟨b, e1, h1⟩ := bind_eq_ret (show (c ρ).bind _ = _ from h)
    have h2 := M.All.bind (show M.All _ ((c ρ).bind _) from h')
    show (c ρ).bind _ = _
    rw [e1] at h2 ⊢
    have h3 : M.All _ (if b = true then (F ρ).bind (loopO (whileF c F m)) else .ret (.nx ρ)) := h2
    show (if b = true then (F ρ).bind (loopO (whileF c F m)) else .ret (.nx ρ)) = _
    cases b with
    | false => exact h1
    | true =>
      rw [if_pos rfl] at h1 h3 ⊢
      obtain ⟨o1, e2, h4⟩ := bind_eq_ret h1
      have h5 := M.All.bind h3
      rw [e2] at h5 ⊢
      cases o1 with
      | nx ρ' => exact whileF_det n m ρ' h4 h5
      | ct ρ' => exact whileF_det n m ρ' h4 h5
      | bk ρ' => exact h4
      | rt d => exact h4
theorem whileE {c : EvB} {F : Sv} {o : Out} {n : Nat} {ρ : Rho} (h : whileF c F n ρ = .ret o) : sWhile (fuC c F) c F ρ = .ret o := by
  have ex : ∃ n, (whileF c F n ρ).All fun _ => True := ⟨n, by rw [h]; exact trivial⟩
  have e : fuC c F ρ = ex.choose := by unfold fuC; rw [dif_pos ex]
  unfold sWhile
  rw [e]
  exact whileF_det n _ ρ h ex.choose_spec

theorem Bf.weak {g : Gf} {e : Int} {L : Lab} {pend pend' : D → D → Prop} (b : Bf g e L pend) (h : ∀ h' t', t' ∈ g.ts h' → pend h' t' → pend' h' t') : Bf g e L pend' :=
  ⟨b.start, b.walk, fun h1 p1 m1 t1 e1 i1 n1 => b.closed h1 p1 m1 t1 e1 i1 fun z => n1 (h _ _ i1 z), b.bound⟩
theorem dGet_noKy {f : List (D × D)} (hf : Kys f) {u : D} (hu : ¬ Ky u) : dGet f u = none := by
  unfold dGet
  rw [Option.map_eq_none_iff, List.find?_eq_none]
  intro p hp q
  exact hu (eqD_eq _ _ q ▸ hf p hp)
theorem dGet_put' {f : List (D × D)} (hf : Kys f) {d u : D} (v : D) (hd : Ky d) : dGet (dPut f d v) u = if u = d then some v else dGet f u := by
  by_cases hu : Ky u
  · exact dGet_put f v hd hu
  · rw [dGet_noKy hf hu, dGet_noKy (hf.put hd) hu, if_neg (fun q => hu (by rw [q]; exact hd))]

/-! ### the class's graph -/
theorem Cl.Ok.wt {C : Cl} (ok : C.Ok) {pr : List Int} (po : PrOk C pr) {c t : D} (hc : c ∈ C.Ul) (ht : t ∈ C.ts c) : 0 ≤ wOf pr t ∧ wOf pr t ≤ 5 := by
  obtain ⟨k, x, rfl, hk, _⟩ := ok.tk c hc t ht
  show 0 ≤ pr.getD (Int.toNat (k : Int)) 0 ∧ pr.getD (Int.toNat (k : Int)) 0 ≤ 5
  rw [Int.toNat_natCast, List.getD_eq_getElem?_getD, List.getElem?_eq_getElem (by rw [po.len]; exact hk)]
  exact po.rng _ (List.getElem_mem _)
def Cl.Ok.gf {C : Cl} (ok : C.Ok) {pr : List Int} (po : PrOk C pr) {c0 : D} (h0 : c0 ∈ C.Ul) : Gf := ⟨C.Ul, C.ts, C.nx, wOf pr, c0, h0, ok.nxIn, fun _ hh _ ht => ok.wt po hh ht⟩
theorem Cl.Ok.ixt {C : Cl} (ok : C.Ok) {pr : List Int} (po : PrOk C pr) {c t : D} (hc : c ∈ C.Ul) (ht : t ∈ C.ts c) : ∃ k : Int, kIx t (.int 0) = .ret (.int k) ∧ kIx (prD pr) (.int k) = .ret (.int (wOf pr t)) := by
  obtain ⟨k, x, rfl, hk, _⟩ := ok.tk c hc t ht
  refine ⟨k, rfl, ?_⟩
  have hk' : k < (pr.map D.int).length := by rw [List.length_map, po.len]; exact hk
  show mO (atI (pr.map D.int) (k : Int)) M.ret = _
  have e : atI (pr.map D.int) (k : Int) = some (.int (pr[k]'(by rw [po.len]; exact hk))) := by
    unfold atI ixN
    rw [if_pos (by omega), if_pos (by omega)]
    show (pr.map D.int)[Int.toNat (k : Int)]? = _
    rw [Int.toNat_natCast, List.getElem?_map, List.getElem?_eq_getElem (by rw [po.len]; exact hk)]
    rfl
  rw [e]
  show M.ret (D.int _) = M.ret (D.int (pr.getD (Int.toNat (k : Int)) 0))
  rw [Int.toNat_natCast, List.getD_eq_getElem?_getD, List.getElem?_eq_getElem (by rw [po.len]; exact hk)]
  rfl
theorem Cl.Ok.imt {C : Cl} (ok : C.Ok) {c t : D} (hc : c ∈ C.Ul) (ht : t ∈ C.ts c) : imm t = true := by
  obtain ⟨k, x, rfl, _, _⟩ := ok.tk c hc t ht
  rfl

/-! ### the labels -/
def labR (f : List (D × D)) : Lab := fun v => match dGet f v with
  | some (.tup (.int p :: .int m :: _)) => some (p, m)
  | _ => none
theorem labR_of {f : List (D × D)} {v h t : D} {p m : Int} (e : dGet f v = some (v4 p m h t)) : labR f v = some (p, m) := by unfold labR; rw [e]
theorem labR_put {f : List (D × D)} (hf : Kys f) {v h t : D} {p m : Int} (hd : Ky v) : labR (dPut f v (v4 p m h t)) = putL (labR f) v (p, m) := by
  funext u
  unfold labR putL
  rw [dGet_put' hf _ hd]
  by_cases q : u = v
  · rw [if_pos q, if_pos q]
  · rw [if_neg q, if_neg q]
structure Lr (C : Cl) (g : Gf) (f : List (D × D)) (pend : D → D → Prop) : Prop where
  sub : ∀ k ∈ keysOf f, k ∈ C.Ul
  nd : (keysOf f).Nodup
  ent : ∀ v x, dGet f v = some x → ∃ p m h t, x = v4 p m h t
  bf : Bf g 1 (labR f) pend
  par0 : dGet f g.c0 = some (v4 0 0 .non .non)
  par : ∀ v p m h t, dGet f v = some (v4 p m h t) → (v = g.c0 ∧ p = 0 ∧ m = 0 ∧ h = .non ∧ t = .non) ∨ (h ∈ C.Ul ∧ t ∈ g.ts h ∧ g.nx h t = v ∧ ∃ y, labR f h = some y ∧ LeL (y.1 + g.w t, y.2 + 1) (p, m))
section
variable {C : Cl} (ok : C.Ok) {pr : List Int} (po : PrOk C pr) {c0 : D} (h0 : c0 ∈ C.Ul) {f mo : List (D × D)} {pend pend' : D → D → Prop}
include ok
theorem Lr.kys {g : Gf} (l : Lr C g f pend) : Kys f := fun p hp => ok.ky' (l.sub _ (List.mem_map.mpr ⟨p, hp, rfl⟩))
theorem Lr.len {g : Gf} (l : Lr C g f pend) : f.length < 1000 := by
  have := l.nd.length_le_of_subset (l₂ := C.Ul) l.sub
  rw [List.length_map] at this
  have := ok.few
  omega
theorem labR_get {g : Gf} (l : Lr C g f pend) {v : D} {p m : Int} (h : labR f v = some (p, m)) : ∃ h t, dGet f v = some (v4 p m h t) := by
  cases e : dGet f v with
  | none => unfold labR at h; rw [e] at h; cases h
  | some x =>
    obtain ⟨q, k, h', t', rfl⟩ := l.ent v x e
    rw [labR_of e] at h
    cases h
    exact ⟨_, _, rfl⟩
theorem betR_iff {g : Gf} (l : Lr C g f pend) {v : D} {p m : Int} : betR f v p m = true ↔ ∀ x, labR f v = some x → LtL (p, m) x := by
  unfold betR
  cases e : dGet f v with
  | none =>
    have : labR f v = none := by unfold labR; rw [e]
    rw [this]
    simp
  | some x =>
    obtain ⟨q, k, h', t', rfl⟩ := l.ent v x e
    rw [labR_of e]
    show ltB (p, m) (q, k) = true ↔ _
    rw [ltB_iff]
    exact ⟨fun h x hx => by cases hx; exact h, fun h => h _ rfl⟩
theorem Lr.put (l : Lr C (ok.gf po h0) f pend) {h t : D} {p m : Int} (hL : labR f h = some (p, m)) (ht : t ∈ C.ts h) (hb : ∀ x, labR f (C.nx h t) = some x → LtL (p + wOf pr t, m + 1) x)
    (hp : ∀ h' t', pend h' t' → pend' h' t' ∨ (h' = h ∧ t' = t)) (hv : ∀ t', pend' (C.nx h t) t') : Lr C (ok.gf po h0) (dPut f (C.nx h t) (v4 (p + wOf pr t) (m + 1) h t)) pend' := by
  have wh := l.bf.walk _ _ _ hL
  have hh : h ∈ C.Ul := wh.dom
  have hvU : C.nx h t ∈ C.Ul := ok.nxIn h hh t ht
  have hky := ok.ky' hvU
  have hw := ok.wt po hh ht
  have key := l.kys ok
  have wp := wh.pos (by decide)
  have b' := l.bf.put (by decide) hL ht hb hp hv
  have e0 : C.nx h t ≠ c0 := fun q => by
    have := hb (0, 0) (by rw [q]; exact labR_of l.par0)
    unfold LtL at this
    simp only at this
    omega
  have e1 : C.nx h t ≠ h := fun q => by
    have := hb (p, m) (by rw [q]; exact hL)
    unfold LtL at this
    simp only at this
    omega
  refine ⟨fun k hk => ?_, nodup_put l.nd hky, fun v x e => ?_, ?_, ?_, fun v p1 m1 h1 t1 e => ?_⟩
  · rcases (mem_put hky).mp hk with rfl | hk
    · exact hvU
    · exact l.sub k hk
  · rw [dGet_put' key _ hky] at e
    split at e
    · cases e; exact ⟨_, _, _, _, rfl⟩
    · exact l.ent v x e
  · rw [labR_put key hky]; exact b'
  · rw [dGet_put' key _ hky, if_neg (fun q => e0 q.symm)]; exact l.par0
  · rw [labR_put key hky]
    rw [dGet_put' key _ hky] at e
    split at e
    · rename_i q
      cases e
      refine .inr ⟨hh, ht, q.symm, (p, m), ?_, LeL.rfl' _⟩
      unfold putL
      rw [if_neg (fun z => e1 z.symm)]
      exact hL
    · rcases l.par v p1 m1 h1 t1 e with x | ⟨a1, a2, a3, y, a4, a5⟩
      · exact .inl x
      · refine .inr ⟨a1, a2, a3, ?_⟩
        by_cases q : h1 = C.nx h t
        · refine ⟨_, by unfold putL; rw [if_pos q], LeL.trans ?_ a5⟩
          have := hb y (by rw [← q]; exact a4)
          unfold LtL LeL at *
          simp only at *
          omega
        · exact ⟨y, by unfold putL; rw [if_neg q]; exact a4, a5⟩
end
end Sl
end S_Sp4
noncomputable section S_Sp5
set_option Elab.async false
set_option linter.all false
set_option maxRecDepth 100000
/-! least_rows: what it gives. -/
namespace Sl
open PySem PySem.Spec PyProof.Rows L2
open Classical

def lrB2 : Sv := (sSeq (sTgt0 (gTup2 6 7) (eCut (eImm (eIx (eVar 2) (eVar 5))) oNone (oSome (eC (.int 2)))))
 (sFor (gVar 8) (lNew (eCall (kFn 1 g_all_takings) (lCons (eVar 5) lNil))) lrB3))
def lrB1 : Sv := (sSeq (sSet 4 eDict0)
 (sSeq (sFor (gVar 5) (lVar 3) lrB2)
 (sSet 3 (eCall kListA (lCons (eVar 4) lNil)))))
theorem F_least_rows_eq : F_least_rows = sSeq (sPar 2 3 (eDict1 (eVar 0) (eTup (lCons (eC (.int 0)) (lCons (eC (.int 0)) (lCons (eC .non) (lCons (eC .non) lNil)))))) (eLst (lCons (eImm (eVar 0)) lNil)))
  (sSeq (sWhile (fuC (bTru (eVar 3)) lrB1) (bTru (eVar 3)) lrB1) (sRet (eVar 2))) := rfl

section
variable {C : Cl} (ok : C.Ok) {pr : List Int} (po : PrOk C pr) {c0 : D} (h0 : c0 ∈ C.Ul)
/-- how far f has come since f0 -/
def Fell (g : Gf) (f0 f mo : List (D × D)) : Prop := (phi g (labR f) < phi g (labR f0) ∨ (phi g (labR f) = phi g (labR f0) ∧ psi g (labR f) < psi g (labR f0))) ∨ (mo = [] ∧ f = f0)
def MoOk (C : Cl) (f mo : List (D × D)) : Prop := (keysOf mo).Nodup ∧ ∀ u ∈ keysOf mo, u ∈ C.Ul ∧ (labR f u).isSome = true
include ok
theorem MoOk.len {f mo : List (D × D)} (h : MoOk C f mo) : mo.length < 1000 := by
  have := h.1.length_le_of_subset (l₂ := C.Ul) fun u hu => (h.2 u hu).1
  rw [List.length_map] at this
  have := ok.few
  omega
/-- one here's takings -/
def I3 (fr : D) (f0 : List (D × D)) (S : List D) (h : D) (p m : Int) (rest : List D) (ρ : Rho) : Prop := ∃ f mo o8 o9 o10, ρ = [some c0, some (prD pr), some (.dct f), some fr, some (.dct mo), some h, some (.int p), some (.int m), o8, o9, o10] ∧
  Lr C (ok.gf po h0) f (fun h' t' => h' ∈ S ∨ h' ∈ keysOf mo ∨ (h' = h ∧ t' ∈ rest)) ∧ labR f h = some (p, m) ∧ MoOk C f mo ∧ Fell (ok.gf po h0) f0 f mo ∧ (∀ t ∈ rest, t ∈ C.ts h) ∧ (∀ u ∈ S, (labR f u).isSome = true)
theorem lr_step3 {fr : D} {f0 : List (D × D)} {S : List D} {h : D} {p m : Int} (t : D) (rest : List D) (ρ : Rho) (hi : I3 ok po h0 fr f0 S h p m (t :: rest) ρ) :
    ∃ ρ1 ρ2, gVar 8 t ρ = .ret ρ1 ∧ lrB3 ρ1 = .ret (.nx ρ2) ∧ I3 ok po h0 fr f0 S h p m rest ρ2 := by
  obtain ⟨f, mo, o8, o9, o10, rfl, l, hL, hm, fe, hr, hS⟩ := hi
  have ht := hr t (List.mem_cons_self ..)
  have hh : h ∈ C.Ul := (l.bf.walk _ _ _ hL).dom
  have hv := ok.nxIn h hh t ht
  obtain ⟨k, e2, e3⟩ := ok.ixt po hh ht
  obtain ⟨y9, y10, e⟩ := lrB3_run (ch := c0) (P := prD pr) (fr := fr) (h := h) (t := t) (o9 := o9) (o10 := o10) (f := f) (mo := mo) (p := p) (m := m) (ok.taken h hh t ht) e2 e3 (ok.isT hv) (ok.kOk hv) (ok.im hv) (ok.im hh) (ok.imt hh ht) (l.len ok) (MoOk.len ok hm) (l.ent _)
  by_cases hb : betR f (C.nx h t) (p + wOf pr t) (m + 1) = true
  · rw [if_pos hb] at e
    refine ⟨_, _, rfl, e, dPut f (C.nx h t) (v4 (p + wOf pr t) (m + 1) h t), dPut mo (C.nx h t) (.bl true), some t, some y9, some y10, rfl, ?_, ?_, ?_, ?_, fun u hu => hr u (List.mem_cons_of_mem _ hu), ?_⟩
    · refine l.put ok po h0 hL ht ((betR_iff ok l).mp hb) (fun h' t' q => ?_) fun t' => .inr (.inl ((mem_put (ok.ky' hv)).mpr (.inl rfl)))
      rcases q with q | q | ⟨q1, q2⟩
      · exact .inl (.inl q)
      · exact .inl (.inr (.inl ((mem_put (ok.ky' hv)).mpr (.inr q))))
      · rcases List.mem_cons.mp q2 with q2 | q2
        · exact .inr ⟨q1, q2⟩
        · exact .inl (.inr (.inr ⟨q1, q2⟩))
    · rw [labR_put (l.kys ok) (ok.ky' hv)]
      unfold putL
      rw [if_neg, hL]
      intro q
      have := (betR_iff ok l).mp hb (p, m) (by rw [← q]; exact hL)
      have hw := ok.wt po hh ht
      unfold LtL at this
      simp only at this
      omega
    · refine ⟨nodup_put hm.1 (ok.ky' hv), fun u hu => ?_⟩
      rw [labR_put (l.kys ok) (ok.ky' hv)]
      unfold putL
      rcases (mem_put (ok.ky' hv)).mp hu with rfl | hu
      · exact ⟨hv, by rw [if_pos rfl]; rfl⟩
      · refine ⟨(hm.2 u hu).1, ?_⟩
        split
        · rfl
        · exact (hm.2 u hu).2
    · left
      have hbx := (betR_iff ok l).mp hb
      rw [labR_put (l.kys ok) (ok.ky' hv)]
      have dec : phi (ok.gf po h0) (putL (labR f) (C.nx h t) (p + wOf pr t, m + 1)) < phi (ok.gf po h0) (labR f) ∨ (phi (ok.gf po h0) (putL (labR f) (C.nx h t) (p + wOf pr t, m + 1)) ≤ phi (ok.gf po h0) (labR f) ∧ psi (ok.gf po h0) (putL (labR f) (C.nx h t) (p + wOf pr t, m + 1)) < psi (ok.gf po h0) (labR f)) := by
        cases hx : labR f (C.nx h t) with
        | none =>
          refine .inl (phi_put (by decide) l.bf hL ht (fun x q => by rw [show (ok.gf po h0).nx h t = C.nx h t from rfl, hx] at q; cases q) ?_)
          have b1 := l.bf.bound _ _ _ hL
          have c2 := cnt_new (ok.gf po h0) (labR f) (C.nx h t) (p + wOf pr t, m + 1) hv hx
          have c3 := cnt_le (ok.gf po h0) (putL (labR f) (C.nx h t) (p + wOf pr t, m + 1))
          have hw := ok.wt po hh ht
          show p + wOf pr t ≤ _
          omega
        | some x =>
          have := hbx x hx
          by_cases q : p + wOf pr t < x.1
          · refine .inl (phi_put (by decide) l.bf hL ht (fun x' q' => by rw [show (ok.gf po h0).nx h t = C.nx h t from rfl, hx] at q'; cases q'; exact q) ?_)
            have := l.bf.cap (p := x.1) (m := x.2) hx
            show p + wOf pr t ≤ _
            omega
          · unfold LtL at this
            simp only at this
            exact .inr (psi_put (by decide) l.bf hL ht hx (by show p + wOf pr t = x.1; omega) (by omega))
      rcases fe with fe | ⟨_, rfl⟩ <;> omega
    · intro u hu
      rw [labR_put (l.kys ok) (ok.ky' hv)]
      unfold putL
      split
      · rfl
      · exact hS u hu
  · rw [if_neg hb] at e
    refine ⟨_, _, rfl, e, f, mo, some t, some y9, some y10, rfl, ?_, hL, hm, fe, fun u hu => hr u (List.mem_cons_of_mem _ hu), hS⟩
    have hn : ¬ ∀ x, labR f (C.nx h t) = some x → LtL (p + wOf pr t, m + 1) x := fun q => hb ((betR_iff ok l).mpr q)
    have ⟨x, hx⟩ := Classical.not_forall.mp hn
    have ⟨hx1, hx2⟩ := Classical.not_imp.mp hx
    refine ⟨l.sub, l.nd, l.ent, l.bf.keep hL hx1 hx2 fun h' t' q => ?_, l.par0, l.par⟩
    rcases q with q | q | ⟨q1, q2⟩
    · exact .inl (.inl q)
    · exact .inl (.inr (.inl q))
    · rcases List.mem_cons.mp q2 with q2 | q2
      · exact .inr ⟨q1, q2⟩
      · exact .inl (.inr (.inr ⟨q1, q2⟩))
/-- the fresh ones -/
def I2 (fr : D) (f0 : List (D × D)) (S : List D) (ρ : Rho) : Prop := ∃ f mo o5 o6 o7 o8 o9 o10, ρ = [some c0, some (prD pr), some (.dct f), some fr, some (.dct mo), o5, o6, o7, o8, o9, o10] ∧
  Lr C (ok.gf po h0) f (fun h' _ => h' ∈ S ∨ h' ∈ keysOf mo) ∧ MoOk C f mo ∧ Fell (ok.gf po h0) f0 f mo ∧ (∀ u ∈ S, (labR f u).isSome = true)
theorem lr_step2 {fr : D} {f0 : List (D × D)} (h : D) (S : List D) (ρ : Rho) (hi : I2 ok po h0 fr f0 (h :: S) ρ) :
    ∃ ρ1 ρ2, gVar 5 h ρ = .ret ρ1 ∧ lrB2 ρ1 = .ret (.nx ρ2) ∧ I2 ok po h0 fr f0 S ρ2 := by
  obtain ⟨f, mo, o5, o6, o7, o8, o9, o10, rfl, l, hm, fe, hS⟩ := hi
  obtain ⟨⟨p, m⟩, hL⟩ := Option.isSome_iff_exists.mp (hS h (List.mem_cons_self ..))
  obtain ⟨h1, t1, hg⟩ := labR_get ok l hL
  have hh : h ∈ C.Ul := (l.bf.walk _ _ _ hL).dom
  have im1 : imm h1 = true ∧ imm t1 = true := by
    rcases l.par _ _ _ _ _ hg with ⟨_, _, _, rfl, rfl⟩ | ⟨a1, a2, _⟩
    · exact ⟨rfl, rfl⟩
    · exact ⟨ok.im a1, ok.imt a1 a2⟩
  have st : I3 ok po h0 fr f0 S h p m (C.ts h) [some c0, some (prD pr), some (.dct f), some fr, some (.dct mo), some h, some (.int p), some (.int m), o8, o9, o10] := by
    refine ⟨f, mo, o8, o9, o10, rfl, ⟨l.sub, l.nd, l.ent, l.bf.weak fun h' t' i q => ?_, l.par0, l.par⟩, hL, hm, fe, fun _ h => h, fun u hu => hS u (List.mem_cons_of_mem _ hu)⟩
    rcases q with q | q
    · rcases List.mem_cons.mp q with rfl | q
      · exact .inr (.inr ⟨rfl, i⟩)
      · exact .inl q
    · exact .inr (.inl q)
  obtain ⟨ρ', e, f', mo', o8', o9', o10', rfl, l', hL', hm', fe', _, hS'⟩ := loopF_inv (I3 ok po h0 fr f0 S h p m) (lr_step3 ok po h0) _ _ st
  refine ⟨_, _, rfl, ?_, f', mo', some h, some (.int p), some (.int m), o8', o9', o10', rfl, ⟨l'.sub, l'.nd, l'.ent, l'.bf.weak fun h' t' i q => ?_, l'.par0, l'.par⟩, hm', fe', hS'⟩
  · have e1 : (sFor (gVar 8) (lNew (eCall (kFn 1 g_all_takings) (lCons (eVar 5) lNil))) lrB3) [some c0, some (prD pr), some (.dct f), some fr, some (.dct mo), some h, some (.int p), some (.int m), o8, o9, o10] = loopF (gVar 8) lrB3 (C.ts h) [some c0, some (prD pr), some (.dct f), some fr, some (.dct mo), some h, some (.int p), some (.int m), o8, o9, o10] := by
      simp [sSeq, sPar, eCall, lCons, lNil, eVar, bind_retP, kFn, eTup, Sl.e2, kAddF, eC, seqO_nx, seqO_rt, sIf, bOr, bCmp, mO, sPut, lStar, itemsOf, putD, imm, imm.immAll, oNone, oSome, eCut, sNx, eImm, chk, sSet, sDrop, sRet, bNot, bTru, tru, eCmp, eIsi, eAnd, eOr, eNot, onBl, le2, le4, sFor, lNew, ok.all h hh, kItems]
    simp [sSeq, sPar, eCall, lCons, lNil, eVar, bind_retP, kFn, eTup, Sl.e2, kAddF, eC, seqO_nx, seqO_rt, sIf, bOr, bCmp, mO, sPut, lStar, itemsOf, putD, imm, imm.immAll, oNone, oSome, eCut, sNx, eImm, chk, sSet, sDrop, sRet, bNot, bTru, tru, eCmp, eIsi, eAnd, eOr, eNot, onBl, le2, le4, lrB2, sTgt0, kIx_dct (ok.isT hh) (ok.kOk hh) hg, im1, kCut_v4, gTup2, e1, e]
  · rcases q with q | q | ⟨_, q⟩
    · exact .inl q
    · exact .inr q
    · cases q
theorem lr_step1 {f : List (D × D)} {fr : List D} {o4 o5 o6 o7 o8 o9 o10 : Option D} (l : Lr C (ok.gf po h0) f fun h' _ => h' ∈ fr) (hS : ∀ u ∈ fr, (labR f u).isSome = true) :
    ∃ f' mo o5' o6' o7' o8' o9' o10', lrB1 [some c0, some (prD pr), some (.dct f), some (.lst fr), o4, o5, o6, o7, o8, o9, o10] = .ret (.nx [some c0, some (prD pr), some (.dct f'), some (.lst (keysOf mo)), some (.dct mo), o5', o6', o7', o8', o9', o10']) ∧
      Lr C (ok.gf po h0) f' (fun h' _ => h' ∈ keysOf mo) ∧ (∀ u ∈ keysOf mo, (labR f' u).isSome = true) ∧ Fell (ok.gf po h0) f f' mo := by
  have st : I2 ok po h0 (.lst fr) f fr [some c0, some (prD pr), some (.dct f), some (.lst fr), some (.dct []), o5, o6, o7, o8, o9, o10] := by
    refine ⟨f, [], o5, o6, o7, o8, o9, o10, rfl, ⟨l.sub, l.nd, l.ent, l.bf.weak fun h' t' i q => .inl q, l.par0, l.par⟩, ⟨List.nodup_nil, fun u hu => nomatch hu⟩, .inr ⟨rfl, rfl⟩, hS⟩
  obtain ⟨ρ', e, f', mo', o5', o6', o7', o8', o9', o10', rfl, l', hm', fe', _⟩ := loopF_inv (I2 ok po h0 (.lst fr) f) (lr_step2 ok po h0) _ _ st
  refine ⟨f', mo', o5', o6', o7', o8', o9', o10', ?_, ⟨l'.sub, l'.nd, l'.ent, l'.bf.weak fun h' t' i q => ?_, l'.par0, l'.par⟩, fun u hu => (hm'.2 u hu).2, fe'⟩
  · simp [sSeq, sPar, eCall, lCons, lNil, eVar, bind_retP, kFn, eTup, Sl.e2, kAddF, eC, seqO_nx, seqO_rt, sIf, bOr, bCmp, mO, sPut, lStar, itemsOf, putD, imm, imm.immAll, oNone, oSome, eCut, sNx, eImm, chk, sSet, sDrop, sRet, bNot, bTru, tru, eCmp, eIsi, eAnd, eOr, eNot, onBl, le2, le4, lrB1, eDict0, sFor, lVar, lNew, kItems, e, kListA]
  · rcases q with q | q
    · cases q
    · exact q
theorem lr_while : ∀ (μ1 μ2 : Nat) (f : List (D × D)) (fr : List D) (o4 o5 o6 o7 o8 o9 o10 : Option D), phi (ok.gf po h0) (labR f) = μ1 → psi (ok.gf po h0) (labR f) = μ2 → Lr C (ok.gf po h0) f (fun h' _ => h' ∈ fr) → (∀ u ∈ fr, (labR f u).isSome = true) →
    ∃ n f' ρ', whileF (bTru (eVar 3)) lrB1 n [some c0, some (prD pr), some (.dct f), some (.lst fr), o4, o5, o6, o7, o8, o9, o10] = .ret (.nx (some c0 :: some (prD pr) :: some (.dct f') :: ρ')) ∧ Lr C (ok.gf po h0) f' fun _ _ => False := by
  intro μ1
  induction μ1 using Nat.strongRecOn with
  | _ μ1 ih1 =>
    intro μ2
    induction μ2 using Nat.strongRecOn with
    | _ μ2 ih2 =>
      intro f fr o4 o5 o6 o7 o8 o9 o10 q1 q2 l hS
      cases fr with
      | nil => exact ⟨1, f, _, rfl, ⟨l.sub, l.nd, l.ent, l.bf.weak (fun h' t' i q => nomatch q), l.par0, l.par⟩⟩
      | cons a fr =>
        obtain ⟨f1, mo, o5', o6', o7', o8', o9', o10', e, l1, s1, fe⟩ := lr_step1 (o4 := o4) (o5 := o5) (o6 := o6) (o7 := o7) (o8 := o8) (o9 := o9) (o10 := o10) ok po h0 l hS
        have go : ∀ n o, whileF (bTru (eVar 3)) lrB1 n [some c0, some (prD pr), some (.dct f1), some (.lst (keysOf mo)), some (.dct mo), o5', o6', o7', o8', o9', o10'] = .ret o → whileF (bTru (eVar 3)) lrB1 (n + 1) [some c0, some (prD pr), some (.dct f), some (.lst (a :: fr)), o4, o5, o6, o7, o8, o9, o10] = .ret o := by
          intro n o h
          show (lrB1 _).bind (loopO _) = _
          rw [e]
          exact h
        rcases fe with (fe | ⟨fe1, fe2⟩) | ⟨rfl, rfl⟩
        · obtain ⟨n, f', ρ', e', l'⟩ := ih1 _ (by omega) _ f1 (keysOf mo) (some (.dct mo)) o5' o6' o7' o8' o9' o10' rfl rfl l1 s1
          exact ⟨n + 1, f', ρ', go n _ e', l'⟩
        · obtain ⟨n, f', ρ', e', l'⟩ := ih2 _ (by omega) f1 (keysOf mo) (some (.dct mo)) o5' o6' o7' o8' o9' o10' (by omega) rfl l1 s1
          exact ⟨n + 1, f', ρ', go n _ e', l'⟩
        · exact ⟨2, f1, _, go 1 _ rfl, ⟨l1.sub, l1.nd, l1.ent, l1.bf.weak (fun h' t' i q => nomatch q), l1.par0, l1.par⟩⟩
theorem least_rows_ok : ∃ f, g_least_rows [c0, prD pr] = .ret (.dct f) ∧ Lr C (ok.gf po h0) f fun _ _ => False := by
  have l0 : Lr C (ok.gf po h0) [(c0, v4 0 0 .non .non)] fun h' _ => h' ∈ [c0] := by
    have eg : ∀ v, dGet [(c0, v4 0 0 .non .non)] v = if v = c0 then some (v4 0 0 .non .non) else none := by
      intro v
      by_cases q : v = c0
      · rw [if_pos q, q]
        simp [sSeq, sPar, eCall, lCons, lNil, eVar, bind_retP, kFn, eTup, Sl.e2, kAddF, eC, seqO_nx, seqO_rt, sIf, bOr, bCmp, mO, sPut, lStar, itemsOf, putD, imm, imm.immAll, oNone, oSome, eCut, sNx, eImm, chk, sSet, sDrop, sRet, bNot, bTru, tru, eCmp, eIsi, eAnd, eOr, eNot, onBl, le2, le4, dGet, (ok.ky' h0).refl]
      · rw [if_neg q]
        have : eqD c0 v = false := by
          cases z : eqD c0 v with
          | false => rfl
          | true => exact absurd (eqD_eq _ _ z).symm q
        simp [sSeq, sPar, eCall, lCons, lNil, eVar, bind_retP, kFn, eTup, Sl.e2, kAddF, eC, seqO_nx, seqO_rt, sIf, bOr, bCmp, mO, sPut, lStar, itemsOf, putD, imm, imm.immAll, oNone, oSome, eCut, sNx, eImm, chk, sSet, sDrop, sRet, bNot, bTru, tru, eCmp, eIsi, eAnd, eOr, eNot, onBl, le2, le4, dGet, this]
    have el : ∀ v x, labR [(c0, v4 0 0 .non .non)] v = some x → v = c0 ∧ x = (0, 0) := by
      intro v x h
      unfold labR at h
      rw [eg] at h
      by_cases q : v = c0
      · rw [if_pos q] at h
        cases h
        exact ⟨q, rfl⟩
      · rw [if_neg q] at h
        cases h
    have e0 : labR [(c0, v4 0 0 .non .non)] c0 = some (0, 0) := labR_of (by rw [eg, if_pos rfl])
    refine ⟨fun k hk => ?_, List.pairwise_singleton _ _, fun v x e => ?_, ⟨e0, fun v p m e => ?_, fun h p m t e i n => ?_, fun v p m e => ?_⟩, ?_, fun v p m h t e => ?_⟩
    · rw [List.mem_singleton.mp hk]; exact h0
    · rw [eg] at e
      split at e
      · cases e; exact ⟨_, _, _, _, rfl⟩
      · cases e
    · obtain ⟨rfl, e'⟩ := el v _ e
      cases e'
      exact .z
    · obtain ⟨rfl, _⟩ := el h _ e
      exact absurd (List.mem_singleton.mpr rfl) n
    · obtain ⟨rfl, e'⟩ := el v _ e
      cases e'
      omega
    · show dGet _ c0 = _
      rw [eg, if_pos rfl]
    · rw [eg] at e
      split at e
      · rename_i q
        cases e
        exact .inl ⟨q, rfl, rfl, rfl, rfl⟩
      · cases e
  obtain ⟨n, f', ρ', e, l⟩ := lr_while ok po h0 _ _ [(c0, v4 0 0 .non .non)] [c0] none none none none none none none rfl rfl l0 fun u hu => by
    rw [List.mem_singleton.mp hu]
    rw [show labR [(c0, v4 0 0 .non .non)] c0 = some (0, 0) from l0.bf.start]
    rfl
  refine ⟨f', ?_, l⟩
  have e1 := whileE e
  show (F_least_rows [some c0, some (prD pr), none, none, none, none, none, none, none, none, none]).bind endO = _
  rw [F_least_rows_eq]
  have i1 := ok.isT h0
  have i2 := ok.kOk h0
  have i3 := ok.im h0
  have z1 : (1 : Nat) ≤ sizeLine := by rw [sizeLine_eq]; omega
  simp [sSeq, sPar, eCall, lCons, lNil, eVar, bind_retP, kFn, eTup, Sl.e2, kAddF, eC, seqO_nx, seqO_rt, sIf, bOr, bCmp, mO, sPut, lStar, itemsOf, putD, imm, imm.immAll, oNone, oSome, eCut, sNx, eImm, chk, sSet, sDrop, sRet, bNot, bTru, tru, eCmp, eIsi, eAnd, eOr, eNot, onBl, le2, le4, eDict1, i1, i2, i3, eLst, z1, e1, endO]
end
end Sl
end S_Sp5
noncomputable section S_Sp6
set_option Elab.async false
set_option linter.all false
set_option maxRecDepth 100000
/-! _law_least: what it gives. -/
namespace Sl
open PySem PySem.Spec PyProof.Rows L2
open Classical

def llB3 : Sv := (sSeq (sPar 7 8 (eCall (kFn 2 g__law_behind) (lCons (eVar 5) (lCons (eVar 6) lNil))) (eAddF (eIx (eVar 2) (eVar 5)) (eIx (eVar 1) (eIx (eVar 6) (eC (.int 0))))))
 (sIf (bOr (bCmp kNotIn (eVar 7) (eVar 2)) (bCmp kLt (eVar 8) (eIx (eVar 2) (eVar 7))))
 (sSeq (sPut 2 (eVar 7) (eVar 8))
 (sApp 4 (eVar 7)))
 sNx))
def llB2 : Sv := (sFor (gVar 6) (lNew (eCall (kFn 1 g__law_takings) (lCons (eVar 5) lNil))) llB3)
def llB1 : Sv := (sSeq (sSet 4 (eLst lNil))
 (sSeq (sFor (gVar 5) (lVar 3) llB2)
 (sMove 3 4)))
def llC : EvB := bCmp kNe (eVar 3) (eLst lNil)
theorem F__law_least_eq : F__law_least = (sSeq (sPar 2 3 (eDict1 (eVar 0) (eC (.int 0))) (eLst (lCons (eImm (eVar 0)) lNil)))
 (sSeq (sWhile (fuC llC llB1) llC llB1) (sRet (eVar 2)))) := rfl
def labL (f : List (D × D)) : Lab := fun v => match dGet f v with
  | some (.int p) => some (p, 0)
  | _ => none
def betL (f : List (D × D)) (v : D) (p : Int) : Bool := match dGet f v with
  | some (.int q) => decide (p < q)
  | _ => true
theorem labL_of {f : List (D × D)} {v : D} {p : Int} (e : dGet f v = some (.int p)) : labL f v = some (p, 0) := by unfold labL; rw [e]
theorem labL_put {f : List (D × D)} (hf : Kys f) {v : D} {p : Int} (hd : Ky v) : labL (dPut f v (.int p)) = putL (labL f) v (p, 0) := by
  funext u
  unfold labL putL
  rw [dGet_put' hf _ hd]
  by_cases q : u = v
  · rw [if_pos q, if_pos q]
  · rw [if_neg q, if_neg q]
theorem llB3_run {ch P fr h t v : D} {o7 o8 : Option D} {f : List (D × D)} {mo : List D} {p k w : Int} (e1 : g__law_behind [h, t] = .ret v) (e2 : kIx t (.int 0) = .ret (.int k)) (e3 : kIx P (.int k) = .ret (.int w))
    (i0 : isTup h = true) (i00 : keyOk h = true) (hh : dGet f h = some (.int p)) (i1 : isTup v = true) (i2 : keyOk v = true) (i3 : imm v = true) (z1 : f.length < 1000) (z2 : mo.length < sizeLine)
    (hf : ∀ x, dGet f v = some x → ∃ q, x = .int q) :
    ∃ y7 y8, llB3 [some ch, some P, some (.dct f), some fr, some (.lst mo), some h, some t, o7, o8] =
      .ret (.nx (if betL f v (p + w) = true then [some ch, some P, some (.dct (dPut f v (.int (p + w)))), some fr, some (.lst (mo ++ [v])), some h, some t, some y7, some y8]
        else [some ch, some P, some (.dct f), some fr, some (.lst mo), some h, some t, some y7, some y8])) := by
  refine ⟨v, .int (p + w), ?_⟩
  cases hg : dGet f v with
  | none => simp [sSeq, sPar, eCall, lCons, lNil, eVar, bind_retP, kFn, eTup, Sl.e2, kAddF, eC, seqO_nx, seqO_rt, sIf, bOr, bCmp, mO, sPut, lStar, itemsOf, putD, imm, imm.immAll, oNone, oSome, eCut, sNx, eImm, chk, sSet, sDrop, sRet, bNot, bTru, tru, eCmp, eIsi, eAnd, eOr, eNot, onBl, le2, le4, llB3, e1, e2, e3, kIx_dct i0 i00 hh, kNotIn_dct i1 i2, betL, hg, i1, i2, i3, small_le z1, z2, sApp, appD]
  | some x =>
    obtain ⟨q, rfl⟩ := hf x hg
    by_cases hb : p + w < q
    · simp [sSeq, sPar, eCall, lCons, lNil, eVar, bind_retP, kFn, eTup, Sl.e2, kAddF, eC, seqO_nx, seqO_rt, sIf, bOr, bCmp, mO, sPut, lStar, itemsOf, putD, imm, imm.immAll, oNone, oSome, eCut, sNx, eImm, chk, sSet, sDrop, sRet, bNot, bTru, tru, eCmp, eIsi, eAnd, eOr, eNot, onBl, le2, le4, llB3, e1, e2, e3, kIx_dct i0 i00 hh, kNotIn_dct i1 i2, betL, hg, i1, i2, i3, small_le z1, z2, sApp, appD, kIx_dct i1 i2 hg, kLt, hb]
    · simp [sSeq, sPar, eCall, lCons, lNil, eVar, bind_retP, kFn, eTup, Sl.e2, kAddF, eC, seqO_nx, seqO_rt, sIf, bOr, bCmp, mO, sPut, lStar, itemsOf, putD, imm, imm.immAll, oNone, oSome, eCut, sNx, eImm, chk, sSet, sDrop, sRet, bNot, bTru, tru, eCmp, eIsi, eAnd, eOr, eNot, onBl, le2, le4, llB3, e1, e2, e3, kIx_dct i0 i00 hh, kNotIn_dct i1 i2, betL, hg, i1, i2, i3, small_le z1, z2, sApp, appD, kIx_dct i1 i2 hg, kLt, hb]
structure Lq (C : Cl) (g : Gf) (f : List (D × D)) (pend : D → D → Prop) : Prop where
  sub : ∀ k ∈ keysOf f, k ∈ C.Ul
  nd : (keysOf f).Nodup
  ent : ∀ v x, dGet f v = some x → ∃ p, x = .int p
  bf : Bf g 0 (labL f) pend
section
variable {C : Cl} (ok : C.Ok) {pr : List Int} (po : PrOk C pr) {c0 : D} (h0 : c0 ∈ C.Ul) {f : List (D × D)} {pend pend' : D → D → Prop}
include ok
theorem Lq.kys {g : Gf} (l : Lq C g f pend) : Kys f := fun p hp => ok.ky' (l.sub _ (List.mem_map.mpr ⟨p, hp, rfl⟩))
theorem Lq.len {g : Gf} (l : Lq C g f pend) : f.length < 1000 := by
  have := l.nd.length_le_of_subset (l₂ := C.Ul) l.sub
  rw [List.length_map] at this
  have := ok.few
  omega
theorem labL_get {g : Gf} (l : Lq C g f pend) {v : D} {x : Int × Int} (h : labL f v = some x) : dGet f v = some (.int x.1) ∧ x.2 = 0 := by
  cases e : dGet f v with
  | none => unfold labL at h; rw [e] at h; cases h
  | some y =>
    obtain ⟨q, rfl⟩ := l.ent v y e
    rw [labL_of e] at h
    cases h
    exact ⟨rfl, rfl⟩
theorem betL_iff {g : Gf} (l : Lq C g f pend) {v : D} {p : Int} : betL f v p = true ↔ ∀ x, labL f v = some x → LtL (p, 0) x := by
  unfold betL
  cases e : dGet f v with
  | none =>
    have : labL f v = none := by unfold labL; rw [e]
    rw [this]
    simp [sSeq, sPar, eCall, lCons, lNil, eVar, bind_retP, kFn, eTup, Sl.e2, kAddF, eC, seqO_nx, seqO_rt, sIf, bOr, bCmp, mO, sPut, lStar, itemsOf, putD, imm, imm.immAll, oNone, oSome, eCut, sNx, eImm, chk, sSet, sDrop, sRet, bNot, bTru, tru, eCmp, eIsi, eAnd, eOr, eNot, onBl, le2, le4]
  | some x =>
    obtain ⟨q, rfl⟩ := l.ent v x e
    rw [labL_of e]
    show decide (p < q) = true ↔ _
    rw [decide_eq_true_eq]
    refine ⟨fun h x hx => by cases hx; exact .inl h, fun h => ?_⟩
    have := h _ rfl
    unfold LtL at this
    simp only at this
    omega
def J3 (fr : D) (f0 : List (D × D)) (S : List D) (h : D) (p : Int) (rest : List D) (ρ : Rho) : Prop := ∃ f mo o6 o7 o8, ρ = [some c0, some (prD pr), some (.dct f), some fr, some (.lst mo), some h, o6, o7, o8] ∧
  Lq C (ok.gf po h0) f (fun h' t' => h' ∈ S ∨ h' ∈ mo ∨ (h' = h ∧ t' ∈ rest)) ∧ dGet f h = some (.int p) ∧ (∀ u ∈ mo, u ∈ C.Ul ∧ (labL f u).isSome = true) ∧ mo.length + phi (ok.gf po h0) (labL f) ≤ phi (ok.gf po h0) (labL f0) ∧ (∀ t ∈ rest, t ∈ C.ts h) ∧ (∀ u ∈ S, (labL f u).isSome = true)
theorem ll_step3 {fr : D} {f0 : List (D × D)} {S : List D} {h : D} {p : Int} (hcap : phi (ok.gf po h0) (labL f0) < sizeLine) (t : D) (rest : List D) (ρ : Rho) (hi : J3 ok po h0 fr f0 S h p (t :: rest) ρ) :
    ∃ ρ1 ρ2, gVar 6 t ρ = .ret ρ1 ∧ llB3 ρ1 = .ret (.nx ρ2) ∧ J3 ok po h0 fr f0 S h p rest ρ2 := by
  obtain ⟨f, mo, o6, o7, o8, rfl, l, hp0, hm, fe, hr, hS⟩ := hi
  have hL := labL_of hp0
  have ht := hr t (List.mem_cons_self ..)
  have hh : h ∈ C.Ul := (l.bf.walk _ _ _ hL).dom
  have hv := ok.nxIn h hh t ht
  have hw := ok.wt po hh ht
  obtain ⟨k, e2, e3⟩ := ok.ixt po hh ht
  obtain ⟨y7, y8, e⟩ := llB3_run (ch := c0) (P := prD pr) (fr := fr) (h := h) (t := t) (o7 := o7) (o8 := o8) (f := f) (mo := mo) (ok.behind h hh t ht) e2 e3 (ok.isT hh) (ok.kOk hh) hp0 (ok.isT hv) (ok.kOk hv) (ok.im hv) (l.len ok) (by omega) (l.ent _)
  by_cases hb : betL f (C.nx h t) (p + wOf pr t) = true
  · rw [if_pos hb] at e
    have hbx := (betL_iff ok l).mp hb
    have elb := labL_put (l.kys ok) (v := C.nx h t) (p := p + wOf pr t) (ok.ky' hv)
    refine ⟨_, _, rfl, e, dPut f (C.nx h t) (.int (p + wOf pr t)), mo ++ [C.nx h t], some t, some y7, some y8, rfl, ⟨fun k hk => ?_, nodup_put l.nd (ok.ky' hv), fun v x e => ?_, ?_⟩, ?_, ?_, ?_, fun u hu => hr u (List.mem_cons_of_mem _ hu), ?_⟩
    · rcases (mem_put (ok.ky' hv)).mp hk with rfl | hk
      · exact hv
      · exact l.sub k hk
    · rw [dGet_put' (l.kys ok) _ (ok.ky' hv)] at e
      split at e
      · cases e; exact ⟨_, rfl⟩
      · exact l.ent v x e
    · rw [elb]
      refine l.bf.put (e := 0) (by decide) hL ht hbx (fun h' t' q => ?_) fun t' => .inr (.inl (List.mem_append_right _ (List.mem_singleton.mpr rfl)))
      rcases q with q | q | ⟨q1, q2⟩
      · exact .inl (.inl q)
      · exact .inl (.inr (.inl (List.mem_append_left _ q)))
      · rcases List.mem_cons.mp q2 with q2 | q2
        · exact .inr ⟨q1, q2⟩
        · exact .inl (.inr (.inr ⟨q1, q2⟩))
    · rw [dGet_put' (l.kys ok) _ (ok.ky' hv), if_neg]
      · exact hp0
      · intro q
        have := hbx (p, 0) (by rw [← q]; exact hL)
        unfold LtL at this
        simp only at this
        omega
    · intro u hu
      rw [elb]
      unfold putL
      rcases List.mem_append.mp hu with hu | hu
      · refine ⟨(hm u hu).1, ?_⟩
        split
        · rfl
        · exact (hm u hu).2
      · rw [List.mem_singleton.mp hu]
        exact ⟨hv, by rw [if_pos rfl]; rfl⟩
    · rw [elb, List.length_append, List.length_singleton]
      have dec := phi_put (e := 0) (by decide) l.bf hL ht (fun x q => by
        have := hbx x q
        have x2 := (labL_get ok l q).2
        unfold LtL at this
        simp only at this
        show p + wOf pr t < x.1
        omega) (by
        cases hx : labL f (C.nx h t) with
        | none =>
          have b1 := l.bf.bound _ _ _ hL
          have c2 := cnt_new (ok.gf po h0) (labL f) (C.nx h t) (p + wOf pr t, 0) hv hx
          have c3 := cnt_le (ok.gf po h0) (putL (labL f) (C.nx h t) (p + wOf pr t, 0))
          show p + wOf pr t ≤ _
          omega
        | some x =>
          have := hbx x hx
          have := l.bf.cap (p := x.1) (m := x.2) hx
          have x2 := (labL_get ok l hx).2
          unfold LtL at *
          simp only at *
          show p + wOf pr t ≤ _
          omega)
      have dec' : phi (ok.gf po h0) (putL (labL f) (C.nx h t) (p + wOf pr t, 0)) < phi (ok.gf po h0) (labL f) := dec
      omega
    · intro u hu
      rw [elb]
      unfold putL
      split
      · rfl
      · exact hS u hu
  · rw [if_neg hb] at e
    refine ⟨_, _, rfl, e, f, mo, some t, some y7, some y8, rfl, ?_, hp0, hm, fe, fun u hu => hr u (List.mem_cons_of_mem _ hu), hS⟩
    have hn : ¬ ∀ x, labL f (C.nx h t) = some x → LtL (p + wOf pr t, 0) x := fun q => hb ((betL_iff ok l).mpr q)
    have ⟨x, hx⟩ := Classical.not_forall.mp hn
    have ⟨hx1, hx2⟩ := Classical.not_imp.mp hx
    refine ⟨l.sub, l.nd, l.ent, l.bf.keep (e := 0) hL hx1 hx2 fun h' t' q => ?_⟩
    rcases q with q | q | ⟨q1, q2⟩
    · exact .inl (.inl q)
    · exact .inl (.inr (.inl q))
    · rcases List.mem_cons.mp q2 with q2 | q2
      · exact .inr ⟨q1, q2⟩
      · exact .inl (.inr (.inr ⟨q1, q2⟩))
def J2 (fr : D) (f0 : List (D × D)) (S : List D) (ρ : Rho) : Prop := ∃ f mo o5 o6 o7 o8, ρ = [some c0, some (prD pr), some (.dct f), some fr, some (.lst mo), o5, o6, o7, o8] ∧
  Lq C (ok.gf po h0) f (fun h' _ => h' ∈ S ∨ h' ∈ mo) ∧ (∀ u ∈ mo, u ∈ C.Ul ∧ (labL f u).isSome = true) ∧ mo.length + phi (ok.gf po h0) (labL f) ≤ phi (ok.gf po h0) (labL f0) ∧ (∀ u ∈ S, (labL f u).isSome = true)
theorem ll_step2 {fr : D} {f0 : List (D × D)} (hcap : phi (ok.gf po h0) (labL f0) < sizeLine) (h : D) (S : List D) (ρ : Rho) (hi : J2 ok po h0 fr f0 (h :: S) ρ) :
    ∃ ρ1 ρ2, gVar 5 h ρ = .ret ρ1 ∧ llB2 ρ1 = .ret (.nx ρ2) ∧ J2 ok po h0 fr f0 S ρ2 := by
  obtain ⟨f, mo, o5, o6, o7, o8, rfl, l, hm, fe, hS⟩ := hi
  obtain ⟨x, hL⟩ := Option.isSome_iff_exists.mp (hS h (List.mem_cons_self ..))
  obtain ⟨hg, _⟩ := labL_get ok l hL
  have hh : h ∈ C.Ul := (l.bf.walk h x.1 x.2 hL).dom
  have st : J3 ok po h0 fr f0 S h x.1 (C.ts h) [some c0, some (prD pr), some (.dct f), some fr, some (.lst mo), some h, o6, o7, o8] := by
    refine ⟨f, mo, o6, o7, o8, rfl, ⟨l.sub, l.nd, l.ent, l.bf.weak fun h' t' i q => ?_⟩, hg, hm, fe, fun _ h => h, fun u hu => hS u (List.mem_cons_of_mem _ hu)⟩
    rcases q with q | q
    · rcases List.mem_cons.mp q with rfl | q
      · exact .inr (.inr ⟨rfl, i⟩)
      · exact .inl q
    · exact .inr (.inl q)
  obtain ⟨ρ', e, f', mo', o6', o7', o8', rfl, l', hL', hm', fe', _, hS'⟩ := loopF_inv (J3 ok po h0 fr f0 S h x.1) (ll_step3 ok po h0 hcap) _ _ st
  refine ⟨_, _, rfl, ?_, f', mo', some h, o6', o7', o8', rfl, ⟨l'.sub, l'.nd, l'.ent, l'.bf.weak fun h' t' i q => ?_⟩, hm', fe', hS'⟩
  · simp [sSeq, sPar, eCall, lCons, lNil, eVar, bind_retP, kFn, eTup, Sl.e2, kAddF, eC, seqO_nx, seqO_rt, sIf, bOr, bCmp, mO, sPut, lStar, itemsOf, putD, imm, imm.immAll, oNone, oSome, eCut, sNx, eImm, chk, sSet, sDrop, sRet, bNot, bTru, tru, eCmp, eIsi, eAnd, eOr, eNot, onBl, le2, le4, llB2, sFor, lNew, ok.law h hh, kItems, e]
  · rcases q with q | q | ⟨_, q⟩
    · exact .inl q
    · exact .inr q
    · cases q
theorem ll_step1 {f : List (D × D)} {fr : List D} {o4 o5 o6 o7 o8 : Option D} (l : Lq C (ok.gf po h0) f fun h' _ => h' ∈ fr) (hS : ∀ u ∈ fr, (labL f u).isSome = true) :
    ∃ f' mo o5' o6' o7' o8', llB1 [some c0, some (prD pr), some (.dct f), some (.lst fr), o4, o5, o6, o7, o8] = .ret (.nx [some c0, some (prD pr), some (.dct f'), some (.lst mo), none, o5', o6', o7', o8']) ∧
      Lq C (ok.gf po h0) f' (fun h' _ => h' ∈ mo) ∧ (∀ u ∈ mo, (labL f' u).isSome = true) ∧ mo.length + phi (ok.gf po h0) (labL f') ≤ phi (ok.gf po h0) (labL f) := by
  have st : J2 ok po h0 (.lst fr) f fr [some c0, some (prD pr), some (.dct f), some (.lst fr), some (.lst []), o5, o6, o7, o8] := by
    refine ⟨f, [], o5, o6, o7, o8, rfl, ⟨l.sub, l.nd, l.ent, l.bf.weak fun h' t' i q => .inl q⟩, fun u hu => (nomatch hu), by simp [sSeq, sPar, eCall, lCons, lNil, eVar, bind_retP, kFn, eTup, Sl.e2, kAddF, eC, seqO_nx, seqO_rt, sIf, bOr, bCmp, mO, sPut, lStar, itemsOf, putD, imm, imm.immAll, oNone, oSome, eCut, sNx, eImm, chk, sSet, sDrop, sRet, bNot, bTru, tru, eCmp, eIsi, eAnd, eOr, eNot, onBl, le2, le4], hS⟩
  have cap : phi (ok.gf po h0) (labL f) < sizeLine := by
    have a1 := phi_cap l.bf
    have a2 : (ok.gf po h0).Ul.length ≤ 30 := ok.few
    have a3 : (ok.gf po h0).Ul.length * (5 * (ok.gf po h0).Ul.length + 1) ≤ 30 * (5 * 30 + 1) := Nat.mul_le_mul a2 (by omega)
    rw [sizeLine_eq]
    omega
  obtain ⟨ρ', e, f', mo', o5', o6', o7', o8', rfl, l', hm', fe', _⟩ := loopF_inv (J2 ok po h0 (.lst fr) f) (ll_step2 ok po h0 cap) _ _ st
  refine ⟨f', mo', o5', o6', o7', o8', ?_, ⟨l'.sub, l'.nd, l'.ent, l'.bf.weak fun h' t' i q => ?_⟩, fun u hu => (hm' u hu).2, fe'⟩
  · simp [sSeq, sPar, eCall, lCons, lNil, eVar, bind_retP, kFn, eTup, Sl.e2, kAddF, eC, seqO_nx, seqO_rt, sIf, bOr, bCmp, mO, sPut, lStar, itemsOf, putD, imm, imm.immAll, oNone, oSome, eCut, sNx, eImm, chk, sSet, sDrop, sRet, bNot, bTru, tru, eCmp, eIsi, eAnd, eOr, eNot, onBl, le2, le4, llB1, eLst, sFor, lVar, lNew, kItems, e, sMove]
  · rcases q with q | q
    · cases q
    · exact q
theorem llC_run {fr : List D} (h : ∀ u ∈ fr, eqable 19 u = true) {o0 o1 o2 : Option D} {r : Rho} : llC (o0 :: o1 :: o2 :: some (.lst fr) :: r) = .ret (!fr.isEmpty) := by
  have e : eqable 20 (.lst fr) = true := by
    show eqables 19 fr = true
    clear ok
    induction fr with
    | nil => rfl
    | cons a fr ih =>
      show (eqable 19 a && eqables 19 fr) = true
      rw [h a (List.mem_cons_self ..), ih fun u hu => h u (List.mem_cons_of_mem _ hu)]
      rfl
  cases fr with
  | nil => rfl
  | cons a fr =>
    have e0 : eqable 20 (.lst []) = true := rfl
    have e1 : PyData.eqv (toPy (.lst (a :: fr))) (toPy (.lst [])) = false := rfl
    simp [sSeq, sPar, eCall, lCons, lNil, eVar, bind_retP, kFn, eTup, Sl.e2, kAddF, eC, seqO_nx, seqO_rt, sIf, bOr, bCmp, mO, sPut, lStar, itemsOf, putD, imm, imm.immAll, oNone, oSome, eCut, sNx, eImm, chk, sSet, sDrop, sRet, bNot, bTru, tru, eCmp, eIsi, eAnd, eOr, eNot, onBl, le2, le4, llC, eLst, kNe, e, e0, e1]
theorem ll_while : ∀ (μ : Nat) (f : List (D × D)) (fr : List D) (o4 o5 o6 o7 o8 : Option D), phi (ok.gf po h0) (labL f) = μ → Lq C (ok.gf po h0) f (fun h' _ => h' ∈ fr) → (∀ u ∈ fr, (labL f u).isSome = true) →
    ∃ n f' ρ', whileF llC llB1 n [some c0, some (prD pr), some (.dct f), some (.lst fr), o4, o5, o6, o7, o8] = .ret (.nx (some c0 :: some (prD pr) :: some (.dct f') :: ρ')) ∧ Lq C (ok.gf po h0) f' fun _ _ => False := by
  intro μ
  induction μ using Nat.strongRecOn with
  | _ μ ih =>
    intro f fr o4 o5 o6 o7 o8 q l hS
    have eq : ∀ {f : List (D × D)} {fr : List D}, Lq C (ok.gf po h0) f (fun h' _ => h' ∈ fr) → (∀ u ∈ fr, (labL f u).isSome = true) → ∀ u ∈ fr, eqable 19 u = true := by
      intro f fr l hS u hu
      obtain ⟨x, hx⟩ := Option.isSome_iff_exists.mp (hS u hu)
      exact ok.eq19 (l.bf.walk u x.1 x.2 hx).dom
    have done : ∀ {f : List (D × D)} {o4 o5 o6 o7 o8 : Option D}, whileF llC llB1 1 [some c0, some (prD pr), some (.dct f), some (.lst []), o4, o5, o6, o7, o8] = .ret (.nx [some c0, some (prD pr), some (.dct f), some (.lst []), o4, o5, o6, o7, o8]) := by
      intro f o4 o5 o6 o7 o8
      show (llC _).bind _ = _
      rw [llC_run ok (fr := []) (fun u hu => nomatch hu)]
      rfl
    cases fr with
    | nil => exact ⟨1, f, _, done, ⟨l.sub, l.nd, l.ent, l.bf.weak (fun h' t' i q => nomatch q)⟩⟩
    | cons a fr =>
      obtain ⟨f1, mo, o5', o6', o7', o8', e, l1, s1, fe⟩ := ll_step1 (o4 := o4) (o5 := o5) (o6 := o6) (o7 := o7) (o8 := o8) ok po h0 l hS
      have go : ∀ n o, whileF llC llB1 n [some c0, some (prD pr), some (.dct f1), some (.lst mo), none, o5', o6', o7', o8'] = .ret o → whileF llC llB1 (n + 1) [some c0, some (prD pr), some (.dct f), some (.lst (a :: fr)), o4, o5, o6, o7, o8] = .ret o := by
        intro n o h
        show (llC _).bind _ = _
        rw [llC_run ok (eq l hS)]
        show (llB1 _).bind (loopO _) = _
        rw [e]
        exact h
      cases mo with
      | nil => exact ⟨2, f1, _, go 1 _ done, ⟨l1.sub, l1.nd, l1.ent, l1.bf.weak (fun h' t' i q => nomatch q)⟩⟩
      | cons b mo =>
        rw [List.length_cons] at fe
        obtain ⟨n, f', ρ', e', l'⟩ := ih _ (by omega) f1 (b :: mo) none o5' o6' o7' o8' rfl l1 s1
        exact ⟨n + 1, f', ρ', go n _ e', l'⟩
theorem law_least_ok : ∃ f, g__law_least [c0, prD pr] = .ret (.dct f) ∧ Lq C (ok.gf po h0) f fun _ _ => False := by
  have l0 : Lq C (ok.gf po h0) [(c0, .int 0)] fun h' _ => h' ∈ [c0] := by
    have eg : ∀ v, dGet [(c0, D.int 0)] v = if v = c0 then some (.int 0) else none := by
      intro v
      by_cases q : v = c0
      · rw [if_pos q, q]
        simp [sSeq, sPar, eCall, lCons, lNil, eVar, bind_retP, kFn, eTup, Sl.e2, kAddF, eC, seqO_nx, seqO_rt, sIf, bOr, bCmp, mO, sPut, lStar, itemsOf, putD, imm, imm.immAll, oNone, oSome, eCut, sNx, eImm, chk, sSet, sDrop, sRet, bNot, bTru, tru, eCmp, eIsi, eAnd, eOr, eNot, onBl, le2, le4, dGet, (ok.ky' h0).refl]
      · rw [if_neg q]
        have : eqD c0 v = false := by
          cases z : eqD c0 v with
          | false => rfl
          | true => exact absurd (eqD_eq _ _ z).symm q
        simp [sSeq, sPar, eCall, lCons, lNil, eVar, bind_retP, kFn, eTup, Sl.e2, kAddF, eC, seqO_nx, seqO_rt, sIf, bOr, bCmp, mO, sPut, lStar, itemsOf, putD, imm, imm.immAll, oNone, oSome, eCut, sNx, eImm, chk, sSet, sDrop, sRet, bNot, bTru, tru, eCmp, eIsi, eAnd, eOr, eNot, onBl, le2, le4, dGet, this]
    have el : ∀ v x, labL [(c0, .int 0)] v = some x → v = c0 ∧ x = (0, 0) := by
      intro v x h
      unfold labL at h
      rw [eg] at h
      by_cases q : v = c0
      · rw [if_pos q] at h
        cases h
        exact ⟨q, rfl⟩
      · rw [if_neg q] at h
        cases h
    have e0 : labL [(c0, .int 0)] c0 = some (0, 0) := labL_of (by rw [eg, if_pos rfl])
    refine ⟨fun k hk => ?_, List.pairwise_singleton _ _, fun v x e => ?_, ⟨e0, fun v p m e => ?_, fun h p m t e i n => ?_, fun v p m e => ?_⟩⟩
    · rw [List.mem_singleton.mp hk]; exact h0
    · rw [eg] at e
      split at e
      · cases e; exact ⟨_, rfl⟩
      · cases e
    · obtain ⟨rfl, e'⟩ := el v _ e
      cases e'
      exact .z
    · obtain ⟨rfl, _⟩ := el h _ e
      exact absurd (List.mem_singleton.mpr rfl) n
    · obtain ⟨rfl, e'⟩ := el v _ e
      cases e'
      omega
  obtain ⟨n, f', ρ', e, l⟩ := ll_while ok po h0 _ [(c0, .int 0)] [c0] none none none none none rfl l0 fun u hu => by
    rw [List.mem_singleton.mp hu]
    rw [show labL [(c0, .int 0)] c0 = some (0, 0) from l0.bf.start]
    rfl
  refine ⟨f', ?_, l⟩
  have e1 := whileE e
  show (F__law_least [some c0, some (prD pr), none, none, none, none, none, none, none]).bind endO = _
  rw [F__law_least_eq]
  have i1 := ok.isT h0
  have i2 := ok.kOk h0
  have i3 := ok.im h0
  have z1 : (1 : Nat) ≤ sizeLine := by rw [sizeLine_eq]; omega
  simp [sSeq, sPar, eCall, lCons, lNil, eVar, bind_retP, kFn, eTup, Sl.e2, kAddF, eC, seqO_nx, seqO_rt, sIf, bOr, bCmp, mO, sPut, lStar, itemsOf, putD, imm, imm.immAll, oNone, oSome, eCut, sNx, eImm, chk, sSet, sDrop, sRet, bNot, bTru, tru, eCmp, eIsi, eAnd, eOr, eNot, onBl, le2, le4, eDict1, i1, i2, i3, eLst, z1, e1, endO]
end
end Sl
end S_Sp6
noncomputable section S_Sp7
set_option Elab.async false
set_option linter.all false
set_option maxRecDepth 100000
/-! The two tables side by side; row_to, price_of, _law_price. -/
namespace Sl
open PySem PySem.Spec PyProof.Rows L2
open Classical

section
variable {C : Cl} (ok : C.Ok) {pr : List Int} (po : PrOk C pr) {c0 : D} (h0 : c0 ∈ C.Ul)
include ok
theorem wk_all (e : Int) : ∀ {v : D}, Rc C c0 v → ∃ p m, (ok.gf po h0).Wk e v p m := by
  intro v r
  induction r with
  | z => exact ⟨0, 0, .z⟩
  | s _ ht ih =>
    obtain ⟨p, m, w⟩ := ih
    exact ⟨_, _, .s w ht⟩
/-- the least price of v -/
noncomputable def lp (f : List (D × D)) (v : D) : Int := match labR f v with
  | some x => x.1
  | none => 0
structure Both (C : Cl) (g : Gf) (f q : List (D × D)) : Prop where
  lr : Lr C g f fun _ _ => False
  lq : Lq C g q fun _ _ => False
theorem both_get {f q : List (D × D)} (b : Both C (ok.gf po h0) f q) {v : D} (hv : v ∈ C.Ul) : ∃ p m h t, dGet f v = some (v4 p m h t) ∧ dGet q v = some (.int p) ∧ labR f v = some (p, m) := by
  obtain ⟨p, m, w⟩ := wk_all ok po h0 1 (ok.conn _ h0 v hv)
  obtain ⟨y, hy, _⟩ := b.lr.bf.least w
  obtain ⟨h, t, e⟩ := labR_get ok b.lr (p := y.1) (m := y.2) hy
  have s := Bf.same b.lr.bf b.lq.bf v
  rw [hy] at s
  obtain ⟨z, hz, e2⟩ := Option.map_eq_some_iff.mp s.symm
  exact ⟨y.1, y.2, h, t, e, by rw [← show z.1 = y.1 from e2]; exact (labL_get ok b.lq hz).1, hy⟩
theorem keysR {f q : List (D × D)} (b : Both C (ok.gf po h0) f q) (v : D) : v ∈ keysOf f ↔ v ∈ C.Ul := by
  refine ⟨b.lr.sub v, fun hv => ?_⟩
  obtain ⟨p, m, h, t, e, _⟩ := both_get ok po h0 b hv
  exact dGet_key (ok.ky' hv) e
theorem keysL {f q : List (D × D)} (b : Both C (ok.gf po h0) f q) (v : D) : v ∈ keysOf q ↔ v ∈ C.Ul := by
  refine ⟨b.lq.sub v, fun hv => ?_⟩
  obtain ⟨p, m, h, t, _, e, _⟩ := both_get ok po h0 b hv
  exact dGet_key (ok.ky' hv) e

/-! ### the order of maps -/
theorem map_le {c d : D} (hc : c ∈ C.Ul) (hd : d ∈ C.Ul) (h1 : PySem.W.dataLe false toPy c d = true) (h2 : PySem.W.dataLe false toPy d c = true) : c = d := by
  obtain ⟨xs, rfl, _⟩ := ok.shape c hc
  obtain ⟨ys, rfl, _⟩ := ok.shape d hd
  have py : ∀ zs : List Int, toPys (zs.map D.int) = zs.map PyData.int := by
    intro zs
    induction zs with
    | nil => rfl
    | cons z zs ih => show PyData.int z :: toPys (zs.map D.int) = _; rw [ih]; rfl
  have lt : ∀ xs ys : List Int, PySem.W.dataLt (toPy (.tup [.int C.a, .tup (xs.map D.int)])) (toPy (.tup [.int C.a, .tup (ys.map D.int)])) = if PyData.eqv (.tuple (xs.map PyData.int)) (.tuple (ys.map PyData.int)) = true then false else decide (xs < ys) := by
    intro xs ys
    show PySem.W.dataLt (.tuple [.int C.a, .tuple (toPys (xs.map D.int))]) (.tuple [.int C.a, .tuple (toPys (ys.map D.int))]) = _
    rw [py, py, PySem.W.dataLt_pair (by simp [sSeq, sPar, eCall, lCons, lNil, eVar, bind_retP, kFn, eTup, Sl.e2, kAddF, eC, seqO_nx, seqO_rt, sIf, bOr, bCmp, mO, sPut, lStar, itemsOf, putD, imm, imm.immAll, oNone, oSome, eCut, sNx, eImm, chk, sSet, sDrop, sRet, bNot, bTru, tru, eCmp, eIsi, eAnd, eOr, eNot, onBl, le2, le4, PySem.W.alike]) (by simpa [sSeq, sPar, eCall, lCons, lNil, eVar, bind_retP, kFn, eTup, Sl.e2, kAddF, eC, seqO_nx, seqO_rt, sIf, bOr, bCmp, mO, sPut, lStar, itemsOf, putD, imm, imm.immAll, oNone, oSome, eCut, sNx, eImm, chk, sSet, sDrop, sRet, bNot, bTru, tru, eCmp, eIsi, eAnd, eOr, eNot, onBl, le2, le4, PySem.W.alike] using PySem.W.alike_ints xs ys), if_pos (by simp [sSeq, sPar, eCall, lCons, lNil, eVar, bind_retP, kFn, eTup, Sl.e2, kAddF, eC, seqO_nx, seqO_rt, sIf, bOr, bCmp, mO, sPut, lStar, itemsOf, putD, imm, imm.immAll, oNone, oSome, eCut, sNx, eImm, chk, sSet, sDrop, sRet, bNot, bTru, tru, eCmp, eIsi, eAnd, eOr, eNot, onBl, le2, le4, PyData.eqv]), PySem.W.dataLt_tuple]
    show (if _ then false else PySem.W.rowLt (xs.map PyData.int) (ys.map PyData.int)) = _
    rw [PySem.W.dataLt_ints]
  have eqv : ∀ xs ys : List Int, PyData.eqv (.tuple (xs.map PyData.int)) (.tuple (ys.map PyData.int)) = true → xs = ys := by
    intro xs
    induction xs with
    | nil => intro ys h; cases ys with
      | nil => rfl
      | cons y ys => simp [sSeq, sPar, eCall, lCons, lNil, eVar, bind_retP, kFn, eTup, Sl.e2, kAddF, eC, seqO_nx, seqO_rt, sIf, bOr, bCmp, mO, sPut, lStar, itemsOf, putD, imm, imm.immAll, oNone, oSome, eCut, sNx, eImm, chk, sSet, sDrop, sRet, bNot, bTru, tru, eCmp, eIsi, eAnd, eOr, eNot, onBl, le2, le4, PyData.eqv, PyData.eqvAll] at h
    | cons x xs ih => intro ys h; cases ys with
      | nil => simp [sSeq, sPar, eCall, lCons, lNil, eVar, bind_retP, kFn, eTup, Sl.e2, kAddF, eC, seqO_nx, seqO_rt, sIf, bOr, bCmp, mO, sPut, lStar, itemsOf, putD, imm, imm.immAll, oNone, oSome, eCut, sNx, eImm, chk, sSet, sDrop, sRet, bNot, bTru, tru, eCmp, eIsi, eAnd, eOr, eNot, onBl, le2, le4, PyData.eqv, PyData.eqvAll] at h
      | cons y ys =>
        have h' : (PyData.eqv (.int x) (.int y) && PyData.eqv (.tuple (xs.map PyData.int)) (.tuple (ys.map PyData.int))) = true := by simpa [sSeq, sPar, eCall, lCons, lNil, eVar, bind_retP, kFn, eTup, Sl.e2, kAddF, eC, seqO_nx, seqO_rt, sIf, bOr, bCmp, mO, sPut, lStar, itemsOf, putD, imm, imm.immAll, oNone, oSome, eCut, sNx, eImm, chk, sSet, sDrop, sRet, bNot, bTru, tru, eCmp, eIsi, eAnd, eOr, eNot, onBl, le2, le4, PyData.eqv, PyData.eqvAll] using h
        rw [Bool.and_eq_true] at h'
        rw [ih ys h'.2, show x = y by simpa [sSeq, sPar, eCall, lCons, lNil, eVar, bind_retP, kFn, eTup, Sl.e2, kAddF, eC, seqO_nx, seqO_rt, sIf, bOr, bCmp, mO, sPut, lStar, itemsOf, putD, imm, imm.immAll, oNone, oSome, eCut, sNx, eImm, chk, sSet, sDrop, sRet, bNot, bTru, tru, eCmp, eIsi, eAnd, eOr, eNot, onBl, le2, le4, PyData.eqv] using h'.1]
  have h1' : (!PySem.W.dataLt (toPy (.tup [.int C.a, .tup (ys.map D.int)])) (toPy (.tup [.int C.a, .tup (xs.map D.int)]))) = true := h1
  have h2' : (!PySem.W.dataLt (toPy (.tup [.int C.a, .tup (xs.map D.int)])) (toPy (.tup [.int C.a, .tup (ys.map D.int)]))) = true := h2
  rw [lt] at h1' h2'
  by_cases e1 : PyData.eqv (.tuple (xs.map PyData.int)) (.tuple (ys.map PyData.int)) = true
  · rw [eqv _ _ e1]
  · by_cases e2 : PyData.eqv (.tuple (ys.map PyData.int)) (.tuple (xs.map PyData.int)) = true
    · rw [eqv _ _ e2]
    · rw [if_neg e2] at h1'
      rw [if_neg e1] at h2'
      simp only [Bool.not_eq_true', decide_eq_false_iff_not] at h1' h2'
      have : xs = ys := List.le_antisymm (List.not_lt.mp h1') (List.not_lt.mp h2')
      rw [this]
theorem srt_same {l l' : List D} (hl : ∀ x ∈ l, x ∈ C.Ul) (hp : l.Perm l') : srt l = srt l' := by
  have tot : PySem.W.TotalLe (PySem.W.dataLe false toPy) := PySem.W.sortLe_total _ _ _
  refine List.Perm.eq_of_pairwise (fun a b ha hb h1 h2 => ?_) (PySem.W.sort_pairwise tot l) (PySem.W.sort_pairwise tot l') (((List.mergeSort_perm _ _).trans hp).trans (List.mergeSort_perm _ _).symm)
  exact map_le ok (hl a ((List.mergeSort_perm _ _).mem_iff.mp ha)) (hl b (hp.mem_iff.mpr ((List.mergeSort_perm _ _).mem_iff.mp hb))) h1 h2
theorem srtOk_maps {l : List D} (hl : ∀ x ∈ l, x ∈ C.Ul) : srtOk l = true := by
  unfold srtOk
  rw [Bool.and_eq_true, List.all_eq_true]
  constructor
  · intro d hd
    rw [Bool.and_eq_true, List.all_eq_true]
    exact ⟨ok.eqb (hl d hd), fun d' hd' => ok.alike d (hl d hd) d' (hl d' hd')⟩
  · rw [Bool.or_eq_true]
    left
    rw [List.all_eq_true]
    exact fun d hd => ok.t1 (hl d hd)
theorem imm_maps : ∀ {l : List D}, (∀ x ∈ l, x ∈ C.Ul) → imm.immAll l = true
  | [], _ => rfl
  | a :: l, h => by
    show (imm a && imm.immAll l) = true
    rw [ok.im (h a (List.mem_cons_self ..)), imm_maps fun x hx => h x (List.mem_cons_of_mem _ hx)]
    rfl
theorem srt_keys {l : List D} (hn : l.Nodup) (hm : ∀ v, v ∈ l ↔ v ∈ C.Ul) {l' : List D} (hn' : l'.Nodup) (hm' : ∀ v, v ∈ l' ↔ v ∈ C.Ul) : srt l = srt l' :=
  srt_same ok (fun x hx => (hm x).mp hx) ((List.perm_ext_iff_of_nodup hn hn').mpr fun v => (hm v).trans (hm' v).symm)
end
end Sl
end S_Sp7
noncomputable section S_Sp8
set_option Elab.async false
set_option linter.all false
set_option maxRecDepth 100000
/-! row_to, price_of, _law_price. -/
namespace Sl
open PySem PySem.Spec PyProof.Rows L2
open Classical

def rtC : EvB := (bCmp kIsNot (eIx (eIx (eVar 0) (eVar 3)) (eC (.int 3))) (eC .non))
def rtB : Sv := (sSeq (sApp 2 (eIx (eIx (eVar 0) (eVar 3)) (eC (.int 3))))
 (sSet 3 (eImm (eIx (eIx (eVar 0) (eVar 3)) (eC (.int 2))))))
theorem F_row_to_eq : F_row_to = (sSeq (sPar 2 3 (eLst lNil) (eImm (eVar 1)))
 (sSeq (sWhile (fun _ => 40) rtC rtB) (sRet (eCall kTuple (lCons (e1 (eVar 2) kRevL) lNil))))) := rfl
/-- a row of takings from c0 to v, at price p -/
inductive Pth (C : Cl) (w : D → Int) (c0 : D) : List D → D → Int → Prop
  | z : Pth C w c0 [] c0 0
  | s {ws : List D} {h t : D} {p : Int} : Pth C w c0 ws h p → h ∈ C.Ul → t ∈ C.ts h → Pth C w c0 (ws ++ [t]) (C.nx h t) (p + w t)
/-- what a row of takings costs, and where it ends -/
noncomputable def walkP (C : Cl) (w : D → Int) : D → Int → List D → Option (Int × D)
  | c, p, [] => some (p, c)
  | c, p, t :: ts => if t ∈ C.ts c then walkP C w (C.nx c t) (p + w t) ts else none
theorem walkP_app {C : Cl} {w : D → Int} : ∀ (a : List D) (c : D) (p : Int) (b : List D), walkP C w c p (a ++ b) = (walkP C w c p a).bind fun x => walkP C w x.2 x.1 b
  | [], _, _, _ => rfl
  | t :: a, c, p, b => by
    show (if t ∈ C.ts c then walkP C w (C.nx c t) (p + w t) (a ++ b) else none) = (if t ∈ C.ts c then walkP C w (C.nx c t) (p + w t) a else none).bind _
    split
    · exact walkP_app a _ _ b
    · rfl
theorem Pth.walk {C : Cl} {w : D → Int} {c0 : D} {ws : List D} {v : D} {p : Int} (x : Pth C w c0 ws v p) : walkP C w c0 0 ws = some (p, v) := by
  induction x with
  | z => rfl
  | s x hh ht ih =>
    rw [walkP_app, ih]
    show (if _ ∈ C.ts _ then some _ else none) = _
    rw [if_pos ht]
section
variable {C : Cl} (ok : C.Ok) {pr : List Int} (po : PrOk C pr) {c0 : D} (h0 : c0 ∈ C.Ul)
include ok
/-- the end of least_rows: each label is its parent's and a taking's -/
theorem par_eq {f : List (D × D)} (l : Lr C (ok.gf po h0) f fun _ _ => False) {v h t : D} {p m : Int} (e : dGet f v = some (v4 p m h t)) :
    (v = c0 ∧ p = 0 ∧ m = 0 ∧ h = .non ∧ t = .non) ∨ (h ∈ C.Ul ∧ t ∈ C.ts h ∧ C.nx h t = v ∧ ∃ p1 m1 h1 t1, dGet f h = some (v4 p1 m1 h1 t1) ∧ p = p1 + wOf pr t ∧ m = m1 + 1) := by
  rcases l.par v p m h t e with x | ⟨a1, a2, a3, y, a4, a5⟩
  · exact .inl x
  · obtain ⟨h1, t1, e1⟩ := labR_get ok l (p := y.1) (m := y.2) a4
    obtain ⟨x, x1, x2⟩ := l.bf.closed h y.1 y.2 t a4 a2 id
    rw [a3, labR_of e] at x1
    cases x1
    refine .inr ⟨a1, a2, a3, y.1, y.2, h1, t1, e1, ?_⟩
    have x3 : LeL (p, m) (y.1 + wOf pr t, y.2 + 1) := x2
    have x4 : LeL (y.1 + wOf pr t, y.2 + 1) (p, m) := a5
    unfold LeL at x3 x4
    simp only at x3 x4
    omega
theorem row_run {f : List (D × D)} (l : Lr C (ok.gf po h0) f fun _ _ => False) (o : Option D) : ∀ (k : Nat) (v h t : D) (p : Int), v ∈ C.Ul → dGet f v = some (v4 p (k : Int) h t) → ∀ (n : Nat) (acc : List D), k < n → acc.length + k < 1000 →
    ∃ ws : List D, ws.length = k ∧ Pth C (wOf pr) c0 ws v p ∧ (∀ t ∈ ws, imm t = true) ∧ whileF rtC rtB n [some (.dct f), o, some (.lst acc), some v] = .ret (.nx [some (.dct f), o, some (.lst (acc ++ ws.reverse)), some c0]) := by
  intro k
  induction k with
  | zero =>
    intro v h t p hv e n acc hn ha
    cases n with
    | zero => omega
    | succ n =>
      rcases par_eq ok po h0 l e with ⟨rfl, rfl, _, rfl, rfl⟩ | ⟨a1, a2, a3, p1, m1, h1, t1, e1, e2, e3⟩
      · refine ⟨[], rfl, .z, fun _ h => (nomatch h), ?_⟩
        have e3 : ∀ m, kIx (v4 0 m .non .non) (.int 3) = .ret .non := fun _ => rfl
        have e4 : kIsNot .non .non = some false := rfl
        show (rtC _).bind _ = _
        have e5 : rtC [some (D.dct f), o, some (D.lst acc), some v] = .ret false := by
          simp [sSeq, sPar, eCall, lCons, lNil, eVar, bind_retP, kFn, eTup, Sl.e2, kAddF, eC, seqO_nx, seqO_rt, sIf, bOr, bCmp, mO, sPut, lStar, itemsOf, putD, imm, imm.immAll, oNone, oSome, eCut, sNx, eImm, chk, sSet, sDrop, sRet, bNot, bTru, tru, eCmp, eIsi, eAnd, eOr, eNot, onBl, le2, le4, rtC, kIx_dct (ok.isT hv) (ok.kOk hv) e, e3, e4]
        rw [e5]
        simp [sSeq, sPar, eCall, lCons, lNil, eVar, bind_retP, kFn, eTup, Sl.e2, kAddF, eC, seqO_nx, seqO_rt, sIf, bOr, bCmp, mO, sPut, lStar, itemsOf, putD, imm, imm.immAll, oNone, oSome, eCut, sNx, eImm, chk, sSet, sDrop, sRet, bNot, bTru, tru, eCmp, eIsi, eAnd, eOr, eNot, onBl, le2, le4, bind_ret]
      · have := (l.bf.walk h p1 m1 (labR_of e1)).pos (by decide)
        omega
  | succ k ih =>
    intro v h t p hv e n acc hn ha
    cases n with
    | zero => omega
    | succ n =>
      rcases par_eq ok po h0 l e with ⟨_, _, q, _⟩ | ⟨a1, a2, a3, p1, m1, h1, t1, e1, e2, e3⟩
      · omega
      · have em : m1 = (k : Int) := by omega
        subst em
        have it := ok.imt a1 a2
        obtain ⟨ws, w1, w2, w3, w4⟩ := ih h h1 t1 p1 a1 e1 n (acc ++ [t]) (by omega) (by rw [List.length_append]; show acc.length + 1 + k < 1000; omega)
        refine ⟨ws ++ [t], by rw [List.length_append, w1]; rfl, ?_, fun u hu => ?_, ?_⟩
        · rw [e2, ← a3]
          exact .s w2 a1 a2
        · rcases List.mem_append.mp hu with hu | hu
          · exact w3 u hu
          · rw [List.mem_singleton.mp hu]; exact it
        · have e3 : ∀ m, kIx (v4 p m h t) (.int 3) = .ret t := fun _ => rfl
          have e3' : ∀ m, kIx (v4 p m h t) (.int 2) = .ret h := fun _ => rfl
          have e4 : kIsNot t .non = some true := by
            obtain ⟨k, x, rfl, _⟩ := ok.tk h a1 t a2
            rfl
          have za : acc.length < sizeLine := small_le (by omega)
          show (rtC _).bind _ = _
          have e5 : rtC [some (D.dct f), o, some (D.lst acc), some v] = .ret true := by
            simp [sSeq, sPar, eCall, lCons, lNil, eVar, bind_retP, kFn, eTup, Sl.e2, kAddF, eC, seqO_nx, seqO_rt, sIf, bOr, bCmp, mO, sPut, lStar, itemsOf, putD, imm, imm.immAll, oNone, oSome, eCut, sNx, eImm, chk, sSet, sDrop, sRet, bNot, bTru, tru, eCmp, eIsi, eAnd, eOr, eNot, onBl, le2, le4, rtC, kIx_dct (ok.isT hv) (ok.kOk hv) e, e3, e4]
          rw [e5]
          show (rtB _).bind _ = _
          have e6 : rtB [some (D.dct f), o, some (D.lst acc), some v] = .ret (.nx [some (D.dct f), o, some (D.lst (acc ++ [t])), some h]) := by
            simp [sSeq, sPar, eCall, lCons, lNil, eVar, bind_retP, kFn, eTup, Sl.e2, kAddF, eC, seqO_nx, seqO_rt, sIf, bOr, bCmp, mO, sPut, lStar, itemsOf, putD, imm, imm.immAll, oNone, oSome, eCut, sNx, eImm, chk, sSet, sDrop, sRet, bNot, bTru, tru, eCmp, eIsi, eAnd, eOr, eNot, onBl, le2, le4, rtB, kIx_dct (ok.isT hv) (ok.kOk hv) e, e3, e3', sApp, appD, it, za, ok.im a1]
          rw [e6]
          show whileF rtC rtB n _ = _
          rw [w4]
          simp [sSeq, sPar, eCall, lCons, lNil, eVar, bind_retP, kFn, eTup, Sl.e2, kAddF, eC, seqO_nx, seqO_rt, sIf, bOr, bCmp, mO, sPut, lStar, itemsOf, putD, imm, imm.immAll, oNone, oSome, eCut, sNx, eImm, chk, sSet, sDrop, sRet, bNot, bTru, tru, eCmp, eIsi, eAnd, eOr, eNot, onBl, le2, le4]
/-- fewer takings than maps -/
theorem many_lt {f : List (D × D)} (l : Lr C (ok.gf po h0) f fun _ _ => False) : ∀ (k : Nat) (v h t : D) (p : Int), v ∈ C.Ul → dGet f v = some (v4 p (k : Int) h t) →
    ∃ ns : List D, ns.Nodup ∧ ns.length = k + 1 ∧ ∀ u ∈ ns, u ∈ C.Ul ∧ ∃ p' m' h' t', dGet f u = some (v4 p' m' h' t') ∧ m' ≤ (k : Int) := by
  intro k
  induction k with
  | zero => exact fun v h t p hv e => ⟨[v], List.pairwise_singleton _ _, rfl, fun u hu => by rw [List.mem_singleton.mp hu]; exact ⟨hv, p, _, h, t, e, Int.le_refl _⟩⟩
  | succ k ih =>
    intro v h t p hv e
    rcases par_eq ok po h0 l e with ⟨_, _, q, _⟩ | ⟨a1, a2, a3, p1, m1, h1, t1, e1, e2, e3⟩
    · omega
    · have em : m1 = (k : Int) := by omega
      subst em
      obtain ⟨ns, n1, n2, n3⟩ := ih h h1 t1 p1 a1 e1
      refine ⟨v :: ns, List.nodup_cons.mpr ⟨fun hm => ?_, n1⟩, by rw [List.length_cons, n2], fun u hu => ?_⟩
      · obtain ⟨_, p', m', h', t', e', q⟩ := n3 v hm
        rw [e] at e'
        cases e'
        omega
      · rcases List.mem_cons.mp hu with rfl | hu
        · exact ⟨hv, p, _, h, t, e, Int.le_refl _⟩
        · obtain ⟨b1, p', m', h', t', e', q⟩ := n3 u hu
          exact ⟨b1, p', m', h', t', e', by omega⟩
theorem row_to_ok {f : List (D × D)} (l : Lr C (ok.gf po h0) f fun _ _ => False) {v h t : D} {p m : Int} (hv : v ∈ C.Ul) (e : dGet f v = some (v4 p m h t)) :
    ∃ ws : List D, ws.length ≤ 30 ∧ Pth C (wOf pr) c0 ws v p ∧ imm.immAll ws = true ∧ g_row_to [.dct f, v] = .ret (.tup ws) := by
  have hm := (l.bf.walk v p m (labR_of e)).pos (by decide)
  obtain ⟨k, rfl⟩ : ∃ k : Nat, m = (k : Int) := ⟨m.toNat, by omega⟩
  obtain ⟨ns, n1, n2, n3⟩ := many_lt ok po h0 l k v h t p hv e
  have hk := n1.length_le_of_subset (l₂ := C.Ul) fun u hu => (n3 u hu).1
  have := ok.few
  obtain ⟨ws, w1, w2, w3, w4⟩ := row_run ok po h0 l (some v) k v h t p hv e 40 [] (by omega) (by simp [sSeq, sPar, eCall, lCons, lNil, eVar, bind_retP, kFn, eTup, Sl.e2, kAddF, eC, seqO_nx, seqO_rt, sIf, bOr, bCmp, mO, sPut, lStar, itemsOf, putD, imm, imm.immAll, oNone, oSome, eCut, sNx, eImm, chk, sSet, sDrop, sRet, bNot, bTru, tru, eCmp, eIsi, eAnd, eOr, eNot, onBl, le2, le4]; omega)
  have hi : ∀ {ws : List D}, (∀ t ∈ ws, imm t = true) → imm.immAll ws = true := by
    intro ws
    induction ws with
    | nil => exact fun _ => rfl
    | cons a ws ih =>
      intro h
      show (imm a && imm.immAll ws) = true
      rw [h a (List.mem_cons_self ..), ih fun x hx => h x (List.mem_cons_of_mem _ hx)]
      rfl
  refine ⟨ws, by omega, w2, hi w3, ?_⟩
  show (F_row_to [some (.dct f), some v, none, none]).bind endO = _
  rw [F_row_to_eq]
  simp [sSeq, sPar, eCall, lCons, lNil, eVar, bind_retP, kFn, eTup, Sl.e2, kAddF, eC, seqO_nx, seqO_rt, sIf, bOr, bCmp, mO, sPut, lStar, itemsOf, putD, imm, imm.immAll, oNone, oSome, eCut, sNx, eImm, chk, sSet, sDrop, sRet, bNot, bTru, tru, eCmp, eIsi, eAnd, eOr, eNot, onBl, le2, le4, eLst, ok.im hv, sWhile, w4, Sl.e1, kRevL, kTuple, hi w3, endO]

/-! ### price_of, _law_price -/
/-- a pair of whole numbers in the map -/
def TkLike (C : Cl) (t : D) : Prop := ∃ k x : Nat, t = .tup [.int k, .int x] ∧ x < C.len
theorem is_in_int (i a b : Int) : g_is_in [.int i, .int a, .int b] = .ret (.bl (decide (a ≤ i) && decide (i ≤ b))) := by
  show (F_is_in [some (.int i), some (.int a), some (.int b)]).bind endO = _
  by_cases h : a ≤ i <;> simp [sSeq, sPar, eCall, lCons, lNil, eVar, bind_retP, kFn, eTup, Sl.e2, kAddF, eC, seqO_nx, seqO_rt, sIf, bOr, bCmp, mO, sPut, lStar, itemsOf, putD, imm, imm.immAll, oNone, oSome, eCut, sNx, eImm, chk, sSet, sDrop, sRet, bNot, bTru, tru, eCmp, eIsi, eAnd, eOr, eNot, onBl, le2, le4, F_is_in, kIsInt, kIsBool, eChain, oI2, endO, h]
theorem is_taking_run {c : D} (hc : c ∈ C.Ul) {k x : Nat} (hx : x < C.len) : g_is_taking [c, .tup [.int k, .int x]] = .ret (.bl (decide (k < C.n))) := by
  obtain ⟨cs, rfl, hl⟩ := ok.shape c hc
  have e1 := ok.lands _ hc
  have e2 : ∀ a b : D, kIx (.tup [a, b]) (.int 0) = .ret a := fun _ _ => rfl
  have e3 : ∀ a b : D, kIx (.tup [a, b]) (.int 1) = .ret b := fun _ _ => rfl
  have e4 : ∀ a b : D, kLen [.tup [a, b]] = .ret (.int 2) := fun _ _ => rfl
  have e5 : kNe (.int 2) (.int 2) = some false := rfl
  have e6 : kLen [.tup (cs.map D.int)] = .ret (.int C.len) := by simp [sSeq, sPar, eCall, lCons, lNil, eVar, bind_retP, kFn, eTup, Sl.e2, kAddF, eC, seqO_nx, seqO_rt, sIf, bOr, bCmp, mO, sPut, lStar, itemsOf, putD, imm, imm.immAll, oNone, oSome, eCut, sNx, eImm, chk, sSet, sDrop, sRet, bNot, bTru, tru, eCmp, eIsi, eAnd, eOr, eNot, onBl, le2, le4, kLen, hl]
  have e7 : decide (0 ≤ (k : Int)) = true := by simp [sSeq, sPar, eCall, lCons, lNil, eVar, bind_retP, kFn, eTup, Sl.e2, kAddF, eC, seqO_nx, seqO_rt, sIf, bOr, bCmp, mO, sPut, lStar, itemsOf, putD, imm, imm.immAll, oNone, oSome, eCut, sNx, eImm, chk, sSet, sDrop, sRet, bNot, bTru, tru, eCmp, eIsi, eAnd, eOr, eNot, onBl, le2, le4]
  have e8 : decide (0 ≤ (x : Int)) = true := by simp [sSeq, sPar, eCall, lCons, lNil, eVar, bind_retP, kFn, eTup, Sl.e2, kAddF, eC, seqO_nx, seqO_rt, sIf, bOr, bCmp, mO, sPut, lStar, itemsOf, putD, imm, imm.immAll, oNone, oSome, eCut, sNx, eImm, chk, sSet, sDrop, sRet, bNot, bTru, tru, eCmp, eIsi, eAnd, eOr, eNot, onBl, le2, le4]
  have e9 : decide ((x : Int) ≤ (C.len : Int) - 1) = true := by rw [decide_eq_true_eq]; omega
  show (F_is_taking [some _, some _]).bind endO = _
  by_cases h : k < C.n
  · have e10 : decide ((k : Int) ≤ (C.n : Int) - 1) = true := by rw [decide_eq_true_eq]; omega
    simp [sSeq, sPar, eCall, lCons, lNil, eVar, bind_retP, kFn, eTup, Sl.e2, kAddF, eC, seqO_nx, seqO_rt, sIf, bOr, bCmp, mO, sPut, lStar, itemsOf, putD, imm, imm.immAll, oNone, oSome, eCut, sNx, eImm, chk, sSet, sDrop, sRet, bNot, bTru, tru, eCmp, eIsi, eAnd, eOr, eNot, onBl, le2, le4, F_is_taking, kIsTup, e1, e2, e3, e4, e5, e6, is_in_int ok, e7, e8, e9, e10, kI, onI2, endO, h]
  · have e10 : decide ((k : Int) ≤ (C.n : Int) - 1) = false := by rw [decide_eq_false_iff_not]; omega
    simp [sSeq, sPar, eCall, lCons, lNil, eVar, bind_retP, kFn, eTup, Sl.e2, kAddF, eC, seqO_nx, seqO_rt, sIf, bOr, bCmp, mO, sPut, lStar, itemsOf, putD, imm, imm.immAll, oNone, oSome, eCut, sNx, eImm, chk, sSet, sDrop, sRet, bNot, bTru, tru, eCmp, eIsi, eAnd, eOr, eNot, onBl, le2, le4, F_is_taking, kIsTup, e1, e2, e3, e4, e5, e6, is_in_int ok, e7, e8, e9, e10, kI, onI2, endO, h]
omit ok in
theorem loopF_var {i : Nat} {F : Sv} {t : D} {ws : List D} {ρ : Rho} : loopF (gVar i) F (t :: ws) ρ = (F (ρ.set i (some t))).bind (loopO (loopF (gVar i) F ws)) := rfl
omit ok in
theorem set5 {a b c d e : Option D} {t : D} : ([a, b, c, d, e] : Rho).set 4 (some t) = [a, b, c, d, some t] := rfl
def poB : Sv := (sSeq (sIf (bOr (bNot (bTru (eCall (kFn 2 g_is_taking) (lCons (eVar 0) (lCons (eVar 4) lNil))))) (bNot (bTru (eCall (kFn 2 g_is_made) (lCons (eVar 0) (lCons (eVar 4) lNil))))))
 (sRet (eC .non))
 sNx)
 (sPar 3 0 (eAddF (eVar 3) (eIx (eVar 1) (eIx (eVar 4) (eC (.int 0))))) (eCall (kFn 2 g_taken) (lCons (eVar 0) (lCons (eVar 4) lNil)))))
omit ok in
theorem F_price_of_eq : F_price_of = (sSeq (sSet 3 (eC (.int 0))) (sSeq (sFor (gVar 4) (lVar 2) poB) (sRet (eTup (lCons (eImm (eVar 3)) (lCons (eImm (eVar 0)) lNil)))))) := rfl
include po in
theorem po_loop (o2 : Option D) : ∀ (ws : List D) (c : D) (p : Int) (o4 : Option D), c ∈ C.Ul → (∀ t ∈ ws, TkLike C t) →
    (∃ c' p' o4', walkP C (wOf pr) c p ws = some (p', c') ∧ c' ∈ C.Ul ∧ loopF (gVar 4) poB ws [some c, some (prD pr), o2, some (.int p), o4] = .ret (.nx [some c', some (prD pr), o2, some (.int p'), o4'])) ∨
    (walkP C (wOf pr) c p ws = none ∧ loopF (gVar 4) poB ws [some c, some (prD pr), o2, some (.int p), o4] = .ret (.rt .non))
  | [], c, p, o4, hc, _ => .inl ⟨c, p, o4, rfl, hc, rfl⟩
  | t :: ws, c, p, o4, hc, hw => by
    obtain ⟨k, x, rfl, hx⟩ := hw t (List.mem_cons_self ..)
    have e1 := is_taking_run ok hc (k := k) hx
    by_cases ht : D.tup [.int k, .int x] ∈ C.ts c
    · obtain ⟨k', x', q, hk, _⟩ := ok.tk c hc _ ht
      have ek : k < C.n := by
        injection q with q
        injection q with q1 _
        injection q1 with q1
        omega
      have e2 := ok.made c hc k x ek hx
      rw [decide_eq_true ht] at e2
      rw [decide_eq_true ek] at e1
      obtain ⟨j, e3, e4⟩ := ok.ixt po hc ht
      have e5 := ok.taken c hc _ ht
      have e6 : poB [some c, some (prD pr), o2, some (.int p), some (.tup [.int k, .int x])] = .ret (.nx [some (C.nx c (.tup [.int k, .int x])), some (prD pr), o2, some (.int (p + wOf pr (.tup [.int k, .int x]))), some (.tup [.int k, .int x])]) := by
        simp [sSeq, sPar, eCall, lCons, lNil, eVar, bind_retP, kFn, eTup, Sl.e2, kAddF, eC, seqO_nx, seqO_rt, sIf, bOr, bCmp, mO, sPut, lStar, itemsOf, putD, imm, imm.immAll, oNone, oSome, eCut, sNx, eImm, chk, sSet, sDrop, sRet, bNot, bTru, tru, eCmp, eIsi, eAnd, eOr, eNot, onBl, le2, le4, poB, e1, e2, e3, e4, e5]
      have e7 : walkP C (wOf pr) c p (.tup [.int k, .int x] :: ws) = walkP C (wOf pr) (C.nx c (.tup [.int k, .int x])) (p + wOf pr (.tup [.int k, .int x])) ws := if_pos ht
      have e8 : loopF (gVar 4) poB (.tup [.int k, .int x] :: ws) [some c, some (prD pr), o2, some (.int p), o4] = loopF (gVar 4) poB ws [some (C.nx c (.tup [.int k, .int x])), some (prD pr), o2, some (.int (p + wOf pr (.tup [.int k, .int x]))), some (.tup [.int k, .int x])] := by
        rw [loopF_var, set5, e6]
        rfl
      rw [e7, e8]
      exact po_loop o2 ws _ _ _ (ok.nxIn c hc _ ht) fun u hu => hw u (List.mem_cons_of_mem _ hu)
    · refine .inr ⟨if_neg ht, ?_⟩
      have e6 : poB [some c, some (prD pr), o2, some (.int p), some (.tup [.int k, .int x])] = .ret (.rt .non) := by
        by_cases ek : k < C.n
        · have e2 := ok.made c hc k x ek hx
          rw [decide_eq_false ht] at e2
          rw [decide_eq_true ek] at e1
          simp [sSeq, sPar, eCall, lCons, lNil, eVar, bind_retP, kFn, eTup, Sl.e2, kAddF, eC, seqO_nx, seqO_rt, sIf, bOr, bCmp, mO, sPut, lStar, itemsOf, putD, imm, imm.immAll, oNone, oSome, eCut, sNx, eImm, chk, sSet, sDrop, sRet, bNot, bTru, tru, eCmp, eIsi, eAnd, eOr, eNot, onBl, le2, le4, poB, e1, e2]
        · rw [decide_eq_false ek] at e1
          simp [sSeq, sPar, eCall, lCons, lNil, eVar, bind_retP, kFn, eTup, Sl.e2, kAddF, eC, seqO_nx, seqO_rt, sIf, bOr, bCmp, mO, sPut, lStar, itemsOf, putD, imm, imm.immAll, oNone, oSome, eCut, sNx, eImm, chk, sSet, sDrop, sRet, bNot, bTru, tru, eCmp, eIsi, eAnd, eOr, eNot, onBl, le2, le4, poB, e1]
      rw [loopF_var, set5, e6]
      rfl
/-- what both price functions give -/
def priced : Option (Int × D) → D
  | some (p, c) => .tup [.int p, c]
  | none => .non
include po in
theorem price_of_run {c : D} (hc : c ∈ C.Ul) {ws : List D} (hw : ∀ t ∈ ws, TkLike C t) : g_price_of [c, prD pr, .tup ws] = .ret (priced (walkP C (wOf pr) c 0 ws)) := by
  show (F_price_of [some c, some (prD pr), some (.tup ws), none, none]).bind endO = _
  rw [F_price_of_eq]
  rcases po_loop ok po (some (.tup ws)) ws c 0 none hc hw with ⟨c', p', o4', e1, hc', e2⟩ | ⟨e1, e2⟩
  · rw [e1]
    simp [sSeq, sPar, eCall, lCons, lNil, eVar, bind_retP, kFn, eTup, Sl.e2, kAddF, eC, seqO_nx, seqO_rt, sIf, bOr, bCmp, mO, sPut, lStar, itemsOf, putD, imm, imm.immAll, oNone, oSome, eCut, sNx, eImm, chk, sSet, sDrop, sRet, bNot, bTru, tru, eCmp, eIsi, eAnd, eOr, eNot, onBl, le2, le4, sFor, lVar, lNew, kItems, e2, ok.im hc', endO, priced]
  · rw [e1]
    simp [sSeq, sPar, eCall, lCons, lNil, eVar, bind_retP, kFn, eTup, Sl.e2, kAddF, eC, seqO_nx, seqO_rt, sIf, bOr, bCmp, mO, sPut, lStar, itemsOf, putD, imm, imm.immAll, oNone, oSome, eCut, sNx, eImm, chk, sSet, sDrop, sRet, bNot, bTru, tru, eCmp, eIsi, eAnd, eOr, eNot, onBl, le2, le4, sFor, lVar, lNew, kItems, e2, endO, priced]
def lpB : Sv := (sSeq (sIf (bCmp kNotIn (eVar 4) (eCall (kFn 1 g__law_takings) (lCons (eVar 0) lNil)))
 (sRet (eC .non))
 sNx)
 (sPar 3 0 (eAddF (eVar 3) (eIx (eVar 1) (eIx (eVar 4) (eC (.int 0))))) (eCall (kFn 2 g__law_behind) (lCons (eVar 0) (lCons (eVar 4) lNil)))))
omit ok in
theorem F__law_price_eq : F__law_price = (sSeq (sSet 3 (eC (.int 0))) (sSeq (sFor (gVar 4) (lVar 2) lpB) (sRet (eTup (lCons (eImm (eVar 3)) (lCons (eImm (eVar 0)) lNil)))))) := rfl
theorem notIn_ts {c : D} (hc : c ∈ C.Ul) (k x : Nat) : kNotIn (.tup [.int k, .int x]) (.lst (C.ts c)) = some (!decide (D.tup [.int k, .int x] ∈ C.ts c)) := by
  have key : ∀ l : List D, (∀ t ∈ l, ∃ k x : Nat, t = .tup [.int k, .int x]) → eqables 19 l = true ∧ (l.any fun z => PyData.eqv (toPy z) (toPy (.tup [.int k, .int x]))) = decide (D.tup [.int k, .int x] ∈ l) := by
    intro l
    induction l with
    | nil => intro _; exact ⟨rfl, by simp [sSeq, sPar, eCall, lCons, lNil, eVar, bind_retP, kFn, eTup, Sl.e2, kAddF, eC, seqO_nx, seqO_rt, sIf, bOr, bCmp, mO, sPut, lStar, itemsOf, putD, imm, imm.immAll, oNone, oSome, eCut, sNx, eImm, chk, sSet, sDrop, sRet, bNot, bTru, tru, eCmp, eIsi, eAnd, eOr, eNot, onBl, le2, le4]⟩
    | cons a l ih =>
      intro h
      obtain ⟨k', x', rfl⟩ := h a (List.mem_cons_self ..)
      obtain ⟨i1, i2⟩ := ih fun t ht => h t (List.mem_cons_of_mem _ ht)
      refine ⟨by show (eqable 19 _ && eqables 19 l) = true; rw [i1]; rfl, ?_⟩
      rw [List.any_cons, i2]
      have e : PyData.eqv (toPy (.tup [.int k', .int x'])) (toPy (.tup [.int k, .int x])) = decide ((k' : Int) = k ∧ (x' : Int) = x) := by
        show PyData.eqv (.tuple [.int k', .int x']) (.tuple [.int k, .int x]) = _
        rw [Bool.eq_iff_iff]
        simp [sSeq, sPar, eCall, lCons, lNil, eVar, bind_retP, kFn, eTup, Sl.e2, kAddF, eC, seqO_nx, seqO_rt, sIf, bOr, bCmp, mO, sPut, lStar, itemsOf, putD, imm, imm.immAll, oNone, oSome, eCut, sNx, eImm, chk, sSet, sDrop, sRet, bNot, bTru, tru, eCmp, eIsi, eAnd, eOr, eNot, onBl, le2, le4, PyData.eqv, PyData.eqvAll]
      rw [e]
      by_cases q : k' = k ∧ x' = x
      · obtain ⟨rfl, rfl⟩ := q
        simp [sSeq, sPar, eCall, lCons, lNil, eVar, bind_retP, kFn, eTup, Sl.e2, kAddF, eC, seqO_nx, seqO_rt, sIf, bOr, bCmp, mO, sPut, lStar, itemsOf, putD, imm, imm.immAll, oNone, oSome, eCut, sNx, eImm, chk, sSet, sDrop, sRet, bNot, bTru, tru, eCmp, eIsi, eAnd, eOr, eNot, onBl, le2, le4]
      · have q1 : ¬ ((k' : Int) = k ∧ (x' : Int) = x) := by omega
        have q2 : ¬ (D.tup [.int k, .int x] = D.tup [.int k', .int x']) := by
          intro z
          injection z with z
          injection z with z1 z2
          injection z1 with z1
          injection z2 with z2 _
          injection z2 with z2
          omega
        rw [decide_eq_false q1]
        simp only [List.mem_cons, q2, false_or, Bool.false_or]
  obtain ⟨i1, i2⟩ := key (C.ts c) fun t ht => by
    obtain ⟨k, x, e, _⟩ := ok.tk c hc t ht
    exact ⟨k, x, e⟩
  have i3 : eqable 20 (.lst (C.ts c)) = true := i1
  have i4 : eqable 20 (.tup [.int (k : Int), .int (x : Int)]) = true := rfl
  simp only [kNotIn, kIn, i3, i4, Bool.and_self, if_true, i2, Option.map_some]
include po in
theorem lp_loop (o2 : Option D) : ∀ (ws : List D) (c : D) (p : Int) (o4 : Option D), c ∈ C.Ul → (∀ t ∈ ws, TkLike C t) →
    (∃ c' p' o4', walkP C (wOf pr) c p ws = some (p', c') ∧ c' ∈ C.Ul ∧ loopF (gVar 4) lpB ws [some c, some (prD pr), o2, some (.int p), o4] = .ret (.nx [some c', some (prD pr), o2, some (.int p'), o4'])) ∨
    (walkP C (wOf pr) c p ws = none ∧ loopF (gVar 4) lpB ws [some c, some (prD pr), o2, some (.int p), o4] = .ret (.rt .non))
  | [], c, p, o4, hc, _ => .inl ⟨c, p, o4, rfl, hc, rfl⟩
  | t :: ws, c, p, o4, hc, hw => by
    obtain ⟨k, x, rfl, hx⟩ := hw t (List.mem_cons_self ..)
    have e1 := notIn_ts ok hc k x
    by_cases ht : D.tup [.int k, .int x] ∈ C.ts c
    · rw [decide_eq_true ht] at e1
      obtain ⟨j, e3, e4⟩ := ok.ixt po hc ht
      have e5 := ok.behind c hc _ ht
      have e6 : lpB [some c, some (prD pr), o2, some (.int p), some (.tup [.int k, .int x])] = .ret (.nx [some (C.nx c (.tup [.int k, .int x])), some (prD pr), o2, some (.int (p + wOf pr (.tup [.int k, .int x]))), some (.tup [.int k, .int x])]) := by
        simp [sSeq, sPar, eCall, lCons, lNil, eVar, bind_retP, kFn, eTup, Sl.e2, kAddF, eC, seqO_nx, seqO_rt, sIf, bOr, bCmp, mO, sPut, lStar, itemsOf, putD, imm, imm.immAll, oNone, oSome, eCut, sNx, eImm, chk, sSet, sDrop, sRet, bNot, bTru, tru, eCmp, eIsi, eAnd, eOr, eNot, onBl, le2, le4, lpB, ok.law c hc, e1, e3, e4, e5]
      have e7 : walkP C (wOf pr) c p (.tup [.int k, .int x] :: ws) = walkP C (wOf pr) (C.nx c (.tup [.int k, .int x])) (p + wOf pr (.tup [.int k, .int x])) ws := if_pos ht
      have e8 : loopF (gVar 4) lpB (.tup [.int k, .int x] :: ws) [some c, some (prD pr), o2, some (.int p), o4] = loopF (gVar 4) lpB ws [some (C.nx c (.tup [.int k, .int x])), some (prD pr), o2, some (.int (p + wOf pr (.tup [.int k, .int x]))), some (.tup [.int k, .int x])] := by
        rw [loopF_var, set5, e6]
        rfl
      rw [e7, e8]
      exact lp_loop o2 ws _ _ _ (ok.nxIn c hc _ ht) fun u hu => hw u (List.mem_cons_of_mem _ hu)
    · refine .inr ⟨if_neg ht, ?_⟩
      rw [decide_eq_false ht] at e1
      have e6 : lpB [some c, some (prD pr), o2, some (.int p), some (.tup [.int k, .int x])] = .ret (.rt .non) := by
        simp [sSeq, sPar, eCall, lCons, lNil, eVar, bind_retP, kFn, eTup, Sl.e2, kAddF, eC, seqO_nx, seqO_rt, sIf, bOr, bCmp, mO, sPut, lStar, itemsOf, putD, imm, imm.immAll, oNone, oSome, eCut, sNx, eImm, chk, sSet, sDrop, sRet, bNot, bTru, tru, eCmp, eIsi, eAnd, eOr, eNot, onBl, le2, le4, lpB, ok.law c hc, e1]
      rw [loopF_var, set5, e6]
      rfl
include po in
theorem law_price_run {c : D} (hc : c ∈ C.Ul) {ws : List D} (hw : ∀ t ∈ ws, TkLike C t) : g__law_price [c, prD pr, .tup ws] = .ret (priced (walkP C (wOf pr) c 0 ws)) := by
  show (F__law_price [some c, some (prD pr), some (.tup ws), none, none]).bind endO = _
  rw [F__law_price_eq]
  rcases lp_loop ok po (some (.tup ws)) ws c 0 none hc hw with ⟨c', p', o4', e1, hc', e2⟩ | ⟨e1, e2⟩
  · rw [e1]
    simp [sSeq, sPar, eCall, lCons, lNil, eVar, bind_retP, kFn, eTup, Sl.e2, kAddF, eC, seqO_nx, seqO_rt, sIf, bOr, bCmp, mO, sPut, lStar, itemsOf, putD, imm, imm.immAll, oNone, oSome, eCut, sNx, eImm, chk, sSet, sDrop, sRet, bNot, bTru, tru, eCmp, eIsi, eAnd, eOr, eNot, onBl, le2, le4, sFor, lVar, lNew, kItems, e2, ok.im hc', endO, priced]
  · rw [e1]
    simp [sSeq, sPar, eCall, lCons, lNil, eVar, bind_retP, kFn, eTup, Sl.e2, kAddF, eC, seqO_nx, seqO_rt, sIf, bOr, bCmp, mO, sPut, lStar, itemsOf, putD, imm, imm.immAll, oNone, oSome, eCut, sNx, eImm, chk, sSet, sDrop, sRet, bNot, bTru, tru, eCmp, eIsi, eAnd, eOr, eNot, onBl, le2, le4, sFor, lVar, lNew, kItems, e2, endO, priced]
end
end Sl
end S_Sp8
noncomputable section S_Sp9
set_option Elab.async false
set_option linter.all false
set_option maxRecDepth 100000
/-! cheap_row, cheapest_from, shows_cheap_row. -/
namespace Sl
open PySem PySem.Spec PyProof.Rows L2
open Classical

theorem ix0 (a b : D) : kIx (.tup [a, b]) (.int 0) = .ret a := rfl
theorem ix1 (a b : D) : kIx (.tup [a, b]) (.int 1) = .ret b := rfl
theorem ne_int (i j : Int) : kNe (.int i) (.int j) = some (!decide (i = j)) := by
  show some (!PyData.eqv (.int i) (.int j)) = _
  by_cases h : i = j <;> simp [sSeq, sPar, eCall, lCons, lNil, eVar, bind_retP, kFn, eTup, Sl.e2, kAddF, eC, seqO_nx, seqO_rt, sIf, bOr, bCmp, mO, sPut, lStar, itemsOf, putD, imm, imm.immAll, oNone, oSome, eCut, sNx, eImm, chk, sSet, sDrop, sRet, bNot, bTru, tru, eCmp, eIsi, eAnd, eOr, eNot, onBl, le2, le4, PyData.eqv, h]
theorem eq_int (i j : Int) : kEq (.int i) (.int j) = some (decide (i = j)) := by
  show some (PyData.eqv (.int i) (.int j)) = _
  by_cases h : i = j <;> simp [sSeq, sPar, eCall, lCons, lNil, eVar, bind_retP, kFn, eTup, Sl.e2, kAddF, eC, seqO_nx, seqO_rt, sIf, bOr, bCmp, mO, sPut, lStar, itemsOf, putD, imm, imm.immAll, oNone, oSome, eCut, sNx, eImm, chk, sSet, sDrop, sRet, bNot, bTru, tru, eCmp, eIsi, eAnd, eOr, eNot, onBl, le2, le4, PyData.eqv, h]
theorem is_tup (l : List D) : kIsTup (.tup l) = some true := rfl
/-- two classes of a kind -/
structure Kin (C C' : Cl) : Prop where
  a : C'.a = C.a
  n : C'.n = C.n
  len : C'.len = C.len
theorem py_ints : ∀ zs : List Int, toPys (zs.map D.int) = zs.map PyData.int
  | [] => rfl
  | z :: zs => by show PyData.int z :: toPys (zs.map D.int) = _; rw [py_ints zs]; rfl
theorem eqv_ints : ∀ xs ys : List Int, PyData.eqv (.tuple (xs.map PyData.int)) (.tuple (ys.map PyData.int)) = decide (xs = ys)
  | [], [] => rfl
  | [], y :: ys => by simp [sSeq, sPar, eCall, lCons, lNil, eVar, bind_retP, kFn, eTup, Sl.e2, kAddF, eC, seqO_nx, seqO_rt, sIf, bOr, bCmp, mO, sPut, lStar, itemsOf, putD, imm, imm.immAll, oNone, oSome, eCut, sNx, eImm, chk, sSet, sDrop, sRet, bNot, bTru, tru, eCmp, eIsi, eAnd, eOr, eNot, onBl, le2, le4, PyData.eqv, PyData.eqvAll]
  | x :: xs, [] => by simp [sSeq, sPar, eCall, lCons, lNil, eVar, bind_retP, kFn, eTup, Sl.e2, kAddF, eC, seqO_nx, seqO_rt, sIf, bOr, bCmp, mO, sPut, lStar, itemsOf, putD, imm, imm.immAll, oNone, oSome, eCut, sNx, eImm, chk, sSet, sDrop, sRet, bNot, bTru, tru, eCmp, eIsi, eAnd, eOr, eNot, onBl, le2, le4, PyData.eqv, PyData.eqvAll]
  | x :: xs, y :: ys => by
    have h : PyData.eqv (.tuple ((x :: xs).map PyData.int)) (.tuple ((y :: ys).map PyData.int)) = (PyData.eqv (.int x) (.int y) && PyData.eqv (.tuple (xs.map PyData.int)) (.tuple (ys.map PyData.int))) := by simp [sSeq, sPar, eCall, lCons, lNil, eVar, bind_retP, kFn, eTup, Sl.e2, kAddF, eC, seqO_nx, seqO_rt, sIf, bOr, bCmp, mO, sPut, lStar, itemsOf, putD, imm, imm.immAll, oNone, oSome, eCut, sNx, eImm, chk, sSet, sDrop, sRet, bNot, bTru, tru, eCmp, eIsi, eAnd, eOr, eNot, onBl, le2, le4, PyData.eqv, PyData.eqvAll]
    rw [h, eqv_ints xs ys]
    by_cases e : x = y <;> simp [sSeq, sPar, eCall, lCons, lNil, eVar, bind_retP, kFn, eTup, Sl.e2, kAddF, eC, seqO_nx, seqO_rt, sIf, bOr, bCmp, mO, sPut, lStar, itemsOf, putD, imm, imm.immAll, oNone, oSome, eCut, sNx, eImm, chk, sSet, sDrop, sRet, bNot, bTru, tru, eCmp, eIsi, eAnd, eOr, eNot, onBl, le2, le4, PyData.eqv, e]
section
variable {C C' : Cl} (ok : C.Ok) (ok' : C'.Ok) (kin : Kin C C') {pr : List Int} (po : PrOk C pr) {c0 d : D} (h0 : c0 ∈ C.Ul)
include ok
theorem eqv_map {c e : D} (hc : c ∈ C.Ul) (he : e ∈ C.Ul) : PyData.eqv (toPy c) (toPy e) = decide (c = e) := by
  obtain ⟨xs, rfl, _⟩ := ok.shape c hc
  obtain ⟨ys, rfl, _⟩ := ok.shape e he
  have h : PyData.eqv (toPy (.tup [.int C.a, .tup (xs.map D.int)])) (toPy (.tup [.int C.a, .tup (ys.map D.int)])) = PyData.eqv (.tuple (xs.map PyData.int)) (.tuple (ys.map PyData.int)) := by
    show PyData.eqv (.tuple [.int C.a, .tuple (toPys (xs.map D.int))]) (.tuple [.int C.a, .tuple (toPys (ys.map D.int))]) = _
    rw [py_ints, py_ints]
    simp [sSeq, sPar, eCall, lCons, lNil, eVar, bind_retP, kFn, eTup, Sl.e2, kAddF, eC, seqO_nx, seqO_rt, sIf, bOr, bCmp, mO, sPut, lStar, itemsOf, putD, imm, imm.immAll, oNone, oSome, eCut, sNx, eImm, chk, sSet, sDrop, sRet, bNot, bTru, tru, eCmp, eIsi, eAnd, eOr, eNot, onBl, le2, le4, PyData.eqv, PyData.eqvAll]
  rw [h, eqv_ints]
  by_cases e : xs = ys
  · subst e; simp [sSeq, sPar, eCall, lCons, lNil, eVar, bind_retP, kFn, eTup, Sl.e2, kAddF, eC, seqO_nx, seqO_rt, sIf, bOr, bCmp, mO, sPut, lStar, itemsOf, putD, imm, imm.immAll, oNone, oSome, eCut, sNx, eImm, chk, sSet, sDrop, sRet, bNot, bTru, tru, eCmp, eIsi, eAnd, eOr, eNot, onBl, le2, le4]
  · rw [decide_eq_false e, decide_eq_false]
    intro z
    injection z with z
    injection z with _ z
    injection z with z _
    injection z with z
    exact e ((List.map_inj_right (fun a b h => by injection h)).mp z)
theorem need_map_run {c : D} (hc : c ∈ C.Ul) : g_need_map [c] = .ret .non := by
  show (F_need_map [some c]).bind endO = _
  simp [sSeq, sPar, eCall, lCons, lNil, eVar, bind_retP, kFn, eTup, Sl.e2, kAddF, eC, seqO_nx, seqO_rt, sIf, bOr, bCmp, mO, sPut, lStar, itemsOf, putD, imm, imm.immAll, oNone, oSome, eCut, sNx, eImm, chk, sSet, sDrop, sRet, bNot, bTru, tru, eCmp, eIsi, eAnd, eOr, eNot, onBl, le2, le4, F_need_map, ok.ismap c hc, endO]
theorem cell_len {c : D} (hc : c ∈ C.Ul) : ∃ x, kIx c (.int 1) = .ret x ∧ kIx c (.int 0) = .ret (.int C.a) ∧ kLen [x] = .ret (.int C.len) := by
  obtain ⟨cs, rfl, hl⟩ := ok.shape c hc
  exact ⟨_, ix1 _ _, ix0 _ _, by simp [sSeq, sPar, eCall, lCons, lNil, eVar, bind_retP, kFn, eTup, Sl.e2, kAddF, eC, seqO_nx, seqO_rt, sIf, bOr, bCmp, mO, sPut, lStar, itemsOf, putD, imm, imm.immAll, oNone, oSome, eCut, sNx, eImm, chk, sSet, sDrop, sRet, bNot, bTru, tru, eCmp, eIsi, eAnd, eOr, eNot, onBl, le2, le4, kLen, hl]⟩
include ok' kin in
theorem need_two_run {c : D} (hc : c ∈ C.Ul) (hd : d ∈ C'.Ul) : g_need_two [c, d] = .ret .non := by
  obtain ⟨x, e1, e2, e3⟩ := cell_len ok hc
  obtain ⟨y, f1, f2, f3⟩ := cell_len ok' hd
  rw [kin.a] at f2
  rw [kin.len] at f3
  have l1 := ok.lands c hc
  have l2 := ok'.lands d hd
  rw [kin.n] at l2
  show (F_need_two [some c, some d]).bind endO = _
  simp [sSeq, sPar, eCall, lCons, lNil, eVar, bind_retP, kFn, eTup, Sl.e2, kAddF, eC, seqO_nx, seqO_rt, sIf, bOr, bCmp, mO, sPut, lStar, itemsOf, putD, imm, imm.immAll, oNone, oSome, eCut, sNx, eImm, chk, sSet, sDrop, sRet, bNot, bTru, tru, eCmp, eIsi, eAnd, eOr, eNot, onBl, le2, le4, F_need_two, need_map_run ok hc, ok'.ismap d hd, e1, e2, e3, f1, f2, f3, l1, l2, ne_int, endO]
include po in
theorem need_prices_run {c : D} (hc : c ∈ C.Ul) : g_need_prices [c, prD pr] = .ret .non := by
  have e1 : kLen [prD pr] = .ret (.int C.n) := by simp [sSeq, sPar, eCall, lCons, lNil, eVar, bind_retP, kFn, eTup, Sl.e2, kAddF, eC, seqO_nx, seqO_rt, sIf, bOr, bCmp, mO, sPut, lStar, itemsOf, putD, imm, imm.immAll, oNone, oSome, eCut, sNx, eImm, chk, sSet, sDrop, sRet, bNot, bTru, tru, eCmp, eIsi, eAnd, eOr, eNot, onBl, le2, le4, kLen, po.len]
  have go : ∀ (l : List Int) (ρ : Rho), (∀ p ∈ l, 0 ≤ p ∧ p ≤ 5) → (∀ x : D, ∃ r, ρ.set 2 (some x) = r ∧ r[2]? = some (some x)) → qGo true (gVar 2) (eCall (kFn 3 g_is_in) (lCons (eVar 2) (lCons (eC (.int 0)) (lCons (eC (.int 1000)) lNil)))) (l.map D.int) ρ = .ret true := by
    intro l
    induction l with
    | nil => intro _ _ _; rfl
    | cons p l ih =>
      intro ρ h hr
      obtain ⟨r, e, e'⟩ := hr (.int p)
      have hp := h p (List.mem_cons_self ..)
      have h1 : decide (0 ≤ p) = true := decide_eq_true hp.1
      have h2 : decide (p ≤ 1000) = true := decide_eq_true (by omega)
      have e3 := ih ρ (fun q hq => h q (List.mem_cons_of_mem _ hq)) hr
      show (gVar 2 (.int p) ρ).bind _ = _
      simp [sSeq, sPar, eCall, lCons, lNil, eVar, bind_retP, kFn, eTup, Sl.e2, kAddF, eC, seqO_nx, seqO_rt, sIf, bOr, bCmp, mO, sPut, lStar, itemsOf, putD, imm, imm.immAll, oNone, oSome, eCut, sNx, eImm, chk, sSet, sDrop, sRet, bNot, bTru, tru, eCmp, eIsi, eAnd, eOr, eNot, onBl, le2, le4, gVar, e, e', is_in_int ok, h1, h2, e3]
  have e2 := go pr [some c, some (prD pr), none] po.rng fun x => ⟨_, rfl, rfl⟩
  have e3 : (eQ true [2] (lVar 1) (gVar 2) (eCall (kFn 3 g_is_in) (lCons (eVar 2) (lCons (eC (.int 0)) (lCons (eC (.int 1000)) lNil))))) [some c, some (prD pr), none] = .ret (.bl true) := by
    show (M.ret (pr.map D.int)).bind _ = _
    show (qGo _ _ _ (pr.map D.int) [some c, some (prD pr), none]).bind _ = _
    rw [e2]
    rfl
  show (F_need_prices [some c, some (prD pr), none]).bind endO = _
  have e4 : kIsTup (prD pr) = some true := rfl
  simp [sSeq, sPar, eCall, lCons, lNil, eVar, bind_retP, kFn, eTup, Sl.e2, kAddF, eC, seqO_nx, seqO_rt, sIf, bOr, bCmp, mO, sPut, lStar, itemsOf, putD, imm, imm.immAll, oNone, oSome, eCut, sNx, eImm, chk, sSet, sDrop, sRet, bNot, bTru, tru, eCmp, eIsi, eAnd, eOr, eNot, onBl, le2, le4, F_need_prices, e4, e1, ok.lands c hc, ne_int, endO, e3]
include ok' kin po in
theorem need_priced_run {c : D} (hc : c ∈ C.Ul) (hd : d ∈ C'.Ul) : g_need_priced [c, d, prD pr] = .ret .non := by
  show (F_need_priced [some c, some d, some (prD pr)]).bind endO = _
  simp [sSeq, sPar, eCall, lCons, lNil, eVar, bind_retP, kFn, eTup, Sl.e2, kAddF, eC, seqO_nx, seqO_rt, sIf, bOr, bCmp, mO, sPut, lStar, itemsOf, putD, imm, imm.immAll, oNone, oSome, eCut, sNx, eImm, chk, sSet, sDrop, sRet, bNot, bTru, tru, eCmp, eIsi, eAnd, eOr, eNot, onBl, le2, le4, F_need_priced, need_two_run ok ok' kin hc hd, need_prices_run ok po hc, endO]
include ok' kin po in
theorem cheap_row_other (hk : kNe C.ky C'.ky = some true) (hc : c0 ∈ C.Ul) (hd : d ∈ C'.Ul) : g_cheap_row [c0, d, prD pr] = .ret .non := by
  show (F_cheap_row [some c0, some d, some (prD pr), none]).bind endO = _
  simp [sSeq, sPar, eCall, lCons, lNil, eVar, bind_retP, kFn, eTup, Sl.e2, kAddF, eC, seqO_nx, seqO_rt, sIf, bOr, bCmp, mO, sPut, lStar, itemsOf, putD, imm, imm.immAll, oNone, oSome, eCut, sNx, eImm, chk, sSet, sDrop, sRet, bNot, bTru, tru, eCmp, eIsi, eAnd, eOr, eNot, onBl, le2, le4, F_cheap_row, need_priced_run ok ok' kin po hc hd, ok.key c0 hc, ok'.key d hd, hk, endO]
theorem kin_self : Kin C C := ⟨rfl, rfl, rfl⟩
include po in
theorem cheap_row_same (hd : d ∈ C.Ul) {f : List (D × D)} (hf : g_least_rows [c0, prD pr] = .ret (.dct f)) (l : Lr C (ok.gf po h0) f fun _ _ => False) {p m : Int} {h t : D} (e : dGet f d = some (v4 p m h t)) :
    ∃ ws : List D, ws.length ≤ 30 ∧ Pth C (wOf pr) c0 ws d p ∧ imm.immAll ws = true ∧ g_cheap_row [c0, d, prD pr] = .ret (.tup [.int p, .tup ws]) := by
  obtain ⟨ws, w1, w2, w3, w4⟩ := row_to_ok ok po h0 l hd e
  refine ⟨ws, w1, w2, w3, ?_⟩
  have e3 : kIx (v4 p m h t) (.int 0) = .ret (.int p) := rfl
  show (F_cheap_row [some c0, some d, some (prD pr), none]).bind endO = _
  simp [sSeq, sPar, eCall, lCons, lNil, eVar, bind_retP, kFn, eTup, Sl.e2, kAddF, eC, seqO_nx, seqO_rt, sIf, bOr, bCmp, mO, sPut, lStar, itemsOf, putD, imm, imm.immAll, oNone, oSome, eCut, sNx, eImm, chk, sSet, sDrop, sRet, bNot, bTru, tru, eCmp, eIsi, eAnd, eOr, eNot, onBl, le2, le4, F_cheap_row, need_priced_run ok ok (kin_self ok) po h0 hd, ok.key c0 h0, ok.key d hd, ok.kyRefl, hf, kIx_dct (ok.isT hd) (ok.kOk hd) e, e3, w4, endO]
theorem sorted_dct {f : List (D × D)} (hs : ∀ v ∈ keysOf f, v ∈ C.Ul) : kSorted [.dct f] = .ret (.lst (srt (keysOf f))) := by
  show (if (imm.immAll (keysOf f) && srtOk (keysOf f)) = true then M.ret (D.lst (srt (keysOf f))) else .fail) = _
  rw [imm_maps ok hs, srtOk_maps ok hs]
  rfl
theorem sorted_lst {l : List D} (hs : ∀ v ∈ l, v ∈ C.Ul) : kSorted [.lst l] = .ret (.lst (srt l)) := by
  show (if (imm.immAll l && srtOk l) = true then M.ret (D.lst (srt l)) else .fail) = _
  rw [imm_maps ok hs, srtOk_maps ok hs]
  rfl
theorem mem_srt {l : List D} {v : D} : v ∈ srt l ↔ v ∈ l := (List.mergeSort_perm _ _).mem_iff
/-- [fi for x in l]: whole numbers -/
theorem lcGo_ints {gv : Gv} {ft : EvB} {fe : Ev} {ρ : Rho} {g : D → Int} : ∀ {l : List D}, (∀ x ∈ l, ∃ ρ1, gv x ρ = .ret ρ1 ∧ ft ρ1 = .ret true ∧ fe ρ1 = .ret (.int (g x))) → lcGo gv ft fe l ρ = .ret (l.map fun x => .int (g x))
  | [], _ => rfl
  | x :: l, h => by
    obtain ⟨ρ1, e1, e2, e3⟩ := h x (List.mem_cons_self ..)
    have e4 := lcGo_ints (l := l) fun y hy => h y (List.mem_cons_of_mem _ hy)
    show (gv x ρ).bind _ = _
    simp [sSeq, sPar, eCall, lCons, lNil, eVar, bind_retP, kFn, eTup, Sl.e2, kAddF, eC, seqO_nx, seqO_rt, sIf, bOr, bCmp, mO, sPut, lStar, itemsOf, putD, imm, imm.immAll, oNone, oSome, eCut, sNx, eImm, chk, sSet, sDrop, sRet, bNot, bTru, tru, eCmp, eIsi, eAnd, eOr, eNot, onBl, le2, le4, e1, e2, e3, e4]
include po in
theorem cheapest_run {f : List (D × D)} (hf : g_least_rows [c0, prD pr] = .ret (.dct f)) (l : Lr C (ok.gf po h0) f fun _ _ => False) :
    g_cheapest_from [c0, prD pr] = .ret (.tup ((srt (keysOf f)).map fun v => .int (lp f v))) := by
  have hl : (srt (keysOf f)).length ≤ sizeLine := by
    have : (srt (keysOf f)).length = f.length := by unfold srt; rw [List.length_mergeSort, List.length_map]
    rw [this]
    exact Nat.le_of_lt (small_le (l.len ok))
  have e1 := sorted_dct ok l.sub
  have e2 : lcGo (gVar 3) bYes (eIx (eIx (eVar 2) (eVar 3)) (eC (.int 0))) (srt (keysOf f)) [some c0, some (prD pr), some (.dct f), none] = .ret ((srt (keysOf f)).map fun x => .int (lp f x)) := by
    refine lcGo_ints ok fun x hx => ⟨_, rfl, rfl, ?_⟩
    have hx' := (mem_srt ok).mp hx
    have hu := l.sub x hx'
    obtain ⟨y, ey⟩ := dGet_of_key (ok.ky' hu) hx'
    obtain ⟨p, m, h, t, rfl⟩ := l.ent x y ey
    have e3 : kIx (v4 p m h t) (.int 0) = .ret (.int p) := rfl
    have e4 : lp f x = p := by unfold lp; rw [labR_of ey]
    simp [sSeq, sPar, eCall, lCons, lNil, eVar, bind_retP, kFn, eTup, Sl.e2, kAddF, eC, seqO_nx, seqO_rt, sIf, bOr, bCmp, mO, sPut, lStar, itemsOf, putD, imm, imm.immAll, oNone, oSome, eCut, sNx, eImm, chk, sSet, sDrop, sRet, bNot, bTru, tru, eCmp, eIsi, eAnd, eOr, eNot, onBl, le2, le4, kIx_dct (ok.isT hu) (ok.kOk hu) ey, e3, e4]
  have e3 : imm.immAll ((srt (keysOf f)).map fun v => D.int (lp f v)) = true := by
    have : ∀ l : List D, imm.immAll (l.map fun v => D.int (lp f v)) = true := by
      intro l
      induction l with
      | nil => rfl
      | cons a l ih => exact ih
    exact this _
  show (F_cheapest_from [some c0, some (prD pr), none, none]).bind endO = _
  simp [sSeq, sPar, eCall, lCons, lNil, eVar, bind_retP, kFn, eTup, Sl.e2, kAddF, eC, seqO_nx, seqO_rt, sIf, bOr, bCmp, mO, sPut, lStar, itemsOf, putD, imm, imm.immAll, oNone, oSome, eCut, sNx, eImm, chk, sSet, sDrop, sRet, bNot, bTru, tru, eCmp, eIsi, eAnd, eOr, eNot, onBl, le2, le4, F_cheapest_from, need_map_run ok h0, need_prices_run ok po h0, hf, eLc, lNew, kItems, e1, hl, wipeR, e2, kTuple, e3, endO]
/-! shows_cheap_row -/
theorem is_int (i : Int) : kIsTup (.int i) = some false := rfl
include ok' kin po in
theorem shows_other (hk : kNe C.ky C'.ky = some true) (hc : c0 ∈ C.Ul) (hd : d ∈ C'.Ul) {x : D} {b : Bool} (hx : kIs x .non = some b) : g_shows_cheap_row [c0, d, prD pr, x] = .ret (.bl b) := by
  show (F_shows_cheap_row [some c0, some d, some (prD pr), some x, none]).bind endO = _
  cases b <;> simp [sSeq, sPar, eCall, lCons, lNil, eVar, bind_retP, kFn, eTup, Sl.e2, kAddF, eC, seqO_nx, seqO_rt, sIf, bOr, bCmp, mO, sPut, lStar, itemsOf, putD, imm, imm.immAll, oNone, oSome, eCut, sNx, eImm, chk, sSet, sDrop, sRet, bNot, bTru, tru, eCmp, eIsi, eAnd, eOr, eNot, onBl, le2, le4, F_shows_cheap_row, need_priced_run ok ok' kin po hc hd, ok.key c0 hc, ok'.key d hd, hk, hx, endO]
include h0 po in
theorem shows_none (hd : d ∈ C.Ul) : g_shows_cheap_row [c0, d, prD pr, .non] = .ret (.bl false) := by
  have hx : kIs .non .non = some true := rfl
  show (F_shows_cheap_row [some c0, some d, some (prD pr), some .non, none]).bind endO = _
  simp [sSeq, sPar, eCall, lCons, lNil, eVar, bind_retP, kFn, eTup, Sl.e2, kAddF, eC, seqO_nx, seqO_rt, sIf, bOr, bCmp, mO, sPut, lStar, itemsOf, putD, imm, imm.immAll, oNone, oSome, eCut, sNx, eImm, chk, sSet, sDrop, sRet, bNot, bTru, tru, eCmp, eIsi, eAnd, eOr, eNot, onBl, le2, le4, F_shows_cheap_row, need_priced_run ok ok (kin_self ok) po h0 hd, ok.key c0 h0, ok.key d hd, ok.kyRefl, hx, endO]
include h0 po in
theorem shows_notTup (hd : d ∈ C.Ul) {f : List (D × D)} (hf : g_least_rows [c0, prD pr] = .ret (.dct f)) {p m : Int} {h t : D} (e : dGet f d = some (v4 p m h t)) {x : D} (h1 : kIs x .non = some false) (h2 : kIsTup x = some false) : g_shows_cheap_row [c0, d, prD pr, x] = .ret (.bl false) := by
  have e3 : kIx (v4 p m h t) (.int 0) = .ret (.int p) := rfl
  show (F_shows_cheap_row [some c0, some d, some (prD pr), some x, none]).bind endO = _
  simp [sSeq, sPar, eCall, lCons, lNil, eVar, bind_retP, kFn, eTup, Sl.e2, kAddF, eC, seqO_nx, seqO_rt, sIf, bOr, bCmp, mO, sPut, lStar, itemsOf, putD, imm, imm.immAll, oNone, oSome, eCut, sNx, eImm, chk, sSet, sDrop, sRet, bNot, bTru, tru, eCmp, eIsi, eAnd, eOr, eNot, onBl, le2, le4, F_shows_cheap_row, need_priced_run ok ok (kin_self ok) po h0 hd, ok.key c0 h0, ok.key d hd, ok.kyRefl, hf, kIx_dct (ok.isT hd) (ok.kOk hd) e, e3, h1, h2, endO]
theorem walkP_in {w : D → Int} : ∀ {ws : List D} {c c' : D} {p p' : Int}, c ∈ C.Ul → walkP C w c p ws = some (p', c') → c' ∈ C.Ul
  | [], _, _, _, _, hc, e => by cases e; exact hc
  | t :: ws, c, c', p, p', hc, e => by
    unfold walkP at e
    split at e
    · rename_i ht
      exact walkP_in (ok.nxIn c hc t ht) e
    · cases e
theorem eq_priced (hd : d ∈ C.Ul) {o : Option (Int × D)} {p : Int} (ho : ∀ p' c', o = some (p', c') → c' ∈ C.Ul) : kEq (priced o) (.tup [.int p, d]) = some (decide (o = some (p, d))) := by
  have e1 : eqable 20 (.tup [.int p, d]) = true := by
    show (true && (eqable 19 d && true)) = true
    rw [ok.eq19 hd]
    rfl
  cases o with
  | none =>
    have e2 : PyData.eqv (toPy (priced none)) (toPy (.tup [.int p, d])) = false := rfl
    have e3 : eqable 20 (priced none) = true := rfl
    unfold kEq
    rw [e1, e2, e3]
    simp [sSeq, sPar, eCall, lCons, lNil, eVar, bind_retP, kFn, eTup, Sl.e2, kAddF, eC, seqO_nx, seqO_rt, sIf, bOr, bCmp, mO, sPut, lStar, itemsOf, putD, imm, imm.immAll, oNone, oSome, eCut, sNx, eImm, chk, sSet, sDrop, sRet, bNot, bTru, tru, eCmp, eIsi, eAnd, eOr, eNot, onBl, le2, le4]
  | some x =>
    have hx := ho x.1 x.2 rfl
    have e3 : eqable 20 (priced (some x)) = true := by
      show (true && (eqable 19 x.2 && true)) = true
      rw [ok.eq19 hx]
      rfl
    have e2 : PyData.eqv (toPy (priced (some x))) (toPy (.tup [.int p, d])) = decide (some x = some (p, d)) := by
      have : PyData.eqv (toPy (priced (some x))) (toPy (.tup [.int p, d])) = (PyData.eqv (.int x.1) (.int p) && PyData.eqv (toPy x.2) (toPy d)) := by
        show PyData.eqv (.tuple [.int x.1, toPy x.2]) (.tuple [.int p, toPy d]) = _
        simp [sSeq, sPar, eCall, lCons, lNil, eVar, bind_retP, kFn, eTup, Sl.e2, kAddF, eC, seqO_nx, seqO_rt, sIf, bOr, bCmp, mO, sPut, lStar, itemsOf, putD, imm, imm.immAll, oNone, oSome, eCut, sNx, eImm, chk, sSet, sDrop, sRet, bNot, bTru, tru, eCmp, eIsi, eAnd, eOr, eNot, onBl, le2, le4, PyData.eqv, PyData.eqvAll]
      rw [this, eqv_map ok hx hd]
      obtain ⟨q, c⟩ := x
      by_cases h1 : q = p <;> by_cases h2 : c = d <;> simp [sSeq, sPar, eCall, lCons, lNil, eVar, bind_retP, kFn, eTup, Sl.e2, kAddF, eC, seqO_nx, seqO_rt, sIf, bOr, bCmp, mO, sPut, lStar, itemsOf, putD, imm, imm.immAll, oNone, oSome, eCut, sNx, eImm, chk, sSet, sDrop, sRet, bNot, bTru, tru, eCmp, eIsi, eAnd, eOr, eNot, onBl, le2, le4, PyData.eqv, h1, h2]
    unfold kEq
    rw [e1, e2, e3]
    simp [sSeq, sPar, eCall, lCons, lNil, eVar, bind_retP, kFn, eTup, Sl.e2, kAddF, eC, seqO_nx, seqO_rt, sIf, bOr, bCmp, mO, sPut, lStar, itemsOf, putD, imm, imm.immAll, oNone, oSome, eCut, sNx, eImm, chk, sSet, sDrop, sRet, bNot, bTru, tru, eCmp, eIsi, eAnd, eOr, eNot, onBl, le2, le4]
include h0 po in
theorem shows_tup (hd : d ∈ C.Ul) {f : List (D × D)} (hf : g_least_rows [c0, prD pr] = .ret (.dct f)) {p m q : Int} {h t : D} (e : dGet f d = some (v4 p m h t)) {ws : List D} (hw : ∀ t ∈ ws, TkLike C t) (hl : ws.length ≤ 2000) :
    g_shows_cheap_row [c0, d, prD pr, .tup [.int q, .tup ws]] = .ret (.bl (decide (q = p) && decide (walkP C (wOf pr) c0 0 ws = some (p, d)))) := by
  have e3 : kIx (v4 p m h t) (.int 0) = .ret (.int p) := rfl
  have e4 : kIs (.tup [.int q, .tup ws]) .non = some false := rfl
  have e5 : kLen [.tup [.int q, .tup ws]] = .ret (.int 2) := rfl
  have e6 : kLen [.tup ws] = .ret (.int ws.length) := rfl
  have e7 : kGt (.int ws.length) (.int 2000) = some false := by
    show some (decide _) = _
    rw [decide_eq_false (by omega)]
  have e8 := price_of_run ok po h0 hw
  have e9 := eq_priced ok hd (p := p) (o := walkP C (wOf pr) c0 0 ws) fun p' c' q => walkP_in ok h0 q
  show (F_shows_cheap_row [some c0, some d, some (prD pr), some (.tup [.int q, .tup ws]), none]).bind endO = _
  by_cases hq : q = p
  · subst hq
    simp [sSeq, sPar, eCall, lCons, lNil, eVar, bind_retP, kFn, eTup, Sl.e2, kAddF, eC, seqO_nx, seqO_rt, sIf, bOr, bCmp, mO, sPut, lStar, itemsOf, putD, imm, imm.immAll, oNone, oSome, eCut, sNx, eImm, chk, sSet, sDrop, sRet, bNot, bTru, tru, eCmp, eIsi, eAnd, eOr, eNot, onBl, le2, le4, F_shows_cheap_row, need_priced_run ok ok (kin_self ok) po h0 hd, ok.key c0 h0, ok.key d hd, ok.kyRefl, hf, kIx_dct (ok.isT hd) (ok.kOk hd) e, e3, e4, e5, e6, e7, e8, e9, ix0, ix1, is_tup, ne_int, is_in_int ok, endO]
  · have hq2 : (decide (p ≤ q) && decide (q ≤ p)) = false := by
      rw [Bool.and_eq_false_iff, decide_eq_false_iff_not, decide_eq_false_iff_not]; omega
    simp [sSeq, sPar, eCall, lCons, lNil, eVar, bind_retP, kFn, eTup, Sl.e2, kAddF, eC, seqO_nx, seqO_rt, sIf, bOr, bCmp, mO, sPut, lStar, itemsOf, putD, imm, imm.immAll, oNone, oSome, eCut, sNx, eImm, chk, sSet, sDrop, sRet, bNot, bTru, tru, eCmp, eIsi, eAnd, eOr, eNot, onBl, le2, le4, F_shows_cheap_row, need_priced_run ok ok (kin_self ok) po h0 hd, ok.key c0 h0, ok.key d hd, ok.kyRefl, hf, kIx_dct (ok.isT hd) (ok.kOk hd) e, e3, e4, e5, e6, e7, e8, e9, ix0, ix1, is_tup, ne_int, is_in_int ok, hq2, hq, endO]
include h0 po in
theorem shows_lst (hd : d ∈ C.Ul) {f : List (D × D)} (hf : g_least_rows [c0, prD pr] = .ret (.dct f)) {p m q : Int} {h t : D} (e : dGet f d = some (v4 p m h t)) {ws : List D} :
    g_shows_cheap_row [c0, d, prD pr, .tup [.int q, .lst ws]] = .ret (.bl false) := by
  have e3 : kIx (v4 p m h t) (.int 0) = .ret (.int p) := rfl
  have e4 : kIs (.tup [.int q, .lst ws]) .non = some false := rfl
  have e5 : kLen [.tup [.int q, .lst ws]] = .ret (.int 2) := rfl
  have e6 : kIsTup (.lst ws) = some false := rfl
  show (F_shows_cheap_row [some c0, some d, some (prD pr), some (.tup [.int q, .lst ws]), none]).bind endO = _
  by_cases hq2 : (decide (p ≤ q) && decide (q ≤ p)) = true
  · simp [sSeq, sPar, eCall, lCons, lNil, eVar, bind_retP, kFn, eTup, Sl.e2, kAddF, eC, seqO_nx, seqO_rt, sIf, bOr, bCmp, mO, sPut, lStar, itemsOf, putD, imm, imm.immAll, oNone, oSome, eCut, sNx, eImm, chk, sSet, sDrop, sRet, bNot, bTru, tru, eCmp, eIsi, eAnd, eOr, eNot, onBl, le2, le4, F_shows_cheap_row, need_priced_run ok ok (kin_self ok) po h0 hd, ok.key c0 h0, ok.key d hd, ok.kyRefl, hf, kIx_dct (ok.isT hd) (ok.kOk hd) e, e3, e4, e5, e6, ix0, ix1, is_tup, ne_int, is_in_int ok, hq2, endO]
  · rw [Bool.not_eq_true] at hq2
    simp [sSeq, sPar, eCall, lCons, lNil, eVar, bind_retP, kFn, eTup, Sl.e2, kAddF, eC, seqO_nx, seqO_rt, sIf, bOr, bCmp, mO, sPut, lStar, itemsOf, putD, imm, imm.immAll, oNone, oSome, eCut, sNx, eImm, chk, sSet, sDrop, sRet, bNot, bTru, tru, eCmp, eIsi, eAnd, eOr, eNot, onBl, le2, le4, F_shows_cheap_row, need_priced_run ok ok (kin_self ok) po h0 hd, ok.key c0 h0, ok.key d hd, ok.kyRefl, hf, kIx_dct (ok.isT hd) (ok.kOk hd) e, e3, e4, e5, e6, ix0, ix1, is_tup, ne_int, is_in_int ok, hq2, endO]
end
end Sl
end S_Sp9
noncomputable section S_Sp10
set_option Elab.async false
set_option linter.all false
set_option maxRecDepth 100000
/-! shows_price_paper; what the law says of a paper. -/
namespace Sl
open PySem PySem.Spec PyProof.Rows L2
open Classical

/-! ### a paper's numbers -/
def IntsIn (f : List (D × D)) : Prop := ∀ v x, dGet f v = some x → ∃ i, x = .int i
theorem putAll_ok : ∀ (ps f : List (D × D)), Kys f → IntsIn f → (∀ p ∈ ps, Ky p.1 ∧ ∃ i, p.2 = .int i) → Kys (dPutAll f ps) ∧ IntsIn (dPutAll f ps) ∧ (∀ v, v ∈ keysOf (dPutAll f ps) ↔ v ∈ keysOf f ∨ v ∈ keysOf ps)
  | [], f, hk, hi, _ => ⟨hk, hi, fun v => ⟨.inl, fun h => h.elim id fun h => nomatch h⟩⟩
  | p :: ps, f, hk, hi, hp => by
    obtain ⟨kp, i, ei⟩ := hp p (List.mem_cons_self ..)
    have hi' : IntsIn (dPut f p.1 p.2) := by
      intro v x e
      rw [dGet_put' hk _ kp] at e
      split at e
      · cases e; exact ⟨i, ei⟩
      · exact hi v x e
    obtain ⟨a1, a2, a3⟩ := putAll_ok ps (dPut f p.1 p.2) (hk.put kp) hi' fun q hq => hp q (List.mem_cons_of_mem _ hq)
    refine ⟨a1, a2, fun v => (a3 v).trans ?_⟩
    rw [mem_put kp]
    show _ ↔ v ∈ keysOf f ∨ v ∈ p.1 :: keysOf ps
    rw [List.mem_cons]
    constructor
    · rintro ((h | h) | h)
      · exact .inr (.inl h)
      · exact .inl h
      · exact .inr (.inr h)
    · rintro (h | h | h)
      · exact .inl (.inr h)
      · exact .inl (.inl h)
      · exact .inr h
def numI (f : List (D × D)) (v : D) : Int := match dGet f v with
  | some (.int i) => i
  | _ => 0
section
variable {C : Cl} (ok : C.Ok) {pr : List Int} (po : PrOk C pr) {c0 d : D} (h0 : c0 ∈ C.Ul) (hd : d ∈ C.Ul)
/-- a paper's numbers, by the maps in order -/
def nums (l : List D) (vs : List Int) : List (D × D) := dPutAll [] (l.zip (vs.map D.int))
def EdgeOk (C : Cl) (w : D → Int) (f : List (D × D)) (h t : D) : Prop := numI f (C.nx h t) - numI f h ≤ w t
def PaperOk (C : Cl) (w : D → Int) (l : List D) (vs : List Int) (c0 d : D) (p : Int) : Prop :=
  (numI (nums l vs) c0 = 0 ∧ numI (nums l vs) d = p) ∧ ∀ h ∈ l, ∀ t ∈ C.ts h, EdgeOk C w (nums l vs) h t
include ok
theorem nums_get {l : List D} {vs : List Int} (hl : ∀ v, v ∈ l ↔ v ∈ C.Ul) (hv : vs.length = l.length) {v : D} (hm : v ∈ C.Ul) : dGet (nums l vs) v = some (.int (numI (nums l vs) v)) := by
  obtain ⟨a1, a2, a3⟩ := putAll_ok (l.zip (vs.map D.int)) [] (fun _ h => nomatch h) (fun v x e => by cases e) fun p hp => by
    obtain ⟨x, y⟩ := p
    have h1 := (List.of_mem_zip hp).1
    have h2 := (List.of_mem_zip hp).2
    obtain ⟨i, _, e⟩ := List.mem_map.mp h2
    exact ⟨ok.ky' ((hl x).mp h1), i, e.symm⟩
  have hk : v ∈ keysOf (nums l vs) := by
    refine (a3 v).mpr (.inr ?_)
    show v ∈ (l.zip (vs.map D.int)).map Prod.fst
    rw [List.map_fst_zip (by rw [List.length_map]; omega)]
    exact (hl v).mpr hm
  obtain ⟨x, e⟩ := dGet_of_key (ok.ky' hm) hk
  obtain ⟨i, rfl⟩ := a2 v x e
  unfold numI
  rw [e]
theorem dictZip_run {l : List D} {vs : List Int} (hl : ∀ v ∈ l, v ∈ C.Ul) (hv : vs.length = l.length) : kDictZip (.lst l) (.tup (vs.map D.int)) = .ret (.dct (nums l vs)) := by
  have e1 : (l.all fun k => isTup k && keyOk k) = true := List.all_eq_true.mpr fun k hk => by rw [ok.isT (hl k hk), ok.kOk (hl k hk)]; rfl
  have e2 := imm_maps ok hl
  have e3 : ∀ vs : List Int, imm.immAll (vs.map D.int) = true := by
    intro vs
    induction vs with
    | nil => rfl
    | cons a vs ih => exact ih
  show (if _ ∧ _ then _ else _) = _
  rw [if_pos ⟨by rw [e1, e2, e3]; rfl, by rw [List.length_map, hv]⟩]
  rfl
def spB : Sv := (sIf (bCmp kGt (eSub (eIx (eVar 6) (eCall (kFn 2 g_taken) (lCons (eVar 7) (lCons (eVar 8) lNil)))) (eIx (eVar 6) (eVar 7))) (eIx (eVar 2) (eIx (eVar 8) (eC (.int 0)))))
 (sRet (eC (.bl false)))
 sNx)
def spO : Sv := (sFor (gVar 8) (lNew (eCall (kFn 1 g_all_takings) (lCons (eVar 7) lNil))) spB)
omit ok in
theorem F_shows_price_paper_eq : F_shows_price_paper = (sSeq (sDrop (eCall (kFn 2 g_need_two) (lCons (eVar 0) (lCons (eVar 1) lNil))))
 (sSeq (sIf (bCmp kNe (eCall (kFn 1 g_key_of) (lCons (eVar 0) lNil)) (eCall (kFn 1 g_key_of) (lCons (eVar 1) lNil)))
 sFail
 sNx)
 (sSeq (sDrop (eCall (kFn 2 g_need_prices) (lCons (eVar 0) (lCons (eVar 2) lNil))))
 (sSeq (sSet 4 (eCall (kFn 2 g_least_rows) (lCons (eVar 0) (lCons (eVar 2) lNil))))
 (sSeq (sSet 5 (eCall kSorted (lCons (eVar 4) lNil)))
 (sSeq (sIf (bOr (bNot (bTru (eIsi kIsTup (eVar 3)))) (bCmp kNe (eCall kLen (lCons (eVar 3) lNil)) (eCall kLen (lCons (eVar 5) lNil))))
 (sRet (eC (.bl false)))
 sNx)
 (sSeq (sIf (bNot (bTru (eQ true [9] (lVar 3) (gVar 9) (eAnd (eIsi kIsInt (eVar 9)) (eNot (eIsi kIsBool (eVar 9)))))))
 (sRet (eC (.bl false)))
 sNx)
 (sSeq (sSet 6 (e2 (eVar 5) (eVar 3) kDictZip))
 (sSeq (sIf (bOr (bCmp kNe (eIx (eVar 6) (eVar 0)) (eC (.int 0))) (bCmp kNe (eIx (eVar 6) (eVar 1)) (eIx (eIx (eVar 4) (eVar 1)) (eC (.int 0)))))
 (sRet (eC (.bl false)))
 sNx)
 (sSeq (sFor (gVar 7) (lVar 5) spO)
 (sRet (eC (.bl true))))))))))))) := rfl
include po in
theorem sp_inner {f : List (D × D)} (hf : ∀ v ∈ C.Ul, dGet f v = some (.int (numI f v))) {h : D} (hh : h ∈ C.Ul) (a b c e g i k : Option D) : ∀ (tl : List D) (o8 : Option D), (∀ t ∈ tl, t ∈ C.ts h) →
    ((∀ t ∈ tl, EdgeOk C (wOf pr) f h t) ∧ ∃ o8', loopF (gVar 8) spB tl [a, b, some (prD pr), c, e, g, some (.dct f), some h, o8, i] = .ret (.nx [a, b, some (prD pr), c, e, g, some (.dct f), some h, o8', i])) ∨
    ((¬ ∀ t ∈ tl, EdgeOk C (wOf pr) f h t) ∧ loopF (gVar 8) spB tl [a, b, some (prD pr), c, e, g, some (.dct f), some h, o8, i] = .ret (.rt (.bl false)))
  | [], o8, _ => .inl ⟨fun _ h => (nomatch h), o8, rfl⟩
  | t :: tl, o8, ht => by
    have m := ht t (List.mem_cons_self ..)
    have hv := ok.nxIn h hh t m
    obtain ⟨j, e1, e3⟩ := ok.ixt po hh m
    have e4 := kIx_dct (ok.isT hh) (ok.kOk hh) (hf h hh)
    have e5 := kIx_dct (ok.isT hv) (ok.kOk hv) (hf _ hv)
    have e6 := ok.taken h hh t m
    have st : ([a, b, some (prD pr), c, e, g, some (.dct f), some h, o8, i] : Rho).set 8 (some t) = [a, b, some (prD pr), c, e, g, some (.dct f), some h, some t, i] := rfl
    rw [loopF_var, st]
    by_cases q : EdgeOk C (wOf pr) f h t
    · have q' : decide (wOf pr t < numI f (C.nx h t) - numI f h) = false := by
        rw [decide_eq_false_iff_not]; unfold EdgeOk at q; omega
      have e7 : spB [a, b, some (prD pr), c, e, g, some (.dct f), some h, some t, i] = .ret (.nx [a, b, some (prD pr), c, e, g, some (.dct f), some h, some t, i]) := by
        simp [sSeq, sPar, eCall, lCons, lNil, eVar, bind_retP, kFn, eTup, Sl.e2, kAddF, eC, seqO_nx, seqO_rt, sIf, bOr, bCmp, mO, sPut, lStar, itemsOf, putD, imm, imm.immAll, oNone, oSome, eCut, sNx, eImm, chk, sSet, sDrop, sRet, bNot, bTru, tru, eCmp, eIsi, eAnd, eOr, eNot, onBl, le2, le4, spB, e1, e3, e4, e5, e6, kI, onI2, oI2, q']
      rw [e7]
      rcases sp_inner hf hh a b c e g i k tl (some t) fun u hu => ht u (List.mem_cons_of_mem _ hu) with ⟨r1, o8', r2⟩ | ⟨r1, r2⟩
      · exact .inl ⟨fun u hu => (List.mem_cons.mp hu).elim (fun z => z ▸ q) (r1 u), o8', r2⟩
      · exact .inr ⟨fun z => r1 fun u hu => z u (List.mem_cons_of_mem _ hu), r2⟩
    · have q' : decide (wOf pr t < numI f (C.nx h t) - numI f h) = true := by
        rw [decide_eq_true_eq]; unfold EdgeOk at q; omega
      have e7 : spB [a, b, some (prD pr), c, e, g, some (.dct f), some h, some t, i] = .ret (.rt (.bl false)) := by
        simp [sSeq, sPar, eCall, lCons, lNil, eVar, bind_retP, kFn, eTup, Sl.e2, kAddF, eC, seqO_nx, seqO_rt, sIf, bOr, bCmp, mO, sPut, lStar, itemsOf, putD, imm, imm.immAll, oNone, oSome, eCut, sNx, eImm, chk, sSet, sDrop, sRet, bNot, bTru, tru, eCmp, eIsi, eAnd, eOr, eNot, onBl, le2, le4, spB, e1, e3, e4, e5, e6, kI, onI2, oI2, q']
      rw [e7]
      exact .inr ⟨fun z => q (z t (List.mem_cons_self ..)), rfl⟩
include po in
theorem sp_outer {f : List (D × D)} (hf : ∀ v ∈ C.Ul, dGet f v = some (.int (numI f v))) (a b c e g i : Option D) : ∀ (l : List D) (o7 o8 : Option D), (∀ h ∈ l, h ∈ C.Ul) →
    ((∀ h ∈ l, ∀ t ∈ C.ts h, EdgeOk C (wOf pr) f h t) ∧ ∃ o7' o8', loopF (gVar 7) spO l [a, b, some (prD pr), c, e, g, some (.dct f), o7, o8, i] = .ret (.nx [a, b, some (prD pr), c, e, g, some (.dct f), o7', o8', i])) ∨
    ((¬ ∀ h ∈ l, ∀ t ∈ C.ts h, EdgeOk C (wOf pr) f h t) ∧ loopF (gVar 7) spO l [a, b, some (prD pr), c, e, g, some (.dct f), o7, o8, i] = .ret (.rt (.bl false)))
  | [], o7, o8, _ => .inl ⟨fun _ h => (nomatch h), o7, o8, rfl⟩
  | h :: l, o7, o8, hl => by
    have hh := hl h (List.mem_cons_self ..)
    have st : ([a, b, some (prD pr), c, e, g, some (.dct f), o7, o8, i] : Rho).set 7 (some h) = [a, b, some (prD pr), c, e, g, some (.dct f), some h, o8, i] := rfl
    have e1 : spO [a, b, some (prD pr), c, e, g, some (.dct f), some h, o8, i] = loopF (gVar 8) spB (C.ts h) [a, b, some (prD pr), c, e, g, some (.dct f), some h, o8, i] := by
      simp [sSeq, sPar, eCall, lCons, lNil, eVar, bind_retP, kFn, eTup, Sl.e2, kAddF, eC, seqO_nx, seqO_rt, sIf, bOr, bCmp, mO, sPut, lStar, itemsOf, putD, imm, imm.immAll, oNone, oSome, eCut, sNx, eImm, chk, sSet, sDrop, sRet, bNot, bTru, tru, eCmp, eIsi, eAnd, eOr, eNot, onBl, le2, le4, spO, sFor, lNew, ok.all h hh, kItems]
    rw [loopF_var, st, e1]
    rcases sp_inner ok po hf hh a b c e g i none (C.ts h) o8 fun _ z => z with ⟨r1, o8', r2⟩ | ⟨r1, r2⟩
    · rw [r2]
      rcases sp_outer hf a b c e g i l (some h) o8' fun u hu => hl u (List.mem_cons_of_mem _ hu) with ⟨s1, s2⟩ | ⟨s1, s2⟩
      · exact .inl ⟨fun u hu => (List.mem_cons.mp hu).elim (fun z => z ▸ r1) (s1 u), s2⟩
      · exact .inr ⟨fun z => s1 fun u hu => z u (List.mem_cons_of_mem _ hu), s2⟩
    · rw [r2]
      exact .inr ⟨fun z => r1 (z h (List.mem_cons_self ..)), rfl⟩
theorem allInts : ∀ (vs : List Int) (ρ : Rho), (∀ x : D, ∃ r, ρ.set 9 (some x) = r ∧ r[9]? = some (some x)) → qGo true (gVar 9) (eAnd (eIsi kIsInt (eVar 9)) (eNot (eIsi kIsBool (eVar 9)))) (vs.map D.int) ρ = .ret true
  | [], _, _ => rfl
  | v :: vs, ρ, hr => by
    obtain ⟨r, e, e'⟩ := hr (.int v)
    have e3 := allInts vs ρ hr
    show (gVar 9 (.int v) ρ).bind _ = _
    simp [sSeq, sPar, eCall, lCons, lNil, eVar, bind_retP, kFn, eTup, Sl.e2, kAddF, eC, seqO_nx, seqO_rt, sIf, bOr, bCmp, mO, sPut, lStar, itemsOf, putD, imm, imm.immAll, oNone, oSome, eCut, sNx, eImm, chk, sSet, sDrop, sRet, bNot, bTru, tru, eCmp, eIsi, eAnd, eOr, eNot, onBl, le2, le4, gVar, e, e', kIsInt, kIsBool, e3]
include po h0 hd in
theorem paper_run {f : List (D × D)} (hf : g_least_rows [c0, prD pr] = .ret (.dct f)) (l : Lr C (ok.gf po h0) f fun _ _ => False) (hk : ∀ v, v ∈ srt (keysOf f) ↔ v ∈ C.Ul) {p m : Int} {h t : D} (e : dGet f d = some (v4 p m h t)) {vs : List Int} (hv : vs.length = (srt (keysOf f)).length) :
    g_shows_price_paper [c0, d, prD pr, .tup (vs.map D.int)] = .ret (.bl (decide (PaperOk C (wOf pr) (srt (keysOf f)) vs c0 d p))) := by
  have e3 : kIx (v4 p m h t) (.int 0) = .ret (.int p) := rfl
  have e5 := sorted_dct ok l.sub
  have e6 : kLen [.tup (vs.map D.int)] = .ret (.int vs.length) := by simp [sSeq, sPar, eCall, lCons, lNil, eVar, bind_retP, kFn, eTup, Sl.e2, kAddF, eC, seqO_nx, seqO_rt, sIf, bOr, bCmp, mO, sPut, lStar, itemsOf, putD, imm, imm.immAll, oNone, oSome, eCut, sNx, eImm, chk, sSet, sDrop, sRet, bNot, bTru, tru, eCmp, eIsi, eAnd, eOr, eNot, onBl, le2, le4, kLen]
  have e7 : kLen [.lst (srt (keysOf f))] = .ret (.int vs.length) := by simp [sSeq, sPar, eCall, lCons, lNil, eVar, bind_retP, kFn, eTup, Sl.e2, kAddF, eC, seqO_nx, seqO_rt, sIf, bOr, bCmp, mO, sPut, lStar, itemsOf, putD, imm, imm.immAll, oNone, oSome, eCut, sNx, eImm, chk, sSet, sDrop, sRet, bNot, bTru, tru, eCmp, eIsi, eAnd, eOr, eNot, onBl, le2, le4, kLen, hv]
  have hf' : ∀ v ∈ C.Ul, dGet (nums (srt (keysOf f)) vs) v = some (.int (numI (nums (srt (keysOf f)) vs) v)) := fun v hm => nums_get ok hk hv hm
  have e8 : kDictZip (.lst (srt (keysOf f))) (.tup (vs.map D.int)) = .ret (.dct (nums (srt (keysOf f)) vs)) := dictZip_run ok (fun v hm => (hk v).mp hm) hv
  have e9 : (eQ true [9] (lNew (eVar 3)) (gVar 9) (eAnd (eIsi kIsInt (eVar 9)) (eNot (eIsi kIsBool (eVar 9))))) [some c0, some d, some (prD pr), some (.tup (vs.map D.int)), some (.dct f), some (.lst (srt (keysOf f))), none, none, none, none] = .ret (.bl true) := by
    show (qGo _ _ _ (vs.map D.int) [some c0, some d, some (prD pr), some (.tup (vs.map D.int)), some (.dct f), some (.lst (srt (keysOf f))), none, none, none, none]).bind _ = _
    rw [allInts ok vs _ fun x => ⟨_, rfl, rfl⟩]
    rfl
  have e10 := kIx_dct (ok.isT h0) (ok.kOk h0) (hf' c0 h0)
  have e11 := kIx_dct (ok.isT hd) (ok.kOk hd) (hf' d hd)
  have e12 := kIx_dct (ok.isT hd) (ok.kOk hd) e
  show (F_shows_price_paper [some c0, some d, some (prD pr), some (.tup (vs.map D.int)), none, none, none, none, none, none]).bind endO = _
  rw [F_shows_price_paper_eq]
  by_cases q1 : numI (nums (srt (keysOf f)) vs) c0 = 0
  · by_cases q2 : numI (nums (srt (keysOf f)) vs) d = p
    · rcases sp_outer ok po hf' (some c0) (some d) (some (.tup (vs.map D.int))) (some (.dct f)) (some (.lst (srt (keysOf f)))) none (srt (keysOf f)) none none (fun v hm => (hk v).mp hm) with ⟨s1, o7, o8, s2⟩ | ⟨s1, s2⟩
      · rw [decide_eq_true (show PaperOk C (wOf pr) (srt (keysOf f)) vs c0 d p from ⟨⟨q1, q2⟩, s1⟩)]
        simp [sSeq, sPar, eCall, lCons, lNil, eVar, bind_retP, kFn, eTup, Sl.e2, kAddF, eC, seqO_nx, seqO_rt, sIf, bOr, bCmp, mO, sPut, lStar, itemsOf, putD, imm, imm.immAll, oNone, oSome, eCut, sNx, eImm, chk, sSet, sDrop, sRet, bNot, bTru, tru, eCmp, eIsi, eAnd, eOr, eNot, onBl, le2, le4, need_two_run ok ok (kin_self ok) h0 hd, ok.key c0 h0, ok.key d hd, ok.kyRefl, need_prices_run ok po h0, hf, e5, is_tup, e6, e7, ne_int, e9, e8, e10, e11, e12, e3, q1, q2, sFor, lVar, lNew, kItems, s2, endO]
      · rw [decide_eq_false (show ¬ PaperOk C (wOf pr) (srt (keysOf f)) vs c0 d p from fun z => s1 z.2)]
        simp [sSeq, sPar, eCall, lCons, lNil, eVar, bind_retP, kFn, eTup, Sl.e2, kAddF, eC, seqO_nx, seqO_rt, sIf, bOr, bCmp, mO, sPut, lStar, itemsOf, putD, imm, imm.immAll, oNone, oSome, eCut, sNx, eImm, chk, sSet, sDrop, sRet, bNot, bTru, tru, eCmp, eIsi, eAnd, eOr, eNot, onBl, le2, le4, need_two_run ok ok (kin_self ok) h0 hd, ok.key c0 h0, ok.key d hd, ok.kyRefl, need_prices_run ok po h0, hf, e5, is_tup, e6, e7, ne_int, e9, e8, e10, e11, e12, e3, q1, q2, sFor, lVar, lNew, kItems, s2, endO]
    · rw [decide_eq_false (show ¬ PaperOk C (wOf pr) (srt (keysOf f)) vs c0 d p from fun z => q2 z.1.2)]
      simp [sSeq, sPar, eCall, lCons, lNil, eVar, bind_retP, kFn, eTup, Sl.e2, kAddF, eC, seqO_nx, seqO_rt, sIf, bOr, bCmp, mO, sPut, lStar, itemsOf, putD, imm, imm.immAll, oNone, oSome, eCut, sNx, eImm, chk, sSet, sDrop, sRet, bNot, bTru, tru, eCmp, eIsi, eAnd, eOr, eNot, onBl, le2, le4, need_two_run ok ok (kin_self ok) h0 hd, ok.key c0 h0, ok.key d hd, ok.kyRefl, need_prices_run ok po h0, hf, e5, is_tup, e6, e7, ne_int, e9, e8, e10, e11, e12, e3, q1, q2, lVar, endO]
  · rw [decide_eq_false (show ¬ PaperOk C (wOf pr) (srt (keysOf f)) vs c0 d p from fun z => q1 z.1.1)]
    simp [sSeq, sPar, eCall, lCons, lNil, eVar, bind_retP, kFn, eTup, Sl.e2, kAddF, eC, seqO_nx, seqO_rt, sIf, bOr, bCmp, mO, sPut, lStar, itemsOf, putD, imm, imm.immAll, oNone, oSome, eCut, sNx, eImm, chk, sSet, sDrop, sRet, bNot, bTru, tru, eCmp, eIsi, eAnd, eOr, eNot, onBl, le2, le4, need_two_run ok ok (kin_self ok) h0 hd, ok.key c0 h0, ok.key d hd, ok.kyRefl, need_prices_run ok po h0, hf, e5, is_tup, e6, e7, ne_int, e9, e8, e10, e11, e12, e3, q1, lVar, endO]
include po h0 hd in
theorem paper_other {f : List (D × D)} (hf : g_least_rows [c0, prD pr] = .ret (.dct f)) (l : Lr C (ok.gf po h0) f fun _ _ => False) {x : D} (hx : kIsTup x = some false ∨ ∃ xs, x = .tup xs ∧ xs.length ≠ (srt (keysOf f)).length) :
    g_shows_price_paper [c0, d, prD pr, x] = .ret (.bl false) := by
  have e5 := sorted_dct ok l.sub
  show (F_shows_price_paper [some c0, some d, some (prD pr), some x, none, none, none, none, none, none]).bind endO = _
  rw [F_shows_price_paper_eq]
  rcases hx with hx | ⟨xs, rfl, hx⟩
  · simp [sSeq, sPar, eCall, lCons, lNil, eVar, bind_retP, kFn, eTup, Sl.e2, kAddF, eC, seqO_nx, seqO_rt, sIf, bOr, bCmp, mO, sPut, lStar, itemsOf, putD, imm, imm.immAll, oNone, oSome, eCut, sNx, eImm, chk, sSet, sDrop, sRet, bNot, bTru, tru, eCmp, eIsi, eAnd, eOr, eNot, onBl, le2, le4, need_two_run ok ok (kin_self ok) h0 hd, ok.key c0 h0, ok.key d hd, ok.kyRefl, need_prices_run ok po h0, hf, e5, hx, endO]
  · have e6 : kLen [.tup xs] = .ret (.int xs.length) := rfl
    have e7 : kLen [.lst (srt (keysOf f))] = .ret (.int (srt (keysOf f)).length) := rfl
    have e8 : kNe (.int xs.length) (.int (srt (keysOf f)).length) = some true := by
      rw [ne_int, decide_eq_false (by omega)]; rfl
    simp [sSeq, sPar, eCall, lCons, lNil, eVar, bind_retP, kFn, eTup, Sl.e2, kAddF, eC, seqO_nx, seqO_rt, sIf, bOr, bCmp, mO, sPut, lStar, itemsOf, putD, imm, imm.immAll, oNone, oSome, eCut, sNx, eImm, chk, sSet, sDrop, sRet, bNot, bTru, tru, eCmp, eIsi, eAnd, eOr, eNot, onBl, le2, le4, need_two_run ok ok (kin_self ok) h0 hd, ok.key c0 h0, ok.key d hd, ok.kyRefl, need_prices_run ok po h0, hf, e5, is_tup, e6, e7, e8, endO]
end
end Sl
end S_Sp10
noncomputable section S_Sr1
set_option Elab.async false
set_option linter.all false
set_option maxRecDepth 100000
set_option maxHeartbeats 1000000
/-! The parts of the law. -/
namespace Sl
open PySem PySem.Spec PyProof.Rows L2
noncomputable def lwS0 : Sv := (sTgt0 (gTup3 2 3 4) (eCall (kFn 2 g__law_island) (lCons (eVar 1) (lCons (eC (.int 2)) lNil))))
noncomputable def lwS1 : Sv := (sPar 6 7 (eCall (kFn 4 g__law_map) (lCons (eVar 1) (lCons (eVar 2) (lCons (eVar 3) (lCons (eVar 4) lNil))))) (eCall kTuple (lCons (eLc [5] (lRange (lCons (eVar 4) lNil)) (gVar 5) bYes (eCall (kFn 2 g__law_taken) (lCons (eVar 1) (lCons (eC (.int 6)) lNil)))) lNil)))
noncomputable def lwS2 : Sv := (sSet 8 (eIf (bCmp kGt (eCall (kFn 2 g__law_taken) (lCons (eVar 1) (lCons (eC (.int 3)) lNil))) (eC (.int 0))) (eIx (eCall (kFn 3 g__law_walk) (lCons (eVar 1) (lCons (eVar 6) (lCons (eCall (kFn 2 g__law_taken) (lCons (eVar 1) (lCons (eC (.int 8)) lNil))) lNil)))) (eC (.int 1))) (eCall (kFn 4 g__law_map) (lCons (eVar 1) (lCons (eVar 2) (lCons (eVar 3) (lCons (eVar 4) lNil)))))))
noncomputable def lwS3 : Sv := (sTgt0 (gTup2 9 10) (eTup (lCons (eCall (kFn 2 g__law_least) (lCons (eVar 6) (lCons (eVar 7) lNil))) (lCons (eCall (kFn 3 g_cheap_row) (lCons (eVar 6) (lCons (eVar 8) (lCons (eVar 7) lNil)))) lNil))))
noncomputable def lwS4 : Sv := (sSet 11 (eCall kSorted (lCons (eCall kListA (lCons (eVar 9) lNil)) lNil)))
noncomputable def lwS5 : Sv := (sIf (bOr (bNot (bTru (eCall (kFn 2 g__law_alike2) (lCons (eCall (kFn 2 g_cheapest_from) (lCons (eVar 6) (lCons (eVar 7) lNil))) (lCons (eCall kTuple (lCons (eLc [12] (lVar 11) (gVar 12) bYes (eIx (eVar 9) (eVar 12))) lNil)) lNil))))) (bCmp kNe (eCmp kIs (eVar 10) (eC .non)) (eCmp kNotIn (eVar 8) (eVar 9)))) (sRet (eC (.bl false))) sNx)
noncomputable def lwS6 : Sv := (sIf (bCmp kIs (eVar 10) (eC .non)) (sRet (eAnd (eCmp kIs (eCall (kFn 4 g_shows_cheap_row) (lCons (eVar 6) (lCons (eVar 8) (lCons (eVar 7) (lCons (eC .non) lNil))))) (eC (.bl true))) (eCmp kIs (eCall (kFn 4 g_shows_cheap_row) (lCons (eVar 6) (lCons (eVar 8) (lCons (eVar 7) (lCons (eTup (lCons (eC (.int 0)) (lCons (eTup lNil) lNil))) lNil))))) (eC (.bl false))))) sNx)
noncomputable def lwS7 : Sv := (sTgt0 (gTup2 13 14) (eImm (eVar 10)))
noncomputable def lwS8 : Sv := (sIf (bOr (bCmp kNe (eVar 13) (eIx (eVar 9) (eVar 8))) (bOr (bNot (bTru (eIsi kIsTup (eVar 14)))) (bOr (bCmp kGt (eCall kLen (lCons (eVar 14) lNil)) (eC (.int 2000))) (bCmp kNe (eCall (kFn 3 g__law_price) (lCons (eVar 6) (lCons (eVar 7) (lCons (eVar 14) lNil)))) (eTup (lCons (eVar 13) (lCons (eVar 8) lNil))))))) (sRet (eC (.bl false))) sNx)
noncomputable def lwS9 : Sv := (sSet 15 (eIx (eCall (kFn 3 g__law_walk) (lCons (eVar 1) (lCons (eVar 6) (lCons (eC (.int 3)) lNil)))) (eC (.int 0))))
noncomputable def lwVB : Sv := (sSeq (sSet 17 (eAnd (eIsi kIsTup (eVar 16)) (eAnd (eCmp kEq (eCall kLen (lCons (eVar 16) lNil)) (eC (.int 2))) (eAnd (eCmp kEq (eIx (eVar 16) (eC (.int 0))) (eVar 13)) (eIsi kIsTup (eIx (eVar 16) (eC (.int 1)))))))) (sSeq (sSet 17 (eAnd (eVar 17) (eCmp kEq (eCall (kFn 3 g__law_price) (lCons (eVar 6) (lCons (eVar 7) (lCons (eIx (eVar 16) (eC (.int 1))) lNil)))) (eTup (lCons (eVar 13) (lCons (eVar 8) lNil)))))) (sIf (bNot (bTru (eCall (kFn 2 g__law_alike2) (lCons (eCall (kFn 4 g_shows_cheap_row) (lCons (eVar 6) (lCons (eVar 8) (lCons (eVar 7) (lCons (eVar 16) lNil))))) (lCons (eVar 17) lNil))))) (sRet (eC (.bl false))) sNx)))
noncomputable def lwS10 : Sv := (sFor (gVar 16) (lNew (eLst (lCons (eImm (eVar 10)) (lCons (eCall kListA (lCons (eVar 10) lNil)) (lCons (eTup (lCons (eAddF (eVar 13) (eC (.int 1))) (lCons (eImm (eVar 14)) lNil))) (lCons (eTup (lCons (eImm (eVar 13)) (lCons (eCall kListA (lCons (eVar 14) lNil)) lNil))) (lCons (eTup (lCons (eImm (eVar 13)) (lCons (eCut (eImm (eVar 14)) (oSome (eC (.int 1))) oNone) lNil))) (lCons (eTup (lCons (eImm (eVar 13)) (lCons (eImm (eVar 15)) lNil))) (lCons (eC .non) (lCons (eC (.int 3)) (lCons (eTup (lCons (eImm (eVar 13)) (lCons (eAddF (eVar 14) (eTup (lCons (eTup (lCons (eVar 4) (lCons (eC (.int 0)) lNil))) lNil))) lNil))) lNil))))))))))) lwVB)
noncomputable def lwS11 : Sv := (sSet 18 (eCall kTuple (lCons (eLc [12] (lVar 11) (gVar 12) bYes (eIx (eVar 9) (eVar 12))) lNil)))
noncomputable def lwS12 : Sv := (sSet 19 (eLst (lCons (eImm (eVar 18)) (lCons (eCall kListA (lCons (eVar 18) lNil)) (lCons (eCut (eImm (eVar 18)) (oSome (eC (.int 1))) oNone) (lCons (e1 (eImm (eVar 18)) kRevT) (lCons (eCall kTuple (lCons (eLc [12] (lVar 18) (gVar 12) bYes (eAddF (eVar 12) (eC (.int 1)))) lNil)) (lCons (e2 (eTup (lCons (eC (.int 0)) lNil)) (eCall kLen (lCons (eVar 18) lNil)) kRep) (lCons (eC .non) lNil)))))))))
noncomputable def lwGB : Sv := (sApp 19 (eAddF (eAddF (eCut (eVar 18) oNone (oSome (eVar 5))) (eTup (lCons (eSub (eAddF (eIx (eVar 18) (eVar 5)) (eC (.int 1))) (eMul (eC (.int 2)) (eCall (kFn 2 g__law_taken) (lCons (eVar 1) (lCons (eC (.int 2)) lNil))))) lNil))) (eCut (eVar 18) (oSome (eAddF (eVar 5) (eC (.int 1)))) oNone)))
noncomputable def lwS13 : Sv := (sFor (gVar 5) (lRange (lCons (eCall kMin2 (lCons (eC (.int 6)) (lCons (eCall kLen (lCons (eVar 18) lNil)) lNil))) lNil)) lwGB)
noncomputable def lwN0 : Sv := (sSet 20 eDict0)
noncomputable def lwNb : Sv := (sPut 20 (eIx (eVar 11) (eVar 5)) (eIx (eVar 16) (eVar 5)))
noncomputable def lwN1 : Sv := (sFor (gVar 5) (lRange (lCons (eCall kLen (lCons (eVar 11) lNil)) lNil)) lwNb)
noncomputable def lwN2 : Sv := (sSet 17 (eAnd (eCmp kEq (eIx (eVar 20) (eVar 6)) (eC (.int 0))) (eCmp kEq (eIx (eVar 20) (eVar 8)) (eVar 13))))
noncomputable def lwEi : Sv := (sSet 17 (eAnd (eVar 17) (eCmp kLe (eSub (eIx (eVar 20) (eCall (kFn 2 g__law_behind) (lCons (eVar 21) (lCons (eVar 12) lNil)))) (eIx (eVar 20) (eVar 21))) (eIx (eVar 7) (eIx (eVar 12) (eC (.int 0)))))))
noncomputable def lwEo : Sv := (sFor (gVar 12) (lNew (eCall (kFn 1 g__law_takings) (lCons (eVar 21) lNil))) lwEi)
noncomputable def lwN3 : Sv := (sFor (gVar 21) (lVar 11) lwEo)
noncomputable def lwP0 : Sv := (sSet 17 (eAnd (eIsi kIsTup (eVar 16)) (eCmp kEq (eCall kLen (lCons (eVar 16) lNil)) (eCall kLen (lCons (eVar 11) lNil)))))
noncomputable def lwP1 : Sv := (sIf (bTru (eVar 17)) (sSeq lwN0 (sSeq lwN1 (sSeq lwN2 lwN3))) sNx)
noncomputable def lwP2 : Sv := (sIf (bNot (bTru (eCall (kFn 2 g__law_alike2) (lCons (eCall (kFn 4 g_shows_price_paper) (lCons (eVar 6) (lCons (eVar 8) (lCons (eVar 7) (lCons (eVar 16) lNil))))) (lCons (eVar 17) lNil))))) (sRet (eC (.bl false))) sNx)
noncomputable def lwPB : Sv := (sSeq lwP0 (sSeq lwP1 lwP2))
noncomputable def lwFor : Sv := (sFor (gVar 16) (lVar 19) lwPB)
noncomputable def lwS14 : Sv := (sLess (sSeq lwFor (sRet (eC (.bl true)))))
theorem F_law_parts : F_law = sSeq lwS0 (sSeq lwS1 (sSeq lwS2 (sSeq lwS3 (sSeq lwS4 (sSeq lwS5 (sSeq lwS6 (sSeq lwS7 (sSeq lwS8 (sSeq lwS9 (sSeq lwS10 (sSeq lwS11 (sSeq lwS12 (sSeq lwS13 lwS14))))))))))))) := rfl
end Sl
end S_Sr1
noncomputable section S_Sr2
set_option Elab.async false
set_option linter.all false
set_option maxRecDepth 100000
set_option maxHeartbeats 1000000
/-! law's loops, for a chart and another of its class. -/
namespace Sl
open PySem PySem.Spec PyProof.Rows L2
open Classical

/-! ### _law_alike -/
theorem alike_bl (b : Bool) : g__law_alike2 [.bl b, .bl b] = .ret (.bl true) := by
  cases b
  · exact isRet_eq (by decide +kernel)
  · exact isRet_eq (by decide +kernel)
theorem alike1_int (i : Int) : g__law_alike1 [.int i, .int i] = .ret (.bl true) := by
  have e1 : kIs (.int i) .non = some false := rfl
  have e2 : kIsSeq (.int i) = some false := rfl
  have e3 : kIsStr (.int i) = some false := rfl
  have e4 : kIsInt (.int i) = some true := rfl
  have e5 : kIsBool (.int i) = some false := rfl
  have e6 : kEq (.bl false) (.bl false) = some true := rfl
  show (F__law_alike g__law_alike0 [some (.int i), some (.int i), none]).bind endO = _
  simp [sSeq, sPar, eCall, lCons, lNil, eVar, bind_retP, kFn, eTup, Sl.e2, kAddF, eC, seqO_nx, seqO_rt, sIf, bOr, bCmp, mO, sPut, lStar, itemsOf, putD, imm, imm.immAll, oNone, oSome, eCut, sNx, eImm, chk, sSet, sDrop, sRet, bNot, bTru, tru, eCmp, eIsi, eAnd, eOr, eNot, onBl, le2, le4, F__law_alike, e1, e2, e3, e4, e5, e6, eq_int, endO]
theorem lcGo_none {gv : Gv} {ft : EvB} {fe : Ev} {ρ : Rho} : ∀ {l : List D}, (∀ x ∈ l, ∃ ρ1, gv x ρ = .ret ρ1 ∧ ft ρ1 = .ret false) → lcGo gv ft fe l ρ = .ret []
  | [], _ => rfl
  | x :: l, h => by
    obtain ⟨ρ1, e1, e2⟩ := h x (List.mem_cons_self ..)
    have e4 := lcGo_none (fe := fe) (l := l) fun y hy => h y (List.mem_cons_of_mem _ hy)
    show (gv x ρ).bind _ = _
    simp [sSeq, sPar, eCall, lCons, lNil, eVar, bind_retP, kFn, eTup, Sl.e2, kAddF, eC, seqO_nx, seqO_rt, sIf, bOr, bCmp, mO, sPut, lStar, itemsOf, putD, imm, imm.immAll, oNone, oSome, eCut, sNx, eImm, chk, sSet, sDrop, sRet, bNot, bTru, tru, eCmp, eIsi, eAnd, eOr, eNot, onBl, le2, le4, e1, e2, e4]
theorem rangeD_len (n : Nat) : (rangeD (n : Int)).length = n := by simp [sSeq, sPar, eCall, lCons, lNil, eVar, bind_retP, kFn, eTup, Sl.e2, kAddF, eC, seqO_nx, seqO_rt, sIf, bOr, bCmp, mO, sPut, lStar, itemsOf, putD, imm, imm.immAll, oNone, oSome, eCut, sNx, eImm, chk, sSet, sDrop, sRet, bNot, bTru, tru, eCmp, eIsi, eAnd, eOr, eNot, onBl, le2, le4, rangeD]
theorem kIx_ints {l : List Int} {k : Nat} (h : k < l.length) : kIx (.tup (l.map D.int)) (.int (k : Int)) = .ret (.int (l.getD k 0)) := by
  have hk' : k < (l.map D.int).length := by rw [List.length_map]; exact h
  show mO (atI (l.map D.int) (k : Int)) M.ret = _
  have e : atI (l.map D.int) (k : Int) = some (.int (l.getD k 0)) := by
    unfold atI ixN
    rw [if_pos (by omega), if_pos (by omega)]
    show (l.map D.int)[Int.toNat (k : Int)]? = _
    rw [Int.toNat_natCast, List.getElem?_map, List.getElem?_eq_getElem h, List.getD_eq_getElem?_getD, List.getElem?_eq_getElem h]
    rfl
  rw [e]
  rfl
theorem mem_range {n : Nat} {x : D} (h : x ∈ rangeD (n : Int)) : ∃ k : Nat, x = .int k ∧ k < n := by
  unfold rangeD at h
  obtain ⟨k, hk, e⟩ := List.mem_map.mp h
  rw [Int.toNat_natCast, List.mem_range] at hk
  exact ⟨k, e.symm, hk⟩
theorem lRange_int {g : EvL} {ρ : Rho} {n : Int} (h : g ρ = .ret [.int n]) (hn : -(2 ^ 62) ≤ n ∧ n < 2 ^ 62) : lRange g ρ = .ret (rangeD n) := by
  unfold lRange
  rw [h]
  simp only [bind_ret]
  rw [if_pos hn]
theorem lRange_run {g : EvL} {ρ : Rho} {n : Nat} (h : g ρ = .ret [.int (n : Int)]) (hn : n < 1000) : lRange g ρ = .ret (rangeD n) := lRange_int h ⟨by omega, by omega⟩
theorem alike_tup (l : List Int) (hl : l.length < 1000) : g__law_alike2 [.tup (l.map D.int), .tup (l.map D.int)] = .ret (.bl true) := by
  have e1 : kIsSeq (.tup (l.map D.int)) = some true := rfl
  have e2 : kIsLst (.tup (l.map D.int)) = some false := rfl
  have e3 : kNe (.bl false) (.bl false) = some false := rfl
  have e4 : kLen [.tup (l.map D.int)] = .ret (.int l.length) := by simp [sSeq, sPar, eCall, lCons, lNil, eVar, bind_retP, kFn, eTup, Sl.e2, kAddF, eC, seqO_nx, seqO_rt, sIf, bOr, bCmp, mO, sPut, lStar, itemsOf, putD, imm, imm.immAll, oNone, oSome, eCut, sNx, eImm, chk, sSet, sDrop, sRet, bNot, bTru, tru, eCmp, eIsi, eAnd, eOr, eNot, onBl, le2, le4, kLen]
  have e5 : lcGo (gVar 2) (bNot (bTru (eCall (kFn 2 g__law_alike1) (lCons (eIx (eVar 0) (eVar 2)) (lCons (eIx (eVar 1) (eVar 2)) lNil))))) (eVar 2) (rangeD (l.length : Int)) [some (.tup (l.map D.int)), some (.tup (l.map D.int)), none] = .ret [] := by
    refine lcGo_none fun x hx => ?_
    obtain ⟨k, rfl, hk⟩ := mem_range hx
    refine ⟨_, rfl, ?_⟩
    have e6 := kIx_ints hk
    simp [sSeq, sPar, eCall, lCons, lNil, eVar, bind_retP, kFn, eTup, Sl.e2, kAddF, eC, seqO_nx, seqO_rt, sIf, bOr, bCmp, mO, sPut, lStar, itemsOf, putD, imm, imm.immAll, oNone, oSome, eCut, sNx, eImm, chk, sSet, sDrop, sRet, bNot, bTru, tru, eCmp, eIsi, eAnd, eOr, eNot, onBl, le2, le4, e6, alike1_int]
  have e7 : (rangeD (l.length : Int)).length ≤ sizeLine := by rw [rangeD_len]; exact Nat.le_of_lt (small_le hl)
  have e8 : kEq (.lst []) (.lst []) = some true := rfl
  have e9 : (eLc [2] (lRange (lCons (eCall kLen (lCons (eVar 1) lNil)) lNil)) (gVar 2) (bNot (bTru (eCall (kFn 2 g__law_alike1) (lCons (eIx (eVar 0) (eVar 2)) (lCons (eIx (eVar 1) (eVar 2)) lNil))))) (eVar 2)) [some (.tup (l.map D.int)), some (.tup (l.map D.int)), none] = .ret (.lst []) := by
    unfold eLc
    rw [lRange_run (n := l.length) (by simp [sSeq, sPar, eCall, lCons, lNil, eVar, bind_retP, kFn, eTup, Sl.e2, kAddF, eC, seqO_nx, seqO_rt, sIf, bOr, bCmp, mO, sPut, lStar, itemsOf, putD, imm, imm.immAll, oNone, oSome, eCut, sNx, eImm, chk, sSet, sDrop, sRet, bNot, bTru, tru, eCmp, eIsi, eAnd, eOr, eNot, onBl, le2, le4, e4]) hl]
    show (if (rangeD (l.length : Int)).length ≤ sizeLine then (lcGo _ _ _ _ [some (.tup (l.map D.int)), some (.tup (l.map D.int)), none]).bind _ else _) = _
    rw [if_pos e7, e5]
    rfl
  obtain ⟨N, e4⟩ : ∃ N : Int, kLen [.tup (l.map D.int)] = .ret (.int N) := ⟨_, e4⟩
  show (F__law_alike g__law_alike1 [some (.tup (l.map D.int)), some (.tup (l.map D.int)), none]).bind endO = _
  simp only [F__law_alike, sSeq, sIf, bTru, bNot, bOr, bCmp, eIsi, eVar, List.getElem?_cons_zero, List.getElem?_cons_succ, bind_ret, e1, e2, e3, mO, tru, if_true, seqO, sNx, Bool.not_true, if_false, Bool.false_eq_true, reduceIte]
  simp only [eCall, lCons, lNil, eVar, List.getElem?_cons_zero, List.getElem?_cons_succ, bind_ret, e4, ne_int, decide_true, Bool.not_true]
  simp only [Bool.false_eq_true, if_false, bind_retP, seqO_nx]
  simp only [sRet, eCmp]
  rw [e9]
  simp only [eLst, lNil, bind_retP, List.length_nil, Nat.zero_le, if_true, e8, mO, seqO_rt, endO]

abbrev R22 (a l n o5 c0 P d q fo ev o12 p ws ss o16 o17 o18 o19 o20 o21 : Option D) : Rho := [none, some .row, a, l, n, o5, c0, P, d, q, fo, ev, o12, p, ws, ss, o16, o17, o18, o19, o20, o21]
section
variable {C : Cl} (ok : C.Ok) {pr : List Int} (po : PrOk C pr) {c0 d : D} (h0 : c0 ∈ C.Ul) (hd : d ∈ C.Ul) {f : List (D × D)} (hf : g_least_rows [c0, prD pr] = .ret (.dct f)) {p m : Int} {h t : D} (e : dGet f d = some (v4 p m h t))
variable {a l n o5 q fo ev o12 wv ss o16 o17 o18 o19 o20 o21 : Option D}
include ok po h0 hd hf e
/-- one value of the nine: the checker says what is due -/
inductive ValOk (C : Cl) (p : Int) : D → Prop
  | tup {r : Int} {ws : List D} : (∀ t ∈ ws, TkLike C t) → ws.length ≤ 2000 → ValOk C p (.tup [.int r, .tup ws])
  | tupl {ws : List D} : ValOk C p (.tup [.int p, .lst ws])
  | lst {ws : List D} : ValOk C p (.lst ws)
  | non : ValOk C p .non
  | int (i : Int) : ValOk C p (.int i)
theorem value_run {x : D} (hx : ValOk C p x) : ∃ o17', lwVB (R22 a l n o5 (some c0) (some (prD pr)) (some d) q fo ev o12 (some (.int p)) wv ss (some x) o17 o18 o19 o20 o21) =
    .ret (.nx (R22 a l n o5 (some c0) (some (prD pr)) (some d) q fo ev o12 (some (.int p)) wv ss (some x) o17' o18 o19 o20 o21)) := by
  have l0 : ∀ {ws : List D}, kIsTup (.lst ws) = some false := rfl
  cases hx with
  | @tup r ws hw hl =>
    have s := shows_tup (q := r) ok po h0 hd hf e hw hl
    have e5 : kLen [.tup [.int r, .tup ws]] = .ret (.int 2) := rfl
    have e8 := law_price_run ok po h0 hw
    have e9 := eq_priced ok hd (p := p) (o := walkP C (wOf pr) c0 0 ws) fun p' c' q => walkP_in ok h0 q
    by_cases hr : r = p
    · subst hr
      refine ⟨some (.bl (decide (walkP C (wOf pr) c0 0 ws = some (r, d)))), ?_⟩
      rw [decide_eq_true rfl, Bool.true_and] at s
      simp only [lwVB, sSeq, sSet, sIf, bNot, bTru, eCall, lCons, lNil, eVar, List.getElem?_cons_zero, List.getElem?_cons_succ, bind_ret, kFn, eAnd, eIsi]
      simp [sSeq, sPar, eCall, lCons, lNil, eVar, bind_retP, kFn, eTup, Sl.e2, kAddF, eC, seqO_nx, seqO_rt, sIf, bOr, bCmp, mO, sPut, lStar, itemsOf, putD, imm, imm.immAll, oNone, oSome, eCut, sNx, eImm, chk, sSet, sDrop, sRet, bNot, bTru, tru, eCmp, eIsi, eAnd, eOr, eNot, onBl, le2, le4, e5, e8, e9, s, is_tup, ix0, ix1, eq_int, alike_bl]
    · refine ⟨some (.bl false), ?_⟩
      rw [decide_eq_false hr, Bool.false_and] at s
      simp [sSeq, sPar, eCall, lCons, lNil, eVar, bind_retP, kFn, eTup, Sl.e2, kAddF, eC, seqO_nx, seqO_rt, sIf, bOr, bCmp, mO, sPut, lStar, itemsOf, putD, imm, imm.immAll, oNone, oSome, eCut, sNx, eImm, chk, sSet, sDrop, sRet, bNot, bTru, tru, eCmp, eIsi, eAnd, eOr, eNot, onBl, le2, le4, lwVB, e5, e8, e9, s, is_tup, ix0, ix1, eq_int, alike_bl, hr]
  | @tupl ws =>
    have s := shows_lst (q := p) (ws := ws) ok po h0 hd hf e
    have e5 : kLen [.tup [.int p, .lst ws]] = .ret (.int 2) := rfl
    refine ⟨some (.bl false), ?_⟩
    simp [sSeq, sPar, eCall, lCons, lNil, eVar, bind_retP, kFn, eTup, Sl.e2, kAddF, eC, seqO_nx, seqO_rt, sIf, bOr, bCmp, mO, sPut, lStar, itemsOf, putD, imm, imm.immAll, oNone, oSome, eCut, sNx, eImm, chk, sSet, sDrop, sRet, bNot, bTru, tru, eCmp, eIsi, eAnd, eOr, eNot, onBl, le2, le4, lwVB, e5, s, is_tup, ix0, ix1, eq_int, alike_bl, l0]
  | @lst ws =>
    have s := shows_notTup ok po h0 hd hf e (x := .lst ws) rfl rfl
    refine ⟨some (.bl false), ?_⟩
    simp [sSeq, sPar, eCall, lCons, lNil, eVar, bind_retP, kFn, eTup, Sl.e2, kAddF, eC, seqO_nx, seqO_rt, sIf, bOr, bCmp, mO, sPut, lStar, itemsOf, putD, imm, imm.immAll, oNone, oSome, eCut, sNx, eImm, chk, sSet, sDrop, sRet, bNot, bTru, tru, eCmp, eIsi, eAnd, eOr, eNot, onBl, le2, le4, lwVB, s, alike_bl, l0]
  | non =>
    have s := shows_none ok po h0 hd
    have l1 : kIsTup .non = some false := rfl
    refine ⟨some (.bl false), ?_⟩
    simp [sSeq, sPar, eCall, lCons, lNil, eVar, bind_retP, kFn, eTup, Sl.e2, kAddF, eC, seqO_nx, seqO_rt, sIf, bOr, bCmp, mO, sPut, lStar, itemsOf, putD, imm, imm.immAll, oNone, oSome, eCut, sNx, eImm, chk, sSet, sDrop, sRet, bNot, bTru, tru, eCmp, eIsi, eAnd, eOr, eNot, onBl, le2, le4, lwVB, s, alike_bl, l1]
  | int i =>
    have s := shows_notTup ok po h0 hd hf e (x := .int i) rfl rfl
    have l1 : kIsTup (.int i) = some false := rfl
    refine ⟨some (.bl false), ?_⟩
    simp [sSeq, sPar, eCall, lCons, lNil, eVar, bind_retP, kFn, eTup, Sl.e2, kAddF, eC, seqO_nx, seqO_rt, sIf, bOr, bCmp, mO, sPut, lStar, itemsOf, putD, imm, imm.immAll, oNone, oSome, eCut, sNx, eImm, chk, sSet, sDrop, sRet, bNot, bTru, tru, eCmp, eIsi, eAnd, eOr, eNot, onBl, le2, le4, lwVB, s, alike_bl, l1]
end
end Sl
end S_Sr2
noncomputable section S_Sr3
set_option Elab.async false
set_option linter.all false
set_option maxRecDepth 100000
set_option maxHeartbeats 1000000
/-! law, up to the word it checks. -/
namespace Sl
open PySem PySem.Spec PyProof.Rows L2
open Classical
theorem sSeq_nx {A B : Sv} {ρ ρ' : Rho} (h : A ρ = .ret (.nx ρ')) : sSeq A B ρ = B ρ' := by
  unfold sSeq
  rw [h]
  rfl
theorem sSeq_rt {A B : Sv} {ρ : Rho} {d : D} (h : A ρ = .ret (.rt d)) : sSeq A B ρ = .ret (.rt d) := by
  unfold sSeq
  rw [h]
  rfl
theorem sSeq_all {A B : Sv} {ρ : Rho} {P : Out → Prop} (h : (A ρ).All fun o => ∃ ρ', o = .nx ρ' ∧ (B ρ').All P) : (sSeq A B ρ).All P := by
  refine M.All.bind' (h.mono fun o ho => ?_)
  obtain ⟨ρ', rfl, x⟩ := ho
  exact x
section
variable {C : Cl} (ok : C.Ok) {pr : List Int} (po : PrOk C pr) {c0 d : D} (h0 : c0 ∈ C.Ul)
variable {a l n o5 fo o12 wv sv o16 o17 o18 o19 o20 o21 o9 o10 o11 o13 o14 o15 : Option D}
/-- the maps in order -/
noncomputable abbrev evs (q : List (D × D)) : List D := srt (keysOf q)
noncomputable abbrev papV (f q : List (D × D)) : List Int := (evs q).map (lp f)
include ok po h0
theorem evs_iff {f q : List (D × D)} (b : Both C (ok.gf po h0) f q) (v : D) : v ∈ evs q ↔ v ∈ C.Ul := (mem_srt ok).trans (keysL ok po h0 b v)
theorem evs_same {f q : List (D × D)} (b : Both C (ok.gf po h0) f q) : srt (keysOf f) = evs q := srt_keys ok b.lr.nd (keysR ok po h0 b) b.lq.nd (keysL ok po h0 b)
theorem evs_len {f q : List (D × D)} (b : Both C (ok.gf po h0) f q) : (evs q).length ≤ 30 ∧ 1 ≤ (evs q).length := by
  have e : (evs q).length = (keysOf q).length := by unfold evs srt; rw [List.length_mergeSort]
  rw [e]
  have h1 := b.lq.nd.length_le_of_subset (l₂ := C.Ul) b.lq.sub
  have := ok.few
  have h2 := (keysL ok po h0 b c0).mpr h0
  have := List.length_pos_of_mem h2
  omega
theorem papD {f q : List (D × D)} : (papV f q).map D.int = (evs q).map fun v => D.int (lp f v) := by
  unfold papV
  rw [List.map_map]
  rfl
theorem immInts : ∀ l : List Int, imm.immAll (l.map D.int) = true
  | [] => rfl
  | _ :: l => immInts l
theorem paper_lc {f q : List (D × D)} (b : Both C (ok.gf po h0) f q) : (eLc [12] (lVar 11) (gVar 12) bYes (eIx (eVar 9) (eVar 12))) (R22 a l n o5 (some c0) (some (prD pr)) (some d) (some (.dct q)) fo (some (.lst (evs q))) o12 o13 o14 o15 o16 o17 o18 o19 o20 o21) = .ret (.lst ((papV f q).map D.int)) := by
  have hl : (evs q).length ≤ sizeLine := by have := (evs_len ok po h0 b).1; rw [sizeLine_eq]; omega
  have e2 : lcGo (gVar 12) bYes (eIx (eVar 9) (eVar 12)) (evs q) (R22 a l n o5 (some c0) (some (prD pr)) (some d) (some (.dct q)) fo (some (.lst (evs q))) none o13 o14 o15 o16 o17 o18 o19 o20 o21) = .ret ((evs q).map fun x => .int (lp f x)) := by
    refine lcGo_ints ok fun x hx => ⟨_, rfl, rfl, ?_⟩
    have hu := (evs_iff ok po h0 b x).mp hx
    obtain ⟨p, m, h, t, e1, e3, e4⟩ := both_get ok po h0 b hu
    have e5 : lp f x = p := by unfold lp; rw [e4]
    simp [sSeq, sPar, eCall, lCons, lNil, eVar, bind_retP, kFn, eTup, Sl.e2, kAddF, eC, seqO_nx, seqO_rt, sIf, bOr, bCmp, mO, sPut, lStar, itemsOf, putD, imm, imm.immAll, oNone, oSome, eCut, sNx, eImm, chk, sSet, sDrop, sRet, bNot, bTru, tru, eCmp, eIsi, eAnd, eOr, eNot, onBl, le2, le4, kIx_dct (ok.isT hu) (ok.kOk hu) e3, e5]
  rw [papD ok po h0]
  show (if (evs q).length ≤ sizeLine then (lcGo (gVar 12) bYes (eIx (eVar 9) (eVar 12)) (evs q) (R22 a l n o5 (some c0) (some (prD pr)) (some d) (some (.dct q)) fo (some (.lst (evs q))) none o13 o14 o15 o16 o17 o18 o19 o20 o21)).bind _ else _) = _
  rw [if_pos hl, e2]
  rfl
theorem paper_tup {f q : List (D × D)} (b : Both C (ok.gf po h0) f q) : (eCall kTuple (lCons (eLc [12] (lVar 11) (gVar 12) bYes (eIx (eVar 9) (eVar 12))) lNil)) (R22 a l n o5 (some c0) (some (prD pr)) (some d) (some (.dct q)) fo (some (.lst (evs q))) o12 o13 o14 o15 o16 o17 o18 o19 o20 o21) = .ret (.tup ((papV f q).map D.int)) := by
  unfold eCall lCons lNil
  rw [paper_lc ok po h0 b]
  simp only [bind_retP, kTuple, immInts ok po h0, if_true]
theorem s3_run {f q : List (D × D)} (hq : g__law_least [c0, prD pr] = .ret (.dct q)) {x : D} (hx : g_cheap_row [c0, d, prD pr] = .ret x) :
    lwS3 (R22 a l n o5 (some c0) (some (prD pr)) (some d) o9 o10 o11 o12 o13 o14 o15 o16 o17 o18 o19 o20 o21) = .ret (.nx (R22 a l n o5 (some c0) (some (prD pr)) (some d) (some (.dct q)) (some x) o11 o12 o13 o14 o15 o16 o17 o18 o19 o20 o21)) := by
  simp [sSeq, sPar, eCall, lCons, lNil, eVar, bind_retP, kFn, eTup, Sl.e2, kAddF, eC, seqO_nx, seqO_rt, sIf, bOr, bCmp, mO, sPut, lStar, itemsOf, putD, imm, imm.immAll, oNone, oSome, eCut, sNx, eImm, chk, sSet, sDrop, sRet, bNot, bTru, tru, eCmp, eIsi, eAnd, eOr, eNot, onBl, le2, le4, lwS3, sTgt0, hq, hx, gTup2]
theorem s4_run {f q : List (D × D)} (b : Both C (ok.gf po h0) f q) :
    lwS4 (R22 a l n o5 (some c0) (some (prD pr)) (some d) (some (.dct q)) fo o11 o12 o13 o14 o15 o16 o17 o18 o19 o20 o21) = .ret (.nx (R22 a l n o5 (some c0) (some (prD pr)) (some d) (some (.dct q)) fo (some (.lst (evs q))) o12 o13 o14 o15 o16 o17 o18 o19 o20 o21)) := by
  have e1 : kListA [.dct q] = .ret (.lst (keysOf q)) := rfl
  have e2 := sorted_lst ok (l := keysOf q) b.lq.sub
  simp [sSeq, sPar, eCall, lCons, lNil, eVar, bind_retP, kFn, eTup, Sl.e2, kAddF, eC, seqO_nx, seqO_rt, sIf, bOr, bCmp, mO, sPut, lStar, itemsOf, putD, imm, imm.immAll, oNone, oSome, eCut, sNx, eImm, chk, sSet, sDrop, sRet, bNot, bTru, tru, eCmp, eIsi, eAnd, eOr, eNot, onBl, le2, le4, lwS4, e1, e2]
theorem s5_run {f q : List (D × D)} (b : Both C (ok.gf po h0) f q) (hf : g_least_rows [c0, prD pr] = .ret (.dct f)) {x : D} {z : Bool} (h1 : kIs x .non = some z) (h2 : kNotIn d (.dct q) = some z) :
    lwS5 (R22 a l n o5 (some c0) (some (prD pr)) (some d) (some (.dct q)) (some x) (some (.lst (evs q))) o12 o13 o14 o15 o16 o17 o18 o19 o20 o21) = .ret (.nx (R22 a l n o5 (some c0) (some (prD pr)) (some d) (some (.dct q)) (some x) (some (.lst (evs q))) o12 o13 o14 o15 o16 o17 o18 o19 o20 o21)) := by
  have e1 := cheapest_run ok po h0 hf b.lr
  rw [evs_same ok po h0 b, ← papD ok po h0] at e1
  have e2 := alike_tup (papV f q) (by rw [List.length_map]; have := (evs_len ok po h0 b).1; omega)
  have e3 := paper_tup (a := a) (l := l) (n := n) (o5 := o5) (d := d) (fo := some x) (o12 := o12) (o13 := o13) (o14 := o14) (o15 := o15) (o16 := o16) (o17 := o17) (o18 := o18) (o19 := o19) (o20 := o20) (o21 := o21) ok po h0 b
  have e4 : kNe (.bl z) (.bl z) = some false := by cases z <;> rfl
  unfold lwS5 sIf bOr bNot bTru
  have e5 : (eCall (kFn 2 g__law_alike2) (lCons (eCall (kFn 2 g_cheapest_from) (lCons (eVar 6) (lCons (eVar 7) lNil))) (lCons (eCall kTuple (lCons (eLc [12] (lVar 11) (gVar 12) bYes (eIx (eVar 9) (eVar 12))) lNil)) lNil))) (R22 a l n o5 (some c0) (some (prD pr)) (some d) (some (.dct q)) (some x) (some (.lst (evs q))) o12 o13 o14 o15 o16 o17 o18 o19 o20 o21) = .ret (.bl true) := by
    generalize hT : (eCall kTuple (lCons (eLc [12] (lVar 11) (gVar 12) bYes (eIx (eVar 9) (eVar 12))) lNil)) = T at e3 ⊢
    generalize papV f q = L at e1 e2 e3
    simp [sSeq, sPar, eCall, lCons, lNil, eVar, bind_retP, kFn, eTup, Sl.e2, kAddF, eC, seqO_nx, seqO_rt, sIf, bOr, bCmp, mO, sPut, lStar, itemsOf, putD, imm, imm.immAll, oNone, oSome, eCut, sNx, eImm, chk, sSet, sDrop, sRet, bNot, bTru, tru, eCmp, eIsi, eAnd, eOr, eNot, onBl, le2, le4, e1, e3, e2]
  rw [e5]
  simp [sSeq, sPar, eCall, lCons, lNil, eVar, bind_retP, kFn, eTup, Sl.e2, kAddF, eC, seqO_nx, seqO_rt, sIf, bOr, bCmp, mO, sPut, lStar, itemsOf, putD, imm, imm.immAll, oNone, oSome, eCut, sNx, eImm, chk, sSet, sDrop, sRet, bNot, bTru, tru, eCmp, eIsi, eAnd, eOr, eNot, onBl, le2, le4, h1, h2, e4]
theorem isTupNon (xs : List D) : kIs (.tup xs) .non = some false := rfl
theorem s6_same {xs : List D} : lwS6 (R22 a l n o5 (some c0) (some (prD pr)) (some d) o9 (some (.tup xs)) o11 o12 o13 o14 o15 o16 o17 o18 o19 o20 o21) = .ret (.nx (R22 a l n o5 (some c0) (some (prD pr)) (some d) o9 (some (.tup xs)) o11 o12 o13 o14 o15 o16 o17 o18 o19 o20 o21)) := by
  have e1 : kIs (.tup xs) .non = some false := rfl
  simp [sSeq, sPar, eCall, lCons, lNil, eVar, bind_retP, kFn, eTup, Sl.e2, kAddF, eC, seqO_nx, seqO_rt, sIf, bOr, bCmp, mO, sPut, lStar, itemsOf, putD, imm, imm.immAll, oNone, oSome, eCut, sNx, eImm, chk, sSet, sDrop, sRet, bNot, bTru, tru, eCmp, eIsi, eAnd, eOr, eNot, onBl, le2, le4, lwS6, e1]
theorem s6_other {C' : Cl} (ok' : C'.Ok) (kin : Kin C C') (hk : kNe C.ky C'.ky = some true) (hd : d ∈ C'.Ul) : lwS6 (R22 a l n o5 (some c0) (some (prD pr)) (some d) o9 (some .non) o11 o12 o13 o14 o15 o16 o17 o18 o19 o20 o21) = .ret (.rt (.bl true)) := by
  have e1 : kIs .non .non = some true := rfl
  have s1 := shows_other ok ok' kin po hk h0 hd (x := .non) (b := true) rfl
  have s2 := shows_other ok ok' kin po hk h0 hd (x := .tup [.int 0, .tup []]) (b := false) rfl
  have e2 : kIs (.bl true) (.bl true) = some true := rfl
  have e3 : kIs (.bl false) (.bl false) = some true := rfl
  have z0 : (0 : Nat) ≤ sizeLine := Nat.zero_le _
  simp [sSeq, sPar, eCall, lCons, lNil, eVar, bind_retP, kFn, eTup, Sl.e2, kAddF, eC, seqO_nx, seqO_rt, sIf, bOr, bCmp, mO, sPut, lStar, itemsOf, putD, imm, imm.immAll, oNone, oSome, eCut, sNx, eImm, chk, sSet, sDrop, sRet, bNot, bTru, tru, eCmp, eIsi, eAnd, eOr, eNot, onBl, le2, le4, lwS6, e1, s1, s2, e2, e3]
theorem s7_run {p : Int} {ws : List D} (hi : imm.immAll ws = true) : lwS7 (R22 a l n o5 (some c0) (some (prD pr)) (some d) o9 (some (.tup [.int p, .tup ws])) o11 o12 o13 o14 o15 o16 o17 o18 o19 o20 o21) = .ret (.nx (R22 a l n o5 (some c0) (some (prD pr)) (some d) o9 (some (.tup [.int p, .tup ws])) o11 o12 (some (.int p)) (some (.tup ws)) o15 o16 o17 o18 o19 o20 o21)) := by
  simp [sSeq, sPar, eCall, lCons, lNil, eVar, bind_retP, kFn, eTup, Sl.e2, kAddF, eC, seqO_nx, seqO_rt, sIf, bOr, bCmp, mO, sPut, lStar, itemsOf, putD, imm, imm.immAll, oNone, oSome, eCut, sNx, eImm, chk, sSet, sDrop, sRet, bNot, bTru, tru, eCmp, eIsi, eAnd, eOr, eNot, onBl, le2, le4, lwS7, sTgt0, gTup2, hi]
theorem Pth.like {ws : List D} {v : D} {p : Int} (x : Pth C (wOf pr) c0 ws v p) : ∀ t ∈ ws, TkLike C t := by
  induction x with
  | z => exact fun _ h => nomatch h
  | s x hh ht ih =>
    intro u hu
    rcases List.mem_append.mp hu with hu | hu
    · exact ih u hu
    · rw [List.mem_singleton.mp hu]
      obtain ⟨k, y, e, _, hy⟩ := ok.tk _ hh _ ht
      exact ⟨k, y, e, hy⟩
theorem s8_run (hd : d ∈ C.Ul) {q : List (D × D)} {p : Int} (hg : dGet q d = some (.int p)) {ws : List D} (hl : ws.length ≤ 30) (x : Pth C (wOf pr) c0 ws d p) :
    lwS8 (R22 a l n o5 (some c0) (some (prD pr)) (some d) (some (.dct q)) fo o11 o12 (some (.int p)) (some (.tup ws)) o15 o16 o17 o18 o19 o20 o21) = .ret (.nx (R22 a l n o5 (some c0) (some (prD pr)) (some d) (some (.dct q)) fo o11 o12 (some (.int p)) (some (.tup ws)) o15 o16 o17 o18 o19 o20 o21)) := by
  have e1 := law_price_run ok po h0 (x.like ok po h0)
  rw [x.walk] at e1
  have e2 : kNe (priced (some (p, d))) (.tup [.int p, d]) = some false := by
    have e := eq_priced ok hd (p := p) (o := some (p, d)) fun p' c' z => by cases z; exact hd
    rw [decide_eq_true rfl] at e
    unfold kEq at e
    unfold kNe
    split at e
    · rename_i hh
      rw [if_pos hh]
      injection e with e
      rw [e]
      rfl
    · cases e
  have e3 : kLen [.tup ws] = .ret (.int ws.length) := rfl
  have e4 : kGt (.int ws.length) (.int 2000) = some false := by
    show some (decide _) = _
    rw [decide_eq_false (by omega)]
  obtain ⟨N, e3, e4⟩ : ∃ N : Int, kLen [.tup ws] = .ret (.int N) ∧ kGt (.int N) (.int 2000) = some false := ⟨_, e3, e4⟩
  simp [sSeq, sPar, eCall, lCons, lNil, eVar, bind_retP, kFn, eTup, Sl.e2, kAddF, eC, seqO_nx, seqO_rt, sIf, bOr, bCmp, mO, sPut, lStar, itemsOf, putD, imm, imm.immAll, oNone, oSome, eCut, sNx, eImm, chk, sSet, sDrop, sRet, bNot, bTru, tru, eCmp, eIsi, eAnd, eOr, eNot, onBl, le2, le4, lwS8, kIx_dct (ok.isT hd) (ok.kOk hd) hg, ne_int, is_tup, e3, e4, e1, e2]
end
end Sl
end S_Sr3
noncomputable section S_Sr4
set_option Elab.async false
set_option linter.all false
set_option maxRecDepth 100000
set_option maxHeartbeats 1000000
/-! _law_walk; law's nine values. -/
namespace Sl
open PySem PySem.Spec PyProof.Rows L2
open Classical
theorem like_eqb : ∀ {l : List D}, (∀ t ∈ l, ∃ k x : Nat, t = .tup [.int k, .int x]) → eqables 19 l = true
  | [], _ => rfl
  | a :: l, h => by
    obtain ⟨k, x, rfl⟩ := h a (List.mem_cons_self ..)
    show (eqable 19 _ && eqables 19 l) = true
    rw [like_eqb fun t ht => h t (List.mem_cons_of_mem _ ht)]
    rfl
theorem like_imm : ∀ {l : List D}, (∀ t ∈ l, ∃ k x : Nat, t = .tup [.int k, .int x]) → imm.immAll l = true
  | [], _ => rfl
  | a :: l, h => by
    have r := like_imm (l := l) fun t ht => h t (List.mem_cons_of_mem _ ht)
    obtain ⟨k, x, rfl⟩ := h a (List.mem_cons_self ..)
    exact r
theorem ne_nil {l : List D} (h : eqables 19 l = true) : kNe (.lst l) (.lst []) = some (!l.isEmpty) := by
  have h1 : eqable 20 (.lst l) = true := h
  have h2 : eqable 20 (.lst []) = true := rfl
  have h3 : PyData.eqv (toPy (.lst l)) (toPy (.lst [])) = l.isEmpty := by
    cases l with
    | nil => rfl
    | cons a l => rfl
  unfold kNe
  rw [h1, h2, h3]
  rfl
theorem atI_of {l : List D} {i : Nat} (h : i < l.length) : atI l (i : Int) = some l[i] := by
  unfold atI ixN
  rw [if_pos (by omega), if_pos (by omega)]
  show l[Int.toNat (i : Int)]? = _
  rw [Int.toNat_natCast, List.getElem?_eq_getElem h]
theorem atI_last {l : List D} {t : D} : atI (l ++ [t]) (-1) = some t := by
  unfold atI ixN
  rw [if_neg (by omega), if_pos (by rw [List.length_append, List.length_singleton]; omega)]
  show (l ++ [t])[Int.toNat (-1 + ((l ++ [t]).length : Int))]? = _
  have : Int.toNat (-1 + ((l ++ [t]).length : Int)) = l.length := by rw [List.length_append, List.length_singleton]; omega
  rw [this, List.getElem?_append_right (Nat.le_refl _), Nat.sub_self]
  rfl
theorem taken_all {n : Int} (h0 : 0 < n) (h1 : n < 1073741824) : (g__law_taken [.row, .int n]).All fun d => ∃ i : Nat, d = .int i ∧ (i : Int) < n := by
  show M.All _ (if 0 < n ∧ n < 1073741824 then M.draw n.toNat fun i => M.ret (D.int (i : Int)) else .fail)
  rw [if_pos ⟨h0, h1⟩]
  exact fun i hi => ⟨i, rfl, by omega⟩
theorem pick_all {l : List D} (h0 : l ≠ []) (h1 : l.length < 1000) (hi : imm.immAll l = true) : (g__law_pick [.row, .lst l]).All fun t => t ∈ l := by
  have hp : 0 < l.length := List.length_pos_iff.mpr h0
  have e1 : kLen [.lst l] = .ret (.int l.length) := rfl
  have im : ∀ {l : List D}, imm.immAll l = true → ∀ t ∈ l, imm t = true := by
    intro l
    induction l with
    | nil => exact fun _ _ h => nomatch h
    | cons a l ih =>
      intro h t ht
      have h' : (imm a && imm.immAll l) = true := h
      rw [Bool.and_eq_true] at h'
      rcases List.mem_cons.mp ht with rfl | ht
      · exact h'.1
      · exact ih h'.2 t ht
  obtain ⟨N, hN, e1⟩ : ∃ N : Int, N = l.length ∧ kLen [.lst l] = .ret (.int N) := ⟨_, rfl, e1⟩
  have tk := taken_all (n := N) (by omega) (by omega)
  have e2 : g__law_pick [.row, .lst l] = ((g__law_taken [.row, .int N]).bind fun i => (kIx (.lst l) i).bind chk).bind fun d => .ret d := by
    show (F__law_pick [some .row, some (.lst l)]).bind endO = _
    simp [sSeq, sPar, eCall, lCons, lNil, eVar, bind_retP, kFn, eTup, Sl.e2, kAddF, eC, seqO_nx, seqO_rt, sIf, bOr, bCmp, mO, sPut, lStar, itemsOf, putD, imm, imm.immAll, oNone, oSome, eCut, sNx, eImm, chk, sSet, sDrop, sRet, bNot, bTru, tru, eCmp, eIsi, eAnd, eOr, eNot, onBl, le2, le4, F__law_pick, e1, M.bind_assoc, endO]
  rw [e2]
  refine M.All.bind' (M.All.bind' (tk.mono fun d hd => ?_))
  obtain ⟨i, rfl, hi'⟩ := hd
  have hl : i < l.length := by omega
  show M.All _ ((mO (atI l (i : Int)) M.ret).bind chk)
  rw [atI_of hl]
  show M.All _ (if imm l[i] = true then M.ret l[i] else .fail)
  rw [if_pos (im hi _ (List.getElem_mem hl))]
  exact List.getElem_mem hl
def wkB : Sv := (sSeq (sSet 5 (eCall (kFn 1 g__law_takings) (lCons (eVar 1) lNil)))
 (sIf (bCmp kNe (eVar 5) (eLst lNil))
 (sSeq (sApp 3 (eCall (kFn 2 g__law_pick) (lCons (eVar 0) (lCons (eVar 5) lNil))))
 (sSet 1 (eCall (kFn 2 g__law_behind) (lCons (eVar 1) (lCons (eIx (eVar 3) (eC (.int (-1)))) lNil)))))
 sNx))
theorem F__law_walk_eq : F__law_walk = (sSeq (sSet 3 (eLst lNil)) (sSeq (sFor (gVar 4) (lRange (lCons (eVar 2) lNil)) wkB)
 (sRet (eTup (lCons (eCall kTuple (lCons (eVar 3) lNil)) (lCons (eImm (eVar 1)) lNil)))))) := rfl
section
variable {C : Cl} (ok : C.Ok)
include ok
theorem ts_like {c : D} (hc : c ∈ C.Ul) : ∀ t ∈ C.ts c, ∃ k x : Nat, t = .tup [.int k, .int x] := fun t ht => let ⟨k, x, e, _⟩ := ok.tk c hc t ht; ⟨k, x, e⟩
theorem ts_tk {c : D} (hc : c ∈ C.Ul) : ∀ t ∈ C.ts c, TkLike C t := fun t ht => let ⟨k, x, e, _, h⟩ := ok.tk c hc t ht; ⟨k, x, e, h⟩
theorem walk_step (o2 : Option D) (N : Nat) (d : D) (ds : List D) (ρ : Rho) (h : ∃ c ss o4 o5, ρ = [some .row, some c, o2, some (.lst ss), o4, o5] ∧ c ∈ C.Ul ∧ (∀ t ∈ ss, TkLike C t) ∧ ss.length + (d :: ds).length ≤ N) (hN : N < 1000) :
    (gVar 4 d ρ).All fun ρ1 => (wkB ρ1).All fun o => ∃ ρ2, o = .nx ρ2 ∧ ∃ c ss o4 o5, ρ2 = [some .row, some c, o2, some (.lst ss), o4, o5] ∧ c ∈ C.Ul ∧ (∀ t ∈ ss, TkLike C t) ∧ ss.length + ds.length ≤ N := by
  obtain ⟨c, ss, o4, o5, rfl, hc, hs, hl⟩ := h
  rw [List.length_cons] at hl
  have e1 := ne_nil (like_eqb (ts_like ok hc))
  show (wkB [some .row, some c, o2, some (.lst ss), some d, o5]).All _
  by_cases q : C.ts c = []
  · have e2 : wkB [some .row, some c, o2, some (.lst ss), some d, o5] = .ret (.nx [some .row, some c, o2, some (.lst ss), some d, some (.lst (C.ts c))]) := by
      rw [q] at e1
      simp [sSeq, sPar, eCall, lCons, lNil, eVar, bind_retP, kFn, eTup, Sl.e2, kAddF, eC, seqO_nx, seqO_rt, sIf, bOr, bCmp, mO, sPut, lStar, itemsOf, putD, imm, imm.immAll, oNone, oSome, eCut, sNx, eImm, chk, sSet, sDrop, sRet, bNot, bTru, tru, eCmp, eIsi, eAnd, eOr, eNot, onBl, le2, le4, wkB, ok.law c hc, q, eLst, e1]
    rw [e2]
    exact ⟨_, rfl, c, ss, some d, some (.lst (C.ts c)), rfl, hc, hs, by omega⟩
  · have e1' : kNe (.lst (C.ts c)) (.lst []) = some true := by
      rw [e1]
      cases z : C.ts c with
      | nil => exact absurd z q
      | cons a l => rfl
    have e2 : wkB [some .row, some c, o2, some (.lst ss), some d, o5] = (sSeq (sApp 3 (eCall (kFn 2 g__law_pick) (lCons (eVar 0) (lCons (eVar 5) lNil))))
        (sSet 1 (eCall (kFn 2 g__law_behind) (lCons (eVar 1) (lCons (eIx (eVar 3) (eC (.int (-1)))) lNil))))) [some .row, some c, o2, some (.lst ss), some d, some (.lst (C.ts c))] := by
      simp [sSeq, sPar, eCall, lCons, lNil, eVar, bind_retP, kFn, eTup, Sl.e2, kAddF, eC, seqO_nx, seqO_rt, sIf, bOr, bCmp, mO, sPut, lStar, itemsOf, putD, imm, imm.immAll, oNone, oSome, eCut, sNx, eImm, chk, sSet, sDrop, sRet, bNot, bTru, tru, eCmp, eIsi, eAnd, eOr, eNot, onBl, le2, le4, wkB, ok.law c hc, eLst, e1']
    rw [e2]
    refine sSeq_all ?_
    have e3 : (sApp 3 (eCall (kFn 2 g__law_pick) (lCons (eVar 0) (lCons (eVar 5) lNil)))) [some .row, some c, o2, some (.lst ss), some d, some (.lst (C.ts c))] = (g__law_pick [.row, .lst (C.ts c)]).bind (appD 3 [some .row, some c, o2, some (.lst ss), some d, some (.lst (C.ts c))] ss) := by
      simp [sSeq, sPar, eCall, lCons, lNil, eVar, bind_retP, kFn, eTup, Sl.e2, kAddF, eC, seqO_nx, seqO_rt, sIf, bOr, bCmp, mO, sPut, lStar, itemsOf, putD, imm, imm.immAll, oNone, oSome, eCut, sNx, eImm, chk, sSet, sDrop, sRet, bNot, bTru, tru, eCmp, eIsi, eAnd, eOr, eNot, onBl, le2, le4, sApp]
    rw [e3]
    refine M.All.bind' ((pick_all q (ok.tsLen c hc) (like_imm (ts_like ok hc))).mono fun t ht => ?_)
    have z1 : ss.length < sizeLine := small_le (by omega)
    unfold appD
    rw [if_pos ⟨ok.imt hc ht, z1⟩]
    refine ⟨_, rfl, ?_⟩
    have e4 : kIx (.lst (ss ++ [t])) (.int (-1)) = .ret t := by
      show mO (atI (ss ++ [t]) (-1)) M.ret = _
      rw [atI_last]
      rfl
    have e5 : (sSet 1 (eCall (kFn 2 g__law_behind) (lCons (eVar 1) (lCons (eIx (eVar 3) (eC (.int (-1)))) lNil)))) ([some .row, some c, o2, some (.lst ss), some d, some (.lst (C.ts c))].set 3 (some (.lst (ss ++ [t])))) = .ret (.nx [some .row, some (C.nx c t), o2, some (.lst (ss ++ [t])), some d, some (.lst (C.ts c))]) := by
      simp [sSeq, sPar, eCall, lCons, lNil, eVar, bind_retP, kFn, eTup, Sl.e2, kAddF, eC, seqO_nx, seqO_rt, sIf, bOr, bCmp, mO, sPut, lStar, itemsOf, putD, imm, imm.immAll, oNone, oSome, eCut, sNx, eImm, chk, sSet, sDrop, sRet, bNot, bTru, tru, eCmp, eIsi, eAnd, eOr, eNot, onBl, le2, le4, e4, ok.behind c hc t ht]
    rw [e5]
    refine ⟨_, rfl, C.nx c t, ss ++ [t], some d, some (.lst (C.ts c)), rfl, ok.nxIn c hc t ht, fun u hu => ?_, ?_⟩
    · rcases List.mem_append.mp hu with hu | hu
      · exact hs u hu
      · rw [List.mem_singleton.mp hu]; exact ts_tk ok hc t ht
    · rw [List.length_append, List.length_singleton]; omega
theorem walk_all {c : D} (hc : c ∈ C.Ul) {n : Int} (h0 : 0 ≤ n) (h1 : n < 1000) : (g__law_walk [.row, c, .int n]).All fun r => ∃ ss v, r = .tup [.tup ss, v] ∧ v ∈ C.Ul ∧ (∀ t ∈ ss, TkLike C t) ∧ ss.length ≤ 1000 := by
  have z0 : ([] : List D).length ≤ sizeLine := Nat.zero_le _
  have e1 : lRange (lCons (eVar 2) lNil) [some .row, some c, some (.int n), some (.lst []), none, none] = .ret (rangeD n) := lRange_int (by simp [sSeq, sPar, eCall, lCons, lNil, eVar, bind_retP, kFn, eTup, Sl.e2, kAddF, eC, seqO_nx, seqO_rt, sIf, bOr, bCmp, mO, sPut, lStar, itemsOf, putD, imm, imm.immAll, oNone, oSome, eCut, sNx, eImm, chk, sSet, sDrop, sRet, bNot, bTru, tru, eCmp, eIsi, eAnd, eOr, eNot, onBl, le2, le4]) ⟨by omega, by omega⟩
  show M.All _ ((F__law_walk [some .row, some c, some (.int n), none, none, none]).bind endO)
  rw [F__law_walk_eq]
  have e2 : (sSet 3 (eLst lNil)) [some .row, some c, some (.int n), none, none, none] = .ret (.nx [some .row, some c, some (.int n), some (.lst []), none, none]) := by
    simp [sSeq, sPar, eCall, lCons, lNil, eVar, bind_retP, kFn, eTup, Sl.e2, kAddF, eC, seqO_nx, seqO_rt, sIf, bOr, bCmp, mO, sPut, lStar, itemsOf, putD, imm, imm.immAll, oNone, oSome, eCut, sNx, eImm, chk, sSet, sDrop, sRet, bNot, bTru, tru, eCmp, eIsi, eAnd, eOr, eNot, onBl, le2, le4, eLst]
  rw [sSeq_nx e2]
  refine M.All.bind' (sSeq_all ?_)
  show M.All _ ((lRange (lCons (eVar 2) lNil) [some .row, some c, some (.int n), some (.lst []), none, none]).bind fun ds => loopF (gVar 4) wkB ds [some .row, some c, some (.int n), some (.lst []), none, none])
  rw [e1]
  have hlen : (rangeD n).length = n.toNat := by simp [sSeq, sPar, eCall, lCons, lNil, eVar, bind_retP, kFn, eTup, Sl.e2, kAddF, eC, seqO_nx, seqO_rt, sIf, bOr, bCmp, mO, sPut, lStar, itemsOf, putD, imm, imm.immAll, oNone, oSome, eCut, sNx, eImm, chk, sSet, sDrop, sRet, bNot, bTru, tru, eCmp, eIsi, eAnd, eOr, eNot, onBl, le2, le4, rangeD]
  refine loopF_all (fun ds ρ => ∃ c ss o4 o5, ρ = [some .row, some c, some (.int n), some (.lst ss), o4, o5] ∧ c ∈ C.Ul ∧ (∀ t ∈ ss, TkLike C t) ∧ ss.length + ds.length ≤ 999) (fun d ds ρ h => walk_step ok _ 999 d ds ρ h (by omega)) (fun ρ h => ?_) _ _ ⟨c, [], none, none, rfl, hc, (fun _ h => nomatch h), by rw [hlen]; show 0 + _ ≤ _; omega⟩
  obtain ⟨c', ss, o4, o5, rfl, hc', hs, hl⟩ := h
  refine ⟨_, rfl, ?_⟩
  have im : imm.immAll ss = true := like_imm fun t ht => let ⟨k, x, e, _⟩ := hs t ht; ⟨k, x, e⟩
  have e3 : (sRet (eTup (lCons (eCall kTuple (lCons (eVar 3) lNil)) (lCons (eImm (eVar 1)) lNil)))) [some .row, some c', some (.int n), some (.lst ss), o4, o5] = .ret (.rt (.tup [.tup ss, c'])) := by
    simp [sSeq, sPar, eCall, lCons, lNil, eVar, bind_retP, kFn, eTup, Sl.e2, kAddF, eC, seqO_nx, seqO_rt, sIf, bOr, bCmp, mO, sPut, lStar, itemsOf, putD, imm, imm.immAll, oNone, oSome, eCut, sNx, eImm, chk, sSet, sDrop, sRet, bNot, bTru, tru, eCmp, eIsi, eAnd, eOr, eNot, onBl, le2, le4, kTuple, im, ok.im hc']
  rw [e3]
  exact ⟨ss, c', rfl, hc', hs, by simp [sSeq, sPar, eCall, lCons, lNil, eVar, bind_retP, kFn, eTup, Sl.e2, kAddF, eC, seqO_nx, seqO_rt, sIf, bOr, bCmp, mO, sPut, lStar, itemsOf, putD, imm, imm.immAll, oNone, oSome, eCut, sNx, eImm, chk, sSet, sDrop, sRet, bNot, bTru, tru, eCmp, eIsi, eAnd, eOr, eNot, onBl, le2, le4] at hl; omega⟩
end
end Sl
end S_Sr4
noncomputable section S_Sr5
set_option Elab.async false
set_option linter.all false
set_option maxRecDepth 100000
set_option maxHeartbeats 1000000
/-! law's nine values, law's papers. -/
namespace Sl
open PySem PySem.Spec PyProof.Rows L2
open Classical
theorem loopF_varD {i : Nat} {F : Sv} {t : D} {ws : List D} {ρ : Rho} : loopF (gVar i) F (t :: ws) ρ = (F (ρ.set i (some t))).bind (loopO (loopF (gVar i) F ws)) := by rfl
theorem ints_of : ∀ {ds : List D}, (∀ x ∈ ds, ∃ i, x = D.int i) → ∃ vs : List Int, ds = vs.map D.int
  | [], _ => ⟨[], rfl⟩
  | d :: ds, h => by
    obtain ⟨i, rfl⟩ := h d (List.mem_cons_self ..)
    obtain ⟨vs, rfl⟩ := ints_of fun x hx => h x (List.mem_cons_of_mem _ hx)
    exact ⟨i :: vs, rfl⟩
theorem cut_mem {ds : List D} {lo hi : Option Int} {x : D} (h : x ∈ cutD ds lo hi) : x ∈ ds := List.mem_of_mem_drop (List.mem_of_mem_take h)
theorem cut_len (ds : List D) (lo hi : Option Int) : (cutD ds lo hi).length ≤ ds.length := by
  unfold cutD
  rw [List.length_take, List.length_drop]
  omega
theorem immI : ∀ l : List Int, imm.immAll (l.map D.int) = true
  | [] => rfl
  | _ :: l => immI l
/-- a value of the papers' list -/
inductive PapOk : D → Prop
  | tup (vs : List Int) : PapOk (.tup (vs.map D.int))
  | lst (ds : List D) : PapOk (.lst ds)
  | non : PapOk .non
theorem PapOk.ints {ds : List D} (h : ∀ x ∈ ds, ∃ i, x = D.int i) : PapOk (.tup ds) := by
  obtain ⟨vs, rfl⟩ := ints_of h
  exact .tup vs
theorem isInt_map {l : List Int} {x : D} (h : x ∈ l.map D.int) : ∃ i, x = D.int i := let ⟨i, _, e⟩ := List.mem_map.mp h; ⟨i, e.symm⟩
section
variable {C : Cl} (ok : C.Ok) {pr : List Int} (po : PrOk C pr) {c0 d : D} (h0 : c0 ∈ C.Ul) (hd : d ∈ C.Ul)
variable {a l n o5 fo o12 wv sv o16 o17 o18 o19 o20 o21 o9 o10 o11 o13 o14 o15 : Option D}
include ok
theorem s9_all {fo' : D} : (lwS9 (R22 a l n o5 (some c0) (some (prD pr)) (some d) o9 o10 o11 o12 o13 o14 o15 o16 o17 o18 o19 o20 o21)).All (fun o => ∃ ss, o = .nx (R22 a l n o5 (some c0) (some (prD pr)) (some d) o9 o10 o11 o12 o13 o14 (some (.tup ss)) o16 o17 o18 o19 o20 o21) ∧ (∀ t ∈ ss, TkLike C t) ∧ ss.length ≤ 1000) ∨ c0 ∉ C.Ul := by
  by_cases hc : c0 ∈ C.Ul
  · left
    have e : lwS9 (R22 a l n o5 (some c0) (some (prD pr)) (some d) o9 o10 o11 o12 o13 o14 o15 o16 o17 o18 o19 o20 o21) = (g__law_walk [.row, c0, .int 3]).bind fun r => (kIx r (.int 0)).bind fun x => .ret (.nx (R22 a l n o5 (some c0) (some (prD pr)) (some d) o9 o10 o11 o12 o13 o14 (some x) o16 o17 o18 o19 o20 o21)) := by
      simp [sSeq, sPar, eCall, lCons, lNil, eVar, bind_retP, kFn, eTup, Sl.e2, kAddF, eC, seqO_nx, seqO_rt, sIf, bOr, bCmp, mO, sPut, lStar, itemsOf, putD, imm, imm.immAll, oNone, oSome, eCut, sNx, eImm, chk, sSet, sDrop, sRet, bNot, bTru, tru, eCmp, eIsi, eAnd, eOr, eNot, onBl, le2, le4, lwS9, M.bind_assoc]
    rw [e]
    refine M.All.bind' ((walk_all ok hc (n := 3) (by decide) (by decide)).mono fun r hr => ?_)
    obtain ⟨ss, v, rfl, _, hs, hl⟩ := hr
    exact ⟨ss, rfl, hs, hl⟩
  · exact .inr hc
include po h0 hd
/-- the nine -/
theorem s10_run {f : List (D × D)} (hf : g_least_rows [c0, prD pr] = .ret (.dct f)) {p m : Int} {h t : D} (e : dGet f d = some (v4 p m h t)) {ws ss : List D} (hw : ∀ t ∈ ws, TkLike C t) (hwl : ws.length ≤ 30) (hs : ∀ t ∈ ss, TkLike C t) (hsl : ss.length ≤ 1000) :
    ∃ o16' o17', lwS10 (R22 a l (some (.int C.n)) o5 (some c0) (some (prD pr)) (some d) o9 (some (.tup [.int p, .tup ws])) o11 o12 (some (.int p)) (some (.tup ws)) (some (.tup ss)) o16 o17 o18 o19 o20 o21) =
      .ret (.nx (R22 a l (some (.int C.n)) o5 (some c0) (some (prD pr)) (some d) o9 (some (.tup [.int p, .tup ws])) o11 o12 (some (.int p)) (some (.tup ws)) (some (.tup ss)) o16' o17' o18 o19 o20 o21)) := by
  have iw : imm.immAll ws = true := like_imm fun t ht => let ⟨k, x, e, _⟩ := hw t ht; ⟨k, x, e⟩
  have is : imm.immAll ss = true := like_imm fun t ht => let ⟨k, x, e, _⟩ := hs t ht; ⟨k, x, e⟩
  have z9 : (9 : Nat) ≤ sizeLine := by rw [sizeLine_eq]; omega
  have z1 : (1 : Nat) ≤ sizeLine := by rw [sizeLine_eq]; omega
  have zw : ws.length + 1 ≤ sizeLine := by rw [sizeLine_eq]; omega
  have ek1 : kListA [.tup [.int p, .tup ws]] = .ret (.lst [.int p, .tup ws]) := by simp [sSeq, sPar, eCall, lCons, lNil, eVar, bind_retP, kFn, eTup, Sl.e2, kAddF, eC, seqO_nx, seqO_rt, sIf, bOr, bCmp, mO, sPut, lStar, itemsOf, putD, imm, imm.immAll, oNone, oSome, eCut, sNx, eImm, chk, sSet, sDrop, sRet, bNot, bTru, tru, eCmp, eIsi, eAnd, eOr, eNot, onBl, le2, le4, kListA, kList, iw]
  have ek2 : kListA [.tup ws] = .ret (.lst ws) := by simp [sSeq, sPar, eCall, lCons, lNil, eVar, bind_retP, kFn, eTup, Sl.e2, kAddF, eC, seqO_nx, seqO_rt, sIf, bOr, bCmp, mO, sPut, lStar, itemsOf, putD, imm, imm.immAll, oNone, oSome, eCut, sNx, eImm, chk, sSet, sDrop, sRet, bNot, bTru, tru, eCmp, eIsi, eAnd, eOr, eNot, onBl, le2, le4, kListA, kList, iw]
  have ek3 : kCut (some 1) none (.tup ws) = .ret (.tup (cutD ws (some 1) none)) := rfl
  have eL : (lNew (eLst (lCons (eImm (eVar 10)) (lCons (eCall kListA (lCons (eVar 10) lNil)) (lCons (eTup (lCons (eAddF (eVar 13) (eC (.int 1))) (lCons (eImm (eVar 14)) lNil))) (lCons (eTup (lCons (eImm (eVar 13)) (lCons (eCall kListA (lCons (eVar 14) lNil)) lNil))) (lCons (eTup (lCons (eImm (eVar 13)) (lCons (eCut (eImm (eVar 14)) (oSome (eC (.int 1))) oNone) lNil))) (lCons (eTup (lCons (eImm (eVar 13)) (lCons (eImm (eVar 15)) lNil))) (lCons (eC .non) (lCons (eC (.int 3)) (lCons (eTup (lCons (eImm (eVar 13)) (lCons (eAddF (eVar 14) (eTup (lCons (eTup (lCons (eVar 4) (lCons (eC (.int 0)) lNil))) lNil))) lNil))) lNil))))))))))) (R22 a l (some (.int C.n)) o5 (some c0) (some (prD pr)) (some d) o9 (some (.tup [.int p, .tup ws])) o11 o12 (some (.int p)) (some (.tup ws)) (some (.tup ss)) o16 o17 o18 o19 o20 o21) =
      .ret [.tup [.int p, .tup ws], .lst [.int p, .tup ws], .tup [.int (p + 1), .tup ws], .tup [.int p, .lst ws], .tup [.int p, .tup (cutD ws (some 1) none)], .tup [.int p, .tup ss], .non, .int 3, .tup [.int p, .tup (ws ++ [.tup [.int C.n, .int 0]])]] := by
    simp [sSeq, sPar, eCall, lCons, lNil, eVar, bind_retP, kFn, eTup, Sl.e2, kAddF, eC, seqO_nx, seqO_rt, sIf, bOr, bCmp, mO, sPut, lStar, itemsOf, putD, imm, imm.immAll, oNone, oSome, eCut, sNx, eImm, chk, sSet, sDrop, sRet, bNot, bTru, tru, eCmp, eIsi, eAnd, eOr, eNot, onBl, le2, le4, lNew, eLst, kItems, iw, is, z9, z1, zw, ek1, ek2, ek3]
  have all : ∀ x ∈ [D.tup [.int p, .tup ws], .lst [.int p, .tup ws], .tup [.int (p + 1), .tup ws], .tup [.int p, .lst ws], .tup [.int p, .tup (cutD ws (some 1) none)], .tup [.int p, .tup ss], .non, .int 3, .tup [.int p, .tup (ws ++ [.tup [.int C.n, .int 0]])]], ValOk C p x := by
    intro x hx
    simp only [List.mem_cons, List.not_mem_nil, or_false] at hx
    rcases hx with rfl | rfl | rfl | rfl | rfl | rfl | rfl | rfl | rfl
    · exact .tup hw (by omega)
    · exact .lst
    · exact .tup hw (by omega)
    · exact .tupl
    · exact .tup (fun t ht => hw t (cut_mem ht)) (by have := cut_len ws (some 1) none; omega)
    · exact .tup hs (by omega)
    · exact .non
    · exact .int 3
    · refine .tup (fun t ht => ?_) (by rw [List.length_append, List.length_singleton]; omega)
      rcases List.mem_append.mp ht with ht | ht
      · exact hw t ht
      · rw [List.mem_singleton.mp ht]
        exact ⟨C.n, 0, rfl, by have := ok.lenLo; omega⟩
  unfold lwS10 sFor
  rw [eL]
  rw [bind_retP]
  obtain ⟨ρ', e1, o16', o17', rfl, _⟩ := loopF_inv (g := gVar 16) (F := lwVB) (fun xs ρ => ∃ o16' o17', ρ = R22 a l (some (.int C.n)) o5 (some c0) (some (prD pr)) (some d) o9 (some (.tup [.int p, .tup ws])) o11 o12 (some (.int p)) (some (.tup ws)) (some (.tup ss)) o16' o17' o18 o19 o20 o21 ∧ ∀ x ∈ xs, ValOk C p x) (fun x xs ρ hI => by
    obtain ⟨o16', o17', rfl, hv⟩ := hI
    obtain ⟨o17'', e2⟩ := value_run (a := a) (l := l) (n := some (.int C.n)) (o5 := o5) (q := o9) (fo := some (.tup [.int p, .tup ws])) (ev := o11) (o12 := o12) (wv := some (.tup ws)) (ss := some (.tup ss)) (o17 := o17') (o18 := o18) (o19 := o19) (o20 := o20) (o21 := o21) ok po h0 hd hf e (hv x (List.mem_cons_self ..))
    exact ⟨_, _, rfl, e2, some x, o17'', rfl, fun y hy => hv y (List.mem_cons_of_mem _ hy)⟩) _ _ ⟨o16, o17, rfl, all⟩
  exact ⟨o16', o17', e1⟩
/-! the papers -/
theorem s11_run {f q : List (D × D)} (b : Both C (ok.gf po h0) f q) : lwS11 (R22 a l n o5 (some c0) (some (prD pr)) (some d) (some (.dct q)) fo (some (.lst (evs q))) o12 o13 o14 o15 o16 o17 o18 o19 o20 o21) = .ret (.nx (R22 a l n o5 (some c0) (some (prD pr)) (some d) (some (.dct q)) fo (some (.lst (evs q))) o12 o13 o14 o15 o16 o17 (some (.tup ((papV f q).map D.int))) o19 o20 o21)) := by
  unfold lwS11 sSet
  rw [paper_tup ok po h0 b]
  rfl
theorem s12_run {L : List Int} (h1 : 1 ≤ L.length) (h2 : L.length ≤ 30) : ∃ xs : List D, xs.length = 7 ∧ (∀ x ∈ xs, PapOk x) ∧ lwS12 (R22 a l n o5 (some c0) (some (prD pr)) (some d) o9 o10 o11 o12 o13 o14 o15 o16 o17 (some (.tup (L.map D.int))) o19 o20 o21) = .ret (.nx (R22 a l n o5 (some c0) (some (prD pr)) (some d) o9 o10 o11 o12 o13 o14 o15 o16 o17 (some (.tup (L.map D.int))) (some (.lst xs)) o20 o21)) := by
  have z7 : (7 : Nat) ≤ sizeLine := by rw [sizeLine_eq]; omega
  have z1 : (1 : Nat) ≤ sizeLine := by rw [sizeLine_eq]; omega
  have zl : (L.map D.int).length ≤ sizeLine := by rw [List.length_map, sizeLine_eq]; omega
  obtain ⟨X, hX⟩ : ∃ X, X = L.map D.int := ⟨_, rfl⟩
  have iX : imm.immAll X = true := by rw [hX]; exact immI L
  have aX : ∀ x ∈ X, ∃ i, x = D.int i := fun x hx => isInt_map (hX ▸ hx)
  have ek2 : kListA [.tup X] = .ret (.lst X) := by simp [sSeq, sPar, eCall, lCons, lNil, eVar, bind_retP, kFn, eTup, Sl.e2, kAddF, eC, seqO_nx, seqO_rt, sIf, bOr, bCmp, mO, sPut, lStar, itemsOf, putD, imm, imm.immAll, oNone, oSome, eCut, sNx, eImm, chk, sSet, sDrop, sRet, bNot, bTru, tru, eCmp, eIsi, eAnd, eOr, eNot, onBl, le2, le4, kListA, kList, iX]
  have ek3 : kCut (some 1) none (.tup X) = .ret (.tup (cutD X (some 1) none)) := rfl
  have ek4 : kRevT (.tup X) = .ret (.tup X.reverse) := rfl
  obtain ⟨N, hN, ek5⟩ : ∃ N : Int, N = X.length ∧ kLen [.tup X] = .ret (.int N) := ⟨_, rfl, rfl⟩
  have hXl : X.length = L.length := by rw [hX, List.length_map]
  have ek6 : kRep (.tup [.int 0]) (.int N) = .ret (.tup (List.replicate N.toNat [D.int 0]).flatten) := by
    show (if _ then _ else _) = _
    rw [if_pos ⟨rfl, List.cons_ne_nil _ _, by omega, by omega, by show 1 ≤ 1000; omega⟩]
  have ek7 : (eLc [12] (lVar 18) (gVar 12) bYes (eAddF (eVar 12) (eC (.int 1)))) (R22 a l n o5 (some c0) (some (prD pr)) (some d) o9 o10 o11 o12 o13 o14 o15 o16 o17 (some (.tup X)) o19 o20 o21) = .ret (.lst (X.map fun x => .int ((match x with | .int i => i | _ => 0) + 1))) := by
    have e2 : lcGo (gVar 12) bYes (eAddF (eVar 12) (eC (.int 1))) X (R22 a l n o5 (some c0) (some (prD pr)) (some d) o9 o10 o11 none o13 o14 o15 o16 o17 (some (.tup X)) o19 o20 o21) = .ret (X.map fun x => .int ((match x with | .int i => i | _ => 0) + 1)) := by
      refine lcGo_ints ok fun x hx => ⟨_, rfl, rfl, ?_⟩
      obtain ⟨i, rfl⟩ := aX x hx
      simp [sSeq, sPar, eCall, lCons, lNil, eVar, bind_retP, kFn, eTup, Sl.e2, kAddF, eC, seqO_nx, seqO_rt, sIf, bOr, bCmp, mO, sPut, lStar, itemsOf, putD, imm, imm.immAll, oNone, oSome, eCut, sNx, eImm, chk, sSet, sDrop, sRet, bNot, bTru, tru, eCmp, eIsi, eAnd, eOr, eNot, onBl, le2, le4]
    show (if X.length ≤ sizeLine then (lcGo (gVar 12) bYes (eAddF (eVar 12) (eC (.int 1))) X (R22 a l n o5 (some c0) (some (prD pr)) (some d) o9 o10 o11 none o13 o14 o15 o16 o17 (some (.tup X)) o19 o20 o21)).bind _ else _) = _
    rw [if_pos (by rw [hXl, sizeLine_eq]; omega), e2]
    rfl
  have ek8 : kTuple [.lst (X.map fun x => .int ((match x with | .int i => i | _ => 0) + 1))] = .ret (.tup (X.map fun x => .int ((match x with | .int i => i | _ => 0) + 1))) := by
    have : ∀ g : D → Int, ∀ X : List D, imm.immAll (X.map fun x => D.int (g x)) = true := by
      intro g X
      induction X with
      | nil => rfl
      | cons a X ih => exact ih
    simp only [kTuple, this, if_true]
  rw [← hX]
  generalize hY : (X.map fun x => D.int ((match x with | .int i => i | _ => 0) + 1)) = Y at ek7 ek8
  refine ⟨[.tup X, .lst X, .tup (cutD X (some 1) none), .tup X.reverse, .tup Y, .tup (List.replicate N.toNat [D.int 0]).flatten, .non], rfl, fun x hx => ?_, ?_⟩
  · simp only [List.mem_cons, List.not_mem_nil, or_false] at hx
    rcases hx with rfl | rfl | rfl | rfl | rfl | rfl | rfl
    · exact .ints aX
    · exact .lst _
    · exact .ints fun x hx => aX x (cut_mem hx)
    · exact .ints fun x hx => aX x (List.mem_reverse.mp hx)
    · refine .ints fun x hx => ?_
      rw [← hY] at hx
      obtain ⟨y, _, e⟩ := List.mem_map.mp hx
      exact ⟨_, e.symm⟩
    · refine .ints fun x hx => ?_
      obtain ⟨l, hl, hx⟩ := List.mem_flatten.mp hx
      rw [(List.mem_replicate.mp hl).2] at hx
      exact ⟨0, List.mem_singleton.mp hx⟩
    · exact .non
  · have e1 : (eCall kTuple (lCons (eLc [12] (lVar 18) (gVar 12) bYes (eAddF (eVar 12) (eC (.int 1)))) lNil)) (R22 a l n o5 (some c0) (some (prD pr)) (some d) o9 o10 o11 o12 o13 o14 o15 o16 o17 (some (.tup X)) o19 o20 o21) = .ret (.tup Y) := by
      unfold eCall lCons lNil
      rw [ek7]
      simp only [bind_retP, ek8]
    generalize hT : (eCall kTuple (lCons (eLc [12] (lVar 18) (gVar 12) bYes (eAddF (eVar 12) (eC (.int 1)))) lNil)) = T at e1
    unfold lwS12
    rw [hT]
    simp [sSeq, sPar, eCall, lCons, lNil, eVar, bind_retP, kFn, eTup, Sl.e2, kAddF, eC, seqO_nx, seqO_rt, sIf, bOr, bCmp, mO, sPut, lStar, itemsOf, putD, imm, imm.immAll, oNone, oSome, eCut, sNx, eImm, chk, sSet, sDrop, sRet, bNot, bTru, tru, eCmp, eIsi, eAnd, eOr, eNot, onBl, le2, le4, e1, iX, ek2, ek3, ek4, ek5, ek6, eLst, Sl.e1, z7, z1]
theorem s13_all {L : List Int} (h1 : 1 ≤ L.length) (h2 : L.length ≤ 30) {xs : List D} (hx : xs.length = 7) (hp : ∀ x ∈ xs, PapOk x) :
    (lwS13 (R22 a l n o5 (some c0) (some (prD pr)) (some d) o9 o10 o11 o12 o13 o14 o15 o16 o17 (some (.tup (L.map D.int))) (some (.lst xs)) o20 o21)).All fun o => ∃ o5' xs', o = .nx (R22 a l n o5' (some c0) (some (prD pr)) (some d) o9 o10 o11 o12 o13 o14 o15 o16 o17 (some (.tup (L.map D.int))) (some (.lst xs')) o20 o21) ∧ ∀ x ∈ xs', PapOk x := by
  have e1 : kLen [.tup (L.map D.int)] = .ret (.int L.length) := by simp [sSeq, sPar, eCall, lCons, lNil, eVar, bind_retP, kFn, eTup, Sl.e2, kAddF, eC, seqO_nx, seqO_rt, sIf, bOr, bCmp, mO, sPut, lStar, itemsOf, putD, imm, imm.immAll, oNone, oSome, eCut, sNx, eImm, chk, sSet, sDrop, sRet, bNot, bTru, tru, eCmp, eIsi, eAnd, eOr, eNot, onBl, le2, le4, kLen]
  obtain ⟨N, hN, e1⟩ : ∃ N : Int, N = L.length ∧ kLen [.tup (L.map D.int)] = .ret (.int N) := ⟨_, rfl, e1⟩
  obtain ⟨M0, hM, e2⟩ : ∃ M0 : Int, (0 ≤ M0 ∧ M0 ≤ 6 ∧ M0 ≤ N) ∧ kMin2 [.int 6, .int N] = .ret (.int M0) := by
    refine ⟨if N < 6 then N else 6, ?_, rfl⟩
    split <;> omega
  have e3 : lRange (lCons (eCall kMin2 (lCons (eC (.int 6)) (lCons (eCall kLen (lCons (eVar 18) lNil)) lNil))) lNil) (R22 a l n o5 (some c0) (some (prD pr)) (some d) o9 o10 o11 o12 o13 o14 o15 o16 o17 (some (.tup (L.map D.int))) (some (.lst xs)) o20 o21) = .ret (rangeD M0) := by
    refine lRange_int ?_ ⟨by omega, by omega⟩
    simp [sSeq, sPar, eCall, lCons, lNil, eVar, bind_retP, kFn, eTup, Sl.e2, kAddF, eC, seqO_nx, seqO_rt, sIf, bOr, bCmp, mO, sPut, lStar, itemsOf, putD, imm, imm.immAll, oNone, oSome, eCut, sNx, eImm, chk, sSet, sDrop, sRet, bNot, bTru, tru, eCmp, eIsi, eAnd, eOr, eNot, onBl, le2, le4, e1, e2]
  unfold lwS13 sFor
  rw [e3, bind_retP]
  have hlen : (rangeD M0).length = M0.toNat := by simp [sSeq, sPar, eCall, lCons, lNil, eVar, bind_retP, kFn, eTup, Sl.e2, kAddF, eC, seqO_nx, seqO_rt, sIf, bOr, bCmp, mO, sPut, lStar, itemsOf, putD, imm, imm.immAll, oNone, oSome, eCut, sNx, eImm, chk, sSet, sDrop, sRet, bNot, bTru, tru, eCmp, eIsi, eAnd, eOr, eNot, onBl, le2, le4, rangeD]
  refine loopF_all (fun ds ρ => ∃ o5' xs', ρ = R22 a l n o5' (some c0) (some (prD pr)) (some d) o9 o10 o11 o12 o13 o14 o15 o16 o17 (some (.tup (L.map D.int))) (some (.lst xs')) o20 o21 ∧ (∀ x ∈ xs', PapOk x) ∧ xs'.length + ds.length ≤ 13 ∧ ∀ x ∈ ds, ∃ k : Nat, x = .int k ∧ k < L.length) (fun x ds ρ hI => ?_) (fun ρ hI => ?_) _ _ ⟨o5, xs, rfl, hp, by rw [hlen, hx]; omega, fun x hx => ?_⟩
  · obtain ⟨o5', xs', rfl, hp', hl, hk⟩ := hI
    rw [List.length_cons] at hl
    obtain ⟨k, rfl, hk1⟩ := hk x (List.mem_cons_self ..)
    show (lwGB (R22 a l n (some (.int k)) (some c0) (some (prD pr)) (some d) o9 o10 o11 o12 o13 o14 o15 o16 o17 (some (.tup (L.map D.int))) (some (.lst xs')) o20 o21)).All _
    have e4 := kIx_ints hk1
    obtain ⟨y, hy⟩ : ∃ y : Int, y = L.getD k 0 := ⟨_, rfl⟩
    rw [← hy] at e4
    obtain ⟨X, hX⟩ : ∃ X, X = L.map D.int := ⟨_, rfl⟩
    have iX : imm.immAll X = true := by rw [hX]; exact immI L
    have aX : ∀ x ∈ X, ∃ i, x = D.int i := fun x hx => isInt_map (hX ▸ hx)
    have hXl : X.length = L.length := by rw [hX, List.length_map]
    rw [← hX] at e4 ⊢
    obtain ⟨j, hj⟩ : ∃ j : Int, j = (k : Int) := ⟨_, rfl⟩
    rw [← hj] at e4 ⊢
    have imA : ∀ {Z : List D}, (∀ x ∈ Z, ∃ i, x = D.int i) → imm.immAll Z = true := fun {Z} hZ => by
      obtain ⟨vs, rfl⟩ := ints_of hZ
      exact immI vs
    have c1 : ∀ lo hi, kCut lo hi (.tup X) = .ret (.tup (cutD X lo hi)) := fun _ _ => rfl
    have aC : ∀ lo hi, ∀ x ∈ cutD X lo hi, ∃ i, x = D.int i := fun lo hi x hx => aX x (cut_mem hx)
    have lC : ∀ lo hi, (cutD X lo hi).length ≤ 30 := fun lo hi => by have := cut_len X lo hi; omega
    have c2 : ∀ r : Int, kI (fun i _ => decide (-(2 ^ 64) < i ∧ i < 2 ^ 64)) (fun i j => i * j) (.int 2) (.int r) = .ret (.int (2 * r)) := by
      intro r
      have : decide (-(2 ^ 64) < (2 : Int) ∧ (2 : Int) < 2 ^ 64) = true := by decide
      simp only [kI, onI2, this, if_true]
    obtain ⟨A, hA⟩ : ∃ A, A = cutD X none (some j) := ⟨_, rfl⟩
    obtain ⟨B, hB⟩ : ∃ B, B = cutD X (some (j + 1)) none := ⟨_, rfl⟩
    have aA := aC none (some j)
    have aB := aC (some (j + 1)) none
    have lA := lC none (some j)
    have lB := lC (some (j + 1)) none
    have z1 : (1 : Nat) ≤ sizeLine := by rw [sizeLine_eq]; omega
    have eA := c1 none (some j)
    have eB := c1 (some (j + 1)) none
    rw [← hA] at aA lA eA
    rw [← hB] at aB lB eB
    have iA := imA aA
    have iB := imA aB
    have zA : A.length + 1 ≤ sizeLine := by rw [sizeLine_eq]; omega
    have e5 : ∀ r : Int, kAddF (.tup A) (.tup [.int r]) = .ret (.tup (A ++ [.int r])) := by
      intro r
      show (if _ then _ else _) = _
      rw [if_pos ⟨by rw [iA]; rfl, zA⟩]
    have aAr : ∀ r : Int, ∀ x ∈ A ++ [D.int r], ∃ i, x = D.int i := fun r x hx => (List.mem_append.mp hx).elim (aA x) fun hx => ⟨r, List.mem_singleton.mp hx⟩
    have e6 : ∀ r : Int, kAddF (.tup (A ++ [.int r])) (.tup B) = .ret (.tup (A ++ [.int r] ++ B)) := by
      intro r
      show (if _ then _ else _) = _
      rw [if_pos ⟨by rw [imA (aAr r), iB]; rfl, by rw [List.length_append, List.length_singleton, sizeLine_eq]; omega⟩]
    have aZ : ∀ r : Int, ∀ x ∈ A ++ [D.int r] ++ B, ∃ i, x = D.int i := fun r x hx => (List.mem_append.mp hx).elim (aAr r x) (aB x)
    have e7 : lwGB (R22 a l n (some (.int j)) (some c0) (some (prD pr)) (some d) o9 o10 o11 o12 o13 o14 o15 o16 o17 (some (.tup X)) (some (.lst xs')) o20 o21) =
        (g__law_taken [.row, .int 2]).bind fun r => (kI (fun i _ => decide (-(2 ^ 64) < i ∧ i < 2 ^ 64)) (fun i j => i * j) (.int 2) r).bind fun r => (kI (fun _ _ => true) (fun i j => i - j) (.int (y + 1)) r).bind fun r => (kAddF (.tup A) (.tup [r])).bind fun r => (kAddF r (.tup B)).bind (appD 19 (R22 a l n (some (.int j)) (some c0) (some (prD pr)) (some d) o9 o10 o11 o12 o13 o14 o15 o16 o17 (some (.tup X)) (some (.lst xs')) o20 o21) xs') := by
      simp only [lwGB, sApp, Sl.e2, eVar, eCall, lCons, lNil, eC, eCut, oNone, oSome, eTup, List.getElem?_cons_zero, List.getElem?_cons_succ, bind_retP, kFn, List.length_cons, List.length_nil, eA, e4, M.bind_assoc]
      have ka : ∀ y : Int, kAddF (.int y) (.int 1) = .ret (.int (y + 1)) := fun _ => rfl
      have z1' : 0 + 1 ≤ sizeLine := z1
      simp only [ka, bind_retP, if_true, z1', eB]
    rw [e7]
    refine M.All.bind' ((taken_all (n := 2) (by decide) (by decide)).mono fun r hr => ?_)
    obtain ⟨i, rfl, _⟩ := hr
    rw [c2, bind_retP]
    show M.All _ ((kAddF (.tup A) (.tup [.int (y + 1 - 2 * (i : Int))])).bind _)
    rw [e5, bind_retP, e6, bind_retP]
    unfold appD
    rw [if_pos ⟨imA (aZ _), small_le (by omega)⟩]
    refine ⟨_, rfl, some (.int j), xs' ++ [.tup (A ++ [D.int (y + 1 - 2 * (i : Int))] ++ B)], rfl, fun x hx => ?_, ?_, fun x hx => hk x (List.mem_cons_of_mem _ hx)⟩
    · rcases List.mem_append.mp hx with hx | hx
      · exact hp' x hx
      · rw [List.mem_singleton.mp hx]
        exact .ints (aZ _)
    · rw [List.length_append, List.length_singleton]; omega
  · obtain ⟨o5', xs', rfl, hp', _⟩ := hI
    exact ⟨o5', xs', rfl, hp'⟩
  · unfold rangeD at hx
    obtain ⟨k, hk, e⟩ := List.mem_map.mp hx
    rw [List.mem_range] at hk
    exact ⟨k, e.symm, by omega⟩
end
end Sl
end S_Sr5
noncomputable section S_Sr6
set_option Elab.async false
set_option linter.all false
set_option maxRecDepth 100000
set_option maxHeartbeats 1000000
/-! law's papers: the checker says what is due. -/
namespace Sl
open PySem PySem.Spec PyProof.Rows L2
open Classical
theorem putAll_app : ∀ (a b f : List (D × D)), dPutAll f (a ++ b) = dPutAll (dPutAll f a) b
  | [], _, _ => rfl
  | p :: a, b, f => putAll_app a b (dPut f p.1 p.2)
section
variable {C : Cl} (ok : C.Ok) {pr : List Int} (po : PrOk C pr) {c0 d : D} (h0 : c0 ∈ C.Ul) (hd : d ∈ C.Ul)
variable {a l n o5 fo o12 wv sv o16 o17 o18 o19 o20 o21 o9 o10 o11 o13 o14 o15 : Option D}
include ok
theorem nb_run {ev : List D} {vs : List Int} (hev : ∀ v ∈ ev, v ∈ C.Ul) (hl : vs.length = ev.length) (hs : ev.length ≤ 30) :
    ∃ o5', lwN1 (R22 a l n o5 (some c0) (some (prD pr)) (some d) o9 o10 (some (.lst ev)) o12 o13 o14 o15 (some (.tup (vs.map D.int))) o17 o18 o19 (some (.dct [])) o21) =
      .ret (.nx (R22 a l n o5' (some c0) (some (prD pr)) (some d) o9 o10 (some (.lst ev)) o12 o13 o14 o15 (some (.tup (vs.map D.int))) o17 o18 o19 (some (.dct (nums ev vs))) o21)) := by
  obtain ⟨N, hN, e1⟩ : ∃ N : Int, N = ev.length ∧ kLen [.lst ev] = .ret (.int N) := ⟨_, rfl, rfl⟩
  have e3 : lRange (lCons (eCall kLen (lCons (eVar 11) lNil)) lNil) (R22 a l n o5 (some c0) (some (prD pr)) (some d) o9 o10 (some (.lst ev)) o12 o13 o14 o15 (some (.tup (vs.map D.int))) o17 o18 o19 (some (.dct [])) o21) = .ret (rangeD N) := by
    refine lRange_int ?_ ⟨by omega, by omega⟩
    simp [sSeq, sPar, eCall, lCons, lNil, eVar, bind_retP, kFn, eTup, Sl.e2, kAddF, eC, seqO_nx, seqO_rt, sIf, bOr, bCmp, mO, sPut, lStar, itemsOf, putD, imm, imm.immAll, oNone, oSome, eCut, sNx, eImm, chk, sSet, sDrop, sRet, bNot, bTru, tru, eCmp, eIsi, eAnd, eOr, eNot, onBl, le2, le4, e1]
  unfold lwN1 sFor
  rw [e3, bind_retP]
  have hlen : (rangeD N).length = ev.length := by simp [sSeq, sPar, eCall, lCons, lNil, eVar, bind_retP, kFn, eTup, Sl.e2, kAddF, eC, seqO_nx, seqO_rt, sIf, bOr, bCmp, mO, sPut, lStar, itemsOf, putD, imm, imm.immAll, oNone, oSome, eCut, sNx, eImm, chk, sSet, sDrop, sRet, bNot, bTru, tru, eCmp, eIsi, eAnd, eOr, eNot, onBl, le2, le4, rangeD, hN]
  have hget : ∀ i (h : i < (rangeD N).length), (rangeD N)[i] = .int (i : Int) := fun i h => by simp [sSeq, sPar, eCall, lCons, lNil, eVar, bind_retP, kFn, eTup, Sl.e2, kAddF, eC, seqO_nx, seqO_rt, sIf, bOr, bCmp, mO, sPut, lStar, itemsOf, putD, imm, imm.immAll, oNone, oSome, eCut, sNx, eImm, chk, sSet, sDrop, sRet, bNot, bTru, tru, eCmp, eIsi, eAnd, eOr, eNot, onBl, le2, le4, rangeD]
  have hz : (ev.zip (vs.map D.int)).length = ev.length := by rw [List.length_zip, List.length_map, hl, Nat.min_self]
  obtain ⟨ρ', r1, i, o5', r2, r3, r4⟩ := loopF_inv (g := gVar 5) (F := lwNb) (fun rest ρ => ∃ i o5', rest = (rangeD N).drop i ∧ i ≤ ev.length ∧ ρ = R22 a l n o5' (some c0) (some (prD pr)) (some d) o9 o10 (some (.lst ev)) o12 o13 o14 o15 (some (.tup (vs.map D.int))) o17 o18 o19 (some (.dct (dPutAll [] ((ev.zip (vs.map D.int)).take i)))) o21) (fun x rest ρ hI => by
    obtain ⟨i, o5', h1, h2, rfl⟩ := hI
    have hi : i < ev.length := by
      rcases Nat.lt_or_ge i ev.length with h | h
      · exact h
      · rw [List.drop_eq_nil_of_le (by omega)] at h1
        cases h1
    have hi' : i < (rangeD N).length := by omega
    rw [List.drop_eq_getElem_cons hi', hget i hi'] at h1
    injection h1 with h1 h3
    subst h1
    subst h3
    have hm : ev[i] ∈ C.Ul := hev _ (List.getElem_mem hi)
    have e4 : kIx (.lst ev) (.int (i : Int)) = .ret ev[i] := by
      show mO (atI ev (i : Int)) M.ret = _
      rw [atI_of hi]
      rfl
    have e5 := kIx_ints (l := vs) (k := i) (by omega)
    have z1 : (dPutAll [] ((ev.zip (vs.map D.int)).take i)).length < sizeLine := by
      have := dPutAll_len ((ev.zip (vs.map D.int)).take i) []
      rw [List.length_take, List.length_nil] at this
      rw [sizeLine_eq]
      omega
    have e6 : dPutAll [] ((ev.zip (vs.map D.int)).take (i + 1)) = dPut (dPutAll [] ((ev.zip (vs.map D.int)).take i)) ev[i] (.int (vs.getD i 0)) := by
      rw [← List.take_append_getElem (by rw [hz]; exact hi), putAll_app]
      have : (ev.zip (vs.map D.int))[i]'(by rw [hz]; exact hi) = (ev[i], .int (vs.getD i 0)) := by
        rw [List.getElem_zip, List.getElem_map, List.getD_eq_getElem?_getD, List.getElem?_eq_getElem (by omega)]
        rfl
      rw [this]
      rfl
    generalize dPutAll [] ((ev.zip (vs.map D.int)).take i) = K at z1 e6
    obtain ⟨j, hj⟩ : ∃ j : Int, j = (i : Int) := ⟨_, rfl⟩
    rw [← hj] at e4 e5
    refine ⟨_, R22 a l n (some (.int j)) (some c0) (some (prD pr)) (some d) o9 o10 (some (.lst ev)) o12 o13 o14 o15 (some (.tup (vs.map D.int))) o17 o18 o19 (some (.dct (dPut K ev[i] (.int (vs.getD i 0))))) o21, rfl, ?_, i + 1, some (.int j), rfl, by omega, by rw [e6]⟩
    rw [← hj]
    generalize vs.getD i 0 = y at e5
    generalize ev[i] = v at hm e4
    generalize vs.map D.int = Y at e5
    show lwNb (R22 a l n (some (.int j)) (some c0) (some (prD pr)) (some d) o9 o10 (some (.lst ev)) o12 o13 o14 o15 (some (.tup Y)) o17 o18 o19 (some (.dct K)) o21) = _
    simp [sSeq, sPar, eCall, lCons, lNil, eVar, bind_retP, kFn, eTup, Sl.e2, kAddF, eC, seqO_nx, seqO_rt, sIf, bOr, bCmp, mO, sPut, lStar, itemsOf, putD, imm, imm.immAll, oNone, oSome, eCut, sNx, eImm, chk, sSet, sDrop, sRet, bNot, bTru, tru, eCmp, eIsi, eAnd, eOr, eNot, onBl, le2, le4, lwNb, e4, e5, ok.isT hm, ok.kOk hm, ok.im hm, z1]) _ _ ⟨0, o5, rfl, Nat.zero_le _, rfl⟩
  have hi : ev.length ≤ i := by
    rcases Nat.lt_or_ge i ev.length with h | h
    · have hi' : i < (rangeD N).length := by omega
      rw [List.drop_eq_getElem_cons hi'] at r2
      cases r2
    · exact h
  rw [List.take_of_length_le (by omega)] at r4
  subst r4
  exact ⟨o5', r1⟩
include po
theorem ei_run {K : List (D × D)} (hK : ∀ v ∈ C.Ul, dGet K v = some (.int (numI K v))) {h : D} (hh : h ∈ C.Ul) : ∀ (tl : List D) (o12 : Option D) (b : Bool), (∀ t ∈ tl, t ∈ C.ts h) →
    ∃ o12', loopF (gVar 12) lwEi tl (R22 a l n o5 (some c0) (some (prD pr)) (some d) o9 o10 o11 o12 o13 o14 o15 o16 (some (.bl b)) o18 o19 (some (.dct K)) (some h)) =
      .ret (.nx (R22 a l n o5 (some c0) (some (prD pr)) (some d) o9 o10 o11 o12' o13 o14 o15 o16 (some (.bl (b && decide (∀ t ∈ tl, EdgeOk C (wOf pr) K h t)))) o18 o19 (some (.dct K)) (some h)))
  | [], o12, b, _ => ⟨o12, by simp [sSeq, sPar, eCall, lCons, lNil, eVar, bind_retP, kFn, eTup, Sl.e2, kAddF, eC, seqO_nx, seqO_rt, sIf, bOr, bCmp, mO, sPut, lStar, itemsOf, putD, imm, imm.immAll, oNone, oSome, eCut, sNx, eImm, chk, sSet, sDrop, sRet, bNot, bTru, tru, eCmp, eIsi, eAnd, eOr, eNot, onBl, le2, le4, loopF]⟩
  | t :: tl, o12, b, ht => by
    have m := ht t (List.mem_cons_self ..)
    have hv := ok.nxIn h hh t m
    obtain ⟨j, e1, e3⟩ := ok.ixt po hh m
    have e4 := kIx_dct (ok.isT hh) (ok.kOk hh) (hK h hh)
    have e5 := kIx_dct (ok.isT hv) (ok.kOk hv) (hK _ hv)
    have e6 := ok.behind h hh t m
    have st : lwEi (R22 a l n o5 (some c0) (some (prD pr)) (some d) o9 o10 o11 (some t) o13 o14 o15 o16 (some (.bl b)) o18 o19 (some (.dct K)) (some h)) = .ret (.nx (R22 a l n o5 (some c0) (some (prD pr)) (some d) o9 o10 o11 (some t) o13 o14 o15 o16 (some (.bl (b && decide (EdgeOk C (wOf pr) K h t)))) o18 o19 (some (.dct K)) (some h))) := by
      have q : decide (EdgeOk C (wOf pr) K h t) = decide (numI K (C.nx h t) - numI K h ≤ wOf pr t) := by
        rw [Bool.eq_iff_iff, decide_eq_true_iff, decide_eq_true_iff]
        rfl
      rw [q]
      cases b <;> simp [sSeq, sPar, eCall, lCons, lNil, eVar, bind_retP, kFn, eTup, Sl.e2, kAddF, eC, seqO_nx, seqO_rt, sIf, bOr, bCmp, mO, sPut, lStar, itemsOf, putD, imm, imm.immAll, oNone, oSome, eCut, sNx, eImm, chk, sSet, sDrop, sRet, bNot, bTru, tru, eCmp, eIsi, eAnd, eOr, eNot, onBl, le2, le4, lwEi, e1, e3, e4, e5, e6, kI, onI2, oI2]
    obtain ⟨o12', r⟩ := ei_run hK hh tl (some t) (b && decide (EdgeOk C (wOf pr) K h t)) fun u hu => ht u (List.mem_cons_of_mem _ hu)
    refine ⟨o12', ?_⟩
    rw [loopF_varD]
    show (lwEi (R22 a l n o5 (some c0) (some (prD pr)) (some d) o9 o10 o11 (some t) o13 o14 o15 o16 (some (.bl b)) o18 o19 (some (.dct K)) (some h))).bind _ = _
    rw [st, bind_retP]
    show loopF (gVar 12) lwEi tl _ = _
    rw [r]
    have : (b && decide (EdgeOk C (wOf pr) K h t) && decide (∀ t ∈ tl, EdgeOk C (wOf pr) K h t)) = (b && decide (∀ u ∈ t :: tl, EdgeOk C (wOf pr) K h u)) := by
      rw [Bool.and_assoc]
      congr 1
      rw [Bool.eq_iff_iff]
      simp [sSeq, sPar, eCall, lCons, lNil, eVar, bind_retP, kFn, eTup, Sl.e2, kAddF, eC, seqO_nx, seqO_rt, sIf, bOr, bCmp, mO, sPut, lStar, itemsOf, putD, imm, imm.immAll, oNone, oSome, eCut, sNx, eImm, chk, sSet, sDrop, sRet, bNot, bTru, tru, eCmp, eIsi, eAnd, eOr, eNot, onBl, le2, le4]
    rw [this]
theorem eo_run {K : List (D × D)} (hK : ∀ v ∈ C.Ul, dGet K v = some (.int (numI K v))) : ∀ (hs : List D) (o12 o21 : Option D) (b : Bool), (∀ h ∈ hs, h ∈ C.Ul) →
    ∃ o12' o21', loopF (gVar 21) lwEo hs (R22 a l n o5 (some c0) (some (prD pr)) (some d) o9 o10 o11 o12 o13 o14 o15 o16 (some (.bl b)) o18 o19 (some (.dct K)) o21) =
      .ret (.nx (R22 a l n o5 (some c0) (some (prD pr)) (some d) o9 o10 o11 o12' o13 o14 o15 o16 (some (.bl (b && decide (∀ h ∈ hs, ∀ t ∈ C.ts h, EdgeOk C (wOf pr) K h t)))) o18 o19 (some (.dct K)) o21'))
  | [], o12, o21, b, _ => ⟨o12, o21, by simp [sSeq, sPar, eCall, lCons, lNil, eVar, bind_retP, kFn, eTup, Sl.e2, kAddF, eC, seqO_nx, seqO_rt, sIf, bOr, bCmp, mO, sPut, lStar, itemsOf, putD, imm, imm.immAll, oNone, oSome, eCut, sNx, eImm, chk, sSet, sDrop, sRet, bNot, bTru, tru, eCmp, eIsi, eAnd, eOr, eNot, onBl, le2, le4, loopF]⟩
  | h :: hs, o12, o21, b, hl => by
    have hh := hl h (List.mem_cons_self ..)
    obtain ⟨o12', r1⟩ := ei_run (a := a) (l := l) (n := n) (o5 := o5) (c0 := c0) (d := d) (o9 := o9) (o10 := o10) (o11 := o11) (o13 := o13) (o14 := o14) (o15 := o15) (o16 := o16) (o18 := o18) (o19 := o19) ok po hK hh (C.ts h) o12 b fun _ z => z
    obtain ⟨o12'', o21', r2⟩ := eo_run hK hs o12' (some h) (b && decide (∀ t ∈ C.ts h, EdgeOk C (wOf pr) K h t)) fun u hu => hl u (List.mem_cons_of_mem _ hu)
    refine ⟨o12'', o21', ?_⟩
    rw [loopF_varD]
    have e1 : lwEo (R22 a l n o5 (some c0) (some (prD pr)) (some d) o9 o10 o11 o12 o13 o14 o15 o16 (some (.bl b)) o18 o19 (some (.dct K)) (some h)) = loopF (gVar 12) lwEi (C.ts h) (R22 a l n o5 (some c0) (some (prD pr)) (some d) o9 o10 o11 o12 o13 o14 o15 o16 (some (.bl b)) o18 o19 (some (.dct K)) (some h)) := by
      simp [sSeq, sPar, eCall, lCons, lNil, eVar, bind_retP, kFn, eTup, Sl.e2, kAddF, eC, seqO_nx, seqO_rt, sIf, bOr, bCmp, mO, sPut, lStar, itemsOf, putD, imm, imm.immAll, oNone, oSome, eCut, sNx, eImm, chk, sSet, sDrop, sRet, bNot, bTru, tru, eCmp, eIsi, eAnd, eOr, eNot, onBl, le2, le4, lwEo, sFor, lNew, ok.law h hh, kItems]
    show (lwEo (R22 a l n o5 (some c0) (some (prD pr)) (some d) o9 o10 o11 o12 o13 o14 o15 o16 (some (.bl b)) o18 o19 (some (.dct K)) (some h))).bind _ = _
    rw [e1, r1, bind_retP]
    show loopF (gVar 21) lwEo hs _ = _
    rw [r2]
    have : (b && decide (∀ t ∈ C.ts h, EdgeOk C (wOf pr) K h t) && decide (∀ h ∈ hs, ∀ t ∈ C.ts h, EdgeOk C (wOf pr) K h t)) = (b && decide (∀ u ∈ h :: hs, ∀ t ∈ C.ts u, EdgeOk C (wOf pr) K u t)) := by
      rw [Bool.and_assoc]
      congr 1
      rw [Bool.eq_iff_iff]
      simp [sSeq, sPar, eCall, lCons, lNil, eVar, bind_retP, kFn, eTup, Sl.e2, kAddF, eC, seqO_nx, seqO_rt, sIf, bOr, bCmp, mO, sPut, lStar, itemsOf, putD, imm, imm.immAll, oNone, oSome, eCut, sNx, eImm, chk, sSet, sDrop, sRet, bNot, bTru, tru, eCmp, eIsi, eAnd, eOr, eNot, onBl, le2, le4]
    rw [this]
include h0 hd
theorem paper_step {f q : List (D × D)} (b : Both C (ok.gf po h0) f q) (hf : g_least_rows [c0, prD pr] = .ret (.dct f)) {p m : Int} {h t : D} (e : dGet f d = some (v4 p m h t)) {x : D} (hx : PapOk x) :
    ∃ o5' o12' o17' o20' o21', lwPB (R22 a l n o5 (some c0) (some (prD pr)) (some d) o9 o10 (some (.lst (evs q))) o12 (some (.int p)) o14 o15 (some x) o17 o18 o19 o20 o21) =
      .ret (.nx (R22 a l n o5' (some c0) (some (prD pr)) (some d) o9 o10 (some (.lst (evs q))) o12' (some (.int p)) o14 o15 (some x) o17' o18 o19 o20' o21')) := by
  have es := evs_same ok po h0 b
  obtain ⟨N, hN, e7⟩ : ∃ N : Int, N = (evs q).length ∧ kLen [.lst (evs q)] = .ret (.int N) := ⟨_, rfl, rfl⟩
  have l1 := (evs_len ok po h0 b).1
  have wrong : ∀ y : D, (kIsTup y = some false ∨ ∃ ys, y = .tup ys ∧ ys.length ≠ (evs q).length) → ∃ o17', lwPB (R22 a l n o5 (some c0) (some (prD pr)) (some d) o9 o10 (some (.lst (evs q))) o12 (some (.int p)) o14 o15 (some y) o17 o18 o19 o20 o21) =
      .ret (.nx (R22 a l n o5 (some c0) (some (prD pr)) (some d) o9 o10 (some (.lst (evs q))) o12 (some (.int p)) o14 o15 (some y) o17' o18 o19 o20 o21)) := by
    intro y hy
    have s := paper_other ok po h0 hd hf b.lr (x := y) (by rw [es]; exact hy)
    refine ⟨some (.bl false), ?_⟩
    rcases hy with hy | ⟨ys, rfl, hy⟩
    · simp [sSeq, sPar, eCall, lCons, lNil, eVar, bind_retP, kFn, eTup, Sl.e2, kAddF, eC, seqO_nx, seqO_rt, sIf, bOr, bCmp, mO, sPut, lStar, itemsOf, putD, imm, imm.immAll, oNone, oSome, eCut, sNx, eImm, chk, sSet, sDrop, sRet, bNot, bTru, tru, eCmp, eIsi, eAnd, eOr, eNot, onBl, le2, le4, lwPB, lwP0, lwP1, lwP2, hy, s, alike_bl]
    · obtain ⟨M0, hM, e8⟩ : ∃ M0 : Int, M0 = ys.length ∧ kLen [.tup ys] = .ret (.int M0) := ⟨_, rfl, rfl⟩
      have e9 : kEq (.int M0) (.int N) = some false := by rw [eq_int, decide_eq_false (by omega)]
      simp [sSeq, sPar, eCall, lCons, lNil, eVar, bind_retP, kFn, eTup, Sl.e2, kAddF, eC, seqO_nx, seqO_rt, sIf, bOr, bCmp, mO, sPut, lStar, itemsOf, putD, imm, imm.immAll, oNone, oSome, eCut, sNx, eImm, chk, sSet, sDrop, sRet, bNot, bTru, tru, eCmp, eIsi, eAnd, eOr, eNot, onBl, le2, le4, lwPB, lwP0, lwP1, lwP2, is_tup, e7, e8, e9, s, alike_bl]
  cases hx with
  | lst ds =>
    obtain ⟨o17', r⟩ := wrong (.lst ds) (.inl rfl)
    exact ⟨_, _, o17', _, _, r⟩
  | non =>
    obtain ⟨o17', r⟩ := wrong .non (.inl rfl)
    exact ⟨_, _, o17', _, _, r⟩
  | tup vs =>
    by_cases hv : vs.length = (evs q).length
    · have hiff := evs_iff ok po h0 b
      have s := paper_run ok po h0 hd hf b.lr (fun v => by rw [es]; exact hiff v) e (vs := vs) (by rw [es]; exact hv)
      rw [es] at s
      have hK : ∀ v ∈ C.Ul, dGet (nums (evs q) vs) v = some (.int (numI (nums (evs q) vs) v)) := fun v hm => nums_get ok hiff hv hm
      have e8 : kLen [.tup (vs.map D.int)] = .ret (.int N) := by simp [sSeq, sPar, eCall, lCons, lNil, eVar, bind_retP, kFn, eTup, Sl.e2, kAddF, eC, seqO_nx, seqO_rt, sIf, bOr, bCmp, mO, sPut, lStar, itemsOf, putD, imm, imm.immAll, oNone, oSome, eCut, sNx, eImm, chk, sSet, sDrop, sRet, bNot, bTru, tru, eCmp, eIsi, eAnd, eOr, eNot, onBl, le2, le4, kLen, hv, hN]
      have e10 := kIx_dct (ok.isT h0) (ok.kOk h0) (hK c0 h0)
      have e11 := kIx_dct (ok.isT hd) (ok.kOk hd) (hK d hd)
      obtain ⟨o5', n1⟩ := nb_run (a := a) (l := l) (n := n) (o5 := o5) (c0 := c0) (d := d) (pr := pr) (o9 := o9) (o10 := o10) (o12 := o12) (o13 := some (.int p)) (o14 := o14) (o15 := o15) (o17 := some (.bl true)) (o18 := o18) (o19 := o19) (o21 := o21) ok (fun v hm => (hiff v).mp hm) hv l1
      obtain ⟨o12', o21', n3⟩ := eo_run (a := a) (l := l) (n := n) (o5 := o5') (c0 := c0) (d := d) (o9 := o9) (o10 := o10) (o11 := some (.lst (evs q))) (o13 := some (.int p)) (o14 := o14) (o15 := o15) (o16 := some (.tup (vs.map D.int))) (o18 := o18) (o19 := o19) ok po hK (evs q) o12 o21 (decide (numI (nums (evs q) vs) c0 = 0) && decide (numI (nums (evs q) vs) d = p)) fun v hm => (hiff v).mp hm
      have due : (decide (numI (nums (evs q) vs) c0 = 0) && decide (numI (nums (evs q) vs) d = p) && decide (∀ h ∈ evs q, ∀ t ∈ C.ts h, EdgeOk C (wOf pr) (nums (evs q) vs) h t)) = decide (PaperOk C (wOf pr) (evs q) vs c0 d p) := by
        unfold PaperOk
        rw [Bool.eq_iff_iff]
        simp [sSeq, sPar, eCall, lCons, lNil, eVar, bind_retP, kFn, eTup, Sl.e2, kAddF, eC, seqO_nx, seqO_rt, sIf, bOr, bCmp, mO, sPut, lStar, itemsOf, putD, imm, imm.immAll, oNone, oSome, eCut, sNx, eImm, chk, sSet, sDrop, sRet, bNot, bTru, tru, eCmp, eIsi, eAnd, eOr, eNot, onBl, le2, le4]
      rw [due] at n3
      generalize decide (PaperOk C (wOf pr) (evs q) vs c0 d p) = B at s n3
      refine ⟨o5', o12', some (.bl B), some (.dct (nums (evs q) vs)), o21', ?_⟩
      generalize nums (evs q) vs = K at e10 e11 n1 n3 hK
      generalize vs.map D.int = Y at s e8 n1 n3
      have p0 : lwP0 (R22 a l n o5 (some c0) (some (prD pr)) (some d) o9 o10 (some (.lst (evs q))) o12 (some (.int p)) o14 o15 (some (.tup Y)) o17 o18 o19 o20 o21) = .ret (.nx (R22 a l n o5 (some c0) (some (prD pr)) (some d) o9 o10 (some (.lst (evs q))) o12 (some (.int p)) o14 o15 (some (.tup Y)) (some (.bl true)) o18 o19 o20 o21)) := by
        simp [sSeq, sPar, eCall, lCons, lNil, eVar, bind_retP, kFn, eTup, Sl.e2, kAddF, eC, seqO_nx, seqO_rt, sIf, bOr, bCmp, mO, sPut, lStar, itemsOf, putD, imm, imm.immAll, oNone, oSome, eCut, sNx, eImm, chk, sSet, sDrop, sRet, bNot, bTru, tru, eCmp, eIsi, eAnd, eOr, eNot, onBl, le2, le4, lwP0, is_tup, e7, e8, eq_int]
      have n0 : lwN0 (R22 a l n o5 (some c0) (some (prD pr)) (some d) o9 o10 (some (.lst (evs q))) o12 (some (.int p)) o14 o15 (some (.tup Y)) (some (.bl true)) o18 o19 o20 o21) = .ret (.nx (R22 a l n o5 (some c0) (some (prD pr)) (some d) o9 o10 (some (.lst (evs q))) o12 (some (.int p)) o14 o15 (some (.tup Y)) (some (.bl true)) o18 o19 (some (.dct [])) o21)) := by
        simp [sSeq, sPar, eCall, lCons, lNil, eVar, bind_retP, kFn, eTup, Sl.e2, kAddF, eC, seqO_nx, seqO_rt, sIf, bOr, bCmp, mO, sPut, lStar, itemsOf, putD, imm, imm.immAll, oNone, oSome, eCut, sNx, eImm, chk, sSet, sDrop, sRet, bNot, bTru, tru, eCmp, eIsi, eAnd, eOr, eNot, onBl, le2, le4, lwN0, eDict0]
      have n2 : lwN2 (R22 a l n o5' (some c0) (some (prD pr)) (some d) o9 o10 (some (.lst (evs q))) o12 (some (.int p)) o14 o15 (some (.tup Y)) (some (.bl true)) o18 o19 (some (.dct K)) o21) = .ret (.nx (R22 a l n o5' (some c0) (some (prD pr)) (some d) o9 o10 (some (.lst (evs q))) o12 (some (.int p)) o14 o15 (some (.tup Y)) (some (.bl (decide (numI K c0 = 0) && decide (numI K d = p)))) o18 o19 (some (.dct K)) o21)) := by
        by_cases z : numI K c0 = 0 <;> simp [sSeq, sPar, eCall, lCons, lNil, eVar, bind_retP, kFn, eTup, Sl.e2, kAddF, eC, seqO_nx, seqO_rt, sIf, bOr, bCmp, mO, sPut, lStar, itemsOf, putD, imm, imm.immAll, oNone, oSome, eCut, sNx, eImm, chk, sSet, sDrop, sRet, bNot, bTru, tru, eCmp, eIsi, eAnd, eOr, eNot, onBl, le2, le4, lwN2, e10, e11, eq_int, z]
      have n3' : lwN3 (R22 a l n o5' (some c0) (some (prD pr)) (some d) o9 o10 (some (.lst (evs q))) o12 (some (.int p)) o14 o15 (some (.tup Y)) (some (.bl (decide (numI K c0 = 0) && decide (numI K d = p)))) o18 o19 (some (.dct K)) o21) = .ret (.nx (R22 a l n o5' (some c0) (some (prD pr)) (some d) o9 o10 (some (.lst (evs q))) o12' (some (.int p)) o14 o15 (some (.tup Y)) (some (.bl B)) o18 o19 (some (.dct K)) o21')) := by
        rw [← n3]
        simp [sSeq, sPar, eCall, lCons, lNil, eVar, bind_retP, kFn, eTup, Sl.e2, kAddF, eC, seqO_nx, seqO_rt, sIf, bOr, bCmp, mO, sPut, lStar, itemsOf, putD, imm, imm.immAll, oNone, oSome, eCut, sNx, eImm, chk, sSet, sDrop, sRet, bNot, bTru, tru, eCmp, eIsi, eAnd, eOr, eNot, onBl, le2, le4, lwN3, sFor, lVar, lNew, kItems]
      have p1 : lwP1 (R22 a l n o5 (some c0) (some (prD pr)) (some d) o9 o10 (some (.lst (evs q))) o12 (some (.int p)) o14 o15 (some (.tup Y)) (some (.bl true)) o18 o19 o20 o21) = .ret (.nx (R22 a l n o5' (some c0) (some (prD pr)) (some d) o9 o10 (some (.lst (evs q))) o12' (some (.int p)) o14 o15 (some (.tup Y)) (some (.bl B)) o18 o19 (some (.dct K)) o21')) := by
        have : lwP1 (R22 a l n o5 (some c0) (some (prD pr)) (some d) o9 o10 (some (.lst (evs q))) o12 (some (.int p)) o14 o15 (some (.tup Y)) (some (.bl true)) o18 o19 o20 o21) = (sSeq lwN0 (sSeq lwN1 (sSeq lwN2 lwN3))) (R22 a l n o5 (some c0) (some (prD pr)) (some d) o9 o10 (some (.lst (evs q))) o12 (some (.int p)) o14 o15 (some (.tup Y)) (some (.bl true)) o18 o19 o20 o21) := by
          unfold lwP1 sIf
          have ht : bTru (eVar 17) (R22 a l n o5 (some c0) (some (prD pr)) (some d) o9 o10 (some (.lst (evs q))) o12 (some (.int p)) o14 o15 (some (.tup Y)) (some (.bl true)) o18 o19 o20 o21) = .ret true := by simp [sSeq, sPar, eCall, lCons, lNil, eVar, bind_retP, kFn, eTup, Sl.e2, kAddF, eC, seqO_nx, seqO_rt, sIf, bOr, bCmp, mO, sPut, lStar, itemsOf, putD, imm, imm.immAll, oNone, oSome, eCut, sNx, eImm, chk, sSet, sDrop, sRet, bNot, bTru, tru, eCmp, eIsi, eAnd, eOr, eNot, onBl, le2, le4]
          rw [ht, bind_retP, if_pos rfl]
        rw [this, sSeq_nx n0, sSeq_nx n1, sSeq_nx n2, n3']
      have p2 : lwP2 (R22 a l n o5' (some c0) (some (prD pr)) (some d) o9 o10 (some (.lst (evs q))) o12' (some (.int p)) o14 o15 (some (.tup Y)) (some (.bl B)) o18 o19 (some (.dct K)) o21') = .ret (.nx (R22 a l n o5' (some c0) (some (prD pr)) (some d) o9 o10 (some (.lst (evs q))) o12' (some (.int p)) o14 o15 (some (.tup Y)) (some (.bl B)) o18 o19 (some (.dct K)) o21')) := by
        simp [sSeq, sPar, eCall, lCons, lNil, eVar, bind_retP, kFn, eTup, Sl.e2, kAddF, eC, seqO_nx, seqO_rt, sIf, bOr, bCmp, mO, sPut, lStar, itemsOf, putD, imm, imm.immAll, oNone, oSome, eCut, sNx, eImm, chk, sSet, sDrop, sRet, bNot, bTru, tru, eCmp, eIsi, eAnd, eOr, eNot, onBl, le2, le4, lwP2, s, alike_bl]
      unfold lwPB
      rw [sSeq_nx p0, sSeq_nx p1, p2]
    · obtain ⟨o17', r⟩ := wrong (.tup (vs.map D.int)) (.inr ⟨_, rfl, by rw [List.length_map]; exact hv⟩)
      exact ⟨_, _, o17', _, _, r⟩
theorem s14_run {f q : List (D × D)} (b : Both C (ok.gf po h0) f q) (hf : g_least_rows [c0, prD pr] = .ret (.dct f)) {p m : Int} {h t : D} (e : dGet f d = some (v4 p m h t)) {xs : List D} (hx : ∀ x ∈ xs, PapOk x) :
    lwS14 (R22 a l n o5 (some c0) (some (prD pr)) (some d) o9 o10 (some (.lst (evs q))) o12 (some (.int p)) o14 o15 o16 o17 o18 (some (.lst xs)) o20 o21) = .ret (.rt (.bl true)) := by
  obtain ⟨ρ', r, _⟩ := loopF_inv (g := gVar 16) (F := lwPB) (fun ys ρ => ∃ o5' o12' o16' o17' o20' o21', ρ = R22 a l n o5' (some c0) (some (prD pr)) (some d) o9 o10 (some (.lst (evs q))) o12' (some (.int p)) o14 o15 o16' o17' o18 (some (.lst xs)) o20' o21' ∧ ∀ y ∈ ys, PapOk y) (fun y ys ρ hI => by
    obtain ⟨o5', o12', o16', o17', o20', o21', rfl, hy⟩ := hI
    obtain ⟨p5, p12, p17, p20, p21, r⟩ := paper_step (a := a) (l := l) (n := n) (o5 := o5') (o9 := o9) (o10 := o10) (o12 := o12') (o14 := o14) (o15 := o15) (o17 := o17') (o18 := o18) (o19 := some (.lst xs)) (o20 := o20') (o21 := o21') ok po h0 hd b hf e (hy y (List.mem_cons_self ..))
    exact ⟨_, _, rfl, r, p5, p12, some y, p17, p20, p21, rfl, fun z hz => hy z (List.mem_cons_of_mem _ hz)⟩) xs _ ⟨o5, o12, o16, o17, o20, o21, rfl, hx⟩
  have e1 : lwFor (R22 a l n o5 (some c0) (some (prD pr)) (some d) o9 o10 (some (.lst (evs q))) o12 (some (.int p)) o14 o15 o16 o17 o18 (some (.lst xs)) o20 o21) = .ret (.nx ρ') := r
  unfold lwS14 sLess
  rw [sSeq_nx e1]
  rfl
end
end Sl
end S_Sr6
noncomputable section S_Sr7
set_option Elab.async false
set_option linter.all false
set_option maxRecDepth 100000
set_option maxHeartbeats 1000000
/-! law from its tables on. -/
namespace Sl
open PySem PySem.Spec PyProof.Rows L2
open Classical
noncomputable def lwTail : Sv := sSeq lwS3 (sSeq lwS4 (sSeq lwS5 (sSeq lwS6 (sSeq lwS7 (sSeq lwS8 (sSeq lwS9 (sSeq lwS10 (sSeq lwS11 (sSeq lwS12 (sSeq lwS13 lwS14))))))))))
theorem F_law_tail : F_law = sSeq lwS0 (sSeq lwS1 (sSeq lwS2 lwTail)) := F_law_parts
section
variable {C : Cl} (ok : C.Ok) {pr : List Int} (po : PrOk C pr) {c0 d : D} (h0 : c0 ∈ C.Ul)
variable {a l n o5 o9 o10 o11 o12 o13 o14 o15 o16 o17 o18 o19 o20 o21 : Option D}
include ok po h0
theorem tables : ∃ f q, g_least_rows [c0, prD pr] = .ret (.dct f) ∧ g__law_least [c0, prD pr] = .ret (.dct q) ∧ Both C (ok.gf po h0) f q := by
  obtain ⟨f, hf, l1⟩ := least_rows_ok ok po h0
  obtain ⟨q, hq, l2⟩ := law_least_ok ok po h0
  exact ⟨f, q, hf, hq, l1, l2⟩
theorem tail_same (hd : d ∈ C.Ul) : (lwTail (R22 a l (some (.int C.n)) o5 (some c0) (some (prD pr)) (some d) o9 o10 o11 o12 o13 o14 o15 o16 o17 o18 o19 o20 o21)).All fun o => o = .rt (.bl true) := by
  obtain ⟨f, q, hf, hq, b⟩ := tables ok po h0
  obtain ⟨p, m, h, t, e, eq, _⟩ := both_get ok po h0 b hd
  obtain ⟨ws, w1, w2, w3, w4⟩ := cheap_row_same ok po h0 hd hf b.lr e
  have hw := w2.like ok po h0
  have hin : kNotIn d (.dct q) = some false := by
    rw [kNotIn_dct (ok.isT hd) (ok.kOk hd), eq]
    rfl
  have hlen := evs_len ok po h0 b
  have hL1 : 1 ≤ (papV f q).length := by rw [List.length_map]; exact hlen.2
  have hL2 : (papV f q).length ≤ 30 := by rw [List.length_map]; exact hlen.1
  unfold lwTail
  rw [sSeq_nx (s3_run (f := f) ok po h0 hq w4), sSeq_nx (s4_run ok po h0 b), sSeq_nx (s5_run ok po h0 b hf (isTupNon ok po h0 _) hin), sSeq_nx (s6_same ok po h0), sSeq_nx (s7_run ok po h0 w3), sSeq_nx (s8_run ok po h0 hd eq w1 w2)]
  refine sSeq_all ?_
  rcases s9_all (a := a) (l := l) (n := some (.int C.n)) (o5 := o5) (pr := pr) (c0 := c0) (d := d) (o9 := some (.dct q)) (o10 := some (.tup [.int p, .tup ws])) (o11 := some (.lst (evs q))) (o12 := o12) (o13 := some (.int p)) (o14 := some (.tup ws)) (o15 := o15) (o16 := o16) (o17 := o17) (o18 := o18) (o19 := o19) (o20 := o20) (o21 := o21) (fo' := .non) ok with s9 | s9
  · refine s9.mono fun o ho => ?_
    obtain ⟨ss, rfl, hs, hsl⟩ := ho
    refine ⟨_, rfl, ?_⟩
    obtain ⟨o16', o17', e10⟩ := s10_run (a := a) (l := l) (o5 := o5) (o9 := some (.dct q)) (o11 := some (.lst (evs q))) (o12 := o12) (o16 := o16) (o17 := o17) (o18 := o18) (o19 := o19) (o20 := o20) (o21 := o21) ok po h0 hd hf e hw w1 hs hsl
    rw [sSeq_nx e10, sSeq_nx (s11_run ok po h0 hd b)]
    obtain ⟨xs, x1, x2, e12⟩ := s12_run (a := a) (l := l) (n := some (.int C.n)) (o5 := o5) (o9 := some (.dct q)) (o10 := some (.tup [.int p, .tup ws])) (o11 := some (.lst (evs q))) (o12 := o12) (o13 := some (.int p)) (o14 := some (.tup ws)) (o15 := some (.tup ss)) (o16 := o16') (o17 := o17') (o19 := o19) (o20 := o20) (o21 := o21) ok po h0 hd hL1 hL2
    rw [sSeq_nx e12]
    refine sSeq_all ((s13_all ok po h0 hd hL1 hL2 x1 x2).mono fun o ho => ?_)
    obtain ⟨o5', xs', rfl, hp⟩ := ho
    refine ⟨_, rfl, ?_⟩
    rw [s14_run ok po h0 hd b hf e hp]
    rfl
  · exact absurd h0 s9
theorem tail_other {C' : Cl} (ok' : C'.Ok) (kin : Kin C C') (hk : kNe C.ky C'.ky = some true) (hno : d ∉ C.Ul) (hd : d ∈ C'.Ul) : (lwTail (R22 a l n o5 (some c0) (some (prD pr)) (some d) o9 o10 o11 o12 o13 o14 o15 o16 o17 o18 o19 o20 o21)).All fun o => o = .rt (.bl true) := by
  obtain ⟨f, q, hf, hq, b⟩ := tables ok po h0
  have w4 := cheap_row_other ok ok' kin po hk h0 hd
  have hin : kNotIn d (.dct q) = some true := by
    rw [kNotIn_dct (ok'.isT hd) (ok'.kOk hd), dGet_none (ok'.ky' hd) (fun z => hno (b.lq.sub d z))]
    rfl
  unfold lwTail
  rw [sSeq_nx (s3_run (f := f) ok po h0 hq w4), sSeq_nx (s4_run ok po h0 b), sSeq_nx (s5_run ok po h0 b hf (x := .non) (z := true) rfl hin), sSeq_rt (s6_other ok po h0 ok' kin hk hd)]
  rfl
end
end Sl
end S_Sr7
noncomputable section S_Sq0
set_option Elab.async false
set_option linter.all false
set_option maxRecDepth 100000
/-! The steps once more, by recursors alone: the kernel works them out more quickly. -/
namespace Sl
open PySem PySem.Spec PyProof.Rows L2
def rget (ρ : Rho) : Nat → Option D := List.rec (motive := fun _ => Nat → Option D) (fun _ => none) (fun a _ ih n => Nat.rec (motive := fun _ => Option D) a (fun k _ => ih k) n) ρ
def rset (x : Option D) (ρ : Rho) : Nat → Rho := List.rec (motive := fun _ => Nat → Rho) (fun _ => []) (fun a l ih n => Nat.rec (motive := fun _ => Rho) (x :: l) (fun k _ => a :: ih k) n) ρ
theorem rget_eq : ∀ (ρ : Rho) (i : Nat), rget ρ i = (match ρ[i]? with
  | some (some d) => some d
  | _ => none)
  | [], _ => rfl
  | none :: _, 0 => rfl
  | some _ :: _, 0 => rfl
  | _ :: ρ, i + 1 => by
    rw [List.getElem?_cons_succ]
    exact rget_eq ρ i
theorem rset_eq (x : Option D) : ∀ (ρ : Rho) (i : Nat), rset x ρ i = ρ.set i x
  | [], _ => rfl
  | _ :: _, 0 => rfl
  | a :: ρ, i + 1 => by
    rw [List.set_cons_succ, ← rset_eq x ρ i]
    rfl
def eVarK (i : Nat) : Ev := fun ρ => Option.rec (motive := fun _ => M D) .fail (fun d => .ret d) (rget ρ i)
theorem eVar_eq : eVar = eVarK := by
  funext i ρ
  unfold eVar eVarK
  rw [rget_eq]
  cases ρ[i]? with
  | none => rfl
  | some x => cases x <;> rfl
def sSetK (i : Nat) (f : Ev) : Sv := fun ρ => (f ρ).bind fun d => .ret (.nx (rset (some d) ρ i))
theorem sSet_eq : sSet = sSetK := by
  funext i f ρ
  unfold sSet sSetK
  simp only [rset_eq]
def sParK (i j : Nat) (fa fb : Ev) : Sv := fun ρ => (fa ρ).bind fun a => (fb ρ).bind fun b => .ret (.nx (rset (some b) (rset (some a) ρ i) j))
theorem sPar_eq : sPar = sParK := by
  funext i j f g ρ
  unfold sPar sParK
  simp only [rset_eq]
def sPar3K (i j l : Nat) (fa fb fc : Ev) : Sv := fun ρ => (fa ρ).bind fun a => (fb ρ).bind fun b => (fc ρ).bind fun c => .ret (.nx (rset (some c) (rset (some b) (rset (some a) ρ i) j) l))
theorem sPar3_eq : sPar3 = sPar3K := by
  funext i j l f g h ρ
  unfold sPar3 sPar3K
  simp only [rset_eq]
def sMoveK (i j : Nat) : Sv := fun ρ => Option.rec (motive := fun _ => M Out) .fail (fun d => .ret (.nx (rset none (rset (some d) ρ i) j))) (rget ρ j)
theorem sMove_eq : sMove = sMoveK := by
  funext i j ρ
  unfold sMove sMoveK
  simp only [rset_eq, rget_eq]
  cases ρ[j]? with
  | none => rfl
  | some x => cases x <;> rfl
def gVarK (i : Nat) : Gv := fun d ρ => .ret (rset (some d) ρ i)
theorem gVar_eq : gVar = gVarK := by
  funext i d ρ
  unfold gVar gVarK
  rw [rset_eq]
def gTup2K (i j : Nat) : Gv := fun d ρ => match d with
  | .tup [a, b] => .ret (rset (some b) (rset (some a) ρ i) j)
  | _ => .fail
theorem gTup2_eq : gTup2 = gTup2K := by
  funext i j d ρ
  unfold gTup2 gTup2K
  simp only [rset_eq]
  try rfl
def allN : List D → Nat → Bool := fun l => List.rec (motive := fun _ => Nat → Bool) (fun _ => true) (fun _ _ ih n => Nat.rec (motive := fun _ => Bool) false (fun k _ => ih k) n) l
theorem allN_ok : ∀ (l : List D) (n : Nat), allN l n = true → l.length ≤ n
  | [], _, _ => Nat.zero_le _
  | _ :: _, 0, h => by cases h
  | _ :: l, n + 1, h => Nat.succ_le_succ (allN_ok l n h)
theorem szK {l : List D} (h : allN l 1000 = true) : l.length < sizeLine := by
  have := allN_ok l 1000 h
  rw [sizeLine_eq]
  omega
def appK (i : Nat) (ρ : Rho) (ds : List D) (d : D) : M Out := Bool.rec (motive := fun _ => M Out) (appD i ρ ds d) (Bool.rec (motive := fun _ => M Out) (appD i ρ ds d) (.ret (.nx (rset (some (.lst (ds ++ [d]))) ρ i))) (allN ds 1000)) (imm d)
theorem appK_eq (i : Nat) (ρ : Rho) (ds : List D) (d : D) : appD i ρ ds d = appK i ρ ds d := by
  unfold appK
  cases h : imm d with
  | false => rfl
  | true => cases h2 : allN ds 1000 with
    | false => rfl
    | true =>
      show appD i ρ ds d = .ret (.nx (rset (some (.lst (ds ++ [d]))) ρ i))
      unfold appD
      rw [if_pos ⟨h, szK h2⟩, rset_eq]
def lstOf : D → Option (List D)
  | .lst ds => some ds
  | _ => none
def sAppK (i : Nat) (f : Ev) : Sv := fun ρ => Option.rec (motive := fun _ => M Out) .fail (fun x => Option.rec (motive := fun _ => M Out) .fail (fun ds => (f ρ).bind (appK i ρ ds)) (lstOf x)) (rget ρ i)
theorem sApp_eq : sApp = sAppK := by
  funext i f ρ
  unfold sApp sAppK
  rw [rget_eq]
  cases ρ[i]? with
  | none => rfl
  | some x => cases x with
    | none => rfl
    | some d => cases d with
      | lst ds =>
        show (f ρ).bind (appD i ρ ds) = (f ρ).bind (appK i ρ ds)
        congr 1
        funext d
        exact appK_eq i ρ ds d
      | _ => rfl
def sSeqK (F G : Sv) : Sv := fun ρ => (F ρ).bind fun o => Out.rec (motive := fun _ => M Out) (fun ρ => G ρ) (fun d => .ret (.rt d)) (fun ρ => .ret (.bk ρ)) (fun ρ => .ret (.ct ρ)) o
theorem sSeq_eq : sSeq = sSeqK := by
  funext F G ρ
  unfold sSeq sSeqK
  congr 1
  funext o
  cases o <;> rfl
theorem ite_rec {T : Type} (b : Bool) (x y : T) : (if b = true then x else y) = Bool.rec (motive := fun _ => T) y x b := by cases b <;> rfl
def sIfK (c : EvB) (F G : Sv) : Sv := fun ρ => (c ρ).bind fun b => Bool.rec (motive := fun _ => M Out) (G ρ) (F ρ) b
theorem sIf_eq : sIf = sIfK := by
  funext c F G ρ
  unfold sIf sIfK
  simp only [ite_rec]
def bAndK (f g : EvB) : EvB := fun ρ => (f ρ).bind fun b => Bool.rec (motive := fun _ => M Bool) (.ret false) (g ρ) b
theorem bAnd_eq : bAnd = bAndK := by
  funext f g ρ
  unfold bAnd bAndK
  simp only [ite_rec]
def bOrK (f g : EvB) : EvB := fun ρ => (f ρ).bind fun b => Bool.rec (motive := fun _ => M Bool) (g ρ) (.ret true) b
theorem bOr_eq : bOr = bOrK := by
  funext f g ρ
  unfold bOr bOrK
  simp only [ite_rec]
def loopOK (next : Rho → M Out) (o : Out) : M Out := Out.rec (motive := fun _ => M Out) (fun ρ => next ρ) (fun d => .ret (.rt d)) (fun ρ => .ret (.nx ρ)) (fun ρ => next ρ) o
theorem loopOK_eq (next : Rho → M Out) (o : Out) : loopO next o = loopOK next o := by cases o <;> rfl
def loopFK (g : Gv) (F : Sv) (ds : List D) : Rho → M Out := List.rec (motive := fun _ => Rho → M Out) (fun ρ => .ret (.nx ρ)) (fun d _ ih ρ => (g d ρ).bind fun ρ1 => (F ρ1).bind (loopOK ih)) ds
theorem loopFK_eq (g : Gv) (F : Sv) : ∀ (ds : List D) (ρ : Rho), loopF g F ds ρ = loopFK g F ds ρ
  | [], _ => rfl
  | d :: ds, ρ => by
    show ((g d ρ).bind fun ρ1 => (F ρ1).bind (loopO (loopF g F ds))) = (g d ρ).bind fun ρ1 => (F ρ1).bind (loopOK (loopFK g F ds))
    congr 1
    funext ρ1
    congr 1
    funext o
    rw [loopOK_eq, show loopF g F ds = loopFK g F ds from funext (loopFK_eq g F ds)]
def sForK (g : Gv) (f : EvL) (F : Sv) : Sv := fun ρ => (f ρ).bind fun ds => loopFK g F ds ρ
theorem sFor_eq : sFor = sForK := by
  funext g f F ρ
  unfold sFor sForK
  simp only [loopFK_eq]
def whileFK (c : EvB) (F : Sv) (n : Nat) : Sv := Nat.rec (motive := fun _ => Sv) (fun _ => .fail) (fun _ ih ρ => (c ρ).bind fun b => Bool.rec (motive := fun _ => M Out) (.ret (.nx ρ)) ((F ρ).bind (loopOK ih)) b) n
theorem whileFK_eq (c : EvB) (F : Sv) : ∀ (n : Nat) (ρ : Rho), whileF c F n ρ = whileFK c F n ρ
  | 0, _ => rfl
  | n + 1, ρ => by
    show ((c ρ).bind fun b => if b = true then (F ρ).bind (loopO (whileF c F n)) else .ret (.nx ρ)) = (c ρ).bind fun b => Bool.rec (motive := fun _ => M Out) (.ret (.nx ρ)) ((F ρ).bind (loopOK (whileFK c F n))) b
    congr 1
    funext b
    rw [ite_rec, show whileF c F n = whileFK c F n from funext (whileFK_eq c F n), show loopO (whileFK c F n) = loopOK (whileFK c F n) from funext (loopOK_eq _)]
def sWhileK (fu : Rho → Nat) (c : EvB) (F : Sv) : Sv := fun ρ => whileFK c F (fu ρ) ρ
theorem sWhile_eq : sWhile = sWhileK := by
  funext fu c F ρ
  unfold sWhile sWhileK
  rw [whileFK_eq]
def chkK' (d : D) : M D := Bool.rec (motive := fun _ => M D) .fail (.ret d) (imm d)
theorem chkK'_eq (d : D) : chk d = chkK' d := by
  unfold chk chkK'
  rw [ite_rec]
def eImmK (f : Ev) : Ev := fun ρ => (f ρ).bind chkK'
theorem eImm_eq : eImm = eImmK := by
  funext f ρ
  unfold eImm eImmK
  rw [show chk = chkK' from funext chkK'_eq]
def lcGoK (gv : Gv) (ft : EvB) (f : Ev) (ds : List D) (ρ : Rho) : M (List D) := List.rec (motive := fun _ => M (List D)) (.ret []) (fun d _ ih => (gv d ρ).bind fun ρ1 => (ft ρ1).bind fun b => Bool.rec (motive := fun _ => M (List D)) ih ((f ρ1).bind fun y => (chkK' y).bind fun y => ih.bind fun ys => .ret (y :: ys)) b) ds
theorem lcGoK_eq (gv : Gv) (ft : EvB) (f : Ev) : ∀ (ds : List D) (ρ : Rho), lcGo gv ft f ds ρ = lcGoK gv ft f ds ρ
  | [], _ => rfl
  | d :: ds, ρ => by
    show ((gv d ρ).bind fun ρ1 => (ft ρ1).bind fun b => if b = true then (f ρ1).bind fun y => (chk y).bind fun y => (lcGo gv ft f ds ρ).bind fun ys => .ret (y :: ys) else lcGo gv ft f ds ρ) =
      (gv d ρ).bind fun ρ1 => (ft ρ1).bind fun b => Bool.rec (motive := fun _ => M (List D)) (lcGoK gv ft f ds ρ) ((f ρ1).bind fun y => (chkK' y).bind fun y => (lcGoK gv ft f ds ρ).bind fun ys => .ret (y :: ys)) b
    rw [← lcGoK_eq gv ft f ds ρ]
    simp only [ite_rec, chkK'_eq]
def wipeK (ρ : Rho) (vs : List Nat) : Rho := List.rec (motive := fun _ => Rho) ρ (fun v _ ih => rset none ih v) vs
theorem wipeK_eq (ρ : Rho) : ∀ vs : List Nat, wipeR ρ vs = wipeK ρ vs
  | [] => rfl
  | v :: vs => by
    show (wipeR ρ vs).set v none = rset none (wipeK ρ vs) v
    rw [rset_eq, wipeK_eq ρ vs]
def eLcK (vs : List Nat) (fi : EvL) (gv : Gv) (ft : EvB) (f : Ev) : Ev := fun ρ => (fi ρ).bind fun ds => Bool.rec (motive := fun _ => M D) (if ds.length ≤ sizeLine then (lcGoK gv ft f ds (wipeK ρ vs)).bind fun xs => .ret (.lst xs) else .fail) ((lcGoK gv ft f ds (wipeK ρ vs)).bind fun xs => .ret (.lst xs)) (allN ds 1000)
theorem eLc_eq : eLc = eLcK := by
  funext vs fi gv ft f ρ
  unfold eLc eLcK
  congr 1
  funext ds
  rw [lcGoK_eq, wipeK_eq]
  cases h : allN ds 1000 with
  | false => rfl
  | true => exact if_pos (Nat.le_of_lt (szK h))
def lVarK (j : Nat) : EvL := lNew (eVarK j)
theorem lVar_eq : lVar = lVarK := by
  funext j
  unfold lVar lVarK
  rw [eVar_eq]
def qGoK (q : Bool) (gv : Gv) (f : Ev) (ds : List D) (ρ : Rho) : M Bool := List.rec (motive := fun _ => M Bool) (.ret q) (fun d _ ih => (gv d ρ).bind fun ρ1 => (f ρ1).bind (onBl fun b => Bool.rec (motive := fun _ => M Bool) (.ret (!q)) ih (b == q))) ds
theorem qGoK_eq (q : Bool) (gv : Gv) (f : Ev) : ∀ (ds : List D) (ρ : Rho), qGo q gv f ds ρ = qGoK q gv f ds ρ
  | [], _ => rfl
  | d :: ds, ρ => by
    show ((gv d ρ).bind fun ρ1 => (f ρ1).bind (onBl fun b => if b = q then qGo q gv f ds ρ else .ret (!q))) =
      (gv d ρ).bind fun ρ1 => (f ρ1).bind (onBl fun b => Bool.rec (motive := fun _ => M Bool) (.ret (!q)) (qGoK q gv f ds ρ) (b == q))
    rw [← qGoK_eq q gv f ds ρ]
    congr 1
    funext ρ1
    congr 1
    congr 1
    funext b
    cases b <;> cases q <;> rfl
def eQK (q : Bool) (vs : List Nat) (fi : EvL) (gv : Gv) (f : Ev) : Ev := fun ρ => (fi ρ).bind fun ds => (qGoK q gv f ds (wipeK ρ vs)).bind fun b => .ret (.bl b)
theorem eQ_eq : eQ = eQK := by
  funext q vs fi gv f ρ
  unfold eQ eQK
  simp only [qGoK_eq, wipeK_eq]
end Sl
end S_Sq0
noncomputable section S_Sq1
set_option Elab.async false
set_option linter.all false
set_option maxRecDepth 100000
/-! What the kernel can work out quickly: sorted whole numbers, near from a table, the takings. -/
namespace Sl
open PySem PySem.Spec PyProof.Rows L2
def ins (a : Int) : List Int → List Int
  | [] => [a]
  | b :: l => if a ≤ b then a :: b :: l else b :: ins a l
def isrt : List Int → List Int
  | [] => []
  | a :: l => ins a (isrt l)
theorem ins_perm (a : Int) : ∀ l : List Int, (ins a l).Perm (a :: l)
  | [] => .refl _
  | b :: l => by
    unfold ins
    split
    · exact .refl _
    · exact ((ins_perm a l).cons b).trans (List.Perm.swap a b l)
theorem isrt_perm : ∀ l : List Int, (isrt l).Perm l
  | [] => .refl _
  | a :: l => (ins_perm a _).trans ((isrt_perm l).cons a)
theorem ins_sorted (a : Int) : ∀ l : List Int, l.Pairwise (· ≤ ·) → (ins a l).Pairwise (· ≤ ·)
  | [], _ => List.pairwise_singleton _ _
  | b :: l, h => by
    unfold ins
    rw [List.pairwise_cons] at h
    split
    · rename_i q
      rw [List.pairwise_cons, List.pairwise_cons]
      refine ⟨fun x hx => ?_, h⟩
      rcases List.mem_cons.mp hx with rfl | hx
      · exact q
      · have := h.1 x hx; omega
    · rename_i q
      rw [List.pairwise_cons]
      refine ⟨fun x hx => ?_, ins_sorted a l h.2⟩
      rcases List.mem_cons.mp ((ins_perm a l).mem_iff.mp hx) with rfl | hx
      · omega
      · exact h.1 x hx
theorem isrt_sorted : ∀ l : List Int, (isrt l).Pairwise (· ≤ ·)
  | [] => .nil
  | a :: l => ins_sorted a _ (isrt_sorted l)
theorem srt_ints (l : List Int) : srt (l.map D.int) = (isrt l).map D.int := by
  have e0 : ∀ a b : Int, decide (a ≤ b) = PySem.W.dataLe false toPy (D.int a) (D.int b) := by
    intro a b
    show _ = (!PySem.W.dataLt (.int b) (.int a))
    rw [PySem.W.dataLt_int, PySem.W.not_lt_int]
  have e1 := List.map_mergeSort (f := D.int) (r := fun a b => decide (a ≤ b)) (s := PySem.W.dataLe false toPy) (l := l) fun a _ b _ => e0 a b
  unfold srt
  rw [← e1]
  congr 1
  have s1 := List.pairwise_mergeSort (le := fun a b : Int => decide (a ≤ b)) (fun a b c h1 h2 => by rw [decide_eq_true_eq] at *; omega) (fun a b => by rw [Bool.or_eq_true, decide_eq_true_eq, decide_eq_true_eq]; omega) l
  refine List.Perm.eq_of_pairwise (le := fun a b : Int => a ≤ b) (fun a b _ _ h1 h2 => by omega) (s1.imp fun h => of_decide_eq_true h) (isrt_sorted l) ((List.mergeSort_perm _ _).trans (isrt_perm l).symm)
theorem imm_ints : ∀ l : List Int, imm.immAll (l.map D.int) = true
  | [] => rfl
  | _ :: l => imm_ints l
theorem srtOk_ints (l : List Int) : srtOk (l.map D.int) = true := by
  unfold srtOk
  rw [Bool.and_eq_true, List.all_eq_true]
  constructor
  · intro d hd
    obtain ⟨i, _, rfl⟩ := List.mem_map.mp hd
    rw [Bool.and_eq_true, List.all_eq_true]
    refine ⟨rfl, fun d' hd' => ?_⟩
    obtain ⟨j, _, rfl⟩ := List.mem_map.mp hd'
    simp [toPy, PySem.W.alike]
  · rw [Bool.or_eq_true]
    right
    rw [List.all_eq_true]
    intro d hd
    obtain ⟨i, _, rfl⟩ := List.mem_map.mp hd
    rfl
def kSortedK (ds : List D) : M D := match ds with
  | [.lst xs] => match intsOf xs with
    | some l => .ret (.lst ((isrt l).map D.int))
    | none => kSorted ds
  | _ => kSorted ds
theorem kSorted_eq : kSorted = kSortedK := by
  funext ds
  unfold kSortedK
  split
  · rename_i xs
    split
    · rename_i l h
      rw [intsOf_some h]
      show (if (imm.immAll (l.map D.int) && srtOk (l.map D.int)) = true then M.ret (D.lst (srt (l.map D.int))) else .fail) = _
      rw [imm_ints, srtOk_ints, srt_ints]
      rfl
    · rfl
  · rfl
theorem eqv_ii (x y : Nat) : PyData.eqv (toPy (.int (.ofNat y))) (toPy (.int (.ofNat x))) = Nat.beq y x := by
  have e : PyData.eqv (toPy (.int (.ofNat y))) (toPy (.int (.ofNat x))) = ((Int.ofNat y) == (Int.ofNat x)) := by simp [toPy, PyData.eqv]
  rw [e, Bool.eq_iff_iff, beq_iff_eq, Nat.beq_eq]
  exact ⟨fun h => Int.ofNat.inj h, fun h => by rw [h]⟩
def allI : List D → Bool
  | [] => true
  | .int _ :: l => allI l
  | _ => false
def anyI (x : Nat) : List D → Option Bool
  | [] => some false
  | .int (.ofNat y) :: l => match Nat.beq y x with
    | true => (match allI l with
      | true => some true
      | false => none)
    | false => anyI x l
  | _ => none
theorem allI_ok (n : Nat) : ∀ l : List D, allI l = true → eqables n l = true
  | [], _ => by simp [eqables]
  | .int _ :: l, h => by
    have := allI_ok n l h
    simp [eqables, eqable, this]
  | .non :: _, h => by cases h
  | .bl _ :: _, h => by cases h
  | .tup _ :: _, h => by cases h
  | .lst _ :: _, h => by cases h
  | .dct _ :: _, h => by cases h
  | .row :: _, h => by cases h
theorem anyI_ok (n x : Nat) : ∀ (l : List D) (r : Bool), anyI x l = some r → eqables n l = true ∧ (l.any fun z => PyData.eqv (toPy z) (toPy (.int (.ofNat x)))) = r
  | [], r, h => by
    cases h
    exact ⟨by simp [eqables], rfl⟩
  | .int (.ofNat y) :: l, r, h => by
    unfold anyI at h
    rw [List.any_cons, eqv_ii]
    split at h
    · rename_i q
      split at h
      · rename_i q2
        cases h
        have := allI_ok n l q2
        exact ⟨by simp [eqables, eqable, this], by rw [q]; rfl⟩
      · cases h
    · rename_i q
      obtain ⟨h1, h2⟩ := anyI_ok n x l r h
      exact ⟨by simp [eqables, eqable, h1], by rw [q, h2]; rfl⟩
  | .int (.negSucc _) :: _, _, h => by cases h
  | .non :: _, _, h => by cases h
  | .bl _ :: _, _, h => by cases h
  | .tup _ :: _, _, h => by cases h
  | .lst _ :: _, _, h => by cases h
  | .dct _ :: _, _, h => by cases h
  | .row :: _, _, h => by cases h
def kInK (a b : D) : Option Bool := match a, b with
  | .int (.ofNat x), .lst ds => (match anyI x ds with
    | some r => some r
    | none => kIn (.int (.ofNat x)) (.lst ds))
  | a, b => kIn a b
theorem kIn_eq : kIn = kInK := by
  funext a b
  unfold kInK
  split
  · rename_i x ds
    split
    · rename_i r h
      obtain ⟨h1, h2⟩ := anyI_ok 19 x ds r h
      have e : (eqable 20 (.int (.ofNat x)) && eqable 20 (.lst ds)) = true := by simp [eqable, h1]
      unfold kIn
      simp only [e, if_true, h2]
    · rfl
  · rfl
def kNotInK (a b : D) : Option Bool := match kInK a b with
  | some r => some (!r)
  | none => none
theorem kNotIn_eq : kNotIn = kNotInK := by
  funext a b
  unfold kNotIn kNotInK
  rw [kIn_eq]
  cases kInK a b <;> rfl
def kEqK (a b : D) : Option Bool := match a, b with
  | .int (.ofNat x), .int (.ofNat y) => some (Nat.beq x y)
  | a, b => kEq a b
theorem kEq_eq : kEq = kEqK := by
  funext a b
  unfold kEqK
  split
  · rename_i x y
    have e : (eqable 20 (.int (.ofNat x)) && eqable 20 (.int (.ofNat y))) = true := by simp [eqable]
    unfold kEq
    simp only [e, if_true, eqv_ii]
  · rfl
def kNeK (a b : D) : Option Bool := match a, b with
  | .int (.ofNat x), .int (.ofNat y) => some (!Nat.beq x y)
  | .lst [], .lst [] => some false
  | .lst (x :: xs), .lst [] => (match allI (x :: xs) with
    | true => some true
    | false => kNe (.lst (x :: xs)) (.lst []))
  | a, b => kNe a b
theorem kNe_eq : kNe = kNeK := by
  funext a b
  unfold kNeK
  split
  · rename_i x y
    have e : (eqable 20 (.int (.ofNat x)) && eqable 20 (.int (.ofNat y))) = true := by simp [eqable]
    unfold kNe
    simp only [e, if_true, eqv_ii]
  · simp [kNe, eqable, eqables, toPy, toPys, PyData.eqv, PyData.eqvAll]
  · rename_i x xs
    split
    · rename_i h
      have h1 := allI_ok 19 _ h
      have e : (eqable 20 (.lst (x :: xs)) && eqable 20 (.lst [])) = true := by
        show (eqables 19 (x :: xs) && true) = true
        rw [h1]
        rfl
      unfold kNe
      simp only [e, if_true]
      simp [toPy, toPys, PyData.eqv, PyData.eqvAll]
    · rfl
  · rfl
def nth {T : Type} (d : T) : List T → Nat → T
  | [], _ => d
  | a :: _, 0 => a
  | _ :: l, n + 1 => nth d l n
theorem nth_out {T : Type} (d : T) : ∀ (l : List T) (n : Nat), l.length ≤ n → nth d l n = d
  | [], _, _ => rfl
  | _ :: l, 0, h => by cases h
  | _ :: l, n + 1, h => nth_out d l n (Nat.le_of_succ_le_succ h)
theorem nth_nil {T : Type} (d : T) (n : Nat) : nth d [] n = d := nth_out d [] n (Nat.zero_le _)
def at3 (tab : List (List (List (List D)))) (a l c : Nat) : List D := nth [] (nth [] (nth [] tab a) l) c
def byTab (tab : List (List (List (List D)))) (g : List D → M D) (ds : List D) : M D := match ds with
  | [.int (.ofNat a), .int (.ofNat l), .int (.ofNat c)] => (match at3 tab a l c with
    | [] => g ds
    | x :: xs => .ret (.lst (x :: xs)))
  | _ => g ds
def tabOk (tab : List (List (List (List D)))) (g : List D → M D) : Bool := decide (tab.length ≤ 5) && (List.range 5).all fun a => decide ((nth [] tab a).length ≤ 3) && (List.range 3).all fun l => decide ((nth [] (nth [] tab a) l).length ≤ 9) && (List.range 9).all fun c => match at3 tab a l c with
  | [] => true
  | x :: xs => isRet (.lst (x :: xs)) (g [.int (.ofNat a), .int (.ofNat l), .int (.ofNat c)])
theorem tabOk_ok {tab : List (List (List (List D)))} {g : List D → M D} (h : tabOk tab g = true) {a l c : Nat} {x : D} {xs : List D} (e : at3 tab a l c = x :: xs) : g [.int (.ofNat a), .int (.ofNat l), .int (.ofNat c)] = .ret (.lst (x :: xs)) := by
  unfold tabOk at h
  rw [Bool.and_eq_true, decide_eq_true_eq, List.all_eq_true] at h
  obtain ⟨h0, h⟩ := h
  by_cases ha : a < 5
  · have h1 := h a (List.mem_range.mpr ha)
    rw [Bool.and_eq_true, decide_eq_true_eq, List.all_eq_true] at h1
    obtain ⟨h1, h2⟩ := h1
    by_cases hl : l < 3
    · have h3 := h2 l (List.mem_range.mpr hl)
      rw [Bool.and_eq_true, decide_eq_true_eq, List.all_eq_true] at h3
      obtain ⟨h3, h4⟩ := h3
      by_cases hc : c < 9
      · have h5 := h4 c (List.mem_range.mpr hc)
        rw [e] at h5
        exact isRet_eq h5
      · exfalso
        unfold at3 at e
        rw [nth_out [] _ c (by omega)] at e
        cases e
    · exfalso
      unfold at3 at e
      rw [nth_out [] _ l (by omega), nth_nil] at e
      cases e
  · exfalso
    unfold at3 at e
    rw [nth_out [] tab a (by omega), nth_nil, nth_nil] at e
    cases e
theorem byTab_eq {tab : List (List (List (List D)))} {g g' : List D → M D} (e : g = g') (h : tabOk tab g' = true) : g = byTab tab g := by
  funext ds
  unfold byTab
  split
  · split
    · rfl
    · rename_i q
      rw [e]
      exact tabOk_ok h q
  · rfl
def F__law_nearS : Sv := (sSeq (sSet 3 (eLst lNil))
 (sSeq (sFor (gVar 4) (lRange (lCons (eVar 0) lNil))
 (sFor (gVar 5) (lRange (lCons (eVar 1) lNil))
 (sSeq (sSet 6 (eAddF (eAddF (eC (.int 1)) (eMul (eVar 4) (eVar 1))) (eVar 5)))
 (sSeq (sSet 7 (eIf (bCmp kEq (eVar 5) (eC (.int 0))) (eC (.int 0)) (eSub (eVar 6) (eC (.int 1)))))
 (sSeq (sIf (bCmp kEq (eVar 2) (eVar 7))
 (sApp 3 (eVar 6))
 sNx)
 (sIf (bCmp kEq (eVar 2) (eVar 6))
 (sApp 3 (eVar 7))
 sNx))))))
 (sRet (eCall kSortedK (lCons (eVar 3) lNil)))))
def g__law_nearS : List D → M D := gOf N__law_near F__law_nearS
theorem g__law_nearS_eq : g__law_near = g__law_nearS := by
  have e : F__law_near = F__law_nearS := by unfold F__law_near F__law_nearS; rw [kSorted_eq]
  unfold g__law_near g__law_nearS
  rw [e]
def lawTab : List (List (List (List D))) := [[], [], [], [[], [[.int (.ofNat 1), .int (.ofNat 2), .int (.ofNat 3)], [.int (.ofNat 0)], [.int (.ofNat 0)], [.int (.ofNat 0)]], [[.int (.ofNat 1), .int (.ofNat 3), .int (.ofNat 5)], [.int (.ofNat 0), .int (.ofNat 2)], [.int (.ofNat 1)], [.int (.ofNat 0), .int (.ofNat 4)], [.int (.ofNat 3)], [.int (.ofNat 0), .int (.ofNat 6)], [.int (.ofNat 5)]]], [[], [[.int (.ofNat 1), .int (.ofNat 2), .int (.ofNat 3), .int (.ofNat 4)], [.int (.ofNat 0)], [.int (.ofNat 0)], [.int (.ofNat 0)], [.int (.ofNat 0)]], [[.int (.ofNat 1), .int (.ofNat 3), .int (.ofNat 5), .int (.ofNat 7)], [.int (.ofNat 0), .int (.ofNat 2)], [.int (.ofNat 1)], [.int (.ofNat 0), .int (.ofNat 4)], [.int (.ofNat 3)], [.int (.ofNat 0), .int (.ofNat 6)], [.int (.ofNat 5)], [.int (.ofNat 0), .int (.ofNat 8)], [.int (.ofNat 7)]]]]
def nearTab : List (List (List (List D))) := [[], [], [], [[], [[.int (.ofNat 1), .int (.ofNat 2), .int (.ofNat 3)], [.int (.ofNat 0)], [.int (.ofNat 0)], [.int (.ofNat 0)]], [[.int (.ofNat 1), .int (.ofNat 3), .int (.ofNat 5)], [.int (.ofNat 0), .int (.ofNat 2)], [.int (.ofNat 1)], [.int (.ofNat 0), .int (.ofNat 4)], [.int (.ofNat 3)], [.int (.ofNat 0), .int (.ofNat 6)], [.int (.ofNat 5)]]], [[], [[.int (.ofNat 1), .int (.ofNat 2), .int (.ofNat 3), .int (.ofNat 4)], [.int (.ofNat 0)], [.int (.ofNat 0)], [.int (.ofNat 0)], [.int (.ofNat 0)]], [[.int (.ofNat 1), .int (.ofNat 3), .int (.ofNat 5), .int (.ofNat 7)], [.int (.ofNat 0), .int (.ofNat 2)], [.int (.ofNat 1)], [.int (.ofNat 0), .int (.ofNat 4)], [.int (.ofNat 3)], [.int (.ofNat 0), .int (.ofNat 6)], [.int (.ofNat 5)], [.int (.ofNat 0), .int (.ofNat 8)], [.int (.ofNat 7)]]]]
theorem g__law_near_tab : g__law_near = byTab lawTab g__law_near := byTab_eq g__law_nearS_eq (by decide +kernel)
theorem g_near_tab : g_near = byTab nearTab g_near := byTab_eq rfl (by decide +kernel)
def nearL : List D → M D := byTab lawTab g__law_near
def nearP : List D → M D := byTab nearTab g_near
theorem nearL_eq : g__law_near = nearL := g__law_near_tab
theorem nearP_eq : g_near = nearP := g_near_tab
def F__law_hangsK : Sv := (sSeqK (sTgt0 (gTup2K 3 4) (eTup (lCons (eCut (eVarK 2) oNone (oSome (eC (.int 1)))) (lCons (eCut (eVarK 2) oNone (oSome (eC (.int 1)))) lNil))))
 (sSeqK (sWhileK (fun _ => 40) (bCmp kNeK (eVarK 4) (eLst lNil))
 (sSeqK (sSetK 5 (eLst lNil))
 (sSeqK (sForK (gVarK 6) (lVarK 4)
 (sSetK 5 (eAddF (eVarK 5) (eLcK [7] (lNew (eCall (kFn 3 nearL) (lCons (eVarK 0) (lCons (eVarK 1) (lCons (eVarK 6) lNil))))) (gVarK 7) (bAndK (bCmp kInK (eVarK 7) (eVarK 2)) (bAndK (bCmp kNotInK (eVarK 7) (eVarK 3)) (bCmp kNotInK (eVarK 7) (eVarK 5)))) (eVarK 7)))))
 (sTgt0 (gTup2K 3 4) (eTup (lCons (eAddF (eVarK 3) (eVarK 5)) (lCons (eVarK 5) lNil)))))))
 (sRet (eAnd (eCmp kNeK (eVarK 2) (eLst lNil)) (eCmp kEqK (eCall kLen (lCons (eVarK 3) lNil)) (eCall kLen (lCons (eVarK 2) lNil)))))))
def g__law_hangsK : List D → M D := gOf N__law_hangs F__law_hangsK
theorem g__law_hangsK_eq : g__law_hangs = g__law_hangsK := by
  have e : F__law_hangs = F__law_hangsK := by
    unfold F__law_hangs F__law_hangsK
    try rw [nearL_eq]
    try rw [kIn_eq]
    try rw [kNotIn_eq]
    try rw [kEq_eq]
    try rw [kNe_eq]
    try rw [eVar_eq]
    try rw [sSet_eq]
    try rw [sPar_eq]
    try rw [sPar3_eq]
    try rw [sMove_eq]
    try rw [gVar_eq]
    try rw [gTup2_eq]
    try rw [sApp_eq]
    try rw [sSeq_eq]
    try rw [sIf_eq]
    try rw [bAnd_eq]
    try rw [bOr_eq]
    try rw [sFor_eq]
    try rw [sWhile_eq]
    try rw [eLc_eq]
    try rw [lVar_eq]
    try rw [eQ_eq]
    try rw [eImm_eq]
  unfold g__law_hangs g__law_hangsK
  rw [e]
def F__law_takingsK : Sv := (sSeqK (sTgt0 (gTup2K 1 2) (eImmK (eVarK 0)))
 (sSeqK (sParK 3 4 (eDiv (eSub (eCall kLen (lCons (eVarK 2) lNil)) (eC (.int 1))) (eVarK 1)) (eLst lNil))
 (sSeqK (sForK (gVarK 5) (lRange (lCons (eAddF (eCall kMax (lCons (eVarK 2) lNil)) (eC (.int 1))) lNil))
 (sForK (gVarK 6) (lRange (lCons (eCall kLen (lCons (eVarK 2) lNil)) lNil))
 (sSeqK (sSetK 7 (eImmK (eIx (eVarK 2) (eVarK 6))))
 (sIfK (bAndK (bCmp kNeK (eVarK 7) (eVarK 5)) (bCmp kNeK (eLcK [9] (lNew (eCall (kFn 3 nearL) (lCons (eVarK 1) (lCons (eVarK 3) (lCons (eVarK 6) lNil))))) (gVarK 9) (bCmp kEqK (eIx (eVarK 2) (eVarK 9)) (eVarK 5)) (eVarK 9)) (eLst lNil)))
 (sSeqK (sSetK 8 (eLcK [9] (lRange (lCons (eCall kLen (lCons (eVarK 2) lNil)) lNil)) (gVarK 9) (bAndK (bCmp kEqK (eIx (eVarK 2) (eVarK 9)) (eVarK 7)) (bCmp kNeK (eVarK 9) (eVarK 6))) (eVarK 9)))
 (sIfK (bAndK (bCmp kNeK (eVarK 8) (eLst lNil)) (bTru (eCall (kFn 3 g__law_hangsK) (lCons (eVarK 1) (lCons (eVarK 3) (lCons (eVarK 8) lNil))))))
 (sAppK 4 (eTup (lCons (eVarK 5) (lCons (eVarK 6) lNil))))
 sNx))
 sNx))))
 (sRet (eVarK 4)))))
def g__law_takingsK : List D → M D := gOf N__law_takings F__law_takingsK
theorem g__law_takingsK_eq : g__law_takings = g__law_takingsK := by
  have e : F__law_takings = F__law_takingsK := by
    unfold F__law_takings F__law_takingsK
    try rw [g__law_hangsK_eq, nearL_eq]
    try rw [kIn_eq]
    try rw [kNotIn_eq]
    try rw [kEq_eq]
    try rw [kNe_eq]
    try rw [eVar_eq]
    try rw [sSet_eq]
    try rw [sPar_eq]
    try rw [sPar3_eq]
    try rw [sMove_eq]
    try rw [gVar_eq]
    try rw [gTup2_eq]
    try rw [sApp_eq]
    try rw [sSeq_eq]
    try rw [sIf_eq]
    try rw [bAnd_eq]
    try rw [bOr_eq]
    try rw [sFor_eq]
    try rw [sWhile_eq]
    try rw [eLc_eq]
    try rw [lVar_eq]
    try rw [eQ_eq]
    try rw [eImm_eq]
  unfold g__law_takings g__law_takingsK
  rw [e]
def F_heldK : Sv := (sRet (eLcK [2, 3] (lEnum (lCons (eVarK 0) lNil)) (gTup2K 2 3) (bCmp kEqK (eVarK 3) (eVarK 1)) (eVarK 2)))
def g_heldK : List D → M D := gOf N_held F_heldK
theorem g_heldK_eq : g_held = g_heldK := by
  have e : F_held = F_heldK := by
    unfold F_held F_heldK
    try rw [kIn_eq]
    try rw [kNotIn_eq]
    try rw [kEq_eq]
    try rw [kNe_eq]
    try rw [eVar_eq]
    try rw [sSet_eq]
    try rw [sPar_eq]
    try rw [sPar3_eq]
    try rw [sMove_eq]
    try rw [gVar_eq]
    try rw [gTup2_eq]
    try rw [sApp_eq]
    try rw [sSeq_eq]
    try rw [sIf_eq]
    try rw [bAnd_eq]
    try rw [bOr_eq]
    try rw [sFor_eq]
    try rw [sWhile_eq]
    try rw [eLc_eq]
    try rw [lVar_eq]
    try rw [eQ_eq]
    try rw [eImm_eq]
  unfold g_held g_heldK
  rw [e]
def F_hangsK : Sv := (sSeqK (sIfK (bNot (bTru (eVarK 2)))
 (sRet (eC (.bl false)))
 sNx)
 (sSeqK (sPar3K 3 4 5 (eDiv (eSub (eCall kLen (lCons (eVarK 1) lNil)) (eC (.int 1))) (eVarK 0)) (eLst (lCons (eImmK (eIx (eVarK 2) (eC (.int 0)))) lNil)) (eLst (lCons (eImmK (eIx (eVarK 2) (eC (.int 0)))) lNil)))
 (sSeqK (sWhileK (fun _ => 40) (bTru (eVarK 5))
 (sSeqK (sSetK 6 (eLst lNil))
 (sSeqK (sForK (gVarK 7) (lVarK 5)
 (sForK (gVarK 8) (lNew (eCall (kFn 3 nearP) (lCons (eVarK 0) (lCons (eVarK 3) (lCons (eVarK 7) lNil)))))
 (sIfK (bAndK (bCmp kInK (eVarK 8) (eVarK 2)) (bCmp kNotInK (eVarK 8) (eVarK 4)))
 (sSeqK (sAppK 4 (eVarK 8))
 (sAppK 6 (eVarK 8)))
 sNx)))
 (sMoveK 5 6))))
 (sRet (eCmp kEqK (eCall kLen (lCons (eVarK 4) lNil)) (eCall kLen (lCons (eVarK 2) lNil)))))))
def g_hangsK : List D → M D := gOf N_hangs F_hangsK
theorem g_hangsK_eq : g_hangs = g_hangsK := by
  have e : F_hangs = F_hangsK := by
    unfold F_hangs F_hangsK
    try rw [nearP_eq]
    try rw [kIn_eq]
    try rw [kNotIn_eq]
    try rw [kEq_eq]
    try rw [kNe_eq]
    try rw [eVar_eq]
    try rw [sSet_eq]
    try rw [sPar_eq]
    try rw [sPar3_eq]
    try rw [sMove_eq]
    try rw [gVar_eq]
    try rw [gTup2_eq]
    try rw [sApp_eq]
    try rw [sSeq_eq]
    try rw [sIf_eq]
    try rw [bAnd_eq]
    try rw [bOr_eq]
    try rw [sFor_eq]
    try rw [sWhile_eq]
    try rw [eLc_eq]
    try rw [lVar_eq]
    try rw [eQ_eq]
    try rw [eImm_eq]
  unfold g_hangs g_hangsK
  rw [e]
def F_is_madeK : Sv := (sSeqK (sTgt0 (gTup2K 4 2) (eVarK 1))
 (sSeqK (sSetK 3 (eIx (eIx (eVarK 0) (eC (.int 1))) (eVarK 2)))
 (sSeqK (sIfK (bOrK (bCmp kEqK (eVarK 3) (eVarK 4)) (bNot (bTru (eQK false [5] (lNew (eCall (kFn 3 nearP) (lCons (eIx (eVarK 0) (eC (.int 0))) (lCons (eCall (kFn 1 g_length_of) (lCons (eVarK 0) lNil)) (lCons (eVarK 2) lNil))))) (gVarK 5) (eCmp kEqK (eIx (eIx (eVarK 0) (eC (.int 1))) (eVarK 5)) (eVarK 4))))))
 (sRet (eC (.bl false)))
 sNx)
 (sRet (eCall (kFn 3 g_hangsK) (lCons (eIx (eVarK 0) (eC (.int 0))) (lCons (eIx (eVarK 0) (eC (.int 1))) (lCons (eLcK [5] (lNew (eCall (kFn 2 g_heldK) (lCons (eIx (eVarK 0) (eC (.int 1))) (lCons (eVarK 3) lNil)))) (gVarK 5) (bCmp kNeK (eVarK 5) (eVarK 2)) (eVarK 5)) lNil))))))))
def g_is_madeK : List D → M D := gOf N_is_made F_is_madeK
theorem g_is_madeK_eq : g_is_made = g_is_madeK := by
  have e : F_is_made = F_is_madeK := by
    unfold F_is_made F_is_madeK
    try rw [g_hangsK_eq, nearP_eq, g_heldK_eq]
    try rw [kIn_eq]
    try rw [kNotIn_eq]
    try rw [kEq_eq]
    try rw [kNe_eq]
    try rw [eVar_eq]
    try rw [sSet_eq]
    try rw [sPar_eq]
    try rw [sPar3_eq]
    try rw [sMove_eq]
    try rw [gVar_eq]
    try rw [gTup2_eq]
    try rw [sApp_eq]
    try rw [sSeq_eq]
    try rw [sIf_eq]
    try rw [bAnd_eq]
    try rw [bOr_eq]
    try rw [sFor_eq]
    try rw [sWhile_eq]
    try rw [eLc_eq]
    try rw [lVar_eq]
    try rw [eQ_eq]
    try rw [eImm_eq]
  unfold g_is_made g_is_madeK
  rw [e]
def F_all_takingsK : Sv := (sSeqK (sSetK 1 (eLst lNil))
 (sSeqK (sForK (gVarK 2) (lRange (lCons (eCall (kFn 1 g_lands_of) (lCons (eVarK 0) lNil)) lNil))
 (sSetK 1 (eAddF (eVarK 1) (eLcK [3] (lRange (lCons (eCall kLen (lCons (eIx (eVarK 0) (eC (.int 1))) lNil)) lNil)) (gVarK 3) (bTru (eCall (kFn 2 g_is_madeK) (lCons (eVarK 0) (lCons (eTup (lCons (eVarK 2) (lCons (eVarK 3) lNil))) lNil)))) (eTup (lCons (eVarK 2) (lCons (eVarK 3) lNil)))))))
 (sRet (eVarK 1))))
def g_all_takingsK : List D → M D := gOf N_all_takings F_all_takingsK
theorem g_all_takingsK_eq : g_all_takings = g_all_takingsK := by
  have e : F_all_takings = F_all_takingsK := by
    unfold F_all_takings F_all_takingsK
    try rw [g_is_madeK_eq]
    try rw [kIn_eq]
    try rw [kNotIn_eq]
    try rw [kEq_eq]
    try rw [kNe_eq]
    try rw [eVar_eq]
    try rw [sSet_eq]
    try rw [sPar_eq]
    try rw [sPar3_eq]
    try rw [sMove_eq]
    try rw [gVar_eq]
    try rw [gTup2_eq]
    try rw [sApp_eq]
    try rw [sSeq_eq]
    try rw [sIf_eq]
    try rw [bAnd_eq]
    try rw [bOr_eq]
    try rw [sFor_eq]
    try rw [sWhile_eq]
    try rw [eLc_eq]
    try rw [lVar_eq]
    try rw [eQ_eq]
    try rw [eImm_eq]
  unfold g_all_takings g_all_takingsK
  rw [e]
def F_are_cellsK : Sv := (sSeqK (sIfK (bOrK (bCmp kLt (eCall kLen (lCons (eVarK 1) lNil)) (eAddF (eVarK 0) (eC (.int 1)))) (bOrK (bTru (eMod (eSub (eCall kLen (lCons (eVarK 1) lNil)) (eC (.int 1))) (eVarK 0))) (bCmp kGt (eDiv (eSub (eCall kLen (lCons (eVarK 1) lNil)) (eC (.int 1))) (eVarK 0)) (eC (.int 4)))))
 (sRet (eC (.bl false)))
 sNx)
 (sSeqK (sSetK 3 (eDiv (eSub (eCall kLen (lCons (eVarK 1) lNil)) (eC (.int 1))) (eVarK 0)))
 (sSeqK (sIfK (bNot (bTru (eQK true [4] (lVarK 1) (gVarK 4) (eCall (kFn 3 g_is_in) (lCons (eVarK 4) (lCons (eC (.int 0)) (lCons (eVarK 3) lNil)))))))
 (sRet (eC (.bl false)))
 sNx)
 (sSeqK (sSetK 2 (eAddF (eCall kMax (lCons (eVarK 1) lNil)) (eC (.int 1))))
 (sRet (eAnd (eCmp kGt (eVarK 2) (eC (.int 1))) (eQK true [5] (lRange (lCons (eVarK 2) lNil)) (gVarK 5) (eCall (kFn 3 g_hangsK) (lCons (eVarK 0) (lCons (eVarK 1) (lCons (eCall (kFn 2 g_heldK) (lCons (eVarK 1) (lCons (eVarK 5) lNil))) lNil)))))))))))
def g_are_cellsK : List D → M D := gOf N_are_cells F_are_cellsK
theorem g_are_cellsK_eq : g_are_cells = g_are_cellsK := by
  have e : F_are_cells = F_are_cellsK := by
    unfold F_are_cells F_are_cellsK
    try rw [g_hangsK_eq, g_heldK_eq]
    try rw [kIn_eq]
    try rw [kNotIn_eq]
    try rw [kEq_eq]
    try rw [kNe_eq]
    try rw [eVar_eq]
    try rw [sSet_eq]
    try rw [sPar_eq]
    try rw [sPar3_eq]
    try rw [sMove_eq]
    try rw [gVar_eq]
    try rw [gTup2_eq]
    try rw [sApp_eq]
    try rw [sSeq_eq]
    try rw [sIf_eq]
    try rw [bAnd_eq]
    try rw [bOr_eq]
    try rw [sFor_eq]
    try rw [sWhile_eq]
    try rw [eLc_eq]
    try rw [lVar_eq]
    try rw [eQ_eq]
    try rw [eImm_eq]
  unfold g_are_cells g_are_cellsK
  rw [e]
def F_is_mapK : Sv := (sSeqK (sIfK (bOrK (bNot (bTru (eIsi kIsTup (eVarK 0)))) (bOrK (bCmp kNeK (eCall kLen (lCons (eVarK 0) lNil)) (eC (.int 2))) (bNot (bTru (eCall (kFn 3 g_is_in) (lCons (eIx (eVarK 0) (eC (.int 0))) (lCons (eC (.int 3)) (lCons (eC (.int 4)) lNil))))))))
 (sRet (eC (.bl false)))
 sNx)
 (sRet (eAnd (eIsi kIsTup (eIx (eVarK 0) (eC (.int 1)))) (eCall (kFn 2 g_are_cellsK) (lCons (eIx (eVarK 0) (eC (.int 0))) (lCons (eIx (eVarK 0) (eC (.int 1))) lNil))))))
def g_is_mapK : List D → M D := gOf N_is_map F_is_mapK
theorem g_is_mapK_eq : g_is_map = g_is_mapK := by
  have e : F_is_map = F_is_mapK := by
    unfold F_is_map F_is_mapK
    try rw [g_are_cellsK_eq]
    try rw [kIn_eq]
    try rw [kNotIn_eq]
    try rw [kEq_eq]
    try rw [kNe_eq]
    try rw [eVar_eq]
    try rw [sSet_eq]
    try rw [sPar_eq]
    try rw [sPar3_eq]
    try rw [sMove_eq]
    try rw [gVar_eq]
    try rw [gTup2_eq]
    try rw [sApp_eq]
    try rw [sSeq_eq]
    try rw [sIf_eq]
    try rw [bAnd_eq]
    try rw [bOr_eq]
    try rw [sFor_eq]
    try rw [sWhile_eq]
    try rw [eLc_eq]
    try rw [lVar_eq]
    try rw [eQ_eq]
    try rw [eImm_eq]
  unfold g_is_map g_is_mapK
  rw [e]
def F__law_pickK : Sv := (sRet (eImmK (eIx (eVarK 1) (eCall (kFn 2 g__law_taken) (lCons (eVarK 0) (lCons (eCall kLen (lCons (eVarK 1) lNil)) lNil))))))
def g__law_pickK : List D → M D := gOf N__law_pick F__law_pickK
theorem g__law_pickK_eq : g__law_pick = g__law_pickK := by
  have e : F__law_pick = F__law_pickK := by
    unfold F__law_pick F__law_pickK
    try rw [kIn_eq]
    try rw [kNotIn_eq]
    try rw [kEq_eq]
    try rw [kNe_eq]
    try rw [eVar_eq]
    try rw [sSet_eq]
    try rw [sPar_eq]
    try rw [sPar3_eq]
    try rw [sMove_eq]
    try rw [gVar_eq]
    try rw [gTup2_eq]
    try rw [sApp_eq]
    try rw [sSeq_eq]
    try rw [sIf_eq]
    try rw [bAnd_eq]
    try rw [bOr_eq]
    try rw [sFor_eq]
    try rw [sWhile_eq]
    try rw [eLc_eq]
    try rw [lVar_eq]
    try rw [eQ_eq]
    try rw [eImm_eq]
  unfold g__law_pick g__law_pickK
  rw [e]
def F__law_mapK : Sv := (sSeqK (sParK 4 5 (eLst lNil) (eLst lNil))
 (sSeqK (sForK (gVarK 6) (lRange (lCons (eVarK 1) lNil))
 (sSetK 4 (eAddF (eVarK 4) (eLcK [7] (lRange (lCons (eVarK 2) lNil)) (gVarK 7) bYes (eTup (lCons (eVarK 6) (lCons (eVarK 7) lNil)))))))
 (sSeqK (sForK (gVarK 8) (lRange (lCons (eSub (eVarK 3) (eC (.int 1))) lNil))
 (sSeqK (sSetK 9 (eCall (kFn 2 g__law_pickK) (lCons (eVarK 0) (lCons (eVarK 4) lNil))))
 (sParK 5 4 (eAddF (eVarK 5) (eLst (lCons (eVarK 9) lNil))) (eLcK [15] (lVarK 4) (gVarK 15) (bCmp kNeK (eVarK 15) (eVarK 9)) (eVarK 15)))))
 (sSeqK (sParK 10 11 (eListRg (eVarK 3)) (eLst lNil))
 (sSeqK (sForK (gVarK 8) (lRange (lCons (eVarK 3) lNil))
 (sSeqK (sSetK 9 (eCall (kFn 2 g__law_pickK) (lCons (eVarK 0) (lCons (eVarK 10) lNil))))
 (sParK 11 10 (eAddF (eVarK 11) (eLst (lCons (eVarK 9) lNil))) (eLcK [16] (lVarK 10) (gVarK 16) (bCmp kNeK (eVarK 16) (eVarK 9)) (eVarK 16)))))
 (sSeqK (sParK 12 13 (eLst (lCons (eImmK (eIx (eVarK 11) (eC (.int 0)))) lNil)) (eC (.int 1)))
 (sSeqK (sForK (gVarK 6) (lRange (lCons (eVarK 1) lNil))
 (sSeqK (sSetK 14 (eImmK (eIx (eVarK 11) (eC (.int 0)))))
 (sForK (gVarK 7) (lRange (lCons (eVarK 2) lNil))
 (sSeqK (sIfK (bCmp kInK (eTup (lCons (eVarK 6) (lCons (eVarK 7) lNil))) (eVarK 5))
 (sParK 14 13 (eImmK (eIx (eVarK 11) (eVarK 13))) (eAddF (eVarK 13) (eC (.int 1))))
 sNx)
 (sAppK 12 (eVarK 14))))))
 (sRet (eTup (lCons (eImmK (eVarK 1)) (lCons (eCall kTuple (lCons (eVarK 12) lNil)) lNil)))))))))))
def g__law_mapK : List D → M D := gOf N__law_map F__law_mapK
theorem g__law_mapK_eq : g__law_map = g__law_mapK := by
  have e : F__law_map = F__law_mapK := by
    unfold F__law_map F__law_mapK
    try rw [g__law_pickK_eq]
    try rw [kIn_eq]
    try rw [kNotIn_eq]
    try rw [kEq_eq]
    try rw [kNe_eq]
    try rw [eVar_eq]
    try rw [sSet_eq]
    try rw [sPar_eq]
    try rw [sPar3_eq]
    try rw [sMove_eq]
    try rw [gVar_eq]
    try rw [gTup2_eq]
    try rw [sApp_eq]
    try rw [sSeq_eq]
    try rw [sIf_eq]
    try rw [bAnd_eq]
    try rw [bOr_eq]
    try rw [sFor_eq]
    try rw [sWhile_eq]
    try rw [eLc_eq]
    try rw [lVar_eq]
    try rw [eQ_eq]
    try rw [eImm_eq]
  unfold g__law_map g__law_mapK
  rw [e]
end Sl
end S_Sq1
noncomputable section S_Sq2
set_option Elab.async false
set_option linter.all false
set_option maxRecDepth 100000
/-! A class's facts, by computing. -/
namespace Sl
open PySem PySem.Spec PyProof.Rows L2
def tk (k x : Nat) : D := .tup [.int k, .int x]
def mkD (a : Nat) (cs : List Int) : D := .tup [.int a, .tup (cs.map D.int)]
abbrev CRow := List Int × List ((Nat × Nat) × List Int)
def clOf (a n len : Nat) (ky : D) (rows : List CRow) : Cl where
  a := a
  n := n
  len := len
  Ul := rows.map fun r => mkD a r.1
  ts := fun c => match rows.find? (fun r => eqD (mkD a r.1) c) with
    | some r => r.2.map fun q => tk q.1.1 q.1.2
    | none => []
  nx := fun c t => match rows.find? (fun r => eqD (mkD a r.1) c) with
    | some r => (match r.2.find? (fun q => eqD (tk q.1.1 q.1.2) t) with
      | some q => mkD a q.2
      | none => .non)
    | none => .non
  ky := ky
def memB (d : D) (l : List D) : Bool := l.any fun e => eqD e d
def addN (S : List D) (v : D) : List D := if memB v S then S else v :: S
def clo (C : Cl) : Nat → List D → List D
  | 0, S => S
  | k + 1, S => clo C k ((S.flatMap fun c => (C.ts c).map (C.nx c)).foldl addN S)
def shapeB (C : Cl) : D → Bool
  | .tup [.int a, .tup ds] => decide (a = C.a) && (match intsOf ds with | some cs => decide (cs.length = C.len) | none => false)
  | _ => false
def tkB (C : Cl) : D → Bool
  | .tup [.int (.ofNat k), .int (.ofNat x)] => decide (k < C.n) && decide (x < C.len)
  | _ => false
def chkT (C : Cl) (c t : D) : Bool := tkB C t && (memB (C.nx c t) C.Ul && (isRet (C.nx c t) (g_taken [c, t]) && isRet (C.nx c t) (g__law_behind [c, t])))
def chkN (C : Cl) (fu : Nat) (c : D) : Bool :=
  shapeB C c && ((isTup c && (keyOk c && (imm c && (eqable 20 c && (eqable 19 c && tup1 c))))) && (C.Ul.all (fun d => PySem.W.alike (toPy c) (toPy d)) && (isRet (.bl true) (g_is_mapK [c]) && (isRet (.int C.n) (g_lands_of [c]) &&
  (isRet C.ky (g_key_of [c]) && (isRet (.lst (C.ts c)) (g_all_takingsK [c]) && (isRet (.lst (C.ts c)) (g__law_takingsK [c]) && ((C.ts c).all (chkT C c) && (decide ((C.ts c).length < 1000) &&
  ((List.range C.n).all (fun k => (List.range C.len).all fun x => isRet (.bl (memB (tk k x) (C.ts c))) (g_is_madeK [c, tk k x])) && C.Ul.all (fun v => memB v (clo C fu [c]))))))))))))
def kneB (a b : D) (r : Bool) : Bool := match kNe a b with
  | some z => z == r
  | none => false
def chkC (C : Cl) (fu : Nat) : Bool := decide (C.Ul.length ≤ 30) && (decide (2 ≤ C.n) && (decide (C.n ≤ 3) && (decide (C.len ≤ 9) && (decide (1 ≤ C.len) && (kneB C.ky C.ky false && C.Ul.all (chkN C fu))))))
theorem memB_iff {d : D} {l : List D} (h : Ky d) : memB d l = true ↔ d ∈ l := by
  unfold memB
  rw [List.any_eq_true]
  exact ⟨fun ⟨e, he, q⟩ => by rw [← eqD_eq _ _ q]; exact he, fun m => ⟨d, m, h.refl⟩⟩
theorem memB_of {d : D} {l : List D} (h : memB d l = true) : d ∈ l := by
  obtain ⟨e, he, q⟩ := List.any_eq_true.mp h
  rw [← eqD_eq _ _ q]; exact he
theorem kneB_eq {a b : D} {r : Bool} (h : kneB a b r = true) : kNe a b = some r := by
  unfold kneB at h
  split at h
  · rename_i z e
    rw [e, eq_of_beq h]
  · cases h
theorem add_mem {S : List D} {v u : D} (h : u ∈ addN S v) : u = v ∨ u ∈ S := by
  unfold addN at h
  split at h
  · exact .inr h
  · exact List.mem_cons.mp h
theorem fold_mem : ∀ {l S : List D} {u : D}, u ∈ l.foldl addN S → u ∈ l ∨ u ∈ S
  | [], _, _, h => .inr h
  | v :: l, S, u, h => by
    rcases fold_mem (l := l) h with h | h
    · exact .inl (List.mem_cons_of_mem _ h)
    · rcases add_mem h with rfl | h
      · exact .inl (List.mem_cons_self ..)
      · exact .inr h
theorem clo_mem {C : Cl} {c : D} : ∀ (k : Nat) (S : List D), (∀ u ∈ S, Rc C c u) → ∀ u ∈ clo C k S, Rc C c u
  | 0, _, h => h
  | k + 1, S, h => clo_mem k _ fun u hu => by
    rcases fold_mem hu with hu | hu
    · obtain ⟨x, hx, hu⟩ := List.mem_flatMap.mp hu
      obtain ⟨t, ht, rfl⟩ := List.mem_map.mp hu
      exact .s (h x hx) ht
    · exact h u hu
open Classical in
theorem chkC_ok {C : Cl} {fu : Nat} (h : chkC C fu = true) : C.Ok := by
  unfold chkC at h
  simp only [Bool.and_eq_true, decide_eq_true_eq, List.all_eq_true] at h
  obtain ⟨a1, a2, a3, a4, a5, a6, a7⟩ := h
  have nd : ∀ c ∈ C.Ul, chkN C fu c = true := a7
  unfold chkN at nd
  simp only [Bool.and_eq_true, decide_eq_true_eq, List.all_eq_true, List.mem_range] at nd
  have ky : ∀ c ∈ C.Ul, Ky c := fun c hc => let ⟨k, e, _⟩ := keyOk_some (nd c hc).2.1.2.1; ⟨k, e⟩
  have ct : ∀ c ∈ C.Ul, ∀ t ∈ C.ts c, chkT C c t = true := fun c hc => (nd c hc).2.2.2.2.2.2.2.2.1
  unfold chkT at ct
  simp only [Bool.and_eq_true] at ct
  have tks : ∀ c ∈ C.Ul, ∀ t ∈ C.ts c, ∃ k x : Nat, t = .tup [.int k, .int x] ∧ k < C.n ∧ x < C.len := by
    intro c hc t ht
    have := (ct c hc t ht).1
    unfold tkB at this
    split at this
    · rename_i k x
      simp only [Bool.and_eq_true, decide_eq_true_eq] at this
      exact ⟨k, x, rfl, this⟩
    · cases this
  refine ⟨fun c hc v hv => ?_, a1, a2, a3, a4, a5, fun c hc => (nd c hc).2.2.2.2.2.2.2.2.2.1, fun c hc => ?_, fun c hc => ?_, fun c hc => isRet_eq (nd c hc).2.2.2.2.1, fun c hc => isRet_eq (nd c hc).2.2.2.2.2.1, kneB_eq a6, fun c hc => ?_, fun c hc d hd => (nd c hc).2.2.1 d hd, fun c hc => ?_, fun c hc => ?_,
    fun c hc t ht => memB_of (ct c hc t ht).2.1, fun c hc t ht => isRet_eq (ct c hc t ht).2.2.1, fun c hc t ht => isRet_eq (ct c hc t ht).2.2.2, tks, fun c hc k x hk hx => ?_⟩
  · exact clo_mem fu [c] (fun u hu => by rw [List.mem_singleton.mp hu]; exact .z) v (memB_of ((nd c hc).2.2.2.2.2.2.2.2.2.2.2 v hv))
  · have := (nd c hc).1
    unfold shapeB at this
    split at this
    · rename_i a ds
      simp only [Bool.and_eq_true, decide_eq_true_eq] at this
      obtain ⟨e1, e2⟩ := this
      split at e2
      · rename_i cs e3
        rw [decide_eq_true_eq] at e2
        exact ⟨cs, by rw [e1, intsOf_some e3], e2⟩
      · cases e2
    · cases this
  · rw [g_is_mapK_eq]
    exact isRet_eq (nd c hc).2.2.2.1
  · have g := (nd c hc).2.1
    simp only [Bool.and_eq_true]
    exact g
  · rw [g_all_takingsK_eq]
    exact isRet_eq (nd c hc).2.2.2.2.2.2.1
  · rw [g__law_takingsK_eq]
    exact isRet_eq (nd c hc).2.2.2.2.2.2.2.1
  · have g := isRet_eq ((nd c hc).2.2.2.2.2.2.2.2.2.2.1 k hk x hx)
    rw [g_is_madeK_eq]
    have e : memB (tk k x) (C.ts c) = decide (D.tup [.int k, .int x] ∈ C.ts c) := by
      rw [Bool.eq_iff_iff, decide_eq_true_iff, memB_iff ⟨_, rfl⟩]
      rfl
    rw [e] at g
    exact g
end Sl
end S_Sq2
noncomputable section S_Sr8
set_option Elab.async false
set_option linter.all false
set_option maxRecDepth 100000
set_option maxHeartbeats 1000000
/-! law's draws: a kind of maps. -/
namespace Sl
open PySem PySem.Spec PyProof.Rows L2
open Classical
/-- the classes of a kind -/
structure KindOk (a l n : Int) (Cs : List Cl) : Prop where
  ok : ∀ C ∈ Cs, C.Ok
  num : ∀ C ∈ Cs, (C.a : Int) = a ∧ (C.n : Int) = n ∧ (C.len : Int) = 1 + a * l
  apart : ∀ C ∈ Cs, ∀ C' ∈ Cs, C = C' ∨ kNe C.ky C'.ky = some true
  disj : ∀ C ∈ Cs, ∀ C' ∈ Cs, C = C' ∨ ∀ d ∈ C.Ul, d ∉ C'.Ul
  maps : (g__law_map [.row, .int a, .int l, .int n]).All fun d => ∃ C ∈ Cs, d ∈ C.Ul
theorem law_tail {a l n : Int} {Cs : List Cl} (k : KindOk a l n Cs) {C C' : Cl} (hC : C ∈ Cs) (hC' : C' ∈ Cs) {pr : List Int} (po : PrOk C pr) {c0 d : D} (h0 : c0 ∈ C.Ul) (hd : d ∈ C'.Ul) {oa ol o5 o9 o10 o11 o12 o13 o14 o15 o16 o17 o18 o19 o20 o21 : Option D} :
    (lwTail (R22 oa ol (some (.int n)) o5 (some c0) (some (prD pr)) (some d) o9 o10 o11 o12 o13 o14 o15 o16 o17 o18 o19 o20 o21)).All fun o => o = .rt (.bl true) := by
  have ok := k.ok C hC
  have ok' := k.ok C' hC'
  have n1 := k.num C hC
  have n2 := k.num C' hC'
  rcases k.apart C hC C' hC' with rfl | hk
  · rw [← n1.2.1]
    exact tail_same ok po h0 hd
  · rcases k.disj C' hC' C hC with rfl | hno
    · rw [← n1.2.1]
      exact tail_same ok po h0 hd
    · exact tail_other ok po h0 ok' ⟨by omega, by omega, by have := n1.2.2; have := n2.2.2; omega⟩ hk (hno d hd) hd
end Sl
end S_Sr8
noncomputable section S_Sr9
set_option Elab.async false
set_option linter.all false
set_option maxRecDepth 100000
set_option maxHeartbeats 1000000
/-! law's draws. -/
namespace Sl
open PySem PySem.Spec PyProof.Rows L2
open Classical
theorem le3 : (3 : Nat) ≤ sizeLine := by rw [sizeLine_eq]; omega
theorem island_all : (g__law_island [.row, .int 2]).All fun d => ∃ i j k : Int, d = .tup [.int (3 + i), .int (1 + j), .int (2 + k)] ∧ 0 ≤ i ∧ i < 2 ∧ 0 ≤ j ∧ j < 2 ∧ 0 ≤ k ∧ k < 1 + j := by
  have e : g__law_island [.row, .int 2] = (g__law_taken [.row, .int 2]).bind fun x => (kAddF (.int 1) x).bind fun y => (g__law_taken [.row, .int 2]).bind fun u => (kAddF (.int 3) u).bind fun v => (chk y).bind fun y' => (g__law_taken [.row, y]).bind fun z => (kAddF (.int 2) z).bind fun z' => .ret (.tup [v, y', z']) := by
    show (F__law_island [some .row, some (.int 2), none]).bind endO = _
    have z3 : 0 + 1 + 1 + 1 ≤ sizeLine := le3
    have k2 : ∀ (g : List D → M D) (x y : D), kFn 2 g [x, y] = g [x, y] := fun _ _ _ => rfl
    simp only [F__law_island, sSeq, sSet, sRet, Sl.e2, eVar, eCall, lCons, lNil, eC, eTup, eImm, List.getElem?_cons_zero, List.getElem?_cons_succ, List.set_cons_zero, List.set_cons_succ, bind_retP, k2, List.length_cons, List.length_nil, M.bind_assoc, seqO_nx, endO, z3, if_true]
  rw [e]
  refine M.All.bind' ((taken_all (n := 2) (by decide) (by decide)).mono fun x hx => ?_)
  obtain ⟨j, rfl, hj⟩ := hx
  show M.All _ ((g__law_taken [.row, .int 2]).bind fun u => (kAddF (.int 3) u).bind fun v => (M.ret (D.int (1 + (j : Int)))).bind fun y' => (g__law_taken [.row, .int (1 + (j : Int))]).bind fun z => (kAddF (.int 2) z).bind fun z' => M.ret (D.tup [v, y', z']))
  refine M.All.bind' ((taken_all (n := 2) (by decide) (by decide)).mono fun u hu => ?_)
  obtain ⟨i, rfl, hi⟩ := hu
  show M.All _ ((g__law_taken [.row, .int (1 + (j : Int))]).bind fun z => (kAddF (.int 2) z).bind fun z' => M.ret (D.tup [.int (3 + (i : Int)), .int (1 + (j : Int)), z']))
  refine M.All.bind' ((taken_all (n := 1 + (j : Int)) (by omega) (by omega)).mono fun z hz => ?_)
  obtain ⟨k, rfl, hk⟩ := hz
  exact ⟨i, j, k, rfl, by omega, hi, by omega, hj, by omega, hk⟩
theorem lc_prices {r : Rho} (hr : ∀ x : D, eVar 1 (r.set 5 (some x)) = .ret .row) : ∀ l : List D, (lcGo (gVar 5) bYes (eCall (kFn 2 g__law_taken) (lCons (eVar 1) (lCons (eC (.int 6)) lNil))) l r).All fun ys => ∃ pr : List Int, ys = pr.map D.int ∧ pr.length = l.length ∧ ∀ p ∈ pr, 0 ≤ p ∧ p ≤ 5
  | [] => ⟨[], rfl, rfl, fun _ h => nomatch h⟩
  | x :: l => by
    have e : (eCall (kFn 2 g__law_taken) (lCons (eVar 1) (lCons (eC (.int 6)) lNil))) (r.set 5 (some x)) = g__law_taken [.row, .int 6] := by
      unfold eCall lCons lNil eC
      rw [hr x]
      rfl
    show M.All _ (((eCall (kFn 2 g__law_taken) (lCons (eVar 1) (lCons (eC (.int 6)) lNil))) (r.set 5 (some x))).bind fun y => (chk y).bind fun y => (lcGo (gVar 5) bYes (eCall (kFn 2 g__law_taken) (lCons (eVar 1) (lCons (eC (.int 6)) lNil))) l r).bind fun ys => .ret (y :: ys))
    rw [e]
    refine M.All.bind' ((taken_all (n := 6) (by decide) (by decide)).mono fun y hy => ?_)
    obtain ⟨i, rfl, hi⟩ := hy
    show M.All _ ((lcGo (gVar 5) bYes (eCall (kFn 2 g__law_taken) (lCons (eVar 1) (lCons (eC (.int 6)) lNil))) l r).bind fun ys => .ret (.int (i : Int) :: ys))
    refine M.All.bind' ((lc_prices hr l).mono fun ys h => ?_)
    obtain ⟨pr, rfl, hl, hp⟩ := h
    refine ⟨(i : Int) :: pr, rfl, by rw [List.length_cons, hl, List.length_cons], fun p hp' => ?_⟩
    rcases List.mem_cons.mp hp' with rfl | hp'
    · omega
    · exact hp p hp'
section
variable {a l n : Int} {Cs : List Cl} (k : KindOk a l n Cs) (hn : 0 ≤ n) (hn3 : n ≤ 3)
variable {o5 o6 o7 o8 o9 o10 o11 o12 o13 o14 o15 o16 o17 o18 o19 o20 o21 : Option D}
include k hn hn3
theorem s1_all : (lwS1 (R22 (some (.int a)) (some (.int l)) (some (.int n)) o5 o6 o7 o8 o9 o10 o11 o12 o13 o14 o15 o16 o17 o18 o19 o20 o21)).All fun o => ∃ (c0 : D) (C : Cl) (pr : List Int), C ∈ Cs ∧ c0 ∈ C.Ul ∧ PrOk C pr ∧ o = .nx (R22 (some (.int a)) (some (.int l)) (some (.int n)) o5 (some c0) (some (prD pr)) o8 o9 o10 o11 o12 o13 o14 o15 o16 o17 o18 o19 o20 o21) := by
  have e3 : lRange (lCons (eVar 4) lNil) (R22 (some (.int a)) (some (.int l)) (some (.int n)) o5 o6 o7 o8 o9 o10 o11 o12 o13 o14 o15 o16 o17 o18 o19 o20 o21) = .ret (rangeD n) := by
    refine lRange_int ?_ ⟨by omega, by omega⟩
    simp [sSeq, sPar, eCall, lCons, lNil, eVar, bind_retP, kFn, eTup, Sl.e2, kAddF, eC, seqO_nx, seqO_rt, sIf, bOr, bCmp, mO, sPut, lStar, itemsOf, putD, imm, imm.immAll, oNone, oSome, eCut, sNx, eImm, chk, sSet, sDrop, sRet, bNot, bTru, tru, eCmp, eIsi, eAnd, eOr, eNot, onBl, le2, le4]
  have hlen : (rangeD n).length = n.toNat := by simp [sSeq, sPar, eCall, lCons, lNil, eVar, bind_retP, kFn, eTup, Sl.e2, kAddF, eC, seqO_nx, seqO_rt, sIf, bOr, bCmp, mO, sPut, lStar, itemsOf, putD, imm, imm.immAll, oNone, oSome, eCut, sNx, eImm, chk, sSet, sDrop, sRet, bNot, bTru, tru, eCmp, eIsi, eAnd, eOr, eNot, onBl, le2, le4, rangeD]
  have e1 : lwS1 (R22 (some (.int a)) (some (.int l)) (some (.int n)) o5 o6 o7 o8 o9 o10 o11 o12 o13 o14 o15 o16 o17 o18 o19 o20 o21) = (g__law_map [.row, .int a, .int l, .int n]).bind fun c0 =>
      ((lcGo (gVar 5) bYes (eCall (kFn 2 g__law_taken) (lCons (eVar 1) (lCons (eC (.int 6)) lNil))) (rangeD n) (R22 (some (.int a)) (some (.int l)) (some (.int n)) none o6 o7 o8 o9 o10 o11 o12 o13 o14 o15 o16 o17 o18 o19 o20 o21)).bind fun ys => kTuple [.lst ys]).bind fun P => .ret (.nx (R22 (some (.int a)) (some (.int l)) (some (.int n)) o5 (some c0) (some P) o8 o9 o10 o11 o12 o13 o14 o15 o16 o17 o18 o19 o20 o21)) := by
    have hl : (rangeD n).length ≤ sizeLine := by rw [hlen, sizeLine_eq]; omega
    have k4 : ∀ (g : List D → M D) (x y z w : D), kFn 4 g [x, y, z, w] = g [x, y, z, w] := fun _ _ _ _ _ => rfl
    have e2 : (eCall kTuple (lCons (eLc [5] (lRange (lCons (eVar 4) lNil)) (gVar 5) bYes (eCall (kFn 2 g__law_taken) (lCons (eVar 1) (lCons (eC (.int 6)) lNil)))) lNil)) (R22 (some (.int a)) (some (.int l)) (some (.int n)) o5 o6 o7 o8 o9 o10 o11 o12 o13 o14 o15 o16 o17 o18 o19 o20 o21) =
        (lcGo (gVar 5) bYes (eCall (kFn 2 g__law_taken) (lCons (eVar 1) (lCons (eC (.int 6)) lNil))) (rangeD n) (R22 (some (.int a)) (some (.int l)) (some (.int n)) none o6 o7 o8 o9 o10 o11 o12 o13 o14 o15 o16 o17 o18 o19 o20 o21)).bind fun ys => kTuple [.lst ys] := by
      unfold eCall lCons lNil eLc
      rw [show lRange (fun ρ => (eVar 4 ρ).bind fun d => ((fun _ => M.ret []) ρ).bind fun ds => M.ret (d :: ds)) (R22 (some (.int a)) (some (.int l)) (some (.int n)) o5 o6 o7 o8 o9 o10 o11 o12 o13 o14 o15 o16 o17 o18 o19 o20 o21) = .ret (rangeD n) from e3]
      simp only [bind_retP, if_pos hl, M.bind_assoc]
      rfl
    unfold lwS1 sPar
    rw [e2]
    simp only [eCall, lCons, lNil, eVar, List.getElem?_cons_zero, List.getElem?_cons_succ, bind_retP, k4]
    rfl
  rw [e1]
  refine M.All.bind' (k.maps.mono fun c0 h => ?_)
  obtain ⟨C, hC, hc⟩ := h
  refine M.All.bind' (M.All.bind' ((lc_prices (fun x => rfl) (rangeD n)).mono fun ys h => ?_))
  obtain ⟨pr, rfl, hl, hp⟩ := h
  have e4 : kTuple [.lst (pr.map D.int)] = .ret (prD pr) := by
    show (if imm.immAll (pr.map D.int) = true then _ else _) = _
    rw [if_pos (immI pr)]
  rw [e4]
  have := (k.num C hC).2.1
  exact ⟨c0, C, pr, hC, hc, ⟨by rw [hl, hlen]; omega, hp⟩, rfl⟩
theorem s2_all {C : Cl} (hC : C ∈ Cs) {c0 : D} (h0 : c0 ∈ C.Ul) {P : D} : (lwS2 (R22 (some (.int a)) (some (.int l)) (some (.int n)) o5 (some c0) (some P) o8 o9 o10 o11 o12 o13 o14 o15 o16 o17 o18 o19 o20 o21)).All fun o => ∃ (d : D) (C' : Cl), C' ∈ Cs ∧ d ∈ C'.Ul ∧ o = .nx (R22 (some (.int a)) (some (.int l)) (some (.int n)) o5 (some c0) (some P) (some d) o9 o10 o11 o12 o13 o14 o15 o16 o17 o18 o19 o20 o21) := by
  have k2 : ∀ (g : List D → M D) (x y : D), kFn 2 g [x, y] = g [x, y] := fun _ _ _ => rfl
  have k3 : ∀ (g : List D → M D) (x y z : D), kFn 3 g [x, y, z] = g [x, y, z] := fun _ _ _ _ => rfl
  have k4 : ∀ (g : List D → M D) (x y z w : D), kFn 4 g [x, y, z, w] = g [x, y, z, w] := fun _ _ _ _ _ => rfl
  have e1 : lwS2 (R22 (some (.int a)) (some (.int l)) (some (.int n)) o5 (some c0) (some P) o8 o9 o10 o11 o12 o13 o14 o15 o16 o17 o18 o19 o20 o21) = (g__law_taken [.row, .int 3]).bind fun x => (mO (kGt x (.int 0)) .ret).bind fun b =>
      (if b = true then (g__law_taken [.row, .int 8]).bind fun y => (g__law_walk [.row, c0, y]).bind fun r => kIx r (.int 1) else g__law_map [.row, .int a, .int l, .int n]).bind fun d =>
        .ret (.nx (R22 (some (.int a)) (some (.int l)) (some (.int n)) o5 (some c0) (some P) (some d) o9 o10 o11 o12 o13 o14 o15 o16 o17 o18 o19 o20 o21)) := by
    simp only [lwS2, sSet, eIf, bCmp, Sl.e2, eVar, eCall, lCons, lNil, eC, List.getElem?_cons_zero, List.getElem?_cons_succ, bind_retP, k2, k3, k4, M.bind_assoc]
    rfl
  rw [e1]
  refine M.All.bind' ((taken_all (n := 3) (by decide) (by decide)).mono fun x hx => ?_)
  obtain ⟨i, rfl, hi⟩ := hx
  show M.All _ ((M.ret (decide (0 < (i : Int)))).bind _)
  rw [bind_retP]
  by_cases q : (0 : Int) < i
  · rw [decide_eq_true q, if_pos rfl]
    refine M.All.bind' ?_
    refine M.All.bind' ?_
    have t8 := taken_all (n := 8) (by decide) (by decide)
    refine t8.mono fun y hy => ?_
    obtain ⟨j, rfl, hj⟩ := hy
    have j0 : (0 : Int) ≤ (j : Int) := by omega
    have j1 : (j : Int) < 1000 := by omega
    clear hj
    revert j0 j1
    generalize (j : Int) = jj
    intro j0 j1
    show M.All _ ((g__law_walk [.row, c0, .int jj]).bind fun r => kIx r (.int 1))
    have w8 := walk_all (k.ok C hC) h0 j0 j1
    refine M.All.bind' ?_
    refine w8.mono fun r hr => ?_
    obtain ⟨ss, v, rfl, hv, _⟩ := hr
    exact ⟨v, C, hC, hv, rfl⟩
  · rw [decide_eq_false q, if_neg Bool.false_ne_true]
    refine M.All.bind' (k.maps.mono fun d h => ?_)
    obtain ⟨C', hC', hd⟩ := h
    exact ⟨d, C', hC', hd, rfl⟩
theorem kind_all : ((sSeq lwS1 (sSeq lwS2 lwTail)) (R22 (some (.int a)) (some (.int l)) (some (.int n)) o5 o6 o7 o8 o9 o10 o11 o12 o13 o14 o15 o16 o17 o18 o19 o20 o21)).All fun o => o = .rt (.bl true) := by
  refine sSeq_all ((s1_all k hn hn3).mono fun o h => ?_)
  obtain ⟨c0, C, pr, hC, h0, po, rfl⟩ := h
  refine ⟨_, rfl, sSeq_all ((s2_all k hn hn3 hC h0).mono fun o h => ?_)⟩
  obtain ⟨d, C', hC', hd, rfl⟩ := h
  exact ⟨_, rfl, law_tail k hC hC' po h0 hd⟩
end
theorem plain_of (K : Int → Int → Int → List Cl) (h : ∀ i j k : Int, 0 ≤ i → i < 2 → 0 ≤ j → j < 2 → 0 ≤ k → k < 1 + j → KindOk (3 + i) (1 + j) (2 + k) (K i j k)) : (F_law rho0).All fun o => o = .rt (.bl true) := by
  rw [F_law_tail]
  have e0 : eVar 1 rho0 = .ret .row := rfl
  have k2 : ∀ (g : List D → M D) (x y : D), kFn 2 g [x, y] = g [x, y] := fun _ _ _ => rfl
  have e : lwS0 rho0 = (g__law_island [.row, .int 2]).bind fun d => (gTup3 2 3 4 d rho0).bind fun r => .ret (.nx r) := by
    unfold lwS0 sTgt0 eCall lCons lNil eC
    simp only [e0, bind_retP, k2]
  refine sSeq_all ?_
  rw [e]
  refine M.All.bind' (island_all.mono fun d hd => ?_)
  obtain ⟨i, j, k, rfl, i0, i1, j0, j1, k0, k1⟩ := hd
  exact ⟨_, rfl, kind_all (h i j k i0 i1 j0 j1 k0 k1) (by omega) (by omega)⟩
end Sl
end S_Sr9
noncomputable section S_Sr10
set_option Elab.async false
set_option linter.all false
set_option maxRecDepth 100000
set_option maxHeartbeats 1000000
/-! A kind's facts, by computing. -/
namespace Sl
open PySem PySem.Spec PyProof.Rows L2
def leaves (P : D → Bool) : M D → Bool
  | .fail => false
  | .ret a => P a
  | .draw n k => (List.range n).all fun i => leaves P (k i)
theorem leaves_all {P : D → Bool} {Q : D → Prop} (h : ∀ d, P d = true → Q d) : ∀ {m : M D}, leaves P m = true → m.All Q
  | .fail, e => by cases e
  | .ret a, e => h a e
  | .draw n k, e => fun i hi => leaves_all h (List.all_eq_true.mp (show ((List.range n).all fun i => leaves P (k i)) = true from e) i (List.mem_range.mpr hi))
def inCs (Cs : List Cl) (d : D) : Bool := Cs.any fun C => memB d C.Ul
def apartB : List Cl → Bool
  | [] => true
  | C :: Cs => Cs.all (fun C' => kneB C.ky C'.ky true && kneB C'.ky C.ky true) && apartB Cs
def numB (a l n : Int) (C : Cl) : Bool := decide ((C.a : Int) = a) && (decide ((C.n : Int) = n) && decide ((C.len : Int) = 1 + a * l))
def chkK (a l n : Int) (Cs : List Cl) : Bool := Cs.all (numB a l n) && (apartB Cs && leaves (inCs Cs) (g__law_mapK [.row, .int a, .int l, .int n]))
theorem apartB_ok : ∀ {Cs : List Cl}, apartB Cs = true → ∀ C ∈ Cs, ∀ C' ∈ Cs, C = C' ∨ kNe C.ky C'.ky = some true
  | [], _, _, h => nomatch h
  | C0 :: Cs, e, C, h => fun C' h' => by
    unfold apartB at e
    rw [Bool.and_eq_true, List.all_eq_true] at e
    rcases List.mem_cons.mp h with q | q
    · rcases List.mem_cons.mp h' with r | r
      · exact .inl (q.trans r.symm)
      · have := e.1 C' r
        rw [Bool.and_eq_true] at this
        rw [q]
        exact .inr (kneB_eq this.1)
    · rcases List.mem_cons.mp h' with r | r
      · have := e.1 C q
        rw [Bool.and_eq_true] at this
        rw [r]
        exact .inr (kneB_eq this.2)
      · exact apartB_ok e.2 C q C' r
theorem ok_nil : ∀ C ∈ ([] : List Cl), C.Ok := fun _ h => nomatch h
theorem ok_cons {C : Cl} {Cs : List Cl} {fu : Nat} (h : chkC C fu = true) (t : ∀ C ∈ Cs, C.Ok) : ∀ C' ∈ C :: Cs, C'.Ok := fun C' h' => by
  rcases List.mem_cons.mp h' with rfl | h'
  · exact chkC_ok h
  · exact t C' h'
theorem chkK_ok {a l n : Int} {Cs : List Cl} (ok : ∀ C ∈ Cs, C.Ok) (h : chkK a l n Cs = true) : KindOk a l n Cs := by
  unfold chkK at h
  rw [Bool.and_eq_true, Bool.and_eq_true, List.all_eq_true] at h
  obtain ⟨h1, h2, h3⟩ := h
  rw [← g__law_mapK_eq] at h3
  have ap := apartB_ok h2
  refine ⟨ok, fun C hC => ?_, ap, fun C hC C' hC' => ?_, leaves_all (fun d hd => ?_) h3⟩
  · have := h1 C hC
    unfold numB at this
    simp only [Bool.and_eq_true, decide_eq_true_eq] at this
    exact this
  · rcases ap C hC C' hC' with e | e
    · exact .inl e
    · refine .inr fun d hd hd' => ?_
      have e1 := (ok C hC).key d hd
      rw [(ok C' hC').key d hd'] at e1
      injection e1 with e1
      rw [← e1, (ok C' hC').kyRefl] at e
      cases e
  · obtain ⟨C, hC, q⟩ := List.any_eq_true.mp hd
    exact ⟨C, hC, memB_of q⟩
end Sl
end S_Sr10
noncomputable section S_Sq3_0
set_option Elab.async false
set_option linter.all false
set_option maxRecDepth 1000000
namespace Sl
def k312_0 : Cl := clOf 3 2 4 (.tup [.int 3, .int 4, .int 2, .int 0, .tup [.tup [], .tup [], .tup [.int 1]]]) [([0, 0, 0, 1], [])]
def k312_1 : Cl := clOf 3 2 4 (.tup [.int 3, .int 4, .int 2, .int 0, .tup [.tup [], .tup [.int 1], .tup []]]) [([0, 0, 1, 0], [])]
def k312_2 : Cl := clOf 3 2 4 (.tup [.int 3, .int 4, .int 2, .int 0, .tup [.tup [.int 1], .tup [], .tup []]]) [([0, 1, 0, 0], [])]
def k312_3 : Cl := clOf 3 2 4 (.tup [.int 3, .int 4, .int 2, .int 1, .tup [.tup [.int 0], .tup [], .tup []]]) [([1, 0, 1, 1], [])]
def k312_4 : Cl := clOf 3 2 4 (.tup [.int 3, .int 4, .int 2, .int 1, .tup [.tup [], .tup [.int 0], .tup []]]) [([1, 1, 0, 1], [])]
def k312_5 : Cl := clOf 3 2 4 (.tup [.int 3, .int 4, .int 2, .int 1, .tup [.tup [], .tup [], .tup [.int 0]]]) [([1, 1, 1, 0], [])]
theorem k312_0_ok : chkC k312_0 0 = true := by decide +kernel
theorem k312_1_ok : chkC k312_1 0 = true := by decide +kernel
theorem k312_2_ok : chkC k312_2 0 = true := by decide +kernel
theorem k312_3_ok : chkC k312_3 0 = true := by decide +kernel
theorem k312_4_ok : chkC k312_4 0 = true := by decide +kernel
theorem k312_5_ok : chkC k312_5 0 = true := by decide +kernel
def k312 : List Cl := [k312_0, k312_1, k312_2, k312_3, k312_4, k312_5]
theorem k312_chk : chkK 3 1 2 k312 = true := by decide +kernel
theorem k312_kind : KindOk 3 1 2 k312 := chkK_ok ((ok_cons k312_0_ok (ok_cons k312_1_ok (ok_cons k312_2_ok (ok_cons k312_3_ok (ok_cons k312_4_ok (ok_cons k312_5_ok ok_nil))))))) k312_chk
end Sl
end S_Sq3_0
noncomputable section S_Sq3_1
set_option Elab.async false
set_option linter.all false
set_option maxRecDepth 1000000
namespace Sl
def k412_0 : Cl := clOf 4 2 5 (.tup [.int 4, .int 5, .int 2, .int 0, .tup [.tup [], .tup [], .tup [], .tup [.int 1]]]) [([0, 0, 0, 0, 1], [])]
def k412_1 : Cl := clOf 4 2 5 (.tup [.int 4, .int 5, .int 2, .int 0, .tup [.tup [], .tup [], .tup [.int 1], .tup []]]) [([0, 0, 0, 1, 0], [])]
def k412_2 : Cl := clOf 4 2 5 (.tup [.int 4, .int 5, .int 2, .int 0, .tup [.tup [], .tup [.int 1], .tup [], .tup []]]) [([0, 0, 1, 0, 0], [])]
def k412_3 : Cl := clOf 4 2 5 (.tup [.int 4, .int 5, .int 2, .int 0, .tup [.tup [.int 1], .tup [], .tup [], .tup []]]) [([0, 1, 0, 0, 0], [])]
def k412_4 : Cl := clOf 4 2 5 (.tup [.int 4, .int 5, .int 2, .int 1, .tup [.tup [.int 0], .tup [], .tup [], .tup []]]) [([1, 0, 1, 1, 1], [])]
def k412_5 : Cl := clOf 4 2 5 (.tup [.int 4, .int 5, .int 2, .int 1, .tup [.tup [], .tup [.int 0], .tup [], .tup []]]) [([1, 1, 0, 1, 1], [])]
def k412_6 : Cl := clOf 4 2 5 (.tup [.int 4, .int 5, .int 2, .int 1, .tup [.tup [], .tup [], .tup [.int 0], .tup []]]) [([1, 1, 1, 0, 1], [])]
def k412_7 : Cl := clOf 4 2 5 (.tup [.int 4, .int 5, .int 2, .int 1, .tup [.tup [], .tup [], .tup [], .tup [.int 0]]]) [([1, 1, 1, 1, 0], [])]
theorem k412_0_ok : chkC k412_0 0 = true := by decide +kernel
theorem k412_1_ok : chkC k412_1 0 = true := by decide +kernel
theorem k412_2_ok : chkC k412_2 0 = true := by decide +kernel
theorem k412_3_ok : chkC k412_3 0 = true := by decide +kernel
theorem k412_4_ok : chkC k412_4 0 = true := by decide +kernel
theorem k412_5_ok : chkC k412_5 0 = true := by decide +kernel
theorem k412_6_ok : chkC k412_6 0 = true := by decide +kernel
theorem k412_7_ok : chkC k412_7 0 = true := by decide +kernel
def k412 : List Cl := [k412_0, k412_1, k412_2, k412_3, k412_4, k412_5, k412_6, k412_7]
theorem k412_chk : chkK 4 1 2 k412 = true := by decide +kernel
theorem k412_kind : KindOk 4 1 2 k412 := chkK_ok ((ok_cons k412_0_ok (ok_cons k412_1_ok (ok_cons k412_2_ok (ok_cons k412_3_ok (ok_cons k412_4_ok (ok_cons k412_5_ok (ok_cons k412_6_ok (ok_cons k412_7_ok ok_nil))))))))) k412_chk
end Sl
end S_Sq3_1
noncomputable section S_Sq3_2
set_option Elab.async false
set_option linter.all false
set_option maxRecDepth 1000000
namespace Sl
def k322_0 : Cl := clOf 3 2 7 (.tup [.int 3, .int 7, .int 2, .int 0, .tup [.tup [], .tup [], .tup [.int 1]]]) [([0, 0, 0, 0, 0, 0, 1], [((1, 5), [0, 0, 0, 0, 0, 1, 1])]), ([0, 0, 0, 0, 0, 1, 1], [((0, 5), [0, 0, 0, 0, 0, 0, 1])])]
def k322_1 : Cl := clOf 3 2 7 (.tup [.int 3, .int 7, .int 2, .int 0, .tup [.tup [], .tup [.int 1], .tup []]]) [([0, 0, 0, 0, 1, 0, 0], [((1, 3), [0, 0, 0, 1, 1, 0, 0])]), ([0, 0, 0, 1, 1, 0, 0], [((0, 3), [0, 0, 0, 0, 1, 0, 0])])]
def k322_2 : Cl := clOf 3 2 7 (.tup [.int 3, .int 7, .int 2, .int 0, .tup [.tup [.int 1], .tup [], .tup []]]) [([0, 0, 1, 0, 0, 0, 0], [((1, 1), [0, 1, 1, 0, 0, 0, 0])]), ([0, 1, 1, 0, 0, 0, 0], [((0, 1), [0, 0, 1, 0, 0, 0, 0])])]
def k322_3 : Cl := clOf 3 2 7 (.tup [.int 3, .int 7, .int 2, .int 1, .tup [.tup [.int 0], .tup [], .tup []]]) [([1, 0, 0, 1, 1, 1, 1], [((1, 1), [1, 1, 0, 1, 1, 1, 1])]), ([1, 1, 0, 1, 1, 1, 1], [((0, 1), [1, 0, 0, 1, 1, 1, 1])])]
def k322_4 : Cl := clOf 3 2 7 (.tup [.int 3, .int 7, .int 2, .int 1, .tup [.tup [], .tup [.int 0], .tup []]]) [([1, 1, 1, 0, 0, 1, 1], [((1, 3), [1, 1, 1, 1, 0, 1, 1])]), ([1, 1, 1, 1, 0, 1, 1], [((0, 3), [1, 1, 1, 0, 0, 1, 1])])]
def k322_5 : Cl := clOf 3 2 7 (.tup [.int 3, .int 7, .int 2, .int 1, .tup [.tup [], .tup [], .tup [.int 0]]]) [([1, 1, 1, 1, 1, 0, 0], [((1, 5), [1, 1, 1, 1, 1, 1, 0])]), ([1, 1, 1, 1, 1, 1, 0], [((0, 5), [1, 1, 1, 1, 1, 0, 0])])]
theorem k322_0_ok : chkC k322_0 1 = true := by decide +kernel
theorem k322_1_ok : chkC k322_1 1 = true := by decide +kernel
theorem k322_2_ok : chkC k322_2 1 = true := by decide +kernel
theorem k322_3_ok : chkC k322_3 1 = true := by decide +kernel
theorem k322_4_ok : chkC k322_4 1 = true := by decide +kernel
theorem k322_5_ok : chkC k322_5 1 = true := by decide +kernel
def k322 : List Cl := [k322_0, k322_1, k322_2, k322_3, k322_4, k322_5]
theorem k322_chk : chkK 3 2 2 k322 = true := by decide +kernel
theorem k322_kind : KindOk 3 2 2 k322 := chkK_ok ((ok_cons k322_0_ok (ok_cons k322_1_ok (ok_cons k322_2_ok (ok_cons k322_3_ok (ok_cons k322_4_ok (ok_cons k322_5_ok ok_nil))))))) k322_chk
end Sl
end S_Sq3_2
noncomputable section S_Sq3_3
set_option Elab.async false
set_option linter.all false
set_option maxRecDepth 1000000
namespace Sl
def k422_0 : Cl := clOf 4 2 9 (.tup [.int 4, .int 9, .int 2, .int 0, .tup [.tup [], .tup [], .tup [], .tup [.int 1]]]) [([0, 0, 0, 0, 0, 0, 0, 0, 1], [((1, 7), [0, 0, 0, 0, 0, 0, 0, 1, 1])]), ([0, 0, 0, 0, 0, 0, 0, 1, 1], [((0, 7), [0, 0, 0, 0, 0, 0, 0, 0, 1])])]
def k422_1 : Cl := clOf 4 2 9 (.tup [.int 4, .int 9, .int 2, .int 0, .tup [.tup [], .tup [], .tup [.int 1], .tup []]]) [([0, 0, 0, 0, 0, 0, 1, 0, 0], [((1, 5), [0, 0, 0, 0, 0, 1, 1, 0, 0])]), ([0, 0, 0, 0, 0, 1, 1, 0, 0], [((0, 5), [0, 0, 0, 0, 0, 0, 1, 0, 0])])]
def k422_2 : Cl := clOf 4 2 9 (.tup [.int 4, .int 9, .int 2, .int 0, .tup [.tup [], .tup [.int 1], .tup [], .tup []]]) [([0, 0, 0, 0, 1, 0, 0, 0, 0], [((1, 3), [0, 0, 0, 1, 1, 0, 0, 0, 0])]), ([0, 0, 0, 1, 1, 0, 0, 0, 0], [((0, 3), [0, 0, 0, 0, 1, 0, 0, 0, 0])])]
def k422_3 : Cl := clOf 4 2 9 (.tup [.int 4, .int 9, .int 2, .int 0, .tup [.tup [.int 1], .tup [], .tup [], .tup []]]) [([0, 0, 1, 0, 0, 0, 0, 0, 0], [((1, 1), [0, 1, 1, 0, 0, 0, 0, 0, 0])]), ([0, 1, 1, 0, 0, 0, 0, 0, 0], [((0, 1), [0, 0, 1, 0, 0, 0, 0, 0, 0])])]
def k422_4 : Cl := clOf 4 2 9 (.tup [.int 4, .int 9, .int 2, .int 1, .tup [.tup [.int 0], .tup [], .tup [], .tup []]]) [([1, 0, 0, 1, 1, 1, 1, 1, 1], [((1, 1), [1, 1, 0, 1, 1, 1, 1, 1, 1])]), ([1, 1, 0, 1, 1, 1, 1, 1, 1], [((0, 1), [1, 0, 0, 1, 1, 1, 1, 1, 1])])]
def k422_5 : Cl := clOf 4 2 9 (.tup [.int 4, .int 9, .int 2, .int 1, .tup [.tup [], .tup [.int 0], .tup [], .tup []]]) [([1, 1, 1, 0, 0, 1, 1, 1, 1], [((1, 3), [1, 1, 1, 1, 0, 1, 1, 1, 1])]), ([1, 1, 1, 1, 0, 1, 1, 1, 1], [((0, 3), [1, 1, 1, 0, 0, 1, 1, 1, 1])])]
def k422_6 : Cl := clOf 4 2 9 (.tup [.int 4, .int 9, .int 2, .int 1, .tup [.tup [], .tup [], .tup [.int 0], .tup []]]) [([1, 1, 1, 1, 1, 0, 0, 1, 1], [((1, 5), [1, 1, 1, 1, 1, 1, 0, 1, 1])]), ([1, 1, 1, 1, 1, 1, 0, 1, 1], [((0, 5), [1, 1, 1, 1, 1, 0, 0, 1, 1])])]
def k422_7 : Cl := clOf 4 2 9 (.tup [.int 4, .int 9, .int 2, .int 1, .tup [.tup [], .tup [], .tup [], .tup [.int 0]]]) [([1, 1, 1, 1, 1, 1, 1, 0, 0], [((1, 7), [1, 1, 1, 1, 1, 1, 1, 1, 0])]), ([1, 1, 1, 1, 1, 1, 1, 1, 0], [((0, 7), [1, 1, 1, 1, 1, 1, 1, 0, 0])])]
theorem k422_0_ok : chkC k422_0 1 = true := by decide +kernel
theorem k422_1_ok : chkC k422_1 1 = true := by decide +kernel
theorem k422_2_ok : chkC k422_2 1 = true := by decide +kernel
theorem k422_3_ok : chkC k422_3 1 = true := by decide +kernel
theorem k422_4_ok : chkC k422_4 1 = true := by decide +kernel
theorem k422_5_ok : chkC k422_5 1 = true := by decide +kernel
theorem k422_6_ok : chkC k422_6 1 = true := by decide +kernel
theorem k422_7_ok : chkC k422_7 1 = true := by decide +kernel
def k422 : List Cl := [k422_0, k422_1, k422_2, k422_3, k422_4, k422_5, k422_6, k422_7]
theorem k422_chk : chkK 4 2 2 k422 = true := by decide +kernel
theorem k422_kind : KindOk 4 2 2 k422 := chkK_ok ((ok_cons k422_0_ok (ok_cons k422_1_ok (ok_cons k422_2_ok (ok_cons k422_3_ok (ok_cons k422_4_ok (ok_cons k422_5_ok (ok_cons k422_6_ok (ok_cons k422_7_ok ok_nil))))))))) k422_chk
end Sl
end S_Sq3_3
noncomputable section S_Sq3_4
set_option Elab.async false
set_option linter.all false
set_option maxRecDepth 1000000
namespace Sl
def k323_0 : Cl := clOf 3 3 7 (.tup [.int 3, .int 7, .int 3, .int 0, .tup [.tup [], .tup [], .tup [.int 1, .int 2]]]) [([0, 0, 0, 0, 0, 1, 2], [])]
def k323_1 : Cl := clOf 3 3 7 (.tup [.int 3, .int 7, .int 3, .int 0, .tup [.tup [], .tup [], .tup [.int 2, .int 1]]]) [([0, 0, 0, 0, 0, 2, 1], [])]
def k323_2 : Cl := clOf 3 3 7 (.tup [.int 3, .int 7, .int 3, .tup [.int 0, .int 1, .int 2]]) [([0, 0, 0, 0, 1, 0, 2], [((1, 3), [0, 0, 0, 1, 1, 0, 2]), ((2, 5), [0, 0, 0, 0, 1, 2, 2])]), ([0, 0, 0, 1, 1, 0, 2], [((0, 3), [0, 0, 0, 0, 1, 0, 2]), ((2, 5), [0, 0, 0, 1, 1, 2, 2])]), ([0, 0, 0, 0, 1, 2, 2], [((0, 5), [0, 0, 0, 0, 1, 0, 2]), ((1, 3), [0, 0, 0, 1, 1, 2, 2])]), ([0, 0, 0, 1, 1, 2, 2], [((0, 3), [0, 0, 0, 0, 1, 2, 2]), ((0, 5), [0, 0, 0, 1, 1, 0, 2]), ((1, 0), [1, 0, 0, 1, 1, 2, 2]), ((2, 0), [2, 0, 0, 1, 1, 2, 2])]), ([1, 0, 0, 1, 1, 2, 2], [((0, 0), [0, 0, 0, 1, 1, 2, 2]), ((1, 1), [1, 1, 0, 1, 1, 2, 2]), ((1, 5), [1, 0, 0, 1, 1, 1, 2]), ((2, 0), [2, 0, 0, 1, 1, 2, 2])]), ([2, 0, 0, 1, 1, 2, 2], [((0, 0), [0, 0, 0, 1, 1, 2, 2]), ((1, 0), [1, 0, 0, 1, 1, 2, 2]), ((2, 1), [2, 2, 0, 1, 1, 2, 2]), ((2, 3), [2, 0, 0, 2, 1, 2, 2])]), ([1, 1, 0, 1, 1, 2, 2], [((0, 1), [1, 0, 0, 1, 1, 2, 2]), ((1, 5), [1, 1, 0, 1, 1, 1, 2])]), ([1, 0, 0, 1, 1, 1, 2], [((1, 1), [1, 1, 0, 1, 1, 1, 2]), ((2, 5), [1, 0, 0, 1, 1, 2, 2])]), ([2, 2, 0, 1, 1, 2, 2], [((0, 1), [2, 0, 0, 1, 1, 2, 2]), ((2, 3), [2, 2, 0, 2, 1, 2, 2])]), ([2, 0, 0, 2, 1, 2, 2], [((1, 3), [2, 0, 0, 1, 1, 2, 2]), ((2, 1), [2, 2, 0, 2, 1, 2, 2])]), ([1, 1, 0, 1, 1, 1, 2], [((0, 1), [1, 0, 0, 1, 1, 1, 2]), ((2, 5), [1, 1, 0, 1, 1, 2, 2])]), ([2, 2, 0, 2, 1, 2, 2], [((0, 1), [2, 0, 0, 2, 1, 2, 2]), ((1, 3), [2, 2, 0, 1, 1, 2, 2])])]
def k323_3 : Cl := clOf 3 3 7 (.tup [.int 3, .int 7, .int 3, .tup [.int 0, .int 2, .int 1]]) [([0, 0, 0, 0, 2, 0, 1], [((1, 5), [0, 0, 0, 0, 2, 1, 1]), ((2, 3), [0, 0, 0, 2, 2, 0, 1])]), ([0, 0, 0, 0, 2, 1, 1], [((0, 5), [0, 0, 0, 0, 2, 0, 1]), ((2, 3), [0, 0, 0, 2, 2, 1, 1])]), ([0, 0, 0, 2, 2, 0, 1], [((0, 3), [0, 0, 0, 0, 2, 0, 1]), ((1, 5), [0, 0, 0, 2, 2, 1, 1])]), ([0, 0, 0, 2, 2, 1, 1], [((0, 3), [0, 0, 0, 0, 2, 1, 1]), ((0, 5), [0, 0, 0, 2, 2, 0, 1]), ((1, 0), [1, 0, 0, 2, 2, 1, 1]), ((2, 0), [2, 0, 0, 2, 2, 1, 1])]), ([1, 0, 0, 2, 2, 1, 1], [((0, 0), [0, 0, 0, 2, 2, 1, 1]), ((1, 1), [1, 1, 0, 2, 2, 1, 1]), ((1, 3), [1, 0, 0, 1, 2, 1, 1]), ((2, 0), [2, 0, 0, 2, 2, 1, 1])]), ([2, 0, 0, 2, 2, 1, 1], [((0, 0), [0, 0, 0, 2, 2, 1, 1]), ((1, 0), [1, 0, 0, 2, 2, 1, 1]), ((2, 1), [2, 2, 0, 2, 2, 1, 1]), ((2, 5), [2, 0, 0, 2, 2, 2, 1])]), ([1, 1, 0, 2, 2, 1, 1], [((0, 1), [1, 0, 0, 2, 2, 1, 1]), ((1, 3), [1, 1, 0, 1, 2, 1, 1])]), ([1, 0, 0, 1, 2, 1, 1], [((1, 1), [1, 1, 0, 1, 2, 1, 1]), ((2, 3), [1, 0, 0, 2, 2, 1, 1])]), ([2, 2, 0, 2, 2, 1, 1], [((0, 1), [2, 0, 0, 2, 2, 1, 1]), ((2, 5), [2, 2, 0, 2, 2, 2, 1])]), ([2, 0, 0, 2, 2, 2, 1], [((1, 5), [2, 0, 0, 2, 2, 1, 1]), ((2, 1), [2, 2, 0, 2, 2, 2, 1])]), ([1, 1, 0, 1, 2, 1, 1], [((0, 1), [1, 0, 0, 1, 2, 1, 1]), ((2, 3), [1, 1, 0, 2, 2, 1, 1])]), ([2, 2, 0, 2, 2, 2, 1], [((0, 1), [2, 0, 0, 2, 2, 2, 1]), ((1, 5), [2, 2, 0, 2, 2, 1, 1])])]
def k323_4 : Cl := clOf 3 3 7 (.tup [.int 3, .int 7, .int 3, .int 0, .tup [.tup [], .tup [.int 1, .int 2], .tup []]]) [([0, 0, 0, 1, 2, 0, 0], [])]
def k323_5 : Cl := clOf 3 3 7 (.tup [.int 3, .int 7, .int 3, .int 0, .tup [.tup [], .tup [.int 2, .int 1], .tup []]]) [([0, 0, 0, 2, 1, 0, 0], [])]
def k323_6 : Cl := clOf 3 3 7 (.tup [.int 3, .int 7, .int 3, .tup [.int 1, .int 0, .int 2]]) [([0, 0, 1, 0, 0, 0, 2], [((1, 1), [0, 1, 1, 0, 0, 0, 2]), ((2, 5), [0, 0, 1, 0, 0, 2, 2])]), ([0, 1, 1, 0, 0, 0, 2], [((0, 1), [0, 0, 1, 0, 0, 0, 2]), ((2, 5), [0, 1, 1, 0, 0, 2, 2])]), ([0, 0, 1, 0, 0, 2, 2], [((0, 5), [0, 0, 1, 0, 0, 0, 2]), ((1, 1), [0, 1, 1, 0, 0, 2, 2])]), ([0, 1, 1, 0, 0, 2, 2], [((0, 1), [0, 0, 1, 0, 0, 2, 2]), ((0, 5), [0, 1, 1, 0, 0, 0, 2]), ((1, 0), [1, 1, 1, 0, 0, 2, 2]), ((2, 0), [2, 1, 1, 0, 0, 2, 2])]), ([1, 1, 1, 0, 0, 2, 2], [((0, 0), [0, 1, 1, 0, 0, 2, 2]), ((1, 3), [1, 1, 1, 1, 0, 2, 2]), ((1, 5), [1, 1, 1, 0, 0, 1, 2]), ((2, 0), [2, 1, 1, 0, 0, 2, 2])]), ([2, 1, 1, 0, 0, 2, 2], [((0, 0), [0, 1, 1, 0, 0, 2, 2]), ((1, 0), [1, 1, 1, 0, 0, 2, 2]), ((2, 1), [2, 2, 1, 0, 0, 2, 2]), ((2, 3), [2, 1, 1, 2, 0, 2, 2])]), ([1, 1, 1, 1, 0, 2, 2], [((0, 3), [1, 1, 1, 0, 0, 2, 2]), ((1, 5), [1, 1, 1, 1, 0, 1, 2])]), ([1, 1, 1, 0, 0, 1, 2], [((1, 3), [1, 1, 1, 1, 0, 1, 2]), ((2, 5), [1, 1, 1, 0, 0, 2, 2])]), ([2, 2, 1, 0, 0, 2, 2], [((1, 1), [2, 1, 1, 0, 0, 2, 2]), ((2, 3), [2, 2, 1, 2, 0, 2, 2])]), ([2, 1, 1, 2, 0, 2, 2], [((0, 3), [2, 1, 1, 0, 0, 2, 2]), ((2, 1), [2, 2, 1, 2, 0, 2, 2])]), ([1, 1, 1, 1, 0, 1, 2], [((0, 3), [1, 1, 1, 0, 0, 1, 2]), ((2, 5), [1, 1, 1, 1, 0, 2, 2])]), ([2, 2, 1, 2, 0, 2, 2], [((0, 3), [2, 2, 1, 0, 0, 2, 2]), ((1, 1), [2, 1, 1, 2, 0, 2, 2])])]
def k323_7 : Cl := clOf 3 3 7 (.tup [.int 3, .int 7, .int 3, .tup [.int 1, .int 2, .int 0]]) [([0, 0, 1, 0, 2, 0, 0], [((1, 1), [0, 1, 1, 0, 2, 0, 0]), ((2, 3), [0, 0, 1, 2, 2, 0, 0])]), ([0, 1, 1, 0, 2, 0, 0], [((0, 1), [0, 0, 1, 0, 2, 0, 0]), ((2, 3), [0, 1, 1, 2, 2, 0, 0])]), ([0, 0, 1, 2, 2, 0, 0], [((0, 3), [0, 0, 1, 0, 2, 0, 0]), ((1, 1), [0, 1, 1, 2, 2, 0, 0])]), ([0, 1, 1, 2, 2, 0, 0], [((0, 1), [0, 0, 1, 2, 2, 0, 0]), ((0, 3), [0, 1, 1, 0, 2, 0, 0]), ((1, 0), [1, 1, 1, 2, 2, 0, 0]), ((2, 0), [2, 1, 1, 2, 2, 0, 0])]), ([1, 1, 1, 2, 2, 0, 0], [((0, 0), [0, 1, 1, 2, 2, 0, 0]), ((1, 3), [1, 1, 1, 1, 2, 0, 0]), ((1, 5), [1, 1, 1, 2, 2, 1, 0]), ((2, 0), [2, 1, 1, 2, 2, 0, 0])]), ([2, 1, 1, 2, 2, 0, 0], [((0, 0), [0, 1, 1, 2, 2, 0, 0]), ((1, 0), [1, 1, 1, 2, 2, 0, 0]), ((2, 1), [2, 2, 1, 2, 2, 0, 0]), ((2, 5), [2, 1, 1, 2, 2, 2, 0])]), ([1, 1, 1, 1, 2, 0, 0], [((1, 5), [1, 1, 1, 1, 2, 1, 0]), ((2, 3), [1, 1, 1, 2, 2, 0, 0])]), ([1, 1, 1, 2, 2, 1, 0], [((0, 5), [1, 1, 1, 2, 2, 0, 0]), ((1, 3), [1, 1, 1, 1, 2, 1, 0])]), ([2, 2, 1, 2, 2, 0, 0], [((1, 1), [2, 1, 1, 2, 2, 0, 0]), ((2, 5), [2, 2, 1, 2, 2, 2, 0])]), ([2, 1, 1, 2, 2, 2, 0], [((0, 5), [2, 1, 1, 2, 2, 0, 0]), ((2, 1), [2, 2, 1, 2, 2, 2, 0])]), ([1, 1, 1, 1, 2, 1, 0], [((0, 5), [1, 1, 1, 1, 2, 0, 0]), ((2, 3), [1, 1, 1, 2, 2, 1, 0])]), ([2, 2, 1, 2, 2, 2, 0], [((0, 5), [2, 2, 1, 2, 2, 0, 0]), ((1, 1), [2, 1, 1, 2, 2, 2, 0])])]
def k323_8 : Cl := clOf 3 3 7 (.tup [.int 3, .int 7, .int 3, .tup [.int 2, .int 0, .int 1]]) [([0, 0, 2, 0, 0, 0, 1], [((1, 5), [0, 0, 2, 0, 0, 1, 1]), ((2, 1), [0, 2, 2, 0, 0, 0, 1])]), ([0, 0, 2, 0, 0, 1, 1], [((0, 5), [0, 0, 2, 0, 0, 0, 1]), ((2, 1), [0, 2, 2, 0, 0, 1, 1])]), ([0, 2, 2, 0, 0, 0, 1], [((0, 1), [0, 0, 2, 0, 0, 0, 1]), ((1, 5), [0, 2, 2, 0, 0, 1, 1])]), ([0, 2, 2, 0, 0, 1, 1], [((0, 1), [0, 0, 2, 0, 0, 1, 1]), ((0, 5), [0, 2, 2, 0, 0, 0, 1]), ((1, 0), [1, 2, 2, 0, 0, 1, 1]), ((2, 0), [2, 2, 2, 0, 0, 1, 1])]), ([1, 2, 2, 0, 0, 1, 1], [((0, 0), [0, 2, 2, 0, 0, 1, 1]), ((1, 1), [1, 1, 2, 0, 0, 1, 1]), ((1, 3), [1, 2, 2, 1, 0, 1, 1]), ((2, 0), [2, 2, 2, 0, 0, 1, 1])]), ([2, 2, 2, 0, 0, 1, 1], [((0, 0), [0, 2, 2, 0, 0, 1, 1]), ((1, 0), [1, 2, 2, 0, 0, 1, 1]), ((2, 3), [2, 2, 2, 2, 0, 1, 1]), ((2, 5), [2, 2, 2, 0, 0, 2, 1])]), ([1, 1, 2, 0, 0, 1, 1], [((1, 3), [1, 1, 2, 1, 0, 1, 1]), ((2, 1), [1, 2, 2, 0, 0, 1, 1])]), ([1, 2, 2, 1, 0, 1, 1], [((0, 3), [1, 2, 2, 0, 0, 1, 1]), ((1, 1), [1, 1, 2, 1, 0, 1, 1])]), ([2, 2, 2, 2, 0, 1, 1], [((0, 3), [2, 2, 2, 0, 0, 1, 1]), ((2, 5), [2, 2, 2, 2, 0, 2, 1])]), ([2, 2, 2, 0, 0, 2, 1], [((1, 5), [2, 2, 2, 0, 0, 1, 1]), ((2, 3), [2, 2, 2, 2, 0, 2, 1])]), ([1, 1, 2, 1, 0, 1, 1], [((0, 3), [1, 1, 2, 0, 0, 1, 1]), ((2, 1), [1, 2, 2, 1, 0, 1, 1])]), ([2, 2, 2, 2, 0, 2, 1], [((0, 3), [2, 2, 2, 0, 0, 2, 1]), ((1, 5), [2, 2, 2, 2, 0, 1, 1])])]
def k323_9 : Cl := clOf 3 3 7 (.tup [.int 3, .int 7, .int 3, .tup [.int 2, .int 1, .int 0]]) [([0, 0, 2, 0, 1, 0, 0], [((1, 3), [0, 0, 2, 1, 1, 0, 0]), ((2, 1), [0, 2, 2, 0, 1, 0, 0])]), ([0, 0, 2, 1, 1, 0, 0], [((0, 3), [0, 0, 2, 0, 1, 0, 0]), ((2, 1), [0, 2, 2, 1, 1, 0, 0])]), ([0, 2, 2, 0, 1, 0, 0], [((0, 1), [0, 0, 2, 0, 1, 0, 0]), ((1, 3), [0, 2, 2, 1, 1, 0, 0])]), ([0, 2, 2, 1, 1, 0, 0], [((0, 1), [0, 0, 2, 1, 1, 0, 0]), ((0, 3), [0, 2, 2, 0, 1, 0, 0]), ((1, 0), [1, 2, 2, 1, 1, 0, 0]), ((2, 0), [2, 2, 2, 1, 1, 0, 0])]), ([1, 2, 2, 1, 1, 0, 0], [((0, 0), [0, 2, 2, 1, 1, 0, 0]), ((1, 1), [1, 1, 2, 1, 1, 0, 0]), ((1, 5), [1, 2, 2, 1, 1, 1, 0]), ((2, 0), [2, 2, 2, 1, 1, 0, 0])]), ([2, 2, 2, 1, 1, 0, 0], [((0, 0), [0, 2, 2, 1, 1, 0, 0]), ((1, 0), [1, 2, 2, 1, 1, 0, 0]), ((2, 3), [2, 2, 2, 2, 1, 0, 0]), ((2, 5), [2, 2, 2, 1, 1, 2, 0])]), ([1, 1, 2, 1, 1, 0, 0], [((1, 5), [1, 1, 2, 1, 1, 1, 0]), ((2, 1), [1, 2, 2, 1, 1, 0, 0])]), ([1, 2, 2, 1, 1, 1, 0], [((0, 5), [1, 2, 2, 1, 1, 0, 0]), ((1, 1), [1, 1, 2, 1, 1, 1, 0])]), ([2, 2, 2, 2, 1, 0, 0], [((1, 3), [2, 2, 2, 1, 1, 0, 0]), ((2, 5), [2, 2, 2, 2, 1, 2, 0])]), ([2, 2, 2, 1, 1, 2, 0], [((0, 5), [2, 2, 2, 1, 1, 0, 0]), ((2, 3), [2, 2, 2, 2, 1, 2, 0])]), ([1, 1, 2, 1, 1, 1, 0], [((0, 5), [1, 1, 2, 1, 1, 0, 0]), ((2, 1), [1, 2, 2, 1, 1, 1, 0])]), ([2, 2, 2, 2, 1, 2, 0], [((0, 5), [2, 2, 2, 2, 1, 0, 0]), ((1, 3), [2, 2, 2, 1, 1, 2, 0])])]
def k323_10 : Cl := clOf 3 3 7 (.tup [.int 3, .int 7, .int 3, .int 0, .tup [.tup [.int 1, .int 2], .tup [], .tup []]]) [([0, 1, 2, 0, 0, 0, 0], [])]
def k323_11 : Cl := clOf 3 3 7 (.tup [.int 3, .int 7, .int 3, .int 0, .tup [.tup [.int 2, .int 1], .tup [], .tup []]]) [([0, 2, 1, 0, 0, 0, 0], [])]
def k323_12 : Cl := clOf 3 3 7 (.tup [.int 3, .int 7, .int 3, .int 1, .tup [.tup [.int 0, .int 2], .tup [], .tup []]]) [([1, 0, 2, 1, 1, 1, 1], [])]
def k323_13 : Cl := clOf 3 3 7 (.tup [.int 3, .int 7, .int 3, .int 1, .tup [.tup [], .tup [.int 0, .int 2], .tup []]]) [([1, 1, 1, 0, 2, 1, 1], [])]
def k323_14 : Cl := clOf 3 3 7 (.tup [.int 3, .int 7, .int 3, .int 1, .tup [.tup [], .tup [], .tup [.int 0, .int 2]]]) [([1, 1, 1, 1, 1, 0, 2], [])]
def k323_15 : Cl := clOf 3 3 7 (.tup [.int 3, .int 7, .int 3, .int 1, .tup [.tup [], .tup [], .tup [.int 2, .int 0]]]) [([1, 1, 1, 1, 1, 2, 0], [])]
def k323_16 : Cl := clOf 3 3 7 (.tup [.int 3, .int 7, .int 3, .int 1, .tup [.tup [], .tup [.int 2, .int 0], .tup []]]) [([1, 1, 1, 2, 0, 1, 1], [])]
def k323_17 : Cl := clOf 3 3 7 (.tup [.int 3, .int 7, .int 3, .int 1, .tup [.tup [.int 2, .int 0], .tup [], .tup []]]) [([1, 2, 0, 1, 1, 1, 1], [])]
def k323_18 : Cl := clOf 3 3 7 (.tup [.int 3, .int 7, .int 3, .int 2, .tup [.tup [.int 0, .int 1], .tup [], .tup []]]) [([2, 0, 1, 2, 2, 2, 2], [])]
def k323_19 : Cl := clOf 3 3 7 (.tup [.int 3, .int 7, .int 3, .int 2, .tup [.tup [.int 1, .int 0], .tup [], .tup []]]) [([2, 1, 0, 2, 2, 2, 2], [])]
def k323_20 : Cl := clOf 3 3 7 (.tup [.int 3, .int 7, .int 3, .int 2, .tup [.tup [], .tup [.int 0, .int 1], .tup []]]) [([2, 2, 2, 0, 1, 2, 2], [])]
def k323_21 : Cl := clOf 3 3 7 (.tup [.int 3, .int 7, .int 3, .int 2, .tup [.tup [], .tup [.int 1, .int 0], .tup []]]) [([2, 2, 2, 1, 0, 2, 2], [])]
def k323_22 : Cl := clOf 3 3 7 (.tup [.int 3, .int 7, .int 3, .int 2, .tup [.tup [], .tup [], .tup [.int 0, .int 1]]]) [([2, 2, 2, 2, 2, 0, 1], [])]
def k323_23 : Cl := clOf 3 3 7 (.tup [.int 3, .int 7, .int 3, .int 2, .tup [.tup [], .tup [], .tup [.int 1, .int 0]]]) [([2, 2, 2, 2, 2, 1, 0], [])]
theorem k323_0_ok : chkC k323_0 0 = true := by decide +kernel
theorem k323_1_ok : chkC k323_1 0 = true := by decide +kernel
theorem k323_2_ok : chkC k323_2 5 = true := by decide +kernel
theorem k323_3_ok : chkC k323_3 5 = true := by decide +kernel
theorem k323_4_ok : chkC k323_4 0 = true := by decide +kernel
theorem k323_5_ok : chkC k323_5 0 = true := by decide +kernel
theorem k323_6_ok : chkC k323_6 5 = true := by decide +kernel
theorem k323_7_ok : chkC k323_7 5 = true := by decide +kernel
theorem k323_8_ok : chkC k323_8 5 = true := by decide +kernel
theorem k323_9_ok : chkC k323_9 5 = true := by decide +kernel
theorem k323_10_ok : chkC k323_10 0 = true := by decide +kernel
theorem k323_11_ok : chkC k323_11 0 = true := by decide +kernel
theorem k323_12_ok : chkC k323_12 0 = true := by decide +kernel
theorem k323_13_ok : chkC k323_13 0 = true := by decide +kernel
theorem k323_14_ok : chkC k323_14 0 = true := by decide +kernel
theorem k323_15_ok : chkC k323_15 0 = true := by decide +kernel
theorem k323_16_ok : chkC k323_16 0 = true := by decide +kernel
theorem k323_17_ok : chkC k323_17 0 = true := by decide +kernel
theorem k323_18_ok : chkC k323_18 0 = true := by decide +kernel
theorem k323_19_ok : chkC k323_19 0 = true := by decide +kernel
theorem k323_20_ok : chkC k323_20 0 = true := by decide +kernel
theorem k323_21_ok : chkC k323_21 0 = true := by decide +kernel
theorem k323_22_ok : chkC k323_22 0 = true := by decide +kernel
theorem k323_23_ok : chkC k323_23 0 = true := by decide +kernel
def k323 : List Cl := [k323_0, k323_1, k323_2, k323_3, k323_4, k323_5, k323_6, k323_7, k323_8, k323_9, k323_10, k323_11, k323_12, k323_13, k323_14, k323_15, k323_16, k323_17, k323_18, k323_19, k323_20, k323_21, k323_22, k323_23]
theorem k323_chk : chkK 3 2 3 k323 = true := by decide +kernel
theorem k323_kind : KindOk 3 2 3 k323 := chkK_ok ((ok_cons k323_0_ok (ok_cons k323_1_ok (ok_cons k323_2_ok (ok_cons k323_3_ok (ok_cons k323_4_ok (ok_cons k323_5_ok (ok_cons k323_6_ok (ok_cons k323_7_ok (ok_cons k323_8_ok (ok_cons k323_9_ok (ok_cons k323_10_ok (ok_cons k323_11_ok (ok_cons k323_12_ok (ok_cons k323_13_ok (ok_cons k323_14_ok (ok_cons k323_15_ok (ok_cons k323_16_ok (ok_cons k323_17_ok (ok_cons k323_18_ok (ok_cons k323_19_ok (ok_cons k323_20_ok (ok_cons k323_21_ok (ok_cons k323_22_ok (ok_cons k323_23_ok ok_nil))))))))))))))))))))))))) k323_chk
end Sl
end S_Sq3_4
noncomputable section S_Sq3_5
set_option Elab.async false
set_option linter.all false
set_option maxRecDepth 1000000
namespace Sl
def k423_0 : Cl := clOf 4 3 9 (.tup [.int 4, .int 9, .int 3, .int 0, .tup [.tup [], .tup [], .tup [], .tup [.int 1, .int 2]]]) [([0, 0, 0, 0, 0, 0, 0, 1, 2], [])]
def k423_1 : Cl := clOf 4 3 9 (.tup [.int 4, .int 9, .int 3, .int 0, .tup [.tup [], .tup [], .tup [], .tup [.int 2, .int 1]]]) [([0, 0, 0, 0, 0, 0, 0, 2, 1], [])]
def k423_2 : Cl := clOf 4 3 9 (.tup [.int 4, .int 9, .int 3, .int 0, .tup [.tup [], .tup [], .tup [.int 1], .tup [.int 2]]]) [([0, 0, 0, 0, 0, 0, 1, 0, 2], [((1, 5), [0, 0, 0, 0, 0, 1, 1, 0, 2]), ((2, 7), [0, 0, 0, 0, 0, 0, 1, 2, 2])]), ([0, 0, 0, 0, 0, 1, 1, 0, 2], [((0, 5), [0, 0, 0, 0, 0, 0, 1, 0, 2]), ((2, 7), [0, 0, 0, 0, 0, 1, 1, 2, 2])]), ([0, 0, 0, 0, 0, 0, 1, 2, 2], [((0, 7), [0, 0, 0, 0, 0, 0, 1, 0, 2]), ((1, 5), [0, 0, 0, 0, 0, 1, 1, 2, 2])]), ([0, 0, 0, 0, 0, 1, 1, 2, 2], [((0, 5), [0, 0, 0, 0, 0, 0, 1, 2, 2]), ((0, 7), [0, 0, 0, 0, 0, 1, 1, 0, 2])])]
def k423_3 : Cl := clOf 4 3 9 (.tup [.int 4, .int 9, .int 3, .int 0, .tup [.tup [], .tup [], .tup [.int 2], .tup [.int 1]]]) [([0, 0, 0, 0, 0, 0, 2, 0, 1], [((1, 7), [0, 0, 0, 0, 0, 0, 2, 1, 1]), ((2, 5), [0, 0, 0, 0, 0, 2, 2, 0, 1])]), ([0, 0, 0, 0, 0, 0, 2, 1, 1], [((0, 7), [0, 0, 0, 0, 0, 0, 2, 0, 1]), ((2, 5), [0, 0, 0, 0, 0, 2, 2, 1, 1])]), ([0, 0, 0, 0, 0, 2, 2, 0, 1], [((0, 5), [0, 0, 0, 0, 0, 0, 2, 0, 1]), ((1, 7), [0, 0, 0, 0, 0, 2, 2, 1, 1])]), ([0, 0, 0, 0, 0, 2, 2, 1, 1], [((0, 5), [0, 0, 0, 0, 0, 0, 2, 1, 1]), ((0, 7), [0, 0, 0, 0, 0, 2, 2, 0, 1])])]
def k423_4 : Cl := clOf 4 3 9 (.tup [.int 4, .int 9, .int 3, .int 0, .tup [.tup [], .tup [], .tup [.int 1, .int 2], .tup []]]) [([0, 0, 0, 0, 0, 1, 2, 0, 0], [])]
def k423_5 : Cl := clOf 4 3 9 (.tup [.int 4, .int 9, .int 3, .int 0, .tup [.tup [], .tup [], .tup [.int 2, .int 1], .tup []]]) [([0, 0, 0, 0, 0, 2, 1, 0, 0], [])]
def k423_6 : Cl := clOf 4 3 9 (.tup [.int 4, .int 9, .int 3, .int 0, .tup [.tup [], .tup [.int 1], .tup [], .tup [.int 2]]]) [([0, 0, 0, 0, 1, 0, 0, 0, 2], [((1, 3), [0, 0, 0, 1, 1, 0, 0, 0, 2]), ((2, 7), [0, 0, 0, 0, 1, 0, 0, 2, 2])]), ([0, 0, 0, 1, 1, 0, 0, 0, 2], [((0, 3), [0, 0, 0, 0, 1, 0, 0, 0, 2]), ((2, 7), [0, 0, 0, 1, 1, 0, 0, 2, 2])]), ([0, 0, 0, 0, 1, 0, 0, 2, 2], [((0, 7), [0, 0, 0, 0, 1, 0, 0, 0, 2]), ((1, 3), [0, 0, 0, 1, 1, 0, 0, 2, 2])]), ([0, 0, 0, 1, 1, 0, 0, 2, 2], [((0, 3), [0, 0, 0, 0, 1, 0, 0, 2, 2]), ((0, 7), [0, 0, 0, 1, 1, 0, 0, 0, 2])])]
def k423_7 : Cl := clOf 4 3 9 (.tup [.int 4, .int 9, .int 3, .int 0, .tup [.tup [], .tup [.int 1], .tup [.int 2], .tup []]]) [([0, 0, 0, 0, 1, 0, 2, 0, 0], [((1, 3), [0, 0, 0, 1, 1, 0, 2, 0, 0]), ((2, 5), [0, 0, 0, 0, 1, 2, 2, 0, 0])]), ([0, 0, 0, 1, 1, 0, 2, 0, 0], [((0, 3), [0, 0, 0, 0, 1, 0, 2, 0, 0]), ((2, 5), [0, 0, 0, 1, 1, 2, 2, 0, 0])]), ([0, 0, 0, 0, 1, 2, 2, 0, 0], [((0, 5), [0, 0, 0, 0, 1, 0, 2, 0, 0]), ((1, 3), [0, 0, 0, 1, 1, 2, 2, 0, 0])]), ([0, 0, 0, 1, 1, 2, 2, 0, 0], [((0, 3), [0, 0, 0, 0, 1, 2, 2, 0, 0]), ((0, 5), [0, 0, 0, 1, 1, 0, 2, 0, 0])])]
def k423_8 : Cl := clOf 4 3 9 (.tup [.int 4, .int 9, .int 3, .int 0, .tup [.tup [], .tup [.int 2], .tup [], .tup [.int 1]]]) [([0, 0, 0, 0, 2, 0, 0, 0, 1], [((1, 7), [0, 0, 0, 0, 2, 0, 0, 1, 1]), ((2, 3), [0, 0, 0, 2, 2, 0, 0, 0, 1])]), ([0, 0, 0, 0, 2, 0, 0, 1, 1], [((0, 7), [0, 0, 0, 0, 2, 0, 0, 0, 1]), ((2, 3), [0, 0, 0, 2, 2, 0, 0, 1, 1])]), ([0, 0, 0, 2, 2, 0, 0, 0, 1], [((0, 3), [0, 0, 0, 0, 2, 0, 0, 0, 1]), ((1, 7), [0, 0, 0, 2, 2, 0, 0, 1, 1])]), ([0, 0, 0, 2, 2, 0, 0, 1, 1], [((0, 3), [0, 0, 0, 0, 2, 0, 0, 1, 1]), ((0, 7), [0, 0, 0, 2, 2, 0, 0, 0, 1])])]
def k423_9 : Cl := clOf 4 3 9 (.tup [.int 4, .int 9, .int 3, .int 0, .tup [.tup [], .tup [.int 2], .tup [.int 1], .tup []]]) [([0, 0, 0, 0, 2, 0, 1, 0, 0], [((1, 5), [0, 0, 0, 0, 2, 1, 1, 0, 0]), ((2, 3), [0, 0, 0, 2, 2, 0, 1, 0, 0])]), ([0, 0, 0, 0, 2, 1, 1, 0, 0], [((0, 5), [0, 0, 0, 0, 2, 0, 1, 0, 0]), ((2, 3), [0, 0, 0, 2, 2, 1, 1, 0, 0])]), ([0, 0, 0, 2, 2, 0, 1, 0, 0], [((0, 3), [0, 0, 0, 0, 2, 0, 1, 0, 0]), ((1, 5), [0, 0, 0, 2, 2, 1, 1, 0, 0])]), ([0, 0, 0, 2, 2, 1, 1, 0, 0], [((0, 3), [0, 0, 0, 0, 2, 1, 1, 0, 0]), ((0, 5), [0, 0, 0, 2, 2, 0, 1, 0, 0])])]
def k423_10 : Cl := clOf 4 3 9 (.tup [.int 4, .int 9, .int 3, .int 0, .tup [.tup [], .tup [.int 1, .int 2], .tup [], .tup []]]) [([0, 0, 0, 1, 2, 0, 0, 0, 0], [])]
def k423_11 : Cl := clOf 4 3 9 (.tup [.int 4, .int 9, .int 3, .int 0, .tup [.tup [], .tup [.int 2, .int 1], .tup [], .tup []]]) [([0, 0, 0, 2, 1, 0, 0, 0, 0], [])]
def k423_12 : Cl := clOf 4 3 9 (.tup [.int 4, .int 9, .int 3, .int 0, .tup [.tup [.int 1], .tup [], .tup [], .tup [.int 2]]]) [([0, 0, 1, 0, 0, 0, 0, 0, 2], [((1, 1), [0, 1, 1, 0, 0, 0, 0, 0, 2]), ((2, 7), [0, 0, 1, 0, 0, 0, 0, 2, 2])]), ([0, 1, 1, 0, 0, 0, 0, 0, 2], [((0, 1), [0, 0, 1, 0, 0, 0, 0, 0, 2]), ((2, 7), [0, 1, 1, 0, 0, 0, 0, 2, 2])]), ([0, 0, 1, 0, 0, 0, 0, 2, 2], [((0, 7), [0, 0, 1, 0, 0, 0, 0, 0, 2]), ((1, 1), [0, 1, 1, 0, 0, 0, 0, 2, 2])]), ([0, 1, 1, 0, 0, 0, 0, 2, 2], [((0, 1), [0, 0, 1, 0, 0, 0, 0, 2, 2]), ((0, 7), [0, 1, 1, 0, 0, 0, 0, 0, 2])])]
def k423_13 : Cl := clOf 4 3 9 (.tup [.int 4, .int 9, .int 3, .int 0, .tup [.tup [.int 1], .tup [], .tup [.int 2], .tup []]]) [([0, 0, 1, 0, 0, 0, 2, 0, 0], [((1, 1), [0, 1, 1, 0, 0, 0, 2, 0, 0]), ((2, 5), [0, 0, 1, 0, 0, 2, 2, 0, 0])]), ([0, 1, 1, 0, 0, 0, 2, 0, 0], [((0, 1), [0, 0, 1, 0, 0, 0, 2, 0, 0]), ((2, 5), [0, 1, 1, 0, 0, 2, 2, 0, 0])]), ([0, 0, 1, 0, 0, 2, 2, 0, 0], [((0, 5), [0, 0, 1, 0, 0, 0, 2, 0, 0]), ((1, 1), [0, 1, 1, 0, 0, 2, 2, 0, 0])]), ([0, 1, 1, 0, 0, 2, 2, 0, 0], [((0, 1), [0, 0, 1, 0, 0, 2, 2, 0, 0]), ((0, 5), [0, 1, 1, 0, 0, 0, 2, 0, 0])])]
def k423_14 : Cl := clOf 4 3 9 (.tup [.int 4, .int 9, .int 3, .int 0, .tup [.tup [.int 1], .tup [.int 2], .tup [], .tup []]]) [([0, 0, 1, 0, 2, 0, 0, 0, 0], [((1, 1), [0, 1, 1, 0, 2, 0, 0, 0, 0]), ((2, 3), [0, 0, 1, 2, 2, 0, 0, 0, 0])]), ([0, 1, 1, 0, 2, 0, 0, 0, 0], [((0, 1), [0, 0, 1, 0, 2, 0, 0, 0, 0]), ((2, 3), [0, 1, 1, 2, 2, 0, 0, 0, 0])]), ([0, 0, 1, 2, 2, 0, 0, 0, 0], [((0, 3), [0, 0, 1, 0, 2, 0, 0, 0, 0]), ((1, 1), [0, 1, 1, 2, 2, 0, 0, 0, 0])]), ([0, 1, 1, 2, 2, 0, 0, 0, 0], [((0, 1), [0, 0, 1, 2, 2, 0, 0, 0, 0]), ((0, 3), [0, 1, 1, 0, 2, 0, 0, 0, 0])])]
def k423_15 : Cl := clOf 4 3 9 (.tup [.int 4, .int 9, .int 3, .int 0, .tup [.tup [.int 2], .tup [], .tup [], .tup [.int 1]]]) [([0, 0, 2, 0, 0, 0, 0, 0, 1], [((1, 7), [0, 0, 2, 0, 0, 0, 0, 1, 1]), ((2, 1), [0, 2, 2, 0, 0, 0, 0, 0, 1])]), ([0, 0, 2, 0, 0, 0, 0, 1, 1], [((0, 7), [0, 0, 2, 0, 0, 0, 0, 0, 1]), ((2, 1), [0, 2, 2, 0, 0, 0, 0, 1, 1])]), ([0, 2, 2, 0, 0, 0, 0, 0, 1], [((0, 1), [0, 0, 2, 0, 0, 0, 0, 0, 1]), ((1, 7), [0, 2, 2, 0, 0, 0, 0, 1, 1])]), ([0, 2, 2, 0, 0, 0, 0, 1, 1], [((0, 1), [0, 0, 2, 0, 0, 0, 0, 1, 1]), ((0, 7), [0, 2, 2, 0, 0, 0, 0, 0, 1])])]
def k423_16 : Cl := clOf 4 3 9 (.tup [.int 4, .int 9, .int 3, .int 0, .tup [.tup [.int 2], .tup [], .tup [.int 1], .tup []]]) [([0, 0, 2, 0, 0, 0, 1, 0, 0], [((1, 5), [0, 0, 2, 0, 0, 1, 1, 0, 0]), ((2, 1), [0, 2, 2, 0, 0, 0, 1, 0, 0])]), ([0, 0, 2, 0, 0, 1, 1, 0, 0], [((0, 5), [0, 0, 2, 0, 0, 0, 1, 0, 0]), ((2, 1), [0, 2, 2, 0, 0, 1, 1, 0, 0])]), ([0, 2, 2, 0, 0, 0, 1, 0, 0], [((0, 1), [0, 0, 2, 0, 0, 0, 1, 0, 0]), ((1, 5), [0, 2, 2, 0, 0, 1, 1, 0, 0])]), ([0, 2, 2, 0, 0, 1, 1, 0, 0], [((0, 1), [0, 0, 2, 0, 0, 1, 1, 0, 0]), ((0, 5), [0, 2, 2, 0, 0, 0, 1, 0, 0])])]
def k423_17 : Cl := clOf 4 3 9 (.tup [.int 4, .int 9, .int 3, .int 0, .tup [.tup [.int 2], .tup [.int 1], .tup [], .tup []]]) [([0, 0, 2, 0, 1, 0, 0, 0, 0], [((1, 3), [0, 0, 2, 1, 1, 0, 0, 0, 0]), ((2, 1), [0, 2, 2, 0, 1, 0, 0, 0, 0])]), ([0, 0, 2, 1, 1, 0, 0, 0, 0], [((0, 3), [0, 0, 2, 0, 1, 0, 0, 0, 0]), ((2, 1), [0, 2, 2, 1, 1, 0, 0, 0, 0])]), ([0, 2, 2, 0, 1, 0, 0, 0, 0], [((0, 1), [0, 0, 2, 0, 1, 0, 0, 0, 0]), ((1, 3), [0, 2, 2, 1, 1, 0, 0, 0, 0])]), ([0, 2, 2, 1, 1, 0, 0, 0, 0], [((0, 1), [0, 0, 2, 1, 1, 0, 0, 0, 0]), ((0, 3), [0, 2, 2, 0, 1, 0, 0, 0, 0])])]
def k423_18 : Cl := clOf 4 3 9 (.tup [.int 4, .int 9, .int 3, .int 0, .tup [.tup [.int 1, .int 2], .tup [], .tup [], .tup []]]) [([0, 1, 2, 0, 0, 0, 0, 0, 0], [])]
def k423_19 : Cl := clOf 4 3 9 (.tup [.int 4, .int 9, .int 3, .int 0, .tup [.tup [.int 2, .int 1], .tup [], .tup [], .tup []]]) [([0, 2, 1, 0, 0, 0, 0, 0, 0], [])]
def k423_20 : Cl := clOf 4 3 9 (.tup [.int 4, .int 9, .int 3, .int 1, .tup [.tup [.int 0], .tup [], .tup [], .tup [.int 2]]]) [([1, 0, 0, 1, 1, 1, 1, 1, 2], [((1, 1), [1, 1, 0, 1, 1, 1, 1, 1, 2]), ((2, 7), [1, 0, 0, 1, 1, 1, 1, 2, 2])]), ([1, 1, 0, 1, 1, 1, 1, 1, 2], [((0, 1), [1, 0, 0, 1, 1, 1, 1, 1, 2]), ((2, 7), [1, 1, 0, 1, 1, 1, 1, 2, 2])]), ([1, 0, 0, 1, 1, 1, 1, 2, 2], [((1, 1), [1, 1, 0, 1, 1, 1, 1, 2, 2]), ((1, 7), [1, 0, 0, 1, 1, 1, 1, 1, 2])]), ([1, 1, 0, 1, 1, 1, 1, 2, 2], [((0, 1), [1, 0, 0, 1, 1, 1, 1, 2, 2]), ((1, 7), [1, 1, 0, 1, 1, 1, 1, 1, 2])])]
def k423_21 : Cl := clOf 4 3 9 (.tup [.int 4, .int 9, .int 3, .int 1, .tup [.tup [.int 0], .tup [], .tup [.int 2], .tup []]]) [([1, 0, 0, 1, 1, 1, 2, 1, 1], [((1, 1), [1, 1, 0, 1, 1, 1, 2, 1, 1]), ((2, 5), [1, 0, 0, 1, 1, 2, 2, 1, 1])]), ([1, 1, 0, 1, 1, 1, 2, 1, 1], [((0, 1), [1, 0, 0, 1, 1, 1, 2, 1, 1]), ((2, 5), [1, 1, 0, 1, 1, 2, 2, 1, 1])]), ([1, 0, 0, 1, 1, 2, 2, 1, 1], [((1, 1), [1, 1, 0, 1, 1, 2, 2, 1, 1]), ((1, 5), [1, 0, 0, 1, 1, 1, 2, 1, 1])]), ([1, 1, 0, 1, 1, 2, 2, 1, 1], [((0, 1), [1, 0, 0, 1, 1, 2, 2, 1, 1]), ((1, 5), [1, 1, 0, 1, 1, 1, 2, 1, 1])])]
def k423_22 : Cl := clOf 4 3 9 (.tup [.int 4, .int 9, .int 3, .int 1, .tup [.tup [.int 0], .tup [.int 2], .tup [], .tup []]]) [([1, 0, 0, 1, 2, 1, 1, 1, 1], [((1, 1), [1, 1, 0, 1, 2, 1, 1, 1, 1]), ((2, 3), [1, 0, 0, 2, 2, 1, 1, 1, 1])]), ([1, 1, 0, 1, 2, 1, 1, 1, 1], [((0, 1), [1, 0, 0, 1, 2, 1, 1, 1, 1]), ((2, 3), [1, 1, 0, 2, 2, 1, 1, 1, 1])]), ([1, 0, 0, 2, 2, 1, 1, 1, 1], [((1, 1), [1, 1, 0, 2, 2, 1, 1, 1, 1]), ((1, 3), [1, 0, 0, 1, 2, 1, 1, 1, 1])]), ([1, 1, 0, 2, 2, 1, 1, 1, 1], [((0, 1), [1, 0, 0, 2, 2, 1, 1, 1, 1]), ((1, 3), [1, 1, 0, 1, 2, 1, 1, 1, 1])])]
def k423_23 : Cl := clOf 4 3 9 (.tup [.int 4, .int 9, .int 3, .int 1, .tup [.tup [.int 0, .int 2], .tup [], .tup [], .tup []]]) [([1, 0, 2, 1, 1, 1, 1, 1, 1], [])]
def k423_24 : Cl := clOf 4 3 9 (.tup [.int 4, .int 9, .int 3, .int 1, .tup [.tup [], .tup [.int 0], .tup [], .tup [.int 2]]]) [([1, 1, 1, 0, 0, 1, 1, 1, 2], [((1, 3), [1, 1, 1, 1, 0, 1, 1, 1, 2]), ((2, 7), [1, 1, 1, 0, 0, 1, 1, 2, 2])]), ([1, 1, 1, 1, 0, 1, 1, 1, 2], [((0, 3), [1, 1, 1, 0, 0, 1, 1, 1, 2]), ((2, 7), [1, 1, 1, 1, 0, 1, 1, 2, 2])]), ([1, 1, 1, 0, 0, 1, 1, 2, 2], [((1, 3), [1, 1, 1, 1, 0, 1, 1, 2, 2]), ((1, 7), [1, 1, 1, 0, 0, 1, 1, 1, 2])]), ([1, 1, 1, 1, 0, 1, 1, 2, 2], [((0, 3), [1, 1, 1, 0, 0, 1, 1, 2, 2]), ((1, 7), [1, 1, 1, 1, 0, 1, 1, 1, 2])])]
def k423_25 : Cl := clOf 4 3 9 (.tup [.int 4, .int 9, .int 3, .int 1, .tup [.tup [], .tup [.int 0], .tup [.int 2], .tup []]]) [([1, 1, 1, 0, 0, 1, 2, 1, 1], [((1, 3), [1, 1, 1, 1, 0, 1, 2, 1, 1]), ((2, 5), [1, 1, 1, 0, 0, 2, 2, 1, 1])]), ([1, 1, 1, 1, 0, 1, 2, 1, 1], [((0, 3), [1, 1, 1, 0, 0, 1, 2, 1, 1]), ((2, 5), [1, 1, 1, 1, 0, 2, 2, 1, 1])]), ([1, 1, 1, 0, 0, 2, 2, 1, 1], [((1, 3), [1, 1, 1, 1, 0, 2, 2, 1, 1]), ((1, 5), [1, 1, 1, 0, 0, 1, 2, 1, 1])]), ([1, 1, 1, 1, 0, 2, 2, 1, 1], [((0, 3), [1, 1, 1, 0, 0, 2, 2, 1, 1]), ((1, 5), [1, 1, 1, 1, 0, 1, 2, 1, 1])])]
def k423_26 : Cl := clOf 4 3 9 (.tup [.int 4, .int 9, .int 3, .int 1, .tup [.tup [], .tup [.int 0, .int 2], .tup [], .tup []]]) [([1, 1, 1, 0, 2, 1, 1, 1, 1], [])]
def k423_27 : Cl := clOf 4 3 9 (.tup [.int 4, .int 9, .int 3, .int 1, .tup [.tup [], .tup [], .tup [.int 0], .tup [.int 2]]]) [([1, 1, 1, 1, 1, 0, 0, 1, 2], [((1, 5), [1, 1, 1, 1, 1, 1, 0, 1, 2]), ((2, 7), [1, 1, 1, 1, 1, 0, 0, 2, 2])]), ([1, 1, 1, 1, 1, 1, 0, 1, 2], [((0, 5), [1, 1, 1, 1, 1, 0, 0, 1, 2]), ((2, 7), [1, 1, 1, 1, 1, 1, 0, 2, 2])]), ([1, 1, 1, 1, 1, 0, 0, 2, 2], [((1, 5), [1, 1, 1, 1, 1, 1, 0, 2, 2]), ((1, 7), [1, 1, 1, 1, 1, 0, 0, 1, 2])]), ([1, 1, 1, 1, 1, 1, 0, 2, 2], [((0, 5), [1, 1, 1, 1, 1, 0, 0, 2, 2]), ((1, 7), [1, 1, 1, 1, 1, 1, 0, 1, 2])])]
def k423_28 : Cl := clOf 4 3 9 (.tup [.int 4, .int 9, .int 3, .int 1, .tup [.tup [], .tup [], .tup [.int 0, .int 2], .tup []]]) [([1, 1, 1, 1, 1, 0, 2, 1, 1], [])]
def k423_29 : Cl := clOf 4 3 9 (.tup [.int 4, .int 9, .int 3, .int 1, .tup [.tup [], .tup [], .tup [], .tup [.int 0, .int 2]]]) [([1, 1, 1, 1, 1, 1, 1, 0, 2], [])]
def k423_30 : Cl := clOf 4 3 9 (.tup [.int 4, .int 9, .int 3, .int 1, .tup [.tup [], .tup [], .tup [], .tup [.int 2, .int 0]]]) [([1, 1, 1, 1, 1, 1, 1, 2, 0], [])]
def k423_31 : Cl := clOf 4 3 9 (.tup [.int 4, .int 9, .int 3, .int 1, .tup [.tup [], .tup [], .tup [.int 2], .tup [.int 0]]]) [([1, 1, 1, 1, 1, 1, 2, 0, 0], [((1, 7), [1, 1, 1, 1, 1, 1, 2, 1, 0]), ((2, 5), [1, 1, 1, 1, 1, 2, 2, 0, 0])]), ([1, 1, 1, 1, 1, 1, 2, 1, 0], [((0, 7), [1, 1, 1, 1, 1, 1, 2, 0, 0]), ((2, 5), [1, 1, 1, 1, 1, 2, 2, 1, 0])]), ([1, 1, 1, 1, 1, 2, 2, 0, 0], [((1, 5), [1, 1, 1, 1, 1, 1, 2, 0, 0]), ((1, 7), [1, 1, 1, 1, 1, 2, 2, 1, 0])]), ([1, 1, 1, 1, 1, 2, 2, 1, 0], [((0, 7), [1, 1, 1, 1, 1, 2, 2, 0, 0]), ((1, 5), [1, 1, 1, 1, 1, 1, 2, 1, 0])])]
def k423_32 : Cl := clOf 4 3 9 (.tup [.int 4, .int 9, .int 3, .int 1, .tup [.tup [], .tup [], .tup [.int 2, .int 0], .tup []]]) [([1, 1, 1, 1, 1, 2, 0, 1, 1], [])]
def k423_33 : Cl := clOf 4 3 9 (.tup [.int 4, .int 9, .int 3, .int 1, .tup [.tup [], .tup [.int 2], .tup [.int 0], .tup []]]) [([1, 1, 1, 1, 2, 0, 0, 1, 1], [((1, 5), [1, 1, 1, 1, 2, 1, 0, 1, 1]), ((2, 3), [1, 1, 1, 2, 2, 0, 0, 1, 1])]), ([1, 1, 1, 1, 2, 1, 0, 1, 1], [((0, 5), [1, 1, 1, 1, 2, 0, 0, 1, 1]), ((2, 3), [1, 1, 1, 2, 2, 1, 0, 1, 1])]), ([1, 1, 1, 2, 2, 0, 0, 1, 1], [((1, 3), [1, 1, 1, 1, 2, 0, 0, 1, 1]), ((1, 5), [1, 1, 1, 2, 2, 1, 0, 1, 1])]), ([1, 1, 1, 2, 2, 1, 0, 1, 1], [((0, 5), [1, 1, 1, 2, 2, 0, 0, 1, 1]), ((1, 3), [1, 1, 1, 1, 2, 1, 0, 1, 1])])]
def k423_34 : Cl := clOf 4 3 9 (.tup [.int 4, .int 9, .int 3, .int 1, .tup [.tup [], .tup [.int 2], .tup [], .tup [.int 0]]]) [([1, 1, 1, 1, 2, 1, 1, 0, 0], [((1, 7), [1, 1, 1, 1, 2, 1, 1, 1, 0]), ((2, 3), [1, 1, 1, 2, 2, 1, 1, 0, 0])]), ([1, 1, 1, 1, 2, 1, 1, 1, 0], [((0, 7), [1, 1, 1, 1, 2, 1, 1, 0, 0]), ((2, 3), [1, 1, 1, 2, 2, 1, 1, 1, 0])]), ([1, 1, 1, 2, 2, 1, 1, 0, 0], [((1, 3), [1, 1, 1, 1, 2, 1, 1, 0, 0]), ((1, 7), [1, 1, 1, 2, 2, 1, 1, 1, 0])]), ([1, 1, 1, 2, 2, 1, 1, 1, 0], [((0, 7), [1, 1, 1, 2, 2, 1, 1, 0, 0]), ((1, 3), [1, 1, 1, 1, 2, 1, 1, 1, 0])])]
def k423_35 : Cl := clOf 4 3 9 (.tup [.int 4, .int 9, .int 3, .int 1, .tup [.tup [], .tup [.int 2, .int 0], .tup [], .tup []]]) [([1, 1, 1, 2, 0, 1, 1, 1, 1], [])]
def k423_36 : Cl := clOf 4 3 9 (.tup [.int 4, .int 9, .int 3, .int 1, .tup [.tup [.int 2], .tup [.int 0], .tup [], .tup []]]) [([1, 1, 2, 0, 0, 1, 1, 1, 1], [((1, 3), [1, 1, 2, 1, 0, 1, 1, 1, 1]), ((2, 1), [1, 2, 2, 0, 0, 1, 1, 1, 1])]), ([1, 1, 2, 1, 0, 1, 1, 1, 1], [((0, 3), [1, 1, 2, 0, 0, 1, 1, 1, 1]), ((2, 1), [1, 2, 2, 1, 0, 1, 1, 1, 1])]), ([1, 2, 2, 0, 0, 1, 1, 1, 1], [((1, 1), [1, 1, 2, 0, 0, 1, 1, 1, 1]), ((1, 3), [1, 2, 2, 1, 0, 1, 1, 1, 1])]), ([1, 2, 2, 1, 0, 1, 1, 1, 1], [((0, 3), [1, 2, 2, 0, 0, 1, 1, 1, 1]), ((1, 1), [1, 1, 2, 1, 0, 1, 1, 1, 1])])]
def k423_37 : Cl := clOf 4 3 9 (.tup [.int 4, .int 9, .int 3, .int 1, .tup [.tup [.int 2], .tup [], .tup [.int 0], .tup []]]) [([1, 1, 2, 1, 1, 0, 0, 1, 1], [((1, 5), [1, 1, 2, 1, 1, 1, 0, 1, 1]), ((2, 1), [1, 2, 2, 1, 1, 0, 0, 1, 1])]), ([1, 1, 2, 1, 1, 1, 0, 1, 1], [((0, 5), [1, 1, 2, 1, 1, 0, 0, 1, 1]), ((2, 1), [1, 2, 2, 1, 1, 1, 0, 1, 1])]), ([1, 2, 2, 1, 1, 0, 0, 1, 1], [((1, 1), [1, 1, 2, 1, 1, 0, 0, 1, 1]), ((1, 5), [1, 2, 2, 1, 1, 1, 0, 1, 1])]), ([1, 2, 2, 1, 1, 1, 0, 1, 1], [((0, 5), [1, 2, 2, 1, 1, 0, 0, 1, 1]), ((1, 1), [1, 1, 2, 1, 1, 1, 0, 1, 1])])]
def k423_38 : Cl := clOf 4 3 9 (.tup [.int 4, .int 9, .int 3, .int 1, .tup [.tup [.int 2], .tup [], .tup [], .tup [.int 0]]]) [([1, 1, 2, 1, 1, 1, 1, 0, 0], [((1, 7), [1, 1, 2, 1, 1, 1, 1, 1, 0]), ((2, 1), [1, 2, 2, 1, 1, 1, 1, 0, 0])]), ([1, 1, 2, 1, 1, 1, 1, 1, 0], [((0, 7), [1, 1, 2, 1, 1, 1, 1, 0, 0]), ((2, 1), [1, 2, 2, 1, 1, 1, 1, 1, 0])]), ([1, 2, 2, 1, 1, 1, 1, 0, 0], [((1, 1), [1, 1, 2, 1, 1, 1, 1, 0, 0]), ((1, 7), [1, 2, 2, 1, 1, 1, 1, 1, 0])]), ([1, 2, 2, 1, 1, 1, 1, 1, 0], [((0, 7), [1, 2, 2, 1, 1, 1, 1, 0, 0]), ((1, 1), [1, 1, 2, 1, 1, 1, 1, 1, 0])])]
def k423_39 : Cl := clOf 4 3 9 (.tup [.int 4, .int 9, .int 3, .int 1, .tup [.tup [.int 2, .int 0], .tup [], .tup [], .tup []]]) [([1, 2, 0, 1, 1, 1, 1, 1, 1], [])]
def k423_40 : Cl := clOf 4 3 9 (.tup [.int 4, .int 9, .int 3, .int 2, .tup [.tup [.int 0], .tup [.int 1], .tup [], .tup []]]) [([2, 0, 0, 1, 1, 2, 2, 2, 2], [((2, 1), [2, 2, 0, 1, 1, 2, 2, 2, 2]), ((2, 3), [2, 0, 0, 2, 1, 2, 2, 2, 2])]), ([2, 2, 0, 1, 1, 2, 2, 2, 2], [((0, 1), [2, 0, 0, 1, 1, 2, 2, 2, 2]), ((2, 3), [2, 2, 0, 2, 1, 2, 2, 2, 2])]), ([2, 0, 0, 2, 1, 2, 2, 2, 2], [((1, 3), [2, 0, 0, 1, 1, 2, 2, 2, 2]), ((2, 1), [2, 2, 0, 2, 1, 2, 2, 2, 2])]), ([2, 2, 0, 2, 1, 2, 2, 2, 2], [((0, 1), [2, 0, 0, 2, 1, 2, 2, 2, 2]), ((1, 3), [2, 2, 0, 1, 1, 2, 2, 2, 2])])]
def k423_41 : Cl := clOf 4 3 9 (.tup [.int 4, .int 9, .int 3, .int 2, .tup [.tup [.int 0], .tup [], .tup [.int 1], .tup []]]) [([2, 0, 0, 2, 2, 1, 1, 2, 2], [((2, 1), [2, 2, 0, 2, 2, 1, 1, 2, 2]), ((2, 5), [2, 0, 0, 2, 2, 2, 1, 2, 2])]), ([2, 2, 0, 2, 2, 1, 1, 2, 2], [((0, 1), [2, 0, 0, 2, 2, 1, 1, 2, 2]), ((2, 5), [2, 2, 0, 2, 2, 2, 1, 2, 2])]), ([2, 0, 0, 2, 2, 2, 1, 2, 2], [((1, 5), [2, 0, 0, 2, 2, 1, 1, 2, 2]), ((2, 1), [2, 2, 0, 2, 2, 2, 1, 2, 2])]), ([2, 2, 0, 2, 2, 2, 1, 2, 2], [((0, 1), [2, 0, 0, 2, 2, 2, 1, 2, 2]), ((1, 5), [2, 2, 0, 2, 2, 1, 1, 2, 2])])]
def k423_42 : Cl := clOf 4 3 9 (.tup [.int 4, .int 9, .int 3, .int 2, .tup [.tup [.int 0], .tup [], .tup [], .tup [.int 1]]]) [([2, 0, 0, 2, 2, 2, 2, 1, 1], [((2, 1), [2, 2, 0, 2, 2, 2, 2, 1, 1]), ((2, 7), [2, 0, 0, 2, 2, 2, 2, 2, 1])]), ([2, 2, 0, 2, 2, 2, 2, 1, 1], [((0, 1), [2, 0, 0, 2, 2, 2, 2, 1, 1]), ((2, 7), [2, 2, 0, 2, 2, 2, 2, 2, 1])]), ([2, 0, 0, 2, 2, 2, 2, 2, 1], [((1, 7), [2, 0, 0, 2, 2, 2, 2, 1, 1]), ((2, 1), [2, 2, 0, 2, 2, 2, 2, 2, 1])]), ([2, 2, 0, 2, 2, 2, 2, 2, 1], [((0, 1), [2, 0, 0, 2, 2, 2, 2, 2, 1]), ((1, 7), [2, 2, 0, 2, 2, 2, 2, 1, 1])])]
def k423_43 : Cl := clOf 4 3 9 (.tup [.int 4, .int 9, .int 3, .int 2, .tup [.tup [.int 0, .int 1], .tup [], .tup [], .tup []]]) [([2, 0, 1, 2, 2, 2, 2, 2, 2], [])]
def k423_44 : Cl := clOf 4 3 9 (.tup [.int 4, .int 9, .int 3, .int 2, .tup [.tup [.int 1, .int 0], .tup [], .tup [], .tup []]]) [([2, 1, 0, 2, 2, 2, 2, 2, 2], [])]
def k423_45 : Cl := clOf 4 3 9 (.tup [.int 4, .int 9, .int 3, .int 2, .tup [.tup [.int 1], .tup [.int 0], .tup [], .tup []]]) [([2, 1, 1, 0, 0, 2, 2, 2, 2], [((2, 1), [2, 2, 1, 0, 0, 2, 2, 2, 2]), ((2, 3), [2, 1, 1, 2, 0, 2, 2, 2, 2])]), ([2, 2, 1, 0, 0, 2, 2, 2, 2], [((1, 1), [2, 1, 1, 0, 0, 2, 2, 2, 2]), ((2, 3), [2, 2, 1, 2, 0, 2, 2, 2, 2])]), ([2, 1, 1, 2, 0, 2, 2, 2, 2], [((0, 3), [2, 1, 1, 0, 0, 2, 2, 2, 2]), ((2, 1), [2, 2, 1, 2, 0, 2, 2, 2, 2])]), ([2, 2, 1, 2, 0, 2, 2, 2, 2], [((0, 3), [2, 2, 1, 0, 0, 2, 2, 2, 2]), ((1, 1), [2, 1, 1, 2, 0, 2, 2, 2, 2])])]
def k423_46 : Cl := clOf 4 3 9 (.tup [.int 4, .int 9, .int 3, .int 2, .tup [.tup [.int 1], .tup [], .tup [.int 0], .tup []]]) [([2, 1, 1, 2, 2, 0, 0, 2, 2], [((2, 1), [2, 2, 1, 2, 2, 0, 0, 2, 2]), ((2, 5), [2, 1, 1, 2, 2, 2, 0, 2, 2])]), ([2, 2, 1, 2, 2, 0, 0, 2, 2], [((1, 1), [2, 1, 1, 2, 2, 0, 0, 2, 2]), ((2, 5), [2, 2, 1, 2, 2, 2, 0, 2, 2])]), ([2, 1, 1, 2, 2, 2, 0, 2, 2], [((0, 5), [2, 1, 1, 2, 2, 0, 0, 2, 2]), ((2, 1), [2, 2, 1, 2, 2, 2, 0, 2, 2])]), ([2, 2, 1, 2, 2, 2, 0, 2, 2], [((0, 5), [2, 2, 1, 2, 2, 0, 0, 2, 2]), ((1, 1), [2, 1, 1, 2, 2, 2, 0, 2, 2])])]
def k423_47 : Cl := clOf 4 3 9 (.tup [.int 4, .int 9, .int 3, .int 2, .tup [.tup [.int 1], .tup [], .tup [], .tup [.int 0]]]) [([2, 1, 1, 2, 2, 2, 2, 0, 0], [((2, 1), [2, 2, 1, 2, 2, 2, 2, 0, 0]), ((2, 7), [2, 1, 1, 2, 2, 2, 2, 2, 0])]), ([2, 2, 1, 2, 2, 2, 2, 0, 0], [((1, 1), [2, 1, 1, 2, 2, 2, 2, 0, 0]), ((2, 7), [2, 2, 1, 2, 2, 2, 2, 2, 0])]), ([2, 1, 1, 2, 2, 2, 2, 2, 0], [((0, 7), [2, 1, 1, 2, 2, 2, 2, 0, 0]), ((2, 1), [2, 2, 1, 2, 2, 2, 2, 2, 0])]), ([2, 2, 1, 2, 2, 2, 2, 2, 0], [((0, 7), [2, 2, 1, 2, 2, 2, 2, 0, 0]), ((1, 1), [2, 1, 1, 2, 2, 2, 2, 2, 0])])]
def k423_48 : Cl := clOf 4 3 9 (.tup [.int 4, .int 9, .int 3, .int 2, .tup [.tup [], .tup [.int 0], .tup [.int 1], .tup []]]) [([2, 2, 2, 0, 0, 1, 1, 2, 2], [((2, 3), [2, 2, 2, 2, 0, 1, 1, 2, 2]), ((2, 5), [2, 2, 2, 0, 0, 2, 1, 2, 2])]), ([2, 2, 2, 2, 0, 1, 1, 2, 2], [((0, 3), [2, 2, 2, 0, 0, 1, 1, 2, 2]), ((2, 5), [2, 2, 2, 2, 0, 2, 1, 2, 2])]), ([2, 2, 2, 0, 0, 2, 1, 2, 2], [((1, 5), [2, 2, 2, 0, 0, 1, 1, 2, 2]), ((2, 3), [2, 2, 2, 2, 0, 2, 1, 2, 2])]), ([2, 2, 2, 2, 0, 2, 1, 2, 2], [((0, 3), [2, 2, 2, 0, 0, 2, 1, 2, 2]), ((1, 5), [2, 2, 2, 2, 0, 1, 1, 2, 2])])]
def k423_49 : Cl := clOf 4 3 9 (.tup [.int 4, .int 9, .int 3, .int 2, .tup [.tup [], .tup [.int 0], .tup [], .tup [.int 1]]]) [([2, 2, 2, 0, 0, 2, 2, 1, 1], [((2, 3), [2, 2, 2, 2, 0, 2, 2, 1, 1]), ((2, 7), [2, 2, 2, 0, 0, 2, 2, 2, 1])]), ([2, 2, 2, 2, 0, 2, 2, 1, 1], [((0, 3), [2, 2, 2, 0, 0, 2, 2, 1, 1]), ((2, 7), [2, 2, 2, 2, 0, 2, 2, 2, 1])]), ([2, 2, 2, 0, 0, 2, 2, 2, 1], [((1, 7), [2, 2, 2, 0, 0, 2, 2, 1, 1]), ((2, 3), [2, 2, 2, 2, 0, 2, 2, 2, 1])]), ([2, 2, 2, 2, 0, 2, 2, 2, 1], [((0, 3), [2, 2, 2, 0, 0, 2, 2, 2, 1]), ((1, 7), [2, 2, 2, 2, 0, 2, 2, 1, 1])])]
def k423_50 : Cl := clOf 4 3 9 (.tup [.int 4, .int 9, .int 3, .int 2, .tup [.tup [], .tup [.int 0, .int 1], .tup [], .tup []]]) [([2, 2, 2, 0, 1, 2, 2, 2, 2], [])]
def k423_51 : Cl := clOf 4 3 9 (.tup [.int 4, .int 9, .int 3, .int 2, .tup [.tup [], .tup [.int 1, .int 0], .tup [], .tup []]]) [([2, 2, 2, 1, 0, 2, 2, 2, 2], [])]
def k423_52 : Cl := clOf 4 3 9 (.tup [.int 4, .int 9, .int 3, .int 2, .tup [.tup [], .tup [.int 1], .tup [.int 0], .tup []]]) [([2, 2, 2, 1, 1, 0, 0, 2, 2], [((2, 3), [2, 2, 2, 2, 1, 0, 0, 2, 2]), ((2, 5), [2, 2, 2, 1, 1, 2, 0, 2, 2])]), ([2, 2, 2, 2, 1, 0, 0, 2, 2], [((1, 3), [2, 2, 2, 1, 1, 0, 0, 2, 2]), ((2, 5), [2, 2, 2, 2, 1, 2, 0, 2, 2])]), ([2, 2, 2, 1, 1, 2, 0, 2, 2], [((0, 5), [2, 2, 2, 1, 1, 0, 0, 2, 2]), ((2, 3), [2, 2, 2, 2, 1, 2, 0, 2, 2])]), ([2, 2, 2, 2, 1, 2, 0, 2, 2], [((0, 5), [2, 2, 2, 2, 1, 0, 0, 2, 2]), ((1, 3), [2, 2, 2, 1, 1, 2, 0, 2, 2])])]
def k423_53 : Cl := clOf 4 3 9 (.tup [.int 4, .int 9, .int 3, .int 2, .tup [.tup [], .tup [.int 1], .tup [], .tup [.int 0]]]) [([2, 2, 2, 1, 1, 2, 2, 0, 0], [((2, 3), [2, 2, 2, 2, 1, 2, 2, 0, 0]), ((2, 7), [2, 2, 2, 1, 1, 2, 2, 2, 0])]), ([2, 2, 2, 2, 1, 2, 2, 0, 0], [((1, 3), [2, 2, 2, 1, 1, 2, 2, 0, 0]), ((2, 7), [2, 2, 2, 2, 1, 2, 2, 2, 0])]), ([2, 2, 2, 1, 1, 2, 2, 2, 0], [((0, 7), [2, 2, 2, 1, 1, 2, 2, 0, 0]), ((2, 3), [2, 2, 2, 2, 1, 2, 2, 2, 0])]), ([2, 2, 2, 2, 1, 2, 2, 2, 0], [((0, 7), [2, 2, 2, 2, 1, 2, 2, 0, 0]), ((1, 3), [2, 2, 2, 1, 1, 2, 2, 2, 0])])]
def k423_54 : Cl := clOf 4 3 9 (.tup [.int 4, .int 9, .int 3, .int 2, .tup [.tup [], .tup [], .tup [.int 0], .tup [.int 1]]]) [([2, 2, 2, 2, 2, 0, 0, 1, 1], [((2, 5), [2, 2, 2, 2, 2, 2, 0, 1, 1]), ((2, 7), [2, 2, 2, 2, 2, 0, 0, 2, 1])]), ([2, 2, 2, 2, 2, 2, 0, 1, 1], [((0, 5), [2, 2, 2, 2, 2, 0, 0, 1, 1]), ((2, 7), [2, 2, 2, 2, 2, 2, 0, 2, 1])]), ([2, 2, 2, 2, 2, 0, 0, 2, 1], [((1, 7), [2, 2, 2, 2, 2, 0, 0, 1, 1]), ((2, 5), [2, 2, 2, 2, 2, 2, 0, 2, 1])]), ([2, 2, 2, 2, 2, 2, 0, 2, 1], [((0, 5), [2, 2, 2, 2, 2, 0, 0, 2, 1]), ((1, 7), [2, 2, 2, 2, 2, 2, 0, 1, 1])])]
def k423_55 : Cl := clOf 4 3 9 (.tup [.int 4, .int 9, .int 3, .int 2, .tup [.tup [], .tup [], .tup [.int 0, .int 1], .tup []]]) [([2, 2, 2, 2, 2, 0, 1, 2, 2], [])]
def k423_56 : Cl := clOf 4 3 9 (.tup [.int 4, .int 9, .int 3, .int 2, .tup [.tup [], .tup [], .tup [.int 1, .int 0], .tup []]]) [([2, 2, 2, 2, 2, 1, 0, 2, 2], [])]
def k423_57 : Cl := clOf 4 3 9 (.tup [.int 4, .int 9, .int 3, .int 2, .tup [.tup [], .tup [], .tup [.int 1], .tup [.int 0]]]) [([2, 2, 2, 2, 2, 1, 1, 0, 0], [((2, 5), [2, 2, 2, 2, 2, 2, 1, 0, 0]), ((2, 7), [2, 2, 2, 2, 2, 1, 1, 2, 0])]), ([2, 2, 2, 2, 2, 2, 1, 0, 0], [((1, 5), [2, 2, 2, 2, 2, 1, 1, 0, 0]), ((2, 7), [2, 2, 2, 2, 2, 2, 1, 2, 0])]), ([2, 2, 2, 2, 2, 1, 1, 2, 0], [((0, 7), [2, 2, 2, 2, 2, 1, 1, 0, 0]), ((2, 5), [2, 2, 2, 2, 2, 2, 1, 2, 0])]), ([2, 2, 2, 2, 2, 2, 1, 2, 0], [((0, 7), [2, 2, 2, 2, 2, 2, 1, 0, 0]), ((1, 5), [2, 2, 2, 2, 2, 1, 1, 2, 0])])]
def k423_58 : Cl := clOf 4 3 9 (.tup [.int 4, .int 9, .int 3, .int 2, .tup [.tup [], .tup [], .tup [], .tup [.int 0, .int 1]]]) [([2, 2, 2, 2, 2, 2, 2, 0, 1], [])]
def k423_59 : Cl := clOf 4 3 9 (.tup [.int 4, .int 9, .int 3, .int 2, .tup [.tup [], .tup [], .tup [], .tup [.int 1, .int 0]]]) [([2, 2, 2, 2, 2, 2, 2, 1, 0], [])]
theorem k423_0_ok : chkC k423_0 0 = true := by decide +kernel
theorem k423_1_ok : chkC k423_1 0 = true := by decide +kernel
theorem k423_2_ok : chkC k423_2 2 = true := by decide +kernel
theorem k423_3_ok : chkC k423_3 2 = true := by decide +kernel
theorem k423_4_ok : chkC k423_4 0 = true := by decide +kernel
theorem k423_5_ok : chkC k423_5 0 = true := by decide +kernel
theorem k423_6_ok : chkC k423_6 2 = true := by decide +kernel
theorem k423_7_ok : chkC k423_7 2 = true := by decide +kernel
theorem k423_8_ok : chkC k423_8 2 = true := by decide +kernel
theorem k423_9_ok : chkC k423_9 2 = true := by decide +kernel
theorem k423_10_ok : chkC k423_10 0 = true := by decide +kernel
theorem k423_11_ok : chkC k423_11 0 = true := by decide +kernel
theorem k423_12_ok : chkC k423_12 2 = true := by decide +kernel
theorem k423_13_ok : chkC k423_13 2 = true := by decide +kernel
theorem k423_14_ok : chkC k423_14 2 = true := by decide +kernel
theorem k423_15_ok : chkC k423_15 2 = true := by decide +kernel
theorem k423_16_ok : chkC k423_16 2 = true := by decide +kernel
theorem k423_17_ok : chkC k423_17 2 = true := by decide +kernel
theorem k423_18_ok : chkC k423_18 0 = true := by decide +kernel
theorem k423_19_ok : chkC k423_19 0 = true := by decide +kernel
theorem k423_20_ok : chkC k423_20 2 = true := by decide +kernel
theorem k423_21_ok : chkC k423_21 2 = true := by decide +kernel
theorem k423_22_ok : chkC k423_22 2 = true := by decide +kernel
theorem k423_23_ok : chkC k423_23 0 = true := by decide +kernel
theorem k423_24_ok : chkC k423_24 2 = true := by decide +kernel
theorem k423_25_ok : chkC k423_25 2 = true := by decide +kernel
theorem k423_26_ok : chkC k423_26 0 = true := by decide +kernel
theorem k423_27_ok : chkC k423_27 2 = true := by decide +kernel
theorem k423_28_ok : chkC k423_28 0 = true := by decide +kernel
theorem k423_29_ok : chkC k423_29 0 = true := by decide +kernel
theorem k423_30_ok : chkC k423_30 0 = true := by decide +kernel
theorem k423_31_ok : chkC k423_31 2 = true := by decide +kernel
theorem k423_32_ok : chkC k423_32 0 = true := by decide +kernel
theorem k423_33_ok : chkC k423_33 2 = true := by decide +kernel
theorem k423_34_ok : chkC k423_34 2 = true := by decide +kernel
theorem k423_35_ok : chkC k423_35 0 = true := by decide +kernel
theorem k423_36_ok : chkC k423_36 2 = true := by decide +kernel
theorem k423_37_ok : chkC k423_37 2 = true := by decide +kernel
theorem k423_38_ok : chkC k423_38 2 = true := by decide +kernel
theorem k423_39_ok : chkC k423_39 0 = true := by decide +kernel
theorem k423_40_ok : chkC k423_40 2 = true := by decide +kernel
theorem k423_41_ok : chkC k423_41 2 = true := by decide +kernel
theorem k423_42_ok : chkC k423_42 2 = true := by decide +kernel
theorem k423_43_ok : chkC k423_43 0 = true := by decide +kernel
theorem k423_44_ok : chkC k423_44 0 = true := by decide +kernel
theorem k423_45_ok : chkC k423_45 2 = true := by decide +kernel
theorem k423_46_ok : chkC k423_46 2 = true := by decide +kernel
theorem k423_47_ok : chkC k423_47 2 = true := by decide +kernel
theorem k423_48_ok : chkC k423_48 2 = true := by decide +kernel
theorem k423_49_ok : chkC k423_49 2 = true := by decide +kernel
theorem k423_50_ok : chkC k423_50 0 = true := by decide +kernel
theorem k423_51_ok : chkC k423_51 0 = true := by decide +kernel
theorem k423_52_ok : chkC k423_52 2 = true := by decide +kernel
theorem k423_53_ok : chkC k423_53 2 = true := by decide +kernel
theorem k423_54_ok : chkC k423_54 2 = true := by decide +kernel
theorem k423_55_ok : chkC k423_55 0 = true := by decide +kernel
theorem k423_56_ok : chkC k423_56 0 = true := by decide +kernel
theorem k423_57_ok : chkC k423_57 2 = true := by decide +kernel
theorem k423_58_ok : chkC k423_58 0 = true := by decide +kernel
theorem k423_59_ok : chkC k423_59 0 = true := by decide +kernel
def k423 : List Cl := [k423_0, k423_1, k423_2, k423_3, k423_4, k423_5, k423_6, k423_7, k423_8, k423_9, k423_10, k423_11, k423_12, k423_13, k423_14, k423_15, k423_16, k423_17, k423_18, k423_19, k423_20, k423_21, k423_22, k423_23, k423_24, k423_25, k423_26, k423_27, k423_28, k423_29, k423_30, k423_31, k423_32, k423_33, k423_34, k423_35, k423_36, k423_37, k423_38, k423_39, k423_40, k423_41, k423_42, k423_43, k423_44, k423_45, k423_46, k423_47, k423_48, k423_49, k423_50, k423_51, k423_52, k423_53, k423_54, k423_55, k423_56, k423_57, k423_58, k423_59]
theorem k423_chk : chkK 4 2 3 k423 = true := by decide +kernel
theorem k423_kind : KindOk 4 2 3 k423 := chkK_ok ((ok_cons k423_0_ok (ok_cons k423_1_ok (ok_cons k423_2_ok (ok_cons k423_3_ok (ok_cons k423_4_ok (ok_cons k423_5_ok (ok_cons k423_6_ok (ok_cons k423_7_ok (ok_cons k423_8_ok (ok_cons k423_9_ok (ok_cons k423_10_ok (ok_cons k423_11_ok (ok_cons k423_12_ok (ok_cons k423_13_ok (ok_cons k423_14_ok (ok_cons k423_15_ok (ok_cons k423_16_ok (ok_cons k423_17_ok (ok_cons k423_18_ok (ok_cons k423_19_ok (ok_cons k423_20_ok (ok_cons k423_21_ok (ok_cons k423_22_ok (ok_cons k423_23_ok (ok_cons k423_24_ok (ok_cons k423_25_ok (ok_cons k423_26_ok (ok_cons k423_27_ok (ok_cons k423_28_ok (ok_cons k423_29_ok (ok_cons k423_30_ok (ok_cons k423_31_ok (ok_cons k423_32_ok (ok_cons k423_33_ok (ok_cons k423_34_ok (ok_cons k423_35_ok (ok_cons k423_36_ok (ok_cons k423_37_ok (ok_cons k423_38_ok (ok_cons k423_39_ok (ok_cons k423_40_ok (ok_cons k423_41_ok (ok_cons k423_42_ok (ok_cons k423_43_ok (ok_cons k423_44_ok (ok_cons k423_45_ok (ok_cons k423_46_ok (ok_cons k423_47_ok (ok_cons k423_48_ok (ok_cons k423_49_ok (ok_cons k423_50_ok (ok_cons k423_51_ok (ok_cons k423_52_ok (ok_cons k423_53_ok (ok_cons k423_54_ok (ok_cons k423_55_ok (ok_cons k423_56_ok (ok_cons k423_57_ok (ok_cons k423_58_ok (ok_cons k423_59_ok ok_nil))))))))))))))))))))))))))))))))))))))))))))))))))))))))))))) k423_chk
end Sl
end S_Sq3_5
noncomputable section S_Sq4
set_option Elab.async false
set_option linter.all false
set_option maxRecDepth 100000
/-! The law holds at every draw. -/
namespace Sl
open PySem PySem.Spec PyProof.Rows L2
def kinds (i j k : Int) : List Cl := if j = 0 then (if i = 0 then k312 else k412) else if k = 0 then (if i = 0 then k322 else k422) else (if i = 0 then k323 else k423)
theorem plainL : (F_law rho0).All fun o => o = .rt (.bl true) := by
  refine plain_of kinds fun i j k i0 i1 j0 j1 k0 k1 => ?_
  have hi : i = 0 ∨ i = 1 := by omega
  have hj : j = 0 ∨ j = 1 := by omega
  rcases hj with rfl | rfl
  · have hk : k = 0 := by omega
    subst hk
    rcases hi with rfl | rfl
    · exact k312_kind
    · exact k412_kind
  · have hk : k = 0 ∨ k = 1 := by omega
    rcases hk with rfl | rfl
    · rcases hi with rfl | rfl
      · exact k322_kind
      · exact k422_kind
    · rcases hi with rfl | rfl
      · exact k323_kind
      · exact k423_kind
end Sl
end S_Sq4
section S_Fin
set_option Elab.async false
set_option linter.all false
set_option maxRecDepth 100000
set_option maxHeartbeats 0
open PySem PySem.W PySem.Calls PyProof.Rows
theorem PySem.Challenge.cw_starlands_k13_whole_prices_holds : PySem.Challenge.rw_starlands_k13_whole_prices.Holds := by
  w_on; o_law
  refine HandSHeadRun.head_any (r := OpenLaw.row PySem.Challenge.rw_starlands_k13_whole_prices) (q := view (OpenLaw.row PySem.Challenge.rw_starlands_k13_whole_prices).prog [61]) (H := Sl.hkL) (ob := Sl.obL) (M := 4000) (loose := Sl.looseL) (d := HandSHeadRun.topDef (OpenLaw.row PySem.Challenge.rw_starlands_k13_whole_prices).prog 61) (kwd := []) Sl.obL_eq
    (by kernel_rfl) (fun s => by kernel_rfl) Sl.runL (by kernel_rfl) (by kernel_rfl) (by kernel_rfl) (by rfl) (by first | assumption | decide +kernel) (by decide +kernel) ⟨rfl, rfl, rfl, rfl, rfl, by decide +kernel⟩ ?hw ?hc
  case hw => w_witness2
  case hc =>
    refine LamX.walk_ofTsE (l := PySem.Challenge.rw_starlands_k13_whole_prices) (n := 63) (k := 10) (x := "_law_script") (CX := fun _ => L2.CX0) rfl (by decide) (by kernel_rfl) ⟨rfl, by decide, by decide⟩ ?F (fun _ _ _ _ _ z => z)
    intro w mg fa h Y G hmg0
    obtain ⟨K, KX, c⟩ := Y
    have hmg : mg ("law" : PySem.Str) = some (.ref fa) := by
      have e : (HandSHeadRun.topDef (OpenLaw.row PySem.Challenge.rw_starlands_k13_whole_prices).prog 61).name = ("law" : PySem.Str) := by kernel_rfl
      rw [← e]
      exact hmg0
    exact ⟨K, KX, Sl.facts Sl.plainL KX G hmg c⟩
end S_Fin
