import PyProof.Rows.All
import Wide.All
import OpenK.AllK
import Wide.FinOn
import HandS.ForMost
import HandS.ForExc
import HandS.Walk
import HandS.SortInts
import HandS.SortKw
import HandS.Zip
import HandS.Conv
import HandS.Flow
import HandS.Style
import HandS.TupAny
import HandS.Deep
import HandS.Star
import HandS.Zip0
import KE.GoesMore
import KE.GoesZip
import KE.KRevSl
import HandS.SetFor
import HandS.Strs
import PySem.Challenge.RW_askcraft_k79_whole_borders_in_order
set_option Elab.async false
set_option linter.all false
set_option maxRecDepth 100000
namespace DL
open PySem PySem.Spec PyProof.Rows L2
/-! ### pure data, the store, the monad -/
inductive D where
  | non | bl (b : Bool) | int (i : Int) | str (x : Str)
  /-- rls: a list that the program is handed (the script) -/
  | tup (xs : List D) | lst (xs : List D) | dct (kvs : List (D × D)) | ref (k : Nat) | rls (xs : List D)
inductive Cell where
  | lst (xs : List D) | dct (kvs : List (D × D)) | ins (c : Nat) (fs : List (Str × D))
abbrev Store := List Cell
inductive Res (α : Type) where
  | ok (a : α) (s : Store) | exc (c : Nat) (s : Store) | stuck
def M (α : Type) := Store → Res α
def M.bind' {α β : Type} (m : M α) (f : α → M β) : M β := fun s => match m s with
  | .ok a s' => f a s'
  | .exc c s' => .exc c s'
  | .stuck => .stuck
instance : Monad M where
  pure a := fun s => .ok a s
  bind := M.bind'
theorem pure_run {α : Type} (a : α) (s : Store) : (pure a : M α) s = .ok a s := rfl
theorem bind_run {α β : Type} (m : M α) (f : α → M β) (s : Store) : (m >>= f) s = match m s with
  | .ok a s' => f a s'
  | .exc c s' => .exc c s'
  | .stuck => .stuck := rfl
theorem bind_ok {α β : Type} {m : M α} {f : α → M β} {s s' : Store} {a : α} (h : m s = .ok a s') : (m >>= f) s = f a s' := by
  rw [bind_run, h]
@[simp] theorem pure_bind' {α β : Type} (a : α) (f : α → M β) : ((pure a : M α) >>= f) = f a := Eq.trans rfl rfl
@[simp] theorem bind_pure' {α : Type} (m : M α) : (m >>= fun a => pure a) = m := by
  funext s
  rw [bind_run]
  cases m s <;> rfl
@[simp] theorem bind_assoc' {α β γ : Type} (m : M α) (f : α → M β) (k : β → M γ) : ((m >>= f) >>= k) = (m >>= fun a => f a >>= k) := by
  funext s
  rw [bind_run, bind_run, bind_run]
  cases m s <;> rfl
def stuck {α : Type} : M α := fun _ => .stuck
def raise {α : Type} (c : Nat) : M α := fun s => .exc c s
@[simp] theorem stuck_bind {α β : Type} (f : α → M β) : ((stuck : M α) >>= f) = stuck := Eq.trans rfl rfl
@[simp] theorem raise_bind {α β : Type} (c : Nat) (f : α → M β) : ((raise c : M α) >>= f) = raise c := Eq.trans rfl rfl
def getC (k : Nat) : M Cell := fun s => match s[k]? with
  | some c => .ok c s
  | none => .stuck
def setC (k : Nat) (c : Cell) : M Unit := fun s => .ok () (s.set k c)
def newC (c : Cell) : M Nat := fun s => .ok s.length (s ++ [c])
/-- what holds of a result -/
def Res.Post {α : Type} (r : Res α) (ok : α → Store → Prop) (ex : Nat → Store → Prop) : Prop := match r with
  | .ok a s => ok a s
  | .exc c s => ex c s
  | .stuck => False
theorem Res.Post.imp {α : Type} {r : Res α} {ok ok' : α → Store → Prop} {ex ex' : Nat → Store → Prop} (h : r.Post ok ex) (h1 : ∀ a s, ok a s → ok' a s) (h2 : ∀ c s, ex c s → ex' c s) : r.Post ok' ex' := by
  cases r with
  | ok a s => exact h1 a s h
  | exc c s => exact h2 c s h
  | stuck => exact h
theorem post_bind {α β : Type} {m : M α} {f : α → M β} {s : Store} {ok : β → Store → Prop} {ex : Nat → Store → Prop} (h : ((m >>= f) s).Post ok ex) : (m s).Post (fun a s' => (f a s').Post ok ex) ex := by
  rw [bind_run] at h
  cases e : m s with
  | ok a s' => rw [e] at h; exact h
  | exc c s' => rw [e] at h; exact h
  | stuck => rw [e] at h; exact h
def kD : Key → D
  | .inl i => .int i
  | .inr x => .str x
/-! ### values stand for data: G is the part of the heap that is never written any more, am the addresses of the store's cells -/
section
variable (K : PySem.W.Frag) (G : Hp) (am : List Addr)
mutual
inductive Rp : V → D → Prop
  | non : Rp .non .non
  | bl (b : Bool) : Rp (.bl b) (.bl b)
  | int (i : Int) : Rp (.int i) (.int i)
  | str (x : Str) : Rp (.str x) (.str x)
  | tup {a : Addr} {xs : List V} {ds : List D} : SqT K G a xs → Rps xs ds → Rp (.ref a) (.tup ds)
  | lst {a : Addr} {xs : List V} {ds : List D} : G a = some (.lst xs) → Rps xs ds → Rp (.ref a) (.lst ds)
  | rls {a : Addr} {xs : List V} {ds : List D} : SqL K G a xs → Rps xs ds → Rp (.ref a) (.rls ds)
  | dK {a : Addr} {kvs : List (Key × V)} {es : List (D × D)} : G a = some (.dK kvs) → RpK kvs es → Rp (.ref a) (.dct es)
  | dT {a : Addr} {kvs : List (List Key × V)} {es : List (D × D)} : G a = some (.dT kvs) → RpT kvs es → Rp (.ref a) (.dct es)
  | ref {a : Addr} {k : Nat} : am[k]? = some a → Rp (.ref a) (.ref k)
inductive Rps : List V → List D → Prop
  | nil : Rps [] []
  | cons {v : V} {vs : List V} {d : D} {ds : List D} : Rp v d → Rps vs ds → Rps (v :: vs) (d :: ds)
inductive RpK : List (Key × V) → List (D × D) → Prop
  | nil : RpK [] []
  | cons {k : Key} {v : V} {d : D} {kvs : List (Key × V)} {es : List (D × D)} : Rp v d → RpK kvs es → RpK ((k, v) :: kvs) ((kD k, d) :: es)
inductive RpT : List (List Key × V) → List (D × D) → Prop
  | nil : RpT [] []
  | cons {k : List Key} {v : V} {d : D} {kvs : List (List Key × V)} {es : List (D × D)} : Rp v d → RpT kvs es → RpT ((k, v) :: kvs) ((.tup (k.map kD), d) :: es)
end
end
section
variable {K : PySem.W.Frag} {G G' : Hp} {am am' : List Addr}
theorem rd_mono (h : ∀ a o, G a = some o → G' a = some o) {a : Addr} {u : HO} (r : Rd G a u) : Rd G' a u := by
  rcases r with r | ⟨o, r⟩
  · exact .inl (h _ _ r)
  · exact .inr ⟨o, h _ _ r⟩
theorem sqL_mono (h : ∀ a o, G a = some o → G' a = some o) {a : Addr} {xs : List V} (r : SqL K G a xs) : SqL K G' a xs := by
  rcases r with r | r
  · exact .inl (rd_mono h r)
  · exact .inr r
theorem sqT_mono (h : ∀ a o, G a = some o → G' a = some o) {a : Addr} {xs : List V} (r : SqT K G a xs) : SqT K G' a xs := by
  rcases r with r | r
  · exact .inl (rd_mono h r)
  · exact .inr r
theorem pre_get (h : am <+: am') {k : Nat} {a : Addr} (e : am[k]? = some a) : am'[k]? = some a := by
  obtain ⟨t, rfl⟩ := h
  have hk : k < am.length := (List.getElem?_eq_some_iff.mp e).1
  rw [List.getElem?_append_left hk]
  exact e
mutual
theorem Rp.mono (h : ∀ a o, G a = some o → G' a = some o) (ha : am <+: am') : ∀ {v : V} {d : D}, Rp K G am v d → Rp K G' am' v d
  | _, _, .non => .non
  | _, _, .bl b => .bl b
  | _, _, .int i => .int i
  | _, _, .str x => .str x
  | _, _, .tup s r => .tup (sqT_mono h s) (Rps.mono h ha r)
  | _, _, .lst s r => .lst (h _ _ s) (Rps.mono h ha r)
  | _, _, .rls s r => .rls (sqL_mono h s) (Rps.mono h ha r)
  | _, _, .dK s r => .dK (h _ _ s) (RpK.mono h ha r)
  | _, _, .dT s r => .dT (h _ _ s) (RpT.mono h ha r)
  | _, _, .ref e => .ref (pre_get ha e)
theorem Rps.mono (h : ∀ a o, G a = some o → G' a = some o) (ha : am <+: am') : ∀ {vs : List V} {ds : List D}, Rps K G am vs ds → Rps K G' am' vs ds
  | _, _, .nil => .nil
  | _, _, .cons r t => .cons (Rp.mono h ha r) (Rps.mono h ha t)
theorem RpK.mono (h : ∀ a o, G a = some o → G' a = some o) (ha : am <+: am') : ∀ {vs : List (Key × V)} {ds : List (D × D)}, RpK K G am vs ds → RpK K G' am' vs ds
  | _, _, .nil => .nil
  | _, _, .cons r t => .cons (Rp.mono h ha r) (RpK.mono h ha t)
theorem RpT.mono (h : ∀ a o, G a = some o → G' a = some o) (ha : am <+: am') : ∀ {vs : List (List Key × V)} {ds : List (D × D)}, RpT K G am vs ds → RpT K G' am' vs ds
  | _, _, .nil => .nil
  | _, _, .cons r t => .cons (Rp.mono h ha r) (RpT.mono h ha t)
end
theorem Rps.length : ∀ {vs : List V} {ds : List D}, Rps K G am vs ds → vs.length = ds.length
  | _, _, .nil => rfl
  | _, _, .cons _ t => by rw [List.length_cons, List.length_cons, Rps.length t]
theorem Rps.get : ∀ {vs : List V} {ds : List D} {i : Nat} {d : D}, Rps K G am vs ds → ds[i]? = some d → ∃ v, vs[i]? = some v ∧ Rp K G am v d
  | _, _, i, d, .nil, e => by simp at e
  | _, _, 0, d, .cons r _, e => by
    simp at e; subst e; exact ⟨_, rfl, r⟩
  | _, _, i + 1, d, .cons _ t, e => by
    obtain ⟨v, h1, h2⟩ := Rps.get (i := i) (d := d) t (by simpa using e)
    exact ⟨v, by simpa using h1, h2⟩
theorem Rps.getV : ∀ {vs : List V} {ds : List D} {i : Nat} {v : V}, Rps K G am vs ds → vs[i]? = some v → ∃ d, ds[i]? = some d ∧ Rp K G am v d
  | _, _, i, d, .nil, e => by simp at e
  | _, _, 0, d, .cons r _, e => by
    simp at e; subst e; exact ⟨_, rfl, r⟩
  | _, _, i + 1, d, .cons _ t, e => by
    obtain ⟨v, h1, h2⟩ := Rps.getV (i := i) (v := d) t (by simpa using e)
    exact ⟨v, by simpa using h1, h2⟩
theorem Rps.append : ∀ {vs ws : List V} {ds es : List D}, Rps K G am vs ds → Rps K G am ws es → Rps K G am (vs ++ ws) (ds ++ es)
  | _, _, _, _, .nil, s => s
  | _, _, _, _, .cons r t, s => .cons r (Rps.append t s)
theorem Rps.take : ∀ {vs : List V} {ds : List D} (n : Nat), Rps K G am vs ds → Rps K G am (vs.take n) (ds.take n)
  | _, _, 0, _ => .nil
  | _, _, _ + 1, .nil => .nil
  | _, _, n + 1, .cons r t => .cons r (Rps.take n t)
theorem Rps.drop : ∀ {vs : List V} {ds : List D} (n : Nat), Rps K G am vs ds → Rps K G am (vs.drop n) (ds.drop n)
  | _, _, 0, r => r
  | _, _, _ + 1, .nil => .nil
  | _, _, n + 1, .cons _ t => Rps.drop n t
theorem Rps.reverse : ∀ {vs : List V} {ds : List D}, Rps K G am vs ds → Rps K G am vs.reverse ds.reverse
  | _, _, .nil => .nil
  | _, _, .cons r t => by
    rw [List.reverse_cons, List.reverse_cons]
    exact (Rps.reverse t).append (.cons r .nil)
theorem Rps.set {v : V} {d : D} (r : Rp K G am v d) : ∀ {vs : List V} {ds : List D} (i : Nat), Rps K G am vs ds → Rps K G am (vs.set i v) (ds.set i d)
  | _, _, _, .nil => .nil
  | _, _, 0, .cons _ t => .cons r t
  | _, _, i + 1, .cons q t => .cons q (Rps.set r i t)
theorem Rps.eraseIdx : ∀ {vs : List V} {ds : List D} (i : Nat), Rps K G am vs ds → Rps K G am (vs.eraseIdx i) (ds.eraseIdx i)
  | _, _, _, .nil => .nil
  | _, _, 0, .cons _ t => t
  | _, _, i + 1, .cons q t => .cons q (Rps.eraseIdx i t)
/-- dints -/
def dints : List D → Option (List Int)
  | [] => some []
  | .int i :: r => (dints r).map (i :: ·)
  | _ :: _ => none
def dbools : List D → Option (List Bool)
  | [] => some []
  | .bl i :: r => (dbools r).map (i :: ·)
  | _ :: _ => none
theorem ints_map (ns : List Int) : dints (ns.map D.int) = some ns := by
  induction ns with
  | nil => rfl
  | cons n r ih => rw [List.map_cons, dints, ih]; rfl
theorem bools_map (ns : List Bool) : dbools (ns.map D.bl) = some ns := by
  induction ns with
  | nil => rfl
  | cons n r ih => rw [List.map_cons, dbools, ih]; rfl
theorem ints_eq : ∀ {ds : List D} {ns : List Int}, dints ds = some ns → ds = ns.map D.int
  | [], ns, h => by simp [dints] at h; subst h; rfl
  | .int i :: r, ns, h => by
    simp only [dints] at h
    cases e : dints r with
    | none => rw [e] at h; cases h
    | some q => rw [e] at h; simp at h; subst h; rw [List.map_cons, ← ints_eq e]
  | .non :: _, _, h => by simp [dints] at h
  | .bl _ :: _, _, h => by simp [dints] at h
  | .str _ :: _, _, h => by simp [dints] at h
  | .tup _ :: _, _, h => by simp [dints] at h
  | .lst _ :: _, _, h => by simp [dints] at h
  | .dct _ :: _, _, h => by simp [dints] at h
  | .ref _ :: _, _, h => by simp [dints] at h
  | .rls _ :: _, _, h => by simp [dints] at h
theorem bools_eq : ∀ {ds : List D} {ns : List Bool}, dbools ds = some ns → ds = ns.map D.bl
  | [], ns, h => by simp [dbools] at h; subst h; rfl
  | .bl i :: r, ns, h => by
    simp only [dbools] at h
    cases e : dbools r with
    | none => rw [e] at h; cases h
    | some q => rw [e] at h; simp at h; subst h; rw [List.map_cons, ← bools_eq e]
  | .non :: _, _, h => by simp [dbools] at h
  | .int _ :: _, _, h => by simp [dbools] at h
  | .str _ :: _, _, h => by simp [dbools] at h
  | .tup _ :: _, _, h => by simp [dbools] at h
  | .lst _ :: _, _, h => by simp [dbools] at h
  | .dct _ :: _, _, h => by simp [dbools] at h
  | .ref _ :: _, _, h => by simp [dbools] at h
  | .rls _ :: _, _, h => by simp [dbools] at h
theorem Rps.toInts : ∀ {vs : List V} {ns : List Int}, Rps K G am vs (ns.map D.int) → vs = ns.map V.int
  | _, [], .nil => rfl
  | _, _ :: r, .cons (.int _) t => by rw [List.map_cons, ← Rps.toInts t]
theorem Rps.ofInts : ∀ (ns : List Int), Rps K G am (ns.map V.int) (ns.map D.int)
  | [] => .nil
  | n :: r => .cons (.int n) (Rps.ofInts r)
theorem Rps.toBools : ∀ {vs : List V} {ns : List Bool}, Rps K G am vs (ns.map D.bl) → vs = ns.map V.bl
  | _, [], .nil => rfl
  | _, _ :: r, .cons (.bl _) t => by rw [List.map_cons, ← Rps.toBools t]
end
/-! ### the ghost state -/
structure Gs where
  G : Hp
  am : List Addr
  st : Store
/-- what the text gives once for all -/
structure Pg where
  P : Program
  w : World
  K : PySem.W.Frag
  mg : Str → Option Value
  base : Heap
  cA : Nat → Addr
abbrev Pg.Rp (p : Pg) (g : Gs) : V → D → Prop := DL.Rp p.K g.G g.am
abbrev Pg.Rps (p : Pg) (g : Gs) : List V → List D → Prop := DL.Rps p.K g.G g.am
/-- a container whose own object may be written -/
def Own (p : Pg) (g : Gs) (H : Hp) (a : Addr) : D → Prop
  | .lst ds => ∃ xs, H a = some (.lst xs) ∧ p.Rps g xs ds
  | .dct es => (∃ kvs, H a = some (.dK kvs) ∧ RpK p.K g.G g.am kvs es) ∨ (∃ kvs, H a = some (.dT kvs) ∧ RpT p.K g.G g.am kvs es)
  | _ => False
def RpF (p : Pg) (g : Gs) : List (Str × V) → List (Str × D) → Prop := Paired fun q r => q.1 = r.1 ∧ p.Rp g q.2 r.2
def CellR (p : Pg) (g : Gs) (H : Hp) (a : Addr) : Cell → Prop
  | .lst ds => Own p g H a (.lst ds)
  | .dct es => Own p g H a (.dct es)
  | .ins c fs => ∃ dx fvs, H a = some (.ins (p.cA c) dx fvs) ∧ H dx = some (.own a) ∧ RpF p g fvs fs
structure Wf (p : Pg) (g : Gs) (H : Hp) : Prop where
  sub : ∀ a o, g.G a = some o → H a = some o
  amG : ∀ a, a ∈ g.am → g.G a = none
  nd : g.am.Nodup
  len : g.am.length = g.st.length
  cell : ∀ (k : Nat) (a : Addr) (c : Cell), g.am[k]? = some a → g.st[k]? = some c → CellR p g H a c
structure Stp (p : Pg) (g : Gs) (H : Hp) (g' : Gs) (H' : Hp) : Prop where
  gle : ∀ a o, g.G a = some o → g'.G a = some o
  aml : g.am <+: g'.am
  keep : ∀ a o, H a = some o → a ∉ g.am → H' a = some o
  gnew : ∀ a o, g'.G a = some o → g.G a = some o ∨ H a = none ∨ ∃ xs, H a = some (.tup xs)
  amn : ∀ a, a ∈ g'.am → a ∈ g.am ∨ H a = none
  wf : Wf p g' H'
section
variable {p : Pg} {g g' g'' : Gs} {H H' H'' : Hp}
theorem Own.at {a : Addr} {d : D} (h : Own p g H a d) : ∃ o, H a = some o ∧ (∀ xs, o ≠ .tup xs) ∧ Mut (some o) ∧ ∀ y, o ≠ .own y := by
  cases d with
  | lst ds => obtain ⟨xs, e, _⟩ := h; exact ⟨_, e, (fun _ z => by cases z), True.intro, fun _ z => by cases z⟩
  | dct es =>
    rcases h with ⟨kvs, e, _⟩ | ⟨kvs, e, _⟩
    · exact ⟨_, e, (fun _ z => by cases z), True.intro, fun _ z => by cases z⟩
    · exact ⟨_, e, (fun _ z => by cases z), True.intro, fun _ z => by cases z⟩
  | _ => exact h.elim
theorem Own.mono {a : Addr} {d : D} (h : Own p g H a d) (hg : ∀ a o, g.G a = some o → g'.G a = some o) (ha : g.am <+: g'.am) (e : H' a = H a) : Own p g' H' a d := by
  cases d with
  | lst ds => obtain ⟨xs, e1, r⟩ := h; exact ⟨xs, e.trans e1, r.mono hg ha⟩
  | dct es =>
    rcases h with ⟨kvs, e1, r⟩ | ⟨kvs, e1, r⟩
    · exact .inl ⟨kvs, e.trans e1, r.mono hg ha⟩
    · exact .inr ⟨kvs, e.trans e1, r.mono hg ha⟩
  | _ => exact h.elim
theorem RpF.mono (hg : ∀ a o, g.G a = some o → g'.G a = some o) (ha : g.am <+: g'.am) {xs : List (Str × V)} {ys : List (Str × D)} (h : RpF p g xs ys) : RpF p g' xs ys :=
  L2.Paired.mapP h fun _ _ q => ⟨q.1, q.2.mono hg ha⟩
theorem CellR.at {a : Addr} {c : Cell} (h : CellR p g H a c) : ∃ o, H a = some o ∧ (∀ xs, o ≠ .tup xs) ∧ Mut (some o) ∧ ∀ y, o ≠ .own y := by
  cases c with
  | lst ds => exact Own.at (d := .lst ds) h
  | dct es => exact Own.at (d := .dct es) h
  | ins c fs => obtain ⟨dx, fvs, e, _, _⟩ := h; exact ⟨_, e, (fun _ z => by cases z), True.intro, fun _ z => by cases z⟩
theorem CellR.mono {a : Addr} {c : Cell} (h : CellR p g H a c) (hg : ∀ a o, g.G a = some o → g'.G a = some o) (ha : g.am <+: g'.am) (e : H' a = H a) (e2 : ∀ dx, H dx = some (.own a) → H' dx = some (.own a)) : CellR p g' H' a c := by
  cases c with
  | lst ds => exact Own.mono (d := .lst ds) h hg ha e
  | dct es => exact Own.mono (d := .dct es) h hg ha e
  | ins c fs => obtain ⟨dx, fvs, e1, e3, r⟩ := h; exact ⟨dx, fvs, e.trans e1, e2 _ e3, r.mono hg ha⟩
theorem Wf.tracked (w : Wf p g H) {a : Addr} (ha : a ∈ g.am) : ∃ o, H a = some o ∧ (∀ xs, o ≠ .tup xs) ∧ Mut (some o) ∧ ∀ y, o ≠ .own y := by
  obtain ⟨k, hk, e⟩ := List.getElem_of_mem ha
  have hk2 : k < g.st.length := by rw [← w.len]; exact hk
  exact (w.cell k a g.st[k] (by rw [List.getElem?_eq_getElem hk, e]) (List.getElem?_eq_getElem hk2)).at
theorem Wf.freeG (w : Wf p g H) {a : Addr} (n : H a = none) : g.G a = none := by
  cases q : g.G a with
  | none => rfl
  | some u => rw [w.sub a u q] at n; cases n
theorem Wf.freeA (w : Wf p g H) {a : Addr} (n : H a = none) : a ∉ g.am := fun h => by
  obtain ⟨u, e, _⟩ := w.tracked h
  rw [n] at e; cases e
theorem Stp.refl (w : Wf p g H) : Stp p g H g H :=
  ⟨fun _ _ e => e, List.prefix_refl _, fun _ _ e _ => e, fun _ _ e => .inl e, fun _ h => .inl h, w⟩
theorem Stp.none_of (s : Stp p g H g' H') (w : Wf p g H) {a : Addr} (e : H' a = none) : H a = none := by
  cases q : H a with
  | none => rfl
  | some o =>
    by_cases ha : a ∈ g.am
    · obtain ⟨o', e', _⟩ := s.wf.tracked (s.aml.subset ha)
      rw [e] at e'; cases e'
    · have := s.keep a o q ha
      rw [e] at this; cases this
theorem Stp.trans (w : Wf p g H) (s : Stp p g H g' H') (t : Stp p g' H' g'' H'') : Stp p g H g'' H'' := by
  have nam : ∀ a o, H a = some o → a ∉ g.am → a ∉ g'.am := fun a o e n h => by
    rcases s.amn a h with z | z
    · exact n z
    · rw [e] at z; cases z
  refine ⟨fun a o e => t.gle a o (s.gle a o e), s.aml.trans t.aml, fun a o e n => t.keep a o (s.keep a o e n) (nam a o e n), fun a o e => ?_, fun a h => ?_, t.wf⟩
  · rcases t.gnew a o e with z | z | ⟨xs, z⟩
    · exact s.gnew a o z
    · exact .inr (.inl (s.none_of w z))
    · cases q : H a with
      | none => exact .inr (.inl rfl)
      | some u =>
        by_cases ha : a ∈ g.am
        · obtain ⟨o', e', n, _⟩ := s.wf.tracked (s.aml.subset ha)
          rw [z] at e'; cases e'; exact absurd rfl (n xs)
        · have := s.keep a u q ha
          rw [z] at this; cases this
          exact .inr (.inr ⟨xs, rfl⟩)
  · rcases t.amn a h with z | z
    · exact s.amn a z
    · exact .inr (s.none_of w z)
/-- a new object is laid, and held by nobody yet -/
theorem Stp.laid (w : Wf p g H) {a : Addr} {o : HO} (n : H a = none) : Stp p g H g (upd H a o) := by
  have ne : ∀ b u, H b = some u → b ≠ a := fun b u e => ne_of_none e n
  refine ⟨fun _ _ e => e, List.prefix_refl _, fun b u e _ => by rw [upd_ne (ne b u e)]; exact e, fun _ _ e => .inl e, fun _ h => .inl h,
    ⟨fun b u e => by rw [upd_ne (ne b u (w.sub b u e))]; exact w.sub b u e, w.amG, w.nd, w.len, fun k b c e1 e2 => ?_⟩⟩
  have h := w.cell k b c e1 e2
  obtain ⟨u, e, _⟩ := h.at
  exact h.mono (fun _ _ e => e) (List.prefix_refl _) (upd_ne (ne b u e)) fun dx e => by rw [upd_ne (ne dx _ e)]; exact e
/-- what nobody holds is frozen -/
theorem Stp.freeze (w : Wf p g H) {a : Addr} {o : HO} (e : H a = some o) (hG : g.G a = none) (ha : a ∉ g.am) : Wf p { g with G := upd g.G a o } H ∧ (∀ b u, g.G b = some u → upd g.G a o b = some u) := by
  have le : ∀ b u, g.G b = some u → upd g.G a o b = some u := fun b u e => by rw [upd_ne (ne_of_none e hG)]; exact e
  refine ⟨⟨fun b u q => ?_, fun b hb => ?_, w.nd, w.len, fun k b c e1 e2 => ?_⟩, le⟩
  · have q : upd g.G a o b = some u := q
    by_cases z : b = a
    · subst z; rw [upd_same] at q; cases q; exact e
    · rw [upd_ne z] at q; exact w.sub b u q
  · show upd g.G a o b = none
    rw [upd_ne (show b ≠ a from fun z => ha (by rw [← z]; exact hb))]
    exact w.amG b hb
  · exact (w.cell k b c e1 e2).mono le (List.prefix_refl _) rfl fun _ e => e
/-- a new object that is never written: laid and frozen -/
theorem Stp.new (w : Wf p g H) {a : Addr} {o : HO} (n : H a = none) : Stp p g H { g with G := upd g.G a o } (upd H a o) := by
  have gn : g.G a = none := by
    cases q : g.G a with
    | none => rfl
    | some u => rw [w.sub a u q] at n; cases n
  have na : a ∉ g.am := fun h => by
    obtain ⟨u, e, _⟩ := w.tracked h
    rw [n] at e; cases e
  have s := Stp.laid (o := o) w n
  obtain ⟨wf', le⟩ := Stp.freeze s.wf (a := a) (o := o) upd_same gn na
  refine ⟨le, List.prefix_refl _, s.keep, fun b u e => ?_, fun _ h => .inl h, wf'⟩
  have e : upd g.G a o b = some u := e
  by_cases z : b = a
  · subst z; exact .inr (.inl n)
  · rw [upd_ne z] at e; exact .inl e
end
/-! ### what stands in a slot -/
inductive Sl where
  /-- unknown -/
  | un
  /-- a value that is never written -/
  | sh (d : D)
  /-- a list or dict that this name alone holds -/
  | ow (d : D)
  /-- a list or dict that a caller lends: read, not kept -/
  | bo (d : D)
structure Fm where
  g : Gs
  H : Hp
/-- a value that is read now -/
def TopR (p : Pg) (g : Gs) (H : Hp) (v : V) (d : D) : Prop := p.Rp g v d ∨ ∃ a, v = .ref a ∧ a ∉ g.am ∧ Own p g H a d
/-- a fresh container -/
def NewR (p : Pg) (H : Hp) (g : Gs) (H' : Hp) (v : V) (d : D) : Prop := ∃ a : Addr, v = .ref a ∧ Own p g H' a d ∧ g.G a = none ∧ a ∉ g.am ∧ H a = none
def SlV (p : Pg) (F : Fm) (g : Gs) (H : Hp) : Option V → Sl → Prop
  | _, .un => True
  | some v, .sh d => p.Rp g v d
  | some v, .ow d => ∃ a, v = .ref a ∧ Own p g H a d ∧ g.G a = none ∧ a ∉ g.am ∧ F.H a = none
  | some v, .bo d => p.Rp g v d ∨ ∃ a, v = .ref a ∧ a ∉ g.am ∧ Own p g H a d ∧ ∃ o, F.H a = some o
  | none, _ => False
abbrev Ev := List Sl
structure ER (p : Pg) (F : Fm) (ρ : Ev) (σ : L2.St) (g : Gs) (H : Hp) : Prop where
  len : ρ.length = σ.length
  sl : ∀ (i : Nat) (s : Sl), ρ[i]? = some s → SlV p F g H (σ[i]?.join) s
  dist : ∀ (i j : Nat) (d e : D), ρ[i]? = some (.ow d) → ρ[j]? = some (.ow e) → σ[i]? = σ[j]? → i = j
  fr : Stp p F.g F.H g H
  fw : Wf p F.g F.H
section
variable {p : Pg} {F : Fm} {ρ ρ' : Ev} {σ σ' : L2.St} {g g' : Gs} {H H' : Hp}
theorem ER.wf (E : ER p F ρ σ g H) : Wf p g H := E.fr.wf
theorem TopR.step {v : V} {d : D} (w : Wf p g H) (h : TopR p g H v d) (s : Stp p g H g' H') : TopR p g' H' v d := by
  rcases h with h | ⟨a, e, n, o⟩
  · exact .inl (h.mono s.gle s.aml)
  · obtain ⟨u, e1, _⟩ := o.at
    refine .inr ⟨a, e, fun z => ?_, o.mono s.gle s.aml ((s.keep a u e1 n).trans e1.symm)⟩
    rcases s.amn a z with z | z
    · exact n z
    · rw [e1] at z; cases z
theorem ER.step (E : ER p F ρ σ g H) (s : Stp p g H g' H') : ER p F ρ σ g' H' := by
  refine ⟨E.len, fun i q hq => ?_, E.dist, E.fr.trans E.fw s, E.fw⟩
  have h := E.sl i q hq
  cases q with
  | un => cases σ[i]?.join <;> exact True.intro
  | sh d =>
    cases e : σ[i]?.join with
    | none => rw [e] at h; exact h.elim
    | some v => rw [e] at h; exact Rp.mono s.gle s.aml h
  | ow d =>
    cases e : σ[i]?.join with
    | none => rw [e] at h; exact h.elim
    | some v =>
      rw [e] at h
      obtain ⟨a, rfl, o, hG, ha, hF⟩ := h
      obtain ⟨u, e1, nt, _⟩ := o.at
      refine ⟨a, rfl, o.mono s.gle s.aml ((s.keep a u e1 ha).trans e1.symm), ?_, fun z => ?_, hF⟩
      · cases q : g'.G a with
        | none => rfl
        | some x =>
          rcases s.gnew a x q with z | z | ⟨xs, z⟩
          · rw [hG] at z; cases z
          · rw [e1] at z; cases z
          · rw [e1] at z; cases z; exact absurd rfl (nt xs)
      · rcases s.amn a z with z | z
        · exact ha z
        · rw [e1] at z; cases z
  | bo d =>
    cases e : σ[i]?.join with
    | none => rw [e] at h; exact h.elim
    | some v =>
      rw [e] at h
      rcases h with h | ⟨a, rfl, n, o, hF⟩
      · exact .inl (Rp.mono s.gle s.aml h)
      · obtain ⟨u, e1, _⟩ := o.at
        refine .inr ⟨a, rfl, fun z => ?_, o.mono s.gle s.aml ((s.keep a u e1 n).trans e1.symm), hF⟩
        rcases s.amn a z with z | z
        · exact n z
        · rw [e1] at z; cases z
/-- forgetting -/
inductive Le : Ev → Ev → Prop
  | nil : Le [] []
  | un {s : Sl} {r t : Ev} : Le r t → Le (.un :: r) (s :: t)
  | eq {s : Sl} {r t : Ev} : Le r t → Le (s :: r) (s :: t)
theorem Le.refl : ∀ ρ : Ev, Le ρ ρ
  | [] => .nil
  | _ :: r => .eq (Le.refl r)
theorem Le.length (h : Le ρ' ρ) : ρ'.length = ρ.length := by
  induction h with
  | nil => rfl
  | un _ ih => rw [List.length_cons, List.length_cons, ih]
  | eq _ ih => rw [List.length_cons, List.length_cons, ih]
theorem Le.at (h : Le ρ' ρ) : ∀ (i : Nat) (s : Sl), ρ'[i]? = some s → s = .un ∨ ρ[i]? = some s := by
  induction h with
  | nil => intro i s e; simp at e
  | un _ ih =>
    intro i s e
    cases i with
    | zero => simp at e; exact .inl e.symm
    | succ j => exact ih j s (by simpa using e)
  | eq _ ih =>
    intro i s e
    cases i with
    | zero => simp at e; subst e; exact .inr rfl
    | succ j => exact ih j s (by simpa using e)
theorem ER.weak (E : ER p F ρ σ g H) (l : Le ρ' ρ) : ER p F ρ' σ g H := by
  refine ⟨l.length.trans E.len, fun i s e => ?_, fun i j d e h1 h2 h3 => ?_, E.fr, E.fw⟩
  · rcases l.at i s e with rfl | h
    · cases σ[i]?.join <;> exact True.intro
    · exact E.sl i s h
  · rcases l.at i _ h1 with z | z
    · cases z
    · rcases l.at j _ h2 with y | y
      · cases y
      · exact E.dist i j d e z y h3
/-- a slot is stored with a value that is never written -/
theorem ER.set (E : ER p F ρ σ g H) {i : Nat} {v : V} {d : D} (r : p.Rp g v d) : ER p F (ρ.set i (.sh d)) (σ.set i (some v)) g H := by
  refine ⟨by rw [List.length_set, List.length_set, E.len], fun j s e => ?_, fun a b d1 e1 h1 h2 h3 => ?_, E.fr, E.fw⟩
  · by_cases z : i = j
    · subst z
      have hl : i < ρ.length := by
        have := (List.getElem?_eq_some_iff.mp e).1
        rwa [List.length_set] at this
      rw [List.getElem?_set_self hl] at e
      cases e
      rw [List.getElem?_set_self (by rw [← E.len]; exact hl)]
      exact r
    · rw [List.getElem?_set_ne z] at e
      rw [List.getElem?_set_ne z]
      exact E.sl j s e
  · have ne : ∀ {c : Nat} {x : D}, (ρ.set i (.sh d))[c]? = some (.ow x) → i ≠ c ∧ ρ[c]? = some (.ow x) := fun {c x} h => by
      by_cases z : i = c
      · subst z
        have hl : i < ρ.length := by
          have := (List.getElem?_eq_some_iff.mp h).1
          rwa [List.length_set] at this
        rw [List.getElem?_set_self hl] at h; cases h
      · rw [List.getElem?_set_ne z] at h; exact ⟨z, h⟩
    obtain ⟨n1, h1⟩ := ne h1
    obtain ⟨n2, h2⟩ := ne h2
    rw [List.getElem?_set_ne n1, List.getElem?_set_ne n2] at h3
    exact E.dist a b d1 e1 h1 h2 h3
theorem Own.addr_ne {a b : Addr} {d : D} (h : Own p g H a d) (n : H b = none) : a ≠ b := by
  obtain ⟨o, e, _⟩ := h.at
  exact ne_of_none e n
/-- a slot is stored with a fresh container; g0 H0 the state ahead of the making -/
theorem ER.setOwn {g0 : Gs} {H0 : Hp} (E0 : ER p F ρ σ g0 H0) (s : Stp p g0 H0 g H) {i : Nat} {v : V} {d : D} (r : NewR p H0 g H v d) : ER p F (ρ.set i (.ow d)) (σ.set i (some v)) g H := by
  have E := E0.step s
  obtain ⟨a, rfl, o, hG, ha, hn⟩ := r
  have hF : F.H a = none := E0.fr.none_of E0.fw hn
  refine ⟨by rw [List.length_set, List.length_set, E.len], fun j q e => ?_, fun x y d1 e1 h1 h2 h3 => ?_, E.fr, E.fw⟩
  · by_cases z : i = j
    · subst z
      have hl : i < ρ.length := by
        have := (List.getElem?_eq_some_iff.mp e).1
        rwa [List.length_set] at this
      rw [List.getElem?_set_self hl] at e
      cases e
      rw [List.getElem?_set_self (by rw [← E.len]; exact hl)]
      exact ⟨a, rfl, o, hG, ha, hF⟩
    · rw [List.getElem?_set_ne z] at e
      rw [List.getElem?_set_ne z]
      exact E.sl j q e
  · -- other owned slots hold addresses that stood ahead
    have old : ∀ {c : Nat} {x : D}, i ≠ c → (ρ.set i (.ow d))[c]? = some (.ow x) → (σ.set i (some (.ref a)))[c]? = some (some (.ref a)) → False := fun {c x} n h q => by
      rw [List.getElem?_set_ne n] at h q
      have z := E0.sl c _ h
      rw [q] at z
      obtain ⟨b, eb, ob, _⟩ := z
      cases eb
      exact ob.addr_ne hn rfl
    have self : i < ρ.length → (σ.set i (some (.ref a)))[i]? = some (some (V.ref a)) := fun hl => List.getElem?_set_self (by rw [← E.len]; exact hl)
    by_cases zx : i = x
    · by_cases zy : i = y
      · exact zx.symm.trans zy
      · subst zx
        have hl : i < ρ.length := by
          have := (List.getElem?_eq_some_iff.mp h1).1
          rwa [List.length_set] at this
        exact (old zy h2 (h3.symm.trans (self hl))).elim
    · by_cases zy : i = y
      · subst zy
        have hl : i < ρ.length := by
          have := (List.getElem?_eq_some_iff.mp h2).1
          rwa [List.length_set] at this
        exact (old zx h1 (h3.trans (self hl))).elim
      · rw [List.getElem?_set_ne zx] at h1 h3
        rw [List.getElem?_set_ne zy] at h2 h3
        exact E.dist x y d1 e1 h1 h2 h3
end
end DL
namespace DL
open PySem PySem.Spec PyProof.Rows L2
/-! ### contexts: what the text gives of a def (Sta), what a run gives (Dyn) -/
structure Sta where
  pg : Pg
  N : List Str
  sc : Scope
  fn : Str → Bool
  lv : Nat
structure Dyn where
  A : Around
  s0 : Shared
  H0 : Hp
  env : Env
  outer : List Env
  stack : List Env
  ex : List Addr
  pn : List (Addr × Obj)
  xe : Value → Shared → Prop
  W : Value → Option Addr → Hp → Prop
def Sta.cx (S : Sta) (Y : Dyn) : Cx where
  prog := S.pg.P
  w := S.pg.w
  K := S.pg.K
  mg := S.pg.mg
  base := S.pg.base
  A := Y.A
  N := S.N
  s_0 := Y.s0
  H_0 := Y.H0
  env := { Y.env with scope := S.sc }
  outer := Y.outer
  stack := Y.stack
  ex := Y.ex
  fn := S.fn
  calm := true
  pn := Y.pn
  xe := Y.xe
structure OkY (S : Sta) (Y : Dyn) : Prop where
  room : Room S.lv Y.A
  pass : PassesOwn (model S.pg.P S.pg.w) Y.A (S.cx Y).env Y.xe
  takes : Takes (S.cx Y) fun c d _ H => Y.W c d H
theorem _root_.L2.PE.pre {X : Cx} {e : Expr} {t t' : TE} (h : PE X e t) (k : ∀ σ H Q, t' σ H Q → t σ H Q) : PE X e t' :=
  ⟨fun pins s σ H Q I q => h.run pins s σ H Q I (k σ H Q q)⟩
theorem _root_.L2.PT.pre {X : Cx} {e : Expr} {t t' : TT} (h : PT X e t) (k : ∀ σ H Q, t' σ H Q → t σ H Q) : PT X e t' :=
  ⟨fun pins s σ H Q I q => h.run pins s σ H Q I (k σ H Q q)⟩
theorem _root_.L2.PW.pre {X : Cx} {e : Expr} {t t' : TT} (h : PW X e t) (k : ∀ σ H Q, t' σ H Q → t σ H Q) : PW X e t' :=
  ⟨fun wh pins s σ H Q I q => h.run wh pins s σ H Q I (k σ H Q q)⟩
theorem _root_.L2.PA.pre {X : Cx} {e : List Expr} {t t' : TA} (h : PA X e t) (k : ∀ σ H Q, t' σ H Q → t σ H Q) : PA X e t' :=
  ⟨fun pos pins s σ H Q I q => h.run pos pins s σ H Q I (k σ H Q q)⟩
theorem _root_.L2.PS.pre {X : Cx} {e : Stmt} {t t' : TS} (h : PS X e t) (k : ∀ D σ H, t' D σ H → t D σ H) : PS X e t' :=
  ⟨fun pins s σ H D I q => h.run pins s σ H D I (k D σ H q)⟩
theorem _root_.L2.PSs.pre {X : Cx} {e : List Stmt} {t t' : TS} (h : PSs X e t) (k : ∀ D σ H, t' D σ H → t D σ H) : PSs X e t' :=
  ⟨fun pins s σ H D I q => h.run pins s σ H D I (k D σ H q)⟩
/-! ### the judgements -/
/-- what a value is to be behind an expression -/
abbrev Rel := Hp → Gs → Hp → V → D → Prop
abbrev RE (p : Pg) : Rel := fun _ g _ v d => p.Rp g v d
abbrev RL (p : Pg) : Rel := fun _ g H v d => TopR p g H v d
abbrev RN (p : Pg) : Rel := fun H0 g H v d => NewR p H0 g H v d
/-- it may begin further ahead -/
def Back (p : Pg) (R : Rel) : Prop := ∀ (g : Gs) (H : Hp) (g1 : Gs) (H1 : Hp) (g2 : Gs) (H2 : Hp) (v : V) (d : D), Wf p g H → Stp p g H g1 H1 → R H1 g2 H2 v d → R H g2 H2 v d
theorem back_RE {p : Pg} : Back p (RE p) := fun _ _ _ _ _ _ _ _ _ _ h => h
theorem back_RL {p : Pg} : Back p (RL p) := fun _ _ _ _ _ _ _ _ _ _ h => h
theorem back_RN {p : Pg} : Back p (RN p) := fun _ _ _ _ _ _ _ _ w s ⟨a, e, o, hG, ha, hn⟩ => ⟨a, e, o, hG, ha, s.none_of w hn⟩
/-- what a value operation wants: the value's post -/
def Pv (p : Pg) (R : Rel) (g : Gs) (H : Hp) (Q : VK) (d : D) (st' : Store) : Prop := ∀ v g' H', g'.st = st' → Stp p g H g' H' → R H g' H' v d → Q v H'
def Px (S : Sta) (Y : Dyn) (g : Gs) (H : Hp) (c : Nat) (st' : Store) : Prop := ∀ g' H', g'.st = st' → Stp S.pg g H g' H' → Y.W (.ref (S.pg.cA c)) none H'
def rdX (S : Sta) (Y : Dyn) (ρ : Ev) (R : Rel) (m : M D) : TE := fun σ H Q => ∃ F g, ER S.pg F ρ σ g H ∧ (m g.st).Post (Pv S.pg R g H Q) (Px S Y g H)
def EX (S : Sta) (ρ : Ev) (R : Rel) (e : Expr) (m : M D) : Prop := ∀ Y, OkY S Y → PE (S.cx Y) e (rdX S Y ρ R m)
abbrev EE (S : Sta) (ρ : Ev) (e : Expr) (m : M D) : Prop := EX S ρ (RE S.pg) e m
abbrev EL (S : Sta) (ρ : Ev) (e : Expr) (m : M D) : Prop := EX S ρ (RL S.pg) e m
abbrev EN (S : Sta) (ρ : Ev) (e : Expr) (m : M D) : Prop := EX S ρ (RN S.pg) e m
def rdT (S : Sta) (Y : Dyn) (ρ : Ev) (m : M Bool) : TT := fun σ H Q => ∃ F g, ER S.pg F ρ σ g H ∧ (m g.st).Post (fun b st' => ∀ g' H', g'.st = st' → Stp S.pg g H g' H' → Q b H') (Px S Y g H)
def ET (S : Sta) (ρ : Ev) (e : Expr) (m : M Bool) : Prop := ∀ Y, OkY S Y → PT (S.cx Y) e (rdT S Y ρ m)
def EW (S : Sta) (ρ : Ev) (e : Expr) (m : M Bool) : Prop := ∀ Y, OkY S Y → PW (S.cx Y) e (rdT S Y ρ m)
/-- lists of arguments -/
def rdA (S : Sta) (Y : Dyn) (ρ : Ev) (Rs : Gs → Hp → List V → List D → Prop) (m : M (List D)) : TA := fun σ H Q => ∃ F g, ER S.pg F ρ σ g H ∧ (m g.st).Post (fun ds st' => ∀ vs g' H', g'.st = st' → Stp S.pg g H g' H' → Rs g' H' vs ds → Q vs H') (Px S Y g H)
def EA (S : Sta) (ρ : Ev) (e : List Expr) (m : M (List D)) : Prop := ∀ Y, OkY S Y → PA (S.cx Y) e (rdA S Y ρ (fun g _ => S.pg.Rps g) m)
section
variable {S : Sta} {ρ : Ev} {e a b c : Expr} {m ma mb mc : M D} {R : Rel}
theorem Px.back {Y : Dyn} {g g1 : Gs} {H H1 : Hp} {c : Nat} {st' : Store} (w : Wf S.pg g H) (s : Stp S.pg g H g1 H1) (h : Px S Y g H c st') : Px S Y g1 H1 c st' :=
  fun g' H' e t => h g' H' e (s.trans w t)
theorem Pv.back {p : Pg} {R : Rel} (hR : Back p R) {g g1 : Gs} {H H1 : Hp} {Q : VK} {d : D} {st' : Store} (w : Wf p g H) (s : Stp p g H g1 H1) (h : Pv p R g H Q d st') : Pv p R g1 H1 Q d st' :=
  fun v g' H' e t r => h v g' H' e (s.trans w t) (hR _ _ _ _ _ _ _ _ w s r)
/-- a value that was read ahead stays -/
theorem EX.imp {R' : Rel} (h : EX S ρ R e m) (k : ∀ g H g' H' v d, Wf S.pg g H → Stp S.pg g H g' H' → R H g' H' v d → R' H g' H' v d) : EX S ρ R' e m := fun Y ok => (h Y ok).pre fun σ H Q ⟨F, g, E, q⟩ =>
  ⟨F, g, E, q.imp (fun d st' q v g' H' e s r => q v g' H' e s (k g H g' H' v d E.wf s r)) fun _ _ q => q⟩
theorem el_of (h : EE S ρ e m) : EL S ρ e m := h.imp fun _ _ _ _ _ _ _ _ r => .inl r
theorem el_new (h : EN S ρ e m) : EL S ρ e m := h.imp fun _ _ _ _ _ _ _ _ ⟨a, e, o, _, ha, _⟩ => .inr ⟨a, e, ha, o⟩
/-- freezing -/
theorem Own.frozen {p : Pg} {g : Gs} {H : Hp} {a : Addr} {d : D} (w : Wf p g H) (o : Own p g H a d) (hG : g.G a = none) (ha : a ∉ g.am) : ∃ u, H a = some u ∧ Wf p { g with G := upd g.G a u } H ∧ (∀ b x, g.G b = some x → upd g.G a u b = some x) ∧ p.Rp { g with G := upd g.G a u } (.ref a) d := by
  obtain ⟨u, e, _⟩ := o.at
  obtain ⟨wf', le⟩ := Stp.freeze w e hG ha
  refine ⟨u, e, wf', le, ?_⟩
  cases d with
  | lst ds =>
    obtain ⟨xs, e1, r⟩ := o
    rw [e] at e1; cases e1
    exact .lst (upd_same) (r.mono le (List.prefix_refl _))
  | dct es =>
    rcases o with ⟨kvs, e1, r⟩ | ⟨kvs, e1, r⟩
    · rw [e] at e1; cases e1
      exact .dK (upd_same) (r.mono le (List.prefix_refl _))
    · rw [e] at e1; cases e1
      exact .dT (upd_same) (r.mono le (List.prefix_refl _))
  | _ => exact o.elim
theorem NewR.frozen {p : Pg} {g g' : Gs} {H H' : Hp} {v : V} {d : D} (w : Wf p g H) (s : Stp p g H g' H') (r : NewR p H g' H' v d) : ∃ g2, g2.st = g'.st ∧ Stp p g H g2 H' ∧ p.Rp g2 v d ∧ (∀ b x, g'.G b = some x → g2.G b = some x) ∧ g'.am <+: g2.am := by
  obtain ⟨a, rfl, o, hG, ha, hn⟩ := r
  obtain ⟨u, e, wf', le, r⟩ := o.frozen s.wf hG ha
  refine ⟨{ g' with G := upd g'.G a u }, rfl, Stp.mk (fun b x q => le b x (s.gle b x q)) s.aml s.keep (fun b x q => ?_) s.amn wf', r, le, List.prefix_refl _⟩
  have q : upd g'.G a u b = some x := q
  by_cases z : b = a
  · subst z; exact .inr (.inl hn)
  · rw [upd_ne z] at q; exact s.gnew b x q
theorem ee_new (h : EN S ρ e m) : EE S ρ e m := fun Y ok => (h Y ok).pre fun σ H Q ⟨F, g, E, q⟩ => by
  refine ⟨F, g, E, q.imp (fun d st' q v g' H' e s r => ?_) fun _ _ q => q⟩
  obtain ⟨g2, e2, s2, r2, _⟩ := NewR.frozen E.wf s r
  exact q v g2 H' (e2.trans e) s2 r2
/-! ### names and constants -/
theorem ee_var (i : Nat) {x : Str} {d : D} {pos : Pos} (hs : ρ[i]? = some (.sh d)) (hN : S.N[i]? = some x) (hv : Vis S.sc x) (hd : (x == ("__debug__" : Str)) = false := by decide) (hcd : (x == ("__classdict__" : Str)) = false := by decide) :
    EE S ρ (.Name x pos) (pure d) := fun Y ok => (pe_var (X := S.cx Y) (i := i) hN hv hd hcd).pre fun σ H Q ⟨F, g, E, q⟩ => by
  have h := E.sl i _ hs
  cases e : σ[i]? with
  | none => rw [e] at h; exact h.elim
  | some o =>
    rw [e] at h
    cases o with
    | none => exact h.elim
    | some v => exact ⟨v, e, q v g H rfl (.refl E.wf) h⟩
theorem el_ow (i : Nat) {x : Str} {d : D} {pos : Pos} (hs : ρ[i]? = some (.ow d)) (hN : S.N[i]? = some x) (hv : Vis S.sc x) (hd : (x == ("__debug__" : Str)) = false := by decide) (hcd : (x == ("__classdict__" : Str)) = false := by decide) :
    EL S ρ (.Name x pos) (pure d) := fun Y ok => (pe_var (X := S.cx Y) (i := i) hN hv hd hcd).pre fun σ H Q ⟨F, g, E, q⟩ => by
  have h := E.sl i _ hs
  cases e : σ[i]? with
  | none => rw [e] at h; exact h.elim
  | some o =>
    rw [e] at h
    cases o with
    | none => exact h.elim
    | some v =>
      obtain ⟨a, rfl, o, _, ha, _⟩ := h
      exact ⟨_, e, q _ g H rfl (.refl E.wf) (.inr ⟨a, rfl, ha, o⟩)⟩
theorem el_bo (i : Nat) {x : Str} {d : D} {pos : Pos} (hs : ρ[i]? = some (.bo d)) (hN : S.N[i]? = some x) (hv : Vis S.sc x) (hd : (x == ("__debug__" : Str)) = false := by decide) (hcd : (x == ("__classdict__" : Str)) = false := by decide) :
    EL S ρ (.Name x pos) (pure d) := fun Y ok => (pe_var (X := S.cx Y) (i := i) hN hv hd hcd).pre fun σ H Q ⟨F, g, E, q⟩ => by
  have h := E.sl i _ hs
  cases e : σ[i]? with
  | none => rw [e] at h; exact h.elim
  | some o =>
    rw [e] at h
    cases o with
    | none => exact h.elim
    | some v =>
      rcases h with h | ⟨a, rfl, ha, o, _⟩
      · exact ⟨_, e, q _ g H rfl (.refl E.wf) (.inl h)⟩
      · exact ⟨_, e, q _ g H rfl (.refl E.wf) (.inr ⟨a, rfl, ha, o⟩)⟩
/-- a value that asks for nothing -/
theorem ee_tC {v : V} {d : D} (hp : ∀ Y : Dyn, PE (S.cx Y) e (tC v)) (r : ∀ g, S.pg.Rp g v d) : EE S ρ e (pure d) := fun Y _ => (hp Y).pre fun σ H Q ⟨F, g, E, q⟩ =>
  q v g H rfl (.refl E.wf) (r g)
theorem ee_int {i : Int} {j : Nat} {pos : Pos} : EE S ρ (.Constant (.int i) j pos) (pure (.int i)) := ee_tC (fun _ => pe_int) fun _ => .int i
theorem ee_bl {i : Bool} {j : Nat} {pos : Pos} : EE S ρ (.Constant (.bool i) j pos) (pure (.bl i)) := ee_tC (fun _ => pe_bl) fun _ => .bl i
theorem ee_non {j : Nat} {pos : Pos} : EE S ρ (.Constant .none j pos) (pure .non) := ee_tC (fun _ => pe_non) fun _ => .non
theorem ee_str {x : Str} {j : Nat} {pos : Pos} : EE S ρ (.Constant (.str x) j pos) (pure (.str x)) := ee_tC (fun _ => pe_str) fun _ => .str x
/-- a name of the module's -/
theorem ee_glob {x : Str} {u : Value} {v : V} {d : D} {pos : Pos} (hg : S.sc.names.lookup x = some .globalImplicit) (hm : S.pg.mg x = some u) (r : RelV v u) (h : ∀ g, S.pg.Rp g v d) (hd : (x == ("__debug__" : Str)) = false := by decide) :
    EE S ρ (.Name x pos) (pure d) := ee_tC (fun Y => pe_glob (X := S.cx Y) hg hm r hd) h
/-! ### one, two operands -/
theorem rdX.bind {α : Type} {Y : Dyn} {σ : L2.St} {H : Hp} {F : Fm} {g : Gs} {R1 : Rel} {f : D → M α} {ok : α → Store → Prop} {Q : VK}
    (E : ER S.pg F ρ σ g H) (q : ((ma >>= f) g.st).Post ok (Px S Y g H))
    (k : ∀ x v g' H', Stp S.pg g H g' H' → ER S.pg F ρ σ g' H' → R1 H g' H' v x → (f x g'.st).Post ok (Px S Y g H) → Q v H') : rdX S Y ρ R1 ma σ H Q :=
  ⟨F, g, E, (post_bind q).imp (fun x st' q v g' H' e s r => k x v g' H' s (E.step s) r (by rw [e]; exact q)) fun _ _ q => q⟩
theorem rdT.bind {α : Type} {Y : Dyn} {σ : L2.St} {H : Hp} {F : Fm} {g : Gs} {mt : M Bool} {f : Bool → M α} {ok : α → Store → Prop} {Q : Bool → Hp → Prop}
    (E : ER S.pg F ρ σ g H) (q : ((mt >>= f) g.st).Post ok (Px S Y g H))
    (k : ∀ x g' H', Stp S.pg g H g' H' → ER S.pg F ρ σ g' H' → (f x g'.st).Post ok (Px S Y g H) → Q x H') : rdT S Y ρ mt σ H Q :=
  ⟨F, g, E, (post_bind q).imp (fun x st' q g' H' e s => k x g' H' s (E.step s) (by rw [e]; exact q)) fun _ _ q => q⟩
theorem rdA.bind {α : Type} {Y : Dyn} {σ : L2.St} {H : Hp} {F : Fm} {g : Gs} {Rs : Gs → Hp → List V → List D → Prop} {mt : M (List D)} {f : List D → M α} {ok : α → Store → Prop} {Q : List V → Hp → Prop}
    (E : ER S.pg F ρ σ g H) (q : ((mt >>= f) g.st).Post ok (Px S Y g H))
    (k : ∀ x v g' H', Stp S.pg g H g' H' → ER S.pg F ρ σ g' H' → Rs g' H' v x → (f x g'.st).Post ok (Px S Y g H) → Q v H') : rdA S Y ρ Rs mt σ H Q :=
  ⟨F, g, E, (post_bind q).imp (fun x st' q v g' H' e s r => k x v g' H' s (E.step s) r (by rw [e]; exact q)) fun _ _ q => q⟩
/-- a one-place operation on values -/
def Op1 (p : Pg) (r : V → Hp → VK → Prop) (f : D → M D) (R : Rel) : Prop := ∀ (g : Gs) (H : Hp) (x : D) (vx : V) (Q : VK) (E : Nat → Store → Prop), Wf p g H → TopR p g H vx x → (f x g.st).Post (Pv p R g H Q) E → r vx H Q
def Op2 (p : Pg) (r : R2) (f : D → D → M D) (R : Rel) : Prop := ∀ (g : Gs) (H : Hp) (x y : D) (vx vy : V) (Q : VK) (E : Nat → Store → Prop), Wf p g H → TopR p g H vx x → TopR p g H vy y → (f x y g.st).Post (Pv p R g H Q) E → r vx vy H Q
/-- .. that gives a truth -/
def Op2B (p : Pg) (r : R2) (f : D → D → M Bool) : Prop := ∀ (g : Gs) (H : Hp) (x y : D) (vx vy : V) (Q : VK) (E : Nat → Store → Prop), Wf p g H → TopR p g H vx x → TopR p g H vy y → (f x y g.st).Post (fun b st' => st' = g.st → Q (.bl b) H) E → r vx vy H Q
theorem ex_un {r : V → Hp → VK → Prop} {f : D → M D} (hR : Back S.pg R) (ha : EL S ρ a ma) (hp : ∀ Y : Dyn, OkY S Y → ∀ ta, PE (S.cx Y) a ta → PE (S.cx Y) e (tUn r ta)) (ho : Op1 S.pg r f R) :
    EX S ρ R e (ma >>= f) := fun Y ok => (hp Y ok _ (ha Y ok)).pre fun σ H Q ⟨F, g, E, q⟩ =>
  rdX.bind E q fun x v g' H' s E' r q => ho g' H' x v Q _ E'.wf r (q.imp (fun _ _ q => q.back hR E.wf s) fun _ _ q => q)
theorem ex_bin {r : R2} {f : D → D → M D} (hR : Back S.pg R) (ha : EL S ρ a ma) (hb : EL S ρ b mb) (hp : ∀ Y : Dyn, OkY S Y → ∀ ta tb, PE (S.cx Y) a ta → PE (S.cx Y) b tb → PE (S.cx Y) e (tOp r ta tb)) (ho : Op2 S.pg r f R) :
    EX S ρ R e (ma >>= fun x => mb >>= fun y => f x y) := fun Y ok => (hp Y ok _ _ (ha Y ok) (hb Y ok)).pre fun σ H Q ⟨F, g, E, q⟩ =>
  rdX.bind E q fun x v g' H' s E' r q => rdX.bind E' (q.imp (fun _ _ q => q) fun _ _ q => q.back E.wf s) fun y u g2 H2 s2 E2 r2 q =>
    ho g2 H2 x y v u Q _ E2.wf (r.step E'.wf s2) r2 (q.imp (fun _ _ q => q.back hR E.wf (s.trans E.wf s2)) fun _ _ q => q)
theorem ex_binB {r : R2} {f : D → D → M Bool} (ha : EL S ρ a ma) (hb : EL S ρ b mb) (hp : ∀ Y : Dyn, OkY S Y → ∀ ta tb, PE (S.cx Y) a ta → PE (S.cx Y) b tb → PE (S.cx Y) e (tOp r ta tb)) (ho : Op2B S.pg r f) :
    EE S ρ e (ma >>= fun x => mb >>= fun y => f x y >>= fun b => pure (.bl b)) := fun Y ok => (hp Y ok _ _ (ha Y ok) (hb Y ok)).pre fun σ H Q ⟨F, g, E, q⟩ =>
  rdX.bind E q fun x v g' H' s E' r q => rdX.bind E' (q.imp (fun _ _ q => q) fun _ _ q => q.back E.wf s) fun y u g2 H2 s2 E2 r2 q =>
    ho g2 H2 x y v u Q _ E2.wf (r.step E'.wf s2) r2 ((post_bind q).imp (fun b st' q e => q (.bl b) g2 H2 e.symm (s.trans E.wf s2) (.bl b)) fun _ _ q => q)
theorem et_binB {r : R2} {f : D → D → M Bool} (ha : EL S ρ a ma) (hb : EL S ρ b mb) (hp : ∀ Y : Dyn, OkY S Y → ∀ ta tb, PE (S.cx Y) a ta → PE (S.cx Y) b tb → PT (S.cx Y) e (tTest (tOp r ta tb))) (ho : Op2B S.pg r f) :
    ET S ρ e (ma >>= fun x => mb >>= fun y => f x y) := fun Y ok => (hp Y ok _ _ (ha Y ok) (hb Y ok)).pre fun σ H Q ⟨F, g, E, q⟩ =>
  rdX.bind E q fun x v g' H' s E' r q => rdX.bind E' (q.imp (fun _ _ q => q) fun _ _ q => q.back E.wf s) fun y u g2 H2 s2 E2 r2 q =>
    ho g2 H2 x y v u _ _ E2.wf (r.step E'.wf s2) r2 (q.imp (fun b st' q e => ⟨b, rfl, q g2 H2 e.symm (s.trans E.wf s2)⟩) fun _ _ q => q)
end
/-! ### ints -/
section
variable {p : Pg} {g : Gs} {H : Hp} {v : V}
theorem TopR.cases {d : D} (h : TopR p g H v d) (n : ∀ a, Own p g H a d → False) : p.Rp g v d := by
  rcases h with h | ⟨a, _, _, o⟩
  · exact h
  · exact (n a o).elim
theorem TopR.int {i : Int} (h : TopR p g H v (.int i)) : v = .int i := by
  cases h.cases fun _ o => o
  rfl
theorem TopR.bl {i : Bool} (h : TopR p g H v (.bl i)) : v = .bl i := by
  cases h.cases fun _ o => o
  rfl
theorem TopR.str {i : Str} (h : TopR p g H v (.str i)) : v = .str i := by
  cases h.cases fun _ o => o
  rfl
theorem TopR.non (h : TopR p g H v .non) : v = .non := by
  cases h.cases fun _ o => o
  rfl
theorem TopR.tup {ds : List D} (w : Wf p g H) (h : TopR p g H v (.tup ds)) : ∃ a xs, v = .ref a ∧ SqT p.K H a xs ∧ p.Rps g xs ds := by
  have h := h.cases fun _ o => o
  cases h with
  | tup s r => exact ⟨_, _, rfl, sqT_mono w.sub s, r⟩
theorem TopR.rls {ds : List D} (w : Wf p g H) (h : TopR p g H v (.rls ds)) : ∃ a xs, v = .ref a ∧ SqL p.K H a xs ∧ p.Rps g xs ds := by
  have h := h.cases fun _ o => o
  cases h with
  | rls s r => exact ⟨_, _, rfl, sqL_mono w.sub s, r⟩
theorem TopR.lst {ds : List D} (w : Wf p g H) (h : TopR p g H v (.lst ds)) : ∃ a xs, v = .ref a ∧ H a = some (.lst xs) ∧ p.Rps g xs ds := by
  rcases h with h | ⟨a, rfl, _, xs, e, r⟩
  · cases h with
    | lst s r => exact ⟨_, _, rfl, w.sub _ _ s, r⟩
  · exact ⟨a, xs, rfl, e, r⟩
theorem TopR.ref {k : Nat} (h : TopR p g H v (.ref k)) : ∃ a, v = .ref a ∧ g.am[k]? = some a := by
  have h := h.cases fun _ o => o
  cases h with
  | ref e => exact ⟨_, rfl, e⟩
/-- the cell behind a reference -/
theorem Wf.at_ref {k : Nat} {a : Addr} (w : Wf p g H) (e : g.am[k]? = some a) : ∃ c, g.st[k]? = some c ∧ CellR p g H a c := by
  have hk : k < g.am.length := (List.getElem?_eq_some_iff.mp e).1
  have hk2 : k < g.st.length := by rw [← w.len]; exact hk
  exact ⟨_, List.getElem?_eq_getElem hk2, w.cell k a _ e (List.getElem?_eq_getElem hk2)⟩
end
/-- two ints, and a number -/
def i2 (h : Int → Int → Int) : D → D → M D
  | .int i, .int j => pure (.int (h i j))
  | _, _ => stuck
/-- under a condition -/
def i2c (c : Int → Int → Bool) (h : Int → Int → Int) : D → D → M D
  | .int i, .int j => if c i j then pure (.int (h i j)) else stuck
  | _, _ => stuck
def b2 (h : Int → Int → Bool) : D → D → M Bool
  | .int i, .int j => pure (h i j)
  | _, _ => stuck
section
variable {p : Pg}
theorem post_pure {α : Type} {a : α} {s : Store} {ok : α → Store → Prop} {ex : Nat → Store → Prop} (h : ((pure a : M α) s).Post ok ex) : ok a s := h
theorem post_stuck {α : Type} {s : Store} {ok : α → Store → Prop} {ex : Nat → Store → Prop} (h : ((stuck : M α) s).Post ok ex) : False := h
theorem Pv.now {R : Rel} {g : Gs} {H : Hp} {Q : VK} {d : D} (w : Wf p g H) (h : Pv p R g H Q d g.st) {v : V} (r : R H g H v d) : Q v H := h v g H rfl (.refl w) r
theorem op_i2 {h : Int → Int → Int} {r : R2} (hr : ∀ (i j : Int) (H : Hp) (Q : VK), Q (.int (h i j)) H → r (.int i) (.int j) H Q) : Op2 p r (i2 h) (RE p) := by
  intro g H x y vx vy Q E w hx hy q
  cases x with
  | int i =>
    cases y with
    | int j =>
      obtain rfl := hx.int
      obtain rfl := hy.int
      exact hr i j H Q (Pv.now w (post_pure q) (.int _))
    | _ => exact False.elim q
  | _ => exact False.elim q
theorem op_i2c {c : Int → Int → Bool} {h : Int → Int → Int} {r : R2} (hr : ∀ (i j : Int) (H : Hp) (Q : VK), c i j = true → Q (.int (h i j)) H → r (.int i) (.int j) H Q) : Op2 p r (i2c c h) (RE p) := by
  intro g H x y vx vy Q E w hx hy q
  cases x with
  | int i =>
    cases y with
    | int j =>
      obtain rfl := hx.int
      obtain rfl := hy.int
      unfold i2c at q
      by_cases z : c i j = true
      · simp only [z, if_true] at q
        exact hr i j H Q z (Pv.now w (post_pure q) (.int _))
      · simp only [z] at q
        exact False.elim q
    | _ => exact False.elim q
  | _ => exact False.elim q
theorem op_b2 {h : Int → Int → Bool} {r : R2} (hr : ∀ (i j : Int) (H : Hp) (Q : VK), Q (.bl (h i j)) H → r (.int i) (.int j) H Q) : Op2B p r (b2 h) := by
  intro g H x y vx vy Q E w hx hy q
  cases x with
  | int i =>
    cases y with
    | int j =>
      obtain rfl := hx.int
      obtain rfl := hy.int
      exact hr i j H Q ((post_pure q) rfl)
    | _ => exact False.elim q
  | _ => exact False.elim q
end
end DL
namespace DL
open PySem PySem.Spec PyProof.Rows L2
/-! ### data as the library's data -/
mutual
def toP : D → PyData
  | .non => .none
  | .bl b => .bool b
  | .int i => .int i
  | .str x => .str x
  | .tup xs => .tuple (toPs xs)
  | .lst xs => .list (toPs xs)
  | .rls xs => .list (toPs xs)
  | .dct _ => .dict []
  | .ref _ => .dict []
def toPs : List D → List PyData
  | [] => []
  | x :: r => toP x :: toPs r
end
theorem toPs_map : ∀ ds : List D, toPs ds = ds.map toP
  | [] => rfl
  | d :: r => by rw [toPs, List.map_cons, toPs_map r]
section
variable {p : Pg} {g : Gs} {H : Hp}
mutual
theorem Rp.dp (w : ∀ a o, g.G a = some o → H a = some o) : ∀ {v : V} {d : D}, p.Rp g v d → (toP d).canLay0 = true → Dp p.K H v (toP d)
  | _, _, .non, _ => by rw [toP]; exact .non
  | _, _, .bl b, _ => by rw [toP]; exact .bl b
  | _, _, .int i, _ => by rw [toP]; exact .int i
  | _, _, .str x, _ => by rw [toP]; exact .str x
  | _, _, .tup s r, h => by
    rw [toP]
    exact .tup (sqT_mono w s) (Rps.dp w r (by rw [toP, PyData.canLay0] at h; exact h))
  | _, _, .lst s r, h => by
    rw [toP]
    exact .lst (.inl (.inl (w _ _ s))) (Rps.dp w r (by rw [toP, PyData.canLay0] at h; exact h))
  | _, _, .rls s r, h => by
    rw [toP]
    exact .lst (sqL_mono w s) (Rps.dp w r (by rw [toP, PyData.canLay0] at h; exact h))
  | _, _, .dK _ _, h => by simp [toP, PyData.canLay0] at h
  | _, _, .dT _ _, h => by simp [toP, PyData.canLay0] at h
  | _, _, .ref _, h => by simp [toP, PyData.canLay0] at h
theorem Rps.dp (w : ∀ a o, g.G a = some o → H a = some o) : ∀ {v : List V} {d : List D}, p.Rps g v d → PyData.canLayAll0 (toPs d) = true → DpAll p.K H v (toPs d)
  | _, _, .nil, _ => by rw [toPs]; exact .nil
  | _, _, .cons r t, h => by
    rw [toPs, PyData.canLayAll0, Bool.and_eq_true] at h
    rw [toPs]
    exact .cons (Rp.dp w r h.1) (Rps.dp w t h.2)
end
theorem TopR.dp (w : Wf p g H) {v : V} {d : D} (h : TopR p g H v d) (s : SeqAt.shaped (toP d) = true) : Dp p.K H v (toP d) := by
  have s := SeqAt.canLay_of_shaped s
  rcases h with h | ⟨a, rfl, _, o⟩
  · exact Rp.dp w.sub h s
  · cases d with
    | lst ds =>
      obtain ⟨xs, e, r⟩ := o
      rw [toP] at s ⊢
      exact .lst (.inl (.inl e)) (Rps.dp w.sub r (by rw [PyData.canLay0] at s; exact s))
    | dct es => simp [toP, PyData.canLay0] at s
    | _ => exact o.elim
end
/-! ### comparisons of data -/
def eqB (x y : D) : M Bool := if SeqAt.shaped (toP x) && SeqAt.shaped (toP y) then pure (PyData.eqv (toP x) (toP y)) else stuck
def neB (x y : D) : M Bool := if SeqAt.shaped (toP x) && SeqAt.shaped (toP y) then pure (!PyData.eqv (toP x) (toP y)) else stuck
def isN : D → Bool
  | .non => true
  | _ => false
def isNoneB (x y : D) : M Bool := if isN y then pure (isN x) else stuck
def notNoneB (x y : D) : M Bool := if isN y then pure (!isN x) else stuck
def inSeq (neg : Bool) (x : D) (ds : List D) : M Bool :=
  if SeqAt.shaped (toP x) && SeqAt.shaped (.list (toPs ds)) then pure (let b := ds.any fun z => PyData.eqv (toP z) (toP x); if neg then !b else b) else stuck
/-- x in ds, x not in ds -/
def inB (neg : Bool) (x y : D) : M Bool := match y with
  | .tup ds => inSeq neg x ds
  | .lst ds => inSeq neg x ds
  | .rls ds => inSeq neg x ds
  | _ => stuck
theorem any_toPs (ds : List D) (d : PyData) : (toPs ds).any (fun z => PyData.eqv z d) = ds.any fun z => PyData.eqv (toP z) d := by
  rw [toPs_map, List.any_map]
  rfl
section
variable {p : Pg} {X : Cx}
theorem op_eqB : Op2B p (rEqD p.K) eqB := by
  intro g H x y vx vy Q E w hx hy q
  unfold eqB at q
  by_cases z : (SeqAt.shaped (toP x) && SeqAt.shaped (toP y)) = true
  · rw [if_pos z] at q
    rw [Bool.and_eq_true] at z
    exact ⟨_, _, hx.dp w z.1, hy.dp w z.2, z.1, z.2, (post_pure q) rfl⟩
  · rw [if_neg z] at q
    exact False.elim q
theorem op_neB : Op2B p (rNeD p.K) neB := by
  intro g H x y vx vy Q E w hx hy q
  unfold neB at q
  by_cases z : (SeqAt.shaped (toP x) && SeqAt.shaped (toP y)) = true
  · rw [if_pos z] at q
    rw [Bool.and_eq_true] at z
    exact ⟨_, _, hx.dp w z.1, hy.dp w z.2, z.1, z.2, (post_pure q) rfl⟩
  · rw [if_neg z] at q
    exact False.elim q
def rIsN : R2 := fun x y H Q => y = .non ∧ Q (.bl (decide (x = .non))) H
def rNotN : R2 := fun x y H Q => y = .non ∧ Q (.bl (!decide (x = .non))) H
theorem TopR.isNon {g : Gs} {H : Hp} {v : V} {x : D} (h : TopR p g H v x) : decide (v = .non) = isN x := by
  rcases h with h | ⟨a, rfl, _, o⟩
  · cases h <;> rfl
  · cases x with
    | lst ds => rfl
    | dct es => rfl
    | _ => exact o.elim
theorem isN_eq {x : D} (h : isN x = true) : x = .non := by
  cases x with
  | non => rfl
  | _ => cases h
theorem op_isNoneB : Op2B p rIsN isNoneB := by
  intro g H x y vx vy Q E w hx hy q
  unfold isNoneB at q
  by_cases z : isN y = true
  · rw [if_pos z] at q
    obtain rfl := isN_eq z
    have q : Q (.bl (isN x)) H := (post_pure q) rfl
    rw [← hx.isNon] at q
    exact ⟨hy.non, q⟩
  · rw [if_neg z] at q
    exact False.elim q
theorem op_notNoneB : Op2B p rNotN notNoneB := by
  intro g H x y vx vy Q E w hx hy q
  unfold notNoneB at q
  by_cases z : isN y = true
  · rw [if_pos z] at q
    obtain rfl := isN_eq z
    have q : Q (.bl (!isN x)) H := (post_pure q) rfl
    rw [← hx.isNon] at q
    exact ⟨hy.non, q⟩
  · rw [if_neg z] at q
    exact False.elim q
/-- membership in a list, in a tuple -/
def rInDT (K : PySem.W.Frag) : R2 := fun x y H Q => ∃ d ds, Dp K H x d ∧ Dp K H y (.tuple ds) ∧ SeqAt.shaped d = true ∧ SeqAt.shaped (.list ds) = true ∧ Q (.bl (ds.any fun z => PyData.eqv z d)) H
def rNotInDT (K : PySem.W.Frag) : R2 := fun x y H Q => ∃ d ds, Dp K H x d ∧ Dp K H y (.tuple ds) ∧ SeqAt.shaped d = true ∧ SeqAt.shaped (.list ds) = true ∧ Q (.bl (!ds.any fun z => PyData.eqv z d)) H
theorem op_inDT (hu : X.A.units + 65 < cLine) : OpR X (compareOp .In) (rInDT X.K) := by
  intro pins s σ H x y v u Q I rx ry h
  obtain ⟨d, ds, hd, he, sd, se, q⟩ := h
  obtain ⟨as, r1⟩ := Dp.reads I d x v hd rx
  obtain ⟨bs, r2⟩ := Dp.reads I (.tuple ds) y u he ry
  exact SeqAt.in_tuple_reads r2 r1 (SeqAt.canLay_of_shaped se) (SeqAt.canLay_of_shaped sd) (room_in_shaped sd hu) ⟨.bl _, H, I, rfl, q⟩
theorem op_notInDT (hu : X.A.units + 65 < cLine) : OpR X (compareOp .NotIn) (rNotInDT X.K) := by
  intro pins s σ H x y v u Q I rx ry h
  obtain ⟨d, ds, hd, he, sd, se, q⟩ := h
  obtain ⟨as, r1⟩ := Dp.reads I d x v hd rx
  obtain ⟨bs, r2⟩ := Dp.reads I (.tuple ds) y u he ry
  exact SeqAt.notIn_tuple_reads r2 r1 (SeqAt.canLay_of_shaped se) (SeqAt.canLay_of_shaped sd) (room_in_shaped sd hu) ⟨.bl _, H, I, rfl, q⟩
theorem tuple_shape {ds : List PyData} : (PyData.tuple ds).canLay0 = (PyData.list ds).canLay0 ∧ (PyData.tuple ds).depth = (PyData.list ds).depth := by
  constructor
  · rw [PyData.canLay0, PyData.canLay0]
  · rw [PyData.depth, PyData.depth]
theorem shaped_tup {ds : List D} : SeqAt.shaped (toP (.tup ds)) = SeqAt.shaped (.list (toPs ds)) := by
  rw [toP, SeqAt.shaped, SeqAt.shaped, tuple_shape.1, tuple_shape.2]
theorem inSeq_post {neg : Bool} {x : D} {ds : List D} {s : Store} {ok : Bool → Store → Prop} {ex : Nat → Store → Prop} (q : (inSeq neg x ds s).Post ok ex) :
    SeqAt.shaped (toP x) = true ∧ SeqAt.shaped (.list (toPs ds)) = true ∧ ok (if neg then !((toPs ds).any fun z => PyData.eqv z (toP x)) else (toPs ds).any fun z => PyData.eqv z (toP x)) s := by
  unfold inSeq at q
  by_cases z : (SeqAt.shaped (toP x) && SeqAt.shaped (.list (toPs ds))) = true
  · rw [if_pos z] at q
    rw [Bool.and_eq_true] at z
    rw [any_toPs]
    exact ⟨z.1, z.2, q⟩
  · rw [if_neg z] at q
    exact False.elim q
def rInA (K : PySem.W.Frag) : R2 := fun x y H Q => rInD K x y H Q ∨ rInDT K x y H Q
def rNotInA (K : PySem.W.Frag) : R2 := fun x y H Q => rNotInD K x y H Q ∨ rNotInDT K x y H Q
theorem op_inB : Op2B p (rInA p.K) (inB false) := by
  intro g H x y vx vy Q E w hx hy q
  cases y with
  | lst ds =>
    obtain ⟨h1, h2, h3⟩ := inSeq_post q
    exact .inl ⟨_, _, hx.dp w h1, by have := hy.dp w (by rw [toP]; exact h2); rwa [toP] at this, h1, h2, h3 rfl⟩
  | rls ds =>
    obtain ⟨h1, h2, h3⟩ := inSeq_post q
    exact .inl ⟨_, _, hx.dp w h1, by have := hy.dp w (by rw [toP]; exact h2); rwa [toP] at this, h1, h2, h3 rfl⟩
  | tup ds =>
    obtain ⟨h1, h2, h3⟩ := inSeq_post q
    exact .inr ⟨_, _, hx.dp w h1, by have := hy.dp w (by rw [shaped_tup]; exact h2); rwa [toP] at this, h1, h2, h3 rfl⟩
  | _ => exact False.elim q
theorem op_notInB : Op2B p (rNotInA p.K) (inB true) := by
  intro g H x y vx vy Q E w hx hy q
  cases y with
  | lst ds =>
    obtain ⟨h1, h2, h3⟩ := inSeq_post q
    exact .inl ⟨_, _, hx.dp w h1, by have := hy.dp w (by rw [toP]; exact h2); rwa [toP] at this, h1, h2, h3 rfl⟩
  | rls ds =>
    obtain ⟨h1, h2, h3⟩ := inSeq_post q
    exact .inl ⟨_, _, hx.dp w h1, by have := hy.dp w (by rw [toP]; exact h2); rwa [toP] at this, h1, h2, h3 rfl⟩
  | tup ds =>
    obtain ⟨h1, h2, h3⟩ := inSeq_post q
    exact .inr ⟨_, _, hx.dp w h1, by have := hy.dp w (by rw [shaped_tup]; exact h2); rwa [toP] at this, h1, h2, h3 rfl⟩
  | _ => exact False.elim q
end
/-! ### operators -/
def addD : D → D → M D
  | .int i, .int j => pure (.int (i + j))
  | .str x, .str y => if x.length + y.length ≤ sizeLine then pure (.str (x ++ y)) else stuck
  | .tup xs, .tup ys => if xs.length + ys.length ≤ sizeLine then pure (.tup (xs ++ ys)) else stuck
  | _, _ => stuck
def catD : D → D → M D
  | .lst xs, .lst ys => if xs.length + ys.length ≤ sizeLine then pure (.lst (xs ++ ys)) else stuck
  | _, _ => stuck
def repL : D → D → M D
  | .lst xs, .int k => if 0 ≤ k ∧ k < 2 ^ 62 ∧ xs.length * k.toNat ≤ sizeLine then pure (.lst (List.replicate k.toNat xs).flatten) else stuck
  | _, _ => stuck
def subD := i2 (· - ·)
def mulC (i j : Int) : Bool := decide ((-(2 ^ 64) < i ∧ i < 2 ^ 64) ∨ (-(2 ^ 64) < j ∧ j < 2 ^ 64))
def mulD := i2c mulC (· * ·)
def divC (_ j : Int) : Bool := decide (0 < j ∧ j < 1073741824)
def divD := i2c divC (· / ·)
def modC (_ j : Int) : Bool := decide (0 < j)
def modD := i2c modC (· % ·)
def powC (i j : Int) : Bool := decide (0 ≤ j ∧ j ≤ 1000000 ∧ i.natAbs < 2 ^ 64)
def powD := i2c powC fun i j => i ^ j.toNat
def shlD := i2c powC fun i j => i * 2 ^ j.toNat
def shrC (_ j : Int) : Bool := decide (0 ≤ j)
def shrD := i2c shrC fun i j => i / 2 ^ j.toNat
def andD := i2 Builtin.bitAnd
def orD := i2 Builtin.bitOr
def xorD := i2 Builtin.bitXor
def ltB := b2 fun i j => decide (i < j)
def leB := b2 fun i j => decide (i ≤ j)
def gtB := b2 fun i j => decide (j < i)
def geB := b2 fun i j => decide (j ≤ i)
def negD : D → M D
  | .int i => pure (.int (-i))
  | _ => stuck
def invD : D → M D
  | .int i => pure (.int (Builtin.bitNot i))
  | _ => stuck
section
variable {S : Sta} {ρ : Ev} {a b c : Expr} {ma mb mc : M D} {pos : Pos} {R : Rel}
def rAddA (K : PySem.W.Frag) : R2 := fun x y H Q => (rI0 (fun i j => .int (i + j)) x y H Q ∨ (∃ i j, x = .str i ∧ y = .str j ∧ i.length + j.length ≤ sizeLine ∧ Q (.str (i ++ j)) H)) ∨ rCatA K x y H Q
theorem op_addD {p : Pg} : Op2 p (rAddA p.K) addD (RE p) := by
  intro g H x y vx vy Q E w hx hy q
  cases x with
  | int i =>
    cases y with
    | int j =>
      obtain rfl := hx.int
      obtain rfl := hy.int
      exact .inl (.inl ⟨i, j, rfl, rfl, Pv.now w (post_pure q) (.int _)⟩)
    | _ => exact False.elim q
  | str i =>
    cases y with
    | str j =>
      obtain rfl := hx.str
      obtain rfl := hy.str
      unfold addD at q
      by_cases z : i.length + j.length ≤ sizeLine
      · simp only [if_pos z] at q
        exact .inl (.inr ⟨i, j, rfl, rfl, z, Pv.now w (post_pure q) (.str _)⟩)
      · simp only [if_neg z] at q
        exact False.elim q
    | _ => exact False.elim q
  | tup xs =>
    cases y with
    | tup ys =>
      unfold addD at q
      by_cases z : xs.length + ys.length ≤ sizeLine
      · simp only [if_pos z] at q
        have q := post_pure q
        obtain ⟨a, us, rfl, sa, ra⟩ := hx.tup w
        obtain ⟨b, vs, rfl, sb, rb⟩ := hy.tup w
        have hx := hx.cases fun _ o => o
        have hy := hy.cases fun _ o => o
        refine .inr ⟨a, b, us, vs, rfl, rfl, sa, sb, by rw [ra.length, rb.length]; exact z, fun e => ?_, fun _ e => ?_, fun _ _ l hl => ?_⟩
        · subst e
          cases ra
          exact Pv.now w q hy
        · subst e
          cases rb
          refine Pv.now w q ?_
          show p.Rp g _ (.tup (xs ++ []))
          rw [List.append_nil]
          exact hx
        · have s := Stp.new (o := .tup (us ++ vs)) w hl
          exact q _ { g with G := upd g.G l (.tup (us ++ vs)) } _ rfl s (.tup (.inl (.inl upd_same)) ((ra.append rb).mono s.gle s.aml))
      · simp only [if_neg z] at q
        exact False.elim q
    | _ => exact False.elim q
  | _ => exact False.elim q
theorem op_catD {p : Pg} : Op2 p rCat catD (RN p) := by
  intro g H x y vx vy Q E w hx hy q
  cases x with
  | lst xs =>
    cases y with
    | lst ys =>
      unfold catD at q
      by_cases z : xs.length + ys.length ≤ sizeLine
      · simp only [if_pos z] at q
        have q := post_pure q
        obtain ⟨a, us, rfl, sa, ra⟩ := hx.lst w
        obtain ⟨b, vs, rfl, sb, rb⟩ := hy.lst w
        refine ⟨a, b, us, vs, rfl, rfl, sa, sb, by rw [ra.length, rb.length]; exact z, fun l hl => ?_⟩
        have s := Stp.laid (o := .lst (us ++ vs)) w hl
        exact q _ _ _ rfl s ⟨l, rfl, ⟨_, upd_same, ra.append rb⟩, w.freeG hl, w.freeA hl, hl⟩
      · simp only [if_neg z] at q
        exact False.elim q
    | _ => exact False.elim q
  | _ => exact False.elim q
theorem mulC_ok {i j : Int} (h : mulC i j = true) : CMul i j := of_decide_eq_true (p := (-(2 ^ 64) < i ∧ i < 2 ^ 64) ∨ (-(2 ^ 64) < j ∧ j < 2 ^ 64)) h
theorem divC_ok {i j : Int} (h : divC i j = true) : CDiv i j := of_decide_eq_true (p := 0 < j ∧ j < 1073741824) h
theorem powC_ok {i j : Int} (h : powC i j = true) : CPow i j := of_decide_eq_true (p := 0 ≤ j ∧ j ≤ 1000000 ∧ i.natAbs < 2 ^ 64) h
/-! the rules -/
theorem ee_add (ha : EL S ρ a ma) (hb : EL S ρ b mb) : EE S ρ (.BinOp a .Add b pos) (ma >>= fun x => mb >>= fun y => addD x y) :=
  ex_bin back_RE ha hb (fun Y ok ta tb h1 h2 => pe_op (OpR.or (OpR.or op_add op_add_str) op_catA) h1 h2) op_addD
theorem en_cat (ha : EL S ρ a ma) (hb : EL S ρ b mb) : EN S ρ (.BinOp a .Add b pos) (ma >>= fun x => mb >>= fun y => catD x y) :=
  ex_bin back_RN ha hb (fun Y ok ta tb h1 h2 => pe_op op_cat h1 h2) op_catD
theorem op_repL {p : Pg} : Op2 p rRep repL (RN p) := by
  intro g H x y vx vy Q E w hx hy q
  cases x with
  | lst xs =>
    cases y with
    | int k =>
      unfold repL at q
      by_cases z : 0 ≤ k ∧ k < 2 ^ 62 ∧ xs.length * k.toNat ≤ sizeLine
      · simp only [if_pos z] at q
        have q := post_pure q
        obtain ⟨a, us, rfl, sa, ra⟩ := hx.lst w
        obtain rfl := hy.int
        refine ⟨a, k, us, rfl, rfl, sa, by omega, by omega, by rw [ra.length]; exact z.2.2, fun l hl => ?_⟩
        have s := Stp.laid (o := .lst (List.replicate k.toNat us).flatten) w hl
        have rr : ∀ n : Nat, p.Rps g (List.replicate n us).flatten (List.replicate n xs).flatten := by
          intro n
          induction n with
          | zero => exact .nil
          | succ n ih => rw [List.replicate_succ, List.replicate_succ, List.flatten_cons, List.flatten_cons]; exact ra.append ih
        exact q _ _ _ rfl s ⟨l, rfl, ⟨_, upd_same, rr _⟩, w.freeG hl, w.freeA hl, hl⟩
      · simp only [if_neg z] at q
        exact False.elim q
    | _ => exact False.elim q
  | _ => exact False.elim q
theorem en_rep (ha : EL S ρ a ma) (hb : EL S ρ b mb) : EN S ρ (.BinOp a .Mult b pos) (ma >>= fun x => mb >>= fun y => repL x y) :=
  ex_bin back_RN ha hb (fun Y ok ta tb h1 h2 => pe_op op_rep h1 h2) op_repL
theorem ee_sub (ha : EL S ρ a ma) (hb : EL S ρ b mb) : EE S ρ (.BinOp a .Sub b pos) (ma >>= fun x => mb >>= fun y => subD x y) :=
  ex_bin back_RE ha hb (fun Y ok ta tb h1 h2 => pe_op op_sub h1 h2) (op_i2 fun i j H Q q => ⟨i, j, rfl, rfl, q⟩)
theorem ee_mul (ha : EL S ρ a ma) (hb : EL S ρ b mb) : EE S ρ (.BinOp a .Mult b pos) (ma >>= fun x => mb >>= fun y => mulD x y) :=
  ex_bin back_RE ha hb (fun Y ok ta tb h1 h2 => pe_op op_mul h1 h2) (op_i2c fun i j H Q c q => ⟨i, j, rfl, rfl, mulC_ok c, q⟩)
theorem ee_div (ha : EL S ρ a ma) (hb : EL S ρ b mb) : EE S ρ (.BinOp a .FloorDiv b pos) (ma >>= fun x => mb >>= fun y => divD x y) :=
  ex_bin back_RE ha hb (fun Y ok ta tb h1 h2 => pe_op op_fdiv h1 h2) (op_i2c fun i j H Q c q => ⟨i, j, rfl, rfl, divC_ok c, q⟩)
theorem ee_mod (ha : EL S ρ a ma) (hb : EL S ρ b mb) : EE S ρ (.BinOp a .Mod b pos) (ma >>= fun x => mb >>= fun y => modD x y) :=
  ex_bin back_RE ha hb (fun Y ok ta tb h1 h2 => pe_op op_mod h1 h2) (op_i2c fun i j H Q c q => ⟨i, j, rfl, rfl, of_decide_eq_true c, q⟩)
theorem ee_pow (ha : EL S ρ a ma) (hb : EL S ρ b mb) : EE S ρ (.BinOp a .Pow b pos) (ma >>= fun x => mb >>= fun y => powD x y) :=
  ex_bin back_RE ha hb (fun Y ok ta tb h1 h2 => pe_op op_pow h1 h2) (op_i2c fun i j H Q c q => ⟨i, j, rfl, rfl, powC_ok c, q⟩)
theorem ee_shl (ha : EL S ρ a ma) (hb : EL S ρ b mb) : EE S ρ (.BinOp a .LShift b pos) (ma >>= fun x => mb >>= fun y => shlD x y) :=
  ex_bin back_RE ha hb (fun Y ok ta tb h1 h2 => pe_op op_shl h1 h2) (op_i2c fun i j H Q c q => ⟨i, j, rfl, rfl, powC_ok c, q⟩)
theorem ee_shr (ha : EL S ρ a ma) (hb : EL S ρ b mb) : EE S ρ (.BinOp a .RShift b pos) (ma >>= fun x => mb >>= fun y => shrD x y) :=
  ex_bin back_RE ha hb (fun Y ok ta tb h1 h2 => pe_op op_shr h1 h2) (op_i2c fun i j H Q c q => ⟨i, j, rfl, rfl, of_decide_eq_true c, q⟩)
theorem ee_and (ha : EL S ρ a ma) (hb : EL S ρ b mb) : EE S ρ (.BinOp a .BitAnd b pos) (ma >>= fun x => mb >>= fun y => andD x y) :=
  ex_bin back_RE ha hb (fun Y ok ta tb h1 h2 => pe_op op_and h1 h2) (op_i2 fun i j H Q q => ⟨i, j, rfl, rfl, q⟩)
theorem ee_or (ha : EL S ρ a ma) (hb : EL S ρ b mb) : EE S ρ (.BinOp a .BitOr b pos) (ma >>= fun x => mb >>= fun y => orD x y) :=
  ex_bin back_RE ha hb (fun Y ok ta tb h1 h2 => pe_op op_or h1 h2) (op_i2 fun i j H Q q => ⟨i, j, rfl, rfl, q⟩)
theorem ee_xor (ha : EL S ρ a ma) (hb : EL S ρ b mb) : EE S ρ (.BinOp a .BitXor b pos) (ma >>= fun x => mb >>= fun y => xorD x y) :=
  ex_bin back_RE ha hb (fun Y ok ta tb h1 h2 => pe_op op_xor h1 h2) (op_i2 fun i j H Q q => ⟨i, j, rfl, rfl, q⟩)
theorem op_negD {p : Pg} : Op1 p (rU fun i => .int (-i)) negD (RE p) := by
  intro g H x vx Q E w hx q
  cases x with
  | int i =>
    obtain rfl := hx.int
    exact ⟨i, rfl, Pv.now w (post_pure q) (.int _)⟩
  | _ => exact False.elim q
theorem op_invD {p : Pg} : Op1 p (rU fun i => .int (Builtin.bitNot i)) invD (RE p) := by
  intro g H x vx Q E w hx q
  cases x with
  | int i =>
    obtain rfl := hx.int
    exact ⟨i, rfl, Pv.now w (post_pure q) (.int _)⟩
  | _ => exact False.elim q
theorem ee_neg (ha : EL S ρ a ma) : EE S ρ (.UnaryOp .USub a pos) (ma >>= negD) := ex_un back_RE ha (fun Y ok ta h => pe_un un_neg h) op_negD
theorem ee_inv (ha : EL S ρ a ma) : EE S ρ (.UnaryOp .Invert a pos) (ma >>= invD) := ex_un back_RE ha (fun Y ok ta h => pe_un un_inv h) op_invD
/-! comparisons: by the operator -/
/-- an operator that gives a truth, in every run of a def -/
structure Cmp (S : Sta) (op : CmpOp) (r : R2) (f : D → D → M Bool) : Prop where
  op : ∀ Y : Dyn, OkY S Y → OpR (S.cx Y) (compareOp op) r
  ok : Op2B S.pg r f
theorem c_lt : Cmp S .Lt (rI0 fun i j => .bl (decide (i < j))) ltB := ⟨fun _ _ => op_lt, op_b2 fun i j H Q q => ⟨i, j, rfl, rfl, q⟩⟩
theorem c_le : Cmp S .LtE (rI0 fun i j => .bl (decide (i ≤ j))) leB := ⟨fun _ _ => op_le, op_b2 fun i j H Q q => ⟨i, j, rfl, rfl, q⟩⟩
theorem c_gt : Cmp S .Gt (rI0 fun i j => .bl (decide (j < i))) gtB := ⟨fun _ _ => op_gt, op_b2 fun i j H Q q => ⟨i, j, rfl, rfl, q⟩⟩
theorem c_ge : Cmp S .GtE (rI0 fun i j => .bl (decide (j ≤ i))) geB := ⟨fun _ _ => op_ge, op_b2 fun i j H Q q => ⟨i, j, rfl, rfl, q⟩⟩
theorem c_eq : Cmp S .Eq (rEqD S.pg.K) eqB := ⟨fun Y ok => op_eqD (X := S.cx Y) ok.room.units, op_eqB⟩
theorem c_ne : Cmp S .NotEq (rNeD S.pg.K) neB := ⟨fun Y ok => op_neD (X := S.cx Y) ok.room.units, op_neB⟩
theorem c_is : Cmp S .Is rIsN isNoneB := ⟨fun _ _ => op_isN, op_isNoneB⟩
theorem c_nis : Cmp S .IsNot rNotN notNoneB := ⟨fun _ _ => op_notN, op_notNoneB⟩
theorem in_room {k : Nat} {A : Around} (r : Room k A) : A.units + 65 < cLine := by
  have := r.un
  omega
theorem c_in : Cmp S .In (rInA S.pg.K) (inB false) := ⟨fun Y ok => OpR.or (op_inD (X := S.cx Y) (in_room ok.room)) (op_inDT (X := S.cx Y) (in_room ok.room)), op_inB⟩
theorem c_nin : Cmp S .NotIn (rNotInA S.pg.K) (inB true) := ⟨fun Y ok => OpR.or (op_notInD (X := S.cx Y) (in_room ok.room)) (op_notInDT (X := S.cx Y) (in_room ok.room)), op_notInB⟩
theorem ee_cmp {op : CmpOp} {r : R2} {f : D → D → M Bool} (h : Cmp S op r f) (ha : EL S ρ a ma) (hb : EL S ρ b mb) (hm : behindInMarks op b = false) :
    EE S ρ (.Compare a [op] [b] pos) (ma >>= fun x => mb >>= fun y => f x y >>= fun b => pure (.bl b)) :=
  ex_binB ha hb (fun Y ok ta tb h1 h2 => pe_cmpR (h.op Y ok) h1 h2 hm) h.ok
theorem et_cmp {op : CmpOp} {r : R2} {f : D → D → M Bool} (h : Cmp S op r f) (ha : EL S ρ a ma) (hb : EL S ρ b mb) (hm : behindInMarks op b = false) :
    ET S ρ (.Compare a [op] [b] pos) (ma >>= fun x => mb >>= fun y => f x y) :=
  et_binB ha hb (fun Y ok ta tb h1 h2 => pt_cmpR (h.op Y ok) h1 h2 hm) h.ok
/-- a op1 b op2 c -/
def chainM (ma mb : M D) (f1 : D → D → M Bool) (mc : M D) (f2 : D → D → M Bool) : M Bool := ma >>= fun x => mb >>= fun y => f1 x y >>= fun k => if k = true then mc >>= fun z => f2 y z else pure false
theorem chain_core {op1 op2 : CmpOp} {r1 r2 : R2} {f1 f2 : D → D → M Bool} (h1 : Cmp S op1 r1 f1) (h2 : Cmp S op2 r2 f2) {Y : Dyn} {σ : L2.St} {H : Hp} {F : Fm} {g : Gs} {Q : VK}
    (E : ER S.pg F ρ σ g H) (q : (chainM ma mb f1 mc f2 g.st).Post (fun b st' => ∀ g' H', g'.st = st' → Stp S.pg g H g' H' → Q (.bl b) H') (Px S Y g H)) :
    tChain r1 r2 (rdX S Y ρ (RL S.pg) ma) (rdX S Y ρ (RL S.pg) mb) (rdX S Y ρ (RL S.pg) mc) σ H Q :=
  rdX.bind E q fun x v g' H' s E' r q => rdX.bind E' (q.imp (fun _ _ q => q) fun _ _ q => q.back E.wf s) fun y u g2 H2 s2 E2 r2 q =>
    h1.ok g2 H2 x y v u _ _ E2.wf (r.step E'.wf s2) r2 ((post_bind q).imp (fun b st' q e => ⟨b, rfl, by
      subst e
      have s3 := s.trans E.wf s2
      by_cases z : b = true
      · rw [if_pos z]
        rw [if_pos z] at q
        exact rdX.bind E2 (q.imp (fun _ _ q => q) fun _ _ q => Px.back E'.wf s2 q) fun w t g4 H4 s4 E4 r4 q =>
          h2.ok g4 H4 y w u t Q _ E4.wf (r2.step E2.wf s4) r4 (q.imp (fun b st' q e => q g4 H4 e.symm (s3.trans E.wf s4)) fun _ _ q => q)
      · rw [if_neg z]
        rw [if_neg z] at q
        have zb : b = false := by cases b with | true => exact absurd rfl z | false => rfl
        exact (post_pure q) g2 H2 rfl s3⟩) fun _ _ q => q)
theorem ee_chain {op1 op2 : CmpOp} {r1 r2 : R2} {f1 f2 : D → D → M Bool} (h1 : Cmp S op1 r1 f1) (h2 : Cmp S op2 r2 f2) (ha : EL S ρ a ma) (hb : EL S ρ b mb) (hc : EL S ρ c mc) (hm : lastMarks [op1, op2] [b, c] = false := by with_unfolding_all rfl) :
    EE S ρ (.Compare a [op1, op2] [b, c] pos) (chainM ma mb f1 mc f2 >>= fun b => pure (.bl b)) := fun Y ok => (pe_chain (h1.op Y ok) (h2.op Y ok) (ha Y ok) (hb Y ok) (hc Y ok) hm).pre fun σ H Q ⟨F, g, E, q⟩ =>
  chain_core h1 h2 E ((post_bind q).imp (fun b st' q g' H' e s => (post_pure q) (.bl b) g' H' e s (.bl b)) fun _ _ q => q)
theorem et_chain {op1 op2 : CmpOp} {r1 r2 : R2} {f1 f2 : D → D → M Bool} (h1 : Cmp S op1 r1 f1) (h2 : Cmp S op2 r2 f2) (ha : EL S ρ a ma) (hb : EL S ρ b mb) (hc : EL S ρ c mc) (hm : lastMarks [op1, op2] [b, c] = false := by with_unfolding_all rfl) :
    ET S ρ (.Compare a [op1, op2] [b, c] pos) (chainM ma mb f1 mc f2) := fun Y ok => (pt_chain (h1.op Y ok) (h2.op Y ok) (ha Y ok) (hb Y ok) (hc Y ok) hm).pre fun σ H Q ⟨F, g, E, q⟩ =>
  chain_core h1 h2 E (q.imp (fun b st' q g' H' e s => ⟨b, rfl, q g' H' e s⟩) fun _ _ q => q)
/-! ### truth, not, and, or, if -/
def truth : D → M Bool
  | .non => pure false
  | .bl b => pure b
  | .int i => pure (i != 0)
  | .str y => if y.length ≤ sizeLine then pure ((y.length : Int) != 0) else stuck
  | .tup xs => pure (!xs.isEmpty)
  | .lst xs => pure (!xs.isEmpty)
  | .rls xs => pure (!xs.isEmpty)
  | .dct _ => stuck
  | .ref k => getC k >>= fun c => match c with
    | .lst xs => pure (!xs.isEmpty)
    | _ => stuck
theorem Rps.isEmpty {p : Pg} {g : Gs} {xs : List V} {ds : List D} (r : p.Rps g xs ds) : (!ds.isEmpty) = !xs.isEmpty := by
  cases r <;> rfl
theorem truth_ok {p : Pg} {g : Gs} {H : Hp} {v : V} {x : D} {ok : Bool → Store → Prop} {ex : Nat → Store → Prop} (w : Wf p g H) (hx : TopR p g H v x) (q : (truth x g.st).Post ok ex) : ∃ k, TruV p.K v H k ∧ ok k g.st := by
  cases x with
  | non => obtain rfl := hx.non; exact ⟨_, rfl, post_pure q⟩
  | bl b => obtain rfl := hx.bl; exact ⟨_, rfl, post_pure q⟩
  | int i => obtain rfl := hx.int; exact ⟨_, rfl, post_pure q⟩
  | str y =>
    obtain rfl := hx.str
    unfold truth at q
    by_cases z : y.length ≤ sizeLine
    · simp only [if_pos z] at q
      exact ⟨_, ⟨z, rfl⟩, post_pure q⟩
    · simp only [if_neg z] at q
      exact False.elim q
  | tup xs =>
    obtain ⟨a, us, rfl, s, r⟩ := hx.tup w
    exact ⟨_, .inr (.inl ⟨us, s, r.isEmpty⟩), post_pure q⟩
  | lst xs =>
    obtain ⟨a, us, rfl, s, r⟩ := hx.lst w
    exact ⟨_, .inl ⟨us, SqL.of s, r.isEmpty⟩, post_pure q⟩
  | rls xs =>
    obtain ⟨a, us, rfl, s, r⟩ := hx.rls w
    exact ⟨_, .inl ⟨us, s, r.isEmpty⟩, post_pure q⟩
  | dct es => exact False.elim q
  | ref k =>
    obtain ⟨a, rfl, e⟩ := hx.ref
    obtain ⟨c, e2, r⟩ := w.at_ref e
    have q : ((getC k >>= fun c => match c with
      | .lst xs => pure (!xs.isEmpty)
      | _ => stuck) g.st).Post ok ex := q
    rw [bind_run] at q
    unfold getC at q
    rw [e2] at q
    cases c with
    | lst xs =>
      obtain ⟨us, s, r⟩ := r
      exact ⟨_, .inl ⟨us, SqL.of s, r.isEmpty⟩, post_pure q⟩
    | _ => exact False.elim q
theorem et_truth (ha : EL S ρ a ma) (he : ∀ (env : Env) (whole : Sem Value), isTrue a env whole = (do let v ← whole; standAt a.pos; holding [v] (truthy v))) : ET S ρ a (ma >>= truth) := fun Y ok =>
  (pt_truth (ha Y ok) (he _)).pre fun σ H Q ⟨F, g, E, q⟩ => rdX.bind E q fun x v g' H' s E' r q => by
    obtain ⟨k, t, q⟩ := truth_ok E'.wf r q
    exact ⟨k, t, q g' H' rfl s⟩
theorem ee_not (ha : EL S ρ a ma) : EE S ρ (.UnaryOp .Not a pos) (ma >>= truth >>= fun b => pure (.bl (!b))) := fun Y ok =>
  (pe_notT (ha Y ok)).pre fun σ H Q ⟨F, g, E, q⟩ => by
    rw [bind_assoc'] at q
    exact rdX.bind E q fun x v g' H' s E' r q => by
      obtain ⟨k, t, q⟩ := truth_ok E'.wf r (post_bind q)
      exact ⟨k, t, (post_pure q) (.bl (!k)) g' H' rfl s (.bl _)⟩
theorem et_not {m : M Bool} (ha : ET S ρ a m) : ET S ρ (.UnaryOp .Not a pos) (m >>= fun b => pure (!b)) := fun Y ok =>
  (pt_not (ha Y ok)).pre fun σ H Q ⟨F, g, E, q⟩ => rdT.bind E q fun b g' H' s E' q => (post_pure q) g' H' rfl s
variable {rest : List Expr} {t u : M Bool}
theorem ew_and1 (ha : ET S ρ a t) : EW S ρ (.BoolOp .And [a] pos) t := fun Y ok => pw_and1 (ha Y ok)
theorem ew_or1 (ha : ET S ρ a t) : EW S ρ (.BoolOp .Or [a] pos) t := fun Y ok => pw_or1 (ha Y ok)
theorem ew_and (ha : ET S ρ a t) (hb : EW S ρ (.BoolOp .And (b :: rest) pos) u) : EW S ρ (.BoolOp .And (a :: b :: rest) pos) (t >>= fun k => if k = true then u else pure false) := fun Y ok =>
  (pw_and (ha Y ok) (hb Y ok)).pre fun σ H Q ⟨F, g, E, q⟩ => rdT.bind E q fun b g' H' s E' q => by
    by_cases z : b = true
    · rw [if_pos z]
      rw [if_pos z] at q
      exact ⟨F, g', E', q.imp (fun b st' q g2 H2 e s2 => q g2 H2 e (s.trans E.wf s2)) fun _ _ q => q.back E.wf s⟩
    · rw [if_neg z]
      rw [if_neg z] at q
      exact (post_pure q) g' H' rfl s
theorem ew_or (ha : ET S ρ a t) (hb : EW S ρ (.BoolOp .Or (b :: rest) pos) u) : EW S ρ (.BoolOp .Or (a :: b :: rest) pos) (t >>= fun k => if k = true then pure true else u) := fun Y ok =>
  (pw_or (ha Y ok) (hb Y ok)).pre fun σ H Q ⟨F, g, E, q⟩ => rdT.bind E q fun b g' H' s E' q => by
    by_cases z : b = true
    · rw [if_pos z]
      rw [if_pos z] at q
      exact (post_pure q) g' H' rfl s
    · rw [if_neg z]
      rw [if_neg z] at q
      exact ⟨F, g', E', q.imp (fun b st' q g2 H2 e s2 => q g2 H2 e (s.trans E.wf s2)) fun _ _ q => q.back E.wf s⟩
theorem et_w (h : EW S ρ a t) : ET S ρ a t := fun Y ok => (h Y ok).pt
/-- and, or as values -/
theorem ee_one {op : BoolOp} (h : EX S ρ R a ma) : EX S ρ R (.BoolOp op [a] pos) ma := fun Y ok => pe_one (h Y ok)
theorem ee_and2 (ha : EE S ρ a ma) (hb : EE S ρ (.BoolOp .And (b :: rest) pos) mb) : EE S ρ (.BoolOp .And (a :: b :: rest) pos) (ma >>= fun x => truth x >>= fun k => if k = true then mb else pure x) := fun Y ok =>
  (pe_andT (ha Y ok) (hb Y ok)).pre fun σ H Q ⟨F, g, E, q⟩ => rdX.bind E q fun x v g' H' s E' r q => by
    obtain ⟨k, t, q⟩ := truth_ok E'.wf (.inl r) (post_bind q)
    refine ⟨k, t, ?_⟩
    by_cases z : k = true
    · rw [if_pos z]
      rw [if_pos z] at q
      exact ⟨F, g', E', q.imp (fun _ _ q => q.back back_RE E.wf s) fun _ _ q => q.back E.wf s⟩
    · rw [if_neg z]
      rw [if_neg z] at q
      exact (post_pure q) v g' H' rfl s r
theorem ee_or2 (ha : EE S ρ a ma) (hb : EE S ρ (.BoolOp .Or (b :: rest) pos) mb) : EE S ρ (.BoolOp .Or (a :: b :: rest) pos) (ma >>= fun x => truth x >>= fun k => if k = true then pure x else mb) := fun Y ok =>
  (pe_orT (ha Y ok) (hb Y ok)).pre fun σ H Q ⟨F, g, E, q⟩ => rdX.bind E q fun x v g' H' s E' r q => by
    obtain ⟨k, t, q⟩ := truth_ok E'.wf (.inl r) (post_bind q)
    refine ⟨k, t, ?_⟩
    by_cases z : k = true
    · rw [if_pos z]
      rw [if_pos z] at q
      exact (post_pure q) v g' H' rfl s r
    · rw [if_neg z]
      rw [if_neg z] at q
      exact ⟨F, g', E', q.imp (fun _ _ q => q.back back_RE E.wf s) fun _ _ q => q.back E.wf s⟩
theorem ex_if (hR : Back S.pg R) (hc : ET S ρ c t) (ha : EX S ρ R a ma) (hb : EX S ρ R b mb) : EX S ρ R (.IfExp c a b pos) (t >>= fun k => if k = true then ma else mb) := fun Y ok =>
  (pe_ifExp (hc Y ok) (ha Y ok) (hb Y ok)).pre fun σ H Q ⟨F, g, E, q⟩ => rdT.bind E q fun k g' H' s E' q => by
    by_cases z : k = true
    · rw [if_pos z]
      rw [if_pos z] at q
      exact ⟨F, g', E', q.imp (fun _ _ q => q.back hR E.wf s) fun _ _ q => q.back E.wf s⟩
    · rw [if_neg z]
      rw [if_neg z] at q
      exact ⟨F, g', E', q.imp (fun _ _ q => q.back hR E.wf s) fun _ _ q => q.back E.wf s⟩
/-! ### argument lists, displays -/
def items : D → M (List D)
  | .tup ds => pure ds
  | .lst ds => pure ds
  | .rls ds => pure ds
  | _ => stuck
variable {es : List Expr} {e : Expr} {m : M D} {ms : M (List D)} {spos : Pos}
theorem ea_nil : EA S ρ [] (pure []) := fun Y ok => pa_nil.pre fun σ H Q ⟨F, g, E, q⟩ => (post_pure q) [] g H rfl (.refl E.wf) .nil
theorem ea_cons (he : EE S ρ e m) (hr : EA S ρ es ms) (hs : ∀ env : Env, starEach (e :: es) env = (false, eval e env) :: starEach es env := by intro _; rfl) : EA S ρ (e :: es) (m >>= fun d => ms >>= fun ds => pure (d :: ds)) := fun Y ok =>
  (pa_cons (he Y ok) (hr Y ok) (hs _)).pre fun σ H Q ⟨F, g, E, q⟩ => rdX.bind E q fun x v g' H' s E' r q => rdA.bind E' (q.imp (fun _ _ q => q) fun _ _ q => q.back E.wf s) fun xs vs g2 H2 s2 E2 r2 q =>
    (post_pure q) (v :: vs) g2 H2 rfl (s.trans E.wf s2) (.cons (r.mono s2.gle s2.aml) r2)
theorem items_ok {p : Pg} {g : Gs} {H : Hp} {v : V} {x : D} {ok : List D → Store → Prop} {ex : Nat → Store → Prop} (w : Wf p g H) (hx : TopR p g H v x) (q : (items x g.st).Post ok ex) :
    ∃ a xs ds, v = .ref a ∧ (SqT p.K H a xs ∨ SqL p.K H a xs) ∧ p.Rps g xs ds ∧ ok ds g.st := by
  cases x with
  | tup ds => obtain ⟨a, us, rfl, s, r⟩ := hx.tup w; exact ⟨a, us, ds, rfl, .inl s, r, post_pure q⟩
  | lst ds => obtain ⟨a, us, rfl, s, r⟩ := hx.lst w; exact ⟨a, us, ds, rfl, .inr (SqL.of s), r, post_pure q⟩
  | rls ds => obtain ⟨a, us, rfl, s, r⟩ := hx.rls w; exact ⟨a, us, ds, rfl, .inr s, r, post_pure q⟩
  | _ => exact False.elim q
theorem ea_star (he : EL S ρ e m) (hr : EA S ρ es ms) : EA S ρ (.Starred e spos :: es) (m >>= fun d => items d >>= fun xs => ms >>= fun ds => pure (xs ++ ds)) := fun Y ok =>
  (StX.pa_star (X := S.cx Y) (he Y ok) (hr Y ok)).pre fun σ H Q ⟨F, g, E, q⟩ => rdX.bind E q fun x v g' H' s E' r q => by
    obtain ⟨a, us, ds, rfl, hq, rr, q⟩ := items_ok E'.wf r (post_bind q)
    exact ⟨a, us, rfl, hq, rdA.bind E' (q.imp (fun _ _ q => q) fun _ _ q => q.back E.wf s) fun xs vs g2 H2 s2 E2 r2 q =>
      (post_pure q) (us ++ vs) g2 H2 rfl (s.trans E.wf s2) ((rr.mono s2.gle s2.aml).append r2)⟩
def mkT (ds : List D) : M D := if ds.length ≤ sizeLine then pure (.tup ds) else stuck
def mkL (ds : List D) : M D := if ds.length ≤ sizeLine then pure (.lst ds) else stuck
theorem ee_tup {k : Nat} (h : EA S ρ es ms) : EE S ρ (.Tuple es k pos) (ms >>= mkT) := fun Y ok =>
  (pe_tup (h Y ok)).pre fun σ H Q ⟨F, g, E, q⟩ => rdA.bind E q fun ds vs g' H' s E' r q => by
    unfold mkT at q
    by_cases z : ds.length ≤ sizeLine
    · rw [if_pos z] at q
      refine ⟨by rw [r.length]; exact z, fun l hl => ?_⟩
      have s2 := Stp.new (o := .tup vs) E'.wf hl
      exact (post_pure q) _ { g' with G := upd g'.G l (.tup vs) } _ rfl (s.trans E.wf s2) (.tup (.inl (.inl upd_same)) (r.mono s2.gle s2.aml))
    · rw [if_neg z] at q
      exact False.elim q
theorem en_lst (h : EA S ρ es ms) : EN S ρ (.List es pos) (ms >>= mkL) := fun Y ok =>
  (pe_lst (h Y ok)).pre fun σ H Q ⟨F, g, E, q⟩ => rdA.bind E q fun ds vs g' H' s E' r q => by
    unfold mkL at q
    by_cases z : ds.length ≤ sizeLine
    · rw [if_pos z] at q
      refine ⟨by rw [r.length]; exact z, fun l hl => ?_⟩
      have s2 := Stp.laid (o := .lst vs) E'.wf hl
      exact (post_pure q) _ g' _ rfl (s.trans E.wf s2) ⟨l, rfl, ⟨_, upd_same, r⟩, E'.wf.freeG hl, E'.wf.freeA hl, s.none_of E.wf hl⟩
    · rw [if_neg z] at q
      exact False.elim q
end
end DL
namespace DL
open PySem PySem.Spec PyProof.Rows L2
/-! sorted of a tuple of ints -/
section
variable {prog : Program} {w : World} {A : Around} {E : Value → Shared → Prop} {s : Shared}
theorem gather_tup {l : Addr} {vs : List Value} {Q : List Value → Shared → Prop} (isT : s.heap.IsTuple l vs.toArray) (few : vs.length ≤ sizeLine)
    (done : Q vs { s with heap := (s.heap.push (seqObj "list" #[] 0)).update s.heap.objs.size (Obj.mapSeq (· ++ vs.toArray)) }) : wpAny (model prog w) A (collect (.ref l)) Q E s := by
  obtain ⟨ob, hob, hcl, n, hdt⟩ := id isT
  have h1 : (s.heap.push (seqObj "list" #[] 0)).get? l = some ob := Heap.get?_push_of_some _ hob
  have h2 : (s.heap.push (seqObj "list" #[] 0)).get? s.heap.objs.size = some (seqObj "list" #[] 0) := Heap.get?_push_size _ rfl
  have h3 : (#[] ++ vs.toArray).size ≤ sizeLine + 1 := by
    simp only [Array.size_append, List.size_toArray, List.length_nil]
    omega
  unfold collect
  refine wpAny_bind (wpAny_runValue (codeAny_builtin entry_proto_collect' ?_))
  change wpAny _ _ (do again (.builtin "list.__iadd__" ⟨[← newList [], .ref l], []⟩)) _ _ s
  refine wpAny_bind (wpAny_newList (wpAny_pure ⟨Code.quiet_builtin _ (by decide +kernel), codeAny_builtin entry_list_iadd' ?_⟩))
  change wpAny _ _ (Builtin.List.listExtendWith (.ref s.heap.objs.size) (.ref l) (.ref s.heap.objs.size)) _ _ { s with heap := s.heap.push (seqObj "list" #[] 0) }
  unfold Builtin.List.listExtendWith
  refine wpAny_bind (wpAny_typeOf (T := "tuple") ⟨ob, h1, hcl⟩ ?_)
  have ht : (Value.type "tuple" == Value.type "tuple") = true := by rfl
  rw [if_pos (by rw [ht]; simp)]
  refine wpAny_bind (listItems_at h1 hdt ?_)
  refine wpAny_bind (listItems_at (xs := #[]) (n := 0) h2 rfl ?_)
  rw [if_neg (by simp)]
  refine wpAny_bind (listUpdate_at (xs := #[]) (n := 0) h2 rfl (wpAny_pure ?_) (Nat.zero_le _) h3)
  change wpAny (model prog w) A (do
      let o ← load s.heap.objs.size
      match o.data with
      | .seq xs _ => pure xs.toList
      | _ => unsupported "internal:collect") Q E { s with heap := (s.heap.push (seqObj "list" #[] 0)).update s.heap.objs.size (Obj.mapSeq (· ++ vs.toArray)) }
  refine wpAny_bind (wpAny_load (get?_update_seq h2 _) ?_)
  have e : ((#[] : Array Value) ++ vs.toArray).toList = vs := by simp
  change wpAny _ _ (pure ((#[] : Array Value) ++ vs.toArray).toList) Q E _
  rw [e]
  exact wpAny_pure done
theorem sort_tup {l : Addr} {vs : List Value} {ns : List Int} {Q : Value → Shared → Prop} (isT : s.heap.IsTuple l vs.toArray) (hI : IntsAre vs ns) (few : vs.length ≤ sizeLine)
    (done : ∀ out : List Value, IntsAre out (out.map SrtO.iv) → (out.map SrtO.iv).Perm ns → (out.map SrtO.iv).Pairwise (· ≤ ·) → Q (.ref (s.heap.objs.size + 1)) { s with heap := sortedAll s.heap vs out.toArray }) :
    wpAny (model prog w) A (call (.builtin "sorted") [.ref l]) Q E s := by
  have e1 : ((s.heap.push (seqObj "list" #[] 0)).update s.heap.objs.size (Obj.mapSeq (· ++ vs.toArray))).objs.size = s.heap.objs.size + 1 := by
    rw [Heap.size_update, size_push']
  have e2 : (((s.heap.push (seqObj "list" #[] 0)).update s.heap.objs.size (Obj.mapSeq (· ++ vs.toArray))).push (seqObj "list" vs.toArray 0)).get? (s.heap.objs.size + 1) = some (seqObj "list" vs.toArray 0) := by
    rw [← e1]
    exact Heap.get?_push_size _ rfl
  refine Calls.call_function_entry kind_sorted plain_sorted entry_sorted (args_sorted1 _) ?_
  unfold Builtin.«sorted»
  refine wpAny_bind (m := checkCount "sorted" 1 1 _) (wpAny_pure (wpAny_bind (gather_tup isT few (wpAny_bind (wpAny_newList ?_ few)))))
  change wpAny _ _ _ _ _ { s with heap := ((s.heap.push (seqObj "list" #[] 0)).update s.heap.objs.size (Obj.mapSeq (· ++ vs.toArray))).push (seqObj "list" vs.toArray 0) }
  rw [e1]
  refine wpAny_bind (wpAny_holding (wpAny_call_entry slot_list_sort ⟨_, e2, rfl⟩ entry_list_sort
    (SrtO.list_sort_ord SrtO.swo_int (s := { s with heap := ((s.heap.push (seqObj "list" #[] 0)).update s.heap.objs.size (Obj.mapSeq (· ++ vs.toArray))).push (seqObj "list" vs.toArray 0) }) e2 few (fun h2 => SrtO.ints_sortable hI h2) fun out h1 h2 => ⟨_, rfl, ?_⟩) (args_list_sort _)))
  obtain ⟨k1, k2, k3⟩ := SrtO.ints_out hI h1 h2
  exact wpAny_pure ⟨_, rfl, done out k1 k2 k3⟩
end
/-- sorted of ints, of a list or of a tuple -/
def rSortA (K : PySem.W.Frag) : List V → Hp → VK → Prop := fun vs H Q => ∃ (a : Addr) (ns : List Int), vs = [V.ref a] ∧ (SqL K H a (ns.map V.int) ∨ SqT K H a (ns.map V.int)) ∧
  ∀ (ns' : List Int) (p : Addr), ns'.Perm ns → ns'.Pairwise (· ≤ ·) → H p = none → Q (.ref p) (upd H p (.lst (ns'.map V.int)))
section
variable {X : Cx}
theorem cr_sortA : CallR X (.builtin "sorted") (rSortA X.K) := by
  intro pins s σ H vs us Q I r h
  obtain ⟨a, ns, rfl, hs | hs, q⟩ := h
  · exact cr_sortedI pins s σ H [V.ref a] us Q I r ⟨a, ns, rfl, hs, q⟩
  · obtain ⟨its, rv, pl, few⟩ := I.tuple hs
    rw [Vals.ref1 r]
    have hi := rv.ints
    refine sort_tup pl hi (by rw [← rv.length]; exact few) fun out k1 k2 k3 => ?_
    obtain ⟨c, hc⟩ := PyProof.Rows.sortedAll_at s.heap its out.toArray
    have len : ((out.map SrtO.iv).map V.int).length ≤ sizeLine := by
      rw [List.length_map, k2.length_eq]
      rw [List.length_map] at few
      exact few
    exact ⟨.ref _, upd H (s.heap.objs.size + 1) (.lst ((out.map SrtO.iv).map V.int)), I.laid (t' := s.toks) (fun _ _ => PyProof.Rows.sortedAll_old) (Nat.le_succ _) ⟨len, out, c, vals_of_ints k1, hc⟩, rfl, q _ _ k2 k3 (I.hok.fresh (Nat.le_succ _))⟩
end
/-! ### subscripts -/
def ixL (ds : List D) (i : Int) : M D := match atI ds i with
  | some d => pure d
  | none => stuck
def ixD : D → D → M D
  | .tup ds, .int i => ixL ds i
  | .lst ds, .int i => ixL ds i
  | .rls ds, .int i => ixL ds i
  | .ref k, .int i => getC k >>= fun c => match c with
    | .lst ds => ixL ds i
    | _ => stuck
  | _, _ => stuck
theorem Rps.atI {K : PySem.W.Frag} {G : Hp} {am : List Addr} {vs : List V} {ds : List D} {i : Int} {d : D} (r : DL.Rps K G am vs ds) (h : L2.atI ds i = some d) : ∃ v, L2.atI vs i = some v ∧ DL.Rp K G am v d := by
  unfold L2.atI at h ⊢
  rw [r.length]
  cases e : ixN ds.length i with
  | none => rw [e] at h; cases h
  | some j =>
    rw [e] at h
    exact r.get h
section
variable {S : Sta} {ρ : Ev} {a b c : Expr} {ma mb mc : M D} {pos : Pos} {R : Rel}
theorem ixL_post {ds : List D} {i : Int} {s : Store} {ok : D → Store → Prop} {ex : Nat → Store → Prop} (q : (ixL ds i s).Post ok ex) : ∃ d, L2.atI ds i = some d ∧ ok d s := by
  unfold ixL at q
  cases e : L2.atI ds i with
  | none => rw [e] at q; exact False.elim q
  | some d => rw [e] at q; exact ⟨d, rfl, q⟩
def rIxA (K : PySem.W.Frag) : R2 := fun x y H Q => rIxL K x y H Q ∨ rIxT K x y H Q
theorem op_ixD {p : Pg} : Op2 p (rIxA p.K) ixD (RE p) := by
  intro g H x y vx vy Q E w hx hy q
  cases y with
  | int i =>
    obtain rfl := hy.int
    cases x with
    | tup ds =>
      obtain ⟨a, us, rfl, s, r⟩ := hx.tup w
      obtain ⟨d, e, q⟩ := ixL_post q
      obtain ⟨v, ev, rv⟩ := r.atI e
      exact .inr ⟨a, us, i, v, rfl, rfl, s, ev, Pv.now w q rv⟩
    | lst ds =>
      obtain ⟨a, us, rfl, s, r⟩ := hx.lst w
      obtain ⟨d, e, q⟩ := ixL_post q
      obtain ⟨v, ev, rv⟩ := r.atI e
      exact .inl ⟨a, us, i, v, rfl, rfl, SqL.of s, ev, Pv.now w q rv⟩
    | rls ds =>
      obtain ⟨a, us, rfl, s, r⟩ := hx.rls w
      obtain ⟨d, e, q⟩ := ixL_post q
      obtain ⟨v, ev, rv⟩ := r.atI e
      exact .inl ⟨a, us, i, v, rfl, rfl, s, ev, Pv.now w q rv⟩
    | ref k =>
      obtain ⟨a, rfl, e⟩ := hx.ref
      obtain ⟨c, e2, r⟩ := w.at_ref e
      have q : ((getC k >>= fun c => match c with
        | .lst ds => ixL ds i
        | _ => stuck) g.st).Post (Pv p (RE p) g H Q) E := q
      rw [bind_run] at q
      unfold getC at q
      rw [e2] at q
      cases c with
      | lst ds =>
        obtain ⟨us, s, r⟩ := r
        obtain ⟨d, e, q⟩ := ixL_post q
        obtain ⟨v, ev, rv⟩ := r.atI e
        exact .inl ⟨a, us, i, v, rfl, rfl, SqL.of s, ev, Pv.now w q rv⟩
      | _ => exact False.elim q
    | _ => exact False.elim q
  | _ => cases x <;> exact False.elim q
theorem ee_ix (ha : EL S ρ a ma) (hb : EL S ρ b mb) (hs : PlainIx b) : EE S ρ (.Subscript a b pos) (ma >>= fun x => mb >>= fun y => ixD x y) :=
  ex_bin back_RE ha hb (fun Y ok ta tb h1 h2 => pe_ix (IxR.or ix_list ix_tup) h1 h2 hs) op_ixD
/-! ### slices -/
/-- a slice's part -/
def EO (S : Sta) (ρ : Ev) (e : Option Expr) (m : M (Option Int)) : Prop := ∀ Y, OkY S Y → PO (S.cx Y) e (fun σ H Q => ∃ F g, ER S.pg F ρ σ g H ∧ (m g.st).Post (fun o st' => ∀ g' H', g'.st = st' → Stp S.pg g H g' H' → Q o H') (Px S Y g H))
def intM : D → M (Option Int)
  | .int i => pure (some i)
  | _ => stuck
theorem PO_pre {X : Cx} {e : Option Expr} {t t' : TO} (h : PO X e t) (k : ∀ σ H Q, t' σ H Q → t σ H Q) : PO X e t' :=
  ⟨fun pins s σ H Q I q => h.run pins s σ H Q I (k σ H Q q)⟩
theorem eo_none : EO S ρ none (pure none) := fun Y ok => PO_pre po_none fun σ H Q ⟨F, g, E, q⟩ => (post_pure q) g H rfl (.refl E.wf)
theorem eo_some (ha : EL S ρ a ma) : EO S ρ (some a) (ma >>= intM) := fun Y ok => PO_pre (po_some (ha Y ok)) fun σ H Q ⟨F, g, E, q⟩ => rdX.bind E q fun x v g' H' s E' r q => by
  cases x with
  | int i =>
    obtain rfl := r.int
    exact ⟨i, rfl, (post_pure q) g' H' rfl s⟩
  | _ => exact False.elim q
/-- the items of xs[lo:hi] -/
def cut {α : Type} (xs : List α) (lo hi : Option Int) : List α := (xs.drop (HT.sIx xs.length 0 lo)).take (HT.sIx xs.length xs.length hi - HT.sIx xs.length 0 lo)
def slT (lo hi : Option Int) : D → M D
  | .tup ds => pure (.tup (cut ds lo hi))
  | _ => stuck
def slL (lo hi : Option Int) : D → M D
  | .lst ds => pure (.lst (cut ds lo hi))
  | .rls ds => pure (.lst (cut ds lo hi))
  | _ => stuck
theorem Rps.cut {K : PySem.W.Frag} {G : Hp} {am : List Addr} {vs : List V} {ds : List D} (r : DL.Rps K G am vs ds) (lo hi : Option Int) : DL.Rps K G am (cutV vs lo hi) (DL.cut ds lo hi) := by
  unfold cutV DL.cut
  rw [r.length]
  exact (r.drop _).take _
variable {lo hi : Option Expr} {ml mh : M (Option Int)} {p2 : Pos}
theorem sl_core {r : V → Option Int → Option Int → Hp → VK → Prop} {f : Option Int → Option Int → D → M D} (hR : Back S.pg R) (ha : EL S ρ a ma) (hl : EO S ρ lo ml) (hh : EO S ρ hi mh) (hr : ∀ Y : Dyn, SlR (S.cx Y) r)
    (ho : ∀ (g : Gs) (H : Hp) (x : D) (vx : V) (l h : Option Int) (Q : VK) (E : Nat → Store → Prop), Wf S.pg g H → TopR S.pg g H vx x → (f l h x g.st).Post (Pv S.pg R g H Q) E → r vx l h H Q) :
    EX S ρ R (.Subscript a (.Slice lo hi none p2) pos) (ma >>= fun x => ml >>= fun l => mh >>= fun h => f l h x) := fun Y ok =>
  (pe_slice (hr Y) (ha Y ok) (hl Y ok) (hh Y ok)).pre fun σ H Q ⟨F, g, E, q⟩ => rdX.bind E q fun x v g' H' s E' r q =>
    ⟨F, g', E', (post_bind q).imp (fun l st' q g2 H2 e s2 => by
      subst e
      have E2 := E'.step s2
      exact ⟨F, g2, E2, (post_bind q).imp (fun h st' q g3 H3 e s3 => by
        subst e
        have s5 := (s.trans E.wf s2).trans E.wf s3
        exact ho g3 H3 x v l h Q _ (E2.step s3).wf ((r.step E'.wf s2).step E2.wf s3) (q.imp (fun _ _ q => q.back hR E.wf s5) fun _ _ q => q)) fun _ _ q => q.back E.wf (s.trans E.wf s2)⟩) fun _ _ q => q.back E.wf s⟩
theorem ee_slT (ha : EL S ρ a ma) (hl : EO S ρ lo ml) (hh : EO S ρ hi mh) : EE S ρ (.Subscript a (.Slice lo hi none p2) pos) (ma >>= fun x => ml >>= fun l => mh >>= fun h => slT l h x) :=
  sl_core (r := rSlA S.pg.K) back_RE ha hl hh (fun Y => sl_tupA (X := S.cx Y)) fun g H x vx l h Q E w hx q => by
    cases x with
    | tup ds =>
      have q := post_pure q
      have hx2 := hx.cases fun _ o => o
      obtain ⟨a, us, rfl, s, r⟩ := hx.tup w
      have hlen := r.length
      refine ⟨a, us, rfl, s, fun z => Pv.now w q ?_, fun z l2 hl => ?_⟩
      · have e : cut ds l h = ds := by
          unfold cut
          rw [← hlen, z.1, z.2, List.drop_zero, Nat.sub_zero, hlen, List.take_length]
        rw [e]
        exact hx2
      · have s2 := Stp.new (o := .tup (cutV us l h)) w hl
        exact q _ { g with G := upd g.G l2 (.tup (cutV us l h)) } _ rfl s2 (.tup (.inl (.inl upd_same)) ((r.cut l h).mono s2.gle s2.aml))
    | _ => exact False.elim q
theorem en_slL (ha : EL S ρ a ma) (hl : EO S ρ lo ml) (hh : EO S ρ hi mh) : EN S ρ (.Subscript a (.Slice lo hi none p2) pos) (ma >>= fun x => ml >>= fun l => mh >>= fun h => slL l h x) :=
  sl_core (r := rSlL S.pg.K) back_RN ha hl hh (fun Y => sl_list (X := S.cx Y)) fun g H x vx l h Q E w hx q => by
    have core : ∀ (a : Addr) (us : List V) (ds : List D), SqL S.pg.K H a us → S.pg.Rps g us ds → Pv S.pg (RN S.pg) g H Q (.lst (cut ds l h)) g.st → rSlL S.pg.K (.ref a) l h H Q := fun a us ds s r q =>
      ⟨a, us, rfl, s, fun l2 hl => q _ g _ rfl (Stp.laid w hl) ⟨l2, rfl, ⟨_, upd_same, r.cut l h⟩, w.freeG hl, w.freeA hl, hl⟩⟩
    cases x with
    | lst ds =>
      obtain ⟨a, us, rfl, s, r⟩ := hx.lst w
      exact core a us ds (SqL.of s) r (post_pure q)
    | rls ds =>
      obtain ⟨a, us, rfl, s, r⟩ := hx.rls w
      exact core a us ds s r (post_pure q)
    | _ => exact False.elim q
/-! ### calls of built-ins -/
/-- a call with one value -/
def Op1C (p : Pg) (r : List V → Hp → VK → Prop) (f : D → M D) (R : Rel) : Prop := ∀ (g : Gs) (H : Hp) (x : D) (vx : V) (Q : VK) (E : Nat → Store → Prop), Wf p g H → TopR p g H vx x → (f x g.st).Post (Pv p R g H Q) E → r [vx] H Q
def Op2C (p : Pg) (r : List V → Hp → VK → Prop) (f : D → D → M D) (R : Rel) : Prop := ∀ (g : Gs) (H : Hp) (x y : D) (vx vy : V) (Q : VK) (E : Nat → Store → Prop), Wf p g H → TopR p g H vx x → TopR p g H vy y → (f x y g.st).Post (Pv p R g H Q) E → r [vx, vy] H Q
/-- a built-in, found by its name -/
structure Blt (S : Sta) (x : Str) (u : Value) : Prop where
  gl : S.sc.names.lookup x = some .globalImplicit
  mg : S.pg.mg x = none
  boot : bootBuiltins x = some u
  n1 : x ≠ "__name__"
  n2 : (x == ("__debug__" : Str)) = false
theorem Blt.mk' {x : Str} {u : Value} (gl : S.sc.names.lookup x = some .globalImplicit) (mg : S.pg.mg x = none) (boot : bootBuiltins x = some u) (n1 : x ≠ "__name__" := by decide) (n2 : (x == ("__debug__" : Str)) = false := by decide) : Blt S x u := ⟨gl, mg, boot, n1, n2⟩
def NoStar (es : List Expr) : Prop := ∀ env : Env, starEach es env = es.map fun e => (false, eval e env)
variable {x : Str} {bid T : String} {p : Pos}
theorem ex_b1 {r : List V → Hp → VK → Prop} {f : D → M D} (hR : Back S.pg R) (hc : ∀ Y : Dyn, OkY S Y → CallR (S.cx Y) (.builtin bid) r) (ho : Op1C S.pg r f R) (B : Blt S x (.builtin bid)) (ha : EL S ρ a ma) (hs : NoStar [a] := by intro _; rfl) :
    EX S ρ R (.Call (.Name x p) [a] [] pos) (ma >>= f) := fun Y ok =>
  (pe_callB (X := S.cx Y) (hc Y ok) B.gl B.mg B.boot (pa_cons (ha Y ok) pa_nil (hs _)) B.n1 B.n2 (hs _) rfl).pre fun σ H Q ⟨F, g, E, q⟩ =>
    rdX.bind E q fun x v g' H' s E' r q => ho g' H' x v Q _ E'.wf r (q.imp (fun _ _ q => q.back hR E.wf s) fun _ _ q => q)
theorem ex_t1 {r : List V → Hp → VK → Prop} {f : D → M D} (hR : Back S.pg R) (hc : ∀ Y : Dyn, OkY S Y → CallR (S.cx Y) (.type T) r) (ho : Op1C S.pg r f R) (B : Blt S x (.type T)) (ha : EL S ρ a ma) (hs : NoStar [a] := by intro _; rfl) :
    EX S ρ R (.Call (.Name x p) [a] [] pos) (ma >>= f) := fun Y ok =>
  (pe_callTy (X := S.cx Y) (hc Y ok) B.gl B.mg B.boot (pa_cons (ha Y ok) pa_nil (hs _)) B.n1 B.n2 (hs _) rfl).pre fun σ H Q ⟨F, g, E, q⟩ =>
    rdX.bind E q fun x v g' H' s E' r q => ho g' H' x v Q _ E'.wf r (q.imp (fun _ _ q => q.back hR E.wf s) fun _ _ q => q)
theorem ex_b2 {r : List V → Hp → VK → Prop} {f : D → D → M D} (hR : Back S.pg R) (hc : ∀ Y : Dyn, OkY S Y → CallR (S.cx Y) (.builtin bid) r) (ho : Op2C S.pg r f R) (B : Blt S x (.builtin bid)) (ha : EL S ρ a ma) (hb : EL S ρ b mb)
    (hs : NoStar [a, b] := by intro _; rfl) (hs2 : NoStar [b] := by intro _; rfl) : EX S ρ R (.Call (.Name x p) [a, b] [] pos) (ma >>= fun x => mb >>= fun y => f x y) := fun Y ok =>
  (pe_callB (X := S.cx Y) (hc Y ok) B.gl B.mg B.boot (pa_cons (ha Y ok) (pa_cons (hb Y ok) pa_nil (hs2 _)) (by rw [hs2 _]; exact hs _)) B.n1 B.n2 (by rw [hs2 _]; exact hs _) (by rw [hs2 _]; rfl)).pre fun σ H Q ⟨F, g, E, q⟩ =>
    rdX.bind E q fun x v g' H' s E' r q => rdX.bind E' (q.imp (fun _ _ q => q) fun _ _ q => q.back E.wf s) fun y u g2 H2 s2 E2 r2 q =>
      ho g2 H2 x y v u Q _ E2.wf (r.step E'.wf s2) r2 (q.imp (fun _ _ q => q.back hR E.wf (s.trans E.wf s2)) fun _ _ q => q)
/-! len -/
def lenD : D → M D
  | .tup ds => pure (.int ds.length)
  | .lst ds => pure (.int ds.length)
  | .rls ds => pure (.int ds.length)
  | .ref k => getC k >>= fun c => match c with
    | .lst ds => pure (.int ds.length)
    | _ => stuck
  | _ => stuck
theorem op_lenD {p : Pg} : Op1C p (fun xs H Q => ∃ q ys, xs = [.ref q] ∧ (SqL p.K H q ys ∨ SqT p.K H q ys) ∧ Q (.int ys.length) H) lenD (RE p) := by
  intro g H x vx Q E w hx q
  have fin : ∀ {us : List V} {ds : List D}, p.Rps g us ds → Pv p (RE p) g H Q (.int ds.length) g.st → Q (.int us.length) H := fun {us ds} r q => Pv.now w q (by rw [← r.length]; exact .int _)
  cases x with
  | tup ds =>
    obtain ⟨a, us, rfl, s, r⟩ := hx.tup w
    exact ⟨a, us, rfl, .inr s, fin r (post_pure q)⟩
  | lst ds =>
    obtain ⟨a, us, rfl, s, r⟩ := hx.lst w
    exact ⟨a, us, rfl, .inl (SqL.of s), fin r (post_pure q)⟩
  | rls ds =>
    obtain ⟨a, us, rfl, s, r⟩ := hx.rls w
    exact ⟨a, us, rfl, .inl s, fin r (post_pure q)⟩
  | ref k =>
    obtain ⟨a, rfl, e⟩ := hx.ref
    obtain ⟨c, e2, r⟩ := w.at_ref e
    have q : ((getC k >>= fun c => match c with
      | .lst ds => pure (.int ds.length)
      | _ => stuck) g.st).Post (Pv p (RE p) g H Q) E := q
    rw [bind_run] at q
    unfold getC at q
    rw [e2] at q
    cases c with
    | lst ds =>
      obtain ⟨us, s, r⟩ := r
      exact ⟨a, us, rfl, .inl (SqL.of s), fin r (post_pure q)⟩
    | _ => exact False.elim q
  | _ => exact False.elim q
theorem ee_len (B : Blt S "len" (.builtin "len")) (ha : EL S ρ a ma) (hs : NoStar [a] := by intro _; rfl) : EE S ρ (.Call (.Name "len" p) [a] [] pos) (ma >>= lenD) :=
  ex_b1 back_RE (fun Y _ => call_len_seq) op_lenD B ha hs
/-! sum, any, all, max, min, sorted of lists of ints, of truths -/
def sumD : D → M D
  | .lst ds => match dints ds with
    | some ns => pure (.int ns.sum)
    | none => stuck
  | _ => stuck
def anyD : D → M D
  | .lst ds => match dbools ds with
    | some bs => pure (.bl (bs.any id))
    | none => stuck
  | _ => stuck
def allD : D → M D
  | .lst ds => match dbools ds with
    | some bs => pure (.bl (bs.all id))
    | none => stuck
  | _ => stuck
def maxI : List Int → Int
  | [] => 0
  | [x] => x
  | x :: r => max x (maxI r)
def minI : List Int → Int
  | [] => 0
  | [x] => x
  | x :: r => min x (minI r)
def maxD : D → M D
  | .lst ds => match dints ds with
    | some ns => if ns.isEmpty then stuck else pure (.int (maxI ns))
    | none => stuck
  | _ => stuck
def minD : D → M D
  | .lst ds => match dints ds with
    | some ns => if ns.isEmpty then stuck else pure (.int (minI ns))
    | none => stuck
  | _ => stuck
theorem maxI_cons (x y : Int) (r : List Int) : maxI (x :: y :: r) = max x (maxI (y :: r)) := rfl
theorem minI_cons (x y : Int) (r : List Int) : minI (x :: y :: r) = min x (minI (y :: r)) := rfl
theorem maxI_mem : ∀ {ns : List Int}, ns ≠ [] → maxI ns ∈ ns
  | [], h => absurd rfl h
  | [x], _ => List.mem_cons_self
  | x :: y :: r, _ => by
    have ih := maxI_mem (ns := y :: r) (List.cons_ne_nil _ _)
    rw [maxI_cons]
    by_cases h : x ≤ maxI (y :: r)
    · rw [Int.max_eq_right h]; exact List.mem_cons_of_mem _ ih
    · rw [Int.max_eq_left (by omega)]; exact List.mem_cons_self
theorem maxI_ge : ∀ {ns : List Int} {a : Int}, a ∈ ns → a ≤ maxI ns
  | [x], a, h => by rw [List.mem_singleton.mp h]; exact Int.le_refl _
  | x :: y :: r, a, h => by
    rw [maxI_cons]
    rcases List.mem_cons.mp h with e | h
    · rw [e]; omega
    · have := maxI_ge h; omega
theorem minI_mem : ∀ {ns : List Int}, ns ≠ [] → minI ns ∈ ns
  | [], h => absurd rfl h
  | [x], _ => List.mem_cons_self
  | x :: y :: r, _ => by
    have ih := minI_mem (ns := y :: r) (List.cons_ne_nil _ _)
    rw [minI_cons]
    by_cases h : x ≤ minI (y :: r)
    · rw [Int.min_eq_left h]; exact List.mem_cons_self
    · rw [Int.min_eq_right (by omega)]; exact List.mem_cons_of_mem _ ih
theorem minI_le : ∀ {ns : List Int} {a : Int}, a ∈ ns → minI ns ≤ a
  | [x], a, h => by rw [List.mem_singleton.mp h]; exact Int.le_refl _
  | x :: y :: r, a, h => by
    rw [minI_cons]
    rcases List.mem_cons.mp h with e | h
    · rw [e]; omega
    · have := minI_le h; omega
/-- a list of ints, read -/
theorem lst_ints {p : Pg} {g : Gs} {H : Hp} {v : V} {ds : List D} {ns : List Int} (w : Wf p g H) (hx : TopR p g H v (.lst ds)) (e : dints ds = some ns) : ∃ a, v = .ref a ∧ SqL p.K H a (ns.map V.int) ∧ H a = some (.lst (ns.map V.int)) := by
  obtain ⟨a, us, rfl, s, r⟩ := hx.lst w
  rw [ints_eq e] at r
  have := r.toInts
  subst this
  exact ⟨a, rfl, SqL.of s, s⟩
theorem lst_bools {p : Pg} {g : Gs} {H : Hp} {v : V} {ds : List D} {ns : List Bool} (w : Wf p g H) (hx : TopR p g H v (.lst ds)) (e : dbools ds = some ns) : ∃ a, v = .ref a ∧ SqL p.K H a (ns.map V.bl) := by
  obtain ⟨a, us, rfl, s, r⟩ := hx.lst w
  rw [bools_eq e] at r
  have := r.toBools
  subst this
  exact ⟨a, rfl, SqL.of s⟩
theorem op_sumD {p : Pg} : Op1C p (rSum p.K) sumD (RE p) := by
  intro g H x vx Q E w hx q
  cases x with
  | lst ds =>
    unfold sumD at q
    cases e : dints ds with
    | none => simp only [e] at q; exact False.elim q
    | some ns =>
      simp only [e] at q
      obtain ⟨a, rfl, s, _⟩ := lst_ints w hx e
      exact ⟨a, ns, rfl, s, Pv.now w (post_pure q) (.int _)⟩
  | _ => exact False.elim q
theorem op_anyD {p : Pg} : Op1C p (rAny p.K) anyD (RE p) := by
  intro g H x vx Q E w hx q
  cases x with
  | lst ds =>
    unfold anyD at q
    cases e : dbools ds with
    | none => simp only [e] at q; exact False.elim q
    | some ns =>
      simp only [e] at q
      obtain ⟨a, rfl, s⟩ := lst_bools w hx e
      exact ⟨a, ns, rfl, s, Pv.now w (post_pure q) (.bl _)⟩
  | _ => exact False.elim q
theorem op_allD {p : Pg} : Op1C p (rAll p.K) allD (RE p) := by
  intro g H x vx Q E w hx q
  cases x with
  | lst ds =>
    unfold allD at q
    cases e : dbools ds with
    | none => simp only [e] at q; exact False.elim q
    | some ns =>
      simp only [e] at q
      obtain ⟨a, rfl, s⟩ := lst_bools w hx e
      exact ⟨a, ns, rfl, s, Pv.now w (post_pure q) (.bl _)⟩
  | _ => exact False.elim q
theorem op_maxD {p : Pg} : Op1C p (rMax p.K) maxD (RE p) := by
  intro g H x vx Q E w hx q
  cases x with
  | lst ds =>
    unfold maxD at q
    cases e : dints ds with
    | none => simp only [e] at q; exact False.elim q
    | some ns =>
      simp only [e] at q
      cases ns with
      | nil => exact False.elim q
      | cons n r =>
        obtain ⟨a, rfl, s, _⟩ := lst_ints w hx e
        refine ⟨a, n :: r, rfl, s, Nat.succ_pos _, fun m hm hle => ?_⟩
        have e2 : m = maxI (n :: r) := Int.le_antisymm (maxI_ge hm) (hle _ (maxI_mem (List.cons_ne_nil _ _)))
        rw [e2]
        exact Pv.now w (post_pure q) (.int _)
  | _ => exact False.elim q
theorem op_minD {p : Pg} : Op1C p (rMin p.K) minD (RE p) := by
  intro g H x vx Q E w hx q
  cases x with
  | lst ds =>
    unfold minD at q
    cases e : dints ds with
    | none => simp only [e] at q; exact False.elim q
    | some ns =>
      simp only [e] at q
      cases ns with
      | nil => exact False.elim q
      | cons n r =>
        obtain ⟨a, rfl, s, _⟩ := lst_ints w hx e
        refine ⟨a, n :: r, rfl, s, Nat.succ_pos _, fun m hm hle => ?_⟩
        have e2 : m = minI (n :: r) := Int.le_antisymm (hle _ (minI_mem (List.cons_ne_nil _ _))) (minI_le hm)
        rw [e2]
        exact Pv.now w (post_pure q) (.int _)
  | _ => exact False.elim q
theorem ee_sum (B : Blt S "sum" (.builtin "sum")) (ha : EL S ρ a ma) (hs : NoStar [a] := by intro _; rfl) : EE S ρ (.Call (.Name "sum" p) [a] [] pos) (ma >>= sumD) := ex_b1 back_RE (fun Y _ => cr_sum rfl) op_sumD B ha hs
theorem ee_any (B : Blt S "any" (.builtin "any")) (ha : EL S ρ a ma) (hs : NoStar [a] := by intro _; rfl) : EE S ρ (.Call (.Name "any" p) [a] [] pos) (ma >>= anyD) := ex_b1 back_RE (fun Y _ => cr_any rfl) op_anyD B ha hs
theorem ee_all (B : Blt S "all" (.builtin "all")) (ha : EL S ρ a ma) (hs : NoStar [a] := by intro _; rfl) : EE S ρ (.Call (.Name "all" p) [a] [] pos) (ma >>= allD) := ex_b1 back_RE (fun Y _ => cr_all rfl) op_allD B ha hs
theorem ee_max (B : Blt S "max" (.builtin "max")) (ha : EL S ρ a ma) (hs : NoStar [a] := by intro _; rfl) : EE S ρ (.Call (.Name "max" p) [a] [] pos) (ma >>= maxD) := ex_b1 back_RE (fun Y _ => cr_max rfl) op_maxD B ha hs
theorem ee_min (B : Blt S "min" (.builtin "min")) (ha : EL S ρ a ma) (hs : NoStar [a] := by intro _; rfl) : EE S ρ (.Call (.Name "min" p) [a] [] pos) (ma >>= minD) := ex_b1 back_RE (fun Y _ => cr_min rfl) op_minD B ha hs
def max2D := i2 fun i j => if j > i then j else i
def min2D := i2 fun i j => if j < i then j else i
theorem op_i2C {h : Int → Int → Int} {r : List V → Hp → VK → Prop} {p : Pg} (hr : ∀ (i j : Int) (H : Hp) (Q : VK), Q (.int (h i j)) H → r [.int i, .int j] H Q) : Op2C p r (i2 h) (RE p) := by
  intro g H x y vx vy Q E w hx hy q
  cases x with
  | int i =>
    cases y with
    | int j =>
      obtain rfl := hx.int
      obtain rfl := hy.int
      exact hr i j H Q (Pv.now w (post_pure q) (.int _))
    | _ => exact False.elim q
  | _ => exact False.elim q
theorem ee_max2 (B : Blt S "max" (.builtin "max")) (ha : EL S ρ a ma) (hb : EL S ρ b mb) (hs : NoStar [a, b] := by intro _; rfl) (hs2 : NoStar [b] := by intro _; rfl) : EE S ρ (.Call (.Name "max" p) [a, b] [] pos) (ma >>= fun x => mb >>= fun y => max2D x y) :=
  ex_b2 back_RE (fun Y _ => call_max2 rfl) (op_i2C fun i j H Q q => ⟨i, j, rfl, q⟩) B ha hb hs hs2
theorem ee_min2 (B : Blt S "min" (.builtin "min")) (ha : EL S ρ a ma) (hb : EL S ρ b mb) (hs : NoStar [a, b] := by intro _; rfl) (hs2 : NoStar [b] := by intro _; rfl) : EE S ρ (.Call (.Name "min" p) [a, b] [] pos) (ma >>= fun x => mb >>= fun y => min2D x y) :=
  ex_b2 back_RE (fun Y _ => call_min2 rfl) (op_i2C fun i j H Q q => ⟨i, j, rfl, q⟩) B ha hb hs hs2
/-! int, abs -/
def intD : D → M D
  | .int i => pure (.int i)
  | .bl k => pure (.int (if k then 1 else 0))
  | _ => stuck
def absD : D → M D
  | .int i => pure (.int (if i < 0 then -i else i))
  | _ => stuck
theorem ee_intc (B : Blt S "int" (.type "int")) (ha : EL S ρ a ma) (hs : NoStar [a] := by intro _; rfl) : EE S ρ (.Call (.Name "int" p) [a] [] pos) (ma >>= intD) := ex_t1 back_RE (fun Y _ => call_int1) (fun g H x vx Q E w hx q => by
  cases x with
  | int i => obtain rfl := hx.int; exact .inl ⟨i, rfl, Pv.now w (post_pure q) (.int _)⟩
  | bl k => obtain rfl := hx.bl; exact .inr ⟨k, rfl, Pv.now w (post_pure q) (.int _)⟩
  | _ => exact False.elim q) B ha hs
theorem ee_abs (B : Blt S "abs" (.builtin "abs")) (ha : EL S ρ a ma) (hs : NoStar [a] := by intro _; rfl) : EE S ρ (.Call (.Name "abs" p) [a] [] pos) (ma >>= absD) := ex_b1 back_RE (fun Y _ => call_abs) (fun g H x vx Q E w hx q => by
  cases x with
  | int i => obtain rfl := hx.int; exact ⟨i, rfl, Pv.now w (post_pure q) (.int _)⟩
  | _ => exact False.elim q) B ha hs
/-! tuple, list -/
def tupleD : D → M D
  | .tup ds => pure (.tup ds)
  | .lst ds => pure (.tup ds)
  | .rls ds => pure (.tup ds)
  | .ref k => getC k >>= fun c => match c with
    | .lst ds => pure (.tup ds)
    | _ => stuck
  | _ => stuck
def listD : D → M D
  | .tup ds => pure (.lst ds)
  | .lst ds => pure (.lst ds)
  | .rls ds => pure (.lst ds)
  | _ => stuck
theorem op_tupleD {p : Pg} : Op1C p (fun xs H Q => ∃ q ys, xs = [.ref q] ∧ ((SqL p.K H q ys ∧ ∀ l, H l = none → Q (.ref l) (upd H l (.tup ys))) ∨ (SqT p.K H q ys ∧ Q (.ref q) H))) tupleD (RE p) := by
  intro g H x vx Q E w hx q
  have fin : ∀ {us : List V} {ds : List D}, p.Rps g us ds → Pv p (RE p) g H Q (.tup ds) g.st → ∀ l, H l = none → Q (.ref l) (upd H l (.tup us)) := fun {us ds} r q l hl => by
    have s2 := Stp.new (o := .tup us) w hl
    exact q _ { g with G := upd g.G l (.tup us) } _ rfl s2 (.tup (.inl (.inl upd_same)) (r.mono s2.gle s2.aml))
  cases x with
  | tup ds =>
    have hx2 := hx.cases fun _ o => o
    obtain ⟨a, us, rfl, s, r⟩ := hx.tup w
    exact ⟨a, us, rfl, .inr ⟨s, Pv.now w (post_pure q) hx2⟩⟩
  | lst ds =>
    obtain ⟨a, us, rfl, s, r⟩ := hx.lst w
    exact ⟨a, us, rfl, .inl ⟨SqL.of s, fin r (post_pure q)⟩⟩
  | rls ds =>
    obtain ⟨a, us, rfl, s, r⟩ := hx.rls w
    exact ⟨a, us, rfl, .inl ⟨s, fin r (post_pure q)⟩⟩
  | ref k =>
    obtain ⟨a, rfl, e⟩ := hx.ref
    obtain ⟨c, e2, r⟩ := w.at_ref e
    have q : ((getC k >>= fun c => match c with
      | .lst ds => pure (.tup ds)
      | _ => stuck) g.st).Post (Pv p (RE p) g H Q) E := q
    rw [bind_run] at q
    unfold getC at q
    rw [e2] at q
    cases c with
    | lst ds =>
      obtain ⟨us, s, r⟩ := r
      exact ⟨a, us, rfl, .inl ⟨SqL.of s, fin r (post_pure q)⟩⟩
    | _ => exact False.elim q
  | _ => exact False.elim q
theorem op_listD {p : Pg} : Op1C p (fun xs H Q => ∃ q ys, xs = [.ref q] ∧ (SqL p.K H q ys ∨ SqT p.K H q ys) ∧ ∀ l, H l = none → Q (.ref l) (upd H l (.lst ys))) listD (RN p) := by
  intro g H x vx Q E w hx q
  have fin : ∀ {us : List V} {ds : List D}, p.Rps g us ds → Pv p (RN p) g H Q (.lst ds) g.st → ∀ l, H l = none → Q (.ref l) (upd H l (.lst us)) := fun {us ds} r q l hl =>
    q _ g _ rfl (Stp.laid w hl) ⟨l, rfl, ⟨_, upd_same, r⟩, w.freeG hl, w.freeA hl, hl⟩
  cases x with
  | tup ds =>
    obtain ⟨a, us, rfl, s, r⟩ := hx.tup w
    exact ⟨a, us, rfl, .inr s, fin r (post_pure q)⟩
  | lst ds =>
    obtain ⟨a, us, rfl, s, r⟩ := hx.lst w
    exact ⟨a, us, rfl, .inl (SqL.of s), fin r (post_pure q)⟩
  | rls ds =>
    obtain ⟨a, us, rfl, s, r⟩ := hx.rls w
    exact ⟨a, us, rfl, .inl s, fin r (post_pure q)⟩
  | _ => exact False.elim q
theorem ee_tuplec (B : Blt S "tuple" (.type "tuple")) (ha : EL S ρ a ma) (hs : NoStar [a] := by intro _; rfl) : EE S ρ (.Call (.Name "tuple" p) [a] [] pos) (ma >>= tupleD) := ex_t1 back_RE (fun Y _ => call_tuple_of) op_tupleD B ha hs
theorem en_listc (B : Blt S "list" (.type "list")) (ha : EL S ρ a ma) (hs : NoStar [a] := by intro _; rfl) : EN S ρ (.Call (.Name "list" p) [a] [] pos) (ma >>= listD) := ex_t1 back_RN (fun Y _ => call_list_of) op_listD B ha hs
/-! sorted of ints -/
def ins (x : Int) : List Int → List Int
  | [] => [x]
  | y :: r => if x ≤ y then x :: y :: r else y :: ins x r
def isort : List Int → List Int
  | [] => []
  | x :: r => ins x (isort r)
theorem ins_perm (x : Int) : ∀ l : List Int, (ins x l).Perm (x :: l)
  | [] => .refl _
  | y :: r => by
    unfold ins
    by_cases h : x ≤ y
    · rw [if_pos h]
    · rw [if_neg h]
      exact ((ins_perm x r).cons y).trans (.swap x y r)
theorem isort_perm : ∀ l : List Int, (isort l).Perm l
  | [] => .refl _
  | x :: r => (ins_perm x (isort r)).trans ((isort_perm r).cons x)
theorem ins_sorted (x : Int) : ∀ {l : List Int}, l.Pairwise (· ≤ ·) → (ins x l).Pairwise (· ≤ ·)
  | [], _ => List.pairwise_singleton _ _
  | y :: r, h => by
    unfold ins
    by_cases hxy : x ≤ y
    · rw [if_pos hxy]
      refine List.Pairwise.cons (fun z hz => ?_) h
      rcases List.mem_cons.mp hz with rfl | hz
      · exact hxy
      · exact Int.le_trans hxy ((List.pairwise_cons.mp h).1 z hz)
    · rw [if_neg hxy]
      refine List.Pairwise.cons (fun z hz => ?_) (ins_sorted x (List.pairwise_cons.mp h).2)
      rcases List.mem_cons.mp ((ins_perm x r).mem_iff.mp hz) with rfl | hz
      · omega
      · exact (List.pairwise_cons.mp h).1 z hz
theorem isort_sorted : ∀ l : List Int, (isort l).Pairwise (· ≤ ·)
  | [] => .nil
  | x :: r => ins_sorted x (isort_sorted r)
theorem sorted_uniq : ∀ {a b : List Int}, a.Perm b → a.Pairwise (· ≤ ·) → b.Pairwise (· ≤ ·) → a = b
  | [], b, p, _, _ => by rw [List.nil_perm.mp p]
  | x :: r, [], p, _, _ => absurd (List.perm_nil.mp p) (List.cons_ne_nil _ _)
  | x :: r, y :: t, p, ha, hb => by
    have hx : x ≤ y := by
      rcases List.mem_cons.mp (p.mem_iff.mpr (List.mem_cons_self : y ∈ y :: t)) with h | h
      · omega
      · exact (List.pairwise_cons.mp ha).1 y h
    have hy : y ≤ x := by
      rcases List.mem_cons.mp (p.mem_iff.mp (List.mem_cons_self : x ∈ x :: r)) with h | h
      · omega
      · exact (List.pairwise_cons.mp hb).1 x h
    have e : x = y := Int.le_antisymm hx hy
    subst e
    rw [sorted_uniq (List.Perm.cons_inv p) (List.pairwise_cons.mp ha).2 (List.pairwise_cons.mp hb).2]
def sortedD : D → M D
  | .lst ds => match dints ds with
    | some ns => pure (.lst ((isort ns).map D.int))
    | none => stuck
  | .tup ds => match dints ds with
    | some ns => pure (.lst ((isort ns).map D.int))
    | none => stuck
  | _ => stuck
def sortedRevD : D → M D
  | .lst ds => match dints ds with
    | some ns => pure (.lst ((isort ns).reverse.map D.int))
    | none => stuck
  | _ => stuck
theorem op_sortedD {p : Pg} : Op1C p (rSortA p.K) sortedD (RN p) := by
  intro g H x vx Q E w hx q
  cases x with
  | lst ds =>
    unfold sortedD at q
    cases e : dints ds with
    | none => simp only [e] at q; exact False.elim q
    | some ns =>
      simp only [e] at q
      obtain ⟨a, rfl, s, _⟩ := lst_ints w hx e
      refine ⟨a, ns, rfl, .inl s, fun ns' l hp ho hl => ?_⟩
      have e2 : ns' = isort ns := sorted_uniq (hp.trans (isort_perm ns).symm) ho (isort_sorted ns)
      rw [e2]
      exact (post_pure q) _ g _ rfl (Stp.laid w hl) ⟨l, rfl, ⟨_, upd_same, .ofInts _⟩, w.freeG hl, w.freeA hl, hl⟩
  | tup ds =>
    unfold sortedD at q
    cases e : dints ds with
    | none => simp only [e] at q; exact False.elim q
    | some ns =>
      simp only [e] at q
      obtain ⟨a, us, rfl, s, r⟩ := hx.tup w
      rw [ints_eq e] at r
      have := r.toInts
      subst this
      refine ⟨a, ns, rfl, .inr s, fun ns' l hp ho hl => ?_⟩
      have e2 : ns' = isort ns := sorted_uniq (hp.trans (isort_perm ns).symm) ho (isort_sorted ns)
      rw [e2]
      exact (post_pure q) _ g _ rfl (Stp.laid w hl) ⟨l, rfl, ⟨_, upd_same, .ofInts _⟩, w.freeG hl, w.freeA hl, hl⟩
  | _ => exact False.elim q
theorem en_sorted (B : Blt S "sorted" (.builtin "sorted")) (ha : EL S ρ a ma) (hs : NoStar [a] := by intro _; rfl) : EN S ρ (.Call (.Name "sorted" p) [a] [] pos) (ma >>= sortedD) := ex_b1 back_RN (fun Y _ => cr_sortA) op_sortedD B ha hs
theorem en_sortedRev {kpos : Pos} {j : Nat} {cpos : Pos} (B : Blt S "sorted" (.builtin "sorted")) (ha : EL S ρ a ma) (hs : NoStar [a] := by intro _; rfl)
    (hk1 : ∀ env : Env, ((backToKw pos (keywordEach [⟨some "reverse", .Constant (.bool true) j cpos, kpos⟩] env)).all (·.1.isSome)) = true := by intro _; rfl) :
    EN S ρ (.Call (.Name "sorted" p) [a] [⟨some "reverse", .Constant (.bool true) j cpos, kpos⟩] pos) (ma >>= sortedRevD) := fun Y ok =>
  (pe_callBK (X := S.cx Y) (cr_sortedRev (b := true)) B.gl B.mg B.boot (pa_cons (ha Y ok) pa_nil (hs _)) (pk_cons pe_bl pk_nil) B.n1 B.n2 (he := by rw [hs _]; rfl) (hpl := by rw [hs _]; rfl)).pre fun σ H Q ⟨F, g, E, q⟩ =>
    rdX.bind E q fun x v g' H' s E' r q => by
      cases x with
      | lst ds =>
        unfold sortedRevD at q
        cases e : dints ds with
        | none => simp only [e] at q; exact False.elim q
        | some ns =>
          simp only [e] at q
          obtain ⟨a, rfl, s3, _⟩ := lst_ints E'.wf r e
          refine ⟨a, ns, rfl, rfl, s3, fun ns' l hp ho hl => ?_⟩
          have ho : ns'.Pairwise (· ≥ ·) := ho
          have e2 : ns'.reverse = isort ns := sorted_uniq ((List.reverse_perm _).trans (hp.trans (isort_perm ns).symm)) (List.pairwise_reverse.mpr ho) (isort_sorted ns)
          have e3 : ns' = (isort ns).reverse := by rw [← e2, List.reverse_reverse]
          rw [e3]
          exact (post_pure q) _ g' _ rfl (s.trans E.wf (Stp.laid E'.wf hl)) ⟨l, rfl, ⟨_, upd_same, .ofInts _⟩, E'.wf.freeG hl, E'.wf.freeA hl, s.none_of E.wf hl⟩
      | _ => exact False.elim q
end
end DL
namespace DL
open PySem PySem.Spec PyProof.Rows L2
/-! ### what is walked -/
/-- later: what was frozen is there -/
structure Ltr (p : Pg) (g1 g : Gs) : Prop where
  gle : ∀ a o, g1.G a = some o → g.G a = some o
  aml : g1.am <+: g.am
theorem Stp.ltr {p : Pg} {g g' : Gs} {H H' : Hp} (s : Stp p g H g' H') : Ltr p g g' := ⟨s.gle, s.aml⟩
theorem Ltr.refl {p : Pg} (g : Gs) : Ltr p g g := ⟨fun _ _ e => e, List.prefix_refl _⟩
theorem Ltr.trans {p : Pg} {g g' g'' : Gs} (a : Ltr p g g') (b : Ltr p g' g'') : Ltr p g g'' := ⟨fun x o e => b.gle x o (a.gle x o e), a.aml.trans b.aml⟩
abbrev Tm := Gs → Hp → Prop
structure Wk (p : Pg) (T : Tm) (J : It) (ds : List D) : Prop where
  goes : ∀ i g H, i < ds.length → Wf p g H → T g H → J.go i H
  stops : ∀ g H, Wf p g H → T g H → J.stop ds.length H
  yields : ∀ i g H x H', i < ds.length → Wf p g H → T g H → J.yld i H x H' → ∃ g' d, g'.st = g.st ∧ Stp p g H g' H' ∧ ds[i]? = some d ∧ p.Rp g' x d
def rdI (S : Sta) (Y : Dyn) (ρ : Ev) (T : Gs → Hp → Tm) (m : M (List D)) : TI := fun σ H R => ∃ F g, ER S.pg F ρ σ g H ∧
  (m g.st).Post (fun ds st' => ∀ J g' H', g'.st = st' → Stp S.pg g H g' H' → Wk S.pg (T g' H') J ds → R J H') (Px S Y g H)
def EI (S : Sta) (ρ : Ev) (T : Gs → Hp → Tm) (tg it : Expr) (m : M (List D)) : Prop := ∀ Y, OkY S Y → PI (S.cx Y) tg it (rdI S Y ρ T m)
/-- as long as nothing is written -/
abbrev TS' (p : Pg) : Gs → Hp → Tm := fun g H g2 H2 => Stp p g H g2 H2
/-- as long as nothing frozen is written: always -/
abbrev TL (p : Pg) : Gs → Hp → Tm := fun g _ g2 _ => Ltr p g g2
theorem _root_.L2.PI.pre {X : Cx} {tg it : Expr} {t t' : TI} (h : PI X tg it t) (k : ∀ σ H R, t' σ H R → t σ H R) : PI X tg it t' :=
  ⟨fun pins s σ H R I q => h.run pins s σ H R I (k σ H R q)⟩
theorem _root_.L2.PI.or {X : Cx} {tg it : Expr} {t t' : TI} (h : PI X tg it t) (h' : PI X tg it t') : PI X tg it (fun σ H R => t σ H R ∨ t' σ H R) :=
  ⟨fun pins s σ H R I q => q.elim (h.run pins s σ H R I) (h'.run pins s σ H R I)⟩
theorem Wk.weak {p : Pg} {T T' : Tm} {J : It} {ds : List D} (w : Wk p T J ds) (h : ∀ g H, T' g H → T g H) : Wk p T' J ds :=
  ⟨fun i g H a b c => w.goes i g H a b (h g H c), fun g H b c => w.stops g H b (h g H c), fun i g H x H' a b c d => w.yields i g H x H' a b (h g H c) d⟩
section
variable {S : Sta} {ρ : Ev} {a b c tg it e : Expr} {ma mb mc m : M D} {mi : M (List D)} {pos p : Pos}
/-- a walk that always goes goes as long as nothing is written -/
theorem ei_weak (h : EI S ρ (TL S.pg) tg it mi) : EI S ρ (TS' S.pg) tg it mi := fun Y ok => (h Y ok).pre fun σ H R ⟨F, g, E, q⟩ =>
  ⟨F, g, E, q.imp (fun ds st' q J g' H' e s w => q J g' H' e s (w.weak fun _ _ h => h.ltr)) fun _ _ q => q⟩
/-- a sequence that stands as long as T -/
def SqK (p : Pg) (T : Tm) (v : V) : D → Prop
  | .tup es => ∃ a us, v = .ref a ∧ ∀ g H, Wf p g H → T g H → SqT p.K H a us ∧ p.Rps g us es
  | .lst es => ∃ a us, v = .ref a ∧ ∀ g H, Wf p g H → T g H → SqL p.K H a us ∧ p.Rps g us es
  | .rls es => ∃ a us, v = .ref a ∧ ∀ g H, Wf p g H → T g H → SqL p.K H a us ∧ p.Rps g us es
  | _ => True
theorem sq_strong {p : Pg} {g : Gs} {H : Hp} {v : V} {d : D} (r : p.Rp g v d) : SqK p (TL p g H) v d := by
  cases r with
  | tup s r => exact ⟨_, _, rfl, fun g2 H2 w l => ⟨sqT_mono (fun x o h => w.sub x o (l.gle x o h)) s, r.mono l.gle l.aml⟩⟩
  | lst s r => exact ⟨_, _, rfl, fun g2 H2 w l => ⟨.inl (.inl (w.sub _ _ (l.gle _ _ s))), r.mono l.gle l.aml⟩⟩
  | rls s r => exact ⟨_, _, rfl, fun g2 H2 w l => ⟨sqL_mono (fun x o h => w.sub x o (l.gle x o h)) s, r.mono l.gle l.aml⟩⟩
  | _ => exact True.intro
theorem SqK.weak {p : Pg} {T T' : Tm} {v : V} {d : D} (h : SqK p T v d) (k : ∀ g H, T' g H → T g H) : SqK p T' v d := by
  cases d with
  | tup es => obtain ⟨a, us, e, h⟩ := h; exact ⟨a, us, e, fun g H w t => h g H w (k g H t)⟩
  | lst es => obtain ⟨a, us, e, h⟩ := h; exact ⟨a, us, e, fun g H w t => h g H w (k g H t)⟩
  | rls es => obtain ⟨a, us, e, h⟩ := h; exact ⟨a, us, e, fun g H w t => h g H w (k g H t)⟩
  | _ => exact True.intro
theorem sq_weak {p : Pg} {g : Gs} {H : Hp} {v : V} {d : D} (w0 : Wf p g H) (r : TopR p g H v d) : SqK p (TS' p g H) v d := by
  rcases r with r | ⟨a, rfl, n, o⟩
  · exact (sq_strong (H := H) r).weak fun _ _ l => l.ltr
  · cases d with
    | lst es =>
      obtain ⟨us, eu, ru⟩ := o
      exact ⟨_, _, rfl, fun g2 H2 w l => ⟨.inl (.inl (l.keep a _ eu n)), ru.mono l.gle l.aml⟩⟩
    | dct es => exact True.intro
    | _ => exact o.elim
theorem wk_tup {p : Pg} {T : Tm} {a : Addr} {us : List V} {ds : List D} (h : ∀ g H, Wf p g H → T g H → SqT p.K H a us ∧ p.Rps g us ds) : Wk p T (Itt p.K a) ds := by
  refine ⟨fun i g H hi w t => ?_, fun g H w t => ?_, fun i g H x H' hi w t y => ?_⟩
  · obtain ⟨s, r⟩ := h g H w t
    have hl : i < us.length := by rw [r.length]; exact hi
    exact walk_tup.goes i H hl s
  · obtain ⟨s, r⟩ := h g H w t
    rw [← r.length]
    exact walk_tup.stops H s
  · obtain ⟨s, r⟩ := h g H w t
    have hl : i < us.length := by rw [r.length]; exact hi
    obtain ⟨e1, e2⟩ := walk_tup.yields i H x H' hl s y
    subst e1
    obtain ⟨d, h1, h2⟩ := r.getV e2
    exact ⟨g, d, rfl, .refl w, h1, h2⟩
theorem wk_lst {p : Pg} {T : Tm} {a : Addr} {us : List V} {ds : List D} (h : ∀ g H, Wf p g H → T g H → SqL p.K H a us ∧ p.Rps g us ds) : Wk p T (Itl p.K a) ds := by
  refine ⟨fun i g H hi w t => ?_, fun g H w t => ?_, fun i g H x H' hi w t y => ?_⟩
  · obtain ⟨s, r⟩ := h g H w t
    have hl : i < us.length := by rw [r.length]; exact hi
    exact walk_list.goes i H hl s
  · obtain ⟨s, r⟩ := h g H w t
    rw [← r.length]
    exact walk_list.stops H s
  · obtain ⟨s, r⟩ := h g H w t
    have hl : i < us.length := by rw [r.length]; exact hi
    obtain ⟨e1, e2⟩ := walk_list.yields i H x H' hl s y
    subst e1
    obtain ⟨d, h1, h2⟩ := r.getV e2
    exact ⟨g, d, rfl, .refl w, h1, h2⟩
theorem ei_core {T : Gs → Hp → Tm} {R : Rel} (hT : ∀ (g : Gs) (H : Hp) (g' : Gs) (H' : Hp) (v : V) (d : D), Stp S.pg g H g' H' → R H g' H' v d → SqK S.pg (T g' H') v d) (hT0 : ∀ (g : Gs) (H : Hp), Wf S.pg g H → T g H g H)
    (ha : EX S ρ R a ma) : EI S ρ T tg a (ma >>= items) := fun Y ok =>
  (PI.or (pi_tup (ha Y ok)) (pi_list (ha Y ok))).pre fun σ H Q ⟨F, g, E, q⟩ => by
    have q := post_bind q
    -- which of both: by the value that comes
    cases e : ma g.st with
    | stuck => rw [e] at q; exact False.elim q
    | exc c st' =>
      refine .inl ⟨F, g, E, ?_⟩
      rw [e] at q ⊢
      exact q
    | ok d st' =>
      rw [e] at q
      cases d with
      | tup es =>
        refine .inl ⟨F, g, E, ?_⟩
        rw [e]
        intro v g' H' e1 s r
        obtain ⟨a, us, rfl, h⟩ := hT g H g' H' v _ s r
        exact ⟨a, rfl, ⟨us, (h g' H' s.wf (hT0 g' H' s.wf)).1⟩, (post_pure q) _ g' H' e1 s (wk_tup h)⟩
      | lst es =>
        refine .inr ⟨F, g, E, ?_⟩
        rw [e]
        intro v g' H' e1 s r
        obtain ⟨a, us, rfl, h⟩ := hT g H g' H' v _ s r
        exact ⟨a, rfl, ⟨us, (h g' H' s.wf (hT0 g' H' s.wf)).1⟩, (post_pure q) _ g' H' e1 s (wk_lst h)⟩
      | rls es =>
        refine .inr ⟨F, g, E, ?_⟩
        rw [e]
        intro v g' H' e1 s r
        obtain ⟨a, us, rfl, h⟩ := hT g H g' H' v _ s r
        exact ⟨a, rfl, ⟨us, (h g' H' s.wf (hT0 g' H' s.wf)).1⟩, (post_pure q) _ g' H' e1 s (wk_lst h)⟩
      | _ => exact False.elim q
/-- a value's items: a value that is never written (in any loop), one that is read now (in a comprehension) -/
theorem ei_seq (ha : EE S ρ a ma) : EI S ρ (TL S.pg) tg a (ma >>= items) := ei_core (fun _ _ _ _ _ _ _ r => sq_strong r) (fun g _ _ => .refl g) ha
theorem ei_read (ha : EL S ρ a ma) : EI S ρ (TS' S.pg) tg a (ma >>= items) := ei_core (fun _ _ _ _ _ _ s r => sq_weak s.wf r) (fun g _ w => .refl w) ha
/-- a name that is not the def's own -/
abbrev Glb (S : Sta) (x : Str) : Prop := S.sc.names.lookup x = some .globalImplicit
/-! range -/
def rangeL (lo : Int) (n : Nat) : List D := (List.range n).map fun i => .int (lo + (i : Nat))
theorem rangeL_len (lo : Int) (n : Nat) : (rangeL lo n).length = n := by unfold rangeL; rw [List.length_map, List.length_range]
theorem wk_range {p : Pg} {T : Tm} {lo : Int} {n : Nat} : Wk p T (Itr lo n) (rangeL lo n) := by
  refine ⟨fun i g H hi w t => ?_, fun g H w t => ?_, fun i g H x H' hi w t y => ?_⟩
  · rw [rangeL_len] at hi; exact hi
  · rw [rangeL_len]; exact Nat.le_refl _
  · rw [rangeL_len] at hi
    obtain ⟨e1, e2⟩ := y
    subst e1
    refine ⟨g, .int (lo + (i : Nat)), rfl, .refl w, ?_, ?_⟩
    · unfold rangeL
      rw [List.getElem?_map, List.getElem?_range hi]
      rfl
    · rw [e2]; exact .int _
def bnd (i : Int) : Bool := decide (-(2 ^ 62) ≤ i ∧ i < 2 ^ 62)
def range1 : D → M (List D)
  | .int j => if bnd j then pure (rangeL 0 j.toNat) else stuck
  | _ => stuck
def range2 : D → D → M (List D)
  | .int i, .int j => if bnd i && bnd j then pure (rangeL i (j - i).toNat) else stuck
  | _, _ => stuck
theorem bnd_ok {i : Int} (h : bnd i = true) : -(2 ^ 62) ≤ i ∧ i < 2 ^ 62 := of_decide_eq_true (p := -(2 ^ 62) ≤ i ∧ i < 2 ^ 62) h
theorem ei_range1 {T : Gs → Hp → Tm} (hg : Glb S "range") (hm : S.pg.mg "range" = none) (ha : EL S ρ a ma) (hs : NoStar [a] := by intro _; rfl) : EI S ρ T tg (.Call (.Name "range" p) [a] [] pos) (ma >>= range1) := fun Y ok =>
  (pi_range1 (X := S.cx Y) hg hm (pa_cons (ha Y ok) pa_nil (hs _)) (hs _)).pre fun σ H Q ⟨F, g, E, q⟩ => rdX.bind E q fun x v g' H' s E' r q => by
    cases x with
    | int j =>
      unfold range1 at q
      by_cases z : bnd j = true
      · simp only [z, if_true] at q
        obtain rfl := r.int
        exact ⟨j, rfl, (bnd_ok z).1, (bnd_ok z).2, (post_pure q) _ g' H' rfl s wk_range⟩
      · simp only [z] at q
        exact False.elim q
    | _ => exact False.elim q
theorem ei_range2 {T : Gs → Hp → Tm} (hg : Glb S "range") (hm : S.pg.mg "range" = none) (ha : EL S ρ a ma) (hb : EL S ρ b mb) (hs : NoStar [a, b] := by intro _; rfl) (hs2 : NoStar [b] := by intro _; rfl) :
    EI S ρ T tg (.Call (.Name "range" p) [a, b] [] pos) (ma >>= fun x => mb >>= fun y => range2 x y) := fun Y ok =>
  (pi_range2 (X := S.cx Y) hg hm (pa_cons (ha Y ok) (pa_cons (hb Y ok) pa_nil (hs2 _)) (by rw [hs2 _]; exact hs _)) (hs _) (hs2 _)).pre fun σ H Q ⟨F, g, E, q⟩ => rdX.bind E q fun x v g' H' s E' r q =>
    rdX.bind E' (q.imp (fun _ _ q => q) fun _ _ q => q.back E.wf s) fun y u g2 H2 s2 E2 r2 q => by
      cases x with
      | int i =>
        cases y with
        | int j =>
          unfold range2 at q
          by_cases z : (bnd i && bnd j) = true
          · simp only [z, if_true] at q
            rw [Bool.and_eq_true] at z
            obtain rfl := r.int
            obtain rfl := r2.int
            exact ⟨i, j, rfl, ⟨(bnd_ok z.1).1, (bnd_ok z.1).2, (bnd_ok z.2).1, (bnd_ok z.2).2⟩, (post_pure q) _ g2 H2 rfl (s.trans E.wf s2) wk_range⟩
          · simp only [z] at q
            exact False.elim q
        | _ => exact False.elim q
      | _ => exact False.elim q
/-! zip, enumerate: new pairs -/
def zipL : List D → List D → List D
  | x :: xs, y :: ys => .tup [x, y] :: zipL xs ys
  | _, _ => []
def enumL (i : Nat) : List D → List D
  | [] => []
  | x :: xs => .tup [.int (i : Nat), x] :: enumL (i + 1) xs
theorem zipL_get : ∀ {xs ys : List D} {i : Nat} {x y : D}, xs[i]? = some x → ys[i]? = some y → (zipL xs ys)[i]? = some (.tup [x, y])
  | [], _, i, x, y, h, _ => by simp at h
  | _ :: _, [], i, x, y, _, h => by simp at h
  | a :: r, b :: t, 0, x, y, h, k => by simp at h k; subst h; subst k; rfl
  | a :: r, b :: t, i + 1, x, y, h, k => by
    rw [zipL, List.getElem?_cons_succ]
    exact zipL_get (by simpa using h) (by simpa using k)
theorem zipL_len : ∀ (xs ys : List D), (zipL xs ys).length = min xs.length ys.length
  | [], ys => by cases ys <;> simp [zipL]
  | _ :: _, [] => by simp [zipL]
  | a :: r, b :: t => by
    rw [zipL, List.length_cons, List.length_cons, List.length_cons, zipL_len r t]
    omega
theorem enumL_len : ∀ (k : Nat) (xs : List D), (enumL k xs).length = xs.length
  | _, [] => rfl
  | k, _ :: r => by rw [enumL, List.length_cons, List.length_cons, enumL_len]
theorem enumL_get : ∀ {k : Nat} {xs : List D} {i : Nat} {x : D}, xs[i]? = some x → (enumL k xs)[i]? = some (.tup [.int ((k + i : Nat) : Int), x])
  | _, [], i, x, h => by simp at h
  | k, a :: r, 0, x, h => by simp at h; subst h; rfl
  | k, a :: r, i + 1, x, h => by
    rw [enumL, List.getElem?_cons_succ, enumL_get (k := k + 1) (by simpa using h)]
    have : k + 1 + i = k + (i + 1) := by omega
    rw [this]
end
end DL
namespace DL
open PySem PySem.Spec PyProof.Rows L2
/-! ### targets -/
def setS : L2.St → List Nat → List V → L2.St
  | σ, i :: ix, w :: ws => setS (σ.set i (some w)) ix ws
  | σ, _, _ => σ
def setE : Ev → List Nat → List D → Ev
  | ρ, i :: ix, d :: ds => setE (ρ.set i (.sh d)) ix ds
  | ρ, _, _ => ρ
theorem ER.setMany {p : Pg} {F : Fm} {g : Gs} {H : Hp} : ∀ (ix : List Nat) {ws : List V} {ds : List D} {ρ : Ev} {σ : L2.St}, ER p F ρ σ g H → p.Rps g ws ds → ER p F (setE ρ ix ds) (setS σ ix ws) g H
  | [], _, _, _, _, E, _ => by unfold setE setS; exact E
  | i :: ix, _, _, _, _, E, .nil => by unfold setE setS; exact E
  | i :: ix, _, _, _, _, E, .cons r t => by
    unfold setE setS
    exact ER.setMany ix (E.set r) t
/-- a target takes a value apart: u gives the parts, ix are their slots -/
def TG (S : Sta) (tg : Expr) (u : D → M (List D)) (ix : List Nat) : Prop := ∀ Y, OkY S Y → PG (S.cx Y) tg (fun v σ H Q => ∃ g d, Wf S.pg g H ∧ S.pg.Rp g v d ∧ (u d g.st).Post (fun ds st' => st' = g.st → ∀ ws, S.pg.Rps g ws ds → Q (setS σ ix ws) H) fun _ _ => False)
def TGs (S : Sta) (tgs : List Expr) (u : List D → M (List D)) (ix : List Nat) : Prop := ∀ Y, OkY S Y → PGs (S.cx Y) tgs (fun vs σ H Q => ∃ g ds, Wf S.pg g H ∧ S.pg.Rps g vs ds ∧ (u ds g.st).Post (fun ds st' => st' = g.st → ∀ ws, S.pg.Rps g ws ds → Q (setS σ ix ws) H) fun _ _ => False)
/-- a part that never touches the store -/
structure Pure1 {α β : Type} (u : α → M β) : Prop where
  st : ∀ d s b s', u d s = .ok b s' → s' = s
  nx : ∀ d s c s', u d s ≠ .exc c s'
def nm : D → M (List D) := fun d => pure [d]
def un0 : List D → M (List D)
  | [] => pure []
  | _ => stuck
def unc (u : D → M (List D)) (us : List D → M (List D)) : List D → M (List D)
  | d :: ds => u d >>= fun a => us ds >>= fun b => pure (a ++ b)
  | _ => stuck
def unT (us : List D → M (List D)) : D → M (List D)
  | .tup ds => us ds
  | _ => stuck
theorem _root_.L2.PG.pre {X : Cx} {tg : Expr} {t t' : L2.TG} (h : PG X tg t) (k : ∀ v σ H Q, t' v σ H Q → t v σ H Q) : PG X tg t' :=
  ⟨fun pins s σ H v u Q I r q => h.run pins s σ H v u Q I r (k v σ H Q q)⟩
theorem _root_.L2.PGs.pre {X : Cx} {tg : List Expr} {t t' : L2.TGs} (h : PGs X tg t) (k : ∀ v σ H Q, t' v σ H Q → t v σ H Q) : PGs X tg t' :=
  ⟨fun pins s σ H v u Q I r q => h.run pins s σ H v u Q I r (k v σ H Q q)⟩
theorem setS_append : ∀ (ix jx : List Nat) (σ : L2.St) (ws zs : List V), ws.length = ix.length → setS σ (ix ++ jx) (ws ++ zs) = setS (setS σ ix ws) jx zs
  | [], jx, σ, [], zs, _ => by
    rw [List.nil_append, List.nil_append]
    conv => rhs; arg 1; unfold setS
  | [], jx, σ, _ :: _, zs, h => by simp at h
  | i :: ix, jx, σ, [], zs, h => by simp at h
  | i :: ix, jx, σ, w :: ws, zs, h => by
    rw [List.cons_append, List.cons_append]
    conv => lhs; unfold setS
    conv => rhs; arg 1; unfold setS
    exact setS_append ix jx _ ws zs (by simpa using h)
section
variable {S : Sta} {ρ : Ev} {a b c tg it e elt : Expr} {tgs : List Expr} {ma mb mc m : M D} {mi : M (List D)} {pos p : Pos}
theorem tg_name (i : Nat) {x : Str} (hnd : S.N.Nodup) (hN : S.N[i]? = some x) (hx : Loc S.sc x) (hf : S.fn x = true ∨ S.sc.names.lookup x = some .local) : TG S (.Name x pos) nm [i] := fun Y ok =>
  (pg_name (X := S.cx Y) (i := i) hnd hN hx hf).pre fun v σ H Q ⟨g, d, w, r, q⟩ => (post_pure q) rfl [v] (.cons r .nil)
theorem tgs_nil : TGs S [] un0 [] := fun Y ok => pgs_nil.pre fun vs σ H Q ⟨g, ds, w, r, q⟩ => by
  cases r with
  | nil => exact ⟨rfl, (post_pure q) rfl [] .nil⟩
  | cons _ _ => exact False.elim q
theorem tgs_cons {u : D → M (List D)} {us : List D → M (List D)} {ix jx : List Nat} (pu : Pure1 u) (pus : Pure1 us) (hlen : ∀ d s ds s', u d s = .ok ds s' → ds.length = ix.length) (h1 : TG S tg u ix) (h2 : TGs S tgs us jx)
    (hs : ∀ env : Env, (assignEach (tg :: tgs) env).map (·.2) = assign tg env :: (assignEach tgs env).map (·.2)) : TGs S (tg :: tgs) (unc u us) (ix ++ jx) := fun Y ok =>
  (pgs_cons (h1 Y ok) (h2 Y ok) (hs _)).pre fun vs σ H Q ⟨g, ds, w, r, q⟩ => by
    cases r with
    | nil => exact False.elim q
    | @cons v0 vr d ds r rr =>
      refine ⟨_, _, rfl, g, _, w, r, ?_⟩
      have q := post_bind (m := u d) q
      cases e1 : u d g.st with
      | stuck => rw [e1] at q; exact q
      | exc c s => rw [e1] at q; exact q
      | ok as s1 =>
        rw [e1] at q
        have es := pu.st _ _ _ _ e1
        have el := hlen _ _ _ _ e1
        intro _ ws rw1
        refine ⟨g, _, w, rr, ?_⟩
        subst es
        have q := post_bind q
        refine q.imp (fun bs s2 q e2 zs rz => ?_) fun _ _ q => q
        have q := (post_pure q) e2 (ws ++ zs) (rw1.append rz)
        rw [setS_append _ _ _ _ _ (by rw [rw1.length, el])] at q
        exact q
theorem tg_tup {us : List D → M (List D)} {ix : List Nat} {n : Nat} {k : Nat} (h : TGs S tgs us ix) (hn : ∀ env : Env, (assignEach tgs env).length = n) (hl : ∀ ds s r s', us ds s = .ok r s' → ds.length = n) (hst : ∀ env : Env, (assignEach tgs env).findIdx? (·.1) = none) : TG S (.Tuple tgs k pos) (unT us) ix := fun Y ok =>
  (pg_tup (X := S.cx Y) (n := n) rfl (h Y ok) (hn _) (hst _)).pre fun v σ H Q ⟨g, d, w, r, q⟩ => by
    cases d with
    | tup ds =>
      cases r with
      | tup s r =>
        refine ⟨_, _, rfl, sqT_mono w.sub s, ?_, g, ds, w, r, q⟩
        rw [r.length]
        cases e : us ds g.st with
        | ok a s' => exact hl _ _ _ _ e
        | exc c s' => have q : (us ds g.st).Post _ _ := q; rw [e] at q; exact q.elim
        | stuck => have q : (us ds g.st).Post _ _ := q; rw [e] at q; exact q.elim
    | _ => exact False.elim q
/-! the parts' lemmas -/
theorem nm_pure : Pure1 nm where
  st d s b s' h := by
    injection h with _ h
    exact h.symm
  nx d s c s' h := by cases h
theorem un0_pure : Pure1 un0 where
  st d s b s' h := by
    cases d with
    | nil => injection h with _ h; exact h.symm
    | cons _ _ => cases h
  nx d s c s' h := by cases d <;> cases h
theorem unc_pure {u : D → M (List D)} {us : List D → M (List D)} (pu : Pure1 u) (pus : Pure1 us) : Pure1 (unc u us) where
  st d s b s' h := by
    cases d with
    | nil => cases h
    | cons x r =>
      have h : (u x >>= fun a => us r >>= fun b => pure (a ++ b)) s = .ok b s' := h
      rw [bind_run] at h
      cases e : u x s with
      | stuck => rw [e] at h; cases h
      | exc c t => rw [e] at h; cases h
      | ok a t =>
        rw [e] at h
        have h : (us r >>= fun b => pure (a ++ b)) t = .ok b s' := h
        rw [bind_run] at h
        cases e2 : us r t with
        | stuck => rw [e2] at h; cases h
        | exc c t => rw [e2] at h; cases h
        | ok a2 t2 =>
          rw [e2] at h
          injection h with _ h
          rw [← h, pus.st _ _ _ _ e2, pu.st _ _ _ _ e]
  nx d s c s' h := by
    cases d with
    | nil => cases h
    | cons x r =>
      have h : (u x >>= fun a => us r >>= fun b => pure (a ++ b)) s = .exc c s' := h
      rw [bind_run] at h
      cases e : u x s with
      | stuck => rw [e] at h; cases h
      | exc c t => exact pu.nx _ _ _ _ e
      | ok a t =>
        rw [e] at h
        have h : (us r >>= fun b => pure (a ++ b)) t = .exc c s' := h
        rw [bind_run] at h
        cases e2 : us r t with
        | stuck => rw [e2] at h; cases h
        | exc c t => exact pus.nx _ _ _ _ e2
        | ok a2 t2 => rw [e2] at h; cases h
theorem unT_pure {us : List D → M (List D)} (pus : Pure1 us) : Pure1 (unT us) where
  st d s b s' h := by
    cases d with
    | tup ds => exact pus.st _ _ _ _ h
    | _ => cases h
  nx d s c s' h := by
    cases d with
    | tup ds => exact pus.nx _ _ _ _ h
    | _ => cases h
/-! lengths of the parts -/
def Len1 (u : D → M (List D)) (n : Nat) : Prop := ∀ d s ds s', u d s = .ok ds s' → ds.length = n
def LenS (us : List D → M (List D)) (k n : Nat) : Prop := ∀ d s ds s', us d s = .ok ds s' → d.length = k ∧ ds.length = n
theorem nm_len : Len1 nm 1 := fun d s b s' h => by injection h with h _; rw [← h]; rfl
theorem un0_len : LenS un0 0 0 := fun d s b s' h => by
  cases d with
  | nil => injection h with h _; rw [← h]; exact ⟨rfl, rfl⟩
  | cons _ _ => cases h
theorem unc_len {u : D → M (List D)} {us : List D → M (List D)} {k n l : Nat} (pu : Len1 u n) (pus : LenS us k l) : LenS (unc u us) (k + 1) (n + l) := fun d s b s' h => by
  cases d with
  | nil => cases h
  | cons x r =>
    have h : (u x >>= fun a => us r >>= fun b => pure (a ++ b)) s = .ok b s' := h
    rw [bind_run] at h
    cases e : u x s with
    | stuck => rw [e] at h; cases h
    | exc c t => rw [e] at h; cases h
    | ok a t =>
      rw [e] at h
      have h : (us r >>= fun b => pure (a ++ b)) t = .ok b s' := h
      rw [bind_run] at h
      cases e2 : us r t with
      | stuck => rw [e2] at h; cases h
      | exc c t => rw [e2] at h; cases h
      | ok a2 t2 =>
        rw [e2] at h
        injection h with h _
        obtain ⟨h1, h2⟩ := pus _ _ _ _ e2
        rw [← h, List.length_cons, List.length_append, h1, h2, pu _ _ _ _ e]
        exact ⟨rfl, rfl⟩
theorem unT_len {us : List D → M (List D)} {k n : Nat} (pus : LenS us k n) : Len1 (unT us) n := fun d s b s' h => by
  cases d with
  | tup ds => exact (pus _ _ _ _ h).2
  | _ => cases h
/-! ### comprehensions -/
def noexc {α : Type} (m : M α) : M α := fun s => match m s with
  | .ok a s' => .ok a s'
  | _ => .stuck
def addO : Option D → List D → List D
  | some d, t => d :: t
  | none, t => t
def compM (f : D → M (Option D)) : List D → M (List D)
  | [] => pure []
  | x :: r => noexc (f x) >>= fun o => compM f r >>= fun t => pure (addO o t)
theorem noexc_post {α β : Type} {m : M α} {k : α → M β} {s : Store} {ok : β → Store → Prop} {ex : Nat → Store → Prop} (q : ((noexc m >>= k) s).Post ok ex) : (m s).Post (fun a s' => (k a s').Post ok ex) fun _ _ => False := by
  rw [bind_run] at q
  unfold noexc at q
  cases e : m s with
  | ok a s' => rw [e] at q; exact q
  | exc c s' => rw [e] at q; exact q
  | stuck => rw [e] at q; exact q
theorem compM_noexc (f : D → M (Option D)) : ∀ (xs : List D) (s : Store) (c : Nat) (s' : Store), compM f xs s ≠ .exc c s'
  | [], s, c, s', h => by cases h
  | x :: r, s, c, s', h => by
    unfold compM at h
    rw [bind_run] at h
    unfold noexc at h
    cases e : f x s with
    | exc c t => rw [e] at h; cases h
    | stuck => rw [e] at h; cases h
    | ok o t =>
      rw [e] at h
      have h : (compM f r >>= fun t => pure (addO o t)) t = .exc c s' := h
      rw [bind_run] at h
      cases e2 : compM f r t with
      | exc c t2 => exact compM_noexc f r _ _ _ e2
      | stuck => rw [e2] at h; cases h
      | ok o t2 => rw [e2] at h; cases h
def wipeE : Ev → List Nat → Ev
  | ρ, [] => ρ
  | ρ, v :: vs => (wipeE ρ vs).set v .un
theorem wipeE_len (ρ : Ev) : ∀ vs : List Nat, (wipeE ρ vs).length = ρ.length
  | [] => rfl
  | _ :: vs => by unfold wipeE; rw [List.length_set, wipeE_len ρ vs]
theorem ER.unset {p : Pg} {F : Fm} {ρ : Ev} {σ : L2.St} {g : Gs} {H : Hp} (E : ER p F ρ σ g H) (i : Nat) (o : Option V) : ER p F (ρ.set i .un) (σ.set i o) g H := by
  refine ⟨by rw [List.length_set, List.length_set, E.len], fun j s e => ?_, fun x y d1 e1 h1 h2 h3 => ?_, E.fr, E.fw⟩
  · by_cases z : i = j
    · subst z
      have hl : i < ρ.length := by
        have := (List.getElem?_eq_some_iff.mp e).1
        rwa [List.length_set] at this
      rw [List.getElem?_set_self hl] at e
      cases e
      cases (σ.set i o)[i]?.join <;> exact True.intro
    · rw [List.getElem?_set_ne z] at e
      rw [List.getElem?_set_ne z]
      exact E.sl j s e
  · have ne : ∀ {c : Nat} {x : D}, (ρ.set i .un)[c]? = some (.ow x) → i ≠ c ∧ ρ[c]? = some (.ow x) := fun {c x} h => by
      by_cases z : i = c
      · subst z
        have hl : i < ρ.length := by
          have := (List.getElem?_eq_some_iff.mp h).1
          rwa [List.length_set] at this
        rw [List.getElem?_set_self hl] at h; cases h
      · rw [List.getElem?_set_ne z] at h; exact ⟨z, h⟩
    obtain ⟨n1, h1⟩ := ne h1
    obtain ⟨n2, h2⟩ := ne h2
    rw [List.getElem?_set_ne n1, List.getElem?_set_ne n2] at h3
    exact E.dist x y d1 e1 h1 h2 h3
theorem ER.wipe {p : Pg} {F : Fm} {ρ : Ev} {σ : L2.St} {g : Gs} {H : Hp} (E : ER p F ρ σ g H) : ∀ vs : List Nat, ER p F (wipeE ρ vs) (L2.wipe σ vs) g H
  | [] => E
  | v :: vs => (E.wipe vs).unset v none
theorem wipe_get (σ : L2.St) : ∀ (vs : List Nat) (j : Nat), (L2.wipe σ vs)[j]? = if j ∈ vs then σ[j]?.map (fun _ => none) else σ[j]?
  | [], j => by simp [L2.wipe]
  | v :: vs, j => by
    unfold L2.wipe
    by_cases z : v = j
    · subst z
      by_cases hl : v < σ.length
      · rw [List.getElem?_set_self (by rw [wipe_length]; exact hl), if_pos List.mem_cons_self, List.getElem?_eq_getElem hl]
        rfl
      · rw [List.getElem?_eq_none (by rw [List.length_set, wipe_length]; omega), if_pos List.mem_cons_self, List.getElem?_eq_none (by omega)]
        rfl
    · rw [List.getElem?_set_ne z, wipe_get σ vs j]
      have : (j ∈ v :: vs) = (j ∈ vs) := by
        rw [List.mem_cons]
        exact propext ⟨fun h => h.elim (fun e => absurd e.symm z) id, .inr⟩
      simp only [this]
theorem setS_len : ∀ (ix : List Nat) (ws : List V) (σ : L2.St), (setS σ ix ws).length = σ.length
  | [], _, _ => by unfold setS; rfl
  | _ :: _, [], _ => by unfold setS; rfl
  | i :: ix, w :: ws, σ => by unfold setS; rw [setS_len ix ws, List.length_set]
theorem setS_ne : ∀ (ix : List Nat) (ws : List V) (σ : L2.St) (j : Nat), j ∉ ix → (setS σ ix ws)[j]? = σ[j]?
  | [], _, _, _, _ => by unfold setS; rfl
  | _ :: _, [], _, _, _ => by unfold setS; rfl
  | i :: ix, w :: ws, σ, j, h => by
    unfold setS
    rw [setS_ne ix ws _ j (fun z => h (List.mem_cons_of_mem _ z)), List.getElem?_set_ne (fun z => h (by rw [z]; exact List.mem_cons_self))]
theorem wipe_setS (σ : L2.St) (vs ix : List Nat) (ws : List V) (h : ∀ i ∈ ix, i ∈ vs) : L2.wipe (setS (L2.wipe σ vs) ix ws) vs = L2.wipe σ vs := by
  refine List.ext_getElem? fun j => ?_
  rw [wipe_get, wipe_get]
  by_cases z : j ∈ vs
  · rw [if_pos z, if_pos z]
    have hl : (setS (L2.wipe σ vs) ix ws).length = σ.length := by rw [setS_len, wipe_length]
    by_cases hj : j < σ.length
    · rw [List.getElem?_eq_getElem (by rw [hl]; exact hj), List.getElem?_eq_getElem hj]
      rfl
    · rw [List.getElem?_eq_none (by rw [hl]; omega), List.getElem?_eq_none (by omega)]
  · rw [if_neg z, if_neg z, setS_ne _ _ _ _ (fun q => z (h j q)), wipe_get, if_neg z]
/-- the block of a comprehension -/
def Sta.blk (S : Sta) (scope : Scope) : Sta := { S with sc := relS scope S.sc, fn := fun x => scope.names.lookup x == some .cell }
def Dyn.blk (Y : Dyn) (S : Sta) (s : Shared) (H : Hp) (scope : Scope) (C : Addr) (cl : List (Str × Addr)) (fp : List Addr) : Dyn where
  A := Y.A
  s0 := s
  H0 := H
  env := compEnvC scope cl C (S.cx Y).env
  outer := Y.stack
  stack := Y.stack
  ex := fp
  pn := []
  xe := fun _ _ => False
  W := fun _ _ _ => False
theorem blk_eq {Y : Dyn} {s : Shared} {H : Hp} {scope : Scope} {C : Addr} {cl : List (Str × Addr)} {fp : List Addr} : (S.blk scope).cx (Y.blk S s H scope C cl fp) = (S.cx Y).blk s H scope (compEnvC scope cl C (S.cx Y).env) fp := rfl
theorem blk_ok {Y : Dyn} (ok : OkY S Y) {s : Shared} {H : Hp} {scope : Scope} {C : Addr} {cl : List (Str × Addr)} {fp : List Addr} : OkY (S.blk scope) (Y.blk S s H scope C cl fp) :=
  ⟨ok.room, PassesOwn.never, takes0⟩
/-- the tests of a clause -/
def ETs (S : Sta) (ρ : Ev) (ifs : List Expr) (m : M Bool) : Prop := ∀ Y, OkY S Y → PTs (S.cx Y) ifs (rdT S Y ρ m)
theorem ets_nil : ETs S ρ [] (pure true) := fun Y ok => ⟨fun pins s σ H Q I ⟨F, g, E, q⟩ => (pts_nil (X := S.cx Y)).run pins s σ H Q I ((post_pure q) g H rfl (.refl E.wf))⟩
theorem ets_one {m : M Bool} (h : ET S ρ c m) : ETs S ρ [c] m := fun Y ok => ⟨fun pins s σ H Q I q => (pts_one (h Y ok)).run pins s σ H Q I q⟩
/-- an expression that may stand right of name = .. too -/
def CompE (S : Sta) (ρ : Ev) (e : Expr) (m : M D) : Prop := ∃ t : Dyn → TE, (∀ Y, OkY S Y → PE (S.cx Y) e (t Y)) ∧ (∀ Y, OkY S Y → ∀ σ H Q, rdX S Y ρ (RN S.pg) m σ H Q → t Y σ H Q) ∧
  ∀ Y, OkY S Y → ∀ (i : Nat) (y : Str) (py spos : Pos), S.N[i]? = some y → S.sc.names.lookup y = some .local → (∀ env : Env, env.scope = S.sc → swapsWith e (some (.Name y py)) spos.line env = pure true) →
    PS (S.cx Y) (.Assign [.Name y py] e spos) (tAsg (t Y) (gName i))
theorem en_comp (h : CompE S ρ e m) : EN S ρ e m := fun Y ok => by
  obtain ⟨t, h1, h2, _⟩ := h
  exact (h1 Y ok).pre (h2 Y ok)
theorem upd_new {p : Pg} {g1 g2 : Gs} {H1 H2 : Hp} {a : Addr} {o : HO} (s : Stp p g1 H1 g2 H2) (hn : H1 a = none) (hG : g2.G a = none) (ha : a ∉ g2.am) (hm : ∃ xs, H2 a = some (.lst xs)) : Stp p g1 H1 g2 (upd H2 a o) := by
  refine ⟨s.gle, s.aml, fun b u e n => ?_, s.gnew, s.amn, ⟨fun b u e => ?_, s.wf.amG, s.wf.nd, s.wf.len, fun k b c e1 e2 => ?_⟩⟩
  · rw [upd_ne (ne_of_none e hn)]
    exact s.keep b u e n
  · rw [upd_ne (ne_of_none e hG)]
    exact s.wf.sub b u e
  · have hb : b ≠ a := fun z => ha (by rw [← z]; exact List.mem_of_getElem? e1)
    have h := s.wf.cell k b c e1 e2
    obtain ⟨xs, hm⟩ := hm
    refine h.mono (fun _ _ e => e) (List.prefix_refl _) (upd_ne hb) fun dx e => ?_
    rw [upd_ne (ne_of e hm (by intro z; cases z))]
    exact e
/-- a list comprehension with one clause -/
def lcM (mi : M (List D)) (u : D → M (List D)) (mt : List D → M Bool) (me : List D → M D) : M D :=
  mi >>= fun xs => compM (fun x => u x >>= fun ds => mt ds >>= fun b => if b = true then me ds >>= fun d => pure (some d) else pure none) xs >>= mkL
theorem lc_read {own : List (Str × Nat)} {u : D → M (List D)} {ix : List Nat} {mt : List D → M Bool} {me : List D → M D} {tt : Dyn → TT} {te : Dyn → TE} {tgt : L2.TG}
    (pu : Pure1 u) (hlen : Len1 u ix.length) (hix : ∀ i ∈ ix, i ∈ own.map (·.2)) {Y : Dyn} (ok : OkY S Y)
    {σ : L2.St} {H : Hp} {Q : VK} (q : rdX S Y ρ (RN S.pg) (lcM mi u mt me) σ H Q)
    (hg : ∀ v σ H Q, (∃ g d, Wf S.pg g H ∧ S.pg.Rp g v d ∧ (u d g.st).Post (fun ds st' => st' = g.st → ∀ ws, S.pg.Rps g ws ds → Q (setS σ ix ws) H) fun _ _ => False) → tgt v σ H Q)
    (ht : ∀ ds σ H Q, ds.length = ix.length → (∃ F g, ER S.pg F (setE (wipeE ρ (own.map (·.2))) ix ds) σ g H ∧ (mt ds g.st).Post (fun b st' => ∀ g' H', g'.st = st' → Stp S.pg g H g' H' → Q b H') fun _ _ => False) → tt Y σ H Q)
    (he : ∀ ds σ H Q, ds.length = ix.length → (∃ F g, ER S.pg F (setE (wipeE ρ (own.map (·.2))) ix ds) σ g H ∧ (me ds g.st).Post (Pv S.pg (RE S.pg) g H Q) fun _ _ => False) → te Y σ H Q) :
    tLc (rdI S Y ρ (TS' S.pg) mi) tgt (tt Y) (te Y) (own.map (·.2)) σ H Q := by
  obtain ⟨F, g, E, q⟩ := q
  refine ⟨F, g, E, (post_bind q).imp (fun xs st' q J g1 H1 e1 s1 wk A hA => ?_) fun _ _ q => q⟩
  subst e1
  -- what is made so far, and what the rest makes
  refine ⟨fun i m H2 => i ≤ xs.length ∧ m = xs.length - i ∧ ∃ g2 vs acc, Stp S.pg g1 H1 g2 H2 ∧ H2 A = some (.lst vs) ∧ S.pg.Rps g2 vs acc ∧ g2.G A = none ∧ A ∉ g2.am ∧
    ((compM (fun x => u x >>= fun ds => mt ds >>= fun b => if b = true then me ds >>= fun d => pure (some d) else pure none) (xs.drop i) >>= fun r => mkL (acc ++ r)) g2.st).Post (Pv S.pg (RN S.pg) g H Q) (Px S Y g H),
    ⟨xs.length, Nat.zero_le _, rfl, g1, [], [], Stp.laid s1.wf hA, upd_same, .nil, s1.wf.freeG hA, s1.wf.freeA hA, q⟩, ?_⟩
  rintro i m H2 ⟨hi, rfl, g2, vs, acc, s2, hD, rv, hG, ha, q⟩
  have sg2 := s1.trans E.wf s2
  by_cases hlt : i < xs.length
  · refine .inr ⟨wk.goes i g2 H2 hlt s2.wf s2, fun H' => i + 1 ≤ xs.length ∧ ∃ g2 vs acc, Stp S.pg g1 H1 g2 H' ∧ H' A = some (.lst vs) ∧ S.pg.Rps g2 vs acc ∧ g2.G A = none ∧ A ∉ g2.am ∧
      ((compM (fun x => u x >>= fun ds => mt ds >>= fun b => if b = true then me ds >>= fun d => pure (some d) else pure none) (xs.drop (i + 1)) >>= fun r => mkL (acc ++ r)) g2.st).Post (Pv S.pg (RN S.pg) g H Q) (Px S Y g H),
      fun H' h => ⟨xs.length - (i + 1), by omega, h.1, rfl, h.2⟩, fun x H' hy => ?_⟩
    obtain ⟨g3, d, e3, s3, hd, rx⟩ := wk.yields i g2 H2 x H' hlt s2.wf s2 hy
    have s23 := s2.trans s1.wf s3
    have sg3 := s1.trans E.wf s23
    have keepD : ∀ {gg : Gs} {HH : Hp}, Stp S.pg g2 H2 gg HH → HH A = some (.lst vs) := fun {gg HH} s => s.keep A _ hD ha
    have keepG : ∀ {gg : Gs} {HH : Hp}, Stp S.pg g2 H2 gg HH → gg.G A = none := fun {gg HH} s => by
      cases z : gg.G A with
      | none => rfl
      | some o =>
        rcases s.gnew A o z with y | y | ⟨ys, y⟩
        · rw [hG] at y; cases y
        · rw [hD] at y; cases y
        · rw [hD] at y; cases y
    have keepA : ∀ {gg : Gs} {HH : Hp}, Stp S.pg g2 H2 gg HH → A ∉ gg.am := fun {gg HH} s h => by
      rcases s.amn A h with y | y
      · exact ha y
      · rw [hD] at y; cases y
    have ed : xs.drop i = d :: xs.drop (i + 1) := by
      rw [List.drop_eq_getElem_cons hlt]
      rw [List.getElem?_eq_getElem hlt] at hd
      cases hd; rfl
    rw [ed, compM, bind_assoc'] at q
    have q := noexc_post q
    rw [← e3] at q
    refine hg x _ H' _ ⟨g3, d, s23.wf, rx, ?_⟩
    have q := post_bind q
    cases eu : u d g3.st with
    | stuck => rw [eu] at q; exact q
    | exc c s => rw [eu] at q; exact q
    | ok ds st4 =>
      rw [eu] at q
      intro es ws rws
      subst es
      have hl := hlen _ _ _ _ eu
      refine ⟨wipe_setS σ _ _ ws hix, ?_⟩
      have E4 := ((E.step sg3).wipe (own.map (·.2))).setMany ix rws
      refine ht ds _ _ _ hl ⟨F, g3, E4, (post_bind q).imp (fun b st5 q g5 H5 e5 s5 => ?_) fun _ _ q => q⟩
      subst e5
      have s25 := s3.trans s2.wf s5
      by_cases hb : b = true
      · rw [if_pos hb]
        rw [if_pos hb] at q
        refine he ds _ _ _ hl ⟨F, g5, E4.step s5, (post_bind q).imp (fun y st6 q v6 g6 H6 e6 s6 r6 => ?_) fun _ _ q => q⟩
        subst e6
        have s26 := s25.trans s2.wf s6
        have q : ((compM (fun x => u x >>= fun ds => mt ds >>= fun b => if b = true then me ds >>= fun d => pure (some d) else pure none) (xs.drop (i + 1)) >>= fun t => mkL (acc ++ y :: t)) g6.st).Post (Pv S.pg (RN S.pg) g H Q) (Px S Y g H) := by
          have q := post_pure q
          rw [bind_assoc'] at q
          exact q
        refine ⟨vs, keepD s26, ?_, hlt, g6, vs ++ [v6], acc ++ [y], upd_new (s2.trans s1.wf s26) hA (keepG s26) (keepA s26) ⟨vs, keepD s26⟩, upd_same, (rv.mono s26.gle s26.aml).append (.cons r6 .nil), keepG s26, keepA s26, ?_⟩
        · rw [rv.length]
          rw [bind_run] at q
          cases er : compM (fun x => u x >>= fun ds => mt ds >>= fun b => if b = true then me ds >>= fun d => pure (some d) else pure none) (xs.drop (i + 1)) g6.st with
          | stuck => rw [er] at q; exact q.elim
          | exc c s => exact (compM_noexc _ _ _ _ _ er).elim
          | ok t s =>
            rw [er] at q
            have q : (mkL (acc ++ y :: t) s).Post _ _ := q
            unfold mkL at q
            by_cases z : (acc ++ y :: t).length ≤ sizeLine
            · rw [List.length_append, List.length_cons] at z
              omega
            · rw [if_neg z] at q
              exact False.elim q
        · have fe : (fun t => mkL (acc ++ y :: t)) = fun t => mkL (acc ++ [y] ++ t) := by
            funext t
            rw [List.append_assoc]
            rfl
          rw [fe] at q
          exact q
      · rw [if_neg hb]
        rw [if_neg hb] at q
        have q : ((compM (fun x => u x >>= fun ds => mt ds >>= fun b => if b = true then me ds >>= fun d => pure (some d) else pure none) (xs.drop (i + 1)) >>= fun t => mkL (acc ++ t)) g5.st).Post (Pv S.pg (RN S.pg) g H Q) (Px S Y g H) := by
          have q := post_pure q
          rw [bind_assoc'] at q
          exact q
        exact ⟨hlt, g5, vs, acc, s2.trans s1.wf s25, keepD s25, rv.mono s25.gle s25.aml, keepG s25, keepA s25, q⟩
  · have ei : i = xs.length := by omega
    subst ei
    rw [List.drop_length, compM] at q
    have q : (mkL (acc ++ []) g2.st).Post (Pv S.pg (RN S.pg) g H Q) (Px S Y g H) := q
    rw [List.append_nil] at q
    unfold mkL at q
    by_cases z : acc.length ≤ sizeLine
    · rw [if_pos z] at q
      exact .inl ⟨wk.stops g2 H2 s2.wf s2, (post_pure q) (.ref A) g2 H2 rfl sg2 ⟨A, rfl, ⟨vs, hD, rv⟩, hG, ha, s1.none_of E.wf hA⟩⟩
    · rw [if_neg z] at q
      exact False.elim q
theorem comp1 {ifs : List Expr} {scope : Scope} {own : List (Str × Nat)} {u : D → M (List D)} {ix : List Nat} {mt : List D → M Bool} {me : List D → M D}
    (hN : S.N.Nodup) (hok : BlkOk S.N S.sc scope own) (hi : EI S ρ (TS' S.pg) tg it mi) (hg : TG (S.blk scope) tg u ix) (pu : Pure1 u) (hlen : Len1 u ix.length) (hix : ∀ i ∈ ix, i ∈ own.map (·.2))
    (ht : ∀ ds, ds.length = ix.length → ETs (S.blk scope) (setE (wipeE ρ (own.map (·.2))) ix ds) ifs (mt ds))
    (he : ∀ ds, ds.length = ix.length → EE (S.blk scope) (setE (wipeE ρ (own.map (·.2))) ix ds) elt (me ds))
    (hs : ∀ (env : Env) (x : Value), foldedSetIterable it env x = pure x) :
    CompE S ρ (.ListComp elt [⟨tg, it, ifs, 0⟩] scope pos) (lcM mi u mt me) := by
  have hT : ∀ Y, OkY S Y → ∀ (s : Shared) (H : Hp) (C : Addr) (cl : List (Str × Addr)) (fp : List Addr), PTs ((S.cx Y).blk s H scope (compEnvC scope cl C (S.cx Y).env) fp) ifs
      (fun σ H Q => ∃ ds, ds.length = ix.length ∧ ∃ F g, ER S.pg F (setE (wipeE ρ (own.map (·.2))) ix ds) σ g H ∧ (mt ds g.st).Post (fun b st' => ∀ g' H', g'.st = st' → Stp S.pg g H g' H' → Q b H') fun _ _ => False) := fun Y ok s H C cl fp =>
    ⟨fun pins s2 σ H2 Q I ⟨ds, hl, F, g, E, q⟩ => (ht ds hl (Y.blk S s H scope C cl fp) (blk_ok ok)).run pins s2 σ H2 Q I ⟨F, g, E, q.imp (fun _ _ q => q) fun _ _ q => q.elim⟩⟩
  have hE : ∀ Y, OkY S Y → ∀ (s : Shared) (H : Hp) (C : Addr) (cl : List (Str × Addr)) (fp : List Addr), PE ((S.cx Y).blk s H scope (compEnvC scope cl C (S.cx Y).env) fp) elt
      (fun σ H Q => ∃ ds, ds.length = ix.length ∧ ∃ F g, ER S.pg F (setE (wipeE ρ (own.map (·.2))) ix ds) σ g H ∧ (me ds g.st).Post (Pv S.pg (RE S.pg) g H Q) fun _ _ => False) := fun Y ok s H C cl fp =>
    ⟨fun pins s2 σ H2 Q I ⟨ds, hl, F, g, E, q⟩ => (he ds hl (Y.blk S s H scope C cl fp) (blk_ok ok)).run pins s2 σ H2 Q I ⟨F, g, E, q.imp (fun _ _ q => q) fun _ _ q => q.elim⟩⟩
  refine ⟨fun Y => tLc (rdI S Y ρ (TS' S.pg) mi) _ _ _ (own.map (·.2)), fun Y ok => pe_lc (X := S.cx Y) rfl hN (hi Y ok) hok (fun s H C cl fp => hg (Y.blk S s H scope C cl fp) (blk_ok ok)) (hT Y ok) (hE Y ok) (hs _), fun Y ok σ H Q q => ?_, fun Y ok i y py spos hy hyl hsw => ?_⟩
  · exact lc_read (tt := fun _ => _) (te := fun _ => _) pu hlen hix ok q (fun v σ H Q h => h) (fun ds σ H Q hl h => ⟨ds, hl, h⟩) fun ds σ H Q hl h => ⟨ds, hl, h⟩
  · exact ps_setLc (X := S.cx Y) rfl hN hy hyl (hsw _ rfl) (hi Y ok) hok (fun s H C cl fp => hg (Y.blk S s H scope C cl fp) (blk_ok ok)) (hT Y ok) (hE Y ok) (hs _)
end
end DL
namespace DL
open PySem PySem.Spec PyProof.Rows L2
/-! ### statements -/
inductive Out (N B : Type) where
  | nx (n : N) | rt (d : D) | bk (b : B) | ct (b : B)
def seqO {N N' B : Type} (k : N → M (Out N' B)) : Out N B → M (Out N' B)
  | .nx n => k n
  | .rt d => pure (.rt d)
  | .bk b => pure (.bk b)
  | .ct b => pure (.ct b)
@[simp] theorem seqO_nx {N N' B : Type} (k : N → M (Out N' B)) (n : N) : seqO k (.nx n) = k n := Eq.trans rfl rfl
@[simp] theorem seqO_rt {N N' B : Type} (k : N → M (Out N' B)) (d : D) : seqO k (.rt d) = pure (.rt d) := Eq.trans rfl rfl
@[simp] theorem seqO_bk {N N' B : Type} (k : N → M (Out N' B)) (d : B) : seqO k (.bk d) = pure (.bk d) := Eq.trans rfl rfl
@[simp] theorem seqO_ct {N N' B : Type} (k : N → M (Out N' B)) (d : B) : seqO k (.ct d) = pure (.ct d) := Eq.trans rfl rfl
/-- what is wanted behind statements -/
def PoO {N B : Type} (p : Pg) (F : Fm) (g : Gs) (shN : N → Ev) (shB : B → Ev) (Dd : Ends) : Out N B → Store → Prop
  | .nx n, st' => ∀ σ' g' H', g'.st = st' → Ltr p g g' → ER p F (shN n) σ' g' H' → Dd.nx σ' H'
  | .rt d, st' => ∀ v g' H', g'.st = st' → Stp p F.g F.H g' H' → p.Rp g' v d → Dd.rt v H'
  | .bk b, st' => ∀ σ' g' H', g'.st = st' → Ltr p g g' → ER p F (shB b) σ' g' H' → Dd.bk σ' H'
  | .ct b, st' => ∀ σ' g' H', g'.st = st' → Ltr p g g' → ER p F (shB b) σ' g' H' → Dd.ct σ' H'
def PxO (S : Sta) (Y : Dyn) (F : Fm) (c : Nat) (st' : Store) : Prop := ∀ g' H', g'.st = st' → Stp S.pg F.g F.H g' H' → Y.W (.ref (S.pg.cA c)) none H'
def rdS {N B : Type} (S : Sta) (Y : Dyn) (ρ : Ev) (m : M (Out N B)) (shN : N → Ev) (shB : B → Ev) : TS := fun Dd σ H => ∃ F g, ER S.pg F ρ σ g H ∧ (m g.st).Post (PoO S.pg F g shN shB Dd) (PxO S Y F)
def SB {N B : Type} (S : Sta) (ρ : Ev) (sts : List Stmt) (m : M (Out N B)) (shN : N → Ev) (shB : B → Ev) : Prop := ∀ Y, OkY S Y → PSs (S.cx Y) sts (rdS S Y ρ m shN shB)
theorem PoO.back {N B : Type} {p : Pg} {F : Fm} {g g1 : Gs} {shN : N → Ev} {shB : B → Ev} {Dd : Ends} {o : Out N B} {st' : Store} (l : Ltr p g g1) (h : PoO p F g shN shB Dd o st') : PoO p F g1 shN shB Dd o st' := by
  cases o with
  | nx n => exact fun σ' g' H' e l2 E => h σ' g' H' e (l.trans l2) E
  | rt d => exact h
  | bk b => exact fun σ' g' H' e l2 E => h σ' g' H' e (l.trans l2) E
  | ct b => exact fun σ' g' H' e l2 E => h σ' g' H' e (l.trans l2) E
section
variable {S : Sta} {ρ ρ' : Ev} {a b c tg it e elt : Expr} {st : Stmt} {body rest ta tb : List Stmt} {tgs : List Expr} {ma mb mc m : M D} {mi : M (List D)} {pos p p2 : Pos} {N B : Type} {shN : N → Ev} {shB : B → Ev}
/-- an expression in a statement: its exceptions are the statement's -/
theorem PxO.of {Y : Dyn} {F : Fm} {σ : L2.St} {g : Gs} {H : Hp} {c : Nat} {st' : Store} (E : ER S.pg F ρ σ g H) (h : PxO S Y F c st') : Px S Y g H c st' :=
  fun g' H' e s => h g' H' e (E.fr.trans E.fw s)
theorem rdS.expr {Y : Dyn} {F : Fm} {σ : L2.St} {g : Gs} {H : Hp} {R : Rel} {N' B' : Type} {k : D → M (Out N' B')} {shN : N' → Ev} {shB : B' → Ev} {Dd : Ends} {Q : VK} (E : ER S.pg F ρ σ g H) (q : ((m >>= k) g.st).Post (PoO S.pg F g shN shB Dd) (PxO S Y F))
    (h : ∀ d v g' H', Stp S.pg g H g' H' → ER S.pg F ρ σ g' H' → R H g' H' v d → (k d g'.st).Post (PoO S.pg F g' shN shB Dd) (PxO S Y F) → Q v H') : rdX S Y ρ R m σ H Q :=
  ⟨F, g, E, (post_bind q).imp (fun d st' q v g' H' e s r => h d v g' H' s (E.step s) r (by rw [e]; exact q.imp (fun _ _ q => q.back s.ltr) fun _ _ q => q)) fun _ _ q => PxO.of E q⟩
theorem rdS.test {Y : Dyn} {F : Fm} {σ : L2.St} {g : Gs} {H : Hp} {N' B' : Type} {t : M Bool} {k : Bool → M (Out N' B')} {shN : N' → Ev} {shB : B' → Ev} {Dd : Ends} {Q : Bool → Hp → Prop} (E : ER S.pg F ρ σ g H) (q : ((t >>= k) g.st).Post (PoO S.pg F g shN shB Dd) (PxO S Y F))
    (h : ∀ d g' H', Stp S.pg g H g' H' → ER S.pg F ρ σ g' H' → (k d g'.st).Post (PoO S.pg F g' shN shB Dd) (PxO S Y F) → Q d H') : rdT S Y ρ t σ H Q :=
  ⟨F, g, E, (post_bind q).imp (fun d st' q g' H' e s => h d g' H' s (E.step s) (by rw [e]; exact q.imp (fun _ _ q => q.back s.ltr) fun _ _ q => q)) fun _ _ q => PxO.of E q⟩
theorem sb_pre {m : M (Out N B)} (h : SB S ρ' rest m shN shB) (l : Le ρ' ρ) : SB S ρ rest m shN shB := fun Y ok => (h Y ok).pre fun Dd σ H ⟨F, g, E, q⟩ => ⟨F, g, E.weak l, q⟩
theorem sb_nil {n : N} (l : Le (shN n) ρ) : SB S ρ [] (pure (.nx n)) shN shB := fun Y ok => pss_nil.pre fun Dd σ H ⟨F, g, E, q⟩ => (post_pure q) σ g H rfl (.refl g) (E.weak l)
/-- name = e -/
theorem sb_asg (i : Nat) {x : Str} {k : D → M (Out N B)} (hnd : S.N.Nodup) (hN : S.N[i]? = some x) (hx : Loc S.sc x) (he : EE S ρ e m) (hr : ∀ d, SB S (ρ.set i (.sh d)) rest (k d) shN shB) (hs : ∀ env : Env, env.scope = S.sc → swapsWith e (some (.Name x p2)) pos.line env = pure false) (hf : S.fn x = true ∨ S.sc.names.lookup x = some .local) :
    SB S ρ (.Assign [.Name x p2] e pos :: rest) (m >>= k) shN shB := fun Y ok => by
  have hR : PSs (S.cx Y) rest (fun Dd σ H => ∃ d, rdS S Y (ρ.set i (.sh d)) (k d) shN shB Dd σ H) := ⟨fun pins s σ H Dd I ⟨d, q⟩ => (hr d Y ok).run pins s σ H Dd I q⟩
  refine (pss_cons (ps_set (X := S.cx Y) (i := i) hnd hN hx (he Y ok) (hs _ rfl) hf) hR).pre fun Dd σ H ⟨F, g, E, q⟩ => ?_
  exact rdS.expr E q fun d v g' H' s E' r q => ⟨d, F, g', E'.set r, q⟩
/-- .. a fresh list or dict, that the name alone holds -/
theorem sb_asgN (i : Nat) {x : Str} {k : D → M (Out N B)} (hnd : S.N.Nodup) (hN : S.N[i]? = some x) (hx : Loc S.sc x) (he : EN S ρ e m) (hr : ∀ d, SB S (ρ.set i (.ow d)) rest (k d) shN shB) (hs : ∀ env : Env, env.scope = S.sc → swapsWith e (some (.Name x p2)) pos.line env = pure false) (hf : S.fn x = true ∨ S.sc.names.lookup x = some .local) :
    SB S ρ (.Assign [.Name x p2] e pos :: rest) (m >>= k) shN shB := fun Y ok => by
  have hR : PSs (S.cx Y) rest (fun Dd σ H => ∃ d, rdS S Y (ρ.set i (.ow d)) (k d) shN shB Dd σ H) := ⟨fun pins s σ H Dd I ⟨d, q⟩ => (hr d Y ok).run pins s σ H Dd I q⟩
  refine (pss_cons (ps_set (X := S.cx Y) (i := i) hnd hN hx (he Y ok) (hs _ rfl) hf) hR).pre fun Dd σ H ⟨F, g, E, q⟩ => ?_
  exact rdS.expr E q fun d v g' H' s E' r q => ⟨d, F, g', E.setOwn s r, q⟩
/-- .. a comprehension, its list not written later -/
theorem sb_asgC (i : Nat) {x : Str} {k : D → M (Out N B)} (hnd : S.N.Nodup) (hN : S.N[i]? = some x) (hx : S.sc.names.lookup x = some .local) (he : CompE S ρ e m) (hr : ∀ d, SB S (ρ.set i (.sh d)) rest (k d) shN shB) (hs : ∀ env : Env, env.scope = S.sc → swapsWith e (some (.Name x p2)) pos.line env = pure true) :
    SB S ρ (.Assign [.Name x p2] e pos :: rest) (m >>= k) shN shB := fun Y ok => by
  have hR : PSs (S.cx Y) rest (fun Dd σ H => ∃ d, rdS S Y (ρ.set i (.sh d)) (k d) shN shB Dd σ H) := ⟨fun pins s σ H Dd I ⟨d, q⟩ => (hr d Y ok).run pins s σ H Dd I q⟩
  obtain ⟨t, h1, h2, h3⟩ := he
  refine (pss_cons (h3 Y ok i x p2 pos hN hx hs) hR).pre fun Dd σ H ⟨F, g, E, q⟩ => h2 Y ok σ H _ ?_
  refine rdS.expr E q fun d v g' H' s E' r q => ?_
  obtain ⟨g2, e2, s2, r2, l1, l2⟩ := NewR.frozen E.wf s r
  refine ⟨d, F, g2, (E.step s2).set r2, ?_⟩
  rw [e2]
  exact q.imp (fun o st' q => q.back ⟨l1, l2⟩) fun _ _ q => q
/-- .. written later -/
theorem sb_asgCN (i : Nat) {x : Str} {k : D → M (Out N B)} (hnd : S.N.Nodup) (hN : S.N[i]? = some x) (hx : S.sc.names.lookup x = some .local) (he : CompE S ρ e m) (hr : ∀ d, SB S (ρ.set i (.ow d)) rest (k d) shN shB) (hs : ∀ env : Env, env.scope = S.sc → swapsWith e (some (.Name x p2)) pos.line env = pure true) :
    SB S ρ (.Assign [.Name x p2] e pos :: rest) (m >>= k) shN shB := fun Y ok => by
  have hR : PSs (S.cx Y) rest (fun Dd σ H => ∃ d, rdS S Y (ρ.set i (.ow d)) (k d) shN shB Dd σ H) := ⟨fun pins s σ H Dd I ⟨d, q⟩ => (hr d Y ok).run pins s σ H Dd I q⟩
  obtain ⟨t, h1, h2, h3⟩ := he
  refine (pss_cons (h3 Y ok i x p2 pos hN hx hs) hR).pre fun Dd σ H ⟨F, g, E, q⟩ => h2 Y ok σ H _ ?_
  exact rdS.expr E q fun d v g' H' s E' r q => ⟨d, F, g', E.setOwn s r, q⟩
/-- a slot is frozen -/
theorem ER.freeze {p : Pg} {F : Fm} {σ : L2.St} {g : Gs} {H : Hp} (E : ER p F ρ σ g H) {i : Nat} {d : D} (hi : ρ[i]? = some (.ow d)) : ∃ g', g'.st = g.st ∧ Ltr p g g' ∧ ER p F (ρ.set i (.sh d)) σ g' H := by
  have h := E.sl i _ hi
  cases es : σ[i]? with
  | none => rw [es] at h; exact h.elim
  | some o =>
    rw [es] at h
    cases o with
    | none => exact h.elim
    | some v =>
      obtain ⟨a, rfl, o, hG, ha, hF⟩ := h
      obtain ⟨u, e, wf', le, r⟩ := o.frozen E.wf hG ha
      refine ⟨{ g with G := upd g.G a u }, rfl, ⟨le, List.prefix_refl _⟩, ⟨by rw [List.length_set]; exact E.len, fun j s hj => ?_, fun x y d1 e1 h1 h2 h3 => ?_, ⟨fun b x q => le b x (E.fr.gle b x q), E.fr.aml, E.fr.keep, fun b x q => ?_, E.fr.amn, wf'⟩, E.fw⟩⟩
      · by_cases z : i = j
        · subst z
          have hl : i < ρ.length := (List.getElem?_eq_some_iff.mp hi).1
          rw [List.getElem?_set_self hl] at hj
          cases hj
          rw [es]
          exact r
        · rw [List.getElem?_set_ne z] at hj
          have h := E.sl j s hj
          cases s with
          | un => cases σ[j]?.join <;> exact True.intro
          | sh d2 =>
            cases e3 : σ[j]?.join with
            | none => rw [e3] at h; exact h.elim
            | some v => rw [e3] at h; exact Rp.mono le (List.prefix_refl _) h
          | ow d2 =>
            cases e3 : σ[j]?.join with
            | none => rw [e3] at h; exact h.elim
            | some v =>
              rw [e3] at h
              obtain ⟨b, rfl, o2, hG2, ha2, hF2⟩ := h
              have hab : b ≠ a := fun z2 => by
                subst z2
                refine z (E.dist i j d d2 hi hj ?_)
                rw [es]
                cases e4 : σ[j]? with
                | none => rw [e4] at e3; cases e3
                | some w =>
                  rw [e4] at e3
                  cases w with
                  | none => cases e3
                  | some w => cases e3; rfl
              refine ⟨b, rfl, o2.mono le (List.prefix_refl _) rfl, ?_, ha2, hF2⟩
              show upd g.G a u b = none
              rw [upd_ne hab]
              exact hG2
          | bo d2 =>
            cases e3 : σ[j]?.join with
            | none => rw [e3] at h; exact h.elim
            | some v =>
              rw [e3] at h
              rcases h with h | ⟨b, rfl, n, o2, hF2⟩
              · exact .inl (Rp.mono le (List.prefix_refl _) h)
              · exact .inr ⟨b, rfl, n, o2.mono le (List.prefix_refl _) rfl, hF2⟩
      · have ne : ∀ {c : Nat} {x : D}, (ρ.set i (.sh d))[c]? = some (.ow x) → ρ[c]? = some (.ow x) := fun {c x} h => by
          by_cases z : i = c
          · subst z
            have hl : i < ρ.length := (List.getElem?_eq_some_iff.mp hi).1
            rw [List.getElem?_set_self hl] at h; cases h
          · rw [List.getElem?_set_ne z] at h; exact h
        exact E.dist x y d1 e1 (ne h1) (ne h2) h3
      · have q : upd g.G a u b = some x := q
        by_cases z : b = a
        · subst z; exact .inr (.inl hF)
        · rw [upd_ne z] at q; exact E.fr.gnew b x q
theorem sb_freeze (i : Nat) {d : D} {m : M (Out N B)} (hi : ρ[i]? = some (.ow d)) (h : SB S (ρ.set i (.sh d)) rest m shN shB) : SB S ρ rest m shN shB := fun Y ok => (h Y ok).pre fun Dd σ H ⟨F, g, E, q⟩ => by
  obtain ⟨g', e, l, E'⟩ := E.freeze hi
  refine ⟨F, g', E', ?_⟩
  rw [e]
  exact q.imp (fun _ _ q => q.back l) fun _ _ q => q
/-- a, b = e -/
theorem sb_asgT {u : D → M (List D)} {ix : List Nat} {k : List D → M (Out N B)} (he : EE S ρ e m) (hg : TG S tg u ix) (pu : Pure1 u) (hlen : Len1 u ix.length) (hr : ∀ ds, ds.length = ix.length → SB S (setE ρ ix ds) rest (k ds) shN shB)
    (hs : ∀ env : Env, env.scope = S.sc → swapsWithSole [tg] e pos.line env = pure false) (hw : ∀ env : Env, env.scope = S.sc → swappedStores [tg] e env = pure none) (h1 : ∀ env : Env, (assignEach [tg] env).map (·.2) = [assign tg env]) :
    SB S ρ (.Assign [tg] e pos :: rest) (m >>= fun d => u d >>= k) shN shB := fun Y ok => by
  have hR : PSs (S.cx Y) rest (fun Dd σ H => ∃ ds, ds.length = ix.length ∧ rdS S Y (setE ρ ix ds) (k ds) shN shB Dd σ H) := ⟨fun pins s σ H Dd I ⟨d, hl, q⟩ => (hr d hl Y ok).run pins s σ H Dd I q⟩
  refine (pss_cons (ps_asg (X := S.cx Y) (he Y ok) (hg Y ok) (hs _ rfl) (hw _ rfl) (h1 _)) hR).pre fun Dd σ H ⟨F, g, E, q⟩ => ?_
  refine rdS.expr E q fun d v g' H' s E' r q => ⟨g', d, E'.wf, r, ?_⟩
  have q := post_bind q
  cases e1 : u d g'.st with
  | stuck => rw [e1] at q; exact q
  | exc c s => exact (pu.nx _ _ _ _ e1).elim
  | ok ds s1 =>
    rw [e1] at q
    intro es ws rw1
    subst es
    exact ⟨ds, hlen _ _ _ _ e1, F, g', E'.setMany ix rw1, q⟩
/-- an expression whose value is dropped -/
theorem sb_expr {k : M (Out N B)} (he : EL S ρ e m) (hr : SB S ρ rest k shN shB) (hs : ∀ env : Env, swapsWith e none pos.line env = pure false) : SB S ρ (.Expr e pos :: rest) (m >>= fun _ => k) shN shB := fun Y ok =>
  (pss_cons (ps_expr (he Y ok) (hs _)) (hr Y ok)).pre fun Dd σ H ⟨F, g, E, q⟩ => rdS.expr E q fun d v g' H' s E' r q => ⟨F, g', E', q⟩
theorem sb_pass {m : M (Out N B)} (hr : SB S ρ rest m shN shB) : SB S ρ (.Pass pos :: rest) m shN shB := fun Y ok => (pss_cons ps_pass (hr Y ok)).pre fun Dd σ H q => q
/-- return -/
theorem sb_ret (he : EE S ρ e m) : SB S ρ (.Return (some e) pos :: rest) (m >>= fun d => pure (.rt d)) shN shB := fun Y ok =>
  (pss_cons (ps_ret (he Y ok)) pss_never).pre fun Dd σ H ⟨F, g, E, q⟩ => rdS.expr E q fun d v g' H' s E' r q => (post_pure q) v g' H' rfl E'.fr r
theorem sb_retN : SB S ρ (.Return none pos :: rest) (pure (.rt .non)) shN shB := fun Y ok =>
  (pss_cons ps_retN pss_never).pre fun Dd σ H ⟨F, g, E, q⟩ => (post_pure q) .non g H rfl E.fr .non
theorem sb_break {n : B} (l : Le (shB n) ρ) : SB S ρ (.Break pos :: rest) (pure (.bk n)) shN shB := fun Y ok =>
  (pss_cons ps_break pss_never).pre fun Dd σ H ⟨F, g, E, q⟩ => (post_pure q) σ g H rfl (.refl g) (E.weak l)
theorem sb_cont {n : B} (l : Le (shB n) ρ) : SB S ρ (.Continue pos :: rest) (pure (.ct n)) shN shB := fun Y ok =>
  (pss_cons ps_continue pss_never).pre fun Dd σ H ⟨F, g, E, q⟩ => (post_pure q) σ g H rfl (.refl g) (E.weak l)
/-- if -/
theorem sb_if {J : Type} {shJ : J → Ev} {t : M Bool} {mA mB : M (Out J B)} {k : J → M (Out N B)} (hc : ET S ρ c t) (hA : SB S ρ ta mA shJ shB) (hB : SB S ρ tb mB shJ shB) (hr : ∀ j, SB S (shJ j) rest (k j) shN shB) :
    SB S ρ (.If c ta tb pos :: rest) (t >>= fun b => (if b = true then mA else mB) >>= seqO k) shN shB := fun Y ok => by
  have hR : PSs (S.cx Y) rest (fun Dd σ H => ∃ j, rdS S Y (shJ j) (k j) shN shB Dd σ H) := ⟨fun pins s σ H Dd I ⟨d, q⟩ => (hr d Y ok).run pins s σ H Dd I q⟩
  refine (pss_cons (ps_if (hc Y ok) (hA Y ok) (hB Y ok)) hR).pre fun Dd σ H ⟨F, g, E, q⟩ => ?_
  refine rdS.test E q fun b g' H' s E' q => ?_
  have core : ∀ mX : M (Out J B), ((mX >>= seqO k) g'.st).Post (PoO S.pg F g' shN shB Dd) (PxO S Y F) → rdS S Y ρ mX shJ shB { Dd with nx := fun σ H => ∃ j, rdS S Y (shJ j) (k j) shN shB Dd σ H } σ H' := fun mX q =>
    ⟨F, g', E', (post_bind q).imp (fun o st' q => by
      cases o with
      | nx j => exact fun σ2 g2 H2 e l E2 => ⟨j, F, g2, E2, by rw [e]; exact q.imp (fun _ _ q => q.back l) fun _ _ q => q⟩
      | rt d => exact q
      | bk b => exact q
      | ct b => exact q) fun _ _ q => q⟩
  by_cases z : b = true
  · rw [if_pos z] at q ⊢
    exact core mA q
  · rw [if_neg z] at q ⊢
    exact core mB q
/-! loops -/
def forL {Z B : Type} (step : Z → D → M (Out Z Z)) : Z → List D → M (Out Z B)
  | s, [] => pure (.nx s)
  | s, d :: r => step s d >>= fun o => match o with
    | .nx s' => forL step s' r
    | .ct s' => forL step s' r
    | .bk s' => pure (.nx s')
    | .rt v => pure (.rt v)
def whileL {Z B : Type} (t : Z → M Bool) (step : Z → M (Out Z Z)) : Nat → Z → M (Out Z B)
  | 0, _ => stuck
  | n + 1, s => t s >>= fun b => if b = true then step s >>= fun o => match o with
    | .nx s' => whileL t step n s'
    | .ct s' => whileL t step n s'
    | .bk s' => pure (.nx s')
    | .rt v => pure (.rt v) else pure (.nx s)
theorem sb_for {Z : Type} {sh : Z → Ev} {s0 : Z} {u : D → M (List D)} {ix : List Nat} {step : Z → List D → M (Out Z Z)} {k : Z → M (Out N B)} (hi : EI S ρ (TL S.pg) tg it mi) (hg : TG S tg u ix) (pu : Pure1 u) (hlen : Len1 u ix.length) (h0 : Le (sh s0) ρ)
    (hb : ∀ s ds, ds.length = ix.length → SB S (setE (sh s) ix ds) body (step s ds) sh sh) (hr : ∀ s, SB S (sh s) rest (k s) shN shB) (hs : ∀ (env : Env) (x : Value), foldedSetIterable it env x = pure x) :
    SB S ρ (.For tg it body [] pos :: rest) (mi >>= fun xs => forL (fun s x => u x >>= step s) s0 xs >>= seqO k) shN shB := fun Y ok => by
  have hR : PSs (S.cx Y) rest (fun Dd σ H => ∃ j, rdS S Y (sh j) (k j) shN shB Dd σ H) := ⟨fun pins s σ H Dd I ⟨d, q⟩ => (hr d Y ok).run pins s σ H Dd I q⟩
  have hB : PSs (S.cx Y) body (fun Dd σ H => ∃ s ds, ds.length = ix.length ∧ rdS S Y (setE (sh s) ix ds) (step s ds) sh sh Dd σ H) := ⟨fun pins s σ H Dd I ⟨z, d, hl, q⟩ => (hb z d hl Y ok).run pins s σ H Dd I q⟩
  refine (pss_cons (ps_for (X := S.cx Y) ok.pass rfl (hi Y ok) (hg Y ok) hB (hs _)) hR).pre fun Dd σ H ⟨F, g, E, q⟩ => ?_
  refine ⟨F, g, E, (post_bind q).imp (fun xs st' q J g1 H1 e1 s1 wk => ?_) fun _ _ q => PxO.of E q⟩
  subst e1
  have E1 := E.step s1
  refine ⟨fun i m σ H => i ≤ xs.length ∧ m = xs.length - i ∧ ∃ g2 s, ER S.pg F (sh s) σ g2 H ∧ Ltr S.pg g1 g2 ∧ ((forL (fun s x => u x >>= step s) s (xs.drop i) >>= seqO k) g2.st).Post (PoO S.pg F g shN shB Dd) (PxO S Y F),
    ⟨xs.length, Nat.zero_le _, rfl, g1, s0, E1.weak h0, .refl g1, q⟩, ?_⟩
  rintro i m σ2 H2 ⟨hi, rfl, g2, s, E2, l2, q⟩
  have lg : Ltr S.pg g g2 := s1.ltr.trans l2
  by_cases hlt : i < xs.length
  · refine .inr ⟨wk.goes i g2 H2 hlt E2.wf l2, fun σ' H' => i + 1 ≤ xs.length ∧ ∃ g2 s, ER S.pg F (sh s) σ' g2 H' ∧ Ltr S.pg g1 g2 ∧ ((forL (fun s x => u x >>= step s) s (xs.drop (i + 1)) >>= seqO k) g2.st).Post (PoO S.pg F g shN shB Dd) (PxO S Y F),
      fun σ' H' h => ⟨xs.length - (i + 1), by omega, h.1, rfl, h.2⟩, fun x H' hy => ?_⟩
    obtain ⟨g3, d, e3, s3, hd, rx⟩ := wk.yields i g2 H2 x H' hlt E2.wf l2 hy
    have ed : xs.drop i = d :: xs.drop (i + 1) := by
      rw [List.drop_eq_getElem_cons hlt]
      rw [List.getElem?_eq_getElem hlt] at hd
      cases hd; rfl
    rw [ed, forL, bind_assoc', bind_assoc'] at q
    refine ⟨g3, d, s3.wf, rx, ?_⟩
    rw [← e3] at q
    have q := post_bind q
    cases eu : u d g3.st with
    | stuck => rw [eu] at q; exact q
    | exc c s => exact (pu.nx _ _ _ _ eu).elim
    | ok ds st4 =>
      rw [eu] at q
      intro es ws rws
      subst es
      refine ⟨s, ds, hlen _ _ _ _ eu, F, g3, (E2.step s3).setMany ix rws, (post_bind q).imp (fun o st5 q => ?_) fun _ _ q => q⟩
      cases o with
      | nx z => exact fun σ5 g5 H5 e5 l5 E5 => ⟨hlt, g5, z, E5, (l2.trans s3.ltr).trans l5, by rw [e5]; exact q⟩
      | ct z => exact fun σ5 g5 H5 e5 l5 E5 => ⟨hlt, g5, z, E5, (l2.trans s3.ltr).trans l5, by rw [e5]; exact q⟩
      | bk z => exact fun σ5 g5 H5 e5 l5 E5 => ⟨z, F, g5, E5, by rw [e5]; exact q.imp (fun _ _ q => q.back ((lg.trans s3.ltr).trans l5)) fun _ _ q => q⟩
      | rt v => exact q
  · have ei : i = xs.length := by omega
    subst ei
    rw [List.drop_length, forL] at q
    exact .inl ⟨wk.stops g2 H2 E2.wf l2, s, F, g2, E2, q.imp (fun _ _ q => q.back lg) fun _ _ q => q⟩
theorem sb_while {Z : Type} {sh : Z → Ev} {s0 : Z} {t : Z → M Bool} {step : Z → M (Out Z Z)} {k : Z → M (Out N B)} {fuel : Nat} (hc : ∀ s, ET S (sh s) c (t s)) (h0 : Le (sh s0) ρ)
    (hb : ∀ s, SB S (sh s) body (step s) sh sh) (hr : ∀ s, SB S (sh s) rest (k s) shN shB) : SB S ρ (.While c body [] pos :: rest) (whileL t step fuel s0 >>= seqO k) shN shB := fun Y ok => by
  have hR : PSs (S.cx Y) rest (fun Dd σ H => ∃ j, rdS S Y (sh j) (k j) shN shB Dd σ H) := ⟨fun pins s σ H Dd I ⟨d, q⟩ => (hr d Y ok).run pins s σ H Dd I q⟩
  have hB : PSs (S.cx Y) body (fun Dd σ H => ∃ s, rdS S Y (sh s) (step s) sh sh Dd σ H) := ⟨fun pins s σ H Dd I ⟨z, q⟩ => (hb z Y ok).run pins s σ H Dd I q⟩
  have hC : PT (S.cx Y) c (fun σ H Q => ∃ s, rdT S Y (sh s) (t s) σ H Q) := ⟨fun pins st σ H Q I ⟨z, q⟩ => (hc z Y ok).run pins st σ H Q I q⟩
  refine (pss_cons (ps_while (X := S.cx Y) ok.pass hC hB) hR).pre fun Dd σ H ⟨F, g, E, q⟩ => ?_
  refine ⟨fun m σ H => ∃ g2 s, ER S.pg F (sh s) σ g2 H ∧ Ltr S.pg g g2 ∧ ((whileL t step m s >>= seqO k) g2.st).Post (PoO S.pg F g shN shB Dd) (PxO S Y F), ⟨fuel, g, s0, E.weak h0, .refl g, q⟩, ?_⟩
  rintro m σ2 H2 ⟨g2, s, E2, l2, q⟩
  cases m with
  | zero => exact False.elim q
  | succ n =>
    rw [whileL, bind_assoc'] at q
    refine ⟨s, F, g2, E2, (post_bind q).imp (fun b st' q g3 H3 e3 s3 => ?_) fun _ _ q => PxO.of E2 q⟩
    subst e3
    have E3 := E2.step s3
    have l3 := l2.trans s3.ltr
    by_cases z : b = true
    · rw [if_pos z] at q ⊢
      rw [bind_assoc'] at q
      refine ⟨fun σ' H' => ∃ g2 s, ER S.pg F (sh s) σ' g2 H' ∧ Ltr S.pg g g2 ∧ ((whileL t step n s >>= seqO k) g2.st).Post (PoO S.pg F g shN shB Dd) (PxO S Y F), fun σ' H' h => ⟨n, Nat.lt_succ_self n, h⟩, s, F, g3, E3, (post_bind q).imp (fun o st5 q => ?_) fun _ _ q => q⟩
      cases o with
      | nx z => exact fun σ5 g5 H5 e5 l5 E5 => ⟨g5, z, E5, l3.trans l5, by rw [e5]; exact q⟩
      | ct z => exact fun σ5 g5 H5 e5 l5 E5 => ⟨g5, z, E5, l3.trans l5, by rw [e5]; exact q⟩
      | bk z => exact fun σ5 g5 H5 e5 l5 E5 => ⟨z, F, g5, E5, by rw [e5]; exact q.imp (fun _ _ q => q.back (l3.trans l5)) fun _ _ q => q⟩
      | rt v => exact q
    · rw [if_neg z] at q ⊢
      exact ⟨s, F, g3, E3, q.imp (fun _ _ q => q.back l3) fun _ _ q => q⟩
end
end DL
namespace DL
open PySem PySem.Spec PyProof.Rows L2
/-! ### a list or dict that a name alone holds is written -/
section
variable {p : Pg} {F : Fm} {ρ : Ev} {σ : L2.St} {g : Gs} {H : Hp}
theorem ER.updOwn (E : ER p F ρ σ g H) {i : Nat} {d d' : D} (hi : ρ[i]? = some (.ow d)) {a : Addr} (hv : σ[i]? = some (some (.ref a))) {o : HO} (h' : Own p g (upd H a o) a d') : ER p F (ρ.set i (.ow d')) σ g (upd H a o) := by
  have h := E.sl i _ hi
  rw [hv] at h
  obtain ⟨a', e, o0, hG, ha, hF⟩ := h
  cases e
  obtain ⟨u, hu, nt, mu, no⟩ := o0.at
  have wf' : Wf p g (upd H a o) := by
    refine ⟨fun b x e => ?_, E.wf.amG, E.wf.nd, E.wf.len, fun k b c e1 e2 => ?_⟩
    · rw [upd_ne (ne_of_none e hG)]
      exact E.wf.sub b x e
    · have hb : b ≠ a := fun z => ha (by rw [← z]; exact List.mem_of_getElem? e1)
      refine (E.wf.cell k b c e1 e2).mono (fun _ _ e => e) (List.prefix_refl _) (upd_ne hb) fun dx e => ?_
      rw [upd_ne (ne_of e hu fun z => no b z.symm)]
      exact e
  refine ⟨by rw [List.length_set]; exact E.len, fun j s hj => ?_, fun x y d1 e1 h1 h2 h3 => ?_, ⟨E.fr.gle, E.fr.aml, fun b x e n => ?_, E.fr.gnew, E.fr.amn, wf'⟩, E.fw⟩
  · by_cases z : i = j
    · subst z
      have hl : i < ρ.length := (List.getElem?_eq_some_iff.mp hi).1
      rw [List.getElem?_set_self hl] at hj
      cases hj
      rw [hv]
      exact ⟨a, rfl, h', hG, ha, hF⟩
    · rw [List.getElem?_set_ne z] at hj
      have h := E.sl j s hj
      cases s with
      | un => cases σ[j]?.join <;> exact True.intro
      | sh d2 =>
        cases e3 : σ[j]?.join with
        | none => rw [e3] at h; exact h.elim
        | some v => rw [e3] at h; exact h
      | ow d2 =>
        cases e3 : σ[j]?.join with
        | none => rw [e3] at h; exact h.elim
        | some v =>
          rw [e3] at h
          obtain ⟨b, rfl, o2, hG2, ha2, hF2⟩ := h
          have hab : b ≠ a := fun z2 => by
            subst z2
            refine z (E.dist i j d d2 hi hj ?_)
            rw [hv]
            cases e4 : σ[j]? with
            | none => rw [e4] at e3; cases e3
            | some w =>
              rw [e4] at e3
              cases w with
              | none => cases e3
              | some w => cases e3; rfl
          exact ⟨b, rfl, o2.mono (fun _ _ e => e) (List.prefix_refl _) (upd_ne hab), hG2, ha2, hF2⟩
      | bo d2 =>
        cases e3 : σ[j]?.join with
        | none => rw [e3] at h; exact h.elim
        | some v =>
          rw [e3] at h
          rcases h with h | ⟨b, rfl, n, o2, o3, hF2⟩
          · exact .inl h
          · have hab : b ≠ a := ne_of_none hF2 hF
            exact .inr ⟨b, rfl, n, o2.mono (fun _ _ e => e) (List.prefix_refl _) (upd_ne hab), o3, hF2⟩
  · have ne : ∀ {c : Nat} {x : D}, (ρ.set i (.ow d'))[c]? = some (.ow x) → ∃ x', ρ[c]? = some (.ow x') := fun {c x} h => by
      by_cases z : i = c
      · subst z; exact ⟨d, hi⟩
      · rw [List.getElem?_set_ne z] at h; exact ⟨x, h⟩
    obtain ⟨d2, h1⟩ := ne h1
    obtain ⟨e2, h2⟩ := ne h2
    exact E.dist x y d2 e2 h1 h2 h3
  · rw [upd_ne (ne_of_none e hF)]
    exact E.fr.keep b x e n
/-- the address in a slot that holds a container of its own -/
theorem ER.own_at (E : ER p F ρ σ g H) {i : Nat} {d : D} (hi : ρ[i]? = some (.ow d)) : ∃ a, σ[i]? = some (some (.ref a)) ∧ Own p g H a d ∧ a ∉ g.am := by
  have h := E.sl i _ hi
  cases es : σ[i]? with
  | none => rw [es] at h; exact h.elim
  | some o =>
    rw [es] at h
    cases o with
    | none => exact h.elim
    | some v =>
      obtain ⟨a, rfl, o, hG, ha, hF⟩ := h
      exact ⟨a, rfl, o, ha⟩
end
def lstD : D → M (List D)
  | .lst ds => pure ds
  | _ => stuck
def appL (ds : List D) (d : D) : M D := if ds.length < sizeLine then pure (.lst (ds ++ [d])) else stuck
def extL (ds : List D) : D → M D
  | .lst es => if ds.length + es.length ≤ sizeLine then pure (.lst (ds ++ es)) else stuck
  | _ => stuck
def setL (ds : List D) (i : Int) (d : D) : M (List D) := match ixN ds.length i with
  | some j => pure (ds.set j d)
  | none => stuck
theorem lstD_post {d : D} {s : Store} {ok : List D → Store → Prop} {ex : Nat → Store → Prop} (q : (lstD d s).Post ok ex) : ∃ ds, d = .lst ds ∧ ok ds s := by
  cases d with
  | lst ds => exact ⟨ds, rfl, q⟩
  | _ => exact False.elim q
section
variable {S : Sta} {ρ ρ' : Ev} {a b c tg it e elt : Expr} {st : Stmt} {body rest ta tb : List Stmt} {ma mb mc m : M D} {mi : M (List D)} {pos p p2 apos cpos : Pos} {N B : Type} {shN : N → Ev} {shB : B → Ev}
/-- x.append(e) -/
theorem sb_append (i : Nat) {x : Str} {d : D} {k : D → M (Out N B)} (hi : ρ[i]? = some (.ow d)) (hN : S.N[i]? = some x) (hv : Vis S.sc x) (he : EE S ρ e m) (hr : ∀ d, SB S (ρ.set i (.ow d)) rest (k d) shN shB) (hs : NoStar [e]) (hline : (apos.endLine == cpos.line) = true)
    (hsw : ∀ env : Env, swapsWith (.Call (.Attribute (.Name x p) "append" apos) [e] [] cpos) none pos.line env = pure false) (hba : ∀ env : Env, attributeBase (.Name x p) "append" env (eval (.Name x p) env) = eval (.Name x p) env)
    (hd : (x == ("__debug__" : Str)) = false := by decide) (hcd : (x == ("__classdict__" : Str)) = false := by decide) :
    SB S ρ (.Expr (.Call (.Attribute (.Name x p) "append" apos) [e] [] cpos) pos :: rest) (lstD d >>= fun ds => m >>= fun y => appL ds y >>= k) shN shB := fun Y ok => by
  have hR : PSs (S.cx Y) rest (fun Dd σ H => ∃ d, rdS S Y (ρ.set i (.ow d)) (k d) shN shB Dd σ H) := ⟨fun pins s σ H Dd I ⟨d, q⟩ => (hr d Y ok).run pins s σ H Dd I q⟩
  have hP := pe_bm (X := S.cx Y) (cpos := cpos) (apos := apos) PySem.F.plainAttrs_list PySem.F.slot_list_append PySem.F.type_list_append mt_append (pe_var (X := S.cx Y) (i := i) (pos := p) hN hv hd hcd) (pa_cons (he Y ok) pa_nil (hs _))
    (hba _) (by rw [hs _]; rfl) hline (hs _) (by rfl)
  refine (pss_cons (ps_expr hP (hsw _)) hR).pre fun Dd σ H ⟨F, g, E, q⟩ => ?_
  obtain ⟨l, hl, o, ha⟩ := E.own_at hi
  obtain ⟨ds, rfl, q⟩ := lstD_post (post_bind q)
  obtain ⟨xs, ex, rx⟩ := o
  refine ⟨.ref l, hl, .inl ⟨rfl, xs, SqL.of ex⟩, rdS.expr E q fun y v g' H' s E' r q => ?_⟩
  have ex' := s.keep l _ ex ha
  have rx' := rx.mono s.gle s.aml
  have q := post_bind q
  unfold appL at q
  by_cases z : ds.length < sizeLine
  · rw [if_pos z] at q
    have o2 : Own S.pg g' (upd H' l (.lst (xs ++ [v]))) l (.lst (ds ++ [y])) := ⟨_, upd_same, rx'.append (.cons r .nil)⟩
    exact ⟨l, xs, v, rfl, rfl, ex', by rw [rx.length]; exact z, .lst (ds ++ [y]), F, g', E'.updOwn hi hl o2, post_pure q⟩
  · rw [if_neg z] at q
    exact False.elim q
/-- x.extend(e) -/
theorem sb_extend (i : Nat) {x : Str} {d : D} {k : D → M (Out N B)} (hi : ρ[i]? = some (.ow d)) (hN : S.N[i]? = some x) (hv : Vis S.sc x) (he : EL S ρ e m) (hr : ∀ d, SB S (ρ.set i (.ow d)) rest (k d) shN shB) (hs : NoStar [e]) (hline : (apos.endLine == cpos.line) = true)
    (hsw : ∀ env : Env, swapsWith (.Call (.Attribute (.Name x p) "extend" apos) [e] [] cpos) none pos.line env = pure false) (hba : ∀ env : Env, attributeBase (.Name x p) "extend" env (eval (.Name x p) env) = eval (.Name x p) env)
    (hd : (x == ("__debug__" : Str)) = false := by decide) (hcd : (x == ("__classdict__" : Str)) = false := by decide) :
    SB S ρ (.Expr (.Call (.Attribute (.Name x p) "extend" apos) [e] [] cpos) pos :: rest) (lstD d >>= fun ds => m >>= fun y => extL ds y >>= k) shN shB := fun Y ok => by
  have hR : PSs (S.cx Y) rest (fun Dd σ H => ∃ d, rdS S Y (ρ.set i (.ow d)) (k d) shN shB Dd σ H) := ⟨fun pins s σ H Dd I ⟨d, q⟩ => (hr d Y ok).run pins s σ H Dd I q⟩
  have hP := pe_bm (X := S.cx Y) (cpos := cpos) (apos := apos) PySem.F.plainAttrs_list PySem.F.slot_list_extend PySem.F.type_list_extend mt_extend (pe_var (X := S.cx Y) (i := i) (pos := p) hN hv hd hcd) (pa_cons (he Y ok) pa_nil (hs _))
    (hba _) (by rw [hs _]; rfl) hline (hs _) (by rfl)
  refine (pss_cons (ps_expr hP (hsw _)) hR).pre fun Dd σ H ⟨F, g, E, q⟩ => ?_
  obtain ⟨l, hl, o, ha⟩ := E.own_at hi
  obtain ⟨ds, rfl, q⟩ := lstD_post (post_bind q)
  obtain ⟨xs, ex, rx⟩ := o
  refine ⟨.ref l, hl, .inl ⟨rfl, xs, SqL.of ex⟩, rdS.expr E q fun y v g' H' s E' r q => ?_⟩
  have ex' := s.keep l _ ex ha
  have rx' := rx.mono s.gle s.aml
  have q := post_bind q
  cases y with
  | lst es =>
    obtain ⟨b, ys, rfl, sb, rb⟩ := TopR.lst E'.wf r
    unfold extL at q
    by_cases z : ds.length + es.length ≤ sizeLine
    · simp only [if_pos z] at q
      have o2 : Own S.pg g' (upd H' l (.lst (xs ++ ys))) l (.lst (ds ++ es)) := ⟨_, upd_same, rx'.append rb⟩
      exact ⟨l, b, xs, ys, rfl, rfl, ex', sb, by rw [rx.length, rb.length]; exact z, .lst (ds ++ es), F, g', E'.updOwn hi hl o2, post_pure q⟩
    · simp only [if_neg z] at q
      exact False.elim q
  | _ => exact False.elim q
theorem setL_post {ds : List D} {i : Int} {d : D} {s : Store} {ok : List D → Store → Prop} {ex : Nat → Store → Prop} (q : (setL ds i d s).Post ok ex) : ∃ j, ixN ds.length i = some j ∧ ok (ds.set j d) s := by
  unfold setL at q
  cases e : ixN ds.length i with
  | none => rw [e] at q; exact False.elim q
  | some j => rw [e] at q; exact ⟨j, rfl, q⟩
/-- x[i] = e -/
def setO (ds : List D) : D → D → M D
  | .int i, d => setL ds i d >>= fun r => pure (.lst r)
  | _, _ => stuck
theorem sb_setitem (i : Nat) {x : Str} {d : D} {k : D → M (Out N B)} {spos : Pos} (hi : ρ[i]? = some (.ow d)) (hN : S.N[i]? = some x) (hv : Vis S.sc x) (he : EE S ρ e m) (hb : EE S ρ b mb) (hr : ∀ d, SB S (ρ.set i (.ow d)) rest (k d) shN shB)
    (hsw : ∀ env : Env, swapsWithSole [.Subscript (.Name x p) b spos] e pos.line env = pure false) (hw : ∀ env : Env, swappedStores [.Subscript (.Name x p) b spos] e env = pure none)
    (h1 : ∀ env : Env, (assignEach [.Subscript (.Name x p) b spos] env).map (·.2) = [assign (.Subscript (.Name x p) b spos) env])
    (ha2 : ∀ (env : Env) v, assign (.Subscript (.Name x p) b spos) env v = (do
      let ov ← holding [v] (eval (.Name x p) env)
      let iv ← holding [v, ov] (eval b env)
      standAt spos
      holding [v, ov, iv] (setItem ov iv v)
      release [v, ov, iv] []))
    (hd : (x == ("__debug__" : Str)) = false := by decide) (hcd : (x == ("__classdict__" : Str)) = false := by decide) :
    SB S ρ (.Assign [.Subscript (.Name x p) b spos] e pos :: rest) (lstD d >>= fun ds => m >>= fun y => mb >>= fun j => setO ds j y >>= k) shN shB := fun Y ok => by
  have hR : PSs (S.cx Y) rest (fun Dd σ H => ∃ d, rdS S Y (ρ.set i (.ow d)) (k d) shN shB Dd σ H) := ⟨fun pins s σ H Dd I ⟨d, q⟩ => (hr d Y ok).run pins s σ H Dd I q⟩
  have hG : PG (S.cx Y) (.Subscript (.Name x p) b spos) _ := pg_sub (X := S.cx Y) (pe_var (X := S.cx Y) (i := i) (pos := p) hN hv hd hcd) (hb Y ok) set_list (ha2 _)
  refine (pss_cons (ps_asg (X := S.cx Y) (he Y ok) hG (hsw _) (hw _) (h1 _)) hR).pre fun Dd σ H ⟨F, g, E, q⟩ => ?_
  obtain ⟨l, hl, o, ha⟩ := E.own_at hi
  obtain ⟨ds, rfl, q⟩ := lstD_post (post_bind q)
  obtain ⟨xs, ex, rx⟩ := o
  refine rdS.expr E q fun y v g' H' s E' r q => ⟨.ref l, hl, rdS.expr E' q fun j w g2 H2 s2 E2 r2 q => ?_⟩
  have s12 := s.trans E.wf s2
  have ex' := s12.keep l _ ex ha
  have rx' := rx.mono s12.gle s12.aml
  cases j with
  | int n =>
    cases r2
    have q : ((setL ds n y >>= fun r => (pure (D.lst r) : M D)) g2.st).Post _ _ := post_bind q
    obtain ⟨j, ej, q⟩ := setL_post (post_bind q)
    have o2 : Own S.pg g2 (upd H2 l (.lst (xs.set j v))) l (.lst (ds.set j y)) := ⟨_, upd_same, rx'.set (r.mono s2.gle s2.aml) j⟩
    exact ⟨l, xs, n, j, rfl, rfl, ex', by rw [rx.length]; exact ej, .lst (ds.set j y), F, g2, E2.updOwn hi hl o2, post_pure q⟩
  | _ => exact False.elim q
/-! ### calls of defs -/
/-- how an argument is handed: a value that is never written; a list or dict that is lent -/
inductive AK where
  | v | b
def ArgR (p : Pg) (g : Gs) (H : Hp) : List AK → List V → List D → Prop
  | [], [], [] => True
  | .v :: ks, v :: vs, d :: ds => p.Rp g v d ∧ ArgR p g H ks vs ds
  | .b :: ks, v :: vs, d :: ds => TopR p g H v d ∧ ArgR p g H ks vs ds
  | _, _, _ => False
theorem ArgR.step {p : Pg} {g g' : Gs} {H H' : Hp} (w : Wf p g H) (s : Stp p g H g' H') : ∀ {ks : List AK} {vs : List V} {ds : List D}, ArgR p g H ks vs ds → ArgR p g' H' ks vs ds
  | [], [], [], _ => True.intro
  | .v :: _, _ :: _, _ :: _, h => ⟨h.1.mono s.gle s.aml, ArgR.step w s h.2⟩
  | .b :: _, _ :: _, _ :: _, h => ⟨h.1.step w s, ArgR.step w s h.2⟩
theorem ArgR.len {p : Pg} {g : Gs} {H : Hp} : ∀ {ks : List AK} {vs : List V} {ds : List D}, ArgR p g H ks vs ds → vs.length = ks.length ∧ ds.length = ks.length
  | [], [], [], _ => ⟨rfl, rfl⟩
  | .v :: _, _ :: _, _ :: _, h => by
    obtain ⟨a, b⟩ := ArgR.len h.2
    exact ⟨by rw [List.length_cons, List.length_cons, a], by rw [List.length_cons, List.length_cons, b]⟩
  | .b :: _, _ :: _, _ :: _, h => by
    obtain ⟨a, b⟩ := ArgR.len h.2
    exact ⟨by rw [List.length_cons, List.length_cons, a], by rw [List.length_cons, List.length_cons, b]⟩
/-- what a def promises: it does what F does -/
def spD (p : Pg) (ks : List AK) (F : List D → M D) : Sp := fun vs H Q E => ∃ g ds, Wf p g H ∧ ArgR p g H ks vs ds ∧ (F ds g.st).Post (Pv p (RE p) g H Q) fun c st' => ∀ g' H', g'.st = st' → Stp p g H g' H' → E (.ref (p.cA c)) none H'
structure Fnc (p : Pg) (k : Nat) (x : Str) (ks : List AK) (F : List D → M D) : Prop where
  ex : ∃ f fd ps, FnOk p.P p.w p.K p.mg p.base (L2.CX p.P p.w) k f fd ps (spD p ks F) ∧ p.mg x = some (.ref f) ∧ PySem.W.keepIn p.K (.ref f) = true ∧ Binds p.K fd ps []
/-- arguments by their kinds -/
def EAk (S : Sta) (ρ : Ev) (ks : List AK) (es : List Expr) (m : M (List D)) : Prop := ∀ Y, OkY S Y → PA (S.cx Y) es (rdA S Y ρ (fun g H => ArgR S.pg g H ks) m)
variable {es : List Expr} {ms : M (List D)} {ks : List AK}
theorem eak_nil : EAk S ρ [] [] (pure []) := fun Y ok => pa_nil.pre fun σ H Q ⟨F, g, E, q⟩ => (post_pure q) [] g H rfl (.refl E.wf) True.intro
theorem eak_v (he : EE S ρ e m) (hr : EAk S ρ ks es ms) (hs : ∀ env : Env, starEach (e :: es) env = (false, eval e env) :: starEach es env) : EAk S ρ (.v :: ks) (e :: es) (m >>= fun d => ms >>= fun ds => pure (d :: ds)) := fun Y ok =>
  (pa_cons (he Y ok) (hr Y ok) (hs _)).pre fun σ H Q ⟨F, g, E, q⟩ => rdX.bind E q fun x v g' H' s E' r q => rdA.bind E' (q.imp (fun _ _ q => q) fun _ _ q => q.back E.wf s) fun xs vs g2 H2 s2 E2 r2 q =>
    (post_pure q) (v :: vs) g2 H2 rfl (s.trans E.wf s2) ⟨r.mono s2.gle s2.aml, r2⟩
theorem eak_b (he : EL S ρ e m) (hr : EAk S ρ ks es ms) (hs : ∀ env : Env, starEach (e :: es) env = (false, eval e env) :: starEach es env) : EAk S ρ (.b :: ks) (e :: es) (m >>= fun d => ms >>= fun ds => pure (d :: ds)) := fun Y ok =>
  (pa_cons (he Y ok) (hr Y ok) (hs _)).pre fun σ H Q ⟨F, g, E, q⟩ => rdX.bind E q fun x v g' H' s E' r q => rdA.bind E' (q.imp (fun _ _ q => q) fun _ _ q => q.back E.wf s) fun xs vs g2 H2 s2 E2 r2 q =>
    (post_pure q) (v :: vs) g2 H2 rfl (s.trans E.wf s2) ⟨r.step E'.wf s2, r2⟩
theorem ee_call {x : Str} {k : Nat} {F : List D → M D} (fn : Fnc S.pg k x ks F) (hk : k ≤ S.lv) (hg : Glb S x) (ha : EAk S ρ ks (e :: es) ms) (hs : ∀ env : Env, starEach (e :: es) env = (false, eval e env) :: starEach es env) (hpl : ∀ env : Env, (backTo pos (starEach es env)).any (·.1) = false)
    (hdb : (x == ("__debug__" : Str)) = false := by decide) : EE S ρ (.Call (.Name x p) (e :: es) [] pos) (ms >>= F) := fun Y ok => by
  obtain ⟨f, fd, ps, FO, hm, hkp, hb⟩ := fn.ex
  refine (pe_call (X := S.cx Y) (E := fun cls d H' => Y.W cls d H') FO (ok.room.mono hk) hg hm hkp hb .nil (passes_call ok.takes fun _ _ _ _ h => h) (ha Y ok) hdb (hs _) (hpl _)).pre fun σ H Q ⟨Fm, g, E, q⟩ => ?_
  refine rdA.bind E q fun ds vs g' H' s E' r q => ?_
  rw [List.append_nil]
  exact ⟨g', ds, E'.wf, r, q.imp (fun _ _ q => q.back back_RE E.wf s) fun _ _ q => Px.back E.wf s q⟩
theorem ee_call0 {x : Str} {k : Nat} {F : List D → M D} (fn : Fnc S.pg k x [] F) (hk : k ≤ S.lv) (hg : Glb S x) (hdb : (x == ("__debug__" : Str)) = false := by decide) : EE S ρ (.Call (.Name x p) [] [] pos) (F []) := fun Y ok => by
  obtain ⟨f, fd, ps, FO, hm, hkp, hb⟩ := fn.ex
  refine (pe_call0 (X := S.cx Y) (E := fun cls d H' => Y.W cls d H') FO (ok.room.mono hk) hg hm hkp hb .nil (passes_call ok.takes fun _ _ _ _ h => h) hdb).pre fun σ H Q ⟨Fm, g, E, q⟩ => ?_
  exact ⟨g, [], E.wf, True.intro, q.imp (fun _ _ q => q) fun _ _ q => q⟩
/-! by the number of arguments -/
theorem ee_call1 {x : Str} {k : Nat} {F : List D → M D} (fn : Fnc S.pg k x [.v] F) (hk : k ≤ S.lv) (hg : Glb S x) (ha : EE S ρ a ma) (hs : NoStar [a] := by intro _; rfl) (hdb : (x == ("__debug__" : Str)) = false := by decide) :
    EE S ρ (.Call (.Name x p) [a] [] pos) (ma >>= fun a => F [a]) := by
  have h := ee_call (pos := pos) (p := p) fn hk hg (eak_v ha eak_nil (hs)) (hs) (fun _ => rfl) hdb
  simpa using h
end
/-! ### a def from its body -/
def runF {N B : Type} (m : M (Out N B)) : M D := m >>= fun o => match o with
  | .rt d => pure d
  | .nx _ => pure .non
  | _ => stuck
def argE : List AK → List D → Ev
  | .v :: ks, d :: ds => .sh d :: argE ks ds
  | .b :: ks, d :: ds => .bo d :: argE ks ds
  | _, _ => []
theorem argE_len : ∀ (ks : List AK) (ds : List D), ds.length = ks.length → (argE ks ds).length = ks.length
  | [], ds, _ => by unfold argE; rfl
  | .v :: ks, d :: ds, h => by
    unfold argE
    rw [List.length_cons, List.length_cons, argE_len ks ds (by simpa using h)]
  | .b :: ks, d :: ds, h => by
    unfold argE
    rw [List.length_cons, List.length_cons, argE_len ks ds (by simpa using h)]
  | .v :: _, [], h => by simp at h
  | .b :: _, [], h => by simp at h
theorem argE_at {p : Pg} {g : Gs} {H : Hp} (w : Wf p g H) : ∀ {ks : List AK} {vs : List V} {ds : List D}, ArgR p g H ks vs ds → ∀ (i : Nat) (s : Sl), (argE ks ds)[i]? = some s → ∃ v, vs[i]? = some v ∧ SlV p ⟨g, H⟩ g H (some v) s ∧ ∀ d, s ≠ .ow d
  | [], [], [], _, i, s, e => by simp [argE] at e
  | .v :: ks, v :: vs, d :: ds, h, 0, s, e => by
    simp [argE] at e
    subst e
    exact ⟨v, rfl, h.1, fun _ z => by cases z⟩
  | .b :: ks, v :: vs, d :: ds, h, 0, s, e => by
    simp [argE] at e
    subst e
    refine ⟨v, rfl, ?_, fun _ z => by cases z⟩
    rcases h.1 with r | ⟨a, e, n, o⟩
    · exact .inl r
    · obtain ⟨u, hu, _⟩ := o.at
      exact .inr ⟨a, e, n, o, u, hu⟩
  | .v :: ks, v :: vs, d :: ds, h, i + 1, s, e => by
    simp only [argE, List.getElem?_cons_succ] at e
    exact argE_at w h.2 i s e
  | .b :: ks, v :: vs, d :: ds, h, i + 1, s, e => by
    simp only [argE, List.getElem?_cons_succ] at e
    exact argE_at w h.2 i s e
/-- a def -/
theorem fnok_of {p : Pg} {k : Nat} {x qual : Str} {st : Stmt} {f : Addr} {fd : FuncData} {N ps : List Str} {ks : List AK} {Nn B : Type} {shN : Nn → Ev} {shB : B → Ev} {body : List D → M (Out Nn B)}
    (Fn : Fun p.K x qual st f fd) (Sc : FnScope N ps (defScope st)) (hks : ks.length = ps.length)
    (h : ∀ ds, ds.length = ks.length → SB ⟨p, N, defScope st, fun _ => true, k⟩ (argE ks ds ++ List.replicate (N.length - ks.length) .un) (defBody st) (body ds) shN shB) : FnOk p.P p.w p.K p.mg p.base (L2.CX p.P p.w) (k + 1) f fd ps (spD p ks fun ds => runF (body ds)) := by
  refine Fn.okX Sc (fun vs H Q E ⟨g, ds, w, r, q⟩ => ?_) (fun cdv A outer s H vs Q E hr ⟨g, ds, w, r, q⟩ => ?_)
  · rw [r.len.1, hks]
  · have hl := r.len
    have hok : OkY ⟨p, N, defScope st, fun _ => true, k⟩ ⟨A.deeper (envOfC qual (defScope st) s.heap.objs.size f cdv), s, H, envOfC qual (defScope st) s.heap.objs.size f cdv, outer, envOfC qual (defScope st) s.heap.objs.size f cdv :: outer, [], [],
        (cxOf (L2.CX p.P p.w) p.P p.w p.K p.mg p.base N qual (defScope st) f cdv A outer s H E).xe, fun cls d H' => E cls d H'⟩ :=
      ⟨hr, passes_of (X := cxOf (L2.CX p.P p.w) p.P p.w p.K p.mg p.base N qual (defScope st) f cdv A outer s H E) rfl, takes_of (X := cxOf (L2.CX p.P p.w) p.P p.w p.K p.mg p.base N qual (defScope st) f cdv A outer s H E) rfl rfl rfl rfl⟩
    refine ⟨_, h ds hl.2 _ hok, ⟨⟨g, H⟩, g, ?_, ?_⟩⟩
    · -- the slots at the entry
      have hpl : ps.length ≤ N.length := by have := congrArg List.length Sc.pre; rw [List.length_take] at this; omega
      have hstart : ∀ i v, vs[i]? = some v → (L2.start N vs)[i]? = some (some v) := fun i v e => by
        unfold L2.start
        have hi : i < vs.length := (List.getElem?_eq_some_iff.mp e).1
        rw [List.getElem?_append_left (by rw [List.length_map]; exact hi), List.getElem?_map, e]
        rfl
      have hE := argE_len ks ds hl.2
      have cases_at : ∀ (i : Nat) (s : Sl), (argE ks ds ++ List.replicate (N.length - ks.length) .un)[i]? = some s → s = .un ∨ (argE ks ds)[i]? = some s := fun i s e => by
        by_cases hi : i < (argE ks ds).length
        · rw [List.getElem?_append_left hi] at e
          exact .inr e
        · rw [List.getElem?_append_right (by omega), List.getElem?_replicate] at e
          split at e
          · cases e; exact .inl rfl
          · cases e
      refine ⟨?_, fun i s e => ?_, fun i j d1 d2 h1 h2 _ => ?_, .refl w, w⟩
      · unfold L2.start
        rw [List.length_append, List.length_append, List.length_replicate, List.length_replicate, List.length_map, hE, hl.1]
      · rcases cases_at i s e with rfl | e
        · cases (L2.start N vs)[i]?.join <;> exact True.intro
        · obtain ⟨v, hv, r2, _⟩ := argE_at w r i s e
          rw [hstart i v hv]
          exact r2
      · rcases cases_at i _ h1 with z | z
        · cases z
        · obtain ⟨_, _, _, n⟩ := argE_at w r i _ z
          exact absurd rfl (n d1)
    · refine (post_bind q).imp (fun o st' q => ?_) fun _ _ q => q
      cases o with
      | nx n => exact fun σ' g' H' e l E' => (post_pure q) .non g' H' e E'.fr .non
      | rt d => exact fun v g' H' e s r => (post_pure q) v g' H' e s r
      | bk b => exact False.elim q
      | ct b => exact False.elim q
theorem fnc_of {p : Pg} {k : Nat} {x : Str} {f : Addr} {fd : FuncData} {ps : List Str} {ks : List AK} {F : List D → M D} (h : FnOk p.P p.w p.K p.mg p.base (L2.CX p.P p.w) k f fd ps (spD p ks F)) (hm : p.mg x = some (.ref f)) (kp : PySem.W.keepIn p.K (.ref f) = true) (hb : Binds p.K fd ps []) : Fnc p k x ks F :=
  ⟨f, fd, ps, h, hm, kp, hb⟩
end DL
namespace DL
open PySem PySem.Spec PyProof.Rows L2
/-! ### zip of two sequences of any kinds: k says list (true) or tuple -/
def SqG (k : Bool) (K : PySem.W.Frag) (H : Hp) (a : Addr) (xs : List V) : Prop := if k = true then SqL K H a xs else SqT K H a xs
def ItG (k : Bool) (h : Heap) (it a : Addr) (i : Nat) : Prop := if k = true then h.IsListIter it a i else h.IsTupleIter it a i
def AsG (k : Bool) (h : Heap) (a : Addr) (xs : Array Value) : Prop := if k = true then h.IsList a xs else h.IsTuple a xs
def obG (k : Bool) (a : Addr) : Obj := if k = true then { cls := .type "list_iterator", data := .fields #[.ref a, .int 0 0] } else { cls := .type "tuple_iterator", data := .fields #[.ref a, .int 0 0] }
theorem draws_G {P : Program} {w : World} {A : Around} (k : Bool) (hh : A.handled = none) (it a : Addr) (hne : a ≠ it) (xs : Array Value) : Draws P w A it [it, a] xs.size (fun i v => xs[i]? = some v) (fun i h => ItG k h it a i ∧ AsG k h a xs) := by
  cases k
  · exact Draws.tuple hh it a hne xs
  · exact Draws.list hh it a hne xs
theorem begins_G (k : Bool) (a : Addr) (xs : Array Value) : Begins (.ref a) (obG k a) fun h => AsG k h a xs := by
  cases k
  · exact begins_tuple a xs
  · exact begins_list a xs
section
variable {X : Cx} {pins : List (Addr × Obj)} {σ : L2.St} {H : Hp} {s : Shared}
theorem SqG.heap {k : Bool} {a : Addr} {xs : List V} (I : Inv X pins σ H s) (h : SqG k X.K H a xs) : ∃ its : List Value, Vals xs its ∧ AsG k s.heap a its.toArray ∧ a < s.heap.objs.size := by
  cases k
  · obtain ⟨its, rv, p, _⟩ := I.tuple h
    obtain ⟨o, ho, _⟩ := id p
    exact ⟨its, rv, p, Heap.lt_size ho⟩
  · obtain ⟨its, rv, p, _⟩ := I.list h
    exact ⟨its, rv, p.isList, p.lt⟩
theorem SqG.inj {k : Bool} {a : Addr} {xs ys : List V} (I : Inv X pins σ H s) (h : SqG k X.K H a xs) (g : SqG k X.K H a ys) : xs = ys := by
  cases k
  · exact I.tuple_inj h g
  · exact I.list_inj h g
end
theorem ItG.live {k : Bool} {h : Heap} {it a : Addr} {i : Nat} (x : ItG k h it a i) : ∃ o, h.get? it = some o ∧ ∀ v, o.data ≠ .cell v := by
  cases k
  · obtain ⟨o, e, _, d⟩ := x
    exact ⟨o, e, fun v q => by rw [d] at q; cases q⟩
  · obtain ⟨o, e, _, d⟩ := x
    exact ⟨o, e, fun v q => by rw [d] at q; cases q⟩
theorem ItG.moved {k : Bool} {h h' : Heap} {it a : Addr} {i : Nat} (x : ItG k h it a i) (e : ∀ o, h.get? it = some o → h'.get? it = some o) : ItG k h' it a i := by
  cases k
  · exact Heap.IsTupleIter.at x e
  · exact Heap.IsListIter.at x e
theorem obG_it {k : Bool} {h : Heap} {it a : Addr} (e : h.get? it = some (obG k a)) : ItG k h it a 0 := by
  cases k
  · exact ⟨_, e, rfl, rfl⟩
  · exact ⟨_, e, rfl, rfl⟩
/-- the walk of zip -/
def ItzG (k1 k2 : Bool) (K : PySem.W.Frag) (a b : Addr) : It :=
  ⟨fun i H => ∃ (xs ys : List V), SqG k1 K H a xs ∧ SqG k2 K H b ys ∧ i < xs.length ∧ i < ys.length,
    fun i H v H' => ∃ T x y, v = .ref T ∧ H T = none ∧ H' = upd H T (.tup [x, y]) ∧ (∀ xs, SqG k1 K H a xs → xs[i]? = some x) ∧ ∀ ys, SqG k2 K H b ys → ys[i]? = some y,
    fun i H => ∃ xs ys : List V, SqG k1 K H a xs ∧ SqG k2 K H b ys ∧ i ≤ xs.length ∧ i ≤ ys.length ∧ (i = xs.length ∨ i = ys.length)⟩
theorem sep_G {z TI TO i1 i2 a b : Addr} (D : ZipApart z TI TO i1 i2 a b) : ZipSep2 z TI TO i1 i2 [i1, a] [i2, b] where
  TIz := D.TIz
  TOz := D.TOz
  TITO := D.TITO
  TIi1 := D.TIi1
  mem1 := by simp
  zf1 := by simpa using ⟨D.i1z.symm, D.l1z.symm⟩
  Tf1 := by simpa using ⟨D.TOi1, D.l1TO.symm⟩
  TIi2 := D.TIi2
  mem2 := by simp
  zf2 := by simpa using ⟨D.i2z.symm, D.l2z.symm⟩
  Tf2 := by simpa using ⟨D.TOi2, D.l2TO.symm⟩
  sep1_2 := by simpa using ⟨D.i12, D.l2i1.symm⟩
  sep2_1 := by simpa using ⟨D.i12.symm, D.l1i2.symm⟩
theorem five {c z TI TO i1 i2 : Addr} {α : Prop} (h : c ∈ [z, TI, TO, i1, i2]) (f1 : c = z → α) (f2 : c = TI → α) (f3 : c = TO → α) (f4 : c = i1 → α) (f5 : c = i2 → α) : α := by
  simp only [List.mem_cons, List.not_mem_nil, or_false] at h
  rcases h with q | q | q | q | q
  · exact f1 q
  · exact f2 q
  · exact f3 q
  · exact f4 q
  · exact f5 q
theorem turn_zipG {P : Program} {w : World} {K : PySem.W.Frag} {elts : List Expr} {kk : Nat} {tpos : Pos} {k1 k2 : Bool} {a b z TI TO i1 i2 : Addr} (D : ZipApart z TI TO i1 i2 a b) :
    Turn P w K (.Tuple elts kk tpos) (ItzG k1 k2 K a b) [z, TI, TO, i1, i2] z (fun i h => IsZip h z TI TO .none ∧ IsTupOf2 h TI (.ref i1) (.ref i2) ∧ (∃ x y, IsTupOf2 h TO x y) ∧ ItG k1 h i1 a i ∧ ItG k2 h i2 b i) where
  mem := by simp
  obj := by
    rintro i h ⟨hz, hTI, ⟨x, y, hTO⟩, h1, h2⟩ c hc
    refine five hc (fun q => ?_) (fun q => ?_) (fun q => ?_) (fun q => ?_) fun q => ?_
    · subst q; exact ⟨_, hz, fun v q => by cases q⟩
    · subst q; exact ⟨_, hTI, fun v q => by cases q⟩
    · subst q; exact ⟨_, hTO, fun v q => by cases q⟩
    · subst q; exact h1.live
    · subst q; exact h2.live
  keep := by
    rintro i h h' ⟨hz, hTI, ⟨x, y, hTO⟩, h1, h2⟩ k
    exact ⟨k z (by simp) _ hz, k TI (by simp) _ hTI, ⟨x, y, k TO (by simp) _ hTO⟩, h1.moved (k i1 (by simp)), h2.moved (k i2 (by simp))⟩
  item := by
    intro X hP hw hK hc i pins s σ H E I hf st hg
    subst hP hw hK
    obtain ⟨hz, hTI, ⟨x0, y0, hTO⟩, h1, h2⟩ := st
    obtain ⟨xs, ys, sx, sy, hx, hy⟩ := hg
    obtain ⟨us, ru, p1, _⟩ := sx.heap I
    obtain ⟨vs, rv, p2, _⟩ := sy.heap I
    have lu : us.toArray.size = xs.length := by rw [List.size_toArray, ru.length]
    have lv : vs.toArray.size = ys.length := by rw [List.size_toArray, rv.length]
    obtain ⟨x, ex⟩ : ∃ x, xs[i]? = some x := ⟨_, List.getElem?_eq_getElem hx⟩
    obtain ⟨y, ey⟩ : ∃ y, ys[i]? = some y := ⟨_, List.getElem?_eq_getElem hy⟩
    obtain ⟨u, eu, rxu⟩ := ru.get ex
    obtain ⟨v, ev, ryv⟩ := rv.get ey
    have hzl : z < s.heap.objs.size := Heap.lt_size hz
    refine wpAny_pyNext_zipD2_item (sep_G D) (draws_G (A := X.A.in1) k1 (I.ok.hd hc) i1 a D.l1i1 us.toArray) (draws_G (A := X.A.in1) k2 (I.ok.hd hc) i2 b D.l2i2 vs.toArray) hz hTI hTO ⟨h1, p1⟩ ⟨h2, p2⟩ (by rw [lu]; exact hx) (by rw [lv]; exact hy)
      fun x1 x2 h' tk g1 g2 z' TO' t1 t2 hT hsz hk => ?_
    have e1 : x1 = u := by
      have : us[i]? = some x1 := by simpa using g1
      rw [eu] at this; cases this; rfl
    have e2 : x2 = v := by
      have : vs[i]? = some x2 := by simpa using g2
      rw [ev] at this; cases this; rfl
    subst e1 e2
    refine ⟨_, rfl, wpAny_letOwnedTupleGo_zip (s := { s with heap := h', toks := tk }) z' fun h'' z'' sb => ?_⟩
    have keep : ∀ c o, c ≠ z → h'.get? c = some o → h''.get? c = some o := fun c o n e => (sb.2 c n).trans e
    have hT2 : IsTupOf2 h'' s.heap.objs.size x1 x2 := keep _ _ (Nat.ne_of_gt hzl) hT
    have new : ObjOk X.prog X.w (upd H s.heap.objs.size (.tup [x, y])) h'' s.heap.objs.size (.tup [x, y]) :=
      ⟨by show 2 ≤ sizeLine; decide, [x1, x2], .cons rxu (.cons ryv .nil), ⟨_, hT2, rfl, _, rfl⟩⟩
    have I1 : Inv X pins σ (upd H s.heap.objs.size (.tup [x, y])) { s with heap := h'', toks := tk } :=
      I.turnedNew (ch := [z, TI, TO, i1, i2]) (fun c o hb q => by
        simp only [List.mem_cons, List.not_mem_nil, or_false, not_or] at hb
        exact keep c o hb.1 (hk c o hb.1 hb.2.2.1 hb.2.2.2.1 hb.2.2.2.2 q)) hf (Nat.le_refl _) new
    refine ⟨.ref s.heap.objs.size, _, I1, rfl, ⟨_, x, y, rfl, I.hok.fresh (Nat.le_refl _), rfl, fun l hl => by rw [hl.inj I sx]; exact ex, fun l hl => by rw [hl.inj I sy]; exact ey⟩, ⟨z'', ?_, ⟨x1, x2, keep _ _ D.TOz TO'⟩, ?_, ?_⟩, fun c hcm => ?_⟩
    · exact keep _ _ D.TIz (hk _ _ D.TIz D.TITO D.TIi1 D.TIi2 hTI)
    · exact t1.1.moved fun o q => keep _ o D.i1z q
    · exact t2.1.moved fun o q => keep _ o D.i2z q
    · have hlt : c < s.heap.objs.size := five hcm (fun q => by rw [q]; exact hzl) (fun q => by rw [q]; exact Heap.lt_size hTI) (fun q => by rw [q]; exact Heap.lt_size hTO)
        (fun q => by rw [q]; obtain ⟨_, e, _⟩ := h1.live; exact Heap.lt_size e) fun q => by rw [q]; obtain ⟨_, e, _⟩ := h2.live; exact Heap.lt_size e
      rw [upd_ne (Nat.ne_of_lt hlt)]
      exact (hf c hcm).1
  done := by
    intro X hP hw hK hc i pins s σ H E I hf st hg
    subst hP hw hK
    obtain ⟨hz, hTI, ⟨x0, y0, hTO⟩, h1, h2⟩ := st
    obtain ⟨xs, ys, sx, sy, hx, hy, hend⟩ := hg
    obtain ⟨us, ru, p1, _⟩ := sx.heap I
    obtain ⟨vs, rv, p2, _⟩ := sy.heap I
    have lu : us.toArray.size = xs.length := by rw [List.size_toArray, ru.length]
    have lv : vs.toArray.size = ys.length := by rw [List.size_toArray, rv.length]
    refine wpAny_pyNext_zipD2_end (sep_G D) (draws_G (A := X.A.in1) k1 (I.ok.hd hc) i1 a D.l1i1 us.toArray) (draws_G (A := X.A.in1) k2 (I.ok.hd hc) i2 b D.l2i2 vs.toArray) hz hTI hTO ⟨h1, p1⟩ ⟨h2, p2⟩ (by rw [lu]; exact hx) (by rw [lv]; exact hy) (by rw [lu, lv]; exact hend)
      fun h' tk hk => ⟨rfl, I.turnedL (ch := [z, TI, TO, i1, i2]) (fun c o hb q => ?_) hf⟩
    simp only [List.mem_cons, List.not_mem_nil, or_false, not_or] at hb
    exact hk c o hb.1 hb.2.2.1 hb.2.2.2.1 hb.2.2.2.2 q
  self := fun A i s Q E st h => wpAny_pyIter_zip st.1 h
def iZipG (K : PySem.W.Frag) (ta : TA) : TI := fun σ H R => ta σ H fun vs H1 => ∃ a b xs ys k1 k2, vs = [.ref a, .ref b] ∧ SqG k1 K H1 a xs ∧ SqG k2 K H1 b ys ∧ R (ItzG k1 k2 K a b) H1
theorem pi_zipG {X : Cx} {e e2 : Expr} {ta : TA} {p pos tpos : Pos} {elts : List Expr} {kk : Nat} (hg : Gl X "zip") (hm : X.mg "zip" = none) (ha : PA X [e, e2] ta)
    (hs : starEach [e, e2] X.env = (false, eval e X.env) :: starEach [e2] X.env) (hpl : (backTo pos (starEach [e2] X.env)).any (·.1) = false) :
    PI X (.Tuple elts kk tpos) (.Call (.Name "zip" p) [e, e2] [] pos) (iZipG X.K ta) := by
  refine ⟨fun pins s σ H R I h => Call_ (ld_blt I hg hm PyProof.Rows.boot_zip (PyProof.Rows.callWith_type1 (thn (ha.run pos pins s σ H _ I h) fun us s1 q0 => ?_) hs hpl))⟩
  obtain ⟨vs, H1, I1, r1, a, b, xs, ys, k1, k2, ex, sx, sy, q⟩ := q0
  subst ex
  cases r1 with
  | cons r rr =>
    cases rr with
    | cons r' rr =>
      cases rr
      cases r
      cases r'
      obtain ⟨its, rv, p1, la⟩ := sx.heap I1
      obtain ⟨its2, rv2, p2, lb⟩ := sy.heap I1
      refine zip_begins2 (begins_G k1 a its.toArray) (begins_G k2 b its2.toArray) p1 p2 fun h' hz hTI hTO h1 h2 hsz hk => wpAny_pyIter_zip hz ?_
      have I2 : Inv X pins σ H1 { s1 with heap := h' } := I1.kept (t' := s1.toks) hk
      refine ⟨s1.heap.objs.size + 4, [s1.heap.objs.size + 4, s1.heap.objs.size + 2, s1.heap.objs.size + 3, s1.heap.objs.size, s1.heap.objs.size + 1], _, _, H1, rfl, I2, turn_zipG (PySem.W.ktu_apart s1.heap.objs.size a b la lb), ⟨hz, hTI, ⟨_, _, hTO⟩, obG_it h1, obG_it h2⟩, fun c hcm => ?_, q⟩
      have hle : s1.heap.objs.size ≤ c := five hcm (fun q => by rw [q]; exact Nat.le_add_right _ _) (fun q => by rw [q]; exact Nat.le_add_right _ _) (fun q => by rw [q]; exact Nat.le_add_right _ _) (fun q => by rw [q]; exact Nat.le_refl _) fun q => by rw [q]; exact Nat.le_add_right _ _
      exact I1.fpOk hle (I1.hok.fresh hle)
end DL
namespace DL
open PySem PySem.Spec PyProof.Rows L2
/-! ### sequences of any kind -/
/-- k: list or tuple; stands as long as T -/
def SqW (p : Pg) (T : Tm) (k : Bool) (a : Addr) (us : List V) (es : List D) : Prop := ∀ g H, Wf p g H → T g H → SqG k p.K H a us ∧ p.Rps g us es
theorem items_K {p : Pg} {T : Tm} {v : V} {d : D} (h : SqK p T v d) {s : Store} {ok : List D → Store → Prop} {ex : Nat → Store → Prop} (q : (items d s).Post ok ex) : ∃ k a us es, v = .ref a ∧ SqW p T k a us es ∧ ok es s := by
  cases d with
  | tup es => obtain ⟨a, us, e, h⟩ := h; exact ⟨false, a, us, es, e, h, post_pure q⟩
  | lst es => obtain ⟨a, us, e, h⟩ := h; exact ⟨true, a, us, es, e, h, post_pure q⟩
  | rls es => obtain ⟨a, us, e, h⟩ := h; exact ⟨true, a, us, es, e, h, post_pure q⟩
  | _ => exact False.elim q
/-- a new pair is frozen at once -/
theorem pair_new {p : Pg} {g : Gs} {H : Hp} {T : Addr} {x y : V} {d e : D} (w : Wf p g H) (hT : H T = none) (r1 : p.Rp g x d) (r2 : p.Rp g y e) :
    ∃ g', g'.st = g.st ∧ Stp p g H g' (upd H T (.tup [x, y])) ∧ p.Rp g' (.ref T) (.tup [d, e]) := by
  have s := Stp.new (o := .tup [x, y]) w hT
  exact ⟨{ g with G := upd g.G T (.tup [x, y]) }, rfl, s, .tup (.inl (.inl upd_same)) (.cons (r1.mono s.gle s.aml) (.cons (r2.mono s.gle s.aml) .nil))⟩
theorem wk_zip {p : Pg} {T : Tm} {k1 k2 : Bool} {a b : Addr} {us vs : List V} {ds es : List D} (h1 : SqW p T k1 a us ds) (h2 : SqW p T k2 b vs es) : Wk p T (ItzG k1 k2 p.K a b) (zipL ds es) := by
  refine ⟨fun i g H hi w t => ?_, fun g H w t => ?_, fun i g H x H' hi w t y => ?_⟩
  · obtain ⟨s1, r1⟩ := h1 g H w t
    obtain ⟨s2, r2⟩ := h2 g H w t
    rw [zipL_len] at hi
    exact ⟨us, vs, s1, s2, by rw [r1.length]; omega, by rw [r2.length]; omega⟩
  · obtain ⟨s1, r1⟩ := h1 g H w t
    obtain ⟨s2, r2⟩ := h2 g H w t
    rw [zipL_len]
    exact ⟨us, vs, s1, s2, by rw [r1.length]; omega, by rw [r2.length]; omega, by rw [r1.length, r2.length]; omega⟩
  · obtain ⟨s1, r1⟩ := h1 g H w t
    obtain ⟨s2, r2⟩ := h2 g H w t
    obtain ⟨T, x', y', rfl, hT, rfl, f1, f2⟩ := y
    obtain ⟨d, hd, rd⟩ := r1.getV (f1 us s1)
    obtain ⟨e, he, re⟩ := r2.getV (f2 vs s2)
    obtain ⟨g', e1, st, r⟩ := pair_new w hT rd re
    exact ⟨g', _, e1, st, zipL_get hd he, r⟩
theorem wk_enum {p : Pg} {T : Tm} {a : Addr} {us : List V} {ds : List D} (h1 : SqW p T true a us ds) : Wk p T (Ite p.K a) (enumL 0 ds) := by
  refine ⟨fun i g H hi w t => ?_, fun g H w t => ?_, fun i g H x H' hi w t y => ?_⟩
  · obtain ⟨s1, r1⟩ := h1 g H w t
    rw [enumL_len] at hi
    exact ⟨us, _, s1, List.getElem?_eq_getElem (by rw [r1.length]; exact hi)⟩
  · obtain ⟨s1, r1⟩ := h1 g H w t
    rw [enumL_len]
    exact ⟨us, s1, by rw [r1.length]; exact Nat.le_refl _⟩
  · obtain ⟨s1, r1⟩ := h1 g H w t
    obtain ⟨T, x', rfl, hT, rfl, f1⟩ := y
    obtain ⟨d, hd, rd⟩ := r1.getV (f1 us s1)
    obtain ⟨g', e1, st, r⟩ := pair_new w hT (.int (i : Nat)) rd
    exact ⟨g', _, e1, st, by rw [enumL_get hd, Nat.zero_add], r⟩
section
variable {S : Sta} {ρ : Ev} {a b c tg it e : Expr} {ma mb mc m : M D} {mi : M (List D)} {pos p tpos : Pos} {elts : List Expr} {kk : Nat}
def zip2M (ma mb : M D) : M (List D) := ma >>= fun x => mb >>= fun y => items x >>= fun xs => items y >>= fun ys => pure (zipL xs ys)
theorem ei_zip_core {T : Gs → Hp → Tm} {R : Rel} (hT : ∀ (g : Gs) (H : Hp) (g' : Gs) (H' : Hp) (v : V) (d : D), Stp S.pg g H g' H' → R H g' H' v d → SqK S.pg (T g' H') v d) (hT0 : ∀ (g : Gs) (H : Hp), Wf S.pg g H → T g H g H)
    (hTl : ∀ (g : Gs) (H : Hp) (g' : Gs) (H' : Hp), Stp S.pg g H g' H' → ∀ g2 H2, T g' H' g2 H2 → T g H g2 H2) (wR : ∀ (g : Gs) (H : Hp), Wf S.pg g H → True)
    (hg : Glb S "zip") (hm : S.pg.mg "zip" = none) (ha : EX S ρ R a ma) (hb : EX S ρ R b mb) (hs : NoStar [a, b]) (hs2 : NoStar [b]) : EI S ρ T (.Tuple elts kk tpos) (.Call (.Name "zip" p) [a, b] [] pos) (zip2M ma mb) := fun Y ok =>
  (pi_zipG (X := S.cx Y) hg hm (pa_cons (ha Y ok) (pa_cons (hb Y ok) pa_nil (hs2 _)) (by rw [hs2 _]; exact hs _)) (by rw [hs2 _]; exact hs _) (by rw [hs2 _]; rfl)).pre fun σ H Q ⟨F, g, E, q⟩ =>
    rdX.bind E q fun x v g' H' s E' r q => rdX.bind E' (q.imp (fun _ _ q => q) fun _ _ q => q.back E.wf s) fun y u g2 H2 s2 E2 r2 q => by
      obtain ⟨k1, a1, us, ds, e1, w1, q⟩ := items_K (hT g H g' H' v x s r) (post_bind q)
      obtain ⟨k2, b1, vs, es, e2, w2, q⟩ := items_K (hT g' H' g2 H2 u y s2 r2) (post_bind q)
      subst e1 e2
      have w1' : SqW S.pg (T g2 H2) k1 a1 us ds := fun g H w t => w1 g H w (hTl _ _ _ _ s2 _ _ t)
      exact ⟨a1, b1, us, vs, k1, k2, rfl, (w1' g2 H2 E2.wf (hT0 g2 H2 E2.wf)).1, (w2 g2 H2 E2.wf (hT0 g2 H2 E2.wf)).1, (post_pure q) _ g2 H2 rfl (s.trans E.wf s2) (wk_zip w1' w2)⟩
theorem ei_zip (hg : Glb S "zip") (hm : S.pg.mg "zip" = none) (ha : EE S ρ a ma) (hb : EE S ρ b mb) (hs : NoStar [a, b] := by intro _; rfl) (hs2 : NoStar [b] := by intro _; rfl) : EI S ρ (TL S.pg) (.Tuple elts kk tpos) (.Call (.Name "zip" p) [a, b] [] pos) (zip2M ma mb) :=
  ei_zip_core (fun _ _ _ _ _ _ _ r => sq_strong r) (fun g _ _ => .refl g) (fun _ _ _ _ s _ _ t => s.ltr.trans t) (fun _ _ _ => True.intro) hg hm ha hb hs hs2
/-- enumerate of a list -/
def lstO : D → M (List D)
  | .lst ds => pure ds
  | _ => stuck
def enumM (ma : M D) : M (List D) := ma >>= fun x => lstO x >>= fun xs => pure (enumL 0 xs)
theorem ei_enum_core {T : Gs → Hp → Tm} {R : Rel} (hT : ∀ (g : Gs) (H : Hp) (g' : Gs) (H' : Hp) (v : V) (d : D), Stp S.pg g H g' H' → R H g' H' v d → SqK S.pg (T g' H') v d) (hT0 : ∀ (g : Gs) (H : Hp), Wf S.pg g H → T g H g H)
    (hg : Glb S "enumerate") (hm : S.pg.mg "enumerate" = none) (ha : EX S ρ R a ma) (hs : NoStar [a]) : EI S ρ T (.Tuple elts kk tpos) (.Call (.Name "enumerate" p) [a] [] pos) (enumM ma) := fun Y ok =>
  (pi_enum (X := S.cx Y) hg hm (pa_cons (ha Y ok) pa_nil (hs _)) (hs _)).pre fun σ H Q ⟨F, g, E, q⟩ =>
    rdX.bind E q fun x v g' H' s E' r q => by
      cases x with
      | lst ds =>
        obtain ⟨a1, us, e1, w1⟩ := hT g H g' H' v _ s r
        subst e1
        have q := post_bind q
        exact ⟨a1, us, rfl, (w1 g' H' E'.wf (hT0 g' H' E'.wf)).1, (post_pure q) _ g' H' rfl s (wk_enum w1)⟩
      | _ => exact False.elim q
theorem ei_enum (hg : Glb S "enumerate") (hm : S.pg.mg "enumerate" = none) (ha : EE S ρ a ma) (hs : NoStar [a] := by intro _; rfl) : EI S ρ (TL S.pg) (.Tuple elts kk tpos) (.Call (.Name "enumerate" p) [a] [] pos) (enumM ma) :=
  ei_enum_core (fun _ _ _ _ _ _ _ r => sq_strong r) (fun g _ _ => .refl g) hg hm ha hs
theorem ei_enumR (hg : Glb S "enumerate") (hm : S.pg.mg "enumerate" = none) (ha : EL S ρ a ma) (hs : NoStar [a] := by intro _; rfl) : EI S ρ (TS' S.pg) (.Tuple elts kk tpos) (.Call (.Name "enumerate" p) [a] [] pos) (enumM ma) :=
  ei_enum_core (fun _ _ _ _ _ _ s r => sq_weak s.wf r) (fun g _ w => .refl w) hg hm ha hs
end
/-! ### list(range(..)) -/
section
variable {S : Sta} {ρ : Ev} {a b c : Expr} {ma mb mc m : M D} {pos p p2 rpos : Pos}
def rgM (lo hi : Int) : M D := if 0 ≤ lo ∧ lo ≤ 16777216 ∧ 0 ≤ hi ∧ hi ≤ 16777216 then pure (.lst (rangeL lo (hi - lo).toNat)) else stuck
def intG : D → M Int
  | .int i => pure i
  | _ => stuck
theorem rps_range {K : PySem.W.Frag} {G : Hp} {am : List Addr} (lo hi : Int) : Rps K G am (rgV lo hi) (rangeL lo (hi - lo).toNat) := by
  have : ∀ l : List Nat, Rps K G am (l.map fun i => V.int (lo + (i : Nat))) (l.map fun i => D.int (lo + (i : Nat))) := by
    intro l
    induction l with
    | nil => exact .nil
    | cons x r ih => exact .cons (.int _) ih
  exact this _
theorem intG_post {d : D} {s : Store} {ok : Int → Store → Prop} {ex : Nat → Store → Prop} (q : (intG d s).Post ok ex) : ∃ i, d = .int i ∧ ok i s := by
  cases d with
  | int i => exact ⟨i, rfl, q⟩
  | _ => exact False.elim q
theorem rgM_ok {S : Sta} {g g0 : Gs} {H H0 : Hp} {Q : VK} {lo hi : Int} {E : Nat → Store → Prop} (w0 : Wf S.pg g0 H0) (s : Stp S.pg g0 H0 g H) (w : Wf S.pg g H) (q : (rgM lo hi g.st).Post (Pv S.pg (RN S.pg) g0 H0 Q) E) : RgOk lo hi ∧ ∀ q, H q = none → Q (.ref q) (upd H q (.lst (rgV lo hi))) := by
  unfold rgM at q
  by_cases z : 0 ≤ lo ∧ lo ≤ 16777216 ∧ 0 ≤ hi ∧ hi ≤ 16777216
  · rw [if_pos z] at q
    exact ⟨RgOk.of_le z.1 z.2.2.2 z.2.1 z.2.2.1, fun l hl => (post_pure q) _ g _ rfl (s.trans w0 (Stp.laid w hl)) ⟨l, rfl, ⟨_, upd_same, rps_range lo hi⟩, w.freeG hl, w.freeA hl, s.none_of w0 hl⟩⟩
  · rw [if_neg z] at q
    exact False.elim q
theorem en_listRg1 (hg : Glb S "list") (hm : S.pg.mg "list" = none) (hg2 : Glb S "range") (hm2 : S.pg.mg "range" = none) (ha : EL S ρ a ma) (hs : NoStar [a] := by intro _; rfl) (hs2 : NoStar [.Call (.Name "range" p2) [a] [] rpos] := by intro _; rfl) :
    EN S ρ (.Call (.Name "list" p) [.Call (.Name "range" p2) [a] [] rpos] [] pos) (ma >>= intG >>= rgM 0) := fun Y ok =>
  (pe_listRg (X := S.cx Y) rfl hg hm (prg_1 (X := S.cx Y) hg2 hm2 (ha Y ok) (hs _)) (hs2 _)).pre fun σ H Q ⟨F, g, E, q⟩ => by
    rw [bind_assoc'] at q
    exact rdX.bind E q fun x v g' H' s E' r q => by
      obtain ⟨i, rfl, q⟩ := intG_post (post_bind q)
      exact ⟨i, r.int, rgM_ok E.wf s E'.wf q⟩
end
/-! ### cells -/
section
variable {p : Pg} {g g' : Gs} {H H' : Hp}
/-- a container with a cell of its own -/
def celD : D → M D
  | .lst ds => newC (.lst ds) >>= fun k => pure (.ref k)
  | .dct ds => newC (.dct ds) >>= fun k => pure (.ref k)
  | _ => stuck
/-- a new cell -/
def Gs.cell (g : Gs) (a : Addr) (c : Cell) : Gs := ⟨g.G, g.am ++ [a], g.st ++ [c]⟩
theorem Stp.cell {a : Addr} {c : Cell} (w : Wf p g H) (hG : g.G a = none) (ha : a ∉ g.am) (hc : CellR p g H a c) : Wf p (g.cell a c) H ∧ g.am <+: (g.cell a c).am := by
  have pre : g.am <+: g.am ++ [a] := List.prefix_append _ _
  refine ⟨⟨w.sub, fun b hb => ?_, ?_, ?_, fun k b d e1 e2 => ?_⟩, pre⟩
  · rcases List.mem_append.mp hb with h | h
    · exact w.amG b h
    · rw [List.mem_singleton.mp h]; exact hG
  · refine List.nodup_append.mpr ⟨w.nd, List.nodup_cons.mpr ⟨List.not_mem_nil, List.nodup_nil⟩, fun x hx y hy e => ?_⟩
    rw [List.mem_singleton.mp hy] at e
    exact ha (e ▸ hx)
  · show (g.am ++ [a]).length = (g.st ++ [c]).length
    rw [List.length_append, List.length_append, w.len]
    rfl
  · have e1 : (g.am ++ [a])[k]? = some b := e1
    have e2 : (g.st ++ [c])[k]? = some d := e2
    by_cases hk : k < g.am.length
    · rw [List.getElem?_append_left hk] at e1
      rw [List.getElem?_append_left (by rw [← w.len]; exact hk)] at e2
      exact (w.cell k b d e1 e2).mono (g' := g.cell a c) (fun _ _ e => e) pre rfl fun _ e => e
    · rw [List.getElem?_append_right (by omega)] at e1
      rw [List.getElem?_append_right (by rw [← w.len]; omega)] at e2
      rw [← w.len] at e2
      have hk0 : k - g.am.length = 0 := by
        have := (List.getElem?_eq_some_iff.mp e1).1
        rw [List.length_singleton] at this
        omega
      rw [hk0] at e1 e2
      cases e1
      cases e2
      exact hc.mono (g' := g.cell a c) (fun _ _ e => e) pre rfl fun _ e => e
theorem NewR.cell {v : V} {d : D} {Q : VK} {E : Nat → Store → Prop} (w : Wf p g H) (s : Stp p g H g' H') (r : NewR p H g' H' v d) (q : (celD d g'.st).Post (Pv p (RE p) g H Q) E) : Q v H' := by
  obtain ⟨a, rfl, o, hG, ha, hn⟩ := r
  have core : ∀ c, CellR p g' H' a c → ((newC c >>= fun k => pure (D.ref k)) g'.st).Post (Pv p (RE p) g H Q) E → Q (.ref a) H' := fun c hc q => by
    obtain ⟨wf', pre⟩ := Stp.cell s.wf hG ha hc
    have q : Pv p (RE p) g H Q (.ref g'.st.length) (g'.st ++ [c]) := q
    refine q (.ref a) (g'.cell a c) H' rfl ⟨s.gle, s.aml.trans pre, s.keep, s.gnew, fun b hb => ?_, wf'⟩ (.ref ?_)
    · rcases List.mem_append.mp hb with h | h
      · exact s.amn b h
      · rw [List.mem_singleton.mp h]; exact .inr hn
    · show (g'.am ++ [a])[g'.st.length]? = some a
      rw [← s.wf.len, List.getElem?_append_right (Nat.le_refl _), Nat.sub_self]
      rfl
  cases d with
  | lst ds => exact core (.lst ds) o q
  | dct es => exact core (.dct es) o q
  | _ => exact o.elim
theorem nodup_ix : ∀ {l : List Addr} {i j : Nat} {a : Addr}, l.Nodup → l[i]? = some a → l[j]? = some a → i = j
  | [], i, j, a, _, h, _ => by simp at h
  | x :: r, 0, 0, a, _, _, _ => rfl
  | x :: r, 0, j + 1, a, n, h, k => by
    simp at h k
    subst h
    exact absurd (List.mem_of_getElem? k) (List.nodup_cons.mp n).1
  | x :: r, i + 1, 0, a, n, h, k => by
    simp at h k
    subst k
    exact absurd (List.mem_of_getElem? h) (List.nodup_cons.mp n).1
  | x :: r, i + 1, j + 1, a, n, h, k => by
    simp at h k
    rw [nodup_ix (List.nodup_cons.mp n).2 h k]
/-- a cell's container is written -/
theorem Stp.wrt {a : Addr} {k : Nat} {c : Cell} {o u : HO} (w : Wf p g H) (hk : g.am[k]? = some a) (e : H a = some u) (nu : ∀ y, u ≠ .own y) (nt : ∀ xs, u ≠ .tup xs) (hc : CellR p { g with st := g.st.set k c } (upd H a o) a c) : Stp p g H { g with st := g.st.set k c } (upd H a o) := by
  have ham : a ∈ g.am := List.mem_of_getElem? hk
  have hG := w.amG a ham
  refine ⟨fun _ _ e => e, List.prefix_refl _, fun b x eb hb => ?_, fun b x e => .inl e, fun b h => .inl h, ⟨fun b x e => ?_, w.amG, w.nd, by show g.am.length = (g.st.set k c).length; rw [List.length_set, w.len], fun j b d e1 e2 => ?_⟩⟩
  · rw [upd_ne (fun z => hb (by rw [z]; exact ham))]; exact eb
  · have e : g.G b = some x := e
    rw [upd_ne (ne_of_none e hG)]
    exact w.sub b x e
  · have e1 : g.am[j]? = some b := e1
    have e2 : (g.st.set k c)[j]? = some d := e2
    by_cases z : k = j
    · subst z
      rw [hk] at e1
      cases e1
      have hl : k < g.st.length := by rw [← w.len]; exact (List.getElem?_eq_some_iff.mp hk).1
      rw [List.getElem?_set_self hl] at e2
      cases e2
      exact hc
    · rw [List.getElem?_set_ne z] at e2
      have hb : b ≠ a := fun h => by
        subst h
        have l1 := (List.getElem?_eq_some_iff.mp hk).1
        have l2 := (List.getElem?_eq_some_iff.mp e1).1
        have h1 := (List.getElem?_eq_some_iff.mp hk).2
        have h2 := (List.getElem?_eq_some_iff.mp e1).2
        exact z (nodup_ix w.nd e1 hk).symm
      have h := w.cell j b d e1 e2
      cases d with
      | lst ds =>
        obtain ⟨xs, e1, r⟩ := h
        exact ⟨xs, by rw [upd_ne hb]; exact e1, r⟩
      | dct es =>
        rcases h with ⟨kvs, e1, r⟩ | ⟨kvs, e1, r⟩
        · exact .inl ⟨kvs, by rw [upd_ne hb]; exact e1, r⟩
        · exact .inr ⟨kvs, by rw [upd_ne hb]; exact e1, r⟩
      | ins c fs =>
        obtain ⟨dx, fvs, e1, e2, r⟩ := h
        exact ⟨dx, fvs, by rw [upd_ne hb]; exact e1, by rw [upd_ne (ne_of e2 e fun z => nu b z.symm)]; exact e2, r⟩
end
def celL : D → M (Nat × List D)
  | .ref k => getC k >>= fun c => match c with
    | .lst ds => pure (k, ds)
    | _ => stuck
  | _ => stuck
theorem celL_post {p : Pg} {g : Gs} {H : Hp} {v : V} {d : D} {ok : Nat × List D → Store → Prop} {ex : Nat → Store → Prop} (w : Wf p g H) (r : p.Rp g v d) (q : (celL d g.st).Post ok ex) :
    ∃ k a xs ds, v = .ref a ∧ g.am[k]? = some a ∧ H a = some (.lst xs) ∧ p.Rps g xs ds ∧ ok (k, ds) g.st := by
  cases d with
  | ref k =>
    obtain ⟨a, rfl, e⟩ := TopR.ref (H := H) (.inl r)
    obtain ⟨c, e2, r⟩ := w.at_ref e
    have q : ((getC k >>= fun c => match c with
      | .lst ds => pure (k, ds)
      | _ => stuck) g.st).Post ok ex := q
    rw [bind_run] at q
    unfold getC at q
    rw [e2] at q
    cases c with
    | lst ds =>
      obtain ⟨xs, ex, rx⟩ := r
      exact ⟨k, a, xs, ds, rfl, e, ex, rx, q⟩
    | _ => exact False.elim q
  | _ => exact False.elim q
theorem post_setC {α : Type} {k : Nat} {c : Cell} {f : Unit → M α} {s : Store} {ok : α → Store → Prop} {ex : Nat → Store → Prop} (q : ((setC k c >>= f) s).Post ok ex) : (f () (s.set k c)).Post ok ex := q
section
variable {S : Sta} {ρ : Ev} {a b c o e ie : Expr} {ma mb mc m mo : M D} {pos p apos cpos spos : Pos} {N B : Type} {shN : N → Ev} {shB : B → Ev} {rest : List Stmt}
theorem ee_cell (h : EN S ρ e m) : EE S ρ e (m >>= celD) := fun Y ok => (h Y ok).pre fun σ H Q ⟨F, g, E, q⟩ =>
  ⟨F, g, E, (post_bind q).imp (fun d st' q v g' H' e s r => by
    rw [← e] at q
    exact NewR.cell E.wf s r q) fun _ _ q => q⟩
/-- o[i] = e, o a list with a cell -/
def cellSet (x i y : D) : M Unit := celL x >>= fun kd => intG i >>= fun n => setL kd.2 n y >>= fun ds => setC kd.1 (.lst ds)
theorem sb_cset {k : M (Out N B)} (he : EE S ρ e m) (ho : EE S ρ o mo) (hb : EE S ρ b mb) (hr : SB S ρ rest k shN shB)
    (hsw : ∀ env : Env, swapsWithSole [.Subscript o b spos] e pos.line env = pure false) (hw : ∀ env : Env, swappedStores [.Subscript o b spos] e env = pure none)
    (h1 : ∀ env : Env, (assignEach [.Subscript o b spos] env).map (·.2) = [assign (.Subscript o b spos) env])
    (ha2 : ∀ (env : Env) v, assign (.Subscript o b spos) env v = (do
      let ov ← holding [v] (eval o env)
      let iv ← holding [v, ov] (eval b env)
      standAt spos
      holding [v, ov, iv] (setItem ov iv v)
      release [v, ov, iv] [])) :
    SB S ρ (.Assign [.Subscript o b spos] e pos :: rest) (m >>= fun y => mo >>= fun x => mb >>= fun i => cellSet x i y >>= fun _ => k) shN shB := fun Y ok => by
  have hG : PG (S.cx Y) (.Subscript o b spos) _ := pg_sub (X := S.cx Y) (ho Y ok) (hb Y ok) set_list (ha2 _)
  refine (pss_cons (ps_asg (X := S.cx Y) (he Y ok) hG (hsw _) (hw _) (h1 _)) (hr Y ok)).pre fun Dd σ H ⟨F, g, E, q⟩ => ?_
  refine rdS.expr E q fun y v g1 H1 s1 E1 r1 q => rdS.expr E1 q fun x u g2 H2 s2 E2 r2 q => rdS.expr E2 q fun i w g3 H3 s3 E3 r3 q => ?_
  unfold cellSet at q
  simp only [bind_assoc'] at q
  obtain ⟨kk, a, xs, ds, rfl, hk, hx, rx, q⟩ := celL_post E3.wf (r2.mono s3.gle s3.aml) (post_bind q)
  obtain ⟨n, rfl, q⟩ := intG_post (post_bind q)
  obtain rfl := TopR.int (H := H3) (.inl r3)
  obtain ⟨j, ej, q⟩ := setL_post (post_bind q)
  have q := post_setC q
  have ry := (r1.mono s2.gle s2.aml).mono s3.gle s3.aml
  have st : Stp S.pg g3 H3 { g3 with st := g3.st.set kk (.lst (ds.set j y)) } (upd H3 a (.lst (xs.set j v))) :=
    Stp.wrt E3.wf hk hx (fun _ z => by cases z) (fun _ z => by cases z) ⟨_, upd_same, rx.set ry j⟩
  exact ⟨a, xs, n, j, rfl, rfl, hx, by rw [rx.length]; exact ej, F, _, E3.step st, q.imp (fun _ _ q => q.back st.ltr) fun _ _ q => q⟩
/-- o.pop(i) of a list with a cell -/
def cellPop (x i : D) : M D := celL x >>= fun kd => intG i >>= fun n =>
  if -(2 ^ 63) ≤ n ∧ n < 2 ^ 63 then (match seqIndex? n kd.2.length with
    | some j => (match kd.2[j]? with
      | some y => setC kd.1 (.lst (kd.2.eraseIdx j)) >>= fun _ => pure y
      | none => stuck)
    | none => stuck) else stuck
theorem ee_cpop (ho : EE S ρ o mo) (hb : EE S ρ b mb) (hs : NoStar [b] := by intro _; rfl) (hline : (apos.endLine == cpos.line) = true := by rfl) (hba : ∀ env : Env, attributeBase o "pop" env (eval o env) = eval o env := by intro _; rfl) :
    EE S ρ (.Call (.Attribute o "pop" apos) [b] [] cpos) (mo >>= fun x => celL x >>= fun _ => mb >>= fun i => cellPop x i) := fun Y ok => by
  refine (pe_bm (X := S.cx Y) (cpos := cpos) (apos := apos) PySem.F.plainAttrs_list PySem.F.slot_list_pop PySem.F.type_list_pop mt_popAt (ho Y ok) (pa_cons (hb Y ok) pa_nil (hs _)) (hba _) (by rw [hs _]; rfl) hline (hs _) (by rfl)).pre fun σ H Q ⟨F, g, E, q⟩ => ?_
  refine rdX.bind E q fun x v g1 H1 s1 E1 r1 q => ?_
  obtain ⟨k0, a, us, ds0, rfl, hk0, hx0, rx0, q⟩ := celL_post E1.wf r1 (post_bind q)
  refine ⟨.inl ⟨rfl, us, SqL.of hx0⟩, rdX.bind E1 (q.imp (fun _ _ q => q) fun _ _ q => q.back E.wf s1) fun i w g2 H2 s2 E2 r2 q => ?_⟩
  unfold cellPop at q
  obtain ⟨k, a2, xs, ds, e2, hk, hx, rx, q⟩ := celL_post E2.wf (r1.mono s2.gle s2.aml) (post_bind q)
  cases e2
  obtain ⟨n, ei, q5⟩ := intG_post (post_bind q)
  subst ei
  obtain rfl := TopR.int (H := H2) (.inl r2)
  by_cases z : -(2 ^ 63) ≤ n ∧ n < 2 ^ 63
  · simp only [if_pos z] at q5
    cases ej : seqIndex? n ds.length with
    | none => simp only [ej] at q5; exact False.elim q5
    | some j =>
      simp only [ej] at q5
      cases ed : ds[j]? with
      | none => simp only [ed] at q5; exact False.elim q5
      | some y =>
        simp only [ed] at q5
        have q := post_setC q5
        obtain ⟨vy, hy, ry⟩ := rx.get ed
        have st : Stp S.pg g2 H2 { g2 with st := g2.st.set k (.lst (ds.eraseIdx j)) } (upd H2 a (.lst (xs.eraseIdx j))) :=
          Stp.wrt E2.wf hk hx (fun _ z => by cases z) (fun _ z => by cases z) ⟨_, upd_same, rx.eraseIdx j⟩
        exact ⟨a, xs, n, j, vy, rfl, rfl, hx, z.1, z.2, by rw [rx.length]; exact ej, hy, (post_pure q) vy _ _ rfl (s1.trans E.wf (s2.trans E1.wf st)) ry⟩
  · simp only [if_neg z] at q5
    exact False.elim q5
end
end DL
namespace DL
open PySem PySem.Spec PyProof.Rows L2
/-! ### t[::-1] of a tuple -/
section
variable {prog : Program} {w : World} {A : Around} {E : Value → Shared → Prop} {s : Shared}
theorem adjust_rev (n : Nat) : Builtin.Slice.sliceAdjust none none (-1) (n : Int) = ((n : Int) - 1, -1) := by
  unfold Builtin.Slice.sliceAdjust
  have h1 : ((-1 : Int) < 0) := by omega
  simp only [h1, if_true]
theorem places_rev (n : Nat) : Builtin.Slice.slicePlaces ((n : Int) - 1) (-1) (-1) = n := by
  unfold Builtin.Slice.slicePlaces
  have h1 : ¬ ((-1 : Int) > 0) := by omega
  have e : (- -1 : Int) = 1 := by omega
  simp only [h1, if_false, e, Int.ediv_one]
  split <;> omega
theorem fm_congr {α β : Type} {f g : α → Option β} : ∀ {l : List α}, (∀ k ∈ l, f k = g k) → l.filterMap f = l.filterMap g
  | [], _ => rfl
  | x :: r, h => by
    rw [List.filterMap_cons, List.filterMap_cons, h x List.mem_cons_self, fm_congr fun k hk => h k (List.mem_cons_of_mem _ hk)]
theorem pick_rev (its : List Value) : ((List.range its.length).filterMap fun (k : Nat) => its.toArray[(((its.length : Int) - 1) + (k : Int) * (-1)).toNat]?) = its.reverse := by
  refine List.ext_getElem? fun i => ?_
  have : (List.range its.length).filterMap (fun (k : Nat) => its.toArray[(((its.length : Int) - 1) + (k : Int) * (-1)).toNat]?) = (List.range its.length).filterMap fun k => its.reverse[k]? := by
    refine fm_congr fun k hk => ?_
    have hk := List.mem_range.mp hk
    have e : (((its.length : Int) - 1) + (k : Int) * (-1)).toNat = its.length - 1 - k := by omega
    rw [e, List.getElem?_reverse hk]
    try simp
  rw [this]
  have h2 := PySem.W.krv_all its.reverse.toArray
  have h3 : (List.range its.length).filterMap (fun k => its.reverse[k]?) = its.reverse := by
    have e : its.reverse.toArray.size = its.length := by simp
    rw [e] at h2
    simpa using h2
  rw [h3]
theorem getItem_tuple_rev {t sl : Addr} {its : List Value} {vs : Value} {Q : Value → Shared → Prop} (ht : IsTup s.heap t its.toArray) (hs : s.heap.IsSliceOf sl .none .none vs) (ps : IsPart vs (some (-1)))
    (h : Q (.ref s.heap.objs.size) { s with heap := s.heap.push { cls := .type "tuple", data := .seq its.reverse.toArray } }) (hsz : its.length ≤ sizeLine) : wpAny (model prog w) A (getItem (.ref t) (.ref sl)) Q E s := by
  have htake : sizeOk (.seq its.reverse.toArray) := by
    show its.reverse.toArray.size ≤ sizeLine
    rw [List.size_toArray, List.length_reverse]
    exact hsz
  obtain ⟨os, hos, hcs, hds⟩ := id hs
  have hTs : s.TypeIs (.ref sl) "slice" := ⟨os, hos, hcs⟩
  have hap : ∀ {A' : Around} {E' : Value → Shared → Prop} {Q : Int × Int × Nat → Shared → Prop}, Q ((its.length : Int) - 1, -1, its.length) s → wpAny (model prog w) A' (Builtin.Slice.sliceApplied (.ref sl) (pure (its.toArray.size : Int))) Q E' s := by
    intro A' E' Q q
    unfold Builtin.Slice.sliceApplied Builtin.Slice.sliceFields
    refine wpAny_bind (wpAny_bind (wpAny_field hos hds (x := .none) rfl (wpAny_bind (wpAny_field hos hds (x := .none) rfl (wpAny_bind (wpAny_field hos hds (x := vs) rfl (wpAny_pure ?_)))))))
    refine wpAny_bind (HT.slicePart_ ps ?_)
    show wpAny _ _ (if ((-1 : Int) == 0) = true then _ else _) _ _ s
    rw [if_neg (by decide)]
    refine wpAny_bind (HT.slicePart_ .none (wpAny_bind (HT.slicePart_ .none (wpAny_bind (wpAny_pure ?_)))))
    show wpAny _ _ (match Builtin.Slice.sliceAdjust none none (-1) (its.toArray.size : Int) with | (lo, hi) => pure (lo, (-1 : Int), Builtin.Slice.slicePlaces lo hi (-1))) _ _ s
    rw [List.size_toArray, adjust_rev]
    show wpAny _ _ (pure ((its.length : Int) - 1, (-1 : Int), Builtin.Slice.slicePlaces ((its.length : Int) - 1) (-1) (-1))) _ _ s
    rw [places_rev]
    exact wpAny_pure q
  unfold getItem
  try with_reducible refine wpAny_holding ?_
  first | refine wpAny_bind (wpAny_pure ?_) | skip
  refine wpAny_bind (wpAny_sequenceKey ht.typeIs (by decide) ?_)
  refine wpAny_bind (wpAny_callSpecial?_slot (name := Str.ofString "__getitem__") ht.typeIs PyProof.Rows.slot_tuple_getitem
    (wpAny_call_entry PyProof.Rows.slot_tuple_getitem ht.typeIs entry_tuple_getitem ?_ (args_tuple_getitem _ _)))
  show wpAny _ _ (Builtin.Tuple.tupleItemsOf (.ref t) >>= _) _ _ s
  refine wpAny_bind (tupleItemsOf_ ht (wpAny_bind (wpAny_typeOf hTs ?_)))
  rw [if_pos (by decide)]
  refine wpAny_bind (hap ?_)
  have hno : ¬ ((((its.length : Int) - 1) == 0 && (-1 : Int) == 1 && its.length == its.toArray.size) = true) := by
    have : ((-1 : Int) == 1) = false := by decide
    rw [this, Bool.and_false, Bool.false_and]
    exact Bool.false_ne_true
  show wpAny _ _ (if (((its.length : Int) - 1) == 0 && (-1 : Int) == 1 && its.length == its.toArray.size) = true then _ else _) _ _ s
  rw [if_neg hno, pick_rev]
  first
    | exact wpAny_bind (m := Builtin.Tuple.tupleExact _) (wpAny_newObj_type (wpAny_pure ⟨_, rfl, wpAny_pure h⟩) htake)
    | exact wpAny_bind (m := Builtin.Tuple.tupleExact _) (wpAny_newObj_type (wpAny_bind (wpAny_pure (wpAny_pure ⟨_, rfl, wpAny_pure h⟩))) htake)
    | exact wpAny_bind (wpAny_bind (m := Builtin.Tuple.tupleExact _) (wpAny_newObj_type (wpAny_pure (wpAny_pure ⟨_, rfl, wpAny_pure h⟩)) htake))
    | exact wpAny_bind (wpAny_bind (m := Builtin.Tuple.tupleExact _) (wpAny_newObj_type (wpAny_pure ⟨_, rfl, wpAny_pure h⟩) htake))
end
def tRevT (K : PySem.W.Frag) (te : TE) : TE := fun σ H Q => te σ H fun x H1 => ∃ a xs, x = .ref a ∧ SqT K H1 a xs ∧ ∀ p, H1 p = none → Q (.ref p) (upd H1 p (.tup xs.reverse))
theorem pe_revT {X : Cx} {e : Expr} {te : TE} {k : Nat} {p1 p2 p3 pos : Pos} (he : PE X e te) : PE X (.Subscript e (.Slice none none (some (.UnaryOp .USub (.Constant (.int 1) k p1) p2)) p3) pos) (tRevT X.K te) := by
  refine ⟨fun pins s σ H Q I h => Subscript_ (thn (he.run pins s σ H _ I h) fun v s1 q0 => ?_)⟩
  obtain ⟨x, H1, I1, r1, a, xs, ex, hx, q⟩ := q0
  subst ex
  cases r1
  have hst : PO X (some (.UnaryOp .USub (.Constant (.int 1) k p1) p2)) (tPart (tUn (rU fun i => .int (-i)) (tC (.int 1)))) := po_some (pe_un un_neg pe_int)
  have e0 : ∀ {v : Value}, IsPart v none → v = .none := fun p => by cases p; rfl
  refine wpAny_Slice (thn (po_none.run pins s1 σ H1 (fun o H2 => o = none ∧ H2 = H1) I1 ⟨rfl, rfl⟩) fun vl s2 q0 => ?_)
  obtain ⟨l, H2, I2, pl, el, e2⟩ := q0
  subst el e2
  refine thn (po_none.run pins s2 σ H2 (fun o H3 => o = none ∧ H3 = H2) I2 ⟨rfl, rfl⟩) fun vu s3 q0 => ?_
  obtain ⟨u, H3, I3, pu, eu, e3⟩ := q0
  subst eu e3
  refine thn (hst.run pins s3 σ H3 (fun o H4 => o = some (-1) ∧ H4 = H3) I3 ⟨1, rfl, -1, rfl, rfl, rfl⟩) fun vs s4 q0 => ?_
  obtain ⟨o, H4, I4, ps, eo, e4⟩ := q0
  subst eo e4
  have z1 := e0 pl
  have z2 := e0 pu
  subst z1 z2
  have I5 : Inv X pins σ H4 { s4 with heap := s4.heap.push { cls := .type "slice", data := .fields #[.none, .none, vs] } } := I4.kept (t' := s4.toks) fun b ob q => Heap.get?_push_of_some _ q
  obtain ⟨its, r, ht, hz⟩ := I5.tuple hx
  have hlen := r.length
  refine tail_any (s := { s4 with heap := s4.heap.push { cls := .type "slice", data := .fields #[.none, .none, vs] } }) (ops := [.ref a, .ref s4.heap.objs.size]) ht.typeIs (PyProof.Rows.slot_tuple_getitem.lookup) ?_ (by with_unfolding_all rfl)
  refine getItem_tuple_rev ht (Heap.IsSliceOf.new _ _ _ vs) ps ?_ (by rw [← hlen]; exact hz)
  refine ⟨.ref _, _, I5.laid (t' := s4.toks) (o := .tup xs.reverse) (fun b ob q => Heap.get?_push_of_some _ q) (Nat.le_refl _) ?_, rfl, q _ (I5.hok.fresh (Nat.le_refl _))⟩
  exact ⟨by rw [List.length_reverse]; exact hz, _, r.reverse, IsTup.new _ _⟩
def revD : D → M D
  | .tup ds => pure (.tup ds.reverse)
  | _ => stuck
def revL : D → M D
  | .lst ds => pure (.lst ds.reverse)
  | .rls ds => pure (.lst ds.reverse)
  | _ => stuck
section
variable {S : Sta} {ρ : Ev} {a : Expr} {ma : M D} {k : Nat} {p1 p2 p3 pos : Pos}
theorem ee_revT (ha : EL S ρ a ma) : EE S ρ (.Subscript a (.Slice none none (some (.UnaryOp .USub (.Constant (.int 1) k p1) p2)) p3) pos) (ma >>= revD) := fun Y ok =>
  (pe_revT (X := S.cx Y) (ha Y ok)).pre fun σ H Q ⟨F, g, E, q⟩ => rdX.bind E q fun x v g' H' s E' r q => by
    cases x with
    | tup ds =>
      obtain ⟨a, us, rfl, sq, ru⟩ := r.tup E'.wf
      refine ⟨a, us, rfl, sq, fun l hl => ?_⟩
      have s2 := Stp.new (o := .tup us.reverse) E'.wf hl
      exact (post_pure q) _ { g' with G := upd g'.G l (.tup us.reverse) } _ rfl (s.trans E.wf s2) (.tup (.inl (.inl upd_same)) (ru.reverse.mono s2.gle s2.aml))
    | _ => exact False.elim q
theorem en_revL (ha : EL S ρ a ma) : EN S ρ (.Subscript a (.Slice none none (some (.UnaryOp .USub (.Constant (.int 1) k p1) p2)) p3) pos) (ma >>= revL) := fun Y ok =>
  (pe_revL (X := S.cx Y) (ha Y ok)).pre fun σ H Q ⟨F, g, E, q⟩ => rdX.bind E q fun x v g' H' s E' r q => by
    have core : ∀ (a : Addr) (us : List V) (ds : List D), SqL S.pg.K H' a us → S.pg.Rps g' us ds → Pv S.pg (RN S.pg) g H Q (.lst ds.reverse) g'.st → ∃ a xs, V.ref a = .ref a ∧ SqL S.pg.K H' a xs ∧ ∀ p, H' p = none → Q (.ref p) (upd H' p (.lst xs.reverse)) := fun a us ds sq r q =>
      ⟨a, us, rfl, sq, fun l hl => q _ g' _ rfl (s.trans E.wf (Stp.laid E'.wf hl)) ⟨l, rfl, ⟨_, upd_same, r.reverse⟩, E'.wf.freeG hl, E'.wf.freeA hl, s.none_of E.wf hl⟩⟩
    cases x with
    | lst ds =>
      obtain ⟨a, us, rfl, sq, ru⟩ := r.lst E'.wf
      exact ⟨a, us, rfl, SqL.of sq, fun l hl => (post_pure q) _ g' _ rfl (s.trans E.wf (Stp.laid E'.wf hl)) ⟨l, rfl, ⟨_, upd_same, ru.reverse⟩, E'.wf.freeG hl, E'.wf.freeA hl, s.none_of E.wf hl⟩⟩
    | rls ds =>
      obtain ⟨a, us, rfl, sq, ru⟩ := r.rls E'.wf
      exact ⟨a, us, rfl, sq, fun l hl => (post_pure q) _ g' _ rfl (s.trans E.wf (Stp.laid E'.wf hl)) ⟨l, rfl, ⟨_, upd_same, ru.reverse⟩, E'.wf.freeG hl, E'.wf.freeA hl, s.none_of E.wf hl⟩⟩
    | _ => exact False.elim q
/-! ### a statement that is never met -/
variable {st : Stmt} {N B : Type} {shN : N → Ev} {shB : B → Ev} {rest : List Stmt}
theorem sb_never : SB S ρ (st :: rest) (stuck : M (Out N B)) shN shB := fun Y ok => pss_never.pre fun Dd σ H ⟨F, g, E, q⟩ => False.elim q
end
end DL
namespace DL
open PySem PySem.Spec PyProof.Rows L2
/-! ### by the number of arguments -/
def p1 {α : Type} (f : D → M α) : List D → M α
  | [a] => f a
  | _ => stuck
def p2 {α : Type} (f : D → D → M α) : List D → M α
  | [a, b] => f a b
  | _ => stuck
def p3 {α : Type} (f : D → D → D → M α) : List D → M α
  | [a, b, c] => f a b c
  | _ => stuck
def p4 {α : Type} (f : D → D → D → D → M α) : List D → M α
  | [a, b, c, d] => f a b c d
  | _ => stuck
def p5 {α : Type} (f : D → D → D → D → D → M α) : List D → M α
  | [a, b, c, d, e] => f a b c d e
  | _ => stuck
def p6 {α : Type} (f : D → D → D → D → D → D → M α) : List D → M α
  | [a, b, c, d, e, g] => f a b c d e g
  | _ => stuck
def p0 {α : Type} (f : M α) : List D → M α
  | [] => f
  | _ => stuck
section
variable {α : Type} {P : List D → M α → Prop}
theorem q0 {f : M α} (h : P [] f) : ∀ ds : List D, ds.length = 0 → P ds (p0 f ds)
  | [], _ => h
theorem q1 {f : D → M α} (h : ∀ a, P [a] (f a)) : ∀ ds : List D, ds.length = 1 → P ds (p1 f ds)
  | [a], _ => h a
theorem q2 {f : D → D → M α} (h : ∀ a b, P [a, b] (f a b)) : ∀ ds : List D, ds.length = 2 → P ds (p2 f ds)
  | [a, b], _ => h a b
theorem q3 {f : D → D → D → M α} (h : ∀ a b c, P [a, b, c] (f a b c)) : ∀ ds : List D, ds.length = 3 → P ds (p3 f ds)
  | [a, b, c], _ => h a b c
theorem q4 {f : D → D → D → D → M α} (h : ∀ a b c d, P [a, b, c, d] (f a b c d)) : ∀ ds : List D, ds.length = 4 → P ds (p4 f ds)
  | [a, b, c, d], _ => h a b c d
theorem q5 {f : D → D → D → D → D → M α} (h : ∀ a b c d e, P [a, b, c, d, e] (f a b c d e)) : ∀ ds : List D, ds.length = 5 → P ds (p5 f ds)
  | [a, b, c, d, e], _ => h a b c d e
theorem q6 {f : D → D → D → D → D → D → M α} (h : ∀ a b c d e g, P [a, b, c, d, e, g] (f a b c d e g)) : ∀ ds : List D, ds.length = 6 → P ds (p6 f ds)
  | [a, b, c, d, e, g], _ => h a b c d e g
end
/-! ### swaps -/
def swC (sc scope : Scope) (x : Str) (p1 p2 : Pos) : Bool := (if sc.kind.isAnnotationScope then ScopeKind.function else sc.kind) == .function && sc.names.lookup x == some .local && p1.line == p2.line && !(scope.names.any fun (n, k) => n == x && (k == .local || k == .cell))
theorem sw_lc {elt : Expr} {gs : List Comprehension} {sc scope : Scope} {x : Str} {p1 p2 : Pos} {l : Nat} {b : Bool} (h : swC sc scope x p1 p2 = b) : ∀ env : Env, env.scope = sc → swapsWith (.ListComp elt gs scope p2) (some (.Name x p1)) l env = pure b := by
  rintro env rfl
  rw [← h]
  rfl
/-! ### the law's end -/
/-- the law's promise -/
def spLaw (K : PySem.W.Frag) : Sp := fun vs H Q _ => ∃ (a : Addr) (ns : List Int), vs = [.ref a] ∧ ns.length ≤ 63 ∧ SqL K H a (ns.map V.int) ∧ ∀ H', Q (.bl true) H'
/-- the law holds of its mirror -/
def LawOk (F : List D → M D) : Prop := ∀ ns : List Int, ns.length ≤ 63 → (F [.rls (ns.map D.int)] []).Post (fun d _ => d = .bl true) fun _ _ => False
theorem law_sp {p : Pg} {F : List D → M D} (h : LawOk F) (vs : List V) (H : Hp) (Q : VK) (E : XK) (q : spLaw p.K vs H Q E) : spD p [.v] F vs H Q E := by
  obtain ⟨a, ns, rfl, hl, hs, q⟩ := q
  refine ⟨⟨H, [], []⟩, [.rls (ns.map D.int)], ⟨fun _ _ e => e, fun _ h => (List.not_mem_nil h).elim, List.nodup_nil, rfl, fun k b c e => by simp at e⟩, ⟨.rls hs (.ofInts ns), True.intro⟩, (h ns hl).imp (fun d st e => ?_) fun _ _ e => e.elim⟩
  subst e
  intro v g' H' _ s r
  cases r
  exact q H'
theorem cx_no {P : Program} {w : World} {H : Hp} {s s' : Shared} {e : Value} (h : L2.CX P w [] H s (fun _ _ _ => False) e s') : False := by
  obtain ⟨_, _, _, _, _, _, _, _, _, _, _, _, h⟩ := h
  exact h
end DL
namespace DL
open PySem PySem.Spec PyProof.Rows L2
/-! ### the built-ins by name -/
section
variable {S : Sta}
theorem b_len (m : S.pg.mg "len" = none) (g : Glb S "len" := by rfl) : Blt S "len" (.builtin "len") := .mk' g m PySem.boot_len
theorem b_sum (m : S.pg.mg "sum" = none) (g : Glb S "sum" := by rfl) : Blt S "sum" (.builtin "sum") := .mk' g m PyProof.Rows.boot_sum
theorem b_any (m : S.pg.mg "any" = none) (g : Glb S "any" := by rfl) : Blt S "any" (.builtin "any") := .mk' g m PyProof.Rows.boot_any
theorem b_all (m : S.pg.mg "all" = none) (g : Glb S "all" := by rfl) : Blt S "all" (.builtin "all") := .mk' g m PyProof.Rows.boot_all
theorem b_max (m : S.pg.mg "max" = none) (g : Glb S "max" := by rfl) : Blt S "max" (.builtin "max") := .mk' g m PyProof.Rows.boot_max
theorem b_min (m : S.pg.mg "min" = none) (g : Glb S "min" := by rfl) : Blt S "min" (.builtin "min") := .mk' g m PyProof.Rows.boot_min
theorem b_abs (m : S.pg.mg "abs" = none) (g : Glb S "abs" := by rfl) : Blt S "abs" (.builtin "abs") := .mk' g m PyProof.Rows.boot_abs
theorem b_sorted (m : S.pg.mg "sorted" = none) (g : Glb S "sorted" := by rfl) : Blt S "sorted" (.builtin "sorted") := .mk' g m PyProof.Rows.boot_sorted
theorem b_int (m : S.pg.mg "int" = none) (g : Glb S "int" := by rfl) : Blt S "int" (.type "int") := .mk' g m PyProof.Rows.boot_int
theorem b_tuple (m : S.pg.mg "tuple" = none) (g : Glb S "tuple" := by rfl) : Blt S "tuple" (.type "tuple") := .mk' g m PyProof.Rows.boot_tuple
theorem b_list (m : S.pg.mg "list" = none) (g : Glb S "list" := by rfl) : Blt S "list" (.type "list") := .mk' g m PyProof.Rows.boot_list
end
/-! ### rules with their small print filled in -/
section
variable {S : Sta} {ρ : Ev} {a b c e : Expr} {ma mb mc m : M D} {pos p p2 : Pos} {R : Rel}
theorem ev (i : Nat) {x : Str} {d : D} (hs : ρ[i]? = some (.sh d) := by rfl) (hN : S.N[i]? = some x := by rfl) (hv : Vis S.sc x := by first | exact Or.inl rfl | exact Or.inr (Or.inl rfl) | exact Or.inr (Or.inr rfl))
    (hd : (x == ("__debug__" : Str)) = false := by decide) (hcd : (x == ("__classdict__" : Str)) = false := by decide) : EE S ρ (.Name x pos) (pure d) := ee_var i hs hN hv hd hcd
theorem evo (i : Nat) {x : Str} {d : D} (hs : ρ[i]? = some (.ow d) := by rfl) (hN : S.N[i]? = some x := by rfl) (hv : Vis S.sc x := by first | exact Or.inl rfl | exact Or.inr (Or.inl rfl) | exact Or.inr (Or.inr rfl))
    (hd : (x == ("__debug__" : Str)) = false := by decide) (hcd : (x == ("__classdict__" : Str)) = false := by decide) : EL S ρ (.Name x pos) (pure d) := el_ow i hs hN hv hd hcd
theorem evb (i : Nat) {x : Str} {d : D} (hs : ρ[i]? = some (.bo d) := by rfl) (hN : S.N[i]? = some x := by rfl) (hv : Vis S.sc x := by first | exact Or.inl rfl | exact Or.inr (Or.inl rfl) | exact Or.inr (Or.inr rfl))
    (hd : (x == ("__debug__" : Str)) = false := by decide) (hcd : (x == ("__classdict__" : Str)) = false := by decide) : EL S ρ (.Name x pos) (pure d) := el_bo i hs hN hv hd hcd
theorem eg {x : Str} {i : Int} (h : ∃ t, S.pg.mg x = some (.int i t)) (hg : S.sc.names.lookup x = some .globalImplicit := by rfl) (hd : (x == ("__debug__" : Str)) = false := by decide) : EE S ρ (.Name x pos) (pure (.int i)) := by
  obtain ⟨t, h⟩ := h
  exact ee_glob (v := .int i) hg h ⟨t, rfl⟩ (fun _ => .int i) hd
theorem xcmp {op : CmpOp} {r : R2} {f : D → D → M Bool} (h : Cmp S op r f) (ha : EL S ρ a ma) (hb : EL S ρ b mb) (hm : behindInMarks op b = false := by rfl) : EE S ρ (.Compare a [op] [b] pos) (ma >>= fun x => mb >>= fun y => f x y >>= fun b => pure (.bl b)) := ee_cmp h ha hb hm
theorem tcmp {op : CmpOp} {r : R2} {f : D → D → M Bool} (h : Cmp S op r f) (ha : EL S ρ a ma) (hb : EL S ρ b mb) (hm : behindInMarks op b = false := by rfl) : ET S ρ (.Compare a [op] [b] pos) (ma >>= fun x => mb >>= fun y => f x y) := et_cmp h ha hb hm
theorem xix (ha : EL S ρ a ma) (hb : EL S ρ b mb) (hs : PlainIx b := by exact fun _ _ => rfl) : EE S ρ (.Subscript a b pos) (ma >>= fun x => mb >>= fun y => ixD x y) := ee_ix ha hb hs
theorem ttr (ha : EL S ρ a ma) (he : ∀ (env : Env) (whole : Sem Value), isTrue a env whole = (do let v ← whole; standAt a.pos; holding [v] (truthy v)) := by exact fun _ _ => rfl) : ET S ρ a (ma >>= truth) := et_truth ha he
theorem xcall {x : Str} {k : Nat} {F : List D → M D} {es : List Expr} {ks : List AK} {ms : M (List D)} (fn : Fnc S.pg k x ks F) (ha : EAk S ρ ks (e :: es) ms) (hk : k ≤ S.lv := by exact Nat.le_of_ble_eq_true rfl) (hg : Glb S x := by rfl) (hs : ∀ env : Env, starEach (e :: es) env = (false, eval e env) :: starEach es env := by exact fun _ => rfl)
    (hpl : ∀ env : Env, (backTo pos (starEach es env)).any (·.1) = false := by exact fun _ => rfl) (hdb : (x == ("__debug__" : Str)) = false := by decide) : EE S ρ (.Call (.Name x p) (e :: es) [] pos) (ms >>= F) := ee_call fn hk hg ha hs hpl hdb
theorem xcall0 {x : Str} {k : Nat} {F : List D → M D} (fn : Fnc S.pg k x [] F) (hk : k ≤ S.lv := by exact Nat.le_of_ble_eq_true rfl) (hg : Glb S x := by rfl) (hdb : (x == ("__debug__" : Str)) = false := by decide) : EE S ρ (.Call (.Name x p) [] [] pos) (F []) := ee_call0 fn hk hg hdb
theorem av {es : List Expr} {ks : List AK} {ms : M (List D)} (he : EE S ρ e m) (hr : EAk S ρ ks es ms) (hs : ∀ env : Env, starEach (e :: es) env = (false, eval e env) :: starEach es env := by exact fun _ => rfl) : EAk S ρ (.v :: ks) (e :: es) (m >>= fun d => ms >>= fun ds => pure (d :: ds)) := eak_v he hr hs
theorem ab {es : List Expr} {ks : List AK} {ms : M (List D)} (he : EL S ρ e m) (hr : EAk S ρ ks es ms) (hs : ∀ env : Env, starEach (e :: es) env = (false, eval e env) :: starEach es env := by exact fun _ => rfl) : EAk S ρ (.b :: ks) (e :: es) (m >>= fun d => ms >>= fun ds => pure (d :: ds)) := eak_b he hr hs
/-! targets -/
theorem tn (i : Nat) {x : Str} (hnd : S.N.Nodup) (hN : S.N[i]? = some x := by rfl) (hx : Loc S.sc x := by first | exact Or.inl rfl | exact Or.inr rfl) (hf : S.fn x = true ∨ S.sc.names.lookup x = some .local := by first | exact Or.inl rfl | exact Or.inr rfl) : TG S (.Name x pos) nm [i] := tg_name i hnd hN hx hf
theorem tc {tg : Expr} {tgs : List Expr} {u : D → M (List D)} {us : List D → M (List D)} {ix jx : List Nat} (pu : Pure1 u) (pus : Pure1 us) (hlen : Len1 u ix.length) (h1 : TG S tg u ix) (h2 : TGs S tgs us jx)
    (hs : ∀ env : Env, (assignEach (tg :: tgs) env).map (·.2) = assign tg env :: (assignEach tgs env).map (·.2) := by exact fun _ => rfl) : TGs S (tg :: tgs) (unc u us) (ix ++ jx) := tgs_cons pu pus hlen h1 h2 hs
theorem tt {tgs : List Expr} {us : List D → M (List D)} {ix : List Nat} {n k l : Nat} (h : TGs S tgs us ix) (hl : LenS us n l) (hn : ∀ env : Env, (assignEach tgs env).length = n := by exact fun _ => rfl) (hst : ∀ env : Env, (assignEach tgs env).findIdx? (·.1) = none := by exact fun _ => rfl) :
    TG S (.Tuple tgs k pos) (unT us) ix := tg_tup h hn (fun ds s r s' e => (hl ds s r s' e).1) hst
/-! statements -/
variable {rest body : List Stmt} {N B : Type} {shN : N → Ev} {shB : B → Ev} {apos cpos spos : Pos} {tg it : Expr} {mi : M (List D)} {o : Expr} {mo : M D}
theorem s_set (i : Nat) {x : Str} {k : D → M (Out N B)} (hnd : S.N.Nodup) (he : EE S ρ e m) (hr : ∀ d, SB S (ρ.set i (.sh d)) rest (k d) shN shB) (hs : ∀ env : Env, env.scope = S.sc → swapsWith e (some (.Name x p2)) pos.line env = pure false := by exact fun _ _ => rfl)
    (hN : S.N[i]? = some x := by rfl) (hx : Loc S.sc x := by first | exact Or.inl rfl | exact Or.inr rfl) (hf : S.fn x = true ∨ S.sc.names.lookup x = some .local := by first | exact Or.inl rfl | exact Or.inr rfl) :
    SB S ρ (.Assign [.Name x p2] e pos :: rest) (m >>= k) shN shB := sb_asg i hnd hN hx he hr hs hf
theorem s_setN (i : Nat) {x : Str} {k : D → M (Out N B)} (hnd : S.N.Nodup) (he : EN S ρ e m) (hr : ∀ d, SB S (ρ.set i (.ow d)) rest (k d) shN shB) (hs : ∀ env : Env, env.scope = S.sc → swapsWith e (some (.Name x p2)) pos.line env = pure false := by exact fun _ _ => rfl)
    (hN : S.N[i]? = some x := by rfl) (hx : Loc S.sc x := by first | exact Or.inl rfl | exact Or.inr rfl) (hf : S.fn x = true ∨ S.sc.names.lookup x = some .local := by first | exact Or.inl rfl | exact Or.inr rfl) :
    SB S ρ (.Assign [.Name x p2] e pos :: rest) (m >>= k) shN shB := sb_asgN i hnd hN hx he hr hs hf
theorem s_setC (i : Nat) {x : Str} {k : D → M (Out N B)} (hnd : S.N.Nodup) (he : CompE S ρ e m) (hr : ∀ d, SB S (ρ.set i (.sh d)) rest (k d) shN shB) (hs : ∀ env : Env, env.scope = S.sc → swapsWith e (some (.Name x p2)) pos.line env = pure true)
    (hN : S.N[i]? = some x := by rfl) (hx : S.sc.names.lookup x = some .local := by rfl) : SB S ρ (.Assign [.Name x p2] e pos :: rest) (m >>= k) shN shB := sb_asgC i hnd hN hx he hr hs
theorem s_setCN (i : Nat) {x : Str} {k : D → M (Out N B)} (hnd : S.N.Nodup) (he : CompE S ρ e m) (hr : ∀ d, SB S (ρ.set i (.ow d)) rest (k d) shN shB) (hs : ∀ env : Env, env.scope = S.sc → swapsWith e (some (.Name x p2)) pos.line env = pure true)
    (hN : S.N[i]? = some x := by rfl) (hx : S.sc.names.lookup x = some .local := by rfl) : SB S ρ (.Assign [.Name x p2] e pos :: rest) (m >>= k) shN shB := sb_asgCN i hnd hN hx he hr hs
theorem s_append (i : Nat) {x : Str} {d : D} {k : D → M (Out N B)} (he : EE S ρ e m) (hr : ∀ d, SB S (ρ.set i (.ow d)) rest (k d) shN shB) (hi : ρ[i]? = some (.ow d) := by rfl) (hN : S.N[i]? = some x := by rfl)
    (hv : Vis S.sc x := by first | exact Or.inl rfl | exact Or.inr (Or.inl rfl) | exact Or.inr (Or.inr rfl)) (hs : NoStar [e] := by exact fun _ => rfl) (hline : (apos.endLine == cpos.line) = true := by rfl)
    (hsw : ∀ env : Env, swapsWith (.Call (.Attribute (.Name x p) "append" apos) [e] [] cpos) none pos.line env = pure false := by exact fun _ => rfl) (hba : ∀ env : Env, attributeBase (.Name x p) "append" env (eval (.Name x p) env) = eval (.Name x p) env := by exact fun _ => rfl)
    (hd : (x == ("__debug__" : Str)) = false := by decide) (hcd : (x == ("__classdict__" : Str)) = false := by decide) :
    SB S ρ (.Expr (.Call (.Attribute (.Name x p) "append" apos) [e] [] cpos) pos :: rest) (lstD d >>= fun ds => m >>= fun y => appL ds y >>= k) shN shB := sb_append i hi hN hv he hr hs hline hsw hba hd hcd
theorem s_expr {k : M (Out N B)} (he : EL S ρ e m) (hr : SB S ρ rest k shN shB) (hs : ∀ env : Env, swapsWith e none pos.line env = pure false := by exact fun _ => rfl) : SB S ρ (.Expr e pos :: rest) (m >>= fun _ => k) shN shB := sb_expr he hr hs
theorem s_for {Z : Type} {sh : Z → Ev} {s0 : Z} {u : D → M (List D)} {ix : List Nat} {step : Z → List D → M (Out Z Z)} {k : Z → M (Out N B)} (hi : EI S ρ (TL S.pg) tg it mi) (hg : TG S tg u ix) (pu : Pure1 u) (hlen : Len1 u ix.length) (h0 : Le (sh s0) ρ)
    (hb : ∀ s ds, ds.length = ix.length → SB S (setE (sh s) ix ds) body (step s ds) sh sh) (hr : ∀ s, SB S (sh s) rest (k s) shN shB) (hs : ∀ (env : Env) (x : Value), foldedSetIterable it env x = pure x := by exact fun _ _ => rfl) :
    SB S ρ (.For tg it body [] pos :: rest) (mi >>= fun xs => forL (fun s x => u x >>= step s) s0 xs >>= seqO k) shN shB := sb_for hi hg pu hlen h0 hb hr hs
theorem s_cset {k : M (Out N B)} (he : EE S ρ e m) (ho : EE S ρ o mo) (hb : EE S ρ b mb) (hr : SB S ρ rest k shN shB)
    (hsw : ∀ env : Env, swapsWithSole [.Subscript o b spos] e pos.line env = pure false := by exact fun _ => rfl) (hw : ∀ env : Env, swappedStores [.Subscript o b spos] e env = pure none := by exact fun _ => rfl)
    (h1 : ∀ env : Env, (assignEach [.Subscript o b spos] env).map (·.2) = [assign (.Subscript o b spos) env] := by exact fun _ => rfl)
    (ha2 : ∀ (env : Env) v, assign (.Subscript o b spos) env v = (do
      let ov ← holding [v] (eval o env)
      let iv ← holding [v, ov] (eval b env)
      standAt spos
      holding [v, ov, iv] (setItem ov iv v)
      release [v, ov, iv] []) := by exact fun _ _ => rfl) :
    SB S ρ (.Assign [.Subscript o b spos] e pos :: rest) (m >>= fun y => mo >>= fun x => mb >>= fun i => cellSet x i y >>= fun _ => k) shN shB := sb_cset he ho hb hr hsw hw h1 ha2
theorem c_lc {ifs : List Expr} {scope : Scope} {elt : Expr} {u : D → M (List D)} {ix : List Nat} {mt : List D → M Bool} {me : List D → M D}
    (hN : S.N.Nodup) (own' : List (Str × Nat)) (hi : EI S ρ (TS' S.pg) tg it mi) (hg : TG (S.blk scope) tg u ix) (pu : Pure1 u) (hlen : Len1 u ix.length)
    (ht : ∀ ds, ds.length = ix.length → ETs (S.blk scope) (setE (wipeE ρ (own'.map (·.2))) ix ds) ifs (mt ds))
    (he : ∀ ds, ds.length = ix.length → EE (S.blk scope) (setE (wipeE ρ (own'.map (·.2))) ix ds) elt (me ds))
    (hok : blkC S.N S.sc scope own' = true := by kernel_rfl) (hix : ∀ i ∈ ix, i ∈ own'.map (·.2) := by decide)
    (hs : ∀ (env : Env) (x : Value), foldedSetIterable it env x = pure x := by exact fun _ _ => rfl) :
    CompE S ρ (.ListComp elt [⟨tg, it, ifs, 0⟩] scope pos) (lcM mi u mt me) := comp1 hN (blkOk_by hok) hi hg pu hlen hix ht he hs
end
end DL
namespace DL
open PySem PySem.Spec PyProof.Rows L2
/-! ### sorted(set(..)) of ints, any number of them -/
/-- the new set, as it is laid -/
abbrev newSet (w : World) : Obj := { cls := .type "set", dict := none, data := .set #[] 0 (.fresh 0 0 (!w.params.followText "set-order")) }
abbrev memI (ns : List Int) : Int → Bool := fun j => decide (j ∈ ns)
section
variable {P : Program} {w : World} {A : Around} {E : Value → Shared → Prop} {s : Shared}
set_option maxHeartbeats 4000000 in
theorem set_of_list {l : Addr} {its : Array Value} (ns : List Int) {Q : Value → Shared → Prop} (nh : A.handled = none) (isl : s.heap.IsList l its) (hI : IntsAre its.toList ns) (few : ns.length + 1 < scanBound)
    (done : ∀ (hp : Heap) (tk n : Nat), SetR w hp s.heap.objs.size (memI ns) n → n ≤ ns.length → (∀ b o, s.heap.get? b = some o → hp.get? b = some o) → Q (.ref s.heap.objs.size) { s with heap := hp, toks := tk }) :
    wpAny (model P w) A (call (.type "set") [.ref l]) Q E s := by
  have hsize : its.size = ns.length := by
    have z := IntsAre.length hI
    rwa [Array.length_toList] at z
  obtain ⟨cm, tlm, hmro⟩ := F.called_set.mro
  have hmd := F.called_set.made
  have hsb := F.called_set.sub
  have hnt := F.called_set.notType
  have hcc := F.called_set.canCreate
  have htc := F.typeCall_set_1 (.ref l)
  refine wpAny_call (codeAny_of_tree ?_)
  show wpAny _ _ (callAny (.type "set") _) _ _ _
  refine wpAny_pure ⟨Code.quiet_builtin _ (by decide +kernel), codeAny_builtin F.entry_type_call ?_⟩
  rw [Around.under_plain (weight_type_call_type "set" [.ref l] []) rfl]
  repeat (any_goals (first | assumption | wp_step))
  refine codeAny_mono (code_set_led1 (.ref l) (E := E) (Q₁ := fun v s1 => v = .ref s.heap.objs.size ∧ s1 = { s with heap := s.heap.push (newSet w) }) ⟨rfl, rfl⟩) fun r s1 hr => ?_
  cases r with
  | error e => exact hr
  | ok fl =>
    cases fl with
    | next => exact hr.elim
    | brk => exact hr.elim
    | cont => exact hr.elim
    | ret v =>
      obtain ⟨rfl, rfl⟩ := hr
      have hset : (s.heap.push (newSet w)).get? s.heap.objs.size = some (newSet w) := Heap.get?_push_size _ rfl
      have hty : Shared.TypeIs { s with heap := s.heap.push (newSet w) } (.ref s.heap.objs.size) "set" := ⟨_, hset, rfl⟩
      have hlk := F.called_set.init.lookup
      have hbd := F.called_set.init.bind (.ref s.heap.objs.size)
      repeat (any_goals (first | assumption | wp_step))
      refine codeAny_mono (codeAny_call_builtin (R := wants (fun r s2 => r = .none ∧ ∃ hp tk n, s2 = { s with heap := hp, toks := tk } ∧ SetR w hp s.heap.objs.size (memI ns) n ∧ n ≤ ns.length ∧ ∀ b o, s.heap.get? b = some o → hp.get? b = some o) E)
        F.called_set.init.plain F.entry_set_init (check_set_init_1 hty ?_)) fun r2 s2 hr2 => ?_
      · obtain ⟨⟨oc, od, odt, osl⟩, hol, hcl, nl, hdl⟩ := isl
        simp only at hcl hdl
        subst hcl hdl
        have hol' : (s.heap.push (newSet w)).get? l = some { cls := .type "list", dict := od, data := .seq its nl, slots := osl } := Heap.get?_push_of_some _ hol
        have n1 := F.sub_list_set
        have n2 := F.sub_list_frozenset
        have n3 : (Value.type "list" == Value.type "dict") = false := by decide
        have isl1 : (s.heap.push (newSet w)).IsList l its := ⟨_, hol', rfl, nl, rfl⟩
        unfold Builtin.«set.__init__» noKeywords Builtin.Frozenset.updateFrom
        generalize hPI : pyIter = PI
        wp_walk
        subst hPI
        refine wpAny_pyIter_list isl1 (wpAny_bind (wpAny_runValue ?_))
        have lS : l < s.heap.objs.size := Heap.lt_size hol
        have nh3 : A.in1.in1.in1.handled = none := by simp [nh]
        have zz : (s.heap.push (newSet w)).objs.size = s.heap.objs.size + 1 := Heap.size_push ..
        have neI : l ≠ (s.heap.push (newSet w)).objs.size := by
          rw [zz]
          exact Nat.ne_of_lt (Nat.lt_succ_of_lt lS)
        have nS : s.heap.objs.size ∉ [(s.heap.push (newSet w)).objs.size, l] := by
          rw [zz]
          simp only [List.mem_cons, List.not_mem_nil, or_false, not_or]
          exact ⟨Nat.ne_of_lt (Nat.lt_succ_self _), Nat.ne_of_gt lS⟩
        have val : ∀ (i : Nat) (v : Value), its[i]? = some v → ∃ k t, ns[i]? = some k ∧ v = .int k t := fun i v hv => by
          have hi : i < ns.length := by rw [← hsize]; exact (Array.getElem?_eq_some_iff.mp hv).1
          obtain ⟨t, e⟩ := PyProof.Rows.IntsAre.int_at hI i v (by rw [Array.getElem?_toList]; exact hv)
          refine ⟨ns[i], t, List.getElem?_eq_getElem hi, ?_⟩
          rw [e, List.getD_eq_getElem?_getD, List.getElem?_eq_getElem hi]
          rfl
        refine set_update_ints ((Walks.list nh3 _ l neI its).toS) s.heap.objs.size nS ns hsize few val (its.size - 0) 0 _ (by omega) (Nat.zero_le _) ⟨⟨_, Heap.get?_push_size _ rfl, rfl, rfl⟩, (isl1.push _)⟩ ⟨0, Nat.le_refl 0, setR_new_at (Heap.get?_push_of_some _ hset)⟩ ?_
        rintro ⟨hp, g2, d2, tk2, os2⟩ n hm hn hS
        have e1 : g2 = s.gens := hm.gens
        have e2 : d2 = s.drawn := hm.drawn
        have e3 : os2 = s.os := hm.os
        subst e1 e2 e3
        show wpAny _ _ _ _ _ _
        refine wpAny_pure ?_
        show wpAny _ _ (ret Value.none) _ _ _
        rw [hsize] at hn
        refine wpAny_pure ⟨rfl, hp, tk2, n, rfl, hS, hn, fun b o e => ?_⟩
        have b0 : b < s.heap.objs.size := Heap.lt_size e
        refine hm.heap b o ?_ (Heap.get?_push_of_some _ (Heap.get?_push_of_some _ e))
        simp only [List.mem_cons, List.not_mem_nil, or_false, not_or]
        exact ⟨Nat.ne_of_lt b0, by rw [zz]; exact Nat.ne_of_lt (Nat.lt_succ_of_lt b0)⟩
      · cases r2 with
        | error e => exact hr2
        | ok fl2 =>
          cases fl2 with
          | next => exact hr2.elim
          | brk => exact hr2.elim
          | cont => exact hr2.elim
          | ret r =>
            obtain ⟨rfl, hp, tk, n, rfl, hS, hn, hk⟩ := hr2
            repeat (any_goals (first | assumption | wp_step))
            exact done _ _ _ hS hn hk
theorem sort_of_set {a : Addr} {S : Int → Bool} {n : Nat} {Q : Value → Shared → Prop} (R : SetR w s.heap a S n) (nh : A.handled = none) (few : n ≤ sizeLine)
    (done : ∀ s2 p (out : Array Value) (c : Nat) (ns : List Int), (∀ b o, s.heap.get? b = some o → s2.heap.get? b = some o) → s2.gens = s.gens → s2.os = s.os → s.heap.objs.size ≤ p →
      s2.heap.get? p = some (seqObj "list" out c) → IntsAre out.toList ns → ns.Pairwise (· < ·) → (∀ k, k ∈ ns ↔ S k = true) → Q (.ref p) s2) : wpAny (model P w) A (call (.builtin "sorted") [.ref a]) Q E s := by
  obtain ⟨ob, es, ep, tb, hob, hex, hdt, good, nd, hmem, hsc, hfit, hn, hris, hled⟩ := R
  refine Calls.call_function_entry kind_sorted plain_sorted entry_sorted (args_sorted1 _) ?_
  unfold Builtin.«sorted»
  refine wpAny_bind (m := checkCount "sorted" 1 1 _) (wpAny_pure ?_)
  refine wpAny_bind (collect_set (A := A.in1) nh ⟨ob, hob, hex.1, hdt⟩ hfit hsc hris hled fun s1 vs k1 z1 g1 o1 pm => ?_)
  have lv : vs.length = n := by rw [pm.length_eq, List.length_map, Array.length_toList]; exact hn
  have hI : IntsAre vs (vs.map Builtin.Re.reRawOf) := ints_of vs fun v hv => by
    obtain ⟨e, he, q⟩ := List.mem_map.mp (pm.mem_iff.mp hv)
    obtain ⟨k, tk, h1, _⟩ := good e he
    exact ⟨k, tk, by rw [← q]; exact h1⟩
  have pk : (vs.map Builtin.Re.reRawOf).Perm (es.toList.map keyOf) := by
    have q := pm.map Builtin.Re.reRawOf
    rwa [List.map_map] at q
  have hz : vs.length ≤ sizeLine := by rw [lv]; exact few
  refine wpAny_bind (wpAny_newList ?_ hz)
  have hL : (s1.heap.push (seqObj "list" vs.toArray 0)).get? s1.heap.objs.size = some (seqObj "list" vs.toArray 0) := Heap.get?_push_size _ rfl
  refine wpAny_bind (wpAny_holding (wpAny_call_entry slot_list_sort ⟨_, hL, rfl⟩ entry_list_sort
    (SrtO.list_sort_ord SrtO.swo_int (s := { s1 with heap := s1.heap.push (seqObj "list" vs.toArray 0) }) hL hz (fun h2 => SrtO.ints_sortable hI h2) fun out h1 h2 => ⟨_, rfl, ?_⟩) (args_list_sort _)))
  obtain ⟨k1', k2, k3⟩ := SrtO.ints_out hI h1 h2
  obtain ⟨c, hc⟩ := sortedHeap_at (vs := vs) (out := out.toArray) hL
  have pn : (out.map SrtO.iv).Perm (es.toList.map keyOf) := k2.trans pk
  refine wpAny_pure ⟨_, rfl, done _ s1.heap.objs.size out.toArray c (out.map SrtO.iv) (fun b u e => ?_) g1 o1 z1 hc k1' (lt_of_le_nodup _ k3 (pn.nodup_iff.mpr nd)) fun k => by rw [pn.mem_iff, ← hmem k]⟩
  have q := k1 b u e
  have lt := Heap.lt_size q
  show (sortedHeap (s1.heap.push (seqObj "list" vs.toArray 0)) s1.heap.objs.size vs out.toArray).get? b = some u
  rw [sortedHeap_old (Nat.ne_of_lt lt) (by rw [size_push']; exact Nat.lt_succ_of_lt lt)]
  exact Heap.get?_push_of_some _ q
end
/-- what sorted(set(..)) makes of a list -/
def uniqI : List Int → List Int
  | [] => []
  | x :: r => if r.contains x then uniqI r else x :: uniqI r
theorem uniqI_mem {x : Int} : ∀ {l : List Int}, x ∈ uniqI l ↔ x ∈ l
  | [] => Iff.rfl
  | y :: r => by
    unfold uniqI
    by_cases h : r.contains y = true
    · rw [if_pos h, uniqI_mem, List.mem_cons]
      refine ⟨.inr, fun q => q.elim (fun e => ?_) id⟩
      rw [e]
      exact List.contains_iff_mem.mp h
    · rw [if_neg h, List.mem_cons, List.mem_cons, uniqI_mem]
theorem uniqI_nodup : ∀ l : List Int, (uniqI l).Nodup
  | [] => List.nodup_nil
  | y :: r => by
    unfold uniqI
    by_cases h : r.contains y = true
    · rw [if_pos h]; exact uniqI_nodup r
    · rw [if_neg h]
      exact List.nodup_cons.mpr ⟨fun q => h (List.contains_iff_mem.mpr (uniqI_mem.mp q)), uniqI_nodup r⟩
def ssort (l : List Int) : List Int := isort (uniqI l)
theorem ssort_lt (l : List Int) : (ssort l).Pairwise (· < ·) := by
  have h1 : (ssort l).Nodup := (isort_perm _).nodup_iff.mpr (uniqI_nodup l)
  refine ((List.nodup_iff_pairwise_ne.mp h1).and (isort_sorted _)).imp fun h => ?_
  have h1 := h.1
  have h2 := h.2
  omega
theorem ssort_mem {l : List Int} {x : Int} : x ∈ ssort l ↔ x ∈ l := (isort_perm _).mem_iff.trans uniqI_mem
theorem lt_unique : ∀ {a b : List Int}, a.Pairwise (· < ·) → b.Pairwise (· < ·) → (∀ x, x ∈ a ↔ x ∈ b) → a = b := by
  intro a b ha hb h
  refine sorted_uniq ((List.perm_ext_iff_of_nodup ?_ ?_).mpr h) (ha.imp fun h => Int.le_of_lt h) (hb.imp fun h => Int.le_of_lt h)
  · exact List.nodup_iff_pairwise_ne.mpr (ha.imp fun h => Int.ne_of_lt h)
  · exact List.nodup_iff_pairwise_ne.mpr (hb.imp fun h => Int.ne_of_lt h)
def ssortD : D → M D
  | .lst ds => match dints ds with
    | some ns => if ns.length ≤ 4000 then pure (.lst ((ssort ns).map D.int)) else stuck
    | none => stuck
  | .tup ds => match dints ds with
    | some ns => if ns.length ≤ 4000 then pure (.lst ((ssort ns).map D.int)) else stuck
    | none => stuck
  | .rls ds => match dints ds with
    | some ns => if ns.length ≤ 4000 then pure (.lst ((ssort ns).map D.int)) else stuck
    | none => stuck
  | _ => stuck
def rSetAny (K : PySem.W.Frag) (w : World) : List V → Hp → VK → Prop := fun xs H Q => ∃ (l : Addr) (ns : List Int), xs = [.ref l] ∧ (SqL K H l (ns.map V.int) ∨ SqT K H l (ns.map V.int)) ∧ ns.length ≤ 4000 ∧
  ∀ (p : Addr) (n : Nat), H p = none → n ≤ ns.length → Q (.ref p) (upd H p (SetO w p (memI ns) n))
section
variable {X : Cx}
theorem cr_setAny (hc : X.calm = true) : CallR X (.type "set") (rSetAny X.K X.w) := by
  intro pins s σ H xs us Q I r h
  obtain ⟨l, ns, rfl, hs, hl, q⟩ := h
  rw [Vals.ref1 r]
  have fr : H s.heap.objs.size = none := I.hok.fresh (Nat.le_refl _)
  have few : ns.length + 1 < scanBound := by unfold scanBound; omega
  have fin : ∀ (hp : Heap) (tk n : Nat), SetR X.w hp s.heap.objs.size (memI ns) n → n ≤ ns.length → (∀ b o, s.heap.get? b = some o → hp.get? b = some o) → EP X pins σ Q (.ref s.heap.objs.size) { s with heap := hp, toks := tk } := fun hp tk n R hn hk =>
    ⟨.ref s.heap.objs.size, upd H s.heap.objs.size (SetO X.w s.heap.objs.size (memI ns) n), I.laid (t' := tk) hk (Nat.le_refl _) (setO_new R), rfl, q _ n fr hn⟩
  rcases hs with hs | hs
  · obtain ⟨its, rv, pl, _⟩ := I.list hs
    exact set_of_list ns (I.ok.hd hc) pl.isList (by simpa using rv.ints) few fin
  · obtain ⟨its, rv, pl, _⟩ := I.tuple hs
    exact call_set_tupI ns (I.ok.hd hc) pl (by simpa using rv.ints) few fin
def rSortSet (w : World) : List V → Hp → VK → Prop := fun vs H Q => ∃ (a : Addr) (S : Int → Bool) (n : Nat), vs = [V.ref a] ∧ H a = some (SetO w a S n) ∧ n ≤ 4000 ∧
  ∀ (ns : List Int) (p : Addr), ns.Pairwise (· < ·) → (∀ k : Int, k ∈ ns ↔ S k = true) → H p = none → Q (.ref p) (upd H p (.lst (ns.map V.int)))
theorem cr_sortSet (hc : X.calm = true) : CallR X (.builtin "sorted") (rSortSet X.w) := by
  intro pins s σ H vs us Q I r h
  obtain ⟨a, S, n, rfl, ha, few, q⟩ := h
  have R := setO_get I ha
  rw [Vals.ref1 r]
  have few' : n ≤ sizeLine := Nat.le_trans few (by decide)
  refine sort_of_set R (I.ok.hd hc) few' fun s2 p out c ns k g o hp hg hi hs hm => ?_
  have fr : H p = none := I.hok.fresh hp
  have hlen : (ns.map V.int).length ≤ sizeLine := by
    have := I.hok a _ ha
    obtain ⟨ob, es, ep, tb, _, _, _, _, nd, hmem, hsc, _, hn, _⟩ := R
    have : ns.Perm (es.toList.map keyOf) := (List.perm_ext_iff_of_nodup (List.nodup_iff_pairwise_ne.mpr (hs.imp fun h => Int.ne_of_lt h)) nd).mpr fun x => by rw [hm, hmem]
    rw [List.length_map, this.length_eq, List.length_map, Array.length_toList, hn]
    exact few'
  have J : Inv X pins σ (upd H p (.lst (ns.map V.int))) { s with heap := s2.heap, gens := s2.gens, drawn := s2.drawn, toks := s2.toks } :=
    I.call (ch := []) (Un.laid k hp fr) (I.hok.laid k hp ⟨hlen, out.toList, c, vals_of_ints hi, hg⟩) (by rw [g]; exact I.bare) (fun _ z => nomatch z)
  have e : s2 = { s with heap := s2.heap, gens := s2.gens, drawn := s2.drawn, toks := s2.toks } := by
    cases s2
    cases s
    cases o
    rfl
  rw [e]
  exact ⟨.ref p, _, J, rfl, q ns p hs hm fr⟩
end
section
variable {S : Sta} {ρ : Ev} {a : Expr} {ma : M D} {pos p p2 q : Pos}
theorem ssort_read {ns : List Int} {us : List Int} (h1 : us.Pairwise (· < ·)) (h2 : ∀ k : Int, k ∈ us ↔ memI ns k = true) : us = ssort ns :=
  lt_unique h1 (ssort_lt ns) fun x => by rw [h2, ssort_mem]; exact decide_eq_true_iff
theorem seq_ints {g : Gs} {H : Hp} {v : V} {x : D} {ok : D → Store → Prop} {ex : Nat → Store → Prop} (w : Wf S.pg g H) (hx : TopR S.pg g H v x) (q : (ssortD x g.st).Post ok ex) :
    ∃ a ns, v = .ref a ∧ (SqL S.pg.K H a (ns.map V.int) ∨ SqT S.pg.K H a (ns.map V.int)) ∧ ns.length ≤ 4000 ∧ ok (.lst ((ssort ns).map D.int)) g.st := by
  have core : ∀ (ds : List D), ((match dints ds with
    | some ns => if ns.length ≤ 4000 then (pure (.lst ((ssort ns).map D.int)) : M D) else stuck
    | none => stuck) g.st).Post ok ex → ∃ ns, ds = ns.map D.int ∧ ns.length ≤ 4000 ∧ ok (.lst ((ssort ns).map D.int)) g.st := fun ds q => by
    cases e : dints ds with
    | none => rw [e] at q; exact False.elim q
    | some ns =>
      rw [e] at q
      by_cases z : ns.length ≤ 4000
      · simp only [if_pos z] at q
        exact ⟨ns, ints_eq e, z, q⟩
      · simp only [if_neg z] at q
        exact False.elim q
  cases x with
  | lst ds =>
    obtain ⟨a, us, rfl, s, r⟩ := hx.lst w
    obtain ⟨ns, rfl, hl, q⟩ := core ds q
    have := r.toInts
    subst this
    exact ⟨a, ns, rfl, .inl (SqL.of s), hl, q⟩
  | tup ds =>
    obtain ⟨a, us, rfl, s, r⟩ := hx.tup w
    obtain ⟨ns, rfl, hl, q⟩ := core ds q
    have := r.toInts
    subst this
    exact ⟨a, ns, rfl, .inr s, hl, q⟩
  | rls ds =>
    obtain ⟨a, us, rfl, s, r⟩ := hx.rls w
    obtain ⟨ns, rfl, hl, q⟩ := core ds q
    have := r.toInts
    subst this
    exact ⟨a, ns, rfl, .inl s, hl, q⟩
  | _ => exact False.elim q
theorem en_sset (B : Blt S "sorted" (.builtin "sorted")) (B2 : Blt S "set" (.type "set")) (ha : EL S ρ a ma) (hs : NoStar [a] := by exact fun _ => rfl) (hs2 : NoStar [.Call (.Name "set" p2) [a] [] q] := by exact fun _ => rfl) :
    EN S ρ (.Call (.Name "sorted" p) [.Call (.Name "set" p2) [a] [] q] [] pos) (ma >>= ssortD) := fun Y ok => by
  have h1 := pe_callTy (X := S.cx Y) (pos := q) (p := p2) (cr_setAny rfl) B2.gl B2.mg B2.boot (pa_cons (ha Y ok) pa_nil (hs _)) B2.n1 B2.n2 (hs _) rfl
  refine (pe_callB (X := S.cx Y) (pos := pos) (p := p) (cr_sortSet rfl) B.gl B.mg B.boot (pa_cons h1 pa_nil (hs2 _)) B.n1 B.n2 (hs2 _) rfl).pre fun σ H Q ⟨F, g, E, q⟩ => ?_
  refine rdX.bind E q fun x v g' H' s E' r q => ?_
  obtain ⟨l, ns, rfl, hq, hl, q⟩ := seq_ints E'.wf r q
  refine ⟨l, ns, rfl, hq, hl, fun p1 n hp hn => ⟨p1, memI ns, n, rfl, upd_same, by omega, fun us p2 hlt hm hp2 => ?_⟩⟩
  have e := ssort_read hlt hm
  subst e
  have s1 := Stp.laid (o := SetO S.pg.w p1 (memI ns) n) E'.wf hp
  have hp2' : H' p2 = none := by
    by_cases z : p2 = p1
    · subst z; rw [upd_same] at hp2; cases hp2
    · rwa [upd_ne z] at hp2
  have s2 := Stp.laid (o := .lst ((ssort ns).map V.int)) s1.wf hp2
  exact q _ g' _ rfl (s.trans E.wf (s1.trans E'.wf s2)) ⟨p2, rfl, ⟨_, upd_same, .ofInts _⟩, E'.wf.freeG hp2', E'.wf.freeA hp2', s.none_of E.wf hp2'⟩
theorem b_set (m : S.pg.mg "set" = none) (g : Glb S "set" := by rfl) : Blt S "set" (.type "set") := .mk' g m PyProof.Rows.boot_set
end
end DL
namespace DL
open PySem PySem.Spec PyProof.Rows L2
/-! ### objects: cells of the kind ins -/
def putD (f : Str) (d : D) : List (Str × D) → List (Str × D)
  | [] => [(f, d)]
  | (h, x) :: r => if h = f then (h, d) :: r else (h, x) :: putD f d r
section
variable {p : Pg} {g : Gs}
theorem RpF.look {f : Str} : ∀ {fvs : List (Str × V)} {fs : List (Str × D)} {d : D}, RpF p g fvs fs → fs.lookup f = some d → ∃ v, fvs.lookup f = some v ∧ p.Rp g v d
  | _, [], d, _, e => by cases e
  | _, (h, x) :: r, d, .cons (a := (h', v)) hr t, e => by
    obtain ⟨e1, r1⟩ := hr
    have e1 : h' = h := e1
    subst e1
    by_cases z : (f == h') = true
    · simp only [List.lookup, z] at e ⊢
      cases e
      exact ⟨v, rfl, r1⟩
    · rw [Bool.not_eq_true] at z
      simp only [List.lookup, z] at e ⊢
      exact RpF.look t e
theorem RpF.lookN {f : Str} : ∀ {fvs : List (Str × V)} {fs : List (Str × D)}, RpF p g fvs fs → fs.lookup f = none → fvs.lookup f = none
  | _, [], .nil, _ => rfl
  | _, (h, x) :: r, .cons (a := (h', v)) hr t, e => by
    obtain ⟨e1, r1⟩ := hr
    have e1 : h' = h := e1
    subst e1
    by_cases z : (f == h') = true
    · simp only [List.lookup, z] at e
      cases e
    · rw [Bool.not_eq_true] at z
      simp only [List.lookup, z] at e ⊢
      exact RpF.lookN t e
theorem RpF.put {f : Str} {v : V} {d : D} (r : p.Rp g v d) : ∀ {fvs : List (Str × V)} {fs : List (Str × D)}, RpF p g fvs fs → RpF p g (putF f v fvs) (putD f d fs)
  | _, [], .nil => .cons ⟨rfl, r⟩ .nil
  | _, (h, x) :: fs, .cons (a := (h', u)) hr t => by
    obtain ⟨e1, r1⟩ := hr
    have e1 : h' = h := e1
    subst e1
    unfold putF putD
    by_cases z : h' = f
    · rw [if_pos z, if_pos z]
      exact .cons ⟨rfl, r⟩ t
    · rw [if_neg z, if_neg z]
      exact .cons ⟨rfl, r1⟩ (RpF.put r t)
theorem RpF.len : ∀ {fvs : List (Str × V)} {fs : List (Str × D)}, RpF p g fvs fs → fvs.length = fs.length
  | _, [], .nil => rfl
  | _, _ :: _, .cons _ t => by rw [List.length_cons, List.length_cons, RpF.len t]
end
/-- the fields of an object of the class c -/
def insD (c : Nat) : D → M (Nat × List (Str × D))
  | .ref k => getC k >>= fun z => match z with
    | .ins c' fs => if c' = c then pure (k, fs) else stuck
    | _ => stuck
  | _ => stuck
theorem insD_post {p : Pg} {g : Gs} {H : Hp} {v : V} {d : D} {c : Nat} {ok : Nat × List (Str × D) → Store → Prop} {ex : Nat → Store → Prop} (w : Wf p g H) (r : TopR p g H v d) (q : (insD c d g.st).Post ok ex) :
    ∃ k a dx fvs fs, d = .ref k ∧ v = .ref a ∧ g.am[k]? = some a ∧ H a = some (.ins (p.cA c) dx fvs) ∧ H dx = some (.own a) ∧ RpF p g fvs fs ∧ ok (k, fs) g.st := by
  cases d with
  | ref k =>
    obtain ⟨a, rfl, e⟩ := TopR.ref r
    obtain ⟨z, e2, r⟩ := w.at_ref e
    have q : ((getC k >>= fun z => match z with
      | .ins c' fs => if c' = c then pure (k, fs) else stuck
      | _ => stuck) g.st).Post ok ex := q
    rw [bind_run] at q
    unfold getC at q
    rw [e2] at q
    cases z with
    | ins c' fs =>
      obtain ⟨dx, fvs, h1, h2, h3⟩ := r
      by_cases z : c' = c
      · subst z
        simp only [if_true] at q
        exact ⟨k, a, dx, fvs, fs, rfl, rfl, e, h1, h2, h3, q⟩
      · simp only [if_neg z] at q
        exact False.elim q
    | _ => exact False.elim q
  | _ => exact False.elim q
def lookM (f : Str) (fs : List (Str × D)) : M D := match fs.lookup f with
  | some d => pure d
  | none => stuck
theorem lookM_post {f : Str} {fs : List (Str × D)} {s : Store} {ok : D → Store → Prop} {ex : Nat → Store → Prop} (q : (lookM f fs s).Post ok ex) : ∃ d, fs.lookup f = some d ∧ ok d s := by
  unfold lookM at q
  cases e : fs.lookup f with
  | none => rw [e] at q; exact False.elim q
  | some d => rw [e] at q; exact ⟨d, rfl, q⟩
/-- o.f -/
def fldD (c : Nat) (f : Str) (o : D) : M D := insD c o >>= fun kf => lookM f kf.2
/-- o.f = d -/
def setF (c : Nat) (f : Str) (o d : D) : M Unit := insD c o >>= fun kf => if kf.2.length < 1000 then setC kf.1 (.ins c (putD f d kf.2)) else stuck
/-- no field has the name m -/
def noF (m : Str) (fs : List (Str × D)) : M Unit := match fs.lookup m with
  | none => pure ()
  | some _ => stuck
theorem noF_post {f : Str} {fs : List (Str × D)} {s : Store} {ok : Unit → Store → Prop} {ex : Nat → Store → Prop} (q : (noF f fs s).Post ok ex) : fs.lookup f = none ∧ ok () s := by
  unfold noF at q
  cases e : fs.lookup f with
  | none => rw [e] at q; exact ⟨rfl, q⟩
  | some d => rw [e] at q; exact False.elim q
/-- what is known of a class -/
structure ClsD (p : Pg) (c : Nat) (fs : List Str) : Prop where
  cls : Cls p.K (p.cA c)
  no : ∀ f ∈ fs, NoAttr p.K (p.cA c) f
structure Mtd (p : Pg) (c : Nat) (k : Nat) (m : Str) (ks : List AK) (F : List D → M D) : Prop where
  ex : ∃ f fd ps, FnOk p.P p.w p.K p.mg p.base (L2.CX p.P p.w) k f fd ps (spD p ks F) ∧ Meth p.K (p.cA c) m f ∧ Binds p.K fd ps []
structure Mkr (p : Pg) (c : Nat) (k : Nat) (x : Str) (ks : List AK) (F : List D → M D) : Prop where
  ex : ∃ f fd ps, FnOk p.P p.w p.K p.mg p.base (L2.CX p.P p.w) k f fd ps (spD p ks F) ∧ Mk p.K (p.cA c) f ∧ Binds p.K fd ps [] ∧ p.mg x = some (.ref (p.cA c))
theorem Stp.wrtI {p : Pg} {g : Gs} {H : Hp} {a dx : Addr} {k c : Nat} {fvs fvs' : List (Str × V)} {fs : List (Str × D)} (w : Wf p g H) (hk : g.am[k]? = some a) (e : H a = some (.ins (p.cA c) dx fvs)) (ed : H dx = some (.own a))
    (r : RpF p { g with st := g.st.set k (.ins c fs) } fvs' fs) : Stp p g H { g with st := g.st.set k (.ins c fs) } (upd H a (.ins (p.cA c) dx fvs')) :=
  Stp.wrt w hk e (fun _ z => by cases z) (fun _ z => by cases z) ⟨dx, fvs', upd_same, by rw [upd_ne (ne_of ed e fun z => by cases z)]; exact ed, r⟩
section
variable {S : Sta} {ρ : Ev} {a b c o e ie : Expr} {ma mb mc m mo mv : M D} {pos p apos cpos spos pos' tpos : Pos} {N B : Type} {shN : N → Ev} {shB : B → Ev} {rest : List Stmt} {f : Str} {ci : Nat} {fl : List Str}
theorem ee_fld (hc : ClsD S.pg ci fl) (hf : f ∈ fl) (ho : EE S ρ o mo) (hba : ∀ env : Env, attributeBase o f env (eval o env) = eval o env) : EE S ρ (.Attribute o f pos) (mo >>= fldD ci f) := fun Y ok =>
  (pe_fld (X := S.cx Y) (ho Y ok) (hba _)).pre fun σ H Q ⟨F, g, E, q⟩ => rdX.bind E q fun x v g' H' s E' r q => by
    obtain ⟨k, a, dx, fvs, fs, rfl, rfl, hk, h1, h2, h3, q⟩ := insD_post E'.wf (.inl r) (post_bind q)
    obtain ⟨d, hd, q⟩ := lookM_post q
    obtain ⟨v, hv, rv⟩ := h3.look hd
    exact ⟨a, _, dx, fvs, v, rfl, h1, hc.cls, hc.no f hf, hv, q v g' H' rfl s rv⟩
theorem sb_fset {k : M (Out N B)} (hc : ClsD S.pg ci fl) (hf : f ∈ fl) (hv : EE S ρ e mv) (ho : EE S ρ o mo) (hr : SB S ρ rest k shN shB) (hs : ∀ env : Env, env.scope = S.sc → swapsWith e (some (.Attribute o f pos')) pos.line env = pure false) :
    SB S ρ (.Assign [.Attribute o f pos'] e pos :: rest) (mv >>= fun y => mo >>= fun x => setF ci f x y >>= fun _ => k) shN shB := fun Y ok => by
  refine (pss_cons (ps_fld (X := S.cx Y) (ho Y ok) (hv Y ok) (hs _ rfl)) (hr Y ok)).pre fun Dd σ H ⟨F, g, E, q⟩ => ?_
  refine rdS.expr E q fun y v g1 H1 s1 E1 r1 q => rdS.expr E1 q fun x u g2 H2 s2 E2 r2 q => ?_
  have q := post_bind q
  unfold setF at q
  obtain ⟨kk, a, dx, fvs, fs, rfl, rfl, hk, h1, h2, h3, q⟩ := insD_post E2.wf (.inl r2) (post_bind q)
  by_cases z : fs.length < 1000
  · simp only [if_pos z] at q
    have st := Stp.wrtI (fs := putD f y fs) E2.wf hk h1 h2 (RpF.put (f := f) (p := S.pg) (g := { g2 with st := g2.st.set kk (.ins ci (putD f y fs)) }) (r1.mono s2.gle s2.aml) h3)
    refine ⟨a, _, dx, fvs, rfl, h1, hc.cls, hc.no f hf, by rw [h3.len]; exact z, F, _, E2.step st, ?_⟩
    have q : (k (g2.st.set kk (.ins ci (putD f y fs)))).Post _ _ := q
    exact q.imp (fun _ _ q => q.back st.ltr) fun _ _ q => q
  · simp only [if_neg z] at q
    exact False.elim q
/-- o.f += e, numbers -/
def addI : D → D → M D
  | .int i, .int j => pure (.int (i + j))
  | _, _ => stuck
def subI : D → D → M D
  | .int i, .int j => pure (.int (i - j))
  | _, _ => stuck
theorem addI_post {x y : D} {s : Store} {ok : D → Store → Prop} {ex : Nat → Store → Prop} (q : (addI x y s).Post ok ex) : ∃ i j, x = .int i ∧ y = .int j ∧ ok (.int (i + j)) s := by
  cases x with
  | int i =>
    cases y with
    | int j => exact ⟨i, j, rfl, rfl, q⟩
    | _ => exact False.elim q
  | _ => exact False.elim q
theorem subI_post {x y : D} {s : Store} {ok : D → Store → Prop} {ex : Nat → Store → Prop} (q : (subI x y s).Post ok ex) : ∃ i j, x = .int i ∧ y = .int j ∧ ok (.int (i - j)) s := by
  cases x with
  | int i =>
    cases y with
    | int j => exact ⟨i, j, rfl, rfl, q⟩
    | _ => exact False.elim q
  | _ => exact False.elim q
theorem sb_faug {k : M (Out N B)} (hc : ClsD S.pg ci fl) (hf : f ∈ fl) (ho : EE S ρ o mo) (hv : EE S ρ e mv) (hr : SB S ρ rest k shN shB) :
    SB S ρ (.AugAssign (.Attribute o f tpos) .Add e pos :: rest) (mo >>= fun x => fldD ci f x >>= fun u => mv >>= fun y => addI u y >>= fun z => setF ci f x z >>= fun _ => k) shN shB := fun Y ok => by
  refine (pss_cons (ps_fldaug (X := S.cx Y) (ho Y ok) (hv Y ok) in_add) (hr Y ok)).pre fun Dd σ H ⟨F, g, E, q⟩ => ?_
  refine rdS.expr E q fun x v g1 H1 s1 E1 r1 q => ?_
  have q := post_bind q
  unfold fldD at q
  obtain ⟨kk, a, dx, fvs, fs, rfl, rfl, hk, h1, h2, h3, q⟩ := insD_post E1.wf (.inl r1) (post_bind q)
  obtain ⟨d, hd, q⟩ := lookM_post q
  obtain ⟨u, hu, ru⟩ := h3.look hd
  refine ⟨a, _, dx, fvs, u, rfl, h1, hc.cls, hc.no f hf, hu, rdS.expr E1 q fun y v2 g2 H2 s2 E2 r2 q => ?_⟩
  obtain ⟨i, j, ed, ey, q5⟩ := addI_post (post_bind q)
  subst ed ey
  have eu := TopR.int (H := H1) (.inl ru)
  have ev := TopR.int (H := H2) (.inl r2)
  subst eu ev
  have q6 := post_bind q5
  unfold setF at q6
  obtain ⟨k2, a2, dx2, fvs2, fs2, e1, e2, hk2, g1', g2', g3, q7⟩ := insD_post E2.wf (.inl (r1.mono s2.gle s2.aml)) (post_bind q6)
  cases e1
  cases e2
  by_cases z : fs2.length < 1000
  · simp only [if_pos z] at q7
    have st := Stp.wrtI (fs := putD f (.int (i + j)) fs2) E2.wf hk2 g1' g2' (RpF.put (f := f) (p := S.pg) (g := { g2 with st := g2.st.set kk (.ins ci (putD f (.int (i + j)) fs2)) }) (.int (i + j)) g3)
    refine ⟨i, j, rfl, rfl, dx2, fvs2, g1', by rw [g3.len]; exact z, F, _, E2.step st, ?_⟩
    have q : (k (g2.st.set kk (.ins ci (putD f (.int (i + j)) fs2)))).Post _ _ := q7
    exact q.imp (fun _ _ q => q.back st.ltr) fun _ _ q => q
  · simp only [if_neg z] at q7
    exact False.elim q7
/-- x += e, x -= e: numbers -/
theorem sb_aug (i : Nat) {x : Str} {d : D} {k : D → M (Out N B)} (hnd : S.N.Nodup) (hi : ρ[i]? = some (.sh d)) (hN : S.N[i]? = some x) (hx : Loc S.sc x) (he : EE S ρ e m) (hr : ∀ d, SB S (ρ.set i (.sh d)) rest (k d) shN shB) (hf : S.fn x = true ∨ S.sc.names.lookup x = some .local) :
    SB S ρ (.AugAssign (.Name x pos') .Add e pos :: rest) (m >>= fun y => addI d y >>= k) shN shB := fun Y ok => by
  have hR : PSs (S.cx Y) rest (fun Dd σ H => ∃ d, rdS S Y (ρ.set i (.sh d)) (k d) shN shB Dd σ H) := ⟨fun pins s σ H Dd I ⟨d, q⟩ => (hr d Y ok).run pins s σ H Dd I q⟩
  refine (pss_cons (ps_aug (X := S.cx Y) (i := i) hnd hN hx (he Y ok) ip_add hf) hR).pre fun Dd σ H ⟨F, g, E, q⟩ => ?_
  have h := E.sl i _ hi
  cases es : σ[i]? with
  | none => rw [es] at h; exact h.elim
  | some o =>
    rw [es] at h
    cases o with
    | none => exact h.elim
    | some v =>
      refine ⟨v, es, rdS.expr E q fun y u g1 H1 s1 E1 r1 q => ?_⟩
      obtain ⟨n1, n2, rfl, rfl, q⟩ := addI_post (post_bind q)
      have h : S.pg.Rp g v (.int n1) := h
      have e1 := TopR.int (H := H) (.inl h)
      have e2 := TopR.int (H := H1) (.inl r1)
      subst e1 e2
      exact ⟨n1, n2, rfl, rfl, _, F, g1, E1.set (.int (n1 + n2)), q⟩
theorem sb_augS (i : Nat) {x : Str} {d : D} {k : D → M (Out N B)} (hnd : S.N.Nodup) (hi : ρ[i]? = some (.sh d)) (hN : S.N[i]? = some x) (hx : Loc S.sc x) (he : EE S ρ e m) (hr : ∀ d, SB S (ρ.set i (.sh d)) rest (k d) shN shB) (hf : S.fn x = true ∨ S.sc.names.lookup x = some .local) :
    SB S ρ (.AugAssign (.Name x pos') .Sub e pos :: rest) (m >>= fun y => subI d y >>= k) shN shB := fun Y ok => by
  have hR : PSs (S.cx Y) rest (fun Dd σ H => ∃ d, rdS S Y (ρ.set i (.sh d)) (k d) shN shB Dd σ H) := ⟨fun pins s σ H Dd I ⟨d, q⟩ => (hr d Y ok).run pins s σ H Dd I q⟩
  refine (pss_cons (ps_aug (X := S.cx Y) (i := i) hnd hN hx (he Y ok) ip_sub hf) hR).pre fun Dd σ H ⟨F, g, E, q⟩ => ?_
  have h := E.sl i _ hi
  cases es : σ[i]? with
  | none => rw [es] at h; exact h.elim
  | some o =>
    rw [es] at h
    cases o with
    | none => exact h.elim
    | some v =>
      refine ⟨v, es, rdS.expr E q fun y u g1 H1 s1 E1 r1 q => ?_⟩
      obtain ⟨n1, n2, rfl, rfl, q⟩ := subI_post (post_bind q)
      have h : S.pg.Rp g v (.int n1) := h
      have e1 := TopR.int (H := H) (.inl h)
      have e2 := TopR.int (H := H1) (.inl r1)
      subst e1 e2
      exact ⟨n1, n2, rfl, rfl, _, F, g1, E1.set (.int (n1 - n2)), q⟩
/-! calls of methods -/
variable {es : List Expr} {ms : M (List D)} {ks : List AK} {fm : Str} {k : Nat} {FM : List D → M D}
def mthM (ci : Nat) (fm : Str) (mo : M D) (ms : M (List D)) (FM : List D → M D) : M D := mo >>= fun x => insD ci x >>= fun kf => noF fm kf.2 >>= fun _ => ms >>= fun vs => FM (x :: vs)
theorem ee_meth (hc : ClsD S.pg ci fl) (mt : Mtd S.pg ci k fm (.v :: ks) FM) (hk : k ≤ S.lv) (ho : EE S ρ o mo) (ha : EAk S ρ ks (e :: es) ms) (hs : ∀ env : Env, starEach (e :: es) env = (false, eval e env) :: starEach es env) (hpl : ∀ env : Env, (backTo pos (starEach es env)).any (·.1) = false)
    (ht : ∀ env : Env, eval (.Call (.Attribute o fm apos) (e :: es) [] pos) env = (do
      let ov ← eval o env
      standAt apos.atName
      let (f, first) ← holding [ov] (getMethod ov fm (do return (← importBound o env).getD true))
      callWith pos f first (backTo pos (starEach (e :: es) env)) (backToKw pos (keywordEach [] env)))) : EE S ρ (.Call (.Attribute o fm apos) (e :: es) [] pos) (mthM ci fm mo ms FM) := fun Y ok => by
  obtain ⟨fA, fd, ps, FO, hm, hb⟩ := mt.ex
  refine (pe_meth (X := S.cx Y) (E := fun cls d H' => Y.W cls d H') (ho Y ok) hc.cls hm FO (ok.room.mono hk) hb .nil (passes_call ok.takes fun _ _ _ _ h => h) (ha Y ok) (hs _) (hpl _) (ht _)).pre fun σ H Q ⟨F, g, E, q⟩ => ?_
  refine rdX.bind E q fun x v g1 H1 s1 E1 r1 q => ?_
  obtain ⟨kk, a, dx, fvs, fs, rfl, rfl, hk1, h1, h2, h3, q⟩ := insD_post E1.wf (.inl r1) (post_bind q)
  obtain ⟨hn, q⟩ := noF_post (post_bind q)
  refine ⟨a, dx, fvs, rfl, h1, h3.lookN hn, rdA.bind E1 (q.imp (fun _ _ q => q) fun _ _ q => q.back E.wf s1) fun ds vs g2 H2 s2 E2 r2 q => ?_⟩
  rw [List.append_nil]
  exact ⟨g2, .ref kk :: ds, E2.wf, ⟨r1.mono s2.gle s2.aml, r2⟩, q.imp (fun _ _ q => q.back back_RE E.wf (s1.trans E.wf s2)) fun _ _ q => Px.back E1.wf s2 q⟩
theorem ee_meth0 (hc : ClsD S.pg ci fl) (mt : Mtd S.pg ci k fm [.v] FM) (hk : k ≤ S.lv) (ho : EE S ρ o mo)
    (ht : ∀ env : Env, eval (.Call (.Attribute o fm apos) [] [] pos) env = (do
      let ov ← eval o env
      standAt apos.atName
      let (f, first) ← holding [ov] (getMethod ov fm (do return (← importBound o env).getD true))
      callWith pos f first (backTo pos (starEach [] env)) (backToKw pos (keywordEach [] env)))) : EE S ρ (.Call (.Attribute o fm apos) [] [] pos) (mthM ci fm mo (pure []) FM) := fun Y ok => by
  obtain ⟨fA, fd, ps, FO, hm, hb⟩ := mt.ex
  refine (pe_meth0 (X := S.cx Y) (E := fun cls d H' => Y.W cls d H') (ho Y ok) hc.cls hm FO (ok.room.mono hk) hb .nil (passes_call ok.takes fun _ _ _ _ h => h) (ht _)).pre fun σ H Q ⟨F, g, E, q⟩ => ?_
  refine rdX.bind E q fun x v g1 H1 s1 E1 r1 q => ?_
  obtain ⟨kk, a, dx, fvs, fs, rfl, rfl, hk1, h1, h2, h3, q⟩ := insD_post E1.wf (.inl r1) (post_bind q)
  obtain ⟨hn, q⟩ := noF_post (post_bind q)
  refine ⟨a, dx, fvs, rfl, h1, h3.lookN hn, ?_⟩
  exact ⟨g1, [.ref kk], E1.wf, ⟨r1, True.intro⟩, q.imp (fun _ _ q => q.back back_RE E.wf s1) fun _ _ q => q.back E.wf s1⟩
/-! making -/
def mkM (ci : Nat) (ms : M (List D)) (FM : List D → M D) : M D := ms >>= fun vs => newC (.ins ci []) >>= fun k => FM (.ref k :: vs) >>= fun r => match r with
  | .non => pure (.ref k)
  | _ => stuck
theorem Stp.ins {p : Pg} {g : Gs} {H : Hp} {x dx : Addr} {c : Nat} (w : Wf p g H) (hx : H x = none) (hd : H dx = none) (ne : dx ≠ x) : Stp p g H (g.cell x (.ins c [])) (upd (upd H dx (.own x)) x (.ins (p.cA c) dx [])) ∧ (g.cell x (.ins c [])).am[g.st.length]? = some x := by
  have s1 := Stp.laid (o := .own x) w hd
  have hx1 : upd H dx (.own x) x = none := by rw [upd_ne (fun z => ne z.symm)]; exact hx
  have s2 := Stp.laid (o := .ins (p.cA c) dx []) s1.wf hx1
  have s := s1.trans w s2
  obtain ⟨wf', pre⟩ := Stp.cell (c := .ins c []) s.wf (w.freeG hx) (w.freeA hx) ⟨dx, [], upd_same, by rw [upd_ne ne, upd_same], .nil⟩
  refine ⟨⟨s.gle, pre, s.keep, s.gnew, fun b hb => ?_, wf'⟩, ?_⟩
  · rcases List.mem_append.mp hb with h | h
    · exact .inl h
    · rw [List.mem_singleton.mp h]; exact .inr hx
  · show (g.am ++ [x])[g.st.length]? = some x
    rw [← w.len, List.getElem?_append_right (Nat.le_refl _), Nat.sub_self]
    rfl
theorem make_core {p : Pg} {g0 g : Gs} {H0 H : Hp} {ds : List D} {vs : List V} {ks : List AK} {Q : VK} {ci : Nat} {FM : List D → M D} {EX : XK} (w0 : Wf p g0 H0) (s0 : Stp p g0 H0 g H) (hE : ∀ c st', (∀ g' H', g'.st = st' → Stp p g0 H0 g' H' → EX (.ref (p.cA c)) none H') → ∀ g' H', g'.st = st' → Stp p g H g' H' → EX (.ref (p.cA c)) none H')
    (r : ArgR p g H ks vs ds) (q : ((newC (.ins ci []) >>= fun k => FM (.ref k :: ds) >>= fun r => match r with
      | .non => pure (.ref k)
      | _ => stuck) g.st).Post (Pv p (RE p) g0 H0 Q) fun c st' => ∀ g' H', g'.st = st' → Stp p g0 H0 g' H' → EX (.ref (p.cA c)) none H') (x dx : Addr) (hx : H x = none) (hd : H dx = none) (ne : dx ≠ x) :
    spD p (.v :: ks) FM (.ref x :: vs) (upd (upd H dx (.own x)) x (.ins (p.cA ci) dx [])) (fun v H2 => v = .non ∧ Q (.ref x) H2) EX := by
  obtain ⟨s1, hk⟩ := Stp.ins (c := ci) s0.wf hx hd ne
  have sa := s0.trans w0 s1
  have q : ((FM (.ref g.st.length :: ds) >>= fun r => match r with
      | .non => pure (.ref g.st.length)
      | _ => stuck) (g.cell x (.ins ci [])).st).Post (Pv p (RE p) g0 H0 Q) _ := q
  refine ⟨g.cell x (.ins ci []), .ref g.st.length :: ds, s1.wf, ⟨.ref hk, r.step s0.wf s1⟩, (post_bind q).imp (fun d st' q => ?_) fun c st' q g' H' e s => q g' H' e (sa.trans w0 s)⟩
  cases d with
  | non =>
    intro v g' H' e s rv
    cases rv
    refine ⟨rfl, (post_pure q) (.ref x) g' H' e (sa.trans w0 s) (.ref (pre_get s.aml hk))⟩
  | _ => exact False.elim q
theorem ee_make {x : Str} (mk : Mkr S.pg ci k x (.v :: ks) FM) (hk : k + 1 ≤ S.lv) (hg : Glb S x) (ha : EAk S ρ ks (e :: es) ms) (hs : ∀ env : Env, starEach (e :: es) env = (false, eval e env) :: starEach es env) (hpl : ∀ env : Env, (backTo pos (starEach es env)).any (·.1) = false)
    (hdb : (x == ("__debug__" : Str)) = false) : EE S ρ (.Call (.Name x p) (e :: es) [] pos) (mkM ci ms FM) := fun Y ok => by
  obtain ⟨fA, fd, ps, FO, hm, hb, hx⟩ := mk.ex
  refine (pe_make (X := S.cx Y) (E := fun cls d H' => Y.W cls d H') hm FO (ok.room.mono hk) hg hx hb .nil (passes_call ok.takes fun _ _ _ _ h => h) (ha Y ok) hdb (hs _) (hpl _)).pre fun σ H Q ⟨F, g, E, q⟩ => ?_
  refine rdA.bind E q fun ds vs g1 H1 s1 E1 r1 q => fun x dx hx hd ne => ?_
  rw [List.append_nil]
  exact make_core E.wf s1 (fun c st' h g' H' e s => h g' H' e (s1.trans E.wf s)) r1 q x dx hx hd ne
theorem ee_make0 {x : Str} (mk : Mkr S.pg ci k x [.v] FM) (hk : k + 1 ≤ S.lv) (hg : Glb S x) (hdb : (x == ("__debug__" : Str)) = false) : EE S ρ (.Call (.Name x p) [] [] pos) (mkM ci (pure []) FM) := fun Y ok => by
  obtain ⟨fA, fd, ps, FO, hm, hb, hx⟩ := mk.ex
  refine (pe_make0 (X := S.cx Y) (E := fun cls d H' => Y.W cls d H') hm FO (ok.room.mono hk) hg hx hb .nil (passes_call ok.takes fun _ _ _ _ h => h) hdb).pre fun σ H Q ⟨F, g, E, q⟩ => ?_
  intro x dx hx hd ne
  exact make_core (ks := []) (vs := []) (ds := []) E.wf (.refl E.wf) (fun c st' h => h) True.intro q x dx hx hd ne
end
end DL
namespace DL
open PySem PySem.Spec PyProof.Rows L2
section
variable {S : Sta} {ρ : Ev} {a b c o e ie : Expr} {ma mb mc m mo mv : M D} {pos p p2 q apos cpos spos pos' tpos : Pos} {N B : Type} {shN : N → Ev} {shB : B → Ev} {rest : List Stmt} {f : Str} {ci : Nat} {fl : List Str}
variable {es : List Expr} {ms : M (List D)} {ks : List AK} {fm : Str} {k : Nat} {FM : List D → M D}
theorem xfld (hc : ClsD S.pg ci fl) (hf : f ∈ fl) (ho : EE S ρ o mo) (hba : ∀ env : Env, attributeBase o f env (eval o env) = eval o env := by exact fun _ => rfl) : EE S ρ (.Attribute o f pos) (mo >>= fldD ci f) := ee_fld hc hf ho hba
theorem s_fset {k : M (Out N B)} (hc : ClsD S.pg ci fl) (hf : f ∈ fl) (hv : EE S ρ e mv) (ho : EE S ρ o mo) (hr : SB S ρ rest k shN shB) (hs : ∀ env : Env, env.scope = S.sc → swapsWith e (some (.Attribute o f pos')) pos.line env = pure false := by exact fun _ _ => rfl) :
    SB S ρ (.Assign [.Attribute o f pos'] e pos :: rest) (mv >>= fun y => mo >>= fun x => setF ci f x y >>= fun _ => k) shN shB := sb_fset hc hf hv ho hr hs
theorem s_faug {k : M (Out N B)} (hc : ClsD S.pg ci fl) (hf : f ∈ fl) (ho : EE S ρ o mo) (hv : EE S ρ e mv) (hr : SB S ρ rest k shN shB) :
    SB S ρ (.AugAssign (.Attribute o f tpos) .Add e pos :: rest) (mo >>= fun x => fldD ci f x >>= fun u => mv >>= fun y => addI u y >>= fun z => setF ci f x z >>= fun _ => k) shN shB := sb_faug hc hf ho hv hr
theorem s_aug (i : Nat) {x : Str} {d : D} {k : D → M (Out N B)} (hnd : S.N.Nodup) (he : EE S ρ e m) (hr : ∀ d, SB S (ρ.set i (.sh d)) rest (k d) shN shB) (hi : ρ[i]? = some (.sh d) := by rfl) (hN : S.N[i]? = some x := by rfl)
    (hx : Loc S.sc x := by first | exact Or.inl rfl | exact Or.inr rfl) (hf : S.fn x = true ∨ S.sc.names.lookup x = some .local := by first | exact Or.inl rfl | exact Or.inr rfl) :
    SB S ρ (.AugAssign (.Name x pos') .Add e pos :: rest) (m >>= fun y => addI d y >>= k) shN shB := sb_aug i hnd hi hN hx he hr hf
theorem s_augS (i : Nat) {x : Str} {d : D} {k : D → M (Out N B)} (hnd : S.N.Nodup) (he : EE S ρ e m) (hr : ∀ d, SB S (ρ.set i (.sh d)) rest (k d) shN shB) (hi : ρ[i]? = some (.sh d) := by rfl) (hN : S.N[i]? = some x := by rfl)
    (hx : Loc S.sc x := by first | exact Or.inl rfl | exact Or.inr rfl) (hf : S.fn x = true ∨ S.sc.names.lookup x = some .local := by first | exact Or.inl rfl | exact Or.inr rfl) :
    SB S ρ (.AugAssign (.Name x pos') .Sub e pos :: rest) (m >>= fun y => subI d y >>= k) shN shB := sb_augS i hnd hi hN hx he hr hf
theorem s_extend (i : Nat) {x : Str} {d : D} {k : D → M (Out N B)} (he : EL S ρ e m) (hr : ∀ d, SB S (ρ.set i (.ow d)) rest (k d) shN shB) (hi : ρ[i]? = some (.ow d) := by rfl) (hN : S.N[i]? = some x := by rfl)
    (hv : Vis S.sc x := by first | exact Or.inl rfl | exact Or.inr (Or.inl rfl) | exact Or.inr (Or.inr rfl)) (hs : NoStar [e] := by exact fun _ => rfl) (hline : (apos.endLine == cpos.line) = true := by rfl)
    (hsw : ∀ env : Env, swapsWith (.Call (.Attribute (.Name x p) "extend" apos) [e] [] cpos) none pos.line env = pure false := by exact fun _ => rfl) (hba : ∀ env : Env, attributeBase (.Name x p) "extend" env (eval (.Name x p) env) = eval (.Name x p) env := by exact fun _ => rfl)
    (hd : (x == ("__debug__" : Str)) = false := by decide) (hcd : (x == ("__classdict__" : Str)) = false := by decide) :
    SB S ρ (.Expr (.Call (.Attribute (.Name x p) "extend" apos) [e] [] cpos) pos :: rest) (lstD d >>= fun ds => m >>= fun y => extL ds y >>= k) shN shB := sb_extend i hi hN hv he hr hs hline hsw hba hd hcd
theorem s_item (i : Nat) {x : Str} {d : D} {k : D → M (Out N B)} (he : EE S ρ e m) (hb : EE S ρ b mb) (hr : ∀ d, SB S (ρ.set i (.ow d)) rest (k d) shN shB) (hi : ρ[i]? = some (.ow d) := by rfl) (hN : S.N[i]? = some x := by rfl)
    (hv : Vis S.sc x := by first | exact Or.inl rfl | exact Or.inr (Or.inl rfl) | exact Or.inr (Or.inr rfl))
    (hsw : ∀ env : Env, swapsWithSole [.Subscript (.Name x p) b spos] e pos.line env = pure false := by exact fun _ => rfl) (hw : ∀ env : Env, swappedStores [.Subscript (.Name x p) b spos] e env = pure none := by exact fun _ => rfl)
    (h1 : ∀ env : Env, (assignEach [.Subscript (.Name x p) b spos] env).map (·.2) = [assign (.Subscript (.Name x p) b spos) env] := by exact fun _ => rfl)
    (ha2 : ∀ (env : Env) v, assign (.Subscript (.Name x p) b spos) env v = (do
      let ov ← holding [v] (eval (.Name x p) env)
      let iv ← holding [v, ov] (eval b env)
      standAt spos
      holding [v, ov, iv] (setItem ov iv v)
      release [v, ov, iv] []) := by exact fun _ _ => rfl) (hd : (x == ("__debug__" : Str)) = false := by decide) (hcd : (x == ("__classdict__" : Str)) = false := by decide) :
    SB S ρ (.Assign [.Subscript (.Name x p) b spos] e pos :: rest) (lstD d >>= fun ds => m >>= fun y => mb >>= fun j => setO ds j y >>= k) shN shB := sb_setitem i hi hN hv he hb hr hsw hw h1 ha2 hd hcd
theorem xmeth (hc : ClsD S.pg ci fl) (mt : Mtd S.pg ci k fm (.v :: ks) FM) (ho : EE S ρ o mo) (ha : EAk S ρ ks (e :: es) ms) (hk : k ≤ S.lv := by exact Nat.le_of_ble_eq_true rfl) (hs : ∀ env : Env, starEach (e :: es) env = (false, eval e env) :: starEach es env := by exact fun _ => rfl)
    (hpl : ∀ env : Env, (backTo pos (starEach es env)).any (·.1) = false := by exact fun _ => rfl)
    (ht : ∀ env : Env, eval (.Call (.Attribute o fm apos) (e :: es) [] pos) env = (do
      let ov ← eval o env
      standAt apos.atName
      let (f, first) ← holding [ov] (getMethod ov fm (do return (← importBound o env).getD true))
      callWith pos f first (backTo pos (starEach (e :: es) env)) (backToKw pos (keywordEach [] env))) := by exact fun _ => rfl) : EE S ρ (.Call (.Attribute o fm apos) (e :: es) [] pos) (mthM ci fm mo ms FM) := ee_meth hc mt hk ho ha hs hpl ht
theorem xmeth0 (hc : ClsD S.pg ci fl) (mt : Mtd S.pg ci k fm [.v] FM) (ho : EE S ρ o mo) (hk : k ≤ S.lv := by exact Nat.le_of_ble_eq_true rfl)
    (ht : ∀ env : Env, eval (.Call (.Attribute o fm apos) [] [] pos) env = (do
      let ov ← eval o env
      standAt apos.atName
      let (f, first) ← holding [ov] (getMethod ov fm (do return (← importBound o env).getD true))
      callWith pos f first (backTo pos (starEach [] env)) (backToKw pos (keywordEach [] env))) := by exact fun _ => rfl) : EE S ρ (.Call (.Attribute o fm apos) [] [] pos) (mthM ci fm mo (pure []) FM) := ee_meth0 hc mt hk ho ht
theorem xmake {x : Str} (mk : Mkr S.pg ci k x (.v :: ks) FM) (ha : EAk S ρ ks (e :: es) ms) (hk : k + 1 ≤ S.lv := by exact Nat.le_of_ble_eq_true rfl) (hg : Glb S x := by rfl) (hs : ∀ env : Env, starEach (e :: es) env = (false, eval e env) :: starEach es env := by exact fun _ => rfl)
    (hpl : ∀ env : Env, (backTo pos (starEach es env)).any (·.1) = false := by exact fun _ => rfl) (hdb : (x == ("__debug__" : Str)) = false := by decide) : EE S ρ (.Call (.Name x p) (e :: es) [] pos) (mkM ci ms FM) := ee_make mk hk hg ha hs hpl hdb
theorem xmake0 {x : Str} (mk : Mkr S.pg ci k x [.v] FM) (hk : k + 1 ≤ S.lv := by exact Nat.le_of_ble_eq_true rfl) (hg : Glb S x := by rfl) (hdb : (x == ("__debug__" : Str)) = false := by decide) : EE S ρ (.Call (.Name x p) [] [] pos) (mkM ci (pure []) FM) := ee_make0 mk hk hg hdb
end
theorem mtd_of {p : Pg} {c k : Nat} {m : Str} {f : Addr} {fd : FuncData} {ps : List Str} {ks : List AK} {F : List D → M D} (h : FnOk p.P p.w p.K p.mg p.base (L2.CX p.P p.w) k f fd ps (spD p ks F)) (hm : Meth p.K (p.cA c) m f) (hb : Binds p.K fd ps []) : Mtd p c k m ks F := ⟨f, fd, ps, h, hm, hb⟩
theorem mkr_of {p : Pg} {c k : Nat} {x : Str} {f : Addr} {fd : FuncData} {ps : List Str} {ks : List AK} {F : List D → M D} (h : FnOk p.P p.w p.K p.mg p.base (L2.CX p.P p.w) k f fd ps (spD p ks F)) (hm : Mk p.K (p.cA c) f) (hb : Binds p.K fd ps []) (hx : p.mg x = some (.ref (p.cA c))) : Mkr p c k x ks F := ⟨f, fd, ps, h, hm, hb, hx⟩
end DL
namespace DL
/-! ### plain facts about the mirrors -/
structure Wp {α : Type} (m : M α) (s : Store) (Q : α → Store → Prop) : Prop where
  run : (m s).Post Q fun _ _ => False
section
variable {α β : Type} {m : M α} {f : α → M β} {s : Store}
theorem wp_bind {Q : β → Store → Prop} (h : Wp m s fun a s' => Wp (f a) s' Q) : Wp (m >>= f) s Q := by
  have h := h.run
  refine ⟨?_⟩
  rw [bind_run]
  cases e : m s with
  | ok a s' => rw [e] at h; exact h.run
  | exc c s' => rw [e] at h; exact h
  | stuck => rw [e] at h; exact h
theorem wp_pure {a : α} {Q : α → Store → Prop} (h : Q a s) : Wp (pure a) s Q := ⟨h⟩
theorem wp_imp {Q R : α → Store → Prop} (h : Wp m s Q) (k : ∀ a s, Q a s → R a s) : Wp m s R := ⟨Res.Post.imp h.run k fun _ _ e => e⟩
theorem wp_ok {a : α} {s' : Store} {Q : α → Store → Prop} (h : m s = .ok a s') (q : Q a s') : Wp m s Q := by
  refine ⟨?_⟩
  rw [h]
  exact q
theorem wp_get {Q : α → Store → Prop} (h : Wp m s Q) : ∃ a s', m s = .ok a s' ∧ Q a s' := by
  have h := h.run
  cases e : m s with
  | ok a s' => rw [e] at h; exact ⟨a, s', rfl, h⟩
  | exc c s' => rw [e] at h; exact h.elim
  | stuck => rw [e] at h; exact h.elim
theorem wp_go {a : α} {s' : Store} {Q : β → Store → Prop} (h : m s = .ok a s') (q : Wp (f a) s' Q) : Wp (m >>= f) s Q := wp_bind (wp_ok h q)
end
@[simp] theorem p0_ap {α : Type} (f : M α) : p0 f [] = f := Eq.trans rfl rfl
@[simp] theorem p1_ap {α : Type} (f : D → M α) (a : D) : p1 f [a] = f a := Eq.trans rfl rfl
@[simp] theorem p2_ap {α : Type} (f : D → D → M α) (a b : D) : p2 f [a, b] = f a b := Eq.trans rfl rfl
@[simp] theorem p3_ap {α : Type} (f : D → D → D → M α) (a b c : D) : p3 f [a, b, c] = f a b c := Eq.trans rfl rfl
@[simp] theorem p4_ap {α : Type} (f : D → D → D → D → M α) (a b c d : D) : p4 f [a, b, c, d] = f a b c d := Eq.trans rfl rfl
@[simp] theorem p5_ap {α : Type} (f : D → D → D → D → D → M α) (a b c d e : D) : p5 f [a, b, c, d, e] = f a b c d e := Eq.trans rfl rfl
@[simp] theorem p6_ap {α : Type} (f : D → D → D → D → D → D → M α) (a b c d e g : D) : p6 f [a, b, c, d, e, g] = f a b c d e g := Eq.trans rfl rfl
@[simp] theorem nm_ap (a : D) : nm a = pure [a] := Eq.trans rfl rfl
@[simp] theorem un0_ap : un0 [] = pure [] := Eq.trans rfl rfl
@[simp] theorem unc_ap (u : D → M (List D)) (us : List D → M (List D)) (d : D) (ds : List D) : unc u us (d :: ds) = (u d >>= fun a => us ds >>= fun b => pure (a ++ b)) := Eq.trans rfl rfl
@[simp] theorem unT_ap (us : List D → M (List D)) (ds : List D) : unT us (.tup ds) = us ds := Eq.trans rfl rfl
@[simp] theorem runF_rt {N B : Type} (d : D) : runF (pure (.rt d) : M (Out N B)) = pure d := Eq.trans rfl rfl
@[simp] theorem runF_nx {N B : Type} (n : N) : runF (pure (.nx n) : M (Out N B)) = pure .non := Eq.trans rfl rfl
@[simp] theorem runF_bind {α N B : Type} (m : M α) (f : α → M (Out N B)) : runF (m >>= f) = m >>= fun a => runF (f a) := by
  unfold runF
  rw [bind_assoc']
@[simp] theorem runF_ite {N B : Type} (c : Prop) [Decidable c] (a b : M (Out N B)) : runF (if c then a else b) = if c then runF a else runF b := by
  split <;> rfl
@[simp] theorem ite_bind {α β : Type} (c : Prop) [Decidable c] (a b : M α) (f : α → M β) : ((if c then a else b) >>= f) = if c then a >>= f else b >>= f := by
  split <;> rfl
theorem bool_ite {α : Type} (b : Bool) (x y : α) : (if b = true then x else y) = cond b x y := by cases b <;> rfl
/-! ints -/
section
variable (i j : Int)
@[simp] theorem add_ii : addD (.int i) (.int j) = pure (.int (i + j)) := Eq.trans rfl rfl
@[simp] theorem sub_ii : subD (.int i) (.int j) = pure (.int (i - j)) := Eq.trans rfl rfl
@[simp] theorem and_ii : andD (.int i) (.int j) = pure (.int (PySem.Builtin.bitAnd i j)) := Eq.trans rfl rfl
@[simp] theorem or_ii : orD (.int i) (.int j) = pure (.int (PySem.Builtin.bitOr i j)) := Eq.trans rfl rfl
@[simp] theorem xor_ii : xorD (.int i) (.int j) = pure (.int (PySem.Builtin.bitXor i j)) := Eq.trans rfl rfl
@[simp] theorem lt_ii : ltB (.int i) (.int j) = pure (decide (i < j)) := Eq.trans rfl rfl
@[simp] theorem le_ii : leB (.int i) (.int j) = pure (decide (i ≤ j)) := Eq.trans rfl rfl
@[simp] theorem gt_ii : gtB (.int i) (.int j) = pure (decide (j < i)) := Eq.trans rfl rfl
@[simp] theorem ge_ii : geB (.int i) (.int j) = pure (decide (j ≤ i)) := Eq.trans rfl rfl
@[simp] theorem eq_ii : eqB (.int i) (.int j) = pure (i == j) := Eq.trans rfl rfl
@[simp] theorem ne_ii : neB (.int i) (.int j) = pure (!(i == j)) := Eq.trans rfl rfl
@[simp] theorem neg_i : negD (.int i) = pure (.int (-i)) := Eq.trans rfl rfl
@[simp] theorem inv_i : invD (.int i) = pure (.int (PySem.Builtin.bitNot i)) := Eq.trans rfl rfl
@[simp] theorem int_i : intD (.int i) = pure (.int i) := Eq.trans rfl rfl
@[simp] theorem int_b (b : Bool) : intD (.bl b) = pure (.int (if b then 1 else 0)) := Eq.trans rfl rfl
@[simp] theorem abs_i : absD (.int i) = pure (.int (if i < 0 then -i else i)) := Eq.trans rfl rfl
@[simp] theorem max2_ii : max2D (.int i) (.int j) = pure (.int (if j > i then j else i)) := Eq.trans rfl rfl
@[simp] theorem min2_ii : min2D (.int i) (.int j) = pure (.int (if j < i then j else i)) := Eq.trans rfl rfl
@[simp] theorem intM_i : intM (.int i) = pure (some i) := Eq.trans rfl rfl
@[simp] theorem intG_i : intG (.int i) = pure i := Eq.trans rfl rfl
@[simp] theorem truth_b (b : Bool) : truth (.bl b) = pure b := Eq.trans rfl rfl
@[simp] theorem truth_i : truth (.int i) = pure (i != 0) := Eq.trans rfl rfl
@[simp] theorem truth_n : truth .non = pure false := Eq.trans rfl rfl
theorem mul_ii (h : (-(2 ^ 64) < i ∧ i < 2 ^ 64) ∨ (-(2 ^ 64) < j ∧ j < 2 ^ 64)) : mulD (.int i) (.int j) = pure (.int (i * j)) := by
  show (if mulC i j = true then (pure (.int (i * j)) : M D) else stuck) = _
  rw [if_pos (by unfold mulC; exact decide_eq_true h)]
theorem div_ii (h : 0 < j) (h2 : j < 1073741824) : divD (.int i) (.int j) = pure (.int (i / j)) := by
  show (if divC i j = true then (pure (.int (i / j)) : M D) else stuck) = _
  rw [if_pos (by unfold divC; exact decide_eq_true ⟨h, h2⟩)]
theorem mod_ii (h : 0 < j) : modD (.int i) (.int j) = pure (.int (i % j)) := by
  show (if modC i j = true then (pure (.int (i % j)) : M D) else stuck) = _
  rw [if_pos (by unfold modC; exact decide_eq_true h)]
theorem shl_ii (h : 0 ≤ j) (h2 : j ≤ 1000000) (h3 : i.natAbs < 2 ^ 64) : shlD (.int i) (.int j) = pure (.int (i * 2 ^ j.toNat)) := by
  show (if powC i j = true then (pure (.int (i * 2 ^ j.toNat)) : M D) else stuck) = _
  rw [if_pos (by unfold powC; exact decide_eq_true ⟨h, h2, h3⟩)]
theorem shr_ii (h : 0 ≤ j) : shrD (.int i) (.int j) = pure (.int (i / 2 ^ j.toNat)) := by
  show (if shrC i j = true then (pure (.int (i / 2 ^ j.toNat)) : M D) else stuck) = _
  rw [if_pos (by unfold shrC; exact decide_eq_true h)]
theorem pow_ii (h : 0 ≤ j) (h2 : j ≤ 1000000) (h3 : i.natAbs < 2 ^ 64) : powD (.int i) (.int j) = pure (.int (i ^ j.toNat)) := by
  show (if powC i j = true then (pure (.int (i ^ j.toNat)) : M D) else stuck) = _
  rw [if_pos (by unfold powC; exact decide_eq_true ⟨h, h2, h3⟩)]
theorem range1_i (n : Nat) (h : n < 2 ^ 62) : range1 (.int (n : Nat)) = pure (rangeL 0 n) := by
  show (if bnd (n : Nat) = true then (pure (rangeL 0 ((n : Nat) : Int).toNat) : M (List D)) else stuck) = _
  rw [if_pos (by unfold bnd; exact decide_eq_true ⟨by omega, by omega⟩), Int.toNat_natCast]
theorem range1_z (j : Int) (h0 : 0 ≤ j) (h : j < 2 ^ 62) : range1 (.int j) = pure (rangeL 0 j.toNat) := by
  show (if bnd j = true then (pure (rangeL 0 j.toNat) : M (List D)) else stuck) = _
  rw [if_pos (by unfold bnd; exact decide_eq_true ⟨by omega, by omega⟩)]
end
/-! sequences -/
section
variable (ds : List D)
@[simp] theorem items_t : items (.tup ds) = pure ds := Eq.trans rfl rfl
@[simp] theorem items_l : items (.lst ds) = pure ds := Eq.trans rfl rfl
@[simp] theorem items_r : items (.rls ds) = pure ds := Eq.trans rfl rfl
@[simp] theorem len_t : lenD (.tup ds) = pure (.int ds.length) := Eq.trans rfl rfl
@[simp] theorem len_l : lenD (.lst ds) = pure (.int ds.length) := Eq.trans rfl rfl
@[simp] theorem len_r : lenD (.rls ds) = pure (.int ds.length) := Eq.trans rfl rfl
@[simp] theorem lst_l : lstD (.lst ds) = pure ds := Eq.trans rfl rfl
@[simp] theorem lstO_l : lstO (.lst ds) = pure ds := Eq.trans rfl rfl
@[simp] theorem tuple_l : tupleD (.lst ds) = pure (.tup ds) := Eq.trans rfl rfl
@[simp] theorem tuple_t : tupleD (.tup ds) = pure (.tup ds) := Eq.trans rfl rfl
@[simp] theorem list_t : listD (.tup ds) = pure (.lst ds) := Eq.trans rfl rfl
@[simp] theorem rev_t : revD (.tup ds) = pure (.tup ds.reverse) := Eq.trans rfl rfl
theorem mkT_ok (h : ds.length ≤ 2 ^ 24) : mkT ds = pure (.tup ds) := if_pos h
theorem mkL_ok (h : ds.length ≤ 2 ^ 24) : mkL ds = pure (.lst ds) := if_pos h
@[simp] theorem mkT0 : mkT [] = pure (.tup []) := Eq.trans rfl rfl
@[simp] theorem mkL0 : mkL [] = pure (.lst []) := Eq.trans rfl rfl
@[simp] theorem mkT1 (a : D) : mkT [a] = pure (.tup [a]) := Eq.trans rfl rfl
@[simp] theorem mkL1 (a : D) : mkL [a] = pure (.lst [a]) := Eq.trans rfl rfl
@[simp] theorem mkT2 (a b : D) : mkT [a, b] = pure (.tup [a, b]) := Eq.trans rfl rfl
@[simp] theorem mkL2 (a b : D) : mkL [a, b] = pure (.lst [a, b]) := Eq.trans rfl rfl
@[simp] theorem mkT3 (a b c : D) : mkT [a, b, c] = pure (.tup [a, b, c]) := Eq.trans rfl rfl
@[simp] theorem mkL3 (a b c : D) : mkL [a, b, c] = pure (.lst [a, b, c]) := Eq.trans rfl rfl
@[simp] theorem mkT4 (a b c d : D) : mkT [a, b, c, d] = pure (.tup [a, b, c, d]) := Eq.trans rfl rfl
@[simp] theorem mkL4 (a b c d : D) : mkL [a, b, c, d] = pure (.lst [a, b, c, d]) := Eq.trans rfl rfl
@[simp] theorem mkT5 (a b c d e : D) : mkT [a, b, c, d, e] = pure (.tup [a, b, c, d, e]) := Eq.trans rfl rfl
@[simp] theorem mkL5 (a b c d e : D) : mkL [a, b, c, d, e] = pure (.lst [a, b, c, d, e]) := Eq.trans rfl rfl
theorem app_ok (d : D) (h : ds.length < 2 ^ 24) : appL ds d = pure (.lst (ds ++ [d])) := if_pos h
theorem cat_ok (es : List D) (h : ds.length + es.length ≤ 2 ^ 24) : catD (.lst ds) (.lst es) = pure (.lst (ds ++ es)) := if_pos h
theorem add_tt (es : List D) (h : ds.length + es.length ≤ 2 ^ 24) : addD (.tup ds) (.tup es) = pure (.tup (ds ++ es)) := if_pos h
theorem sum_ints (ns : List Int) : sumD (.lst (ns.map .int)) = pure (.int ns.sum) := by
  unfold sumD
  simp only [ints_map]
theorem all_bools (bs : List Bool) : allD (.lst (bs.map .bl)) = pure (.bl (bs.all id)) := by
  unfold allD
  simp only [bools_map]
theorem any_bools (bs : List Bool) : anyD (.lst (bs.map .bl)) = pure (.bl (bs.any id)) := by
  unfold anyD
  simp only [bools_map]
theorem sorted_ints (ns : List Int) : sortedD (.lst (ns.map .int)) = pure (.lst ((isort ns).map .int)) := by
  unfold sortedD
  simp only [ints_map]
theorem sortedRev_ints (ns : List Int) : sortedRevD (.lst (ns.map .int)) = pure (.lst ((isort ns).reverse.map .int)) := by
  unfold sortedRevD
  simp only [ints_map]
end
/-! loops -/
theorem wp_for {Z B : Type} {step : Z → D → M (Out Z Z)} {Q : Out Z B → Store → Prop} (I : List D → Z → Store → Prop) : ∀ (xs : List D) (z : Z) (s : Store), I xs z s →
    (∀ x r z s, I (x :: r) z s → Wp (step z x) s fun o s' => match o with
      | .nx z' => I r z' s'
      | .ct z' => I r z' s'
      | .bk z' => Q (.nx z') s'
      | .rt d => Q (.rt d) s') → (∀ z s, I [] z s → Q (.nx z) s) → Wp (forL step z xs) s Q
  | [], z, s, i, _, d => ⟨d z s i⟩
  | x :: r, z, s, i, h, d => by
    unfold forL
    refine wp_bind (wp_imp (h x r z s i) fun o s' q => ?_)
    cases o with
    | nx z' => exact wp_for I r z' s' q h d
    | ct z' => exact wp_for I r z' s' q h d
    | bk z' => exact ⟨q⟩
    | rt d => exact ⟨q⟩
theorem forL_pure {Z B : Type} {step : Z → D → M (Out Z Z)} {g : Z → D → Z} : ∀ (xs : List D) (z : Z), (∀ z x, x ∈ xs → step z x = pure (.nx (g z x))) → (forL step z xs : M (Out Z B)) = pure (.nx (xs.foldl g z))
  | [], z, _ => rfl
  | x :: r, z, h => by
    unfold forL
    rw [h z x List.mem_cons_self, pure_bind']
    exact forL_pure r (g z x) fun z y hy => h z y (List.mem_cons_of_mem _ hy)
/-- a loop over ints -/
theorem forL_ints {Z B : Type} {step : Z → D → M (Out Z Z)} {g : Z → Int → Z} : ∀ (ns : List Int) (z : Z), (∀ z n, n ∈ ns → step z (.int n) = pure (.nx (g z n))) → (forL step z (ns.map D.int) : M (Out Z B)) = pure (.nx (ns.foldl g z))
  | [], z, _ => rfl
  | n :: r, z, h => by
    rw [List.map_cons]
    unfold forL
    rw [h z n List.mem_cons_self, pure_bind']
    exact forL_ints r (g z n) fun z y hy => h z y (List.mem_cons_of_mem _ hy)
/-! comprehensions -/
theorem compM_pure {α : Type} {f : D → M (Option D)} {to : α → D} {g : α → Option D} : ∀ (xs : List α), (∀ x ∈ xs, f (to x) = pure (g x)) → compM f (xs.map to) = pure (xs.filterMap g)
  | [], _ => rfl
  | x :: r, h => by
    have e : noexc (pure (g x) : M (Option D)) = pure (g x) := rfl
    rw [List.map_cons, compM, h x List.mem_cons_self, e, pure_bind', compM_pure r fun y hy => h y (List.mem_cons_of_mem _ hy), pure_bind', List.filterMap_cons]
    cases g x <;> rfl
theorem filterMap_all {α β : Type} (g : α → β) (xs : List α) : xs.filterMap (fun x => some (g x)) = xs.map g := by
  induction xs with
  | nil => rfl
  | cons x r ih => rw [List.filterMap_cons, ih, List.map_cons]
theorem filterMap_le {α β : Type} (g : α → Option β) (xs : List α) : (xs.filterMap g).length ≤ xs.length := List.length_filterMap_le g xs
/-- a comprehension, each item by itself; c the test, g what is put in -/
theorem lcM_pure {α : Type} {mi : M (List D)} {u : D → M (List D)} {mt : List D → M Bool} {me : List D → M D} {to : α → D} {xs : List α} (c : α → Bool) (g : α → D) (hi : mi = pure (xs.map to)) (hl : xs.length ≤ 2 ^ 24)
    (h : ∀ x ∈ xs, (u (to x) >>= fun ds => mt ds >>= fun b => if b = true then me ds >>= fun d => pure (some d) else pure none) = pure (if c x then some (g x) else none)) : lcM mi u mt me = pure (.lst ((xs.filter c).map g)) := by
  unfold lcM
  rw [hi, pure_bind', compM_pure (g := fun x => if c x then some (g x) else none) xs h, pure_bind']
  have e : xs.filterMap (fun x => if c x = true then some (g x) else none) = (xs.filter c).map g := by
    clear h hi hl
    induction xs with
    | nil => rfl
    | cons x r ih =>
      rw [List.filterMap_cons, List.filter_cons]
      by_cases z : c x = true
      · simp only [z, if_true, List.map_cons, ih]
      · simp only [z, ih]
        rfl
  rw [e]
  exact mkL_ok _ (Nat.le_trans (by rw [List.length_map]; exact List.length_filter_le _ _) hl)
/-- .. without a test -/
theorem lcM_map {α : Type} {mi : M (List D)} {u : D → M (List D)} {mt : List D → M Bool} {me : List D → M D} {to : α → D} {xs : List α} (g : α → D) (hi : mi = pure (xs.map to)) (hl : xs.length ≤ 2 ^ 24)
    (h : ∀ x ∈ xs, (u (to x) >>= fun ds => mt ds >>= fun b => if b = true then me ds >>= fun d => pure (some d) else pure none) = pure (some (g x))) : lcM mi u mt me = pure (.lst (xs.map g)) := by
  rw [lcM_pure (fun _ => true) g hi hl (fun x hx => by rw [h x hx]; rfl)]
  congr 2
  rw [List.filter_eq_self.mpr fun _ _ => rfl]
theorem rangeL_eq (n : Nat) : rangeL 0 n = (List.range n).map fun (i : Nat) => D.int (i : Nat) := by
  unfold rangeL
  refine List.map_congr_left fun i _ => ?_
  rw [Int.zero_add]
/-! ### the drawn numbers -/
/-- n more draws may be had; rest: the other cells -/
def Drw (n : Nat) (rest : Store) (s : Store) : Prop := ∃ (ns : List Int) (t : Nat), s = .lst [.lst (ns.map .int), .int (t : Nat)] :: rest ∧ 0 < ns.length ∧ ns.length ≤ 5000 ∧ t + n ≤ 2 ^ 60
theorem Drw.less {n m : Nat} {rest s : Store} (h : Drw n rest s) (l : m ≤ n) : Drw m rest s := by
  obtain ⟨ns, t, e, a, b, c⟩ := h
  exact ⟨ns, t, e, a, b, by omega⟩
end DL
/-! ### bits of numbers from nought -/
namespace DL
theorem split2 (a : Nat) : a = 2 * (a / 2) + a % 2 := by omega
theorem or_xor_and : ∀ (a b : Nat), (a ||| b) = (a ^^^ b) + (a &&& b) ∧ a + b = (a ^^^ b) + 2 * (a &&& b)
  | a, b => by
    by_cases h : a = 0
    · subst h
      simp
    · obtain ⟨ih1, ih2⟩ := or_xor_and (a / 2) (b / 2)
      have e1 := split2 (a ||| b)
      have e2 := split2 (a ^^^ b)
      have e3 := split2 (a &&& b)
      rw [Nat.or_div_two] at e1
      rw [Nat.xor_div_two] at e2
      rw [Nat.and_div_two] at e3
      have m1 := @Nat.or_mod_two_eq_one a b
      have m2 := @Nat.xor_mod_two_eq_one a b
      have m3 := @Nat.and_mod_two_eq_one a b
      have l1 : (a ||| b) % 2 < 2 := Nat.mod_lt _ (by omega)
      have l2 : (a ^^^ b) % 2 < 2 := Nat.mod_lt _ (by omega)
      have l3 : (a &&& b) % 2 < 2 := Nat.mod_lt _ (by omega)
      generalize (a ||| b) = p at *
      generalize (a ^^^ b) = q at *
      generalize (a &&& b) = r at *
      generalize (a / 2 ||| b / 2) = p' at *
      generalize (a / 2 ^^^ b / 2) = q' at *
      generalize (a / 2 &&& b / 2) = r' at *
      by_cases ha : a % 2 = 1 <;> by_cases hb : b % 2 = 1
      · have := m1.mpr (.inl ha)
        have := m3.mpr ⟨ha, hb⟩
        have : q % 2 ≠ 1 := fun z => (m2.mp z) ⟨fun _ => hb, fun _ => ha⟩
        omega
      · have := m1.mpr (.inl ha)
        have : r % 2 ≠ 1 := fun z => hb (m3.mp z).2
        have := m2.mpr fun z => hb (z.mp ha)
        omega
      · have := m1.mpr (.inr hb)
        have : r % 2 ≠ 1 := fun z => ha (m3.mp z).1
        have := m2.mpr fun z => ha (z.mpr hb)
        omega
      · have : p % 2 ≠ 1 := fun z => (m1.mp z).elim ha hb
        have : r % 2 ≠ 1 := fun z => ha (m3.mp z).1
        have : q % 2 ≠ 1 := fun z => (m2.mp z) ⟨fun y => absurd y ha, fun y => absurd y hb⟩
        omega
termination_by a => a
decreasing_by omega
theorem band_nat (a b : Nat) : PySem.Builtin.bitAnd (a : Int) (b : Int) = ((a &&& b : Nat) : Int) := by
  unfold PySem.Builtin.bitAnd
  rw [decide_eq_true (Int.natCast_nonneg a), decide_eq_true (Int.natCast_nonneg b)]
  show (((a : Int).toNat &&& (b : Int).toNat : Nat) : Int) = _
  rw [Int.toNat_natCast, Int.toNat_natCast]
theorem bor_nat (a b : Nat) : PySem.Builtin.bitOr (a : Int) (b : Int) = ((a ||| b : Nat) : Int) := by
  unfold PySem.Builtin.bitOr
  have e : PySem.Builtin.bitAnd (PySem.Builtin.bitNot (a : Int)) (PySem.Builtin.bitNot (b : Int)) = PySem.Builtin.bitNot ((a ||| b : Nat) : Int) := by
    unfold PySem.Builtin.bitAnd PySem.Builtin.bitNot
    have h1 : decide (0 ≤ -(a : Int) - 1) = false := decide_eq_false (by omega)
    have h2 : decide (0 ≤ -(b : Int) - 1) = false := decide_eq_false (by omega)
    rw [h1, h2]
    have e1 : (-(-(a : Int) - 1) - 1).toNat = a := by omega
    have e2 : (-(-(b : Int) - 1) - 1).toNat = b := by omega
    show -(((-(-(a : Int) - 1) - 1).toNat ||| (-(-(b : Int) - 1) - 1).toNat : Nat) : Int) - 1 = _
    rw [e1, e2]
  rw [e]
  unfold PySem.Builtin.bitNot
  omega
theorem bxor_nat (a b : Nat) : PySem.Builtin.bitXor (a : Int) (b : Int) = ((a ^^^ b : Nat) : Int) := by
  unfold PySem.Builtin.bitXor
  rw [bor_nat, band_nat, (or_xor_and a b).1]
  omega
/-- adding a power that is not there -/
theorem pow_add_bit {e s : Nat} (h : s.testBit e = false) (i : Nat) : (2 ^ e + s).testBit i = (decide (e = i) || s.testBit i) := by
  have z : 2 ^ e &&& s = 0 := by
    refine Nat.eq_of_testBit_eq fun j => ?_
    rw [Nat.testBit_and, Nat.testBit_two_pow, Nat.zero_testBit]
    by_cases q : e = j
    · subst q; rw [h, Bool.and_false]
    · rw [decide_eq_false q, Bool.false_and]
  have e2 := (or_xor_and (2 ^ e) s).2
  have e1 := (or_xor_and (2 ^ e) s).1
  rw [z] at e1 e2
  have : 2 ^ e + s = (2 ^ e ||| s) := by omega
  rw [this, Nat.testBit_or, Nat.testBit_two_pow]
theorem sum_pows : ∀ {L : List Nat}, L.Nodup → ∀ i, ((L.map (2 ^ ·)).sum).testBit i = decide (i ∈ L)
  | [], _, i => by
    rw [List.map_nil, List.sum_nil, Nat.zero_testBit]
    exact (decide_eq_false List.not_mem_nil).symm
  | e :: L, h, i => by
    obtain ⟨h1, h2⟩ := List.nodup_cons.mp h
    have ih := sum_pows h2
    rw [List.map_cons, List.sum_cons, pow_add_bit (by rw [ih e]; exact decide_eq_false h1), ih i]
    by_cases z : e = i
    · subst z
      rw [decide_eq_true rfl, Bool.true_or, decide_eq_true List.mem_cons_self]
    · rw [decide_eq_false z, Bool.false_or]
      by_cases y : i ∈ L
      · rw [decide_eq_true y, decide_eq_true (List.mem_cons_of_mem _ y)]
      · rw [decide_eq_false y, decide_eq_false fun q => (List.mem_cons.mp q).elim (fun q => z q.symm) y]
/-! lists of numbers as data -/
def ni (n : Nat) : D := .int (n : Int)
def en (l : List Nat) : List D := l.map ni
theorem en_ints (l : List Nat) : en l = (l.map fun (n : Nat) => (n : Int)).map .int := by
  unfold en
  rw [List.map_map]
  rfl
theorem en_len (l : List Nat) : (en l).length = l.length := List.length_map _
theorem en_app (l m : List Nat) : en (l ++ m) = en l ++ en m := List.map_append
theorem range_en (n : Nat) : rangeL 0 n = en (List.range n) := rangeL_eq n
theorem sum_cast (l : List Nat) : (l.map fun (n : Nat) => (n : Int)).sum = ((l.sum : Nat) : Int) := by
  induction l with
  | nil => rfl
  | cons x l ih => rw [List.map_cons, List.sum_cons, List.sum_cons, ih, Int.natCast_add]
theorem sum_en (l : List Nat) : sumD (.lst (en l)) = pure (ni l.sum) := by
  rw [en_ints, sum_ints, sum_cast]
  rfl
/-! comparing -/
theorem toPs_int : ∀ l : List Int, toPs (l.map .int) = l.map PySem.PyData.int
  | [] => by rw [List.map_nil, List.map_nil, toPs]
  | x :: l => by rw [List.map_cons, List.map_cons, toPs, toPs_int l, toP]
theorem canLay_ints : ∀ l : List Int, PySem.PyData.canLayAll0 (l.map PySem.PyData.int) = true
  | [] => by rw [List.map_nil, PySem.PyData.canLayAll0]
  | x :: l => by rw [List.map_cons, PySem.PyData.canLayAll0, canLay_ints l, PySem.PyData.canLay0]; rfl
theorem depth_ints : ∀ l : List Int, PySem.PyData.depthAll (l.map PySem.PyData.int) = 0
  | [] => by rw [List.map_nil, PySem.PyData.depthAll]
  | x :: l => by rw [List.map_cons, PySem.PyData.depthAll, depth_ints l, PySem.PyData.depth]; rfl
theorem eqv_ints : ∀ l m : List Int, PySem.PyData.eqvAll (l.map PySem.PyData.int) (m.map PySem.PyData.int) = decide (l = m)
  | [], [] => by rw [List.map_nil, PySem.PyData.eqvAll]; rfl
  | [], _ :: _ => by rw [List.map_nil, List.map_cons, PySem.PyData.eqvAll]; rfl
  | _ :: _, [] => by rw [List.map_nil, List.map_cons, PySem.PyData.eqvAll]; rfl
  | x :: l, y :: m => by
    rw [List.map_cons, List.map_cons, PySem.PyData.eqvAll, eqv_ints l m, PySem.PyData.eqv]
    by_cases h : x = y
    · subst h
      by_cases k : l = m
      · subst k; simp
      · simp [k]
    · simp [h]
theorem shaped_tup_ints (l : List Int) : PySem.SeqAt.shaped (toP (.tup (l.map .int))) = true := by
  rw [toP, toPs_int, PySem.SeqAt.shaped, PySem.PyData.canLay0, canLay_ints, PySem.PyData.depth, depth_ints]
  rfl
theorem shaped_lst_ints (l : List Int) : PySem.SeqAt.shaped (toP (.lst (l.map .int))) = true := by
  rw [toP, toPs_int, PySem.SeqAt.shaped, PySem.PyData.canLay0, canLay_ints, PySem.PyData.depth, depth_ints]
  rfl
theorem shaped_int (i : Int) : PySem.SeqAt.shaped (toP (.int i)) = true := by
  rw [toP, PySem.SeqAt.shaped, PySem.PyData.canLay0, PySem.PyData.depth]
  rfl
theorem shaped_bl (i : Bool) : PySem.SeqAt.shaped (toP (.bl i)) = true := by
  rw [toP, PySem.SeqAt.shaped, PySem.PyData.canLay0, PySem.PyData.depth]
  rfl
theorem eqB_of {x y : D} (hx : PySem.SeqAt.shaped (toP x) = true) (hy : PySem.SeqAt.shaped (toP y) = true) : eqB x y = pure (PySem.PyData.eqv (toP x) (toP y)) := by
  unfold eqB
  rw [hx, hy]
  rfl
theorem neB_of {x y : D} (hx : PySem.SeqAt.shaped (toP x) = true) (hy : PySem.SeqAt.shaped (toP y) = true) : neB x y = pure (!PySem.PyData.eqv (toP x) (toP y)) := by
  unfold neB
  rw [hx, hy]
  rfl
theorem eq_tt (l m : List Int) : eqB (.tup (l.map .int)) (.tup (m.map .int)) = pure (decide (l = m)) := by
  rw [eqB_of (shaped_tup_ints l) (shaped_tup_ints m), toP, toP, toPs_int, toPs_int, PySem.PyData.eqv, eqv_ints]
theorem ne_tt (l m : List Int) : neB (.tup (l.map .int)) (.tup (m.map .int)) = pure (!decide (l = m)) := by
  rw [neB_of (shaped_tup_ints l) (shaped_tup_ints m), toP, toP, toPs_int, toPs_int, PySem.PyData.eqv, eqv_ints]
theorem eq_ll (l m : List Int) : eqB (.lst (l.map .int)) (.lst (m.map .int)) = pure (decide (l = m)) := by
  rw [eqB_of (shaped_lst_ints l) (shaped_lst_ints m), toP, toP, toPs_int, toPs_int, PySem.PyData.eqv, eqv_ints]
theorem ne_ll (l m : List Int) : neB (.lst (l.map .int)) (.lst (m.map .int)) = pure (!decide (l = m)) := by
  rw [neB_of (shaped_lst_ints l) (shaped_lst_ints m), toP, toP, toPs_int, toPs_int, PySem.PyData.eqv, eqv_ints]
theorem eq_bb (a b : Bool) : eqB (.bl a) (.bl b) = pure (a == b) := by
  rw [eqB_of (shaped_bl a) (shaped_bl b), toP, toP, PySem.PyData.eqv]
theorem ne_bb (a b : Bool) : neB (.bl a) (.bl b) = pure (!(a == b)) := by
  rw [neB_of (shaped_bl a) (shaped_bl b), toP, toP, PySem.PyData.eqv]
theorem cast_inj {l m : List Nat} : (l.map fun (n : Nat) => (n : Int)) = (m.map fun (n : Nat) => (n : Int)) ↔ l = m := by
  constructor
  · intro h
    induction l generalizing m with
    | nil => cases m with
      | nil => rfl
      | cons _ _ => simp at h
    | cons x l ih => cases m with
      | nil => simp at h
      | cons y m =>
        rw [List.map_cons, List.map_cons] at h
        injection h with h1 h2
        rw [ih h2, Int.ofNat.inj h1]
  · intro h
    rw [h]
theorem eq_ten (l m : List Nat) : eqB (.tup (en l)) (.tup (en m)) = pure (decide (l = m)) := by
  rw [en_ints, en_ints, eq_tt]
  simp only [cast_inj]
theorem ne_ten (l m : List Nat) : neB (.tup (en l)) (.tup (en m)) = pure (!decide (l = m)) := by
  rw [en_ints, en_ints, ne_tt]
  simp only [cast_inj]
theorem eq_len (l m : List Nat) : eqB (.lst (en l)) (.lst (en m)) = pure (decide (l = m)) := by
  rw [en_ints, en_ints, eq_ll]
  simp only [cast_inj]
theorem ne_len (l m : List Nat) : neB (.lst (en l)) (.lst (en m)) = pure (!decide (l = m)) := by
  rw [en_ints, en_ints, ne_ll]
  simp only [cast_inj]
theorem inSeq_ints (neg : Bool) (i : Int) (l : List Int) : inSeq neg (.int i) (l.map .int) = pure (if neg then !l.contains i else l.contains i) := by
  unfold inSeq
  have h1 := shaped_lst_ints l
  rw [toP] at h1
  rw [shaped_int, h1, Bool.and_self, if_pos rfl]
  have e : ((l.map D.int).any fun z => PySem.PyData.eqv (toP z) (toP (.int i))) = l.contains i := by
    rw [Bool.eq_iff_iff, List.any_eq_true, List.contains_iff_mem]
    constructor
    · rintro ⟨z, hz, h⟩
      obtain ⟨j, hj, rfl⟩ := List.mem_map.mp hz
      rw [toP, toP, PySem.PyData.eqv, beq_iff_eq] at h
      rwa [← h]
    · intro h
      exact ⟨_, List.mem_map.mpr ⟨i, h, rfl⟩, by rw [toP, PySem.PyData.eqv, beq_self_eq_true]⟩
  simp only [e]
theorem contains_cast (l : List Nat) (n : Nat) : (l.map fun (n : Nat) => (n : Int)).contains (n : Int) = l.contains n := by
  rw [Bool.eq_iff_iff, List.contains_iff_mem, List.contains_iff_mem, List.mem_map]
  constructor
  · rintro ⟨m, hm, h⟩
    rwa [← Int.ofNat.inj h]
  · intro h
    exact ⟨n, h, rfl⟩
theorem in_l (n : Nat) (l : List Nat) : inB false (ni n) (.lst (en l)) = pure (l.contains n) := by
  show inSeq false (.int n) (en l) = _
  rw [en_ints, inSeq_ints, contains_cast]
  rfl
theorem nin_l (n : Nat) (l : List Nat) : inB true (ni n) (.lst (en l)) = pure (!l.contains n) := by
  show inSeq true (.int n) (en l) = _
  rw [en_ints, inSeq_ints, contains_cast]
  rfl
theorem in_t (n : Nat) (l : List Nat) : inB false (ni n) (.tup (en l)) = pure (l.contains n) := in_l n l
theorem nin_t (n : Nat) (l : List Nat) : inB true (ni n) (.tup (en l)) = pure (!l.contains n) := nin_l n l
/-! operators on numbers from nought -/
theorem and_nn (a b : Nat) : andD (ni a) (ni b) = pure (ni (a &&& b)) := by
  show (pure (.int (PySem.Builtin.bitAnd (a : Int) (b : Int))) : M D) = _
  rw [band_nat]
  rfl
theorem or_nn (a b : Nat) : orD (ni a) (ni b) = pure (ni (a ||| b)) := by
  show (pure (.int (PySem.Builtin.bitOr (a : Int) (b : Int))) : M D) = _
  rw [bor_nat]
  rfl
theorem xor_nn (a b : Nat) : xorD (ni a) (ni b) = pure (ni (a ^^^ b)) := by
  show (pure (.int (PySem.Builtin.bitXor (a : Int) (b : Int))) : M D) = _
  rw [bxor_nat]
  rfl
theorem add_nn (a b : Nat) : addD (ni a) (ni b) = pure (ni (a + b)) := by
  show (pure (.int ((a : Int) + (b : Int))) : M D) = _
  rw [← Int.natCast_add]
  rfl
theorem eq_nn (a b : Nat) : eqB (ni a) (ni b) = pure (a == b) := by
  show (eqB (.int (a : Int)) (.int (b : Int))) = _
  rw [eq_ii]
  congr 1
  rw [Bool.eq_iff_iff, beq_iff_eq, beq_iff_eq]
  exact ⟨fun h => Int.ofNat.inj h, fun h => by rw [h]⟩
theorem ne_nn (a b : Nat) : neB (ni a) (ni b) = pure (!(a == b)) := by
  show (neB (.int (a : Int)) (.int (b : Int))) = _
  rw [ne_ii]
  congr 2
  rw [Bool.eq_iff_iff, beq_iff_eq, beq_iff_eq]
  exact ⟨fun h => Int.ofNat.inj h, fun h => by rw [h]⟩
theorem le_nn (a b : Nat) : leB (ni a) (ni b) = pure (decide (a ≤ b)) := by
  show (leB (.int (a : Int)) (.int (b : Int))) = _
  rw [le_ii]
  simp only [Int.ofNat_le]
theorem lt_nn (a b : Nat) : ltB (ni a) (ni b) = pure (decide (a < b)) := by
  show (ltB (.int (a : Int)) (.int (b : Int))) = _
  rw [lt_ii]
  simp only [Int.ofNat_lt]
theorem gt_nn (a b : Nat) : gtB (ni a) (ni b) = pure (decide (b < a)) := by
  show (gtB (.int (a : Int)) (.int (b : Int))) = _
  rw [gt_ii]
  simp only [Int.ofNat_lt]
theorem shl_nn (a k : Nat) (ha : a < 2 ^ 64) (h : k ≤ 1000000) : shlD (ni a) (ni k) = pure (ni (a * 2 ^ k)) := by
  show (shlD (.int (a : Int)) (.int (k : Int))) = _
  rw [shl_ii _ _ (by omega) (by omega) (by rw [Int.natAbs_natCast]; exact ha), Int.toNat_natCast]
  show _ = (pure (.int (((a * 2 ^ k : Nat)) : Int)) : M D)
  rw [Int.natCast_mul, Int.natCast_pow]
  rfl
theorem shr_nn (a k : Nat) : shrD (ni a) (ni k) = pure (ni (a / 2 ^ k)) := by
  show (shrD (.int (a : Int)) (.int (k : Int))) = _
  rw [shr_ii _ _ (by omega), Int.toNat_natCast]
  show _ = (pure (.int (((a / 2 ^ k : Nat)) : Int)) : M D)
  rw [Int.natCast_ediv, Int.natCast_pow]
  rfl
theorem n0 : D.int 0 = ni 0 := rfl
theorem n1 : D.int 1 = ni 1 := rfl
theorem and_1 (a : Nat) : a &&& 1 = a % 2 := by
  have := Nat.and_two_pow_sub_one_eq_mod a 1
  exact this
theorem bit_eq (a k : Nat) : a / 2 ^ k % 2 = if a.testBit k then 1 else 0 := by
  rw [Nat.testBit_eq_decide_div_mod_eq]
  by_cases h : a / 2 ^ k % 2 = 1
  · rw [decide_eq_true h, if_pos rfl, h]
  · rw [decide_eq_false h, if_neg Bool.false_ne_true]
    omega
theorem range1_n (n : Nat) (h : n < 2 ^ 62) : range1 (ni n) = pure (en (List.range n)) := by
  rw [← range_en]
  exact range1_i n h
theorem at_en {l : List Nat} {k : Nat} (h : k < l.length) : ixD (.lst (en l)) (ni k) = pure (ni (l.getD k 0)) := by
  show ixL (en l) (k : Int) = _
  unfold ixL
  have hg : (en l)[k]? = some (ni (l.getD k 0)) := by
    unfold en
    rw [List.getElem?_map, List.getElem?_eq_getElem h, List.getD_eq_getElem?_getD, List.getElem?_eq_getElem h]
    rfl
  rw [L2.atI_nat hg]
theorem at_enT {l : List Nat} {k : Nat} (h : k < l.length) : ixD (.tup (en l)) (ni k) = pure (ni (l.getD k 0)) := at_en h
end DL
/-! ### data alike -/
namespace DL
open PySem (PyData)
mutual
theorem eqv_refl : ∀ d : PyData, d.canLay0 = true → PyData.eqv d d = true
  | .none, _ => by rw [PyData.eqv]
  | .bool b, _ => by rw [PyData.eqv]; exact beq_self_eq_true b
  | .int i, _ => by rw [PyData.eqv]; exact beq_self_eq_true i
  | .str x, _ => by rw [PyData.eqv]; exact beq_self_eq_true x
  | .list xs, h => by
    rw [PyData.eqv]
    exact eqvAll_refl xs (by rw [PyData.canLay0] at h; exact h)
  | .tuple xs, h => by
    rw [PyData.eqv]
    exact eqvAll_refl xs (by rw [PyData.canLay0] at h; exact h)
  | .dict _, h => by rw [PyData.canLay0] at h; cases h
theorem eqvAll_refl : ∀ ds : List PyData, PyData.canLayAll0 ds = true → PyData.eqvAll ds ds = true
  | [], _ => by rw [PyData.eqvAll]
  | d :: r, h => by
    rw [PyData.canLayAll0, Bool.and_eq_true] at h
    rw [PyData.eqvAll, eqv_refl d h.1, eqvAll_refl r h.2]
    rfl
end
/-- data that may be compared, n deep at most -/
def Sh (n : Nat) (x : D) : Prop := (toP x).canLay0 = true ∧ (toP x).depth ≤ n
theorem Sh.non {n : Nat} : Sh n .non := by
  unfold Sh
  rw [toP, PyData.canLay0, PyData.depth]
  exact ⟨rfl, Nat.zero_le n⟩
theorem Sh.bl {n : Nat} {b : Bool} : Sh n (.bl b) := by
  unfold Sh
  rw [toP, PyData.canLay0, PyData.depth]
  exact ⟨rfl, Nat.zero_le n⟩
theorem Sh.int {n : Nat} {i : Int} : Sh n (.int i) := by
  unfold Sh
  rw [toP, PyData.canLay0, PyData.depth]
  exact ⟨rfl, Nat.zero_le n⟩
theorem Sh.ni {n m : Nat} : Sh n (DL.ni m) := Sh.int
theorem Sh.str {n : Nat} {x : PySem.Str} (h : PySem.PyData.canLay0 (.str x) = true) : Sh n (.str x) := by
  unfold Sh
  rw [toP, PyData.depth]
  exact ⟨h, Nat.zero_le n⟩
theorem sh_all {n : Nat} : ∀ {xs : List D}, (∀ x ∈ xs, Sh n x) → PyData.canLayAll0 (toPs xs) = true ∧ PyData.depthAll (toPs xs) ≤ n
  | [], _ => by
    rw [toPs, PyData.canLayAll0, PyData.depthAll]
    exact ⟨rfl, Nat.zero_le n⟩
  | x :: r, h => by
    obtain ⟨h1, h2⟩ := h x List.mem_cons_self
    obtain ⟨h3, h4⟩ := sh_all (xs := r) fun y hy => h y (List.mem_cons_of_mem _ hy)
    rw [toPs, PyData.canLayAll0, PyData.depthAll, h1, h3]
    exact ⟨rfl, Nat.max_le.mpr ⟨h2, h4⟩⟩
theorem Sh.tup {n : Nat} {xs : List D} (h : ∀ x ∈ xs, Sh n x) : Sh (n + 1) (.tup xs) := by
  unfold Sh
  rw [toP, PyData.canLay0, PyData.depth]
  exact ⟨(sh_all h).1, Nat.succ_le_succ (sh_all h).2⟩
theorem Sh.lst {n : Nat} {xs : List D} (h : ∀ x ∈ xs, Sh n x) : Sh (n + 1) (.lst xs) := by
  unfold Sh
  rw [toP, PyData.canLay0, PyData.depth]
  exact ⟨(sh_all h).1, Nat.succ_le_succ (sh_all h).2⟩
theorem Sh.ten {n : Nat} (l : List Nat) : Sh (n + 1) (.tup (en l)) := Sh.tup fun x hx => by
  obtain ⟨m, _, rfl⟩ := List.mem_map.mp hx
  exact Sh.ni
theorem Sh.len {n : Nat} (l : List Nat) : Sh (n + 1) (.lst (en l)) := Sh.lst fun x hx => by
  obtain ⟨m, _, rfl⟩ := List.mem_map.mp hx
  exact Sh.ni
theorem Sh.ok {n : Nat} {x : D} (h : Sh n x) (k : n ≤ 64) : PySem.SeqAt.shaped (toP x) = true := by
  unfold PySem.SeqAt.shaped
  rw [h.1, decide_eq_true (Nat.le_trans h.2 k)]
  rfl
def eqD (x y : D) : Bool := PyData.eqv (toP x) (toP y)
def eqDs (xs ys : List D) : Bool := PyData.eqvAll (toPs xs) (toPs ys)
theorem eqB_sh {n m : Nat} {x y : D} (hx : Sh n x) (hy : Sh m y) (hn : n ≤ 64 := by decide) (hm : m ≤ 64 := by decide) : eqB x y = pure (eqD x y) := eqB_of (hx.ok hn) (hy.ok hm)
theorem neB_sh {n m : Nat} {x y : D} (hx : Sh n x) (hy : Sh m y) (hn : n ≤ 64 := by decide) (hm : m ≤ 64 := by decide) : neB x y = pure (!eqD x y) := neB_of (hx.ok hn) (hy.ok hm)
theorem eqD_refl {n : Nat} {x : D} (h : Sh n x) : eqD x x = true := eqv_refl _ h.1
theorem eqB_self {n : Nat} {x : D} (h : Sh n x) (hn : n ≤ 64 := by decide) : eqB x x = pure true := by rw [eqB_sh h h hn hn, eqD_refl h]
theorem neB_self {n : Nat} {x : D} (h : Sh n x) (hn : n ≤ 64 := by decide) : neB x x = pure false := by rw [neB_sh h h hn hn, eqD_refl h]; rfl
theorem eqD_ii (i j : Int) : eqD (.int i) (.int j) = (i == j) := by unfold eqD; rw [toP, toP, PyData.eqv]
theorem eqD_bb (a b : Bool) : eqD (.bl a) (.bl b) = (a == b) := by unfold eqD; rw [toP, toP, PyData.eqv]
theorem eqD_bi (a : Bool) (j : Int) : eqD (.bl a) (.int j) = ((if a then 1 else 0) == j) := by unfold eqD; rw [toP, toP, PyData.eqv]
theorem eqD_ib (i : Int) (b : Bool) : eqD (.int i) (.bl b) = (i == (if b then 1 else 0)) := by unfold eqD; rw [toP, toP, PyData.eqv]
theorem eqD_ss (x y : PySem.Str) : eqD (.str x) (.str y) = (x == y) := by unfold eqD; rw [toP, toP, PyData.eqv]
theorem eqD_tt (xs ys : List D) : eqD (.tup xs) (.tup ys) = eqDs xs ys := by unfold eqD eqDs; rw [toP, toP, PyData.eqv]
theorem eqD_ll (xs ys : List D) : eqD (.lst xs) (.lst ys) = eqDs xs ys := by unfold eqD eqDs; rw [toP, toP, PyData.eqv]
theorem eqDs_nn : eqDs [] [] = true := by unfold eqDs; rw [toPs, PyData.eqvAll]
theorem eqDs_cc (x y : D) (xs ys : List D) : eqDs (x :: xs) (y :: ys) = (eqD x y && eqDs xs ys) := by unfold eqD eqDs; rw [toPs, toPs, PyData.eqvAll]
theorem eqDs_nc (y : D) (ys : List D) : eqDs [] (y :: ys) = false := by unfold eqDs; rw [toPs, toPs, PyData.eqvAll]
theorem eqDs_cn (y : D) (ys : List D) : eqDs (y :: ys) [] = false := by unfold eqDs; rw [toPs, toPs, PyData.eqvAll]
theorem eqDs_map {α : Type} [DecidableEq α] {f : α → D} (h : ∀ x y, eqD (f x) (f y) = decide (x = y)) : ∀ l m : List α, eqDs (l.map f) (m.map f) = decide (l = m)
  | [], [] => by rw [List.map_nil, eqDs_nn]; rfl
  | [], y :: m => by rw [List.map_nil, List.map_cons, eqDs_nc]; rfl
  | x :: l, [] => by rw [List.map_nil, List.map_cons, eqDs_cn]; rfl
  | x :: l, y :: m => by
    rw [List.map_cons, List.map_cons, eqDs_cc, h, eqDs_map h l m, Bool.eq_iff_iff, Bool.and_eq_true, decide_eq_true_iff, decide_eq_true_iff, decide_eq_true_iff, List.cons.injEq]
theorem eqD_ni (a b : Nat) : eqD (ni a) (ni b) = decide (a = b) := by
  show eqD (.int a) (.int b) = _
  rw [eqD_ii, Bool.eq_iff_iff, beq_iff_eq, decide_eq_true_iff]
  exact ⟨fun h => Int.ofNat.inj h, fun h => by rw [h]⟩
theorem eqD_ten (l m : List Nat) : eqD (.tup (en l)) (.tup (en m)) = decide (l = m) := by
  rw [eqD_tt]
  exact eqDs_map eqD_ni l m
theorem eqD_len (l m : List Nat) : eqD (.lst (en l)) (.lst (en m)) = decide (l = m) := by
  rw [eqD_ll]
  exact eqDs_map eqD_ni l m
theorem eqB_ss {x y : PySem.Str} (hx : PySem.PyData.canLay0 (.str x) = true) (hy : PySem.PyData.canLay0 (.str y) = true) : eqB (.str x) (.str y) = pure (x == y) := by
  rw [eqB_sh (n := 0) (m := 0) (Sh.str hx) (Sh.str hy), eqD_ss]
theorem strOk_of {x : PySem.Str} (h : PySem.PyData.strOk x = true) : PySem.PyData.canLay0 (.str x) = true := by rw [PyData.canLay0]; exact h
end DL
/-! ### loops and comprehensions over numbers, draws in comprehensions -/
namespace DL
theorem forL_en {Z B : Type} {step : Z → D → M (Out Z Z)} {g : Z → Nat → Z} {P : Z → Prop} : ∀ (ns : List Nat) (z : Z), P z → (∀ z n, P z → n ∈ ns → step z (ni n) = pure (.nx (g z n)) ∧ P (g z n)) → (forL step z (en ns) : M (Out Z B)) = pure (.nx (ns.foldl g z)) ∧ P (ns.foldl g z)
  | [], z, hz, _ => ⟨rfl, hz⟩
  | n :: r, z, hz, h => by
    obtain ⟨h1, h2⟩ := h z n hz List.mem_cons_self
    have ih := forL_en (B := B) r (g z n) h2 fun z y hz hy => h z y hz (List.mem_cons_of_mem _ hy)
    refine ⟨?_, ih.2⟩
    show forL step z (ni n :: en r) = _
    unfold forL
    rw [h1, pure_bind']
    exact ih.1
theorem forL_nn {B : Type} {step : D → D → M (Out D D)} {g : Nat → Nat → Nat} {P : Nat → Prop} : ∀ (ns : List Nat) (z : Nat), P z → (∀ z n, P z → n ∈ ns → step (ni z) (ni n) = pure (.nx (ni (g z n))) ∧ P (g z n)) → (forL step (ni z) (en ns) : M (Out D B)) = pure (.nx (ni (ns.foldl g z))) ∧ P (ns.foldl g z)
  | [], z, hz, _ => ⟨rfl, hz⟩
  | n :: r, z, hz, h => by
    obtain ⟨h1, h2⟩ := h z n hz List.mem_cons_self
    have ih := forL_nn (B := B) r (g z n) h2 fun z y hz hy => h z y hz (List.mem_cons_of_mem _ hy)
    refine ⟨?_, ih.2⟩
    show forL step (ni z) (ni n :: en r) = _
    unfold forL
    rw [h1, pure_bind']
    exact ih.1
theorem forL_ln {B : Type} {step : D → D → M (Out D D)} {g : List Nat → Nat → List Nat} {P : List Nat → Prop} : ∀ (ns : List Nat) (z : List Nat), P z → (∀ z n, P z → n ∈ ns → step (.lst (en z)) (ni n) = pure (.nx (.lst (en (g z n)))) ∧ P (g z n)) → (forL step (.lst (en z)) (en ns) : M (Out D B)) = pure (.nx (.lst (en (ns.foldl g z)))) ∧ P (ns.foldl g z)
  | [], z, hz, _ => ⟨rfl, hz⟩
  | n :: r, z, hz, h => by
    obtain ⟨h1, h2⟩ := h z n hz List.mem_cons_self
    have ih := forL_ln (B := B) r (g z n) h2 fun z y hz hy => h z y hz (List.mem_cons_of_mem _ hy)
    refine ⟨?_, ih.2⟩
    show forL step (.lst (en z)) (ni n :: en r) = _
    unfold forL
    rw [h1, pure_bind']
    exact ih.1
theorem forL_lr {B : Type} {step : D → D → M (Out D D)} {g : List Nat → Nat → List Nat} {P : List Nat → List Nat → Prop} : ∀ (ns : List Nat) (z : List Nat), P ns z → (∀ z n r, P (n :: r) z → n ∈ ns → step (.lst (en z)) (ni n) = pure (.nx (.lst (en (g z n)))) ∧ P r (g z n)) → (forL step (.lst (en z)) (en ns) : M (Out D B)) = pure (.nx (.lst (en (ns.foldl g z)))) ∧ P [] (ns.foldl g z)
  | [], z, hz, _ => ⟨rfl, hz⟩
  | n :: r, z, hz, h => by
    obtain ⟨h1, h2⟩ := h z n r hz List.mem_cons_self
    have ih := forL_lr (B := B) r (g z n) h2 fun z y r hz hy => h z y r hz (List.mem_cons_of_mem _ hy)
    refine ⟨?_, ih.2⟩
    show forL step (.lst (en z)) (ni n :: en r) = _
    unfold forL
    rw [h1, pure_bind']
    exact ih.1
theorem bind_eq {α β : Type} {m m' : M α} {f : α → M β} {r : M β} (h : m = m') (h2 : m' >>= f = r) : m >>= f = r := by rw [h]; exact h2
theorem mkL_en {l : List Nat} (h : l.length ≤ 2 ^ 24) : mkL (en l) = pure (.lst (en l)) := mkL_ok _ (by rw [en_len]; exact h)
theorem mkT_en {l : List Nat} (h : l.length ≤ 2 ^ 24) : mkT (en l) = pure (.tup (en l)) := mkT_ok _ (by rw [en_len]; exact h)
theorem lcM_en {xs : List Nat} {mi : M (List D)} {u : D → M (List D)} {mt : List D → M Bool} {me : List D → M D} (c : Nat → Bool) (g : Nat → Nat) (hi : mi = pure (en xs)) (hl : xs.length ≤ 2 ^ 24)
    (h : ∀ x ∈ xs, (u (ni x) >>= fun ds => mt ds >>= fun b => if b = true then me ds >>= fun d => pure (some d) else pure none) = pure (if c x then some (ni (g x)) else none)) : lcM mi u mt me = pure (.lst (en ((xs.filter c).map g))) := by
  rw [lcM_pure (to := ni) c (fun x => ni (g x)) hi hl h]
  unfold en
  rw [List.map_map]
  rfl
theorem lcM_enm {xs : List Nat} {mi : M (List D)} {u : D → M (List D)} {mt : List D → M Bool} {me : List D → M D} (g : Nat → Nat) (hi : mi = pure (en xs)) (hl : xs.length ≤ 2 ^ 24)
    (h : ∀ x ∈ xs, (u (ni x) >>= fun ds => mt ds >>= fun b => if b = true then me ds >>= fun d => pure (some d) else pure none) = pure (some (ni (g x)))) : lcM mi u mt me = pure (.lst (en (xs.map g))) := by
  rw [lcM_map (to := ni) (fun x => ni (g x)) hi hl h]
  unfold en
  rw [List.map_map]
  rfl
theorem foldl_put {α : Type} (c : Nat → Bool) (g : Nat → α) : ∀ (xs : List Nat) (acc : List α), xs.foldl (fun f j => if c j = true then f ++ [g j] else f) acc = acc ++ (xs.filter c).map g
  | [], acc => (List.append_nil acc).symm
  | x :: xs, acc => by
    rw [List.foldl_cons, foldl_put c g xs, List.filter_cons]
    by_cases h : c x = true
    · rw [if_pos h, if_pos h, List.map_cons, List.append_assoc]
      rfl
    · rw [if_neg h, if_neg h]
theorem wp_comp {f : D → M (Option D)} {J : List D → List D → Store → Prop} : ∀ (xs acc : List D) (s : Store), J xs acc s → (∀ x r acc s, J (x :: r) acc s → Wp (f x) s fun o s' => J r (acc ++ o.toList) s') → Wp (compM f xs) s fun ys s' => J [] (acc ++ ys) s'
  | [], acc, s, j, _ => wp_pure (by rw [List.append_nil]; exact j)
  | x :: r, acc, s, j, h => by
    obtain ⟨o, s', e, j'⟩ := wp_get (h x r acc s j)
    have e2 : noexc (f x) s = .ok o s' := by
      unfold noexc
      rw [e]
    unfold compM
    refine wp_go e2 (wp_bind (wp_imp (wp_comp r (acc ++ o.toList) s' j' h) fun ys s'' q => wp_pure ?_))
    cases o with
    | none => simpa [addO] using q
    | some d => simpa [addO] using q
theorem wp_lc {mi : M (List D)} {u : D → M (List D)} {mt : List D → M Bool} {me : List D → M D} {s : Store} {J : List D → List D → Store → Prop} {Q : D → Store → Prop} (hi : Wp mi s fun xs s' => J xs [] s')
    (h : ∀ x r acc s, J (x :: r) acc s → Wp (u x >>= fun ds => mt ds >>= fun b => if b = true then me ds >>= fun d => pure (some d) else pure none) s fun o s' => J r (acc ++ o.toList) s')
    (he : ∀ ys s', J [] ys s' → ys.length ≤ 2 ^ 24 ∧ Q (.lst ys) s') : Wp (lcM mi u mt me) s Q := by
  unfold lcM
  refine wp_bind (wp_imp hi fun xs s' j => wp_bind (wp_imp (wp_comp xs [] s' j h) fun ys s'' q => ?_))
  rw [List.nil_append] at q
  obtain ⟨h1, h2⟩ := he ys s'' q
  rw [mkL_ok _ h1]
  exact wp_pure h2
theorem len_ten (l : List Nat) : lenD (.tup (en l)) = pure (ni l.length) := by
  rw [len_t, en_len]
  rfl
theorem add_ten {l m : List Nat} (h : l.length + m.length ≤ 2 ^ 24) : addD (.tup (en l)) (.tup (en m)) = pure (.tup (en (l ++ m))) := by
  rw [add_tt _ _ (by rw [en_len, en_len]; exact h), en_app]
theorem wp_eq {α β : Type} {m m' : M α} {f : α → M β} {s : Store} {Q : β → Store → Prop} (h : m = m') (q : Wp (m' >>= f) s Q) : Wp (m >>= f) s Q := by rw [h]; exact q
theorem forL_thru {B : Type} {step : Unit → D → M (Out Unit Unit)} : ∀ (xs : List D), (∀ x ∈ xs, step () x = pure (.nx ())) → (forL step () xs : M (Out Unit B)) = pure (.nx ())
  | [], _ => rfl
  | x :: r, h => by
    unfold forL
    rw [h x List.mem_cons_self, pure_bind']
    exact forL_thru r fun y hy => h y (List.mem_cons_of_mem _ hy)
theorem int_bn (b : Bool) : intD (.bl b) = pure (ni (if b = true then 1 else 0)) := by cases b <;> rfl
theorem len_len (l : List Nat) : lenD (.lst (en l)) = pure (ni l.length) := by
  rw [len_l, en_len]
  rfl
/-- what is true of each -/
theorem lcM_bool {xs : List Nat} {mi : M (List D)} {u : D → M (List D)} {mt : List D → M Bool} {me : List D → M D} (p : Nat → Bool) (hi : mi = pure (en xs)) (hl : xs.length ≤ 2 ^ 24)
    (h : ∀ x ∈ xs, (u (ni x) >>= fun ds => mt ds >>= fun b => if b = true then me ds >>= fun d => pure (some d) else pure none) = pure (some (.bl (p x)))) : lcM mi u mt me = pure (.lst ((xs.map p).map .bl)) := by
  rw [lcM_map (to := ni) (fun x => .bl (p x)) hi hl h, List.map_map]
  rfl
theorem lcM_any {xs : List Nat} {mi : M (List D)} {u : D → M (List D)} {mt : List D → M Bool} {me : List D → M D} (p : Nat → Bool) (hi : mi = pure (en xs)) (hl : xs.length ≤ 2 ^ 24)
    (h : ∀ x ∈ xs, (u (ni x) >>= fun ds => mt ds >>= fun b => if b = true then me ds >>= fun d => pure (some d) else pure none) = pure (some (.bl (p x)))) : (lcM mi u mt me >>= anyD) = pure (.bl (xs.any p)) := by
  rw [lcM_bool p hi hl h, pure_bind', any_bools, List.any_map]
  rfl
theorem lcM_all {xs : List Nat} {mi : M (List D)} {u : D → M (List D)} {mt : List D → M Bool} {me : List D → M D} (p : Nat → Bool) (hi : mi = pure (en xs)) (hl : xs.length ≤ 2 ^ 24)
    (h : ∀ x ∈ xs, (u (ni x) >>= fun ds => mt ds >>= fun b => if b = true then me ds >>= fun d => pure (some d) else pure none) = pure (some (.bl (p x)))) : (lcM mi u mt me >>= allD) = pure (.bl (xs.all p)) := by
  rw [lcM_bool p hi hl h, pure_bind', all_bools, List.all_map]
  rfl
theorem c0 : D.int 0 = ni 0 := rfl
theorem c1 : D.int 1 = ni 1 := rfl
theorem c2 : D.int 2 = ni 2 := rfl
theorem c3 : D.int 3 = ni 3 := rfl
theorem c4 : D.int 4 = ni 4 := rfl
theorem c5 : D.int 5 = ni 5 := rfl
theorem c6 : D.int 6 = ni 6 := rfl
theorem c7 : D.int 7 = ni 7 := rfl
theorem c8 : D.int 8 = ni 8 := rfl
theorem sub_nn {a b : Nat} (h : b ≤ a) : subD (ni a) (ni b) = pure (ni (a - b)) := by
  show (pure (.int ((a : Int) - (b : Int))) : M D) = _
  rw [← Int.ofNat_sub h]
  rfl
theorem int_n (a : Nat) : intD (ni a) = pure (ni a) := Eq.trans rfl rfl
theorem truth_n' (a : Nat) : truth (ni a) = pure (!(a == 0)) := by
  show (truth (.int (a : Int))) = _
  rw [truth_i]
  cases a <;> rfl
end DL
namespace DL
/-- a loop, its state by a code -/
theorem forL_by {A α Z B : Type} {enc : A → Z} {to : α → D} {step : Z → D → M (Out Z Z)} {g : A → α → A} {P : List α → A → Prop} : ∀ (xs : List α) (a : A), P xs a →
    (∀ a x r, P (x :: r) a → x ∈ xs → step (enc a) (to x) = pure (.nx (enc (g a x))) ∧ P r (g a x)) → (forL step (enc a) (xs.map to) : M (Out Z B)) = pure (.nx (enc (xs.foldl g a))) ∧ P [] (xs.foldl g a)
  | [], a, ha, _ => ⟨rfl, ha⟩
  | x :: r, a, ha, h => by
    obtain ⟨h1, h2⟩ := h a x r ha List.mem_cons_self
    have ih := forL_by (B := B) (enc := enc) (to := to) (step := step) (g := g) (P := P) r (g a x) h2 fun a y t hp hy => h a y t hp (List.mem_cons_of_mem _ hy)
    refine ⟨?_, ih.2⟩
    rw [List.map_cons]
    unfold forL
    rw [h1, pure_bind']
    exact ih.1
theorem uniqI_len : ∀ l : List Int, (uniqI l).length ≤ l.length
  | [] => Nat.le_refl _
  | x :: r => by
    unfold uniqI
    have := uniqI_len r
    split
    · rw [List.length_cons]; omega
    · rw [List.length_cons, List.length_cons]; omega
end DL
namespace DL
theorem all_b (xs : List Nat) (p : Nat → Bool) : allD (.lst ((xs.map p).map .bl)) = pure (.bl (xs.all p)) := by
  rw [all_bools, List.all_map]
  rfl
theorem any_b (xs : List Nat) (p : Nat → Bool) : anyD (.lst ((xs.map p).map .bl)) = pure (.bl (xs.any p)) := by
  rw [any_bools, List.any_map]
  rfl
end DL
namespace DL
theorem addI_nn (a b : Nat) : addI (ni a) (ni b) = pure (ni (a + b)) := by
  show (pure (.int ((a : Int) + (b : Int))) : M D) = _
  rw [← Int.natCast_add]
  rfl
theorem bit_truth (x t : Nat) : (!(x / 2 ^ t &&& 1 == 0)) = x.testBit t := by
  rw [and_1, bit_eq]
  cases x.testBit t <;> rfl
theorem app_en {l : List Nat} {a : Nat} (h : l.length < 2 ^ 24) : appL (en l) (ni a) = pure (.lst (en (l ++ [a]))) := by
  rw [app_ok _ _ (by rw [en_len]; exact h), en_app]
  rfl
theorem ext_ok {ds es : List D} (h : ds.length + es.length ≤ 2 ^ 24) : extL ds (.lst es) = pure (.lst (ds ++ es)) := if_pos h
theorem ext_en {l m : List Nat} (h : l.length + m.length ≤ 2 ^ 24) : extL (en l) (.lst (en m)) = pure (.lst (en (l ++ m))) := by
  rw [ext_ok (by rw [en_len, en_len]; exact h), en_app]
end DL
namespace DL
theorem forL_go {A α Z B R : Type} {enc : A → Z} {to : α → D} {step : Z → D → M (Out Z Z)} {g : A → α → A} {P : List α → A → Prop} {k : Out Z B → M R} {r : M R} (xs : List α) (a : A) (hp : P xs a)
    (h : ∀ a x r, P (x :: r) a → x ∈ xs → step (enc a) (to x) = pure (.nx (enc (g a x))) ∧ P r (g a x)) (q : P [] (xs.foldl g a) → k (.nx (enc (xs.foldl g a))) = r) : (forL step (enc a) (xs.map to) >>= k) = r := by
  have key := forL_by (B := B) xs a hp h
  rw [key.1, pure_bind']
  exact q key.2
end DL
namespace DL
/-- a loop that gives the first one -/
theorem forL_find {step : Unit → D → M (Out Unit Unit)} {p : Nat → Bool} {g : Nat → D} : ∀ (xs : List Nat), (∀ x ∈ xs, step () (ni x) = pure (if p x = true then .rt (g x) else .nx ())) → (forL step () (en xs) : M (Out Unit Unit)) = pure (match xs.find? p with
    | some x => .rt (g x)
    | none => .nx ())
  | [], _ => rfl
  | x :: r, h => by
    show forL step () (ni x :: en r) = _
    unfold forL
    rw [h x List.mem_cons_self, pure_bind', List.find?_cons]
    by_cases z : p x = true
    · rw [if_pos z, z]
    · rw [if_neg z, Bool.not_eq_true _ |>.mp z]
      exact forL_find r fun y hy => h y (List.mem_cons_of_mem _ hy)
end DL
namespace DL
/-- a while loop; n tells how many turns are left at most -/
theorem wp_while {Z B : Type} {t : Z → M Bool} {step : Z → M (Out Z Z)} {Q : Out Z B → Store → Prop} (I : Nat → Z → Store → Prop)
    (h : ∀ n z s, I n z s → Wp (t z) s fun b s' => if b = true then Wp (step z) s' fun o s'' => match o with
      | .nx z' => ∃ m, m < n ∧ I m z' s''
      | .ct z' => ∃ m, m < n ∧ I m z' s''
      | .bk z' => Q (.nx z') s''
      | .rt d => Q (.rt d) s''
    else Q (.nx z) s') : ∀ (fuel n : Nat) (z : Z) (s : Store), I n z s → n < fuel → Wp (whileL t step fuel z) s Q
  | 0, n, z, s, _, hn => by omega
  | fuel + 1, n, z, s, i, hn => by
    unfold whileL
    refine wp_bind (wp_imp (h n z s i) fun b s' q => ?_)
    by_cases e : b = true
    · rw [if_pos e] at q ⊢
      refine wp_bind (wp_imp q fun o s'' q2 => ?_)
      cases o with
      | nx z' =>
        obtain ⟨m, l, j⟩ := q2
        exact wp_while I h fuel m z' s'' j (by omega)
      | ct z' =>
        obtain ⟨m, l, j⟩ := q2
        exact wp_while I h fuel m z' s'' j (by omega)
      | bk z' => exact ⟨q2⟩
      | rt d => exact ⟨q2⟩
    · rw [if_neg e] at q ⊢
      exact ⟨q⟩
end DL
namespace DL
theorem sl1 {i : Nat} {r : List Nat} : slL (some 1) none (.lst (en (i :: r))) = pure (.lst (en r)) := by
  show (pure (.lst (cut (en (i :: r)) (some 1) none)) : M D) = _
  unfold cut
  rw [HT.sIx_none, show HT.sIx (en (i :: r)).length 0 (some 1) = min 1 (en (i :: r)).length from HT.sIx_nat _ _ 1]
  rw [en_len, List.length_cons, show min 1 (r.length + 1) = 1 by omega]
  show (pure (.lst (((en r).take _))) : M D) = _
  rw [List.take_of_length_le (by rw [en_len]; omega)]
end DL
namespace DL
theorem at_row {N k : Nat} {f : Nat → Bool} (h : k < N) : ixD (.lst (((List.range N).map f).map .bl)) (ni k) = pure (.bl (f k)) := by
  show ixL _ (k : Int) = _
  unfold ixL
  have hg : (((List.range N).map f).map D.bl)[k]? = some (.bl (f k)) := by
    rw [List.getElem?_map, List.getElem?_map, List.getElem?_range h]
    rfl
  rw [show L2.atI (((List.range N).map f).map D.bl) (k : Int) = some (.bl (f k)) from L2.atI_nat hg]
theorem len_row {N : Nat} {f : Nat → Bool} : lenD (.lst (((List.range N).map f).map .bl)) = pure (ni N) := by
  rw [len_l, List.length_map, List.length_map, List.length_range, ni]
theorem Sh.row {n : Nat} (l : List Bool) : Sh (n + 1) (.lst (l.map .bl)) := Sh.lst fun x hx => by
  obtain ⟨m, _, rfl⟩ := List.mem_map.mp hx
  exact Sh.bl
end DL
namespace DL
theorem intM_n (k : Nat) : intM (ni k) = pure (some (k : Int)) := Eq.trans rfl rfl
theorem cut_hi {α : Type} (l : List α) (k : Nat) : cut l none (some (k : Int)) = l.take k := by
  unfold cut
  rw [HT.sIx_none, show HT.sIx l.length l.length (some (k : Int)) = min k l.length from HT.sIx_nat _ _ k, List.drop_zero, Nat.sub_zero]
  by_cases h : k ≤ l.length
  · rw [Nat.min_eq_left h]
  · rw [Nat.min_eq_right (by omega), List.take_of_length_le (Nat.le_refl _), List.take_of_length_le (by omega)]
theorem cut_lo {α : Type} (l : List α) (k : Nat) : cut l (some (k : Int)) none = l.drop k := by
  unfold cut
  rw [HT.sIx_none, show HT.sIx l.length 0 (some (k : Int)) = min k l.length from HT.sIx_nat _ _ k, List.take_of_length_le (by rw [List.length_drop]; omega)]
  by_cases h : k ≤ l.length
  · rw [Nat.min_eq_left h]
  · rw [Nat.min_eq_right (by omega), List.drop_of_length_le (Nat.le_refl _), List.drop_of_length_le (by omega)]
theorem slT_hi (l : List Nat) (k : Nat) : slT none (some (k : Int)) (.tup (en l)) = pure (.tup (en (l.take k))) := by
  show (pure (.tup (cut (en l) none (some (k : Int)))) : M D) = _
  rw [cut_hi]
  unfold en
  rw [List.map_take]
theorem slT_lo (l : List Nat) (k : Nat) : slT (some (k : Int)) none (.tup (en l)) = pure (.tup (en (l.drop k))) := by
  show (pure (.tup (cut (en l) (some (k : Int)) none)) : M D) = _
  rw [cut_lo]
  unfold en
  rw [List.map_drop]
theorem mul_nn {a b : Nat} (h : a < 2 ^ 64) : mulD (ni a) (ni b) = pure (ni (a * b)) := by
  show mulD (.int a) (.int b) = _
  rw [mul_ii _ _ (.inl (by omega)), ← Int.natCast_mul]
  rfl
theorem Drw.snoc {n : Nat} {rest s : Store} (h : Drw n rest s) (C : Cell) : Drw n (rest ++ [C]) (s ++ [C]) := by
  obtain ⟨ns, t, rfl, a, b, d⟩ := h
  exact ⟨ns, t, rfl, a, b, d⟩
end DL
/-! ### sets as numbers, least sets, crossing sets -/
namespace Bd
open DL
/-- what is in the one, not in the other -/
def sdf (a b : Nat) : Nat := a ^^^ (a &&& b)
theorem sdf_bit (a b i : Nat) : (sdf a b).testBit i = (a.testBit i && !b.testBit i) := by
  unfold sdf
  rw [Nat.testBit_xor, Nat.testBit_and]
  cases a.testBit i <;> cases b.testBit i <;> rfl
def Sub (a b : Nat) : Prop := ∀ i, a.testBit i = true → b.testBit i = true
def sub (a b : Nat) : Bool := sdf a b == 0
theorem zero_iff {a : Nat} : a = 0 ↔ ∀ i, a.testBit i = false := ⟨fun h i => by rw [h, Nat.zero_testBit], fun h => Nat.eq_of_testBit_eq fun i => by rw [h i, Nat.zero_testBit]⟩
theorem sub_iff {a b : Nat} : sub a b = true ↔ Sub a b := by
  unfold sub
  rw [beq_iff_eq, zero_iff]
  constructor
  · intro h i hi
    have := h i
    rw [sdf_bit, hi] at this
    cases e : b.testBit i
    · rw [e] at this; cases this
    · rfl
  · intro h i
    rw [sdf_bit]
    cases e : a.testBit i
    · rfl
    · rw [h i e]; rfl
def meet (a b : Nat) : Bool := !(a &&& b == 0)
theorem meet_iff {a b : Nat} : meet a b = true ↔ ∃ i, a.testBit i = true ∧ b.testBit i = true := by
  unfold meet
  constructor
  · intro h
    refine Classical.byContradiction fun z => ?_
    have : a &&& b = 0 := zero_iff.mpr fun i => by
      rw [Nat.testBit_and]
      cases ha : a.testBit i
      · rfl
      · cases hb : b.testBit i
        · rfl
        · exact (z ⟨i, ha, hb⟩).elim
    rw [this] at h
    cases h
  · rintro ⟨i, ha, hb⟩
    cases h : (a &&& b == 0)
    · rfl
    · have := zero_iff.mp (beq_iff_eq.mp h) i
      rw [Nat.testBit_and, ha, hb] at this
      cases this
theorem Sub.refl (a : Nat) : Sub a a := fun _ h => h
theorem Sub.trans {a b c : Nat} (h : Sub a b) (k : Sub b c) : Sub a c := fun i x => k i (h i x)
theorem Sub.anti {a b : Nat} (h : Sub a b) (k : Sub b a) : a = b := Nat.eq_of_testBit_eq fun i => by
  cases e : a.testBit i
  · cases f : b.testBit i
    · rfl
    · rw [k i f] at e; cases e
  · rw [h i e]
theorem Sub.le {a b : Nat} (h : Sub a b) : a ≤ b := by
  have : a = a &&& b := Nat.eq_of_testBit_eq fun i => by
    rw [Nat.testBit_and]
    cases e : a.testBit i
    · rfl
    · rw [h i e]; rfl
  rw [this]
  exact Nat.and_le_right
theorem sub_lt {a b c : Nat} (h : Sub a b) (k : b < 2 ^ c) : a < 2 ^ c := Nat.lt_of_le_of_lt h.le k
theorem zero_sub (a : Nat) : Sub 0 a := fun i h => by rw [Nat.zero_testBit] at h; cases h
theorem or_bit (a b i : Nat) : (a ||| b).testBit i = (a.testBit i || b.testBit i) := Nat.testBit_or a b i
theorem or_sub {a b c : Nat} : Sub (a ||| b) c ↔ Sub a c ∧ Sub b c := by
  constructor
  · intro h
    exact ⟨fun i x => h i (by rw [or_bit, x]; rfl), fun i x => h i (by rw [or_bit, x, Bool.or_true])⟩
  · rintro ⟨h, k⟩ i x
    rw [or_bit, Bool.or_eq_true] at x
    exact x.elim (h i) (k i)
theorem sub_orL (a b : Nat) : Sub a (a ||| b) := (or_sub.mp (Sub.refl _)).1
theorem sub_orR (a b : Nat) : Sub b (a ||| b) := (or_sub.mp (Sub.refl _)).2
theorem pow_bit (k i : Nat) : (2 ^ k).testBit i = decide (k = i) := Nat.testBit_two_pow
/-- Meets -/
def Meets (a b : Nat) : Prop := ∃ i, a.testBit i = true ∧ b.testBit i = true
theorem Meets.symm {a b : Nat} (h : Meets a b) : Meets b a := by obtain ⟨i, x, y⟩ := h; exact ⟨i, y, x⟩
theorem Meets.mono {a b c : Nat} (h : Meets a b) (k : Sub a c) : Meets c b := by obtain ⟨i, x, y⟩ := h; exact ⟨i, k i x, y⟩
/-- all but these, of c things -/
def co (c x : Nat) : Nat := sdf (2 ^ c - 1) x
theorem co_bit (c x i : Nat) : (co c x).testBit i = (decide (i < c) && !x.testBit i) := by
  unfold co
  rw [sdf_bit, Nat.testBit_two_pow_sub_one]
theorem co_lt (c x : Nat) : co c x < 2 ^ c := by
  have : Sub (co c x) (2 ^ c - 1) := fun i h => by
    unfold co at h
    rw [sdf_bit, Bool.and_eq_true] at h
    exact h.1
  have := this.le
  have := Nat.two_pow_pos c
  omega
theorem bit_lt {x c i : Nat} (h : x < 2 ^ c) (k : x.testBit i = true) : i < c := by
  refine Classical.byContradiction fun z => ?_
  rw [Nat.testBit_lt_two_pow (Nat.lt_of_lt_of_le h (Nat.pow_le_pow_right (by omega) (by omega)))] at k
  cases k
theorem co_co {c x : Nat} (h : x < 2 ^ c) : co c (co c x) = x := Nat.eq_of_testBit_eq fun i => by
  rw [co_bit, co_bit]
  by_cases z : i < c
  · rw [decide_eq_true z, Bool.true_and, Bool.true_and, Bool.not_not]
  · rw [decide_eq_false z]
    cases e : x.testBit i
    · rfl
    · exact (z (bit_lt h e)).elim
/-- a set lies within what another leaves out just if they do not meet -/
theorem sub_co {c a b : Nat} (h : a < 2 ^ c) : Sub a (co c b) ↔ ¬ Meets a b := by
  constructor
  · rintro k ⟨i, x, y⟩
    have := k i x
    rw [co_bit, y, Bool.not_true, Bool.and_false] at this
    cases this
  · intro k i x
    rw [co_bit, decide_eq_true (bit_lt h x), Bool.true_and]
    cases e : b.testBit i
    · rfl
    · exact (k ⟨i, x, e⟩).elim
theorem meets_co {c a b : Nat} (h : a < 2 ^ c) : Meets a (co c b) ↔ ¬ Sub a b := by
  constructor
  · rintro ⟨i, x, y⟩ k
    rw [co_bit, k i x, Bool.not_true, Bool.and_false] at y
    cases y
  · intro k
    refine Classical.byContradiction fun z => k fun i x => ?_
    refine Classical.byContradiction fun q => z ⟨i, x, ?_⟩
    rw [co_bit, decide_eq_true (bit_lt h x)]
    cases e : b.testBit i
    · rfl
    · exact (q e).elim
theorem co_mono {c a b : Nat} (h : Sub a b) : Sub (co c b) (co c a) := fun i x => by
  rw [co_bit, Bool.and_eq_true] at x
  rw [co_bit, x.1]
  cases e : a.testBit i
  · rfl
  · rw [h i e] at x; cases x.2
/-! ### ascending lists, least ones -/
def usort (l : List Nat) : List Nat := (ssort (l.map fun (n : Nat) => (n : Int))).map Int.toNat
theorem usort_cast (l : List Nat) : (usort l).map (fun (n : Nat) => (n : Int)) = ssort (l.map fun (n : Nat) => (n : Int)) := by
  unfold usort
  rw [List.map_map]
  refine (List.map_congr_left (g := id) fun x hx => ?_).trans (List.map_id _)
  obtain ⟨n, _, rfl⟩ := List.mem_map.mp (ssort_mem.mp hx)
  rfl
theorem usort_mem {l : List Nat} {x : Nat} : x ∈ usort l ↔ x ∈ l := by
  constructor
  · intro h
    obtain ⟨i, hi, rfl⟩ := List.mem_map.mp h
    obtain ⟨n, hn, rfl⟩ := List.mem_map.mp (ssort_mem.mp hi)
    exact hn
  · intro h
    exact List.mem_map.mpr ⟨(x : Int), ssort_mem.mpr (List.mem_map.mpr ⟨x, h, rfl⟩), rfl⟩
def Asc (l : List Nat) : Prop := l.Pairwise (· < ·)
theorem usort_asc (l : List Nat) : Asc (usort l) := by
  have h := ssort_lt (l.map fun (n : Nat) => (n : Int))
  rw [← usort_cast] at h
  rw [List.pairwise_map] at h
  exact h.imp fun k => by omega
theorem asc_eq {a b : List Nat} (ha : Asc a) (hb : Asc b) (h : ∀ x, x ∈ a ↔ x ∈ b) : a = b := by
  have h1 : (a.map fun (n : Nat) => (n : Int)) = b.map fun (n : Nat) => (n : Int) := by
    refine lt_unique ?_ ?_ fun x => ?_
    · rw [List.pairwise_map]; exact ha.imp fun k => by omega
    · rw [List.pairwise_map]; exact hb.imp fun k => by omega
    · constructor
      · intro q
        obtain ⟨n, hn, rfl⟩ := List.mem_map.mp q
        exact List.mem_map.mpr ⟨n, (h n).mp hn, rfl⟩
      · intro q
        obtain ⟨n, hn, rfl⟩ := List.mem_map.mp q
        exact List.mem_map.mpr ⟨n, (h n).mpr hn, rfl⟩
  have := congrArg (List.map Int.toNat) h1
  rw [List.map_map, List.map_map] at this
  simpa [Function.comp_def] using this
theorem usort_id {l : List Nat} (h : Asc l) : usort l = l := asc_eq (usort_asc l) h fun _ => usort_mem
theorem Asc.nodup {l : List Nat} (h : Asc l) : l.Nodup := List.nodup_iff_pairwise_ne.mpr (h.imp fun k => by omega)
/-- no more than the numbers there are -/
theorem asc_lenF {n : Nat} : ∀ (l : List Nat) (m : Nat), Asc l → (∀ x ∈ l, m ≤ x ∧ x < n) → m ≤ n → l.length + m ≤ n
  | [], m, _, _, h => by rw [List.length_nil]; omega
  | x :: r, m, h, k, _ => by
    have h1 := k x List.mem_cons_self
    have h2 := List.pairwise_cons.mp h
    have := asc_lenF r (x + 1) h2.2 (fun y hy => ⟨h2.1 y hy, (k y (List.mem_cons_of_mem _ hy)).2⟩) (by omega)
    rw [List.length_cons]
    omega
theorem asc_len {l : List Nat} {n : Nat} (h : Asc l) (k : ∀ x ∈ l, x < n) : l.length ≤ n := by
  have := asc_lenF l 0 h (fun x hx => ⟨Nat.zero_le x, k x hx⟩) (Nat.zero_le n)
  omega
def least (l : List Nat) : List Nat := (usort l).filter fun x => !((usort l).any fun y => !(y == x) && sub y x)
def Brd (l : List Nat) : Prop := Asc l ∧ ∀ a ∈ l, ∀ b ∈ l, Sub a b → a = b
def Up (l : List Nat) (x : Nat) : Prop := ∃ t ∈ l, Sub t x
def up (l : List Nat) (x : Nat) : Bool := l.any fun t => sub t x
theorem up_iff {l : List Nat} {x : Nat} : up l x = true ↔ Up l x := by
  unfold up Up
  rw [List.any_eq_true]
  constructor
  · rintro ⟨t, h, k⟩; exact ⟨t, h, sub_iff.mp k⟩
  · rintro ⟨t, h, k⟩; exact ⟨t, h, sub_iff.mpr k⟩
theorem Up.mono {l : List Nat} {x y : Nat} (h : Up l x) (k : Sub x y) : Up l y := by
  obtain ⟨t, a, b⟩ := h
  exact ⟨t, a, b.trans k⟩
theorem least_mem {l : List Nat} {x : Nat} : x ∈ least l ↔ x ∈ l ∧ ∀ y ∈ l, Sub y x → y = x := by
  unfold least
  rw [List.mem_filter, usort_mem, Bool.not_eq_true', List.any_eq_false]
  refine and_congr_right fun _ => ?_
  constructor
  · intro h y hy k
    have := h y (usort_mem.mpr hy)
    rw [Bool.and_eq_true, sub_iff] at this
    refine Classical.byContradiction fun z => this ⟨?_, k⟩
    rw [Bool.not_eq_true', beq_eq_false_iff_ne]
    exact z
  · intro h y hy k
    rw [Bool.and_eq_true, sub_iff] at k
    have := h y (usort_mem.mp hy) k.2
    rw [this, beq_self_eq_true] at k
    cases k.1
theorem least_sub {l : List Nat} {x : Nat} (h : x ∈ least l) : x ∈ l := (least_mem.mp h).1
theorem least_brd (l : List Nat) : Brd (least l) :=
  ⟨List.Pairwise.filter _ (usort_asc l), fun a ha b hb k => (least_mem.mp hb).2 a (least_sub ha) k⟩
theorem least_below {l : List Nat} : ∀ (n x : Nat), x ≤ n → x ∈ l → ∃ t ∈ least l, Sub t x
  | n, x, hn, hx => by
    by_cases h : ∀ y ∈ l, Sub y x → y = x
    · exact ⟨x, least_mem.mpr ⟨hx, h⟩, Sub.refl x⟩
    · obtain ⟨y, hy⟩ := Classical.not_forall.mp h
      obtain ⟨h1, h2⟩ := Classical.not_imp.mp hy
      obtain ⟨h3, h4⟩ := Classical.not_imp.mp h2
      have h5 := h3.le
      obtain ⟨t, ht, k⟩ := least_below y y (Nat.le_refl y) h1
      exact ⟨t, ht, k.trans h3⟩
termination_by n x => x
decreasing_by omega
theorem least_up {l : List Nat} {x : Nat} : Up (least l) x ↔ Up l x := by
  constructor
  · rintro ⟨t, h, k⟩
    exact ⟨t, least_sub h, k⟩
  · rintro ⟨t, h, k⟩
    obtain ⟨u, hu, q⟩ := least_below t t (Nat.le_refl t) h
    exact ⟨u, hu, q.trans k⟩
/-- a border is known by what it makes true -/
theorem brd_sub {a b : List Nat} (ha : Brd a) (h : ∀ x, Up a x ↔ Up b x) {x : Nat} (hx : x ∈ a) : x ∈ b := by
  obtain ⟨u, hu, k⟩ := (h x).mp ⟨x, hx, Sub.refl x⟩
  obtain ⟨t, ht, q⟩ := (h u).mpr ⟨u, hu, Sub.refl u⟩
  have := ha.2 t ht x hx (q.trans k)
  subst this
  rwa [q.anti k]
theorem brd_eq {a b : List Nat} (ha : Brd a) (hb : Brd b) (h : ∀ x, Up a x ↔ Up b x) : a = b :=
  asc_eq ha.1 hb.1 fun _ => ⟨brd_sub ha h, brd_sub hb fun x => (h x).symm⟩
/-- .. of c things -/
theorem brd_eqc {c : Nat} {a b : List Nat} (ha : Brd a) (hb : Brd b) (la : ∀ x ∈ a, x < 2 ^ c) (lb : ∀ x ∈ b, x < 2 ^ c) (h : ∀ x, x < 2 ^ c → (Up a x ↔ Up b x)) : a = b := by
  have key : ∀ {l : List Nat} (_ : ∀ x ∈ l, x < 2 ^ c) (x : Nat), Up l x ↔ Up l (x &&& (2 ^ c - 1)) := by
    intro l hl x
    constructor
    · rintro ⟨t, ht, k⟩
      refine ⟨t, ht, fun i hi => ?_⟩
      rw [Nat.testBit_and, k i hi, Nat.testBit_two_pow_sub_one, decide_eq_true (bit_lt (hl t ht) hi)]
      rfl
    · intro k
      refine k.mono fun i hi => ?_
      rw [Nat.testBit_and, Bool.and_eq_true] at hi
      exact hi.1
  refine brd_eq ha hb fun x => ?_
  rw [key la, key lb]
  refine h _ ?_
  have := @Nat.and_le_right x (2 ^ c - 1)
  have := Nat.two_pow_pos c
  omega
theorem least_id {l : List Nat} (h : Brd l) : least l = l := brd_eq (least_brd l) h fun _ => least_up
theorem least_congr {a b : List Nat} (h : ∀ x, Up a x ↔ Up b x) : least a = least b := brd_eq (least_brd a) (least_brd b) fun x => by rw [least_up, least_up, h]
theorem brd_sublist {a b : List Nat} (h : Brd b) (k : a.Sublist b) : Brd a := ⟨List.Pairwise.sublist k h.1, fun x hx y hy => h.2 x (k.subset hx) y (k.subset hy)⟩
/-! ### crossing sets -/
def things (x : Nat) : List Nat := (List.range x.log2.succ).filter x.testBit
theorem things_mem {x i : Nat} : i ∈ things x ↔ x.testBit i = true := by
  unfold things
  rw [List.mem_filter, List.mem_range]
  refine ⟨fun h => h.2, fun h => ⟨?_, h⟩⟩
  have hx : x ≠ 0 := fun z => by rw [z, Nat.zero_testBit] at h; cases h
  refine bit_lt ?_ h
  exact (Nat.log2_lt hx).mp (Nat.lt_succ_self _)
def cstep (found : List Nat) (one : Nat) : List Nat := least (found.foldl (fun rows row => if meet row one = true then rows ++ [row] else rows ++ (things one).map fun thing => row ||| 2 ^ thing) [])
def crossing (sets : List Nat) : List Nat := sets.foldl cstep [0]
def Tr (sets : List Nat) (x : Nat) : Prop := ∀ s ∈ sets, Meets x s
theorem cfold_mem {one y : Nat} : ∀ (found acc : List Nat), y ∈ found.foldl (fun rows row => if meet row one = true then rows ++ [row] else rows ++ (things one).map fun thing => row ||| 2 ^ thing) acc ↔ y ∈ acc ∨ ∃ row ∈ found, if meet row one = true then y = row else ∃ i, one.testBit i = true ∧ y = row ||| 2 ^ i
  | [], acc => by simp
  | r :: found, acc => by
    rw [List.foldl_cons, cfold_mem found]
    simp only [List.mem_cons, exists_eq_or_imp]
    by_cases h : meet r one = true
    · rw [if_pos h, if_pos h, List.mem_append, List.mem_singleton, or_assoc]
    · rw [if_neg h, if_neg h, List.mem_append, List.mem_map, or_assoc]
      refine or_congr Iff.rfl (or_congr ?_ Iff.rfl)
      constructor
      · rintro ⟨i, hi, e⟩; exact ⟨i, things_mem.mp hi, e.symm⟩
      · rintro ⟨i, hi, e⟩; exact ⟨i, things_mem.mpr hi, e.symm⟩
theorem cstep_up {found : List Nat} {one x : Nat} : Up (cstep found one) x ↔ Up found x ∧ Meets x one := by
  unfold cstep
  rw [least_up]
  constructor
  · rintro ⟨t, h, k⟩
    obtain h | ⟨row, hr, h⟩ := (cfold_mem found []).mp h
    · cases h
    · by_cases z : meet row one = true
      · rw [if_pos z] at h
        subst h
        exact ⟨⟨t, hr, k⟩, (Meets.mono (meet_iff.mp z) k)⟩
      · rw [if_neg z] at h
        obtain ⟨i, hi, rfl⟩ := h
        obtain ⟨k1, k2⟩ := or_sub.mp k
        exact ⟨⟨row, hr, k1⟩, i, k2 i (by rw [pow_bit, decide_eq_true rfl]), hi⟩
  · rintro ⟨⟨row, hr, k⟩, m⟩
    by_cases z : meet row one = true
    · exact ⟨row, (cfold_mem found []).mpr (.inr ⟨row, hr, by rw [if_pos z]⟩), k⟩
    · obtain ⟨i, x1, x2⟩ := m
      refine ⟨row ||| 2 ^ i, (cfold_mem found []).mpr (.inr ⟨row, hr, by rw [if_neg z]; exact ⟨i, x2, rfl⟩⟩), or_sub.mpr ⟨k, fun j hj => ?_⟩⟩
      rw [pow_bit, decide_eq_true_eq] at hj
      subst hj
      exact x1
theorem cfold_up {x : Nat} : ∀ (sets found : List Nat), Up (sets.foldl cstep found) x ↔ Up found x ∧ Tr sets x
  | [], found => ⟨fun h => ⟨h, fun _ q => by cases q⟩, fun h => h.1⟩
  | s :: sets, found => by
    rw [List.foldl_cons, cfold_up sets, cstep_up, and_assoc]
    refine and_congr_right fun _ => ?_
    constructor
    · rintro ⟨a, b⟩ t ht
      rcases List.mem_cons.mp ht with rfl | ht
      · exact a
      · exact b t ht
    · intro h
      exact ⟨h s List.mem_cons_self, fun t ht => h t (List.mem_cons_of_mem _ ht)⟩
theorem crossing_up {sets : List Nat} {x : Nat} : Up (crossing sets) x ↔ Tr sets x := by
  unfold crossing
  rw [cfold_up]
  exact ⟨fun h => h.2, fun h => ⟨⟨0, List.mem_singleton.mpr rfl, zero_sub x⟩, h⟩⟩
theorem brd0 : Brd [0] := ⟨List.pairwise_singleton _ _, fun a ha b hb _ => by rw [List.mem_singleton.mp ha, List.mem_singleton.mp hb]⟩
theorem cfold_brd : ∀ (sets found : List Nat), Brd found → Brd (sets.foldl cstep found)
  | [], _, h => h
  | s :: sets, found, _ => cfold_brd sets (cstep found s) (least_brd _)
theorem crossing_brd (sets : List Nat) : Brd (crossing sets) := cfold_brd sets [0] brd0
theorem cstep_lt {c : Nat} {found : List Nat} {one : Nat} (h : ∀ x ∈ found, x < 2 ^ c) (k : one < 2 ^ c) : ∀ x ∈ cstep found one, x < 2 ^ c := fun x hx => by
  unfold cstep at hx
  obtain q | ⟨row, hr, q⟩ := (cfold_mem found []).mp (least_sub hx)
  · cases q
  · by_cases z : meet row one = true
    · rw [if_pos z] at q
      rw [q]; exact h row hr
    · rw [if_neg z] at q
      obtain ⟨i, hi, rfl⟩ := q
      exact Nat.or_lt_two_pow (h row hr) (Nat.pow_lt_pow_right (by omega) (bit_lt k hi))
theorem cfold_lt {c : Nat} : ∀ (sets found : List Nat), (∀ x ∈ found, x < 2 ^ c) → (∀ x ∈ sets, x < 2 ^ c) → ∀ x ∈ sets.foldl cstep found, x < 2 ^ c
  | [], _, h, _ => h
  | s :: sets, found, h, k => cfold_lt sets (cstep found s) (cstep_lt h (k s List.mem_cons_self)) fun x hx => k x (List.mem_cons_of_mem _ hx)
theorem crossing_lt {c : Nat} {sets : List Nat} (k : ∀ x ∈ sets, x < 2 ^ c) : ∀ x ∈ crossing sets, x < 2 ^ c :=
  cfold_lt sets [0] (fun x hx => by rw [List.mem_singleton.mp hx]; exact Nat.two_pow_pos c) k
theorem tr_mono {sets : List Nat} {x y : Nat} (h : Tr sets x) (k : Sub x y) : Tr sets y := fun s hs => (h s hs).mono k
/-- crossing twice -/
theorem tr_tr {c : Nat} {sets : List Nat} (k : ∀ x ∈ sets, x < 2 ^ c) {x : Nat} : Tr (crossing sets) x ↔ Up sets x := by
  constructor
  · intro h
    refine Classical.byContradiction fun z => ?_
    have t : Tr sets (co c x) := fun s hs => (meets_co (k s hs)).mpr (fun q => z ⟨s, hs, q⟩) |>.symm
    obtain ⟨s, hs, q⟩ := crossing_up.mpr t
    obtain ⟨i, a, b⟩ := h s hs
    have := q i b
    rw [co_bit, a, Bool.not_true, Bool.and_false] at this
    cases this
  · rintro ⟨t, ht, q⟩ s hs
    exact ((crossing_up.mp ⟨s, hs, Sub.refl s⟩ t ht).symm).mono q
theorem crossing_two {c : Nat} {sets : List Nat} (hb : Brd sets) (k : ∀ x ∈ sets, x < 2 ^ c) : crossing (crossing sets) = sets :=
  brd_eq (crossing_brd _) hb fun x => by rw [crossing_up, tr_tr k]
/-- what crosses, by what is true -/
theorem tr_up {sets : List Nat} {x : Nat} : Tr sets x ↔ ∀ y, Up sets y → Meets x y := by
  constructor
  · rintro h y ⟨t, ht, k⟩
    exact ((h t ht).symm.mono k).symm
  · intro h s hs
    exact h s ⟨s, hs, Sub.refl s⟩
theorem crossing_congr {a b : List Nat} (h : ∀ x, Up a x ↔ Up b x) : crossing a = crossing b :=
  brd_eq (crossing_brd _) (crossing_brd _) fun x => by
    rw [crossing_up, crossing_up, tr_up, tr_up]
    exact forall_congr' fun y => by rw [h]
theorem crossing_inj {c : Nat} {a b : List Nat} (ha : Brd a) (hb : Brd b) (la : ∀ x ∈ a, x < 2 ^ c) (lb : ∀ x ∈ b, x < 2 ^ c) (h : crossing a = crossing b) : a = b := by
  rw [← crossing_two ha la, ← crossing_two hb lb, h]
/-- sorted -/
def srt (l : List Nat) : List Nat := (isort (l.map fun (n : Nat) => (n : Int))).map Int.toNat
theorem srt_cast (l : List Nat) : (srt l).map (fun (n : Nat) => (n : Int)) = isort (l.map fun (n : Nat) => (n : Int)) := by
  unfold srt
  rw [List.map_map]
  refine (List.map_congr_left (g := id) fun x hx => ?_).trans (List.map_id _)
  obtain ⟨n, _, rfl⟩ := List.mem_map.mp ((isort_perm _).mem_iff.mp hx)
  rfl
theorem srt_perm (l : List Nat) : (srt l).Perm l := by
  have h := (isort_perm (l.map fun (n : Nat) => (n : Int))).map Int.toNat
  rw [List.map_map] at h
  exact h.trans (by rw [show (Int.toNat ∘ fun (n : Nat) => (n : Int)) = id from rfl, List.map_id])
theorem srt_mem {l : List Nat} {x : Nat} : x ∈ srt l ↔ x ∈ l := (srt_perm l).mem_iff
theorem srt_asc {l : List Nat} (h : l.Nodup) : Asc (srt l) := by
  have h1 : (srt l).Nodup := (srt_perm l).nodup_iff.mpr h
  have h2 := isort_sorted (l.map fun (n : Nat) => (n : Int))
  rw [← srt_cast, List.pairwise_map] at h2
  exact ((List.nodup_iff_pairwise_ne.mp h1).and h2).imp fun k => by
    have k1 := k.1
    have k2 := k.2
    omega
/-- the greatest false sets -/
def falses (c : Nat) (trues : List Nat) : List Nat := srt ((crossing trues).map (co c))
def Down (l : List Nat) (x : Nat) : Prop := ∃ t ∈ l, Sub x t
def down (l : List Nat) (x : Nat) : Bool := l.any fun t => sub x t
theorem down_iff {l : List Nat} {x : Nat} : down l x = true ↔ Down l x := by
  unfold down Down
  rw [List.any_eq_true]
  constructor
  · rintro ⟨t, h, k⟩; exact ⟨t, h, sub_iff.mp k⟩
  · rintro ⟨t, h, k⟩; exact ⟨t, h, sub_iff.mpr k⟩
theorem falses_mem {c : Nat} {trues : List Nat} {x : Nat} : x ∈ falses c trues ↔ ∃ s ∈ crossing trues, co c s = x := by
  unfold falses
  rw [srt_mem, List.mem_map]
theorem falses_lt {c : Nat} {trues : List Nat} : ∀ x ∈ falses c trues, x < 2 ^ c := fun x hx => by
  obtain ⟨s, _, rfl⟩ := falses_mem.mp hx
  exact co_lt c s
theorem falses_down {c : Nat} {trues : List Nat} (k : ∀ x ∈ trues, x < 2 ^ c) {x : Nat} (hx : x < 2 ^ c) : Down (falses c trues) x ↔ ¬ Up trues x := by
  rw [← tr_tr k]
  constructor
  · rintro ⟨f, hf, q⟩ t
    obtain ⟨s, hs, rfl⟩ := falses_mem.mp hf
    exact (sub_co hx).mp q (t s hs)
  · intro h
    refine Classical.byContradiction fun z => h fun s hs => Classical.byContradiction fun q => z ⟨co c s, falses_mem.mpr ⟨s, hs, rfl⟩, (sub_co hx).mpr q⟩
theorem co_inj {c a b : Nat} (ha : a < 2 ^ c) (hb : b < 2 ^ c) (h : co c a = co c b) : a = b := by rw [← co_co ha, ← co_co hb, h]
theorem falses_brd {c : Nat} {trues : List Nat} (k : ∀ x ∈ trues, x < 2 ^ c) : Brd (falses c trues) := by
  have l := crossing_lt k
  constructor
  · refine srt_asc ?_
    rw [List.nodup_iff_pairwise_ne, List.pairwise_map]
    have := (crossing_brd trues).1
    refine List.Pairwise.imp_of_mem (fun {a b} ha hb (q : a < b) e => ?_) this
    have := co_inj (l a ha) (l b hb) e
    omega
  · intro a ha b hb q
    obtain ⟨s, hs, rfl⟩ := falses_mem.mp ha
    obtain ⟨t, ht, rfl⟩ := falses_mem.mp hb
    have q2 := co_mono (c := c) q
    rw [co_co (l s hs), co_co (l t ht)] at q2
    rw [(crossing_brd trues).2 t ht s hs q2]
theorem falses_back {c : Nat} {trues : List Nat} (hb : Brd trues) (k : ∀ x ∈ trues, x < 2 ^ c) : crossing ((falses c trues).map (co c)) = trues := by
  have l := crossing_lt k
  have e : crossing ((falses c trues).map (co c)) = crossing (crossing trues) := crossing_congr fun x => by
    unfold Up
    constructor
    · rintro ⟨t, ht, q⟩
      obtain ⟨f, hf, rfl⟩ := List.mem_map.mp ht
      obtain ⟨s, hs, rfl⟩ := falses_mem.mp hf
      exact ⟨s, hs, by rwa [co_co (l s hs)] at q⟩
    · rintro ⟨t, ht, q⟩
      exact ⟨t, List.mem_map.mpr ⟨co c t, falses_mem.mpr ⟨t, ht, rfl⟩, co_co (l t ht)⟩, q⟩
  rw [e, crossing_two hb k]
theorem falses_inj {c : Nat} {a b : List Nat} (ha : Brd a) (hb : Brd b) (la : ∀ x ∈ a, x < 2 ^ c) (lb : ∀ x ∈ b, x < 2 ^ c) (h : falses c a = falses c b) : a = b := by
  rw [← falses_back ha la, ← falses_back hb lb, h]
/-! ### an asker for a border -/
structure Ask where
  t : List Nat
  f : List Nat
  asks : Nat
  here : Option Nat
  left : List Nat
  bit : Bool
def ans (t f : List Nat) (x : Nat) : Option Bool := if up t x = true then some true else if down f x = true then some false else none
def tried (h i : Nat) (b : Bool) : Nat := if b = true then sdf h (2 ^ i) else h ||| 2 ^ i
def goA (t f : List Nat) (asks : Nat) (b : Bool) : Nat → List Nat → Ask
  | h, [] => if b = true then ⟨srt (t ++ [h]), f, asks, none, [], b⟩ else ⟨t, srt (f ++ [h]), asks, none, [], b⟩
  | h, i :: r => match ans t f (tried h i b) with
    | none => ⟨t, f, asks, some h, i :: r, b⟩
    | some k => goA t f asks b (if k = b then tried h i b else h) r
theorem go_none {t f : List Nat} {asks : Nat} {b : Bool} {h i : Nat} {r : List Nat} (e : ans t f (tried h i b) = none) : goA t f asks b h (i :: r) = ⟨t, f, asks, some h, i :: r, b⟩ := by
  rw [goA, e]
theorem go_some {t f : List Nat} {asks : Nat} {b k : Bool} {h i : Nat} {r : List Nat} (e : ans t f (tried h i b) = some k) : goA t f asks b h (i :: r) = goA t f asks b (if k = b then tried h i b else h) r := by
  rw [goA, e]
def fo (c : Nat) (t f : List Nat) : Option Nat := (List.range (2 ^ c)).find? fun x => !(up t x) && !(down f x)
def stepA (c : Nat) (a : Ask) : Option Nat := match a.here with
  | some h => match a.left with
    | i :: _ => some (tried h i a.bit)
    | [] => none
  | none => fo c a.t a.f
def tellA (c : Nat) (a : Ask) (b : Bool) (x : Nat) : Ask := match a.here with
  | none => goA a.t a.f (a.asks + 1) b x (if b = true then things x else (List.range c).filter fun i => !(things x).contains i)
  | some h => goA a.t a.f (a.asks + 1) a.bit (if b = a.bit then x else h) a.left.tail
section
variable {c : Nat} {T : List Nat}
structure Known (c : Nat) (T t f : List Nat) : Prop where
  ta : Asc t
  ts : ∀ x ∈ t, x ∈ T
  fa : Asc f
  fs : ∀ x ∈ f, x ∈ falses c T
structure Here (c : Nat) (T t f : List Nat) (asks : Nat) (b : Bool) (h : Nat) (left : List Nat) : Prop where
  lt : h < 2 ^ c
  ok : up T h = b
  op : ans t f h = none
  ll : ∀ i ∈ left, i < c
  st : ∀ i, i < c → h.testBit i = b → i ∈ left ∨ up T (tried h i b) = !b
  few : asks + left.length ≤ (t.length + f.length) * (c + 1) + (c + 1)
  lc : left.length ≤ c
structure Inv (c : Nat) (T : List Nat) (a : Ask) : Prop where
  kn : Known c T a.t a.f
  no : a.here = none → a.asks ≤ (a.t.length + a.f.length) * (c + 1)
  yes : ∀ h, a.here = some h → Here c T a.t a.f a.asks a.bit h a.left ∧ ∃ i r, a.left = i :: r ∧ ans a.t a.f (tried h i a.bit) = none
theorem tried_lt {h i : Nat} {b : Bool} (l : h < 2 ^ c) (k : i < c) : tried h i b < 2 ^ c := by
  unfold tried
  by_cases z : b = true
  · rw [if_pos z]
    refine sub_lt (b := h) (fun j q => ?_) l
    rw [sdf_bit, Bool.and_eq_true] at q
    exact q.1
  · rw [if_neg z]
    exact Nat.or_lt_two_pow l (Nat.pow_lt_pow_right (by omega) k)
theorem tried_bit {h i j : Nat} {b : Bool} : (tried h i b).testBit j = if i = j then !b else h.testBit j := by
  unfold tried
  cases b
  · rw [if_neg (by decide), or_bit, pow_bit]
    by_cases z : i = j
    · rw [if_pos z, decide_eq_true z, Bool.or_true]; rfl
    · rw [if_neg z, decide_eq_false z, Bool.or_false]
  · rw [if_pos rfl, sdf_bit, pow_bit]
    by_cases z : i = j
    · rw [if_pos z, decide_eq_true z, Bool.not_true, Bool.and_false]
    · rw [if_neg z, decide_eq_false z, Bool.not_false, Bool.and_true]
theorem up_false {l : List Nat} {x : Nat} : up l x = false ↔ ¬ Up l x := by rw [← up_iff]; exact Bool.eq_false_iff
theorem down_false {l : List Nat} {x : Nat} : down l x = false ↔ ¬ Down l x := by rw [← down_iff]; exact Bool.eq_false_iff
theorem tried_mono {h i j : Nat} {b : Bool} (q : up T (tried h i b) = !b) : up T (tried (tried h j b) i b) = !b := by
  cases b
  · refine up_iff.mpr ((up_iff.mp q).mono fun k x => ?_)
    rw [tried_bit] at x ⊢
    rw [tried_bit]
    by_cases z : i = k
    · rw [if_pos z]; rfl
    · rw [if_neg z] at x ⊢
      by_cases y : j = k
      · rw [if_pos y]; rfl
      · rw [if_neg y]; exact x
  · refine up_false.mpr fun u => (up_false.mp q) (u.mono fun k x => ?_)
    rw [tried_bit] at x ⊢
    rw [tried_bit] at x
    by_cases z : i = k
    · rw [if_pos z] at x; cases x
    · rw [if_neg z] at x ⊢
      by_cases y : j = k
      · rw [if_pos y] at x; cases x
      · rw [if_neg y] at x; exact x
theorem ans_none {t f : List Nat} {x : Nat} : ans t f x = none ↔ ¬ Up t x ∧ ¬ Down f x := by
  unfold ans
  rw [← up_iff, ← down_iff]
  by_cases h : up t x = true
  · rw [if_pos h]
    exact ⟨fun z => (by cases z), fun z => (z.1 h).elim⟩
  · rw [if_neg h]
    by_cases k : down f x = true
    · rw [if_pos k]
      exact ⟨fun z => (by cases z), fun z => (z.2 k).elim⟩
    · rw [if_neg k]
      exact ⟨fun _ => ⟨h, k⟩, fun _ => rfl⟩
theorem up_of {t : List Nat} (ts : ∀ x ∈ t, x ∈ T) {x : Nat} (h : Up t x) : Up T x := by
  obtain ⟨u, hu, k⟩ := h
  exact ⟨u, ts u hu, k⟩
theorem not_up_of (kT : ∀ x ∈ T, x < 2 ^ c) {f : List Nat} (fs : ∀ x ∈ f, x ∈ falses c T) {x : Nat} (h : Down f x) : ¬ Up T x := by
  obtain ⟨u, hu, k⟩ := h
  have l := falses_lt u (fs u hu)
  exact (falses_down kT (sub_lt k l)).mp ⟨u, fs u hu, k⟩
/-- what is known is right -/
theorem ans_some (kT : ∀ x ∈ T, x < 2 ^ c) {t f : List Nat} (kn : Known c T t f) {x : Nat} {k : Bool} (h : ans t f x = some k) : up T x = k := by
  unfold ans at h
  by_cases z : up t x = true
  · rw [if_pos z] at h
    cases h
    exact up_iff.mpr (up_of kn.ts (up_iff.mp z))
  · rw [if_neg z] at h
    by_cases y : down f x = true
    · rw [if_pos y] at h
      cases h
      exact up_false.mpr (not_up_of kT kn.fs (down_iff.mp y))
    · rw [if_neg y] at h
      cases h
/-- .. and never what is tried by -/
theorem known_not {t f : List Nat} {h i : Nat} {b k : Bool} (op : ans t f h = none) (hk : ans t f (tried h i b) = some k) : k = !b := by
  obtain ⟨o1, o2⟩ := ans_none.mp op
  unfold ans at hk
  by_cases z : up t (tried h i b) = true
  · rw [if_pos z] at hk
    cases hk
    cases b
    · rfl
    · refine (o1 ((up_iff.mp z).mono fun j x => ?_)).elim
      rw [tried_bit] at x
      by_cases q : i = j
      · rw [if_pos q] at x; cases x
      · rw [if_neg q] at x; exact x
  · rw [if_neg z] at hk
    by_cases y : down f (tried h i b) = true
    · rw [if_pos y] at hk
      cases hk
      cases b
      · obtain ⟨u, hu, q⟩ := down_iff.mp y
        refine (o2 ⟨u, hu, Sub.trans (fun j x => ?_) q⟩).elim
        rw [tried_bit]
        by_cases w : i = j
        · rw [if_pos w]; rfl
        · rw [if_neg w]; exact x
      · rfl
    · rw [if_neg y] at hk
      cases hk
theorem add_true {t f : List Nat} {asks h : Nat} (kT : ∀ x ∈ T, x < 2 ^ c) (H : Here c T t f asks true h []) : h ∈ T := by
  obtain ⟨u, hu, k⟩ := up_iff.mp H.ok
  have : u = h := k.anti fun i x => by
    refine Classical.byContradiction fun z => ?_
    rcases H.st i (bit_lt H.lt x) x with q | q
    · cases q
    · refine (up_false.mp q) ⟨u, hu, fun j y => ?_⟩
      rw [tried_bit]
      by_cases w : i = j
      · subst w; exact (z y).elim
      · rw [if_neg w]; exact k j y
  rwa [← this]
theorem add_false {t f : List Nat} {asks h : Nat} (kT : ∀ x ∈ T, x < 2 ^ c) (H : Here c T t f asks false h []) : h ∈ falses c T := by
  obtain ⟨u, hu, k⟩ := (falses_down kT H.lt).mpr (up_false.mp H.ok)
  have lu := falses_lt u hu
  have : h = u := k.anti fun i x => by
    cases e : h.testBit i
    · rcases H.st i (bit_lt lu x) e with q | q
      · cases q
      · refine ((falses_down kT (tried_lt H.lt (bit_lt lu x))).mp ⟨u, hu, fun j y => ?_⟩ (up_iff.mp q)).elim
        rw [tried_bit] at y
        by_cases w : i = j
        · subst w; exact x
        · rw [if_neg w] at y; exact k j y
    · rfl
  rwa [this]
theorem go_inv (kT : ∀ x ∈ T, x < 2 ^ c) {t f : List Nat} {asks : Nat} {b : Bool} (kn : Known c T t f) : ∀ (left : List Nat) (h : Nat), Here c T t f asks b h left → Inv c T (goA t f asks b h left)
  | [], h, H => by
    have few := H.few
    obtain ⟨o1, o2⟩ := ans_none.mp H.op
    unfold goA
    by_cases z : b = true
    · subst z
      rw [if_pos rfl]
      have nd : (t ++ [h]).Nodup := List.nodup_append.mpr ⟨kn.ta.nodup, List.nodup_cons.mpr ⟨fun q => (by cases q), List.nodup_nil⟩, fun a ha b hb e => by
        rw [List.mem_singleton] at hb
        subst hb e
        exact o1 ⟨a, ha, Sub.refl a⟩⟩
      refine ⟨⟨srt_asc nd, fun x hx => ?_, kn.fa, kn.fs⟩, fun _ => ?_, fun h q => by cases q⟩
      · rcases List.mem_append.mp (srt_mem.mp hx) with q | q
        · exact kn.ts x q
        · rw [List.mem_singleton] at q
          subst q
          exact add_true kT H
      · show asks ≤ ((srt (t ++ [h])).length + f.length) * (c + 1)
        rw [(srt_perm _).length_eq, List.length_append, List.length_singleton]
        have e : (t.length + 1 + f.length) * (c + 1) = (t.length + f.length) * (c + 1) + (c + 1) := by
          rw [show t.length + 1 + f.length = (t.length + f.length) + 1 by omega, Nat.succ_mul]
        rw [e]
        exact few
    · have z : b = false := Bool.eq_false_iff.mpr z
      subst z
      rw [if_neg (by decide)]
      have nd : (f ++ [h]).Nodup := List.nodup_append.mpr ⟨kn.fa.nodup, List.nodup_cons.mpr ⟨fun q => (by cases q), List.nodup_nil⟩, fun a ha b hb e => by
        rw [List.mem_singleton] at hb
        subst hb e
        exact o2 ⟨a, ha, Sub.refl a⟩⟩
      refine ⟨⟨kn.ta, kn.ts, srt_asc nd, fun x hx => ?_⟩, fun _ => ?_, fun h q => by cases q⟩
      · rcases List.mem_append.mp (srt_mem.mp hx) with q | q
        · exact kn.fs x q
        · rw [List.mem_singleton] at q
          subst q
          exact add_false kT H
      · show asks ≤ (t.length + (srt (f ++ [h])).length) * (c + 1)
        rw [(srt_perm _).length_eq, List.length_append, List.length_singleton]
        have e : (t.length + (f.length + 1)) * (c + 1) = (t.length + f.length) * (c + 1) + (c + 1) := by
          rw [show t.length + (f.length + 1) = (t.length + f.length) + 1 by omega, Nat.succ_mul]
        rw [e]
        exact few
  | i :: r, h, H => by
    unfold goA
    cases e : ans t f (tried h i b) with
    | none => exact ⟨kn, fun q => (by cases q), fun h' q => (by cases q; exact ⟨H, i, r, rfl, e⟩)⟩
    | some k =>
      have k1 := known_not H.op e
      have k2 := ans_some kT kn e
      have : ¬ k = b := by rw [k1]; cases b <;> decide
      show Inv c T (goA t f asks b (if k = b then tried h i b else h) r)
      rw [if_neg this]
      refine go_inv kT kn r h ⟨H.lt, H.ok, H.op, fun j hj => H.ll j (List.mem_cons_of_mem _ hj), fun j l hj => ?_, ?_, ?_⟩
      · rcases H.st j l hj with q | q
        · rcases List.mem_cons.mp q with rfl | q
          · exact .inr (k2.trans k1)
          · exact .inl q
        · exact .inr q
      · have := H.few
        rw [List.length_cons] at this
        omega
      · have := H.lc
        rw [List.length_cons] at this
        omega
theorem fo_some {t f : List Nat} {x : Nat} (h : fo c t f = some x) : x < 2 ^ c ∧ ans t f x = none := by
  have h1 := List.find?_some h
  have h2 := List.mem_range.mp (List.mem_of_find?_eq_some h)
  rw [Bool.and_eq_true, Bool.not_eq_true', Bool.not_eq_true'] at h1
  exact ⟨h2, ans_none.mpr ⟨up_false.mp h1.1, down_false.mp h1.2⟩⟩
theorem fo_none {t f : List Nat} (h : fo c t f = none) {x : Nat} (hx : x < 2 ^ c) : Up t x ∨ Down f x := by
  have h1 := List.find?_eq_none.mp h x (List.mem_range.mpr hx)
  rw [Bool.and_eq_true, Bool.not_eq_true', Bool.not_eq_true'] at h1
  refine Classical.byContradiction fun z => h1 ⟨up_false.mpr fun q => z (.inl q), down_false.mpr fun q => z (.inr q)⟩
theorem things_len {x : Nat} (h : x < 2 ^ c) : (things x).length ≤ c := by
  refine asc_len (List.Pairwise.filter _ ?_) fun i hi => bit_lt h (things_mem.mp hi)
  exact List.pairwise_lt_range
theorem tell_inv (kT : ∀ x ∈ T, x < 2 ^ c) {a : Ask} (I : Inv c T a) {x : Nat} (h : stepA c a = some x) : x < 2 ^ c ∧ Inv c T (tellA c a (up T x) x) := by
  unfold stepA at h
  unfold tellA
  cases e : a.here with
  | none =>
    rw [e] at h
    obtain ⟨h1, h2⟩ := fo_some h
    have few := I.no e
    have lc : (if up T x = true then things x else (List.range c).filter fun i => !(things x).contains i).length ≤ c := by
      by_cases z : up T x = true
      · rw [if_pos z]
        exact things_len h1
      · rw [if_neg z]
        have := List.length_filter_le (fun i => !(things x).contains i) (List.range c)
        rwa [List.length_range] at this
    refine ⟨h1, go_inv kT I.kn _ _ ⟨h1, rfl, h2, fun i hi => ?_, fun i l hi => .inl ?_, ?_, lc⟩⟩
    · by_cases z : up T x = true
      · rw [if_pos z] at hi
        exact bit_lt h1 (things_mem.mp hi)
      · rw [if_neg z] at hi
        exact List.mem_range.mp (List.mem_filter.mp hi).1
    · by_cases z : up T x = true
      · rw [if_pos z]
        exact things_mem.mpr (hi.trans z)
      · rw [if_neg z]
        refine List.mem_filter.mpr ⟨List.mem_range.mpr l, ?_⟩
        rw [Bool.not_eq_true', ← Bool.not_eq_true, List.contains_iff_mem, things_mem, hi]
        exact z
    · by_cases z : up T x = true
      · rw [if_pos z]
        have := things_len h1
        omega
      · rw [if_neg z]
        have := List.length_filter_le (fun i => !(things x).contains i) (List.range c)
        rw [List.length_range] at this
        omega
  | some hh =>
    rw [e] at h
    obtain ⟨H, i, r, e2, op⟩ := I.yes hh e
    rw [e2] at h
    have hx : tried hh i a.bit = x := Option.some.inj h
    subst hx
    have hi : i < c := H.ll i (by rw [e2]; exact List.mem_cons_self)
    have lx : tried hh i a.bit < 2 ^ c := tried_lt H.lt hi
    have few := H.few
    have lc := H.lc
    rw [e2, List.length_cons] at few lc
    refine ⟨lx, ?_⟩
    show Inv c T (goA a.t a.f (a.asks + 1) a.bit (if up T (tried hh i a.bit) = a.bit then tried hh i a.bit else hh) a.left.tail)
    rw [e2, List.tail_cons]
    by_cases z : up T (tried hh i a.bit) = a.bit
    · rw [if_pos z]
      refine go_inv kT I.kn _ _ ⟨lx, z, op, fun j hj => H.ll j (by rw [e2]; exact List.mem_cons_of_mem _ hj), fun j l hj => ?_, by omega, by omega⟩
      rw [tried_bit] at hj
      by_cases w : i = j
      · rw [if_pos w] at hj
        cases hb : a.bit <;> rw [hb] at hj <;> cases hj
      · rw [if_neg w] at hj
        rcases H.st j l hj with q | q
        · rw [e2] at q
          rcases List.mem_cons.mp q with q | q
          · exact (w q.symm).elim
          · exact .inl q
        · exact .inr (tried_mono q)
    · rw [if_neg z]
      refine go_inv kT I.kn _ _ ⟨H.lt, H.ok, H.op, fun j hj => H.ll j (by rw [e2]; exact List.mem_cons_of_mem _ hj), fun j l hj => ?_, by omega, by omega⟩
      rcases H.st j l hj with q | q
      · rw [e2] at q
        rcases List.mem_cons.mp q with rfl | q
        · refine .inr ?_
          cases hb : a.bit <;> rw [hb] at z
          · exact Bool.not_eq_false _ |>.mp z
          · exact Bool.eq_false_iff.mpr z
        · exact .inl q
      · exact .inr q
/-- nothing more is asked: both borders are known -/
theorem end_known (kT : ∀ x ∈ T, x < 2 ^ c) (hT : Brd T) {a : Ask} (I : Inv c T a) (h : stepA c a = none) : a.here = none ∧ a.t = T ∧ a.f = falses c T ∧ a.asks ≤ (T.length + (falses c T).length) * (c + 1) := by
  unfold stepA at h
  cases e : a.here with
  | some hh =>
    rw [e] at h
    obtain ⟨_, i, r, e2, _⟩ := I.yes hh e
    rw [e2] at h
    cases h
  | none =>
    rw [e] at h
    have et : a.t = T := asc_eq I.kn.ta hT.1 fun x => ⟨I.kn.ts x, fun hx => by
      rcases fo_none h (kT x hx) with ⟨u, hu, q⟩ | q
      · have := hT.2 u (I.kn.ts u hu) x hx q
        rwa [← this]
      · exact (not_up_of kT I.kn.fs q ⟨x, hx, Sub.refl x⟩).elim⟩
    have ef : a.f = falses c T := asc_eq I.kn.fa (falses_brd kT).1 fun x => ⟨I.kn.fs x, fun hx => by
      have lx := falses_lt x hx
      rcases fo_none h lx with q | ⟨u, hu, q⟩
      · exact ((falses_down kT lx).mp ⟨x, hx, Sub.refl x⟩ (up_of I.kn.ts q)).elim
      · have := (falses_brd kT).2 x hx u (I.kn.fs u hu) q
        rwa [this]⟩
    have := I.no e
    rw [et, ef] at this
    exact ⟨rfl, et, ef, this⟩
def startA : Ask := ⟨[], [], 0, none, [], false⟩
theorem start_inv : Inv c T startA := ⟨⟨List.Pairwise.nil, fun x h => (by cases h), List.Pairwise.nil, fun x h => (by cases h)⟩, fun _ => Nat.zero_le _, fun h q => (by cases q)⟩
/-- the answers, one behind the other -/
inductive Run (c : Nat) (T : List Nat) : Nat → Ask → Ask → Prop
  | done {a : Ask} : stepA c a = none → Run c T 0 a a
  | more {n : Nat} {a b : Ask} {x : Nat} : stepA c a = some x → x < 2 ^ c → Run c T n (tellA c a (up T x) x) b → Run c T (n + 1) a b
theorem go_asks {t f : List Nat} {asks : Nat} {b : Bool} : ∀ (left : List Nat) (h : Nat), (goA t f asks b h left).asks = asks
  | [], h => by unfold goA; split <;> rfl
  | i :: r, h => by
    unfold goA
    cases ans t f (tried h i b) with
    | none => rfl
    | some k => exact go_asks r _
theorem tell_asks (a : Ask) (b : Bool) (x : Nat) : (tellA c a b x).asks = a.asks + 1 := by
  unfold tellA
  cases a.here <;> exact go_asks _ _
theorem inv_asks (kT : ∀ x ∈ T, x < 2 ^ c) (hT : Brd T) {a : Ask} (I : Inv c T a) : a.asks ≤ (2 ^ c + 2 ^ c) * (c + 1) + (c + 1) := by
  have l1 : a.t.length ≤ 2 ^ c := asc_len I.kn.ta fun x hx => kT x (I.kn.ts x hx)
  have l2 : a.f.length ≤ 2 ^ c := asc_len I.kn.fa fun x hx => falses_lt x (I.kn.fs x hx)
  have l3 : (a.t.length + a.f.length) * (c + 1) ≤ (2 ^ c + 2 ^ c) * (c + 1) := Nat.mul_le_mul_right _ (by omega)
  cases e : a.here with
  | none => have := I.no e; omega
  | some h => have := (I.yes h e).1.few; omega
theorem run_end (kT : ∀ x ∈ T, x < 2 ^ c) (hT : Brd T) : ∀ (m : Nat) (a : Ask), Inv c T a → (2 ^ c + 2 ^ c) * (c + 1) + (c + 1) + 1 ≤ m + a.asks → ∃ n b, Run c T n a b ∧ Inv c T b ∧ stepA c b = none ∧ n ≤ m
  | 0, a, I, h => by
    have := inv_asks kT hT I
    omega
  | m + 1, a, I, h => by
    cases e : stepA c a with
    | none => exact ⟨0, a, .done e, I, e, Nat.zero_le _⟩
    | some x =>
      obtain ⟨lx, I2⟩ := tell_inv kT I e
      obtain ⟨n, b, r, j, s, l⟩ := run_end kT hT m _ I2 (by rw [tell_asks]; omega)
      exact ⟨n + 1, b, .more e lx r, j, s, by omega⟩
end
end Bd
/-! ### sets as data -/
namespace Bd
open DL
theorem inv_n (b : Nat) : invD (ni b) = pure (.int (PySem.Builtin.bitNot (b : Int))) := Eq.trans rfl rfl
theorem and_inv (a b : Nat) : andD (ni a) (.int (PySem.Builtin.bitNot (b : Int))) = pure (ni (sdf a b)) := by
  show (pure (.int (PySem.Builtin.bitAnd (a : Int) (PySem.Builtin.bitNot (b : Int)))) : M D) = _
  have e : PySem.Builtin.bitAnd (a : Int) (PySem.Builtin.bitNot (b : Int)) = ((sdf a b : Nat) : Int) := by
    unfold PySem.Builtin.bitAnd PySem.Builtin.bitNot
    have h1 : decide (0 ≤ (a : Int)) = true := decide_eq_true (by omega)
    have h2 : decide (0 ≤ -(b : Int) - 1) = false := decide_eq_false (by omega)
    have e2 : (-(-(b : Int) - 1) - 1).toNat = b := by omega
    rw [h1, h2]
    show (a : Int) - (((a : Int).toNat &&& (-(-(b : Int) - 1) - 1).toNat : Nat) : Int) = _
    rw [e2, Int.toNat_natCast]
    have e3 := (or_xor_and a (a &&& b)).2
    have e4 : a &&& (a &&& b) = a &&& b := by rw [← Nat.and_assoc, Nat.and_self]
    rw [e4] at e3
    unfold sdf
    omega
  rw [e]
  rfl
theorem sorted_en (l : List Nat) : sortedD (.lst (en l)) = pure (.lst (en (srt l))) := by
  rw [en_ints, sorted_ints, ← srt_cast, ← en_ints]
theorem sorted_ten (l : List Nat) : sortedD (.tup (en l)) = pure (.lst (en (srt l))) := by
  rw [en_ints]
  show (match dints ((l.map fun (n : Nat) => (n : Int)).map .int) with
    | some ns => (pure (.lst ((isort ns).map D.int)) : M D)
    | none => _) = _
  rw [ints_map]
  show pure (D.lst ((isort (l.map fun (n : Nat) => (n : Int))).map D.int)) = _
  rw [← srt_cast, ← en_ints]
theorem ssort_len {l : List Nat} (h : l.length ≤ 4000) : ssortD (.lst (en l)) = pure (.lst (en (usort l))) := by
  rw [en_ints]
  show (match dints ((l.map fun (n : Nat) => (n : Int)).map .int) with
    | some ns => if ns.length ≤ 4000 then (pure (.lst ((ssort ns).map D.int)) : M D) else stuck
    | none => stuck) = _
  rw [ints_map]
  show (if (l.map fun (n : Nat) => (n : Int)).length ≤ 4000 then (pure (.lst ((ssort (l.map fun (n : Nat) => (n : Int))).map D.int)) : M D) else stuck) = _
  rw [if_pos (by rw [List.length_map]; exact h), ← usort_cast, ← en_ints]
theorem ssort_ten {l : List Nat} (h : l.length ≤ 4000) : ssortD (.tup (en l)) = pure (.lst (en (usort l))) := ssort_len h
end Bd
namespace Bd
open DL
theorem usort_len (l : List Nat) : (usort l).length ≤ l.length := by
  unfold usort ssort
  rw [List.length_map, (isort_perm _).length_eq]
  have := uniqI_len (l.map fun (n : Nat) => (n : Int))
  rwa [List.length_map] at this
theorem least_len (l : List Nat) : (least l).length ≤ l.length := Nat.le_trans (List.length_filter_le _ _) (usort_len l)
theorem pow8 {c : Nat} (h : c ≤ 8) : 2 ^ c ≤ 256 := Nat.le_trans (Nat.pow_le_pow_right (by omega) h) (by decide)
theorem brd_len {c : Nat} {l : List Nat} (h : Asc l) (k : ∀ x ∈ l, x < 2 ^ c) (c8 : c ≤ 8) : l.length ≤ 256 := Nat.le_trans (asc_len h k) (pow8 c8)
end Bd
namespace Bd
open DL
theorem upL {t : List Nat} {x : Nat} (h : t.length ≤ 2 ^ 24) : lcM (pure (en t)) nm (p1 fun _ => (pure true : M Bool)) (p1 fun v => (invD (ni x) >>= fun y => andD v y >>= fun z => eqB z (D.int 0) >>= fun b => (pure (D.bl b) : M D))) = pure (.lst ((t.map fun y => sub y x).map .bl)) := by
  refine lcM_bool (xs := t) (fun y => sub y x) rfl h fun y _ => ?_
  simp only [nm_ap, p1_ap, pure_bind', if_true, inv_n, and_inv, c0, eq_nn]
  rfl
theorem downL {t : List Nat} {x : Nat} (h : t.length ≤ 2 ^ 24) : lcM (pure (en t)) nm (p1 fun _ => (pure true : M Bool)) (p1 fun v => (invD v >>= fun y => andD (ni x) y >>= fun z => eqB z (D.int 0) >>= fun b => (pure (D.bl b) : M D))) = pure (.lst ((t.map fun y => sub x y).map .bl)) := by
  refine lcM_bool (xs := t) (fun y => sub x y) rfl h fun y _ => ?_
  simp only [nm_ap, p1_ap, pure_bind', if_true, inv_n, and_inv, c0, eq_nn]
  rfl
theorem coL {t : List Nat} {c : Nat} (h : t.length ≤ 2 ^ 24) : lcM (pure (en t)) nm (p1 fun _ => (pure true : M Bool)) (p1 fun v => (invD v >>= fun y => andD (ni (2 ^ c - 1)) y)) = pure (.lst (en (t.map (co c)))) := by
  refine lcM_enm (xs := t) (co c) rfl h fun y _ => ?_
  simp only [nm_ap, p1_ap, pure_bind', if_true, inv_n, and_inv]
  rfl
end Bd
/-! ### an object's cell -/
namespace DL
section
variable {β : Type} {k c : Nat} {s : Store} {fs : List (PySem.Str × D)} {f : PySem.Str} {d : D} {C : Cell}
theorem getC_at (hk : k < s.length) : getC k (s.set k C) = .ok C (s.set k C) := by
  unfold getC
  rw [List.getElem?_set_self hk]
theorem insD_at (hk : k < s.length) : insD c (.ref k) (s.set k (.ins c fs)) = .ok (k, fs) (s.set k (.ins c fs)) := by
  show (getC k >>= _) _ = _
  rw [bind_ok (getC_at hk)]
  show (if c = c then (pure (k, fs) : M _) else stuck) _ = _
  rw [if_pos rfl]
  rfl
theorem fld_at (hk : k < s.length) (h : fs.lookup f = some d) : fldD c f (.ref k) (s.set k (.ins c fs)) = .ok d (s.set k (.ins c fs)) := by
  unfold fldD
  rw [bind_ok (insD_at hk)]
  show lookM f fs _ = _
  unfold lookM
  rw [h]
  rfl
theorem setF_at (hk : k < s.length) (h : fs.length < 1000) : setF c f (.ref k) d (s.set k (.ins c fs)) = .ok () (s.set k (.ins c (putD f d fs))) := by
  unfold setF
  rw [bind_ok (insD_at hk)]
  show (if fs.length < 1000 then setC k (.ins c (putD f d fs)) else stuck) _ = _
  rw [if_pos h]
  show Res.ok () ((s.set k _).set k _) = _
  rw [List.set_set]
theorem mth_at {fm : PySem.Str} {ms : M (List D)} {FM : List D → M D} (hk : k < s.length) (h : fs.lookup fm = none) : mthM c fm (pure (.ref k)) ms FM (s.set k (.ins c fs)) = (ms >>= fun vs => FM (.ref k :: vs)) (s.set k (.ins c fs)) := by
  unfold mthM
  rw [pure_bind', bind_ok (insD_at hk)]
  show (noF fm fs >>= _) _ = _
  unfold noF
  rw [h]
  rfl
theorem bind_at {α β : Type} {m m' : M α} {s : Store} (h : m s = m' s) (g : α → M β) : (m >>= g) s = (m' >>= g) s := by rw [bind_run, bind_run, h]
theorem lcM_at {β : Type} {mi mi' : M (List D)} {u : D → M (List D)} {mt : List D → M Bool} {me : List D → M D} {s : Store} (h : mi s = mi' s) (g : D → M β) : (lcM mi u mt me >>= g) s = (lcM mi' u mt me >>= g) s := bind_at (bind_at h _) g
theorem wp_at {β : Type} {m m' : M β} {s s' : Store} {Q : β → Store → Prop} (h : m s = m' s') : Wp m s Q = Wp m' s' Q := propext ⟨fun q => ⟨by rw [← h]; exact q.run⟩, fun q => ⟨by rw [h]; exact q.run⟩⟩
theorem set_len {C : Cell} : (s.set k C).length = s.length := List.length_set
end
end DL
namespace DL
theorem set_end (s : Store) (C D' : Cell) : (s ++ [C]).set s.length D' = s ++ [D'] := by
  rw [List.set_append_right _ _ (Nat.le_refl _), Nat.sub_self]
  rfl
theorem end_lt (s : Store) (C : Cell) : s.length < (s ++ [C]).length := by rw [List.length_append, List.length_singleton]; omega
/-- a new object -/
theorem mk_at {ci : Nat} {vs : List D} {FM : List D → M D} {s : Store} {Q : D → Store → Prop} (h : Wp (FM (.ref s.length :: vs)) ((s ++ [Cell.ins ci []]).set s.length (Cell.ins ci [])) fun d s' => d = .non ∧ Q (.ref s.length) s') : Wp (mkM ci (pure vs) FM) s Q := by
  unfold mkM
  rw [pure_bind']
  refine wp_go (a := s.length) (s' := s ++ [Cell.ins ci []]) rfl ?_
  rw [set_end] at h
  refine wp_bind (wp_imp h ?_)
  rintro d s' ⟨rfl, q⟩
  exact wp_pure q
end DL
namespace K79
open PySem PySem.Spec PyProof.Rows L2 DL
def topS (i : Nat) : Stmt := PySem.Challenge.pw_askcraft_k79_whole_borders_in_order.main.body.getD i (.Pass ⟨0, 0, 0, 0⟩)
structure Txt (p : Pg) : Prop where
  b_abs : p.mg "abs" = none
  b_all : p.mg "all" = none
  b_any : p.mg "any" = none
  b_int : p.mg "int" = none
  b_len : p.mg "len" = none
  b_list : p.mg "list" = none
  b_range : p.mg "range" = none
  b_set : p.mg "set" = none
  b_sorted : p.mg "sorted" = none
  b_tuple : p.mg "tuple" = none
  c_MAX_THINGS : ∃ t, p.mg "MAX_THINGS" = some (.int 8 t)
  k_BorderAsker : ClsD p 0 ["count", "trues", "falses", "asks", "here", "left", "bit"]
abbrev s_check_count : Stmt := topS 6
theorem sc_check_count : FnScope ["count"] ["count"] (defScope s_check_count) := ⟨rfl, rfl, rfl, by decide +kernel, rfl, by decide +kernel, by decide +kernel⟩
def b_check_count : List D → M (Out Unit Unit) := p1 (fun a1 => (((chainM (pure (D.int 1) : M D) (pure (a1) : M D) leB (pure (D.int 8) : M D) leB) >>= fun b2 => (pure (!b2) : M Bool)) >>= fun b4 => (if b4 = true then (stuck : M (Out (Unit) _)) else (pure (.nx ()))) >>= seqO fun s3 => (pure (.nx ()))))
def m_check_count (ds : List D) : M D := runF (b_check_count ds)
theorem o_check_count {p : Pg} (T : Txt p) {f : Addr} {fd : FuncData} (F : Fun p.K "check_count" "check_count" s_check_count f fd)  : FnOk p.P p.w p.K p.mg p.base (L2.CX p.P p.w) 1 f fd ["count"] (spD p [.v] m_check_count) :=
  fnok_of (k := 0) (N := ["count"]) (body := b_check_count) (shN := fun _ => [.un]) (shB := fun _ => []) F sc_check_count rfl (q1 (P := fun ds m => SB _ (argE _ ds ++ _) _ m _ _) (fun a1 => (show SB _ [.sh (a1)] _ _ _ _ from (sb_if (J := Unit) (shJ := fun s3 => [.sh (a1)]) (et_not (et_chain c_le c_le (el_of ee_int) (el_of (ev 0)) (el_of (eg T.c_MAX_THINGS)))) sb_never (sb_nil (.eq Le.nil)) fun s3 => (show SB _ [.sh (a1)] _ _ _ _ from (sb_nil (.un Le.nil)))))))
abbrev s_check_sets : Stmt := topS 7
theorem sc_check_sets : FnScope ["count", "sets", "one"] ["count", "sets"] (defScope s_check_sets) := ⟨rfl, rfl, rfl, by decide +kernel, rfl, by decide +kernel, by decide +kernel⟩
def b_check_sets : List D → M (Out Unit Unit) := p2 (fun a5 a6 => ((((pure (a5) : M D) >>= fun x7 => (pure [] : M (List D)) >>= fun xs8 => pure (x7 :: xs8)) >>= m_check_count) >>= fun u21 => (((((pure (a6) : M D) >>= listD) >>= fun x9 => ((pure (a6) : M D) >>= ssortD) >>= fun x10 => neB x9 x10) >>= fun b18 => if b18 = true then (pure true : M Bool) else ((((lcM ((pure (a6) : M D) >>= items) nm (p1 (fun v11 => (pure true : M Bool))) (p1 (fun v11 => ((chainM (pure (D.int 0) : M D) (pure (v11) : M D) leB ((pure (D.int 1) : M D) >>= fun x12 => (pure (a5) : M D) >>= fun x13 => shlD x12 x13) ltB) >>= fun b14 => (pure (D.bl b14) : M D))))) >>= allD) >>= truth) >>= fun b17 => (pure (!b17) : M Bool))) >>= fun b20 => (if b20 = true then (stuck : M (Out (Unit) _)) else (pure (.nx ()))) >>= seqO fun s19 => (pure (.nx ())))))
def m_check_sets (ds : List D) : M D := runF (b_check_sets ds)
theorem o_check_sets {p : Pg} (T : Txt p) {f : Addr} {fd : FuncData} (F : Fun p.K "check_sets" "check_sets" s_check_sets f fd) (h_check_count : Fnc p 1 "check_count" [.v] m_check_count) : FnOk p.P p.w p.K p.mg p.base (L2.CX p.P p.w) 2 f fd ["count", "sets"] (spD p [.v, .v] m_check_sets) :=
  fnok_of (k := 1) (N := ["count", "sets", "one"]) (body := b_check_sets) (shN := fun _ => [.un, .un, .un]) (shB := fun _ => []) F sc_check_sets rfl (q2 (P := fun ds m => SB _ (argE _ ds ++ _) _ m _ _) (fun a5 a6 => (show SB _ [.sh (a5), .sh (a6), .un] _ _ _ _ from (s_expr (el_of (xcall h_check_count (av (ev 0) eak_nil))) (show SB _ [.sh (a5), .sh (a6), .un] _ _ _ _ from (sb_if (J := Unit) (shJ := fun s19 => [.sh (a5), .sh (a6), .un]) (et_w (ew_or (tcmp c_ne (el_new (en_listc (b_list T.b_list) (el_of (ev 1)))) (el_new (en_sset (b_sorted T.b_sorted) (b_set T.b_set) (el_of (ev 1))))) (ew_or1 (et_not (ttr (el_of (ee_all (b_all T.b_all) (el_new (en_comp (c_lc sc_check_sets.nd [("one", 2)] (ei_read (el_of (ev 1))) (tn 2 sc_check_sets.nd) nm_pure nm_len (q1 (P := fun ds m => ETs (Sta.blk _ _) (setE (wipeE _ _) _ ds) _ m) (fun v11 => (show ETs _ [.sh (a5), .sh (a6), .sh (v11)] _ _ from ets_nil))) (q1 (P := fun ds m => EE (Sta.blk _ _) (setE (wipeE _ _) _ ds) _ m) (fun v11 => (show EE _ [.sh (a5), .sh (a6), .sh (v11)] _ _ from (ee_chain c_le c_lt (el_of ee_int) (el_of (ev 2)) (el_of (ee_shl (el_of ee_int) (el_of (ev 0)))))))))))))))))) sb_never (sb_nil (.eq (.eq (.un Le.nil)))) fun s19 => (show SB _ [.sh (a5), .sh (a6), .un] _ _ _ _ from (sb_nil (.un (.un (.un Le.nil)))))))))))
abbrev s_things_in : Stmt := topS 8
theorem sc_things_in : FnScope ["one", "found", "thing"] ["one"] (defScope s_things_in) := ⟨rfl, rfl, rfl, by decide +kernel, rfl, by decide +kernel, by decide +kernel⟩
def b_things_in : List D → M (Out Unit Unit) := p1 (fun a22 => (((pure [] : M (List D)) >>= mkL) >>= fun z23 => ((pure (D.int 0) : M D) >>= fun z24 => (whileL (fun (s25 : D × D) => (((pure (a22) : M D) >>= fun x26 => (pure (s25.2) : M D) >>= fun x27 => shrD x26 x27) >>= fun x28 => (pure (D.int 0) : M D) >>= fun x29 => gtB x28 x29)) (fun s25 => (((((pure (a22) : M D) >>= fun x30 => (pure (s25.2) : M D) >>= fun x31 => shrD x30 x31) >>= fun x32 => (pure (D.int 1) : M D) >>= fun x33 => andD x32 x33) >>= truth) >>= fun b40 => (if b40 = true then ((lstD s25.1 >>= fun ds37 => (pure (s25.2) : M D) >>= fun x36 => appL ds37 x36 >>= fun z35 => (pure (.nx (z35)))) : M (Out (D) _)) else (pure (.nx (s25.1)))) >>= seqO fun s34 => ((pure (D.int 1) : M D) >>= fun x38 => addI s25.2 x38 >>= fun z39 => (pure (.nx (s34, z39)))))) 1000 (z23, z24) >>= seqO fun s25 => ((pure (s25.1) : M D) >>= fun x41 => pure (.rt x41))))))
def m_things_in (ds : List D) : M D := runF (b_things_in ds)
theorem o_things_in {p : Pg} (T : Txt p) {f : Addr} {fd : FuncData} (F : Fun p.K "things_in" "things_in" s_things_in f fd)  : FnOk p.P p.w p.K p.mg p.base (L2.CX p.P p.w) 1 f fd ["one"] (spD p [.v] m_things_in) :=
  fnok_of (k := 0) (N := ["one", "found", "thing"]) (body := b_things_in) (shN := fun _ => [.un, .un, .un]) (shB := fun _ => []) F sc_things_in rfl (q1 (P := fun ds m => SB _ (argE _ ds ++ _) _ m _ _) (fun a22 => (show SB _ [.sh (a22), .un, .un] _ _ _ _ from (s_setN 1 sc_things_in.nd (en_lst ea_nil) (fun z23 => (show SB _ [.sh (a22), .ow (z23), .un] _ _ _ _ from (s_set 2 sc_things_in.nd ee_int (fun z24 => (show SB _ [.sh (a22), .ow (z23), .sh (z24)] _ _ _ _ from (sb_while (Z := D × D) (sh := fun s25 => [.sh (a22), .ow (s25.1), .sh (s25.2)]) (fun s25 => (show ET _ [.sh (a22), .ow (s25.1), .sh (s25.2)] _ _ from (tcmp c_gt (el_of (ee_shr (el_of (ev 0)) (el_of (ev 2)))) (el_of ee_int)))) (.eq (.eq (.eq Le.nil))) (fun s25 => (show SB _ [.sh (a22), .ow (s25.1), .sh (s25.2)] _ _ _ _ from (sb_if (J := D) (shJ := fun s34 => [.sh (a22), .ow (s34), .sh (s25.2)]) (ttr (el_of (ee_and (el_of (ee_shr (el_of (ev 0)) (el_of (ev 2)))) (el_of ee_int)))) (s_append 1 (ev 2) fun z35 => (show SB _ [.sh (a22), .ow (z35), .sh (s25.2)] _ _ _ _ from (sb_nil (.eq (.eq (.eq Le.nil)))))) (sb_nil (.eq (.eq (.eq Le.nil)))) fun s34 => (show SB _ [.sh (a22), .ow (s34), .sh (s25.2)] _ _ _ _ from (s_aug 2 sc_things_in.nd ee_int fun z39 => (show SB _ [.sh (a22), .ow (s34), .sh (z39)] _ _ _ _ from (sb_nil (.eq (.eq (.eq Le.nil)))))))))) fun s25 => (show SB _ [.sh (a22), .ow (s25.1), .sh (s25.2)] _ _ _ _ from (sb_freeze 1 (by rfl) (show SB _ [.sh (a22), .sh (s25.1), .sh (s25.2)] _ _ _ _ from (sb_ret (ev 1)))))))))))))))
abbrev s_least_of : Stmt := topS 9
theorem sc_least_of : FnScope ["sets", "rows", "one", "other"] ["sets"] (defScope s_least_of) := ⟨rfl, rfl, rfl, by decide +kernel, rfl, by decide +kernel, by decide +kernel⟩
def b_least_of : List D → M (Out Unit Unit) := p1 (fun a42 => (((pure (a42) : M D) >>= ssortD) >>= fun z43 => (((lcM ((pure (z43) : M D) >>= items) nm (p1 (fun v44 => ((((lcM ((pure (z43) : M D) >>= items) nm (p1 (fun v45 => (pure true : M Bool))) (p1 (fun v45 => (((pure (v45) : M D) >>= fun x49 => (pure (v44) : M D) >>= fun x50 => neB x49 x50 >>= fun b48 => (pure (D.bl b48) : M D)) >>= fun x60 => truth x60 >>= fun b61 => if b61 = true then (((pure (v45) : M D) >>= fun x58 => ((pure (v44) : M D) >>= invD) >>= fun x59 => andD x58 x59) >>= fun x56 => (pure (D.int 0) : M D) >>= fun x57 => eqB x56 x57 >>= fun b55 => (pure (D.bl b55) : M D)) else (pure x60 : M D))))) >>= anyD) >>= truth) >>= fun b62 => (pure (!b62) : M Bool)))) (p1 (fun v44 => (pure (v44) : M D)))) >>= tupleD) >>= fun x63 => pure (.rt x63))))
def m_least_of (ds : List D) : M D := runF (b_least_of ds)
theorem o_least_of {p : Pg} (T : Txt p) {f : Addr} {fd : FuncData} (F : Fun p.K "least_of" "least_of" s_least_of f fd)  : FnOk p.P p.w p.K p.mg p.base (L2.CX p.P p.w) 1 f fd ["sets"] (spD p [.v] m_least_of) :=
  fnok_of (k := 0) (N := ["sets", "rows", "one", "other"]) (body := b_least_of) (shN := fun _ => [.un, .un, .un, .un]) (shB := fun _ => []) F sc_least_of rfl (q1 (P := fun ds m => SB _ (argE _ ds ++ _) _ m _ _) (fun a42 => (show SB _ [.sh (a42), .un, .un, .un] _ _ _ _ from (s_set 1 sc_least_of.nd (ee_new (en_sset (b_sorted T.b_sorted) (b_set T.b_set) (el_of (ev 0)))) (fun z43 => (show SB _ [.sh (a42), .sh (z43), .un, .un] _ _ _ _ from (sb_ret (ee_tuplec (b_tuple T.b_tuple) (el_new (en_comp (c_lc sc_least_of.nd [("one", 2)] (ei_read (el_of (ev 1))) (tn 2 sc_least_of.nd) nm_pure nm_len (q1 (P := fun ds m => ETs (Sta.blk _ _) (setE (wipeE _ _) _ ds) _ m) (fun v44 => (show ETs _ [.sh (a42), .sh (z43), .sh (v44), .un] _ _ from (ets_one (et_not (ttr (el_of (ee_any (b_any T.b_any) (el_new (en_comp (c_lc sc_least_of.nd [("other", 3)] (ei_read (el_of (ev 1))) (tn 3 sc_least_of.nd) nm_pure nm_len (q1 (P := fun ds m => ETs (Sta.blk _ _) (setE (wipeE _ _) _ ds) _ m) (fun v45 => (show ETs _ [.sh (a42), .sh (z43), .sh (v44), .sh (v45)] _ _ from ets_nil))) (q1 (P := fun ds m => EE (Sta.blk _ _) (setE (wipeE _ _) _ ds) _ m) (fun v45 => (show EE _ [.sh (a42), .sh (z43), .sh (v44), .sh (v45)] _ _ from (ee_and2 (xcmp c_ne (el_of (ev 3)) (el_of (ev 2))) (ee_one (xcmp c_eq (el_of (ee_and (el_of (ev 3)) (el_of (ee_inv (el_of (ev 2)))))) (el_of ee_int)))))))))))))))))) (q1 (P := fun ds m => EE (Sta.blk _ _) (setE (wipeE _ _) _ ds) _ m) (fun v44 => (show EE _ [.sh (a42), .sh (z43), .sh (v44), .un] _ _ from (ev 2)))))))))))))))
abbrev s_check_border : Stmt := topS 10
theorem sc_check_border : FnScope ["count", "sets"] ["count", "sets"] (defScope s_check_border) := ⟨rfl, rfl, rfl, by decide +kernel, rfl, by decide +kernel, by decide +kernel⟩
def b_check_border : List D → M (Out Unit Unit) := p2 (fun a64 a65 => ((((pure (a64) : M D) >>= fun x68 => ((pure (a65) : M D) >>= fun x66 => (pure [] : M (List D)) >>= fun xs67 => pure (x66 :: xs67)) >>= fun xs69 => pure (x68 :: xs69)) >>= m_check_sets) >>= fun u76 => (((((pure (a65) : M D) >>= fun x70 => (pure [] : M (List D)) >>= fun xs71 => pure (x70 :: xs71)) >>= m_least_of) >>= fun x72 => ((pure (a65) : M D) >>= tupleD) >>= fun x73 => neB x72 x73) >>= fun b75 => (if b75 = true then (stuck : M (Out (Unit) _)) else (pure (.nx ()))) >>= seqO fun s74 => (pure (.nx ())))))
def m_check_border (ds : List D) : M D := runF (b_check_border ds)
theorem o_check_border {p : Pg} (T : Txt p) {f : Addr} {fd : FuncData} (F : Fun p.K "check_border" "check_border" s_check_border f fd) (h_check_sets : Fnc p 2 "check_sets" [.v, .v] m_check_sets) (h_least_of : Fnc p 1 "least_of" [.v] m_least_of) : FnOk p.P p.w p.K p.mg p.base (L2.CX p.P p.w) 3 f fd ["count", "sets"] (spD p [.v, .v] m_check_border) :=
  fnok_of (k := 2) (N := ["count", "sets"]) (body := b_check_border) (shN := fun _ => [.un, .un]) (shB := fun _ => []) F sc_check_border rfl (q2 (P := fun ds m => SB _ (argE _ ds ++ _) _ m _ _) (fun a64 a65 => (show SB _ [.sh (a64), .sh (a65)] _ _ _ _ from (s_expr (el_of (xcall h_check_sets (av (ev 0) (av (ev 1) eak_nil)))) (show SB _ [.sh (a64), .sh (a65)] _ _ _ _ from (sb_if (J := Unit) (shJ := fun s74 => [.sh (a64), .sh (a65)]) (tcmp c_ne (el_of (xcall h_least_of (av (ev 1) eak_nil))) (el_of (ee_tuplec (b_tuple T.b_tuple) (el_of (ev 1))))) sb_never (sb_nil (.eq (.eq Le.nil))) fun s74 => (show SB _ [.sh (a64), .sh (a65)] _ _ _ _ from (sb_nil (.un (.un Le.nil))))))))))
abbrev s_crossing_of : Stmt := topS 11
theorem sc_crossing_of : FnScope ["sets", "found", "one", "rows", "row", "thing"] ["sets"] (defScope s_crossing_of) := ⟨rfl, rfl, rfl, by decide +kernel, rfl, by decide +kernel, by decide +kernel⟩
def b_crossing_of : List D → M (Out Unit Unit) := p1 (fun a77 => ((((pure (D.int 0) : M D) >>= fun x79 => (pure [] : M (List D)) >>= fun xs80 => pure (x79 :: xs80)) >>= mkT) >>= fun z78 => (((pure (a77) : M D) >>= items) >>= fun xs112 => forL (fun (s82 : D) x113 => nm x113 >>= p1 (fun v83 => (((pure [] : M (List D)) >>= mkL) >>= fun z84 => (((pure (s82) : M D) >>= items) >>= fun xs109 => forL (fun (s85 : D) x110 => nm x110 >>= p1 (fun v86 => ((((pure (v86) : M D) >>= fun x87 => (pure (v83) : M D) >>= fun x88 => andD x87 x88) >>= fun x89 => (pure (D.int 0) : M D) >>= fun x90 => neB x89 x90) >>= fun b105 => (if b105 = true then ((lstD s85 >>= fun ds94 => (pure (v86) : M D) >>= fun x93 => appL ds94 x93 >>= fun z92 => (pure (.nx (z92)))) : M (Out (D) _)) else (lstD s85 >>= fun ds104 => (lcM ((((pure (v83) : M D) >>= fun x95 => (pure [] : M (List D)) >>= fun xs96 => pure (x95 :: xs96)) >>= m_things_in) >>= items) nm (p1 (fun v97 => (pure true : M Bool))) (p1 (fun v97 => ((pure (v86) : M D) >>= fun x100 => ((pure (D.int 1) : M D) >>= fun x98 => (pure (v97) : M D) >>= fun x99 => shlD x98 x99) >>= fun x101 => orD x100 x101)))) >>= fun x103 => extL ds104 x103 >>= fun z102 => (pure (.nx (z102))))) >>= seqO fun s91 => (pure (.nx (s91)))))) (z84) xs109 >>= seqO fun s85 => ((((pure (s85) : M D) >>= fun x107 => (pure [] : M (List D)) >>= fun xs108 => pure (x107 :: xs108)) >>= m_least_of) >>= fun z106 => (pure (.nx (z106)))))))) (z78) xs112 >>= seqO fun s82 => ((pure (s82) : M D) >>= fun x111 => pure (.rt x111)))))
def m_crossing_of (ds : List D) : M D := runF (b_crossing_of ds)
theorem o_crossing_of {p : Pg} (T : Txt p) {f : Addr} {fd : FuncData} (F : Fun p.K "crossing_of" "crossing_of" s_crossing_of f fd) (h_things_in : Fnc p 1 "things_in" [.v] m_things_in) (h_least_of : Fnc p 1 "least_of" [.v] m_least_of) : FnOk p.P p.w p.K p.mg p.base (L2.CX p.P p.w) 2 f fd ["sets"] (spD p [.v] m_crossing_of) :=
  fnok_of (k := 1) (N := ["sets", "found", "one", "rows", "row", "thing"]) (body := b_crossing_of) (shN := fun _ => [.un, .un, .un, .un, .un, .un]) (shB := fun _ => []) F sc_crossing_of rfl (q1 (P := fun ds m => SB _ (argE _ ds ++ _) _ m _ _) (fun a77 => (show SB _ [.sh (a77), .un, .un, .un, .un, .un] _ _ _ _ from (s_set 1 sc_crossing_of.nd (ee_tup (ea_cons ee_int ea_nil)) (fun z78 => (show SB _ [.sh (a77), .sh (z78), .un, .un, .un, .un] _ _ _ _ from (s_for (Z := D) (sh := fun s82 => [.sh (a77), .sh (s82), .un, .un, .un, .un]) (ei_seq (ev 0)) (tn 2 sc_crossing_of.nd) nm_pure nm_len (.eq (.eq (.un (.un (.un (.un Le.nil)))))) (fun s82 => q1 (P := fun ds m => SB _ (setE _ _ ds) _ m _ _) (fun v83 => (show SB _ [.sh (a77), .sh (s82), .sh (v83), .un, .un, .un] _ _ _ _ from (s_setN 3 sc_crossing_of.nd (en_lst ea_nil) (fun z84 => (show SB _ [.sh (a77), .sh (s82), .sh (v83), .ow (z84), .un, .un] _ _ _ _ from (s_for (Z := D) (sh := fun s85 => [.sh (a77), .sh (s82), .sh (v83), .ow (s85), .un, .un]) (ei_seq (ev 1)) (tn 4 sc_crossing_of.nd) nm_pure nm_len (.eq (.eq (.eq (.eq (.un (.un Le.nil)))))) (fun s85 => q1 (P := fun ds m => SB _ (setE _ _ ds) _ m _ _) (fun v86 => (show SB _ [.sh (a77), .sh (s82), .sh (v83), .ow (s85), .sh (v86), .un] _ _ _ _ from (sb_if (J := D) (shJ := fun s91 => [.sh (a77), .sh (s82), .sh (v83), .ow (s91), .sh (v86), .un]) (tcmp c_ne (el_of (ee_and (el_of (ev 4)) (el_of (ev 2)))) (el_of ee_int)) (s_append 3 (ev 4) fun z92 => (show SB _ [.sh (a77), .sh (s82), .sh (v83), .ow (z92), .sh (v86), .un] _ _ _ _ from (sb_nil (.eq (.eq (.eq (.eq (.eq (.un Le.nil))))))))) (s_extend 3 (el_new (en_comp (c_lc sc_crossing_of.nd [("thing", 5)] (ei_read (el_of (xcall h_things_in (av (ev 2) eak_nil)))) (tn 5 sc_crossing_of.nd) nm_pure nm_len (q1 (P := fun ds m => ETs (Sta.blk _ _) (setE (wipeE _ _) _ ds) _ m) (fun v97 => (show ETs _ [.sh (a77), .sh (s82), .sh (v83), .ow (s85), .sh (v86), .sh (v97)] _ _ from ets_nil))) (q1 (P := fun ds m => EE (Sta.blk _ _) (setE (wipeE _ _) _ ds) _ m) (fun v97 => (show EE _ [.sh (a77), .sh (s82), .sh (v83), .ow (s85), .sh (v86), .sh (v97)] _ _ from (ee_or (el_of (ev 4)) (el_of (ee_shl (el_of ee_int) (el_of (ev 5))))))))))) fun z102 => (show SB _ [.sh (a77), .sh (s82), .sh (v83), .ow (z102), .sh (v86), .un] _ _ _ _ from (sb_nil (.eq (.eq (.eq (.eq (.eq (.un Le.nil))))))))) fun s91 => (show SB _ [.sh (a77), .sh (s82), .sh (v83), .ow (s91), .sh (v86), .un] _ _ _ _ from (sb_nil (.eq (.eq (.eq (.eq (.un (.un Le.nil)))))))))))) fun s85 => (show SB _ [.sh (a77), .sh (s82), .sh (v83), .ow (s85), .un, .un] _ _ _ _ from (sb_freeze 3 (by rfl) (show SB _ [.sh (a77), .sh (s82), .sh (v83), .sh (s85), .un, .un] _ _ _ _ from (s_set 1 sc_crossing_of.nd (xcall h_least_of (av (ev 3) eak_nil)) (fun z106 => (show SB _ [.sh (a77), .sh (z106), .sh (v83), .sh (s85), .un, .un] _ _ _ _ from (sb_nil (.eq (.eq (.un (.un (.un (.un Le.nil)))))))))))))))))))) fun s82 => (show SB _ [.sh (a77), .sh (s82), .un, .un, .un, .un] _ _ _ _ from (sb_ret (ev 1))))))))))
abbrev s_crossing : Stmt := topS 12
theorem sc_crossing : FnScope ["count", "sets"] ["count", "sets"] (defScope s_crossing) := ⟨rfl, rfl, rfl, by decide +kernel, rfl, by decide +kernel, by decide +kernel⟩
def b_crossing : List D → M (Out Unit Unit) := p2 (fun a114 a115 => ((((pure (a114) : M D) >>= fun x118 => ((pure (a115) : M D) >>= fun x116 => (pure [] : M (List D)) >>= fun xs117 => pure (x116 :: xs117)) >>= fun xs119 => pure (x118 :: xs119)) >>= m_check_sets) >>= fun u123 => ((((pure (a115) : M D) >>= fun x120 => (pure [] : M (List D)) >>= fun xs121 => pure (x120 :: xs121)) >>= m_crossing_of) >>= fun x122 => pure (.rt x122))))
def m_crossing (ds : List D) : M D := runF (b_crossing ds)
theorem o_crossing {p : Pg} (T : Txt p) {f : Addr} {fd : FuncData} (F : Fun p.K "crossing" "crossing" s_crossing f fd) (h_check_sets : Fnc p 2 "check_sets" [.v, .v] m_check_sets) (h_crossing_of : Fnc p 2 "crossing_of" [.v] m_crossing_of) : FnOk p.P p.w p.K p.mg p.base (L2.CX p.P p.w) 3 f fd ["count", "sets"] (spD p [.v, .v] m_crossing) :=
  fnok_of (k := 2) (N := ["count", "sets"]) (body := b_crossing) (shN := fun _ => [.un, .un]) (shB := fun _ => []) F sc_crossing rfl (q2 (P := fun ds m => SB _ (argE _ ds ++ _) _ m _ _) (fun a114 a115 => (show SB _ [.sh (a114), .sh (a115)] _ _ _ _ from (s_expr (el_of (xcall h_check_sets (av (ev 0) (av (ev 1) eak_nil)))) (show SB _ [.sh (a114), .sh (a115)] _ _ _ _ from (sb_ret (xcall h_crossing_of (av (ev 1) eak_nil))))))))
abbrev s_falses_of : Stmt := topS 13
theorem sc_falses_of : FnScope ["count", "trues", "whole", "one"] ["count", "trues"] (defScope s_falses_of) := ⟨rfl, rfl, rfl, by decide +kernel, rfl, by decide +kernel, by decide +kernel⟩
def b_falses_of : List D → M (Out Unit Unit) := p2 (fun a124 a125 => ((((pure (D.int 1) : M D) >>= fun x127 => (pure (a124) : M D) >>= fun x128 => shlD x127 x128) >>= fun x129 => (pure (D.int 1) : M D) >>= fun x130 => subD x129 x130) >>= fun z126 => ((((lcM ((((pure (a125) : M D) >>= fun x131 => (pure [] : M (List D)) >>= fun xs132 => pure (x131 :: xs132)) >>= m_crossing_of) >>= items) nm (p1 (fun v133 => (pure true : M Bool))) (p1 (fun v133 => ((pure (z126) : M D) >>= fun x134 => ((pure (v133) : M D) >>= invD) >>= fun x135 => andD x134 x135)))) >>= sortedD) >>= tupleD) >>= fun x136 => pure (.rt x136))))
def m_falses_of (ds : List D) : M D := runF (b_falses_of ds)
theorem o_falses_of {p : Pg} (T : Txt p) {f : Addr} {fd : FuncData} (F : Fun p.K "falses_of" "falses_of" s_falses_of f fd) (h_crossing_of : Fnc p 2 "crossing_of" [.v] m_crossing_of) : FnOk p.P p.w p.K p.mg p.base (L2.CX p.P p.w) 3 f fd ["count", "trues"] (spD p [.v, .v] m_falses_of) :=
  fnok_of (k := 2) (N := ["count", "trues", "whole", "one"]) (body := b_falses_of) (shN := fun _ => [.un, .un, .un, .un]) (shB := fun _ => []) F sc_falses_of rfl (q2 (P := fun ds m => SB _ (argE _ ds ++ _) _ m _ _) (fun a124 a125 => (show SB _ [.sh (a124), .sh (a125), .un, .un] _ _ _ _ from (s_set 2 sc_falses_of.nd (ee_sub (el_of (ee_shl (el_of ee_int) (el_of (ev 0)))) (el_of ee_int)) (fun z126 => (show SB _ [.sh (a124), .sh (a125), .sh (z126), .un] _ _ _ _ from (sb_ret (ee_tuplec (b_tuple T.b_tuple) (el_new (en_sorted (b_sorted T.b_sorted) (el_new (en_comp (c_lc sc_falses_of.nd [("one", 3)] (ei_read (el_of (xcall h_crossing_of (av (ev 1) eak_nil)))) (tn 3 sc_falses_of.nd) nm_pure nm_len (q1 (P := fun ds m => ETs (Sta.blk _ _) (setE (wipeE _ _) _ ds) _ m) (fun v133 => (show ETs _ [.sh (a124), .sh (a125), .sh (z126), .sh (v133)] _ _ from ets_nil))) (q1 (P := fun ds m => EE (Sta.blk _ _) (setE (wipeE _ _) _ ds) _ m) (fun v133 => (show EE _ [.sh (a124), .sh (a125), .sh (z126), .sh (v133)] _ _ from (ee_and (el_of (ev 2)) (el_of (ee_inv (el_of (ev 3)))))))))))))))))))))
abbrev s_greatest_falses : Stmt := topS 14
theorem sc_greatest_falses : FnScope ["count", "trues"] ["count", "trues"] (defScope s_greatest_falses) := ⟨rfl, rfl, rfl, by decide +kernel, rfl, by decide +kernel, by decide +kernel⟩
def b_greatest_falses : List D → M (Out Unit Unit) := p2 (fun a137 a138 => ((((pure (a137) : M D) >>= fun x141 => ((pure (a138) : M D) >>= fun x139 => (pure [] : M (List D)) >>= fun xs140 => pure (x139 :: xs140)) >>= fun xs142 => pure (x141 :: xs142)) >>= m_check_border) >>= fun u148 => ((((pure (a137) : M D) >>= fun x145 => ((pure (a138) : M D) >>= fun x143 => (pure [] : M (List D)) >>= fun xs144 => pure (x143 :: xs144)) >>= fun xs146 => pure (x145 :: xs146)) >>= m_falses_of) >>= fun x147 => pure (.rt x147))))
def m_greatest_falses (ds : List D) : M D := runF (b_greatest_falses ds)
theorem o_greatest_falses {p : Pg} (T : Txt p) {f : Addr} {fd : FuncData} (F : Fun p.K "greatest_falses" "greatest_falses" s_greatest_falses f fd) (h_check_border : Fnc p 3 "check_border" [.v, .v] m_check_border) (h_falses_of : Fnc p 3 "falses_of" [.v, .v] m_falses_of) : FnOk p.P p.w p.K p.mg p.base (L2.CX p.P p.w) 4 f fd ["count", "trues"] (spD p [.v, .v] m_greatest_falses) :=
  fnok_of (k := 3) (N := ["count", "trues"]) (body := b_greatest_falses) (shN := fun _ => [.un, .un]) (shB := fun _ => []) F sc_greatest_falses rfl (q2 (P := fun ds m => SB _ (argE _ ds ++ _) _ m _ _) (fun a137 a138 => (show SB _ [.sh (a137), .sh (a138)] _ _ _ _ from (s_expr (el_of (xcall h_check_border (av (ev 0) (av (ev 1) eak_nil)))) (show SB _ [.sh (a137), .sh (a138)] _ _ _ _ from (sb_ret (xcall h_falses_of (av (ev 0) (av (ev 1) eak_nil)))))))))
abbrev s_least_trues : Stmt := topS 15
theorem sc_least_trues : FnScope ["count", "falses", "whole", "one"] ["count", "falses"] (defScope s_least_trues) := ⟨rfl, rfl, rfl, by decide +kernel, rfl, by decide +kernel, by decide +kernel⟩
def b_least_trues : List D → M (Out Unit Unit) := p2 (fun a149 a150 => ((((pure (a149) : M D) >>= fun x153 => ((pure (a150) : M D) >>= fun x151 => (pure [] : M (List D)) >>= fun xs152 => pure (x151 :: xs152)) >>= fun xs154 => pure (x153 :: xs154)) >>= m_check_border) >>= fun u166 => ((((pure (D.int 1) : M D) >>= fun x156 => (pure (a149) : M D) >>= fun x157 => shlD x156 x157) >>= fun x158 => (pure (D.int 1) : M D) >>= fun x159 => subD x158 x159) >>= fun z155 => ((((lcM ((pure (a150) : M D) >>= items) nm (p1 (fun v160 => (pure true : M Bool))) (p1 (fun v160 => ((pure (z155) : M D) >>= fun x161 => ((pure (v160) : M D) >>= invD) >>= fun x162 => andD x161 x162)))) >>= fun x163 => (pure [] : M (List D)) >>= fun xs164 => pure (x163 :: xs164)) >>= m_crossing_of) >>= fun x165 => pure (.rt x165)))))
def m_least_trues (ds : List D) : M D := runF (b_least_trues ds)
theorem o_least_trues {p : Pg} (T : Txt p) {f : Addr} {fd : FuncData} (F : Fun p.K "least_trues" "least_trues" s_least_trues f fd) (h_check_border : Fnc p 3 "check_border" [.v, .v] m_check_border) (h_crossing_of : Fnc p 2 "crossing_of" [.v] m_crossing_of) : FnOk p.P p.w p.K p.mg p.base (L2.CX p.P p.w) 4 f fd ["count", "falses"] (spD p [.v, .v] m_least_trues) :=
  fnok_of (k := 3) (N := ["count", "falses", "whole", "one"]) (body := b_least_trues) (shN := fun _ => [.un, .un, .un, .un]) (shB := fun _ => []) F sc_least_trues rfl (q2 (P := fun ds m => SB _ (argE _ ds ++ _) _ m _ _) (fun a149 a150 => (show SB _ [.sh (a149), .sh (a150), .un, .un] _ _ _ _ from (s_expr (el_of (xcall h_check_border (av (ev 0) (av (ev 1) eak_nil)))) (show SB _ [.sh (a149), .sh (a150), .un, .un] _ _ _ _ from (s_set 2 sc_least_trues.nd (ee_sub (el_of (ee_shl (el_of ee_int) (el_of (ev 0)))) (el_of ee_int)) (fun z155 => (show SB _ [.sh (a149), .sh (a150), .sh (z155), .un] _ _ _ _ from (sb_ret (xcall h_crossing_of (av (ee_new (en_comp (c_lc sc_least_trues.nd [("one", 3)] (ei_read (el_of (ev 1))) (tn 3 sc_least_trues.nd) nm_pure nm_len (q1 (P := fun ds m => ETs (Sta.blk _ _) (setE (wipeE _ _) _ ds) _ m) (fun v160 => (show ETs _ [.sh (a149), .sh (a150), .sh (z155), .sh (v160)] _ _ from ets_nil))) (q1 (P := fun ds m => EE (Sta.blk _ _) (setE (wipeE _ _) _ ds) _ m) (fun v160 => (show EE _ [.sh (a149), .sh (a150), .sh (z155), .sh (v160)] _ _ from (ee_and (el_of (ev 2)) (el_of (ee_inv (el_of (ev 3))))))))))) eak_nil)))))))))))
abbrev s_is_true : Stmt := topS 16
theorem sc_is_true : FnScope ["count", "trues", "one", "true"] ["count", "trues", "one"] (defScope s_is_true) := ⟨rfl, rfl, rfl, by decide +kernel, rfl, by decide +kernel, by decide +kernel⟩
def b_is_true : List D → M (Out Unit Unit) := p3 (fun a167 a168 a169 => ((((pure (a167) : M D) >>= fun x172 => ((pure (a168) : M D) >>= fun x170 => (pure [] : M (List D)) >>= fun xs171 => pure (x170 :: xs171)) >>= fun xs173 => pure (x172 :: xs173)) >>= m_check_border) >>= fun u193 => ((((pure (a167) : M D) >>= fun x179 => ((((pure (a169) : M D) >>= fun x174 => (pure [] : M (List D)) >>= fun xs175 => pure (x174 :: xs175)) >>= mkT) >>= fun x177 => (pure [] : M (List D)) >>= fun xs178 => pure (x177 :: xs178)) >>= fun xs180 => pure (x179 :: xs180)) >>= m_check_sets) >>= fun u192 => (((lcM ((pure (a168) : M D) >>= items) nm (p1 (fun v181 => (pure true : M Bool))) (p1 (fun v181 => (((pure (v181) : M D) >>= fun x189 => ((pure (a169) : M D) >>= invD) >>= fun x190 => andD x189 x190) >>= fun x187 => (pure (D.int 0) : M D) >>= fun x188 => eqB x187 x188 >>= fun b186 => (pure (D.bl b186) : M D))))) >>= anyD) >>= fun x191 => pure (.rt x191)))))
def m_is_true (ds : List D) : M D := runF (b_is_true ds)
theorem o_is_true {p : Pg} (T : Txt p) {f : Addr} {fd : FuncData} (F : Fun p.K "is_true" "is_true" s_is_true f fd) (h_check_border : Fnc p 3 "check_border" [.v, .v] m_check_border) (h_check_sets : Fnc p 2 "check_sets" [.v, .v] m_check_sets) : FnOk p.P p.w p.K p.mg p.base (L2.CX p.P p.w) 4 f fd ["count", "trues", "one"] (spD p [.v, .v, .v] m_is_true) :=
  fnok_of (k := 3) (N := ["count", "trues", "one", "true"]) (body := b_is_true) (shN := fun _ => [.un, .un, .un, .un]) (shB := fun _ => []) F sc_is_true rfl (q3 (P := fun ds m => SB _ (argE _ ds ++ _) _ m _ _) (fun a167 a168 a169 => (show SB _ [.sh (a167), .sh (a168), .sh (a169), .un] _ _ _ _ from (s_expr (el_of (xcall h_check_border (av (ev 0) (av (ev 1) eak_nil)))) (show SB _ [.sh (a167), .sh (a168), .sh (a169), .un] _ _ _ _ from (s_expr (el_of (xcall h_check_sets (av (ev 0) (av (ee_tup (ea_cons (ev 2) ea_nil)) eak_nil)))) (show SB _ [.sh (a167), .sh (a168), .sh (a169), .un] _ _ _ _ from (sb_ret (ee_any (b_any T.b_any) (el_new (en_comp (c_lc sc_is_true.nd [("true", 3)] (ei_read (el_of (ev 1))) (tn 3 sc_is_true.nd) nm_pure nm_len (q1 (P := fun ds m => ETs (Sta.blk _ _) (setE (wipeE _ _) _ ds) _ m) (fun v181 => (show ETs _ [.sh (a167), .sh (a168), .sh (a169), .sh (v181)] _ _ from ets_nil))) (q1 (P := fun ds m => EE (Sta.blk _ _) (setE (wipeE _ _) _ ds) _ m) (fun v181 => (show EE _ [.sh (a167), .sh (a168), .sh (a169), .sh (v181)] _ _ from (xcmp c_eq (el_of (ee_and (el_of (ev 3)) (el_of (ee_inv (el_of (ev 2)))))) (el_of ee_int)))))))))))))))))
abbrev s_first_open : Stmt := topS 17
theorem sc_first_open : FnScope ["count", "trues", "falses", "one", "true", "false"] ["count", "trues", "falses"] (defScope s_first_open) := ⟨rfl, rfl, rfl, by decide +kernel, rfl, by decide +kernel, by decide +kernel⟩
def b_first_open : List D → M (Out Unit Unit) := p3 (fun a194 a195 a196 => ((((pure (D.int 1) : M D) >>= fun x197 => (pure (a194) : M D) >>= fun x198 => shlD x197 x198) >>= range1) >>= fun xs228 => forL (fun (s199 : Unit) x229 => nm x229 >>= p1 (fun v200 => ((((((lcM ((pure (a195) : M D) >>= items) nm (p1 (fun v201 => (pure true : M Bool))) (p1 (fun v201 => (((pure (v201) : M D) >>= fun x209 => ((pure (v200) : M D) >>= invD) >>= fun x210 => andD x209 x210) >>= fun x207 => (pure (D.int 0) : M D) >>= fun x208 => eqB x207 x208 >>= fun b206 => (pure (D.bl b206) : M D))))) >>= anyD) >>= truth) >>= fun b211 => (pure (!b211) : M Bool)) >>= fun b223 => if b223 = true then ((((lcM ((pure (a196) : M D) >>= items) nm (p1 (fun v212 => (pure true : M Bool))) (p1 (fun v212 => (((pure (v200) : M D) >>= fun x220 => ((pure (v212) : M D) >>= invD) >>= fun x221 => andD x220 x221) >>= fun x218 => (pure (D.int 0) : M D) >>= fun x219 => eqB x218 x219 >>= fun b217 => (pure (D.bl b217) : M D))))) >>= anyD) >>= truth) >>= fun b222 => (pure (!b222) : M Bool)) else (pure false : M Bool)) >>= fun b226 => (if b226 = true then (((pure (v200) : M D) >>= fun x225 => pure (.rt x225)) : M (Out (Unit) _)) else (pure (.nx ()))) >>= seqO fun s224 => (pure (.nx ()))))) () xs228 >>= seqO fun s199 => ((pure D.non : M D) >>= fun x227 => pure (.rt x227))))
def m_first_open (ds : List D) : M D := runF (b_first_open ds)
theorem o_first_open {p : Pg} (T : Txt p) {f : Addr} {fd : FuncData} (F : Fun p.K "first_open" "first_open" s_first_open f fd)  : FnOk p.P p.w p.K p.mg p.base (L2.CX p.P p.w) 1 f fd ["count", "trues", "falses"] (spD p [.v, .v, .v] m_first_open) :=
  fnok_of (k := 0) (N := ["count", "trues", "falses", "one", "true", "false"]) (body := b_first_open) (shN := fun _ => [.un, .un, .un, .un, .un, .un]) (shB := fun _ => []) F sc_first_open rfl (q3 (P := fun ds m => SB _ (argE _ ds ++ _) _ m _ _) (fun a194 a195 a196 => (show SB _ [.sh (a194), .sh (a195), .sh (a196), .un, .un, .un] _ _ _ _ from (s_for (Z := Unit) (sh := fun s199 => [.sh (a194), .sh (a195), .sh (a196), .un, .un, .un]) (ei_range1 (by rfl) T.b_range (el_of (ee_shl (el_of ee_int) (el_of (ev 0))))) (tn 3 sc_first_open.nd) nm_pure nm_len (.eq (.eq (.eq (.un (.un (.un Le.nil)))))) (fun s199 => q1 (P := fun ds m => SB _ (setE _ _ ds) _ m _ _) (fun v200 => (show SB _ [.sh (a194), .sh (a195), .sh (a196), .sh (v200), .un, .un] _ _ _ _ from (sb_if (J := Unit) (shJ := fun s224 => [.sh (a194), .sh (a195), .sh (a196), .sh (v200), .un, .un]) (et_w (ew_and (et_not (ttr (el_of (ee_any (b_any T.b_any) (el_new (en_comp (c_lc sc_first_open.nd [("true", 4)] (ei_read (el_of (ev 1))) (tn 4 sc_first_open.nd) nm_pure nm_len (q1 (P := fun ds m => ETs (Sta.blk _ _) (setE (wipeE _ _) _ ds) _ m) (fun v201 => (show ETs _ [.sh (a194), .sh (a195), .sh (a196), .sh (v200), .sh (v201), .un] _ _ from ets_nil))) (q1 (P := fun ds m => EE (Sta.blk _ _) (setE (wipeE _ _) _ ds) _ m) (fun v201 => (show EE _ [.sh (a194), .sh (a195), .sh (a196), .sh (v200), .sh (v201), .un] _ _ from (xcmp c_eq (el_of (ee_and (el_of (ev 4)) (el_of (ee_inv (el_of (ev 3)))))) (el_of ee_int)))))))))))) (ew_and1 (et_not (ttr (el_of (ee_any (b_any T.b_any) (el_new (en_comp (c_lc sc_first_open.nd [("false", 5)] (ei_read (el_of (ev 2))) (tn 5 sc_first_open.nd) nm_pure nm_len (q1 (P := fun ds m => ETs (Sta.blk _ _) (setE (wipeE _ _) _ ds) _ m) (fun v212 => (show ETs _ [.sh (a194), .sh (a195), .sh (a196), .sh (v200), .un, .sh (v212)] _ _ from ets_nil))) (q1 (P := fun ds m => EE (Sta.blk _ _) (setE (wipeE _ _) _ ds) _ m) (fun v212 => (show EE _ [.sh (a194), .sh (a195), .sh (a196), .sh (v200), .un, .sh (v212)] _ _ from (xcmp c_eq (el_of (ee_and (el_of (ev 3)) (el_of (ee_inv (el_of (ev 5)))))) (el_of ee_int))))))))))))))) (sb_ret (ev 3)) (sb_nil (.eq (.eq (.eq (.eq (.un (.un Le.nil))))))) fun s224 => (show SB _ [.sh (a194), .sh (a195), .sh (a196), .sh (v200), .un, .un] _ _ _ _ from (sb_nil (.eq (.eq (.eq (.un (.un (.un Le.nil)))))))))))) fun s199 => (show SB _ [.sh (a194), .sh (a195), .sh (a196), .un, .un, .un] _ _ _ _ from (sb_ret ee_non))))))
abbrev s_is_whole : Stmt := topS 18
theorem sc_is_whole : FnScope ["count", "trues", "falses"] ["count", "trues", "falses"] (defScope s_is_whole) := ⟨rfl, rfl, rfl, by decide +kernel, rfl, by decide +kernel, by decide +kernel⟩
def b_is_whole : List D → M (Out Unit Unit) := p3 (fun a230 a231 a232 => ((((pure (a230) : M D) >>= fun x235 => ((pure (a231) : M D) >>= fun x233 => (pure [] : M (List D)) >>= fun xs234 => pure (x233 :: xs234)) >>= fun xs236 => pure (x235 :: xs236)) >>= m_check_border) >>= fun u256 => ((((pure (a230) : M D) >>= fun x239 => ((pure (a232) : M D) >>= fun x237 => (pure [] : M (List D)) >>= fun xs238 => pure (x237 :: xs238)) >>= fun xs240 => pure (x239 :: xs240)) >>= m_check_border) >>= fun u255 => (((((pure (a230) : M D) >>= fun x252 => ((pure (a231) : M D) >>= fun x250 => (pure [] : M (List D)) >>= fun xs251 => pure (x250 :: xs251)) >>= fun xs253 => pure (x252 :: xs253)) >>= m_falses_of) >>= fun x248 => ((pure (a232) : M D) >>= tupleD) >>= fun x249 => eqB x248 x249 >>= fun b247 => (pure (D.bl b247) : M D)) >>= fun x254 => pure (.rt x254)))))
def m_is_whole (ds : List D) : M D := runF (b_is_whole ds)
theorem o_is_whole {p : Pg} (T : Txt p) {f : Addr} {fd : FuncData} (F : Fun p.K "is_whole" "is_whole" s_is_whole f fd) (h_check_border : Fnc p 3 "check_border" [.v, .v] m_check_border) (h_falses_of : Fnc p 3 "falses_of" [.v, .v] m_falses_of) : FnOk p.P p.w p.K p.mg p.base (L2.CX p.P p.w) 4 f fd ["count", "trues", "falses"] (spD p [.v, .v, .v] m_is_whole) :=
  fnok_of (k := 3) (N := ["count", "trues", "falses"]) (body := b_is_whole) (shN := fun _ => [.un, .un, .un]) (shB := fun _ => []) F sc_is_whole rfl (q3 (P := fun ds m => SB _ (argE _ ds ++ _) _ m _ _) (fun a230 a231 a232 => (show SB _ [.sh (a230), .sh (a231), .sh (a232)] _ _ _ _ from (s_expr (el_of (xcall h_check_border (av (ev 0) (av (ev 1) eak_nil)))) (show SB _ [.sh (a230), .sh (a231), .sh (a232)] _ _ _ _ from (s_expr (el_of (xcall h_check_border (av (ev 0) (av (ev 2) eak_nil)))) (show SB _ [.sh (a230), .sh (a231), .sh (a232)] _ _ _ _ from (sb_ret (xcmp c_eq (el_of (xcall h_falses_of (av (ev 0) (av (ev 1) eak_nil)))) (el_of (ee_tuplec (b_tuple T.b_tuple) (el_of (ev 2)))))))))))))
abbrev s_BorderAsker___init__ : Stmt := inClass (topS 19) 0
theorem sc_BorderAsker___init__ : FnScope ["self", "count"] ["self", "count"] (defScope s_BorderAsker___init__) := ⟨rfl, rfl, rfl, by decide +kernel, rfl, by decide +kernel, by decide +kernel⟩
def b_BorderAsker___init__ : List D → M (Out Unit Unit) := p2 (fun a257 a258 => ((((pure (a258) : M D) >>= fun x259 => (pure [] : M (List D)) >>= fun xs260 => pure (x259 :: xs260)) >>= m_check_count) >>= fun u282 => ((pure (a258) : M D) >>= fun x261 => (pure (a257) : M D) >>= fun x262 => setF 0 "count" x262 x261 >>= fun u263 => (((pure [] : M (List D)) >>= mkT) >>= fun x264 => (pure (a257) : M D) >>= fun x265 => setF 0 "trues" x265 x264 >>= fun u266 => (((pure [] : M (List D)) >>= mkT) >>= fun x267 => (pure (a257) : M D) >>= fun x268 => setF 0 "falses" x268 x267 >>= fun u269 => ((pure (D.int 0) : M D) >>= fun x270 => (pure (a257) : M D) >>= fun x271 => setF 0 "asks" x271 x270 >>= fun u272 => ((pure D.non : M D) >>= fun x273 => (pure (a257) : M D) >>= fun x274 => setF 0 "here" x274 x273 >>= fun u275 => (((pure [] : M (List D)) >>= mkL) >>= fun x276 => (pure (a257) : M D) >>= fun x277 => setF 0 "left" x277 x276 >>= fun u278 => ((pure D.non : M D) >>= fun x279 => (pure (a257) : M D) >>= fun x280 => setF 0 "bit" x280 x279 >>= fun u281 => (pure (.nx ())))))))))))
def m_BorderAsker___init__ (ds : List D) : M D := runF (b_BorderAsker___init__ ds)
theorem o_BorderAsker___init__ {p : Pg} (T : Txt p) {f : Addr} {fd : FuncData} (F : Fun p.K "__init__" "BorderAsker.__init__" s_BorderAsker___init__ f fd) (h_check_count : Fnc p 1 "check_count" [.v] m_check_count) : FnOk p.P p.w p.K p.mg p.base (L2.CX p.P p.w) 2 f fd ["self", "count"] (spD p [.v, .v] m_BorderAsker___init__) :=
  fnok_of (k := 1) (N := ["self", "count"]) (body := b_BorderAsker___init__) (shN := fun _ => [.un, .un]) (shB := fun _ => []) F sc_BorderAsker___init__ rfl (q2 (P := fun ds m => SB _ (argE _ ds ++ _) _ m _ _) (fun a257 a258 => (show SB _ [.sh (a257), .sh (a258)] _ _ _ _ from (s_expr (el_of (xcall h_check_count (av (ev 1) eak_nil))) (show SB _ [.sh (a257), .sh (a258)] _ _ _ _ from (s_fset T.k_BorderAsker (.head _) (ev 1) (ev 0) (show SB _ [.sh (a257), .sh (a258)] _ _ _ _ from (s_fset T.k_BorderAsker (.tail _ (.head _)) (ee_tup ea_nil) (ev 0) (show SB _ [.sh (a257), .sh (a258)] _ _ _ _ from (s_fset T.k_BorderAsker (.tail _ (.tail _ (.head _))) (ee_tup ea_nil) (ev 0) (show SB _ [.sh (a257), .sh (a258)] _ _ _ _ from (s_fset T.k_BorderAsker (.tail _ (.tail _ (.tail _ (.head _)))) ee_int (ev 0) (show SB _ [.sh (a257), .sh (a258)] _ _ _ _ from (s_fset T.k_BorderAsker (.tail _ (.tail _ (.tail _ (.tail _ (.head _))))) ee_non (ev 0) (show SB _ [.sh (a257), .sh (a258)] _ _ _ _ from (s_fset T.k_BorderAsker (.tail _ (.tail _ (.tail _ (.tail _ (.tail _ (.head _)))))) (ee_new (en_lst ea_nil)) (ev 0) (show SB _ [.sh (a257), .sh (a258)] _ _ _ _ from (s_fset T.k_BorderAsker (.tail _ (.tail _ (.tail _ (.tail _ (.tail _ (.tail _ (.head _))))))) ee_non (ev 0) (show SB _ [.sh (a257), .sh (a258)] _ _ _ _ from (sb_nil (.un (.un Le.nil))))))))))))))))))))))
abbrev s_BorderAsker_answer_of : Stmt := inClass (topS 19) 1
theorem sc_BorderAsker_answer_of : FnScope ["self", "one", "true", "false"] ["self", "one"] (defScope s_BorderAsker_answer_of) := ⟨rfl, rfl, rfl, by decide +kernel, rfl, by decide +kernel, by decide +kernel⟩
def b_BorderAsker_answer_of : List D → M (Out Unit Unit) := p2 (fun a283 a284 => ((((lcM (((pure (a283) : M D) >>= fldD 0 "trues") >>= items) nm (p1 (fun v285 => (pure true : M Bool))) (p1 (fun v285 => (((pure (v285) : M D) >>= fun x293 => ((pure (a284) : M D) >>= invD) >>= fun x294 => andD x293 x294) >>= fun x291 => (pure (D.int 0) : M D) >>= fun x292 => eqB x291 x292 >>= fun b290 => (pure (D.bl b290) : M D))))) >>= anyD) >>= truth) >>= fun b311 => (if b311 = true then (((pure (D.bl true) : M D) >>= fun x296 => pure (.rt x296)) : M (Out (Unit) _)) else (pure (.nx ()))) >>= seqO fun s295 => ((((lcM (((pure (a283) : M D) >>= fldD 0 "falses") >>= items) nm (p1 (fun v297 => (pure true : M Bool))) (p1 (fun v297 => (((pure (a284) : M D) >>= fun x305 => ((pure (v297) : M D) >>= invD) >>= fun x306 => andD x305 x306) >>= fun x303 => (pure (D.int 0) : M D) >>= fun x304 => eqB x303 x304 >>= fun b302 => (pure (D.bl b302) : M D))))) >>= anyD) >>= truth) >>= fun b310 => (if b310 = true then (((pure (D.bl false) : M D) >>= fun x308 => pure (.rt x308)) : M (Out (Unit) _)) else (pure (.nx ()))) >>= seqO fun s307 => ((pure D.non : M D) >>= fun x309 => pure (.rt x309)))))
def m_BorderAsker_answer_of (ds : List D) : M D := runF (b_BorderAsker_answer_of ds)
theorem o_BorderAsker_answer_of {p : Pg} (T : Txt p) {f : Addr} {fd : FuncData} (F : Fun p.K "answer_of" "BorderAsker.answer_of" s_BorderAsker_answer_of f fd)  : FnOk p.P p.w p.K p.mg p.base (L2.CX p.P p.w) 1 f fd ["self", "one"] (spD p [.v, .v] m_BorderAsker_answer_of) :=
  fnok_of (k := 0) (N := ["self", "one", "true", "false"]) (body := b_BorderAsker_answer_of) (shN := fun _ => [.un, .un, .un, .un]) (shB := fun _ => []) F sc_BorderAsker_answer_of rfl (q2 (P := fun ds m => SB _ (argE _ ds ++ _) _ m _ _) (fun a283 a284 => (show SB _ [.sh (a283), .sh (a284), .un, .un] _ _ _ _ from (sb_if (J := Unit) (shJ := fun s295 => [.sh (a283), .sh (a284), .un, .un]) (ttr (el_of (ee_any (b_any T.b_any) (el_new (en_comp (c_lc sc_BorderAsker_answer_of.nd [("true", 2)] (ei_read (el_of (xfld T.k_BorderAsker (.tail _ (.head _)) (ev 0)))) (tn 2 sc_BorderAsker_answer_of.nd) nm_pure nm_len (q1 (P := fun ds m => ETs (Sta.blk _ _) (setE (wipeE _ _) _ ds) _ m) (fun v285 => (show ETs _ [.sh (a283), .sh (a284), .sh (v285), .un] _ _ from ets_nil))) (q1 (P := fun ds m => EE (Sta.blk _ _) (setE (wipeE _ _) _ ds) _ m) (fun v285 => (show EE _ [.sh (a283), .sh (a284), .sh (v285), .un] _ _ from (xcmp c_eq (el_of (ee_and (el_of (ev 2)) (el_of (ee_inv (el_of (ev 1)))))) (el_of ee_int))))))))))) (sb_ret ee_bl) (sb_nil (.eq (.eq (.un (.un Le.nil))))) fun s295 => (show SB _ [.sh (a283), .sh (a284), .un, .un] _ _ _ _ from (sb_if (J := Unit) (shJ := fun s307 => [.sh (a283), .sh (a284), .un, .un]) (ttr (el_of (ee_any (b_any T.b_any) (el_new (en_comp (c_lc sc_BorderAsker_answer_of.nd [("false", 3)] (ei_read (el_of (xfld T.k_BorderAsker (.tail _ (.tail _ (.head _))) (ev 0)))) (tn 3 sc_BorderAsker_answer_of.nd) nm_pure nm_len (q1 (P := fun ds m => ETs (Sta.blk _ _) (setE (wipeE _ _) _ ds) _ m) (fun v297 => (show ETs _ [.sh (a283), .sh (a284), .un, .sh (v297)] _ _ from ets_nil))) (q1 (P := fun ds m => EE (Sta.blk _ _) (setE (wipeE _ _) _ ds) _ m) (fun v297 => (show EE _ [.sh (a283), .sh (a284), .un, .sh (v297)] _ _ from (xcmp c_eq (el_of (ee_and (el_of (ev 1)) (el_of (ee_inv (el_of (ev 3)))))) (el_of ee_int))))))))))) (sb_ret ee_bl) (sb_nil (.eq (.eq (.un (.un Le.nil))))) fun s307 => (show SB _ [.sh (a283), .sh (a284), .un, .un] _ _ _ _ from (sb_ret ee_non))))))))
abbrev s_BorderAsker_tried : Stmt := inClass (topS 19) 2
theorem sc_BorderAsker_tried : FnScope ["self", "thing"] ["self"] (defScope s_BorderAsker_tried) := ⟨rfl, rfl, rfl, by decide +kernel, rfl, by decide +kernel, by decide +kernel⟩
def b_BorderAsker_tried : List D → M (Out Unit Unit) := p1 (fun a312 => (((pure (D.int 1) : M D) >>= fun x316 => (((pure (a312) : M D) >>= fldD 0 "left") >>= fun x314 => (pure (D.int 0) : M D) >>= fun x315 => ixD x314 x315) >>= fun x317 => shlD x316 x317) >>= fun z313 => (((((pure (a312) : M D) >>= fldD 0 "bit") >>= truth) >>= fun b322 => if b322 = true then (((pure (a312) : M D) >>= fldD 0 "here") >>= fun x318 => ((pure (z313) : M D) >>= invD) >>= fun x319 => andD x318 x319) else (((pure (a312) : M D) >>= fldD 0 "here") >>= fun x320 => (pure (z313) : M D) >>= fun x321 => orD x320 x321)) >>= fun x323 => pure (.rt x323))))
def m_BorderAsker_tried (ds : List D) : M D := runF (b_BorderAsker_tried ds)
theorem o_BorderAsker_tried {p : Pg} (T : Txt p) {f : Addr} {fd : FuncData} (F : Fun p.K "tried" "BorderAsker.tried" s_BorderAsker_tried f fd)  : FnOk p.P p.w p.K p.mg p.base (L2.CX p.P p.w) 1 f fd ["self"] (spD p [.v] m_BorderAsker_tried) :=
  fnok_of (k := 0) (N := ["self", "thing"]) (body := b_BorderAsker_tried) (shN := fun _ => [.un, .un]) (shB := fun _ => []) F sc_BorderAsker_tried rfl (q1 (P := fun ds m => SB _ (argE _ ds ++ _) _ m _ _) (fun a312 => (show SB _ [.sh (a312), .un] _ _ _ _ from (s_set 1 sc_BorderAsker_tried.nd (ee_shl (el_of ee_int) (el_of (xix (el_of (xfld T.k_BorderAsker (.tail _ (.tail _ (.tail _ (.tail _ (.tail _ (.head _)))))) (ev 0))) (el_of ee_int)))) (fun z313 => (show SB _ [.sh (a312), .sh (z313)] _ _ _ _ from (sb_ret (ex_if back_RE (ttr (el_of (xfld T.k_BorderAsker (.tail _ (.tail _ (.tail _ (.tail _ (.tail _ (.tail _ (.head _))))))) (ev 0)))) (ee_and (el_of (xfld T.k_BorderAsker (.tail _ (.tail _ (.tail _ (.tail _ (.head _))))) (ev 0))) (el_of (ee_inv (el_of (ev 1))))) (ee_or (el_of (xfld T.k_BorderAsker (.tail _ (.tail _ (.tail _ (.tail _ (.head _))))) (ev 0))) (el_of (ev 1)))))))))))
abbrev s_BorderAsker_go_on : Stmt := inClass (topS 19) 3
theorem sc_BorderAsker_go_on : FnScope ["self", "known"] ["self"] (defScope s_BorderAsker_go_on) := ⟨rfl, rfl, rfl, by decide +kernel, rfl, by decide +kernel, by decide +kernel⟩
def b_BorderAsker_go_on : List D → M (Out Unit Unit) := p1 (fun a324 => (whileL (fun (s325 : Unit) => (((pure (a324) : M D) >>= fldD 0 "here") >>= fun x326 => (pure D.non : M D) >>= fun x327 => notNoneB x326 x327)) (fun s325 => (((((pure (a324) : M D) >>= fldD 0 "left") >>= lenD) >>= fun x328 => (pure (D.int 0) : M D) >>= fun x329 => eqB x328 x329) >>= fun b374 => (if b374 = true then (((((pure (a324) : M D) >>= fldD 0 "bit") >>= truth) >>= fun b353 => (if b353 = true then ((((((((pure (a324) : M D) >>= fldD 0 "trues") >>= fun x335 => items x335 >>= fun xs336 => (((pure (a324) : M D) >>= fldD 0 "here") >>= fun x332 => (pure [] : M (List D)) >>= fun xs333 => pure (x332 :: xs333)) >>= fun ys337 => pure (xs336 ++ ys337)) >>= mkT) >>= sortedD) >>= tupleD) >>= fun x338 => (pure (a324) : M D) >>= fun x339 => setF 0 "trues" x339 x338 >>= fun u340 => (pure (.nx ()))) : M (Out (Unit) _)) else (((((((pure (a324) : M D) >>= fldD 0 "falses") >>= fun x344 => items x344 >>= fun xs345 => (((pure (a324) : M D) >>= fldD 0 "here") >>= fun x341 => (pure [] : M (List D)) >>= fun xs342 => pure (x341 :: xs342)) >>= fun ys346 => pure (xs345 ++ ys346)) >>= mkT) >>= sortedD) >>= tupleD) >>= fun x347 => (pure (a324) : M D) >>= fun x348 => setF 0 "falses" x348 x347 >>= fun u349 => (pure (.nx ())))) >>= seqO fun s331 => ((pure D.non : M D) >>= fun x350 => (pure (a324) : M D) >>= fun x351 => setF 0 "here" x351 x350 >>= fun u352 => (pure (.rt D.non)))) : M (Out (Unit) _)) else (pure (.nx ()))) >>= seqO fun s330 => ((mthM 0 "answer_of" (pure (a324) : M D) ((mthM 0 "tried" (pure (a324) : M D) (pure []) m_BorderAsker_tried) >>= fun x355 => (pure [] : M (List D)) >>= fun xs356 => pure (x355 :: xs356)) m_BorderAsker_answer_of) >>= fun z354 => (((pure (z354) : M D) >>= fun x357 => (pure D.non : M D) >>= fun x358 => isNoneB x357 x358) >>= fun b373 => (if b373 = true then ((pure (.rt D.non)) : M (Out (Unit) _)) else (pure (.nx ()))) >>= seqO fun s359 => (((pure (z354) : M D) >>= fun x360 => ((pure (a324) : M D) >>= fldD 0 "bit") >>= fun x361 => eqB x360 x361) >>= fun b372 => (if b372 = true then (((mthM 0 "tried" (pure (a324) : M D) (pure []) m_BorderAsker_tried) >>= fun x363 => (pure (a324) : M D) >>= fun x364 => setF 0 "here" x364 x363 >>= fun u365 => (pure (.nx ()))) : M (Out (Unit) _)) else (pure (.nx ()))) >>= seqO fun s362 => ((((pure (a324) : M D) >>= fldD 0 "left") >>= fun x366 => ((pure (D.int 1) : M D) >>= intM) >>= fun l367 => (pure none : M (Option Int)) >>= fun h368 => slL l367 h368 x366) >>= fun x369 => (pure (a324) : M D) >>= fun x370 => setF 0 "left" x370 x369 >>= fun u371 => (pure (.nx ())))))))) 1000 () >>= seqO fun s325 => (pure (.nx ()))))
def m_BorderAsker_go_on (ds : List D) : M D := runF (b_BorderAsker_go_on ds)
theorem o_BorderAsker_go_on {p : Pg} (T : Txt p) {f : Addr} {fd : FuncData} (F : Fun p.K "go_on" "BorderAsker.go_on" s_BorderAsker_go_on f fd) (h_BorderAsker_answer_of : Mtd p 0 1 "answer_of" [.v, .v] m_BorderAsker_answer_of) (h_BorderAsker_tried : Mtd p 0 1 "tried" [.v] m_BorderAsker_tried) : FnOk p.P p.w p.K p.mg p.base (L2.CX p.P p.w) 2 f fd ["self"] (spD p [.v] m_BorderAsker_go_on) :=
  fnok_of (k := 1) (N := ["self", "known"]) (body := b_BorderAsker_go_on) (shN := fun _ => [.un, .un]) (shB := fun _ => []) F sc_BorderAsker_go_on rfl (q1 (P := fun ds m => SB _ (argE _ ds ++ _) _ m _ _) (fun a324 => (show SB _ [.sh (a324), .un] _ _ _ _ from (sb_while (Z := Unit) (sh := fun s325 => [.sh (a324), .un]) (fun s325 => (show ET _ [.sh (a324), .un] _ _ from (tcmp c_nis (el_of (xfld T.k_BorderAsker (.tail _ (.tail _ (.tail _ (.tail _ (.head _))))) (ev 0))) (el_of ee_non)))) (.eq (.un Le.nil)) (fun s325 => (show SB _ [.sh (a324), .un] _ _ _ _ from (sb_if (J := Unit) (shJ := fun s330 => [.sh (a324), .un]) (tcmp c_eq (el_of (ee_len (b_len T.b_len) (el_of (xfld T.k_BorderAsker (.tail _ (.tail _ (.tail _ (.tail _ (.tail _ (.head _)))))) (ev 0))))) (el_of ee_int)) (sb_if (J := Unit) (shJ := fun s331 => [.sh (a324), .un]) (ttr (el_of (xfld T.k_BorderAsker (.tail _ (.tail _ (.tail _ (.tail _ (.tail _ (.tail _ (.head _))))))) (ev 0)))) (s_fset T.k_BorderAsker (.tail _ (.head _)) (ee_tuplec (b_tuple T.b_tuple) (el_new (en_sorted (b_sorted T.b_sorted) (el_of (ee_tup (ea_star (el_of (xfld T.k_BorderAsker (.tail _ (.head _)) (ev 0))) (ea_cons (xfld T.k_BorderAsker (.tail _ (.tail _ (.tail _ (.tail _ (.head _))))) (ev 0)) ea_nil))))))) (ev 0) (show SB _ [.sh (a324), .un] _ _ _ _ from (sb_nil (.eq (.un Le.nil))))) (s_fset T.k_BorderAsker (.tail _ (.tail _ (.head _))) (ee_tuplec (b_tuple T.b_tuple) (el_new (en_sorted (b_sorted T.b_sorted) (el_of (ee_tup (ea_star (el_of (xfld T.k_BorderAsker (.tail _ (.tail _ (.head _))) (ev 0))) (ea_cons (xfld T.k_BorderAsker (.tail _ (.tail _ (.tail _ (.tail _ (.head _))))) (ev 0)) ea_nil))))))) (ev 0) (show SB _ [.sh (a324), .un] _ _ _ _ from (sb_nil (.eq (.un Le.nil))))) fun s331 => (show SB _ [.sh (a324), .un] _ _ _ _ from (s_fset T.k_BorderAsker (.tail _ (.tail _ (.tail _ (.tail _ (.head _))))) ee_non (ev 0) (show SB _ [.sh (a324), .un] _ _ _ _ from sb_retN)))) (sb_nil (.eq (.un Le.nil))) fun s330 => (show SB _ [.sh (a324), .un] _ _ _ _ from (s_set 1 sc_BorderAsker_go_on.nd (xmeth T.k_BorderAsker h_BorderAsker_answer_of (ev 0) (av (xmeth0 T.k_BorderAsker h_BorderAsker_tried (ev 0)) eak_nil)) (fun z354 => (show SB _ [.sh (a324), .sh (z354)] _ _ _ _ from (sb_if (J := Unit) (shJ := fun s359 => [.sh (a324), .sh (z354)]) (tcmp c_is (el_of (ev 1)) (el_of ee_non)) sb_retN (sb_nil (.eq (.eq Le.nil))) fun s359 => (show SB _ [.sh (a324), .sh (z354)] _ _ _ _ from (sb_if (J := Unit) (shJ := fun s362 => [.sh (a324), .sh (z354)]) (tcmp c_eq (el_of (ev 1)) (el_of (xfld T.k_BorderAsker (.tail _ (.tail _ (.tail _ (.tail _ (.tail _ (.tail _ (.head _))))))) (ev 0)))) (s_fset T.k_BorderAsker (.tail _ (.tail _ (.tail _ (.tail _ (.head _))))) (xmeth0 T.k_BorderAsker h_BorderAsker_tried (ev 0)) (ev 0) (show SB _ [.sh (a324), .sh (z354)] _ _ _ _ from (sb_nil (.eq (.eq Le.nil))))) (sb_nil (.eq (.eq Le.nil))) fun s362 => (show SB _ [.sh (a324), .sh (z354)] _ _ _ _ from (s_fset T.k_BorderAsker (.tail _ (.tail _ (.tail _ (.tail _ (.tail _ (.head _)))))) (ee_new (en_slL (el_of (xfld T.k_BorderAsker (.tail _ (.tail _ (.tail _ (.tail _ (.tail _ (.head _)))))) (ev 0))) (eo_some (el_of ee_int)) eo_none)) (ev 0) (show SB _ [.sh (a324), .sh (z354)] _ _ _ _ from (sb_nil (.eq (.un Le.nil)))))))))))))))) fun s325 => (show SB _ [.sh (a324), .un] _ _ _ _ from (sb_nil (.un (.un Le.nil))))))))
abbrev s_BorderAsker_step : Stmt := inClass (topS 19) 4
theorem sc_BorderAsker_step : FnScope ["self", "found"] ["self"] (defScope s_BorderAsker_step) := ⟨rfl, rfl, rfl, by decide +kernel, rfl, by decide +kernel, by decide +kernel⟩
def b_BorderAsker_step : List D → M (Out Unit Unit) := p1 (fun a375 => ((((pure (a375) : M D) >>= fldD 0 "here") >>= fun x376 => (pure D.non : M D) >>= fun x377 => notNoneB x376 x377) >>= fun b414 => (if b414 = true then (((((pure (D.str "ask") : M D) >>= fun x382 => ((mthM 0 "tried" (pure (a375) : M D) (pure []) m_BorderAsker_tried) >>= fun x379 => (pure [] : M (List D)) >>= fun xs380 => pure (x379 :: xs380)) >>= fun xs383 => pure (x382 :: xs383)) >>= mkT) >>= fun x385 => pure (.rt x385)) : M (Out (Unit) _)) else (pure (.nx ()))) >>= seqO fun s378 => (((((pure (a375) : M D) >>= fldD 0 "count") >>= fun x391 => (((pure (a375) : M D) >>= fldD 0 "trues") >>= fun x389 => (((pure (a375) : M D) >>= fldD 0 "falses") >>= fun x387 => (pure [] : M (List D)) >>= fun xs388 => pure (x387 :: xs388)) >>= fun xs390 => pure (x389 :: xs390)) >>= fun xs392 => pure (x391 :: xs392)) >>= m_first_open) >>= fun z386 => (((pure (z386) : M D) >>= fun x393 => (pure D.non : M D) >>= fun x394 => isNoneB x393 x394) >>= fun b413 => (if b413 = true then (((((pure (D.str "known") : M D) >>= fun x402 => (((pure (a375) : M D) >>= fldD 0 "trues") >>= fun x399 => (((pure (a375) : M D) >>= fldD 0 "falses") >>= fun x396 => (pure [] : M (List D)) >>= fun xs397 => pure (x396 :: xs397)) >>= fun xs400 => pure (x399 :: xs400)) >>= fun xs403 => pure (x402 :: xs403)) >>= mkT) >>= fun x405 => pure (.rt x405)) : M (Out (Unit) _)) else (pure (.nx ()))) >>= seqO fun s395 => ((((pure (D.str "ask") : M D) >>= fun x409 => ((pure (z386) : M D) >>= fun x406 => (pure [] : M (List D)) >>= fun xs407 => pure (x406 :: xs407)) >>= fun xs410 => pure (x409 :: xs410)) >>= mkT) >>= fun x412 => pure (.rt x412))))))
def m_BorderAsker_step (ds : List D) : M D := runF (b_BorderAsker_step ds)
theorem o_BorderAsker_step {p : Pg} (T : Txt p) {f : Addr} {fd : FuncData} (F : Fun p.K "step" "BorderAsker.step" s_BorderAsker_step f fd) (h_BorderAsker_tried : Mtd p 0 1 "tried" [.v] m_BorderAsker_tried) (h_first_open : Fnc p 1 "first_open" [.v, .v, .v] m_first_open) : FnOk p.P p.w p.K p.mg p.base (L2.CX p.P p.w) 2 f fd ["self"] (spD p [.v] m_BorderAsker_step) :=
  fnok_of (k := 1) (N := ["self", "found"]) (body := b_BorderAsker_step) (shN := fun _ => [.un, .un]) (shB := fun _ => []) F sc_BorderAsker_step rfl (q1 (P := fun ds m => SB _ (argE _ ds ++ _) _ m _ _) (fun a375 => (show SB _ [.sh (a375), .un] _ _ _ _ from (sb_if (J := Unit) (shJ := fun s378 => [.sh (a375), .un]) (tcmp c_nis (el_of (xfld T.k_BorderAsker (.tail _ (.tail _ (.tail _ (.tail _ (.head _))))) (ev 0))) (el_of ee_non)) (sb_ret (ee_tup (ea_cons ee_str (ea_cons (xmeth0 T.k_BorderAsker h_BorderAsker_tried (ev 0)) ea_nil)))) (sb_nil (.eq (.un Le.nil))) fun s378 => (show SB _ [.sh (a375), .un] _ _ _ _ from (s_set 1 sc_BorderAsker_step.nd (xcall h_first_open (av (xfld T.k_BorderAsker (.head _) (ev 0)) (av (xfld T.k_BorderAsker (.tail _ (.head _)) (ev 0)) (av (xfld T.k_BorderAsker (.tail _ (.tail _ (.head _))) (ev 0)) eak_nil)))) (fun z386 => (show SB _ [.sh (a375), .sh (z386)] _ _ _ _ from (sb_if (J := Unit) (shJ := fun s395 => [.sh (a375), .sh (z386)]) (tcmp c_is (el_of (ev 1)) (el_of ee_non)) (sb_ret (ee_tup (ea_cons ee_str (ea_cons (xfld T.k_BorderAsker (.tail _ (.head _)) (ev 0)) (ea_cons (xfld T.k_BorderAsker (.tail _ (.tail _ (.head _))) (ev 0)) ea_nil))))) (sb_nil (.eq (.eq Le.nil))) fun s395 => (show SB _ [.sh (a375), .sh (z386)] _ _ _ _ from (sb_ret (ee_tup (ea_cons ee_str (ea_cons (ev 1) ea_nil))))))))))))))
abbrev s_BorderAsker_tell : Stmt := inClass (topS 19) 5
theorem sc_BorderAsker_tell : FnScope ["self", "bit", "step", "inside", "thing"] ["self", "bit"] (defScope s_BorderAsker_tell) := ⟨rfl, rfl, rfl, by decide +kernel, rfl, by decide +kernel, by decide +kernel⟩
def b_BorderAsker_tell : List D → M (Out Unit Unit) := p2 (fun a415 a416 => ((mthM 0 "step" (pure (a415) : M D) (pure []) m_BorderAsker_step) >>= fun z417 => ((((pure (z417) : M D) >>= fun x418 => (pure (D.int 0) : M D) >>= fun x419 => ixD x418 x419) >>= fun x420 => (pure (D.str "known") : M D) >>= fun x421 => eqB x420 x421) >>= fun b468 => (if b468 = true then (stuck : M (Out (Unit) _)) else (pure (.nx ()))) >>= seqO fun s422 => ((pure (a415) : M D) >>= fun x423 => fldD 0 "asks" x423 >>= fun u424 => (pure (D.int 1) : M D) >>= fun x425 => addI u424 x425 >>= fun z426 => setF 0 "asks" x423 z426 >>= fun u427 => ((((pure (a415) : M D) >>= fldD 0 "here") >>= fun x428 => (pure D.non : M D) >>= fun x429 => isNoneB x428 x429) >>= fun b467 => (if b467 = true then ((((pure (z417) : M D) >>= fun x431 => (pure (D.int 1) : M D) >>= fun x432 => ixD x431 x432) >>= fun x433 => (pure (a415) : M D) >>= fun x434 => setF 0 "here" x434 x433 >>= fun u435 => ((pure (a416) : M D) >>= fun x436 => (pure (a415) : M D) >>= fun x437 => setF 0 "bit" x437 x436 >>= fun u438 => (((((pure (z417) : M D) >>= fun x440 => (pure (D.int 1) : M D) >>= fun x441 => ixD x440 x441) >>= fun x442 => (pure [] : M (List D)) >>= fun xs443 => pure (x442 :: xs443)) >>= m_things_in) >>= fun z439 => ((((pure (a416) : M D) >>= truth) >>= fun b447 => if b447 = true then (pure (z439) : M D) else (lcM (((pure (a415) : M D) >>= fldD 0 "count") >>= range1) nm (p1 (fun v444 => ((pure (v444) : M D) >>= fun x445 => (pure (z439) : M D) >>= fun x446 => inB true x445 x446))) (p1 (fun v444 => (pure (v444) : M D))))) >>= fun x448 => (pure (a415) : M D) >>= fun x449 => setF 0 "left" x449 x448 >>= fun u450 => (pure (.nx ())))))) : M (Out (Unit) _)) else (((pure (a416) : M D) >>= fun x451 => ((pure (a415) : M D) >>= fldD 0 "bit") >>= fun x452 => eqB x451 x452) >>= fun b465 => (if b465 = true then ((((pure (z417) : M D) >>= fun x454 => (pure (D.int 1) : M D) >>= fun x455 => ixD x454 x455) >>= fun x456 => (pure (a415) : M D) >>= fun x457 => setF 0 "here" x457 x456 >>= fun u458 => (pure (.nx ()))) : M (Out (Unit) _)) else (pure (.nx ()))) >>= seqO fun s453 => ((((pure (a415) : M D) >>= fldD 0 "left") >>= fun x459 => ((pure (D.int 1) : M D) >>= intM) >>= fun l460 => (pure none : M (Option Int)) >>= fun h461 => slL l460 h461 x459) >>= fun x462 => (pure (a415) : M D) >>= fun x463 => setF 0 "left" x463 x462 >>= fun u464 => (pure (.nx ()))))) >>= seqO fun s430 => ((mthM 0 "go_on" (pure (a415) : M D) (pure []) m_BorderAsker_go_on) >>= fun u466 => (pure (.nx ()))))))))
def m_BorderAsker_tell (ds : List D) : M D := runF (b_BorderAsker_tell ds)
theorem o_BorderAsker_tell {p : Pg} (T : Txt p) {f : Addr} {fd : FuncData} (F : Fun p.K "tell" "BorderAsker.tell" s_BorderAsker_tell f fd) (h_BorderAsker_step : Mtd p 0 2 "step" [.v] m_BorderAsker_step) (h_things_in : Fnc p 1 "things_in" [.v] m_things_in) (h_BorderAsker_go_on : Mtd p 0 2 "go_on" [.v] m_BorderAsker_go_on) : FnOk p.P p.w p.K p.mg p.base (L2.CX p.P p.w) 3 f fd ["self", "bit"] (spD p [.v, .v] m_BorderAsker_tell) :=
  fnok_of (k := 2) (N := ["self", "bit", "step", "inside", "thing"]) (body := b_BorderAsker_tell) (shN := fun _ => [.un, .un, .un, .un, .un]) (shB := fun _ => []) F sc_BorderAsker_tell rfl (q2 (P := fun ds m => SB _ (argE _ ds ++ _) _ m _ _) (fun a415 a416 => (show SB _ [.sh (a415), .sh (a416), .un, .un, .un] _ _ _ _ from (s_set 2 sc_BorderAsker_tell.nd (xmeth0 T.k_BorderAsker h_BorderAsker_step (ev 0)) (fun z417 => (show SB _ [.sh (a415), .sh (a416), .sh (z417), .un, .un] _ _ _ _ from (sb_if (J := Unit) (shJ := fun s422 => [.sh (a415), .sh (a416), .sh (z417), .un, .un]) (tcmp c_eq (el_of (xix (el_of (ev 2)) (el_of ee_int))) (el_of ee_str)) sb_never (sb_nil (.eq (.eq (.eq (.un (.un Le.nil)))))) fun s422 => (show SB _ [.sh (a415), .sh (a416), .sh (z417), .un, .un] _ _ _ _ from (s_faug T.k_BorderAsker (.tail _ (.tail _ (.tail _ (.head _)))) (ev 0) ee_int (show SB _ [.sh (a415), .sh (a416), .sh (z417), .un, .un] _ _ _ _ from (sb_if (J := Unit) (shJ := fun s430 => [.sh (a415), .sh (a416), .sh (z417), .un, .un]) (tcmp c_is (el_of (xfld T.k_BorderAsker (.tail _ (.tail _ (.tail _ (.tail _ (.head _))))) (ev 0))) (el_of ee_non)) (s_fset T.k_BorderAsker (.tail _ (.tail _ (.tail _ (.tail _ (.head _))))) (xix (el_of (ev 2)) (el_of ee_int)) (ev 0) (show SB _ [.sh (a415), .sh (a416), .sh (z417), .un, .un] _ _ _ _ from (s_fset T.k_BorderAsker (.tail _ (.tail _ (.tail _ (.tail _ (.tail _ (.tail _ (.head _))))))) (ev 1) (ev 0) (show SB _ [.sh (a415), .sh (a416), .sh (z417), .un, .un] _ _ _ _ from (s_set 3 sc_BorderAsker_tell.nd (xcall h_things_in (av (xix (el_of (ev 2)) (el_of ee_int)) eak_nil)) (fun z439 => (show SB _ [.sh (a415), .sh (a416), .sh (z417), .sh (z439), .un] _ _ _ _ from (s_fset T.k_BorderAsker (.tail _ (.tail _ (.tail _ (.tail _ (.tail _ (.head _)))))) (ex_if back_RE (ttr (el_of (ev 1))) (ev 3) (ee_new (en_comp (c_lc sc_BorderAsker_tell.nd [("thing", 4)] (ei_range1 (by rfl) T.b_range (el_of (xfld T.k_BorderAsker (.head _) (ev 0)))) (tn 4 sc_BorderAsker_tell.nd) nm_pure nm_len (q1 (P := fun ds m => ETs (Sta.blk _ _) (setE (wipeE _ _) _ ds) _ m) (fun v444 => (show ETs _ [.sh (a415), .sh (a416), .sh (z417), .sh (z439), .sh (v444)] _ _ from (ets_one (tcmp c_nin (el_of (ev 4)) (el_of (ev 3))))))) (q1 (P := fun ds m => EE (Sta.blk _ _) (setE (wipeE _ _) _ ds) _ m) (fun v444 => (show EE _ [.sh (a415), .sh (a416), .sh (z417), .sh (z439), .sh (v444)] _ _ from (ev 4)))))))) (ev 0) (show SB _ [.sh (a415), .sh (a416), .sh (z417), .sh (z439), .un] _ _ _ _ from (sb_nil (.eq (.eq (.eq (.un (.un Le.nil))))))))))))))) (sb_if (J := Unit) (shJ := fun s453 => [.sh (a415), .sh (a416), .sh (z417), .un, .un]) (tcmp c_eq (el_of (ev 1)) (el_of (xfld T.k_BorderAsker (.tail _ (.tail _ (.tail _ (.tail _ (.tail _ (.tail _ (.head _))))))) (ev 0)))) (s_fset T.k_BorderAsker (.tail _ (.tail _ (.tail _ (.tail _ (.head _))))) (xix (el_of (ev 2)) (el_of ee_int)) (ev 0) (show SB _ [.sh (a415), .sh (a416), .sh (z417), .un, .un] _ _ _ _ from (sb_nil (.eq (.eq (.eq (.un (.un Le.nil)))))))) (sb_nil (.eq (.eq (.eq (.un (.un Le.nil)))))) fun s453 => (show SB _ [.sh (a415), .sh (a416), .sh (z417), .un, .un] _ _ _ _ from (s_fset T.k_BorderAsker (.tail _ (.tail _ (.tail _ (.tail _ (.tail _ (.head _)))))) (ee_new (en_slL (el_of (xfld T.k_BorderAsker (.tail _ (.tail _ (.tail _ (.tail _ (.tail _ (.head _)))))) (ev 0))) (eo_some (el_of ee_int)) eo_none)) (ev 0) (show SB _ [.sh (a415), .sh (a416), .sh (z417), .un, .un] _ _ _ _ from (sb_nil (.eq (.eq (.eq (.un (.un Le.nil)))))))))) fun s430 => (show SB _ [.sh (a415), .sh (a416), .sh (z417), .un, .un] _ _ _ _ from (s_expr (el_of (xmeth0 T.k_BorderAsker h_BorderAsker_go_on (ev 0))) (show SB _ [.sh (a415), .sh (a416), .sh (z417), .un, .un] _ _ _ _ from (sb_nil (.un (.un (.un (.un (.un Le.nil))))))))))))))))))))
abbrev s_BorderAsker_asked : Stmt := inClass (topS 19) 6
theorem sc_BorderAsker_asked : FnScope ["self"] ["self"] (defScope s_BorderAsker_asked) := ⟨rfl, rfl, rfl, by decide +kernel, rfl, by decide +kernel, by decide +kernel⟩
def b_BorderAsker_asked : List D → M (Out Unit Unit) := p1 (fun a469 => (((pure (a469) : M D) >>= fldD 0 "asks") >>= fun x470 => pure (.rt x470)))
def m_BorderAsker_asked (ds : List D) : M D := runF (b_BorderAsker_asked ds)
theorem o_BorderAsker_asked {p : Pg} (T : Txt p) {f : Addr} {fd : FuncData} (F : Fun p.K "asked" "BorderAsker.asked" s_BorderAsker_asked f fd)  : FnOk p.P p.w p.K p.mg p.base (L2.CX p.P p.w) 1 f fd ["self"] (spD p [.v] m_BorderAsker_asked) :=
  fnok_of (k := 0) (N := ["self"]) (body := b_BorderAsker_asked) (shN := fun _ => [.un]) (shB := fun _ => []) F sc_BorderAsker_asked rfl (q1 (P := fun ds m => SB _ (argE _ ds ++ _) _ m _ _) (fun a469 => (show SB _ [.sh (a469)] _ _ _ _ from (sb_ret (xfld T.k_BorderAsker (.tail _ (.tail _ (.tail _ (.head _)))) (ev 0))))))
abbrev s_asks_for : Stmt := topS 20
theorem sc_asks_for : FnScope ["count", "trues", "asker", "step", "true"] ["count", "trues"] (defScope s_asks_for) := ⟨rfl, rfl, rfl, by decide +kernel, rfl, by decide +kernel, by decide +kernel⟩
def b_asks_for : List D → M (Out Unit Unit) := p2 (fun a471 a472 => ((((pure (a471) : M D) >>= fun x475 => ((pure (a472) : M D) >>= fun x473 => (pure [] : M (List D)) >>= fun xs474 => pure (x473 :: xs474)) >>= fun xs476 => pure (x475 :: xs476)) >>= m_check_border) >>= fun u505 => ((mkM 0 ((pure (a471) : M D) >>= fun x478 => (pure [] : M (List D)) >>= fun xs479 => pure (x478 :: xs479)) m_BorderAsker___init__) >>= fun z477 => ((mthM 0 "step" (pure (z477) : M D) (pure []) m_BorderAsker_step) >>= fun z480 => (whileL (fun (s481 : D) => (((pure (s481) : M D) >>= fun x482 => (pure (D.int 0) : M D) >>= fun x483 => ixD x482 x483) >>= fun x484 => (pure (D.str "ask") : M D) >>= fun x485 => eqB x484 x485)) (fun s481 => ((mthM 0 "tell" (pure (z477) : M D) (((lcM ((pure (a472) : M D) >>= items) nm (p1 (fun v486 => (pure true : M Bool))) (p1 (fun v486 => (((pure (v486) : M D) >>= fun x498 => (((pure (s481) : M D) >>= fun x496 => (pure (D.int 1) : M D) >>= fun x497 => ixD x496 x497) >>= invD) >>= fun x499 => andD x498 x499) >>= fun x494 => (pure (D.int 0) : M D) >>= fun x495 => eqB x494 x495 >>= fun b493 => (pure (D.bl b493) : M D))))) >>= anyD) >>= fun x500 => (pure [] : M (List D)) >>= fun xs501 => pure (x500 :: xs501)) m_BorderAsker_tell) >>= fun u503 => ((mthM 0 "step" (pure (z477) : M D) (pure []) m_BorderAsker_step) >>= fun z502 => (pure (.nx (z502)))))) 1000 (z480) >>= seqO fun s481 => ((mthM 0 "asked" (pure (z477) : M D) (pure []) m_BorderAsker_asked) >>= fun x504 => pure (.rt x504)))))))
def m_asks_for (ds : List D) : M D := runF (b_asks_for ds)
theorem o_asks_for {p : Pg} (T : Txt p) {f : Addr} {fd : FuncData} (F : Fun p.K "asks_for" "asks_for" s_asks_for f fd) (h_check_border : Fnc p 3 "check_border" [.v, .v] m_check_border) (h_BorderAsker___init__ : Mkr p 0 2 "BorderAsker" [.v, .v] m_BorderAsker___init__) (h_BorderAsker_step : Mtd p 0 2 "step" [.v] m_BorderAsker_step) (h_BorderAsker_tell : Mtd p 0 3 "tell" [.v, .v] m_BorderAsker_tell) (h_BorderAsker_asked : Mtd p 0 1 "asked" [.v] m_BorderAsker_asked) : FnOk p.P p.w p.K p.mg p.base (L2.CX p.P p.w) 4 f fd ["count", "trues"] (spD p [.v, .v] m_asks_for) :=
  fnok_of (k := 3) (N := ["count", "trues", "asker", "step", "true"]) (body := b_asks_for) (shN := fun _ => [.un, .un, .un, .un, .un]) (shB := fun _ => []) F sc_asks_for rfl (q2 (P := fun ds m => SB _ (argE _ ds ++ _) _ m _ _) (fun a471 a472 => (show SB _ [.sh (a471), .sh (a472), .un, .un, .un] _ _ _ _ from (s_expr (el_of (xcall h_check_border (av (ev 0) (av (ev 1) eak_nil)))) (show SB _ [.sh (a471), .sh (a472), .un, .un, .un] _ _ _ _ from (s_set 2 sc_asks_for.nd (xmake h_BorderAsker___init__ (av (ev 0) eak_nil)) (fun z477 => (show SB _ [.sh (a471), .sh (a472), .sh (z477), .un, .un] _ _ _ _ from (s_set 3 sc_asks_for.nd (xmeth0 T.k_BorderAsker h_BorderAsker_step (ev 2)) (fun z480 => (show SB _ [.sh (a471), .sh (a472), .sh (z477), .sh (z480), .un] _ _ _ _ from (sb_while (Z := D) (sh := fun s481 => [.sh (a471), .sh (a472), .sh (z477), .sh (s481), .un]) (fun s481 => (show ET _ [.sh (a471), .sh (a472), .sh (z477), .sh (s481), .un] _ _ from (tcmp c_eq (el_of (xix (el_of (ev 3)) (el_of ee_int))) (el_of ee_str)))) (.eq (.eq (.eq (.eq (.un Le.nil))))) (fun s481 => (show SB _ [.sh (a471), .sh (a472), .sh (z477), .sh (s481), .un] _ _ _ _ from (s_expr (el_of (xmeth T.k_BorderAsker h_BorderAsker_tell (ev 2) (av (ee_any (b_any T.b_any) (el_new (en_comp (c_lc sc_asks_for.nd [("true", 4)] (ei_read (el_of (ev 1))) (tn 4 sc_asks_for.nd) nm_pure nm_len (q1 (P := fun ds m => ETs (Sta.blk _ _) (setE (wipeE _ _) _ ds) _ m) (fun v486 => (show ETs _ [.sh (a471), .sh (a472), .sh (z477), .sh (s481), .sh (v486)] _ _ from ets_nil))) (q1 (P := fun ds m => EE (Sta.blk _ _) (setE (wipeE _ _) _ ds) _ m) (fun v486 => (show EE _ [.sh (a471), .sh (a472), .sh (z477), .sh (s481), .sh (v486)] _ _ from (xcmp c_eq (el_of (ee_and (el_of (ev 4)) (el_of (ee_inv (el_of (xix (el_of (ev 3)) (el_of ee_int))))))) (el_of ee_int))))))))) eak_nil))) (show SB _ [.sh (a471), .sh (a472), .sh (z477), .sh (s481), .un] _ _ _ _ from (s_set 3 sc_asks_for.nd (xmeth0 T.k_BorderAsker h_BorderAsker_step (ev 2)) (fun z502 => (show SB _ [.sh (a471), .sh (a472), .sh (z477), .sh (z502), .un] _ _ _ _ from (sb_nil (.eq (.eq (.eq (.eq (.un Le.nil))))))))))))) fun s481 => (show SB _ [.sh (a471), .sh (a472), .sh (z477), .sh (s481), .un] _ _ _ _ from (sb_ret (xmeth0 T.k_BorderAsker h_BorderAsker_asked (ev 2))))))))))))))))
abbrev s__law_stream : Stmt := topS 22
theorem sc__law_stream : FnScope ["script", "numbers", "cell", "rest", "k", "mixed"] ["script"] (defScope s__law_stream) := ⟨rfl, rfl, rfl, by decide +kernel, rfl, by decide +kernel, by decide +kernel⟩
def b__law_stream : List D → M (Out Unit Unit) := p1 (fun a506 => (((pure [] : M (List D)) >>= mkL) >>= fun z507 => ((((pure (a506) : M D) >>= fun x508 => (pure none : M (Option Int)) >>= fun l509 => ((pure (D.int 63) : M D) >>= intM) >>= fun h510 => slL l509 h510 x508) >>= items) >>= fun xs573 => forL (fun (s511 : D) x574 => nm x574 >>= p1 (fun v512 => ((((pure (v512) : M D) >>= intD) >>= absD) >>= fun z513 => (((pure (z513) : M D) >>= fun x516 => ((pure (D.int 10) : M D) >>= fun x514 => (pure (D.int 18) : M D) >>= fun x515 => powD x514 x515) >>= fun x517 => geB x516 x517) >>= fun b564 => (if b564 = true then ((((pure (D.int 60) : M D) >>= range1) >>= fun xs533 => forL (fun (s519 : D × D) x534 => nm x534 >>= p1 (fun v520 => (lstD s519.1 >>= fun ds525 => (((pure (s519.2) : M D) >>= intD) >>= fun x521 => (pure (D.int 1009) : M D) >>= fun x522 => modD x521 x522) >>= fun x524 => appL ds525 x524 >>= fun z523 => (((pure (s519.2) : M D) >>= fun x527 => (pure (D.int 1009) : M D) >>= fun x528 => divD x527 x528) >>= fun z526 => (((pure (z526) : M D) >>= fun x529 => (pure (D.int 0) : M D) >>= fun x530 => eqB x529 x530) >>= fun b532 => (if b532 = true then ((pure (.bk (z523, z526))) : M (Out (Unit) _)) else (pure (.nx ()))) >>= seqO fun s531 => (pure (.nx (z523, z526)))))))) (s511, z513) xs533 >>= seqO fun s519 => (pure (.nx (s519.1)))) : M (Out (D) _)) else ((((pure (z513) : M D) >>= intD) >>= fun x536 => (pure (D.int 2147483647) : M D) >>= fun x537 => modD x536 x537) >>= fun z535 => (((pure (D.int 10) : M D) >>= range1) >>= fun xs562 => forL (fun (s538 : D × D) x563 => nm x563 >>= p1 (fun v539 => (((((((pure (s538.2) : M D) >>= fun x541 => (pure (D.int 48271) : M D) >>= fun x542 => mulD x541 x542) >>= fun x545 => ((pure (D.int 7) : M D) >>= fun x543 => (pure (v539) : M D) >>= fun x544 => mulD x543 x544) >>= fun x546 => addD x545 x546) >>= fun x547 => (pure (D.int 11) : M D) >>= fun x548 => addD x547 x548) >>= intD) >>= fun x549 => (pure (D.int 2147483647) : M D) >>= fun x550 => modD x549 x550) >>= fun z540 => (lstD s538.1 >>= fun ds561 => ((((((pure (z540) : M D) >>= fun x551 => (pure (D.int 69621) : M D) >>= fun x552 => mulD x551 x552) >>= fun x553 => (pure (v539) : M D) >>= fun x554 => addD x553 x554) >>= intD) >>= fun x555 => (pure (D.int 2147483629) : M D) >>= fun x556 => modD x555 x556) >>= fun x557 => (pure (D.int 1009) : M D) >>= fun x558 => modD x557 x558) >>= fun x560 => appL ds561 x560 >>= fun z559 => (pure (.nx (z559, z540))))))) (s511, z535) xs562 >>= seqO fun s538 => (pure (.nx (s538.1)))))) >>= seqO fun s518 => (pure (.nx (s518))))))) (z507) xs573 >>= seqO fun s511 => ((((pure (s511) : M D) >>= lenD) >>= fun x565 => (pure (D.int 0) : M D) >>= fun x566 => eqB x565 x566) >>= fun b572 => (if b572 = true then ((lstD s511 >>= fun ds570 => (pure (D.int 0) : M D) >>= fun x569 => appL ds570 x569 >>= fun z568 => (pure (.nx (z568)))) : M (Out (D) _)) else (pure (.nx (s511)))) >>= seqO fun s567 => ((pure (s567) : M D) >>= fun x571 => pure (.rt x571))))))
def m__law_stream (ds : List D) : M D := runF (b__law_stream ds)
theorem o__law_stream {p : Pg} (T : Txt p) {f : Addr} {fd : FuncData} (F : Fun p.K "_law_stream" "_law_stream" s__law_stream f fd)  : FnOk p.P p.w p.K p.mg p.base (L2.CX p.P p.w) 1 f fd ["script"] (spD p [.v] m__law_stream) :=
  fnok_of (k := 0) (N := ["script", "numbers", "cell", "rest", "k", "mixed"]) (body := b__law_stream) (shN := fun _ => [.un, .un, .un, .un, .un, .un]) (shB := fun _ => []) F sc__law_stream rfl (q1 (P := fun ds m => SB _ (argE _ ds ++ _) _ m _ _) (fun a506 => (show SB _ [.sh (a506), .un, .un, .un, .un, .un] _ _ _ _ from (s_setN 1 sc__law_stream.nd (en_lst ea_nil) (fun z507 => (show SB _ [.sh (a506), .ow (z507), .un, .un, .un, .un] _ _ _ _ from (s_for (Z := D) (sh := fun s511 => [.sh (a506), .ow (s511), .un, .un, .un, .un]) (ei_seq (ee_new (en_slL (el_of (ev 0)) eo_none (eo_some (el_of ee_int))))) (tn 2 sc__law_stream.nd) nm_pure nm_len (.eq (.eq (.un (.un (.un (.un Le.nil)))))) (fun s511 => q1 (P := fun ds m => SB _ (setE _ _ ds) _ m _ _) (fun v512 => (show SB _ [.sh (a506), .ow (s511), .sh (v512), .un, .un, .un] _ _ _ _ from (s_set 3 sc__law_stream.nd (ee_abs (b_abs T.b_abs) (el_of (ee_intc (b_int T.b_int) (el_of (ev 2))))) (fun z513 => (show SB _ [.sh (a506), .ow (s511), .sh (v512), .sh (z513), .un, .un] _ _ _ _ from (sb_if (J := D) (shJ := fun s518 => [.sh (a506), .ow (s518), .sh (v512), .un, .un, .un]) (tcmp c_ge (el_of (ev 3)) (el_of (ee_pow (el_of ee_int) (el_of ee_int)))) (s_for (Z := D × D) (sh := fun s519 => [.sh (a506), .ow (s519.1), .sh (v512), .sh (s519.2), .un, .un]) (ei_range1 (by rfl) T.b_range (el_of ee_int)) (tn 4 sc__law_stream.nd) nm_pure nm_len (.eq (.eq (.eq (.eq (.un (.un Le.nil)))))) (fun s519 => q1 (P := fun ds m => SB _ (setE _ _ ds) _ m _ _) (fun v520 => (show SB _ [.sh (a506), .ow (s519.1), .sh (v512), .sh (s519.2), .sh (v520), .un] _ _ _ _ from (s_append 1 (ee_mod (el_of (ee_intc (b_int T.b_int) (el_of (ev 3)))) (el_of ee_int)) fun z523 => (show SB _ [.sh (a506), .ow (z523), .sh (v512), .sh (s519.2), .sh (v520), .un] _ _ _ _ from (s_set 3 sc__law_stream.nd (ee_div (el_of (ev 3)) (el_of ee_int)) (fun z526 => (show SB _ [.sh (a506), .ow (z523), .sh (v512), .sh (z526), .sh (v520), .un] _ _ _ _ from (sb_if (J := Unit) (shJ := fun s531 => [.sh (a506), .ow (z523), .sh (v512), .sh (z526), .sh (v520), .un]) (tcmp c_eq (el_of (ev 3)) (el_of ee_int)) (sb_break (.eq (.eq (.eq (.eq (.un (.un Le.nil))))))) (sb_nil (.eq (.eq (.eq (.eq (.eq (.un Le.nil))))))) fun s531 => (show SB _ [.sh (a506), .ow (z523), .sh (v512), .sh (z526), .sh (v520), .un] _ _ _ _ from (sb_nil (.eq (.eq (.eq (.eq (.un (.un Le.nil))))))))))))))))) fun s519 => (show SB _ [.sh (a506), .ow (s519.1), .sh (v512), .sh (s519.2), .un, .un] _ _ _ _ from (sb_nil (.eq (.eq (.eq (.un (.un (.un Le.nil))))))))) (s_set 5 sc__law_stream.nd (ee_mod (el_of (ee_intc (b_int T.b_int) (el_of (ev 3)))) (el_of ee_int)) (fun z535 => (show SB _ [.sh (a506), .ow (s511), .sh (v512), .sh (z513), .un, .sh (z535)] _ _ _ _ from (s_for (Z := D × D) (sh := fun s538 => [.sh (a506), .ow (s538.1), .sh (v512), .sh (z513), .un, .sh (s538.2)]) (ei_range1 (by rfl) T.b_range (el_of ee_int)) (tn 4 sc__law_stream.nd) nm_pure nm_len (.eq (.eq (.eq (.eq (.un (.eq Le.nil)))))) (fun s538 => q1 (P := fun ds m => SB _ (setE _ _ ds) _ m _ _) (fun v539 => (show SB _ [.sh (a506), .ow (s538.1), .sh (v512), .sh (z513), .sh (v539), .sh (s538.2)] _ _ _ _ from (s_set 5 sc__law_stream.nd (ee_mod (el_of (ee_intc (b_int T.b_int) (el_of (ee_add (el_of (ee_add (el_of (ee_mul (el_of (ev 5)) (el_of ee_int))) (el_of (ee_mul (el_of ee_int) (el_of (ev 4)))))) (el_of ee_int))))) (el_of ee_int)) (fun z540 => (show SB _ [.sh (a506), .ow (s538.1), .sh (v512), .sh (z513), .sh (v539), .sh (z540)] _ _ _ _ from (s_append 1 (ee_mod (el_of (ee_mod (el_of (ee_intc (b_int T.b_int) (el_of (ee_add (el_of (ee_mul (el_of (ev 5)) (el_of ee_int))) (el_of (ev 4)))))) (el_of ee_int))) (el_of ee_int)) fun z559 => (show SB _ [.sh (a506), .ow (z559), .sh (v512), .sh (z513), .sh (v539), .sh (z540)] _ _ _ _ from (sb_nil (.eq (.eq (.eq (.eq (.un (.eq Le.nil))))))))))))))) fun s538 => (show SB _ [.sh (a506), .ow (s538.1), .sh (v512), .sh (z513), .un, .sh (s538.2)] _ _ _ _ from (sb_nil (.eq (.eq (.eq (.un (.un (.un Le.nil)))))))))))) fun s518 => (show SB _ [.sh (a506), .ow (s518), .sh (v512), .un, .un, .un] _ _ _ _ from (sb_nil (.eq (.eq (.un (.un (.un (.un Le.nil))))))))))))))) fun s511 => (show SB _ [.sh (a506), .ow (s511), .un, .un, .un, .un] _ _ _ _ from (sb_if (J := D) (shJ := fun s567 => [.sh (a506), .ow (s567), .un, .un, .un, .un]) (tcmp c_eq (el_of (ee_len (b_len T.b_len) (evo 1))) (el_of ee_int)) (s_append 1 ee_int fun z568 => (show SB _ [.sh (a506), .ow (z568), .un, .un, .un, .un] _ _ _ _ from (sb_nil (.eq (.eq (.un (.un (.un (.un Le.nil))))))))) (sb_nil (.eq (.eq (.un (.un (.un (.un Le.nil))))))) fun s567 => (show SB _ [.sh (a506), .ow (s567), .un, .un, .un, .un] _ _ _ _ from (sb_freeze 1 (by rfl) (show SB _ [.sh (a506), .sh (s567), .un, .un, .un, .un] _ _ _ _ from (sb_ret (ev 1))))))))))))))
abbrev s__law_next : Stmt := topS 23
theorem sc__law_next : FnScope ["state", "many", "turn"] ["state", "many"] (defScope s__law_next) := ⟨rfl, rfl, rfl, by decide +kernel, rfl, by decide +kernel, by decide +kernel⟩
def b__law_next : List D → M (Out Unit Unit) := p2 (fun a575 a576 => ((((pure (a575) : M D) >>= fun x577 => (pure (D.int 1) : M D) >>= fun x578 => ixD x577 x578) >>= fun x579 => (pure (D.int 1) : M D) >>= fun x580 => addD x579 x580) >>= fun x581 => (pure (a575) : M D) >>= fun x582 => (pure (D.int 1) : M D) >>= fun x583 => cellSet x582 x583 x581 >>= fun u584 => ((((pure (a575) : M D) >>= fun x586 => (pure (D.int 1) : M D) >>= fun x587 => ixD x586 x587) >>= fun x590 => (((pure (a575) : M D) >>= fun x588 => (pure (D.int 0) : M D) >>= fun x589 => ixD x588 x589) >>= lenD) >>= fun x591 => divD x590 x591) >>= fun z585 => ((((((((pure (a575) : M D) >>= fun x592 => (pure (D.int 0) : M D) >>= fun x593 => ixD x592 x593) >>= fun x600 => (((pure (a575) : M D) >>= fun x594 => (pure (D.int 1) : M D) >>= fun x595 => ixD x594 x595) >>= fun x598 => (((pure (a575) : M D) >>= fun x596 => (pure (D.int 0) : M D) >>= fun x597 => ixD x596 x597) >>= lenD) >>= fun x599 => modD x598 x599) >>= fun x601 => ixD x600 x601) >>= fun x604 => ((pure (z585) : M D) >>= fun x602 => (pure (D.int 389) : M D) >>= fun x603 => mulD x602 x603) >>= fun x605 => addD x604 x605) >>= fun x612 => ((((pure (a575) : M D) >>= fun x606 => (pure (D.int 1) : M D) >>= fun x607 => ixD x606 x607) >>= fun x608 => (pure (z585) : M D) >>= fun x609 => mulD x608 x609) >>= fun x610 => (pure (D.int 17) : M D) >>= fun x611 => mulD x610 x611) >>= fun x613 => addD x612 x613) >>= intD) >>= fun x614 => (pure (a576) : M D) >>= fun x615 => modD x614 x615) >>= fun x616 => pure (.rt x616)))))
def m__law_next (ds : List D) : M D := runF (b__law_next ds)
theorem o__law_next {p : Pg} (T : Txt p) {f : Addr} {fd : FuncData} (F : Fun p.K "_law_next" "_law_next" s__law_next f fd)  : FnOk p.P p.w p.K p.mg p.base (L2.CX p.P p.w) 1 f fd ["state", "many"] (spD p [.v, .v] m__law_next) :=
  fnok_of (k := 0) (N := ["state", "many", "turn"]) (body := b__law_next) (shN := fun _ => [.un, .un, .un]) (shB := fun _ => []) F sc__law_next rfl (q2 (P := fun ds m => SB _ (argE _ ds ++ _) _ m _ _) (fun a575 a576 => (show SB _ [.sh (a575), .sh (a576), .un] _ _ _ _ from (s_cset (ee_add (el_of (xix (el_of (ev 0)) (el_of ee_int))) (el_of ee_int)) (ev 0) ee_int (show SB _ [.sh (a575), .sh (a576), .un] _ _ _ _ from (s_set 2 sc__law_next.nd (ee_div (el_of (xix (el_of (ev 0)) (el_of ee_int))) (el_of (ee_len (b_len T.b_len) (el_of (xix (el_of (ev 0)) (el_of ee_int)))))) (fun z585 => (show SB _ [.sh (a575), .sh (a576), .sh (z585)] _ _ _ _ from (sb_ret (ee_mod (el_of (ee_intc (b_int T.b_int) (el_of (ee_add (el_of (ee_add (el_of (xix (el_of (xix (el_of (ev 0)) (el_of ee_int))) (el_of (ee_mod (el_of (xix (el_of (ev 0)) (el_of ee_int))) (el_of (ee_len (b_len T.b_len) (el_of (xix (el_of (ev 0)) (el_of ee_int))))))))) (el_of (ee_mul (el_of (ev 2)) (el_of ee_int))))) (el_of (ee_mul (el_of (ee_mul (el_of (xix (el_of (ev 0)) (el_of ee_int))) (el_of (ev 2)))) (el_of ee_int))))))) (el_of (ev 1))))))))))))
abbrev s__law_least : Stmt := topS 24
theorem sc__law_least : FnScope ["sets", "rows", "one", "other"] ["sets"] (defScope s__law_least) := ⟨rfl, rfl, rfl, by decide +kernel, rfl, by decide +kernel, by decide +kernel⟩
def b__law_least : List D → M (Out Unit Unit) := p1 (fun a617 => (((pure (a617) : M D) >>= ssortD) >>= fun z618 => (((lcM ((pure (z618) : M D) >>= items) nm (p1 (fun v619 => ((((lcM ((pure (z618) : M D) >>= items) nm (p1 (fun v620 => (pure true : M Bool))) (p1 (fun v620 => (((pure (v620) : M D) >>= fun x624 => (pure (v619) : M D) >>= fun x625 => neB x624 x625 >>= fun b623 => (pure (D.bl b623) : M D)) >>= fun x635 => truth x635 >>= fun b636 => if b636 = true then (((pure (v620) : M D) >>= fun x633 => ((pure (v619) : M D) >>= invD) >>= fun x634 => andD x633 x634) >>= fun x631 => (pure (D.int 0) : M D) >>= fun x632 => eqB x631 x632 >>= fun b630 => (pure (D.bl b630) : M D)) else (pure x635 : M D))))) >>= anyD) >>= truth) >>= fun b637 => (pure (!b637) : M Bool)))) (p1 (fun v619 => (pure (v619) : M D)))) >>= tupleD) >>= fun x638 => pure (.rt x638))))
def m__law_least (ds : List D) : M D := runF (b__law_least ds)
theorem o__law_least {p : Pg} (T : Txt p) {f : Addr} {fd : FuncData} (F : Fun p.K "_law_least" "_law_least" s__law_least f fd)  : FnOk p.P p.w p.K p.mg p.base (L2.CX p.P p.w) 1 f fd ["sets"] (spD p [.v] m__law_least) :=
  fnok_of (k := 0) (N := ["sets", "rows", "one", "other"]) (body := b__law_least) (shN := fun _ => [.un, .un, .un, .un]) (shB := fun _ => []) F sc__law_least rfl (q1 (P := fun ds m => SB _ (argE _ ds ++ _) _ m _ _) (fun a617 => (show SB _ [.sh (a617), .un, .un, .un] _ _ _ _ from (s_set 1 sc__law_least.nd (ee_new (en_sset (b_sorted T.b_sorted) (b_set T.b_set) (el_of (ev 0)))) (fun z618 => (show SB _ [.sh (a617), .sh (z618), .un, .un] _ _ _ _ from (sb_ret (ee_tuplec (b_tuple T.b_tuple) (el_new (en_comp (c_lc sc__law_least.nd [("one", 2)] (ei_read (el_of (ev 1))) (tn 2 sc__law_least.nd) nm_pure nm_len (q1 (P := fun ds m => ETs (Sta.blk _ _) (setE (wipeE _ _) _ ds) _ m) (fun v619 => (show ETs _ [.sh (a617), .sh (z618), .sh (v619), .un] _ _ from (ets_one (et_not (ttr (el_of (ee_any (b_any T.b_any) (el_new (en_comp (c_lc sc__law_least.nd [("other", 3)] (ei_read (el_of (ev 1))) (tn 3 sc__law_least.nd) nm_pure nm_len (q1 (P := fun ds m => ETs (Sta.blk _ _) (setE (wipeE _ _) _ ds) _ m) (fun v620 => (show ETs _ [.sh (a617), .sh (z618), .sh (v619), .sh (v620)] _ _ from ets_nil))) (q1 (P := fun ds m => EE (Sta.blk _ _) (setE (wipeE _ _) _ ds) _ m) (fun v620 => (show EE _ [.sh (a617), .sh (z618), .sh (v619), .sh (v620)] _ _ from (ee_and2 (xcmp c_ne (el_of (ev 3)) (el_of (ev 2))) (ee_one (xcmp c_eq (el_of (ee_and (el_of (ev 3)) (el_of (ee_inv (el_of (ev 2)))))) (el_of ee_int)))))))))))))))))) (q1 (P := fun ds m => EE (Sta.blk _ _) (setE (wipeE _ _) _ ds) _ m) (fun v619 => (show EE _ [.sh (a617), .sh (z618), .sh (v619), .un] _ _ from (ev 2)))))))))))))))
abbrev s__law_true : Stmt := topS 25
theorem sc__law_true : FnScope ["trues", "one", "true"] ["trues", "one"] (defScope s__law_true) := ⟨rfl, rfl, rfl, by decide +kernel, rfl, by decide +kernel, by decide +kernel⟩
def b__law_true : List D → M (Out Unit Unit) := p2 (fun a639 a640 => (((lcM ((pure (a639) : M D) >>= items) nm (p1 (fun v641 => (pure true : M Bool))) (p1 (fun v641 => (((pure (v641) : M D) >>= fun x649 => ((pure (a640) : M D) >>= invD) >>= fun x650 => andD x649 x650) >>= fun x647 => (pure (D.int 0) : M D) >>= fun x648 => eqB x647 x648 >>= fun b646 => (pure (D.bl b646) : M D))))) >>= anyD) >>= fun x651 => pure (.rt x651)))
def m__law_true (ds : List D) : M D := runF (b__law_true ds)
theorem o__law_true {p : Pg} (T : Txt p) {f : Addr} {fd : FuncData} (F : Fun p.K "_law_true" "_law_true" s__law_true f fd)  : FnOk p.P p.w p.K p.mg p.base (L2.CX p.P p.w) 1 f fd ["trues", "one"] (spD p [.v, .v] m__law_true) :=
  fnok_of (k := 0) (N := ["trues", "one", "true"]) (body := b__law_true) (shN := fun _ => [.un, .un, .un]) (shB := fun _ => []) F sc__law_true rfl (q2 (P := fun ds m => SB _ (argE _ ds ++ _) _ m _ _) (fun a639 a640 => (show SB _ [.sh (a639), .sh (a640), .un] _ _ _ _ from (sb_ret (ee_any (b_any T.b_any) (el_new (en_comp (c_lc sc__law_true.nd [("true", 2)] (ei_read (el_of (ev 0))) (tn 2 sc__law_true.nd) nm_pure nm_len (q1 (P := fun ds m => ETs (Sta.blk _ _) (setE (wipeE _ _) _ ds) _ m) (fun v641 => (show ETs _ [.sh (a639), .sh (a640), .sh (v641)] _ _ from ets_nil))) (q1 (P := fun ds m => EE (Sta.blk _ _) (setE (wipeE _ _) _ ds) _ m) (fun v641 => (show EE _ [.sh (a639), .sh (a640), .sh (v641)] _ _ from (xcmp c_eq (el_of (ee_and (el_of (ev 2)) (el_of (ee_inv (el_of (ev 1)))))) (el_of ee_int)))))))))))))
abbrev s__law_border : Stmt := topS 26
theorem sc__law_border : FnScope ["state", "count", "kind", "k"] ["state", "count"] (defScope s__law_border) := ⟨rfl, rfl, rfl, by decide +kernel, rfl, by decide +kernel, by decide +kernel⟩
def b__law_border : List D → M (Out Unit Unit) := p2 (fun a652 a653 => ((((pure (a652) : M D) >>= fun x657 => ((pure (D.int 6) : M D) >>= fun x655 => (pure [] : M (List D)) >>= fun xs656 => pure (x655 :: xs656)) >>= fun xs658 => pure (x657 :: xs658)) >>= m__law_next) >>= fun z654 => (((pure (z654) : M D) >>= fun x659 => (pure (D.int 0) : M D) >>= fun x660 => eqB x659 x660) >>= fun b709 => (if b709 = true then (((((((pure [] : M (List D)) >>= mkT) >>= fun x668 => ((((pure (D.int 0) : M D) >>= fun x665 => (pure [] : M (List D)) >>= fun xs666 => pure (x665 :: xs666)) >>= mkT) >>= fun x662 => (pure [] : M (List D)) >>= fun xs663 => pure (x662 :: xs663)) >>= fun xs669 => pure (x668 :: xs669)) >>= mkL) >>= fun x675 => (((pure (a652) : M D) >>= fun x673 => ((pure (D.int 2) : M D) >>= fun x671 => (pure [] : M (List D)) >>= fun xs672 => pure (x671 :: xs672)) >>= fun xs674 => pure (x673 :: xs674)) >>= m__law_next) >>= fun x676 => ixD x675 x676) >>= fun x677 => pure (.rt x677)) : M (Out (Unit) _)) else (pure (.nx ()))) >>= seqO fun s661 => ((((lcM (((pure (D.int 1) : M D) >>= fun x682 => (((pure (a652) : M D) >>= fun x680 => ((pure (D.int 5) : M D) >>= fun x678 => (pure [] : M (List D)) >>= fun xs679 => pure (x678 :: xs679)) >>= fun xs681 => pure (x680 :: xs681)) >>= m__law_next) >>= fun x683 => addD x682 x683) >>= range1) nm (p1 (fun v684 => (pure true : M Bool))) (p1 (fun v684 => ((((pure (a652) : M D) >>= fun x689 => (((pure (D.int 1) : M D) >>= fun x685 => (pure (a653) : M D) >>= fun x686 => shlD x685 x686) >>= fun x687 => (pure [] : M (List D)) >>= fun xs688 => pure (x687 :: xs688)) >>= fun xs690 => pure (x689 :: xs690)) >>= m__law_next) >>= fun x704 => ((((pure (a652) : M D) >>= fun x695 => (((pure (D.int 1) : M D) >>= fun x691 => (pure (a653) : M D) >>= fun x692 => shlD x691 x692) >>= fun x693 => (pure [] : M (List D)) >>= fun xs694 => pure (x693 :: xs694)) >>= fun xs696 => pure (x695 :: xs696)) >>= m__law_next) >>= fun x702 => (((pure (z654) : M D) >>= fun x700 => (pure (D.int 3) : M D) >>= fun x701 => gtB x700 x701 >>= fun b699 => (pure (D.bl b699) : M D)) >>= intD) >>= fun x703 => mulD x702 x703) >>= fun x705 => orD x704 x705)))) >>= fun x706 => (pure [] : M (List D)) >>= fun xs707 => pure (x706 :: xs707)) >>= m__law_least) >>= fun x708 => pure (.rt x708)))))
def m__law_border (ds : List D) : M D := runF (b__law_border ds)
theorem o__law_border {p : Pg} (T : Txt p) {f : Addr} {fd : FuncData} (F : Fun p.K "_law_border" "_law_border" s__law_border f fd) (h__law_next : Fnc p 1 "_law_next" [.v, .v] m__law_next) (h__law_least : Fnc p 1 "_law_least" [.v] m__law_least) : FnOk p.P p.w p.K p.mg p.base (L2.CX p.P p.w) 2 f fd ["state", "count"] (spD p [.v, .v] m__law_border) :=
  fnok_of (k := 1) (N := ["state", "count", "kind", "k"]) (body := b__law_border) (shN := fun _ => [.un, .un, .un, .un]) (shB := fun _ => []) F sc__law_border rfl (q2 (P := fun ds m => SB _ (argE _ ds ++ _) _ m _ _) (fun a652 a653 => (show SB _ [.sh (a652), .sh (a653), .un, .un] _ _ _ _ from (s_set 2 sc__law_border.nd (xcall h__law_next (av (ev 0) (av ee_int eak_nil))) (fun z654 => (show SB _ [.sh (a652), .sh (a653), .sh (z654), .un] _ _ _ _ from (sb_if (J := Unit) (shJ := fun s661 => [.sh (a652), .sh (a653), .sh (z654), .un]) (tcmp c_eq (el_of (ev 2)) (el_of ee_int)) (sb_ret (xix (el_new (en_lst (ea_cons (ee_tup ea_nil) (ea_cons (ee_tup (ea_cons ee_int ea_nil)) ea_nil)))) (el_of (xcall h__law_next (av (ev 0) (av ee_int eak_nil)))))) (sb_nil (.eq (.eq (.eq (.un Le.nil))))) fun s661 => (show SB _ [.sh (a652), .sh (a653), .sh (z654), .un] _ _ _ _ from (sb_ret (xcall h__law_least (av (ee_new (en_comp (c_lc sc__law_border.nd [("k", 3)] (ei_range1 (by rfl) T.b_range (el_of (ee_add (el_of ee_int) (el_of (xcall h__law_next (av (ev 0) (av ee_int eak_nil))))))) (tn 3 sc__law_border.nd) nm_pure nm_len (q1 (P := fun ds m => ETs (Sta.blk _ _) (setE (wipeE _ _) _ ds) _ m) (fun v684 => (show ETs _ [.sh (a652), .sh (a653), .sh (z654), .sh (v684)] _ _ from ets_nil))) (q1 (P := fun ds m => EE (Sta.blk _ _) (setE (wipeE _ _) _ ds) _ m) (fun v684 => (show EE _ [.sh (a652), .sh (a653), .sh (z654), .sh (v684)] _ _ from (ee_or (el_of (xcall h__law_next (av (ev 0) (av (ee_shl (el_of ee_int) (el_of (ev 1))) eak_nil)))) (el_of (ee_mul (el_of (xcall h__law_next (av (ev 0) (av (ee_shl (el_of ee_int) (el_of (ev 1))) eak_nil)))) (el_of (ee_intc (b_int T.b_int) (el_of (xcmp c_gt (el_of (ev 2)) (el_of ee_int)))))))))))))) eak_nil)))))))))))
abbrev s__law_crossing : Stmt := topS 27
theorem sc__law_crossing : FnScope ["count", "sets", "one", "other"] ["count", "sets"] (defScope s__law_crossing) := ⟨rfl, rfl, rfl, by decide +kernel, rfl, by decide +kernel, by decide +kernel⟩
def b__law_crossing : List D → M (Out Unit Unit) := p2 (fun a710 a711 => ((((lcM (((pure (D.int 1) : M D) >>= fun x712 => (pure (a710) : M D) >>= fun x713 => shlD x712 x713) >>= range1) nm (p1 (fun v714 => (((lcM ((pure (a711) : M D) >>= items) nm (p1 (fun v715 => (pure true : M Bool))) (p1 (fun v715 => (((pure (v714) : M D) >>= fun x723 => (pure (v715) : M D) >>= fun x724 => andD x723 x724) >>= fun x721 => (pure (D.int 0) : M D) >>= fun x722 => neB x721 x722 >>= fun b720 => (pure (D.bl b720) : M D))))) >>= allD) >>= truth))) (p1 (fun v714 => (pure (v714) : M D)))) >>= fun x725 => (pure [] : M (List D)) >>= fun xs726 => pure (x725 :: xs726)) >>= m__law_least) >>= fun x727 => pure (.rt x727)))
def m__law_crossing (ds : List D) : M D := runF (b__law_crossing ds)
theorem o__law_crossing {p : Pg} (T : Txt p) {f : Addr} {fd : FuncData} (F : Fun p.K "_law_crossing" "_law_crossing" s__law_crossing f fd) (h__law_least : Fnc p 1 "_law_least" [.v] m__law_least) : FnOk p.P p.w p.K p.mg p.base (L2.CX p.P p.w) 2 f fd ["count", "sets"] (spD p [.v, .v] m__law_crossing) :=
  fnok_of (k := 1) (N := ["count", "sets", "one", "other"]) (body := b__law_crossing) (shN := fun _ => [.un, .un, .un, .un]) (shB := fun _ => []) F sc__law_crossing rfl (q2 (P := fun ds m => SB _ (argE _ ds ++ _) _ m _ _) (fun a710 a711 => (show SB _ [.sh (a710), .sh (a711), .un, .un] _ _ _ _ from (sb_ret (xcall h__law_least (av (ee_new (en_comp (c_lc sc__law_crossing.nd [("one", 2)] (ei_range1 (by rfl) T.b_range (el_of (ee_shl (el_of ee_int) (el_of (ev 0))))) (tn 2 sc__law_crossing.nd) nm_pure nm_len (q1 (P := fun ds m => ETs (Sta.blk _ _) (setE (wipeE _ _) _ ds) _ m) (fun v714 => (show ETs _ [.sh (a710), .sh (a711), .sh (v714), .un] _ _ from (ets_one (ttr (el_of (ee_all (b_all T.b_all) (el_new (en_comp (c_lc sc__law_crossing.nd [("other", 3)] (ei_read (el_of (ev 1))) (tn 3 sc__law_crossing.nd) nm_pure nm_len (q1 (P := fun ds m => ETs (Sta.blk _ _) (setE (wipeE _ _) _ ds) _ m) (fun v715 => (show ETs _ [.sh (a710), .sh (a711), .sh (v714), .sh (v715)] _ _ from ets_nil))) (q1 (P := fun ds m => EE (Sta.blk _ _) (setE (wipeE _ _) _ ds) _ m) (fun v715 => (show EE _ [.sh (a710), .sh (a711), .sh (v714), .sh (v715)] _ _ from (xcmp c_ne (el_of (ee_and (el_of (ev 2)) (el_of (ev 3)))) (el_of ee_int))))))))))))))) (q1 (P := fun ds m => EE (Sta.blk _ _) (setE (wipeE _ _) _ ds) _ m) (fun v714 => (show EE _ [.sh (a710), .sh (a711), .sh (v714), .un] _ _ from (ev 2))))))) eak_nil))))))
abbrev s__law_row : Stmt := topS 28
theorem sc__law_row : FnScope ["count", "trues", "one"] ["count", "trues"] (defScope s__law_row) := ⟨rfl, rfl, rfl, by decide +kernel, rfl, by decide +kernel, by decide +kernel⟩
def b__law_row : List D → M (Out Unit Unit) := p2 (fun a728 a729 => ((lcM (((pure (D.int 1) : M D) >>= fun x730 => (pure (a728) : M D) >>= fun x731 => shlD x730 x731) >>= range1) nm (p1 (fun v732 => (pure true : M Bool))) (p1 (fun v732 => (((pure (a729) : M D) >>= fun x735 => ((pure (v732) : M D) >>= fun x733 => (pure [] : M (List D)) >>= fun xs734 => pure (x733 :: xs734)) >>= fun xs736 => pure (x735 :: xs736)) >>= m__law_true)))) >>= fun x737 => pure (.rt x737)))
def m__law_row (ds : List D) : M D := runF (b__law_row ds)
theorem o__law_row {p : Pg} (T : Txt p) {f : Addr} {fd : FuncData} (F : Fun p.K "_law_row" "_law_row" s__law_row f fd) (h__law_true : Fnc p 1 "_law_true" [.v, .v] m__law_true) : FnOk p.P p.w p.K p.mg p.base (L2.CX p.P p.w) 2 f fd ["count", "trues"] (spD p [.v, .v] m__law_row) :=
  fnok_of (k := 1) (N := ["count", "trues", "one"]) (body := b__law_row) (shN := fun _ => [.un, .un, .un]) (shB := fun _ => []) F sc__law_row rfl (q2 (P := fun ds m => SB _ (argE _ ds ++ _) _ m _ _) (fun a728 a729 => (show SB _ [.sh (a728), .sh (a729), .un] _ _ _ _ from (sb_ret (ee_new (en_comp (c_lc sc__law_row.nd [("one", 2)] (ei_range1 (by rfl) T.b_range (el_of (ee_shl (el_of ee_int) (el_of (ev 0))))) (tn 2 sc__law_row.nd) nm_pure nm_len (q1 (P := fun ds m => ETs (Sta.blk _ _) (setE (wipeE _ _) _ ds) _ m) (fun v732 => (show ETs _ [.sh (a728), .sh (a729), .sh (v732)] _ _ from ets_nil))) (q1 (P := fun ds m => EE (Sta.blk _ _) (setE (wipeE _ _) _ ds) _ m) (fun v732 => (show EE _ [.sh (a728), .sh (a729), .sh (v732)] _ _ from (xcall h__law_true (av (ev 1) (av (ev 2) eak_nil)))))))))))))
abbrev s__law_border_of : Stmt := topS 29
theorem sc__law_border_of : FnScope ["row", "one"] ["row"] (defScope s__law_border_of) := ⟨rfl, rfl, rfl, by decide +kernel, rfl, by decide +kernel, by decide +kernel⟩
def b__law_border_of : List D → M (Out Unit Unit) := p1 (fun a738 => ((((lcM (((pure (a738) : M D) >>= lenD) >>= range1) nm (p1 (fun v739 => (((pure (a738) : M D) >>= fun x740 => (pure (v739) : M D) >>= fun x741 => ixD x740 x741) >>= truth))) (p1 (fun v739 => (pure (v739) : M D)))) >>= fun x742 => (pure [] : M (List D)) >>= fun xs743 => pure (x742 :: xs743)) >>= m__law_least) >>= fun x744 => pure (.rt x744)))
def m__law_border_of (ds : List D) : M D := runF (b__law_border_of ds)
theorem o__law_border_of {p : Pg} (T : Txt p) {f : Addr} {fd : FuncData} (F : Fun p.K "_law_border_of" "_law_border_of" s__law_border_of f fd) (h__law_least : Fnc p 1 "_law_least" [.v] m__law_least) : FnOk p.P p.w p.K p.mg p.base (L2.CX p.P p.w) 2 f fd ["row"] (spD p [.v] m__law_border_of) :=
  fnok_of (k := 1) (N := ["row", "one"]) (body := b__law_border_of) (shN := fun _ => [.un, .un]) (shB := fun _ => []) F sc__law_border_of rfl (q1 (P := fun ds m => SB _ (argE _ ds ++ _) _ m _ _) (fun a738 => (show SB _ [.sh (a738), .un] _ _ _ _ from (sb_ret (xcall h__law_least (av (ee_new (en_comp (c_lc sc__law_border_of.nd [("one", 1)] (ei_range1 (by rfl) T.b_range (el_of (ee_len (b_len T.b_len) (el_of (ev 0))))) (tn 1 sc__law_border_of.nd) nm_pure nm_len (q1 (P := fun ds m => ETs (Sta.blk _ _) (setE (wipeE _ _) _ ds) _ m) (fun v739 => (show ETs _ [.sh (a738), .sh (v739)] _ _ from (ets_one (ttr (el_of (xix (el_of (ev 0)) (el_of (ev 1))))))))) (q1 (P := fun ds m => EE (Sta.blk _ _) (setE (wipeE _ _) _ ds) _ m) (fun v739 => (show EE _ [.sh (a738), .sh (v739)] _ _ from (ev 1))))))) eak_nil))))))
abbrev s__law_joins : Stmt := topS 30
theorem sc__law_joins : FnScope ["first", "second", "found", "one", "two"] ["first", "second"] (defScope s__law_joins) := ⟨rfl, rfl, rfl, by decide +kernel, rfl, by decide +kernel, by decide +kernel⟩
def b__law_joins : List D → M (Out Unit Unit) := p2 (fun a745 a746 => (((pure [] : M (List D)) >>= mkL) >>= fun z747 => (((pure (a745) : M D) >>= items) >>= fun xs757 => forL (fun (s748 : D) x758 => nm x758 >>= p1 (fun v749 => (lstD s748 >>= fun ds755 => (lcM ((pure (a746) : M D) >>= items) nm (p1 (fun v750 => (pure true : M Bool))) (p1 (fun v750 => ((pure (v749) : M D) >>= fun x751 => (pure (v750) : M D) >>= fun x752 => orD x751 x752)))) >>= fun x754 => extL ds755 x754 >>= fun z753 => (pure (.nx (z753)))))) (z747) xs757 >>= seqO fun s748 => ((pure (s748) : M D) >>= fun x756 => pure (.rt x756)))))
def m__law_joins (ds : List D) : M D := runF (b__law_joins ds)
theorem o__law_joins {p : Pg} (T : Txt p) {f : Addr} {fd : FuncData} (F : Fun p.K "_law_joins" "_law_joins" s__law_joins f fd)  : FnOk p.P p.w p.K p.mg p.base (L2.CX p.P p.w) 1 f fd ["first", "second"] (spD p [.v, .v] m__law_joins) :=
  fnok_of (k := 0) (N := ["first", "second", "found", "one", "two"]) (body := b__law_joins) (shN := fun _ => [.un, .un, .un, .un, .un]) (shB := fun _ => []) F sc__law_joins rfl (q2 (P := fun ds m => SB _ (argE _ ds ++ _) _ m _ _) (fun a745 a746 => (show SB _ [.sh (a745), .sh (a746), .un, .un, .un] _ _ _ _ from (s_setN 2 sc__law_joins.nd (en_lst ea_nil) (fun z747 => (show SB _ [.sh (a745), .sh (a746), .ow (z747), .un, .un] _ _ _ _ from (s_for (Z := D) (sh := fun s748 => [.sh (a745), .sh (a746), .ow (s748), .un, .un]) (ei_seq (ev 0)) (tn 3 sc__law_joins.nd) nm_pure nm_len (.eq (.eq (.eq (.un (.un Le.nil))))) (fun s748 => q1 (P := fun ds m => SB _ (setE _ _ ds) _ m _ _) (fun v749 => (show SB _ [.sh (a745), .sh (a746), .ow (s748), .sh (v749), .un] _ _ _ _ from (s_extend 2 (el_new (en_comp (c_lc sc__law_joins.nd [("two", 4)] (ei_read (el_of (ev 1))) (tn 4 sc__law_joins.nd) nm_pure nm_len (q1 (P := fun ds m => ETs (Sta.blk _ _) (setE (wipeE _ _) _ ds) _ m) (fun v750 => (show ETs _ [.sh (a745), .sh (a746), .ow (s748), .sh (v749), .sh (v750)] _ _ from ets_nil))) (q1 (P := fun ds m => EE (Sta.blk _ _) (setE (wipeE _ _) _ ds) _ m) (fun v750 => (show EE _ [.sh (a745), .sh (a746), .ow (s748), .sh (v749), .sh (v750)] _ _ from (ee_or (el_of (ev 3)) (el_of (ev 4))))))))) fun z753 => (show SB _ [.sh (a745), .sh (a746), .ow (z753), .sh (v749), .un] _ _ _ _ from (sb_nil (.eq (.eq (.eq (.un (.un Le.nil))))))))))) fun s748 => (show SB _ [.sh (a745), .sh (a746), .ow (s748), .un, .un] _ _ _ _ from (sb_freeze 2 (by rfl) (show SB _ [.sh (a745), .sh (a746), .sh (s748), .un, .un] _ _ _ _ from (sb_ret (ev 2))))))))))))
abbrev s__law_known : Stmt := topS 31
theorem sc__law_known : FnScope ["count", "trues", "asker", "turn", "step"] ["count", "trues"] (defScope s__law_known) := ⟨rfl, rfl, rfl, by decide +kernel, rfl, by decide +kernel, by decide +kernel⟩
def b__law_known : List D → M (Out Unit Unit) := p2 (fun a759 a760 => ((mkM 0 ((pure (a759) : M D) >>= fun x762 => (pure [] : M (List D)) >>= fun xs763 => pure (x762 :: xs763)) m_BorderAsker___init__) >>= fun z761 => (((pure (D.int 600) : M D) >>= range1) >>= fun xs790 => forL (fun (s764 : Unit) x791 => nm x791 >>= p1 (fun v765 => ((mthM 0 "step" (pure (z761) : M D) (pure []) m_BorderAsker_step) >>= fun z766 => ((((pure (z766) : M D) >>= fun x767 => (pure (D.int 0) : M D) >>= fun x768 => ixD x767 x768) >>= fun x769 => (pure (D.str "known") : M D) >>= fun x770 => eqB x769 x770) >>= fun b788 => (if b788 = true then (((((pure (z766) : M D) >>= fun x775 => ((mthM 0 "asked" (pure (z761) : M D) (pure []) m_BorderAsker_asked) >>= fun x772 => (pure [] : M (List D)) >>= fun xs773 => pure (x772 :: xs773)) >>= fun xs776 => pure (x775 :: xs776)) >>= mkT) >>= fun x778 => pure (.rt x778)) : M (Out (Unit) _)) else (pure (.nx ()))) >>= seqO fun s771 => ((mthM 0 "tell" (pure (z761) : M D) (((((pure (a760) : M D) >>= fun x783 => (((pure (z766) : M D) >>= fun x779 => (pure (D.int 1) : M D) >>= fun x780 => ixD x779 x780) >>= fun x781 => (pure [] : M (List D)) >>= fun xs782 => pure (x781 :: xs782)) >>= fun xs784 => pure (x783 :: xs784)) >>= m__law_true) >>= intD) >>= fun x785 => (pure [] : M (List D)) >>= fun xs786 => pure (x785 :: xs786)) m_BorderAsker_tell) >>= fun u787 => (pure (.nx ()))))))) () xs790 >>= seqO fun s764 => ((pure D.non : M D) >>= fun x789 => pure (.rt x789)))))
def m__law_known (ds : List D) : M D := runF (b__law_known ds)
theorem o__law_known {p : Pg} (T : Txt p) {f : Addr} {fd : FuncData} (F : Fun p.K "_law_known" "_law_known" s__law_known f fd) (h_BorderAsker___init__ : Mkr p 0 2 "BorderAsker" [.v, .v] m_BorderAsker___init__) (h_BorderAsker_step : Mtd p 0 2 "step" [.v] m_BorderAsker_step) (h_BorderAsker_asked : Mtd p 0 1 "asked" [.v] m_BorderAsker_asked) (h_BorderAsker_tell : Mtd p 0 3 "tell" [.v, .v] m_BorderAsker_tell) (h__law_true : Fnc p 1 "_law_true" [.v, .v] m__law_true) : FnOk p.P p.w p.K p.mg p.base (L2.CX p.P p.w) 4 f fd ["count", "trues"] (spD p [.v, .v] m__law_known) :=
  fnok_of (k := 3) (N := ["count", "trues", "asker", "turn", "step"]) (body := b__law_known) (shN := fun _ => [.un, .un, .un, .un, .un]) (shB := fun _ => []) F sc__law_known rfl (q2 (P := fun ds m => SB _ (argE _ ds ++ _) _ m _ _) (fun a759 a760 => (show SB _ [.sh (a759), .sh (a760), .un, .un, .un] _ _ _ _ from (s_set 2 sc__law_known.nd (xmake h_BorderAsker___init__ (av (ev 0) eak_nil)) (fun z761 => (show SB _ [.sh (a759), .sh (a760), .sh (z761), .un, .un] _ _ _ _ from (s_for (Z := Unit) (sh := fun s764 => [.sh (a759), .sh (a760), .sh (z761), .un, .un]) (ei_range1 (by rfl) T.b_range (el_of ee_int)) (tn 3 sc__law_known.nd) nm_pure nm_len (.eq (.eq (.eq (.un (.un Le.nil))))) (fun s764 => q1 (P := fun ds m => SB _ (setE _ _ ds) _ m _ _) (fun v765 => (show SB _ [.sh (a759), .sh (a760), .sh (z761), .sh (v765), .un] _ _ _ _ from (s_set 4 sc__law_known.nd (xmeth0 T.k_BorderAsker h_BorderAsker_step (ev 2)) (fun z766 => (show SB _ [.sh (a759), .sh (a760), .sh (z761), .sh (v765), .sh (z766)] _ _ _ _ from (sb_if (J := Unit) (shJ := fun s771 => [.sh (a759), .sh (a760), .sh (z761), .sh (v765), .sh (z766)]) (tcmp c_eq (el_of (xix (el_of (ev 4)) (el_of ee_int))) (el_of ee_str)) (sb_ret (ee_tup (ea_cons (ev 4) (ea_cons (xmeth0 T.k_BorderAsker h_BorderAsker_asked (ev 2)) ea_nil)))) (sb_nil (.eq (.eq (.eq (.eq (.eq Le.nil)))))) fun s771 => (show SB _ [.sh (a759), .sh (a760), .sh (z761), .sh (v765), .sh (z766)] _ _ _ _ from (s_expr (el_of (xmeth T.k_BorderAsker h_BorderAsker_tell (ev 2) (av (ee_intc (b_int T.b_int) (el_of (xcall h__law_true (av (ev 1) (av (xix (el_of (ev 4)) (el_of ee_int)) eak_nil))))) eak_nil))) (show SB _ [.sh (a759), .sh (a760), .sh (z761), .sh (v765), .sh (z766)] _ _ _ _ from (sb_nil (.eq (.eq (.eq (.un (.un Le.nil)))))))))))))))) fun s764 => (show SB _ [.sh (a759), .sh (a760), .sh (z761), .un, .un] _ _ _ _ from (sb_ret ee_non)))))))))
abbrev s_law : Stmt := topS 32
theorem sc_law : FnScope ["script", "state", "turn", "count", "every", "trues", "other", "row", "crosses", "falses", "second", "either", "both", "told", "k", "fewer", "one", "false"] ["script"] (defScope s_law) := ⟨rfl, rfl, rfl, by decide +kernel, rfl, by decide +kernel, by decide +kernel⟩
def b_law : List D → M (Out Unit Unit) := p1 (fun a792 => (((((((pure (a792) : M D) >>= fun x800 => (pure [] : M (List D)) >>= fun xs801 => pure (x800 :: xs801)) >>= m__law_stream) >>= fun x797 => ((pure (D.int 0) : M D) >>= fun x794 => (pure [] : M (List D)) >>= fun xs795 => pure (x794 :: xs795)) >>= fun xs798 => pure (x797 :: xs798)) >>= mkL) >>= celD) >>= fun z793 => (((pure (D.int 4) : M D) >>= range1) >>= fun xs1069 => forL (fun (s802 : Unit) x1070 => nm x1070 >>= p1 (fun v803 => (((pure (D.int 1) : M D) >>= fun x809 => (((pure (z793) : M D) >>= fun x807 => ((pure (D.int 5) : M D) >>= fun x805 => (pure [] : M (List D)) >>= fun xs806 => pure (x805 :: xs806)) >>= fun xs808 => pure (x807 :: xs808)) >>= m__law_next) >>= fun x810 => addD x809 x810) >>= fun z804 => ((((pure (D.int 1) : M D) >>= fun x812 => (pure (z804) : M D) >>= fun x813 => shlD x812 x813) >>= fun x814 => (pure (D.int 1) : M D) >>= fun x815 => subD x814 x815) >>= fun z811 => ((((pure (z793) : M D) >>= fun x819 => ((pure (z804) : M D) >>= fun x817 => (pure [] : M (List D)) >>= fun xs818 => pure (x817 :: xs818)) >>= fun xs820 => pure (x819 :: xs820)) >>= m__law_border) >>= fun z816 => ((((pure (z793) : M D) >>= fun x824 => ((pure (z804) : M D) >>= fun x822 => (pure [] : M (List D)) >>= fun xs823 => pure (x822 :: xs823)) >>= fun xs825 => pure (x824 :: xs825)) >>= m__law_border) >>= fun z821 => ((((pure (z804) : M D) >>= fun x829 => ((pure (z816) : M D) >>= fun x827 => (pure [] : M (List D)) >>= fun xs828 => pure (x827 :: xs828)) >>= fun xs830 => pure (x829 :: xs830)) >>= m__law_row) >>= fun z826 => ((((pure (z804) : M D) >>= fun x834 => ((pure (z816) : M D) >>= fun x832 => (pure [] : M (List D)) >>= fun xs833 => pure (x832 :: xs833)) >>= fun xs835 => pure (x834 :: xs835)) >>= m_crossing) >>= fun z831 => ((((pure (z831) : M D) >>= fun x840 => (((pure (z804) : M D) >>= fun x838 => ((pure (z816) : M D) >>= fun x836 => (pure [] : M (List D)) >>= fun xs837 => pure (x836 :: xs837)) >>= fun xs839 => pure (x838 :: xs839)) >>= m__law_crossing) >>= fun x841 => neB x840 x841) >>= fun b848 => if b848 = true then (pure true : M Bool) else ((((pure (z804) : M D) >>= fun x844 => ((pure (z831) : M D) >>= fun x842 => (pure [] : M (List D)) >>= fun xs843 => pure (x842 :: xs843)) >>= fun xs845 => pure (x844 :: xs845)) >>= m_crossing) >>= fun x846 => (pure (z816) : M D) >>= fun x847 => neB x846 x847)) >>= fun b1067 => (if b1067 = true then (((pure (D.bl false) : M D) >>= fun x850 => pure (.rt x850)) : M (Out (Unit) _)) else (pure (.nx ()))) >>= seqO fun s849 => ((((pure (z804) : M D) >>= fun x854 => ((pure (z816) : M D) >>= fun x852 => (pure [] : M (List D)) >>= fun xs853 => pure (x852 :: xs853)) >>= fun xs855 => pure (x854 :: xs855)) >>= m_greatest_falses) >>= fun z851 => ((((pure (z851) : M D) >>= fun x859 => (((lcM ((pure (z831) : M D) >>= items) nm (p1 (fun v856 => (pure true : M Bool))) (p1 (fun v856 => ((pure (z811) : M D) >>= fun x857 => ((pure (v856) : M D) >>= invD) >>= fun x858 => andD x857 x858)))) >>= sortedD) >>= tupleD) >>= fun x860 => neB x859 x860) >>= fun b875 => if b875 = true then (pure true : M Bool) else (((((pure (z804) : M D) >>= fun x863 => ((pure (z851) : M D) >>= fun x861 => (pure [] : M (List D)) >>= fun xs862 => pure (x861 :: xs862)) >>= fun xs864 => pure (x863 :: xs864)) >>= m_least_trues) >>= fun x865 => (pure (z816) : M D) >>= fun x866 => neB x865 x866) >>= fun b874 => if b874 = true then (pure true : M Bool) else (((((pure (z804) : M D) >>= fun x871 => ((pure (z816) : M D) >>= fun x869 => ((pure (z851) : M D) >>= fun x867 => (pure [] : M (List D)) >>= fun xs868 => pure (x867 :: xs868)) >>= fun xs870 => pure (x869 :: xs870)) >>= fun xs872 => pure (x871 :: xs872)) >>= m_is_whole) >>= truth) >>= fun b873 => (pure (!b873) : M Bool)))) >>= fun b1066 => (if b1066 = true then (((pure (D.bl false) : M D) >>= fun x877 => pure (.rt x877)) : M (Out (Unit) _)) else (pure (.nx ()))) >>= seqO fun s876 => (((lcM (((pure (D.int 1) : M D) >>= fun x878 => (pure (z804) : M D) >>= fun x879 => shlD x878 x879) >>= range1) nm (p1 (fun v880 => (pure true : M Bool))) (p1 (fun v880 => (((pure (z804) : M D) >>= fun x885 => ((pure (z816) : M D) >>= fun x883 => ((pure (v880) : M D) >>= fun x881 => (pure [] : M (List D)) >>= fun xs882 => pure (x881 :: xs882)) >>= fun xs884 => pure (x883 :: xs884)) >>= fun xs886 => pure (x885 :: xs886)) >>= m_is_true)))) >>= fun x887 => (pure (z826) : M D) >>= fun x888 => neB x887 x888) >>= fun b1065 => (if b1065 = true then (((pure (D.bl false) : M D) >>= fun x890 => pure (.rt x890)) : M (Out (Unit) _)) else (pure (.nx ()))) >>= seqO fun s889 => (((lcM (((pure (D.int 1) : M D) >>= fun x891 => (pure (z804) : M D) >>= fun x892 => shlD x891 x892) >>= range1) nm (p1 (fun v893 => (pure true : M Bool))) (p1 (fun v893 => ((lcM ((pure (z851) : M D) >>= items) nm (p1 (fun v894 => (pure true : M Bool))) (p1 (fun v894 => (((pure (v893) : M D) >>= fun x902 => ((pure (v894) : M D) >>= invD) >>= fun x903 => andD x902 x903) >>= fun x900 => (pure (D.int 0) : M D) >>= fun x901 => eqB x900 x901 >>= fun b899 => (pure (D.bl b899) : M D))))) >>= anyD)))) >>= fun x906 => (lcM ((pure (z826) : M D) >>= items) nm (p1 (fun v904 => (pure true : M Bool))) (p1 (fun v904 => ((pure (v904) : M D) >>= truth >>= fun b905 => (pure (D.bl (!b905)) : M D))))) >>= fun x907 => neB x906 x907) >>= fun b1064 => (if b1064 = true then (((pure (D.bl false) : M D) >>= fun x909 => pure (.rt x909)) : M (Out (Unit) _)) else (pure (.nx ()))) >>= seqO fun s908 => ((((pure (z804) : M D) >>= fun x913 => ((pure (z821) : M D) >>= fun x911 => (pure [] : M (List D)) >>= fun xs912 => pure (x911 :: xs912)) >>= fun xs914 => pure (x913 :: xs914)) >>= m__law_row) >>= fun z910 => ((((lcM (((pure (z826) : M D) >>= lenD) >>= range1) nm (p1 (fun v916 => (pure true : M Bool))) (p1 (fun v916 => (((pure (z826) : M D) >>= fun x917 => (pure (v916) : M D) >>= fun x918 => ixD x917 x918) >>= fun x921 => truth x921 >>= fun b922 => if b922 = true then (pure x921 : M D) else ((pure (z910) : M D) >>= fun x919 => (pure (v916) : M D) >>= fun x920 => ixD x919 x920))))) >>= fun x923 => (pure [] : M (List D)) >>= fun xs924 => pure (x923 :: xs924)) >>= m__law_border_of) >>= fun z915 => ((((lcM (((pure (z826) : M D) >>= lenD) >>= range1) nm (p1 (fun v926 => (pure true : M Bool))) (p1 (fun v926 => (((pure (z826) : M D) >>= fun x927 => (pure (v926) : M D) >>= fun x928 => ixD x927 x928) >>= fun x931 => truth x931 >>= fun b932 => if b932 = true then ((pure (z910) : M D) >>= fun x929 => (pure (v926) : M D) >>= fun x930 => ixD x929 x930) else (pure x931 : M D))))) >>= fun x933 => (pure [] : M (List D)) >>= fun xs934 => pure (x933 :: xs934)) >>= m__law_border_of) >>= fun z925 => ((((pure (z915) : M D) >>= fun x939 => (((((pure (z816) : M D) >>= listD) >>= fun x935 => ((pure (z821) : M D) >>= listD) >>= fun x936 => catD x935 x936) >>= fun x937 => (pure [] : M (List D)) >>= fun xs938 => pure (x937 :: xs938)) >>= m__law_least) >>= fun x940 => neB x939 x940) >>= fun b949 => if b949 = true then (pure true : M Bool) else ((pure (z925) : M D) >>= fun x947 => (((((pure (z816) : M D) >>= fun x943 => ((pure (z821) : M D) >>= fun x941 => (pure [] : M (List D)) >>= fun xs942 => pure (x941 :: xs942)) >>= fun xs944 => pure (x943 :: xs944)) >>= m__law_joins) >>= fun x945 => (pure [] : M (List D)) >>= fun xs946 => pure (x945 :: xs946)) >>= m__law_least) >>= fun x948 => neB x947 x948)) >>= fun b1063 => (if b1063 = true then (((pure (D.bl false) : M D) >>= fun x951 => pure (.rt x951)) : M (Out (Unit) _)) else (pure (.nx ()))) >>= seqO fun s950 => (((((pure (z804) : M D) >>= fun x954 => ((pure (z915) : M D) >>= fun x952 => (pure [] : M (List D)) >>= fun xs953 => pure (x952 :: xs953)) >>= fun xs955 => pure (x954 :: xs955)) >>= m_crossing) >>= fun x966 => (((((pure (z831) : M D) >>= fun x962 => ((((pure (z804) : M D) >>= fun x958 => ((pure (z821) : M D) >>= fun x956 => (pure [] : M (List D)) >>= fun xs957 => pure (x956 :: xs957)) >>= fun xs959 => pure (x958 :: xs959)) >>= m_crossing) >>= fun x960 => (pure [] : M (List D)) >>= fun xs961 => pure (x960 :: xs961)) >>= fun xs963 => pure (x962 :: xs963)) >>= m__law_joins) >>= fun x964 => (pure [] : M (List D)) >>= fun xs965 => pure (x964 :: xs965)) >>= m__law_least) >>= fun x967 => neB x966 x967) >>= fun b1062 => (if b1062 = true then (((pure (D.bl false) : M D) >>= fun x969 => pure (.rt x969)) : M (Out (Unit) _)) else (pure (.nx ()))) >>= seqO fun s968 => (((((pure (z804) : M D) >>= fun x972 => ((pure (z925) : M D) >>= fun x970 => (pure [] : M (List D)) >>= fun xs971 => pure (x970 :: xs971)) >>= fun xs973 => pure (x972 :: xs973)) >>= m_crossing) >>= fun x982 => (((((pure (z831) : M D) >>= listD) >>= fun x978 => ((((pure (z804) : M D) >>= fun x976 => ((pure (z821) : M D) >>= fun x974 => (pure [] : M (List D)) >>= fun xs975 => pure (x974 :: xs975)) >>= fun xs977 => pure (x976 :: xs977)) >>= m_crossing) >>= listD) >>= fun x979 => catD x978 x979) >>= fun x980 => (pure [] : M (List D)) >>= fun xs981 => pure (x980 :: xs981)) >>= m__law_least) >>= fun x983 => neB x982 x983) >>= fun b1061 => (if b1061 = true then (((pure (D.bl false) : M D) >>= fun x985 => pure (.rt x985)) : M (Out (Unit) _)) else (pure (.nx ()))) >>= seqO fun s984 => ((((pure (z804) : M D) >>= fun x989 => ((pure (z816) : M D) >>= fun x987 => (pure [] : M (List D)) >>= fun xs988 => pure (x987 :: xs988)) >>= fun xs990 => pure (x989 :: xs990)) >>= m__law_known) >>= fun z986 => ((((pure (z986) : M D) >>= fun x991 => (pure D.non : M D) >>= fun x992 => isNoneB x991 x992) >>= fun b1026 => if b1026 = true then (pure true : M Bool) else ((((pure (z986) : M D) >>= fun x993 => (pure (D.int 0) : M D) >>= fun x994 => ixD x993 x994) >>= fun x1004 => (((pure (D.str "known") : M D) >>= fun x1001 => ((pure (z816) : M D) >>= fun x998 => ((pure (z851) : M D) >>= fun x995 => (pure [] : M (List D)) >>= fun xs996 => pure (x995 :: xs996)) >>= fun xs999 => pure (x998 :: xs999)) >>= fun xs1002 => pure (x1001 :: xs1002)) >>= mkT) >>= fun x1005 => neB x1004 x1005) >>= fun b1025 => if b1025 = true then (pure true : M Bool) else ((((pure (z986) : M D) >>= fun x1006 => (pure (D.int 1) : M D) >>= fun x1007 => ixD x1006 x1007) >>= fun x1012 => (((pure (z804) : M D) >>= fun x1010 => ((pure (z816) : M D) >>= fun x1008 => (pure [] : M (List D)) >>= fun xs1009 => pure (x1008 :: xs1009)) >>= fun xs1011 => pure (x1010 :: xs1011)) >>= m_asks_for) >>= fun x1013 => neB x1012 x1013) >>= fun b1024 => if b1024 = true then (pure true : M Bool) else (((pure (z986) : M D) >>= fun x1014 => (pure (D.int 1) : M D) >>= fun x1015 => ixD x1014 x1015) >>= fun x1022 => ((((pure (z816) : M D) >>= lenD) >>= fun x1016 => ((pure (z851) : M D) >>= lenD) >>= fun x1017 => addD x1016 x1017) >>= fun x1020 => ((pure (z804) : M D) >>= fun x1018 => (pure (D.int 1) : M D) >>= fun x1019 => addD x1018 x1019) >>= fun x1021 => mulD x1020 x1021) >>= fun x1023 => gtB x1022 x1023)))) >>= fun b1060 => (if b1060 = true then (((pure (D.bl false) : M D) >>= fun x1028 => pure (.rt x1028)) : M (Out (Unit) _)) else (pure (.nx ()))) >>= seqO fun s1027 => ((((pure (z816) : M D) >>= lenD) >>= range1) >>= fun xs1058 => forL (fun (s1029 : Unit) x1059 => nm x1059 >>= p1 (fun v1030 => ((((pure (z816) : M D) >>= fun x1032 => (pure none : M (Option Int)) >>= fun l1033 => ((pure (v1030) : M D) >>= intM) >>= fun h1034 => slT l1033 h1034 x1032) >>= fun x1040 => ((pure (z816) : M D) >>= fun x1037 => (((pure (v1030) : M D) >>= fun x1035 => (pure (D.int 1) : M D) >>= fun x1036 => addD x1035 x1036) >>= intM) >>= fun l1038 => (pure none : M (Option Int)) >>= fun h1039 => slT l1038 h1039 x1037) >>= fun x1041 => addD x1040 x1041) >>= fun z1031 => ((((((pure (z804) : M D) >>= fun x1044 => ((pure (z1031) : M D) >>= fun x1042 => (pure [] : M (List D)) >>= fun xs1043 => pure (x1042 :: xs1043)) >>= fun xs1045 => pure (x1044 :: xs1045)) >>= m_greatest_falses) >>= fun x1046 => (pure (z851) : M D) >>= fun x1047 => eqB x1046 x1047) >>= fun b1054 => if b1054 = true then (pure true : M Bool) else ((((pure (z804) : M D) >>= fun x1052 => ((pure (z1031) : M D) >>= fun x1050 => ((pure (z851) : M D) >>= fun x1048 => (pure [] : M (List D)) >>= fun xs1049 => pure (x1048 :: xs1049)) >>= fun xs1051 => pure (x1050 :: xs1051)) >>= fun xs1053 => pure (x1052 :: xs1053)) >>= m_is_whole) >>= truth)) >>= fun b1057 => (if b1057 = true then (((pure (D.bl false) : M D) >>= fun x1056 => pure (.rt x1056)) : M (Out (Unit) _)) else (pure (.nx ()))) >>= seqO fun s1055 => (pure (.nx ())))))) () xs1058 >>= seqO fun s1029 => (pure (.nx ())))))))))))))))))))))))) () xs1069 >>= seqO fun s802 => ((pure (D.bl true) : M D) >>= fun x1068 => pure (.rt x1068)))))
def m_law (ds : List D) : M D := runF (b_law ds)
theorem o_law {p : Pg} (T : Txt p) {f : Addr} {fd : FuncData} (F : Fun p.K "law" "law" s_law f fd) (h__law_stream : Fnc p 1 "_law_stream" [.v] m__law_stream) (h__law_next : Fnc p 1 "_law_next" [.v, .v] m__law_next) (h__law_border : Fnc p 2 "_law_border" [.v, .v] m__law_border) (h__law_row : Fnc p 2 "_law_row" [.v, .v] m__law_row) (h_crossing : Fnc p 3 "crossing" [.v, .v] m_crossing) (h__law_crossing : Fnc p 2 "_law_crossing" [.v, .v] m__law_crossing) (h_greatest_falses : Fnc p 4 "greatest_falses" [.v, .v] m_greatest_falses) (h_least_trues : Fnc p 4 "least_trues" [.v, .v] m_least_trues) (h_is_whole : Fnc p 4 "is_whole" [.v, .v, .v] m_is_whole) (h_is_true : Fnc p 4 "is_true" [.v, .v, .v] m_is_true) (h__law_border_of : Fnc p 2 "_law_border_of" [.v] m__law_border_of) (h__law_least : Fnc p 1 "_law_least" [.v] m__law_least) (h__law_joins : Fnc p 1 "_law_joins" [.v, .v] m__law_joins) (h__law_known : Fnc p 4 "_law_known" [.v, .v] m__law_known) (h_asks_for : Fnc p 4 "asks_for" [.v, .v] m_asks_for) : FnOk p.P p.w p.K p.mg p.base (L2.CX p.P p.w) 5 f fd ["script"] (spD p [.v] m_law) :=
  fnok_of (k := 4) (N := ["script", "state", "turn", "count", "every", "trues", "other", "row", "crosses", "falses", "second", "either", "both", "told", "k", "fewer", "one", "false"]) (body := b_law) (shN := fun _ => [.un, .un, .un, .un, .un, .un, .un, .un, .un, .un, .un, .un, .un, .un, .un, .un, .un, .un]) (shB := fun _ => []) F sc_law rfl (q1 (P := fun ds m => SB _ (argE _ ds ++ _) _ m _ _) (fun a792 => (show SB _ [.sh (a792), .un, .un, .un, .un, .un, .un, .un, .un, .un, .un, .un, .un, .un, .un, .un, .un, .un] _ _ _ _ from (s_set 1 sc_law.nd (ee_cell (en_lst (ea_cons (xcall h__law_stream (av (ev 0) eak_nil)) (ea_cons ee_int ea_nil)))) (fun z793 => (show SB _ [.sh (a792), .sh (z793), .un, .un, .un, .un, .un, .un, .un, .un, .un, .un, .un, .un, .un, .un, .un, .un] _ _ _ _ from (s_for (Z := Unit) (sh := fun s802 => [.sh (a792), .sh (z793), .un, .un, .un, .un, .un, .un, .un, .un, .un, .un, .un, .un, .un, .un, .un, .un]) (ei_range1 (by rfl) T.b_range (el_of ee_int)) (tn 2 sc_law.nd) nm_pure nm_len (.eq (.eq (.un (.un (.un (.un (.un (.un (.un (.un (.un (.un (.un (.un (.un (.un (.un (.un Le.nil)))))))))))))))))) (fun s802 => q1 (P := fun ds m => SB _ (setE _ _ ds) _ m _ _) (fun v803 => (show SB _ [.sh (a792), .sh (z793), .sh (v803), .un, .un, .un, .un, .un, .un, .un, .un, .un, .un, .un, .un, .un, .un, .un] _ _ _ _ from (s_set 3 sc_law.nd (ee_add (el_of ee_int) (el_of (xcall h__law_next (av (ev 1) (av ee_int eak_nil))))) (fun z804 => (show SB _ [.sh (a792), .sh (z793), .sh (v803), .sh (z804), .un, .un, .un, .un, .un, .un, .un, .un, .un, .un, .un, .un, .un, .un] _ _ _ _ from (s_set 4 sc_law.nd (ee_sub (el_of (ee_shl (el_of ee_int) (el_of (ev 3)))) (el_of ee_int)) (fun z811 => (show SB _ [.sh (a792), .sh (z793), .sh (v803), .sh (z804), .sh (z811), .un, .un, .un, .un, .un, .un, .un, .un, .un, .un, .un, .un, .un] _ _ _ _ from (s_set 5 sc_law.nd (xcall h__law_border (av (ev 1) (av (ev 3) eak_nil))) (fun z816 => (show SB _ [.sh (a792), .sh (z793), .sh (v803), .sh (z804), .sh (z811), .sh (z816), .un, .un, .un, .un, .un, .un, .un, .un, .un, .un, .un, .un] _ _ _ _ from (s_set 6 sc_law.nd (xcall h__law_border (av (ev 1) (av (ev 3) eak_nil))) (fun z821 => (show SB _ [.sh (a792), .sh (z793), .sh (v803), .sh (z804), .sh (z811), .sh (z816), .sh (z821), .un, .un, .un, .un, .un, .un, .un, .un, .un, .un, .un] _ _ _ _ from (s_set 7 sc_law.nd (xcall h__law_row (av (ev 3) (av (ev 5) eak_nil))) (fun z826 => (show SB _ [.sh (a792), .sh (z793), .sh (v803), .sh (z804), .sh (z811), .sh (z816), .sh (z821), .sh (z826), .un, .un, .un, .un, .un, .un, .un, .un, .un, .un] _ _ _ _ from (s_set 8 sc_law.nd (xcall h_crossing (av (ev 3) (av (ev 5) eak_nil))) (fun z831 => (show SB _ [.sh (a792), .sh (z793), .sh (v803), .sh (z804), .sh (z811), .sh (z816), .sh (z821), .sh (z826), .sh (z831), .un, .un, .un, .un, .un, .un, .un, .un, .un] _ _ _ _ from (sb_if (J := Unit) (shJ := fun s849 => [.sh (a792), .sh (z793), .sh (v803), .sh (z804), .sh (z811), .sh (z816), .sh (z821), .sh (z826), .sh (z831), .un, .un, .un, .un, .un, .un, .un, .un, .un]) (et_w (ew_or (tcmp c_ne (el_of (ev 8)) (el_of (xcall h__law_crossing (av (ev 3) (av (ev 5) eak_nil))))) (ew_or1 (tcmp c_ne (el_of (xcall h_crossing (av (ev 3) (av (ev 8) eak_nil)))) (el_of (ev 5)))))) (sb_ret ee_bl) (sb_nil (.eq (.eq (.eq (.eq (.eq (.eq (.eq (.eq (.eq (.un (.un (.un (.un (.un (.un (.un (.un (.un Le.nil))))))))))))))))))) fun s849 => (show SB _ [.sh (a792), .sh (z793), .sh (v803), .sh (z804), .sh (z811), .sh (z816), .sh (z821), .sh (z826), .sh (z831), .un, .un, .un, .un, .un, .un, .un, .un, .un] _ _ _ _ from (s_set 9 sc_law.nd (xcall h_greatest_falses (av (ev 3) (av (ev 5) eak_nil))) (fun z851 => (show SB _ [.sh (a792), .sh (z793), .sh (v803), .sh (z804), .sh (z811), .sh (z816), .sh (z821), .sh (z826), .sh (z831), .sh (z851), .un, .un, .un, .un, .un, .un, .un, .un] _ _ _ _ from (sb_if (J := Unit) (shJ := fun s876 => [.sh (a792), .sh (z793), .sh (v803), .sh (z804), .sh (z811), .sh (z816), .sh (z821), .sh (z826), .sh (z831), .sh (z851), .un, .un, .un, .un, .un, .un, .un, .un]) (et_w (ew_or (tcmp c_ne (el_of (ev 9)) (el_of (ee_tuplec (b_tuple T.b_tuple) (el_new (en_sorted (b_sorted T.b_sorted) (el_new (en_comp (c_lc sc_law.nd [("one", 16)] (ei_read (el_of (ev 8))) (tn 16 sc_law.nd) nm_pure nm_len (q1 (P := fun ds m => ETs (Sta.blk _ _) (setE (wipeE _ _) _ ds) _ m) (fun v856 => (show ETs _ [.sh (a792), .sh (z793), .sh (v803), .sh (z804), .sh (z811), .sh (z816), .sh (z821), .sh (z826), .sh (z831), .sh (z851), .un, .un, .un, .un, .un, .un, .sh (v856), .un] _ _ from ets_nil))) (q1 (P := fun ds m => EE (Sta.blk _ _) (setE (wipeE _ _) _ ds) _ m) (fun v856 => (show EE _ [.sh (a792), .sh (z793), .sh (v803), .sh (z804), .sh (z811), .sh (z816), .sh (z821), .sh (z826), .sh (z831), .sh (z851), .un, .un, .un, .un, .un, .un, .sh (v856), .un] _ _ from (ee_and (el_of (ev 4)) (el_of (ee_inv (el_of (ev 16)))))))))))))))) (ew_or (tcmp c_ne (el_of (xcall h_least_trues (av (ev 3) (av (ev 9) eak_nil)))) (el_of (ev 5))) (ew_or1 (et_not (ttr (el_of (xcall h_is_whole (av (ev 3) (av (ev 5) (av (ev 9) eak_nil))))))))))) (sb_ret ee_bl) (sb_nil (.eq (.eq (.eq (.eq (.eq (.eq (.eq (.eq (.eq (.eq (.un (.un (.un (.un (.un (.un (.un (.un Le.nil))))))))))))))))))) fun s876 => (show SB _ [.sh (a792), .sh (z793), .sh (v803), .sh (z804), .sh (z811), .sh (z816), .sh (z821), .sh (z826), .sh (z831), .sh (z851), .un, .un, .un, .un, .un, .un, .un, .un] _ _ _ _ from (sb_if (J := Unit) (shJ := fun s889 => [.sh (a792), .sh (z793), .sh (v803), .sh (z804), .sh (z811), .sh (z816), .sh (z821), .sh (z826), .sh (z831), .sh (z851), .un, .un, .un, .un, .un, .un, .un, .un]) (tcmp c_ne (el_new (en_comp (c_lc sc_law.nd [("one", 16)] (ei_range1 (by rfl) T.b_range (el_of (ee_shl (el_of ee_int) (el_of (ev 3))))) (tn 16 sc_law.nd) nm_pure nm_len (q1 (P := fun ds m => ETs (Sta.blk _ _) (setE (wipeE _ _) _ ds) _ m) (fun v880 => (show ETs _ [.sh (a792), .sh (z793), .sh (v803), .sh (z804), .sh (z811), .sh (z816), .sh (z821), .sh (z826), .sh (z831), .sh (z851), .un, .un, .un, .un, .un, .un, .sh (v880), .un] _ _ from ets_nil))) (q1 (P := fun ds m => EE (Sta.blk _ _) (setE (wipeE _ _) _ ds) _ m) (fun v880 => (show EE _ [.sh (a792), .sh (z793), .sh (v803), .sh (z804), .sh (z811), .sh (z816), .sh (z821), .sh (z826), .sh (z831), .sh (z851), .un, .un, .un, .un, .un, .un, .sh (v880), .un] _ _ from (xcall h_is_true (av (ev 3) (av (ev 5) (av (ev 16) eak_nil)))))))))) (el_of (ev 7))) (sb_ret ee_bl) (sb_nil (.eq (.eq (.eq (.eq (.eq (.eq (.eq (.eq (.eq (.eq (.un (.un (.un (.un (.un (.un (.un (.un Le.nil))))))))))))))))))) fun s889 => (show SB _ [.sh (a792), .sh (z793), .sh (v803), .sh (z804), .sh (z811), .sh (z816), .sh (z821), .sh (z826), .sh (z831), .sh (z851), .un, .un, .un, .un, .un, .un, .un, .un] _ _ _ _ from (sb_if (J := Unit) (shJ := fun s908 => [.sh (a792), .sh (z793), .sh (v803), .sh (z804), .sh (z811), .sh (z816), .sh (z821), .sh (z826), .sh (z831), .sh (z851), .un, .un, .un, .un, .un, .un, .un, .un]) (tcmp c_ne (el_new (en_comp (c_lc sc_law.nd [("one", 16)] (ei_range1 (by rfl) T.b_range (el_of (ee_shl (el_of ee_int) (el_of (ev 3))))) (tn 16 sc_law.nd) nm_pure nm_len (q1 (P := fun ds m => ETs (Sta.blk _ _) (setE (wipeE _ _) _ ds) _ m) (fun v893 => (show ETs _ [.sh (a792), .sh (z793), .sh (v803), .sh (z804), .sh (z811), .sh (z816), .sh (z821), .sh (z826), .sh (z831), .sh (z851), .un, .un, .un, .un, .un, .un, .sh (v893), .un] _ _ from ets_nil))) (q1 (P := fun ds m => EE (Sta.blk _ _) (setE (wipeE _ _) _ ds) _ m) (fun v893 => (show EE _ [.sh (a792), .sh (z793), .sh (v803), .sh (z804), .sh (z811), .sh (z816), .sh (z821), .sh (z826), .sh (z831), .sh (z851), .un, .un, .un, .un, .un, .un, .sh (v893), .un] _ _ from (ee_any (b_any T.b_any) (el_new (en_comp (c_lc sc_law.nd [("false", 17)] (ei_read (el_of (ev 9))) (tn 17 sc_law.nd) nm_pure nm_len (q1 (P := fun ds m => ETs (Sta.blk _ _) (setE (wipeE _ _) _ ds) _ m) (fun v894 => (show ETs _ [.sh (a792), .sh (z793), .sh (v803), .sh (z804), .sh (z811), .sh (z816), .sh (z821), .sh (z826), .sh (z831), .sh (z851), .un, .un, .un, .un, .un, .un, .sh (v893), .sh (v894)] _ _ from ets_nil))) (q1 (P := fun ds m => EE (Sta.blk _ _) (setE (wipeE _ _) _ ds) _ m) (fun v894 => (show EE _ [.sh (a792), .sh (z793), .sh (v803), .sh (z804), .sh (z811), .sh (z816), .sh (z821), .sh (z826), .sh (z831), .sh (z851), .un, .un, .un, .un, .un, .un, .sh (v893), .sh (v894)] _ _ from (xcmp c_eq (el_of (ee_and (el_of (ev 16)) (el_of (ee_inv (el_of (ev 17)))))) (el_of ee_int))))))))))))))) (el_new (en_comp (c_lc sc_law.nd [("one", 16)] (ei_read (el_of (ev 7))) (tn 16 sc_law.nd) nm_pure nm_len (q1 (P := fun ds m => ETs (Sta.blk _ _) (setE (wipeE _ _) _ ds) _ m) (fun v904 => (show ETs _ [.sh (a792), .sh (z793), .sh (v803), .sh (z804), .sh (z811), .sh (z816), .sh (z821), .sh (z826), .sh (z831), .sh (z851), .un, .un, .un, .un, .un, .un, .sh (v904), .un] _ _ from ets_nil))) (q1 (P := fun ds m => EE (Sta.blk _ _) (setE (wipeE _ _) _ ds) _ m) (fun v904 => (show EE _ [.sh (a792), .sh (z793), .sh (v803), .sh (z804), .sh (z811), .sh (z816), .sh (z821), .sh (z826), .sh (z831), .sh (z851), .un, .un, .un, .un, .un, .un, .sh (v904), .un] _ _ from (ee_not (el_of (ev 16)))))))))) (sb_ret ee_bl) (sb_nil (.eq (.eq (.eq (.eq (.eq (.eq (.eq (.eq (.eq (.eq (.un (.un (.un (.un (.un (.un (.un (.un Le.nil))))))))))))))))))) fun s908 => (show SB _ [.sh (a792), .sh (z793), .sh (v803), .sh (z804), .sh (z811), .sh (z816), .sh (z821), .sh (z826), .sh (z831), .sh (z851), .un, .un, .un, .un, .un, .un, .un, .un] _ _ _ _ from (s_set 10 sc_law.nd (xcall h__law_row (av (ev 3) (av (ev 6) eak_nil))) (fun z910 => (show SB _ [.sh (a792), .sh (z793), .sh (v803), .sh (z804), .sh (z811), .sh (z816), .sh (z821), .sh (z826), .sh (z831), .sh (z851), .sh (z910), .un, .un, .un, .un, .un, .un, .un] _ _ _ _ from (s_set 11 sc_law.nd (xcall h__law_border_of (av (ee_new (en_comp (c_lc sc_law.nd [("k", 14)] (ei_range1 (by rfl) T.b_range (el_of (ee_len (b_len T.b_len) (el_of (ev 7))))) (tn 14 sc_law.nd) nm_pure nm_len (q1 (P := fun ds m => ETs (Sta.blk _ _) (setE (wipeE _ _) _ ds) _ m) (fun v916 => (show ETs _ [.sh (a792), .sh (z793), .sh (v803), .sh (z804), .sh (z811), .sh (z816), .sh (z821), .sh (z826), .sh (z831), .sh (z851), .sh (z910), .un, .un, .un, .sh (v916), .un, .un, .un] _ _ from ets_nil))) (q1 (P := fun ds m => EE (Sta.blk _ _) (setE (wipeE _ _) _ ds) _ m) (fun v916 => (show EE _ [.sh (a792), .sh (z793), .sh (v803), .sh (z804), .sh (z811), .sh (z816), .sh (z821), .sh (z826), .sh (z831), .sh (z851), .sh (z910), .un, .un, .un, .sh (v916), .un, .un, .un] _ _ from (ee_or2 (xix (el_of (ev 7)) (el_of (ev 14))) (ee_one (xix (el_of (ev 10)) (el_of (ev 14))))))))))) eak_nil)) (fun z915 => (show SB _ [.sh (a792), .sh (z793), .sh (v803), .sh (z804), .sh (z811), .sh (z816), .sh (z821), .sh (z826), .sh (z831), .sh (z851), .sh (z910), .sh (z915), .un, .un, .un, .un, .un, .un] _ _ _ _ from (s_set 12 sc_law.nd (xcall h__law_border_of (av (ee_new (en_comp (c_lc sc_law.nd [("k", 14)] (ei_range1 (by rfl) T.b_range (el_of (ee_len (b_len T.b_len) (el_of (ev 7))))) (tn 14 sc_law.nd) nm_pure nm_len (q1 (P := fun ds m => ETs (Sta.blk _ _) (setE (wipeE _ _) _ ds) _ m) (fun v926 => (show ETs _ [.sh (a792), .sh (z793), .sh (v803), .sh (z804), .sh (z811), .sh (z816), .sh (z821), .sh (z826), .sh (z831), .sh (z851), .sh (z910), .sh (z915), .un, .un, .sh (v926), .un, .un, .un] _ _ from ets_nil))) (q1 (P := fun ds m => EE (Sta.blk _ _) (setE (wipeE _ _) _ ds) _ m) (fun v926 => (show EE _ [.sh (a792), .sh (z793), .sh (v803), .sh (z804), .sh (z811), .sh (z816), .sh (z821), .sh (z826), .sh (z831), .sh (z851), .sh (z910), .sh (z915), .un, .un, .sh (v926), .un, .un, .un] _ _ from (ee_and2 (xix (el_of (ev 7)) (el_of (ev 14))) (ee_one (xix (el_of (ev 10)) (el_of (ev 14))))))))))) eak_nil)) (fun z925 => (show SB _ [.sh (a792), .sh (z793), .sh (v803), .sh (z804), .sh (z811), .sh (z816), .sh (z821), .sh (z826), .sh (z831), .sh (z851), .sh (z910), .sh (z915), .sh (z925), .un, .un, .un, .un, .un] _ _ _ _ from (sb_if (J := Unit) (shJ := fun s950 => [.sh (a792), .sh (z793), .sh (v803), .sh (z804), .sh (z811), .sh (z816), .sh (z821), .sh (z826), .sh (z831), .sh (z851), .sh (z910), .sh (z915), .sh (z925), .un, .un, .un, .un, .un]) (et_w (ew_or (tcmp c_ne (el_of (ev 11)) (el_of (xcall h__law_least (av (ee_new (en_cat (el_new (en_listc (b_list T.b_list) (el_of (ev 5)))) (el_new (en_listc (b_list T.b_list) (el_of (ev 6)))))) eak_nil)))) (ew_or1 (tcmp c_ne (el_of (ev 12)) (el_of (xcall h__law_least (av (xcall h__law_joins (av (ev 5) (av (ev 6) eak_nil))) eak_nil))))))) (sb_ret ee_bl) (sb_nil (.eq (.eq (.eq (.eq (.eq (.eq (.eq (.eq (.eq (.eq (.eq (.eq (.eq (.un (.un (.un (.un (.un Le.nil))))))))))))))))))) fun s950 => (show SB _ [.sh (a792), .sh (z793), .sh (v803), .sh (z804), .sh (z811), .sh (z816), .sh (z821), .sh (z826), .sh (z831), .sh (z851), .sh (z910), .sh (z915), .sh (z925), .un, .un, .un, .un, .un] _ _ _ _ from (sb_if (J := Unit) (shJ := fun s968 => [.sh (a792), .sh (z793), .sh (v803), .sh (z804), .sh (z811), .sh (z816), .sh (z821), .sh (z826), .sh (z831), .sh (z851), .sh (z910), .sh (z915), .sh (z925), .un, .un, .un, .un, .un]) (tcmp c_ne (el_of (xcall h_crossing (av (ev 3) (av (ev 11) eak_nil)))) (el_of (xcall h__law_least (av (xcall h__law_joins (av (ev 8) (av (xcall h_crossing (av (ev 3) (av (ev 6) eak_nil))) eak_nil))) eak_nil)))) (sb_ret ee_bl) (sb_nil (.eq (.eq (.eq (.eq (.eq (.eq (.eq (.eq (.eq (.eq (.eq (.eq (.eq (.un (.un (.un (.un (.un Le.nil))))))))))))))))))) fun s968 => (show SB _ [.sh (a792), .sh (z793), .sh (v803), .sh (z804), .sh (z811), .sh (z816), .sh (z821), .sh (z826), .sh (z831), .sh (z851), .sh (z910), .sh (z915), .sh (z925), .un, .un, .un, .un, .un] _ _ _ _ from (sb_if (J := Unit) (shJ := fun s984 => [.sh (a792), .sh (z793), .sh (v803), .sh (z804), .sh (z811), .sh (z816), .sh (z821), .sh (z826), .sh (z831), .sh (z851), .sh (z910), .sh (z915), .sh (z925), .un, .un, .un, .un, .un]) (tcmp c_ne (el_of (xcall h_crossing (av (ev 3) (av (ev 12) eak_nil)))) (el_of (xcall h__law_least (av (ee_new (en_cat (el_new (en_listc (b_list T.b_list) (el_of (ev 8)))) (el_new (en_listc (b_list T.b_list) (el_of (xcall h_crossing (av (ev 3) (av (ev 6) eak_nil)))))))) eak_nil)))) (sb_ret ee_bl) (sb_nil (.eq (.eq (.eq (.eq (.eq (.eq (.eq (.eq (.eq (.eq (.eq (.eq (.eq (.un (.un (.un (.un (.un Le.nil))))))))))))))))))) fun s984 => (show SB _ [.sh (a792), .sh (z793), .sh (v803), .sh (z804), .sh (z811), .sh (z816), .sh (z821), .sh (z826), .sh (z831), .sh (z851), .sh (z910), .sh (z915), .sh (z925), .un, .un, .un, .un, .un] _ _ _ _ from (s_set 13 sc_law.nd (xcall h__law_known (av (ev 3) (av (ev 5) eak_nil))) (fun z986 => (show SB _ [.sh (a792), .sh (z793), .sh (v803), .sh (z804), .sh (z811), .sh (z816), .sh (z821), .sh (z826), .sh (z831), .sh (z851), .sh (z910), .sh (z915), .sh (z925), .sh (z986), .un, .un, .un, .un] _ _ _ _ from (sb_if (J := Unit) (shJ := fun s1027 => [.sh (a792), .sh (z793), .sh (v803), .sh (z804), .sh (z811), .sh (z816), .sh (z821), .sh (z826), .sh (z831), .sh (z851), .sh (z910), .sh (z915), .sh (z925), .sh (z986), .un, .un, .un, .un]) (et_w (ew_or (tcmp c_is (el_of (ev 13)) (el_of ee_non)) (ew_or (tcmp c_ne (el_of (xix (el_of (ev 13)) (el_of ee_int))) (el_of (ee_tup (ea_cons ee_str (ea_cons (ev 5) (ea_cons (ev 9) ea_nil)))))) (ew_or (tcmp c_ne (el_of (xix (el_of (ev 13)) (el_of ee_int))) (el_of (xcall h_asks_for (av (ev 3) (av (ev 5) eak_nil))))) (ew_or1 (tcmp c_gt (el_of (xix (el_of (ev 13)) (el_of ee_int))) (el_of (ee_mul (el_of (ee_add (el_of (ee_len (b_len T.b_len) (el_of (ev 5)))) (el_of (ee_len (b_len T.b_len) (el_of (ev 9)))))) (el_of (ee_add (el_of (ev 3)) (el_of ee_int))))))))))) (sb_ret ee_bl) (sb_nil (.eq (.eq (.eq (.eq (.eq (.eq (.eq (.eq (.eq (.eq (.eq (.eq (.eq (.eq (.un (.un (.un (.un Le.nil))))))))))))))))))) fun s1027 => (show SB _ [.sh (a792), .sh (z793), .sh (v803), .sh (z804), .sh (z811), .sh (z816), .sh (z821), .sh (z826), .sh (z831), .sh (z851), .sh (z910), .sh (z915), .sh (z925), .sh (z986), .un, .un, .un, .un] _ _ _ _ from (s_for (Z := Unit) (sh := fun s1029 => [.sh (a792), .sh (z793), .sh (v803), .sh (z804), .sh (z811), .sh (z816), .sh (z821), .sh (z826), .sh (z831), .sh (z851), .sh (z910), .sh (z915), .sh (z925), .sh (z986), .un, .un, .un, .un]) (ei_range1 (by rfl) T.b_range (el_of (ee_len (b_len T.b_len) (el_of (ev 5))))) (tn 14 sc_law.nd) nm_pure nm_len (.eq (.eq (.eq (.eq (.eq (.eq (.eq (.eq (.eq (.eq (.eq (.eq (.eq (.eq (.un (.un (.un (.un Le.nil)))))))))))))))))) (fun s1029 => q1 (P := fun ds m => SB _ (setE _ _ ds) _ m _ _) (fun v1030 => (show SB _ [.sh (a792), .sh (z793), .sh (v803), .sh (z804), .sh (z811), .sh (z816), .sh (z821), .sh (z826), .sh (z831), .sh (z851), .sh (z910), .sh (z915), .sh (z925), .sh (z986), .sh (v1030), .un, .un, .un] _ _ _ _ from (s_set 15 sc_law.nd (ee_add (el_of (ee_slT (el_of (ev 5)) eo_none (eo_some (el_of (ev 14))))) (el_of (ee_slT (el_of (ev 5)) (eo_some (el_of (ee_add (el_of (ev 14)) (el_of ee_int)))) eo_none))) (fun z1031 => (show SB _ [.sh (a792), .sh (z793), .sh (v803), .sh (z804), .sh (z811), .sh (z816), .sh (z821), .sh (z826), .sh (z831), .sh (z851), .sh (z910), .sh (z915), .sh (z925), .sh (z986), .sh (v1030), .sh (z1031), .un, .un] _ _ _ _ from (sb_if (J := Unit) (shJ := fun s1055 => [.sh (a792), .sh (z793), .sh (v803), .sh (z804), .sh (z811), .sh (z816), .sh (z821), .sh (z826), .sh (z831), .sh (z851), .sh (z910), .sh (z915), .sh (z925), .sh (z986), .sh (v1030), .sh (z1031), .un, .un]) (et_w (ew_or (tcmp c_eq (el_of (xcall h_greatest_falses (av (ev 3) (av (ev 15) eak_nil)))) (el_of (ev 9))) (ew_or1 (ttr (el_of (xcall h_is_whole (av (ev 3) (av (ev 15) (av (ev 9) eak_nil))))))))) (sb_ret ee_bl) (sb_nil (.eq (.eq (.eq (.eq (.eq (.eq (.eq (.eq (.eq (.eq (.eq (.eq (.eq (.eq (.eq (.eq (.un (.un Le.nil))))))))))))))))))) fun s1055 => (show SB _ [.sh (a792), .sh (z793), .sh (v803), .sh (z804), .sh (z811), .sh (z816), .sh (z821), .sh (z826), .sh (z831), .sh (z851), .sh (z910), .sh (z915), .sh (z925), .sh (z986), .sh (v1030), .sh (z1031), .un, .un] _ _ _ _ from (sb_nil (.eq (.eq (.eq (.eq (.eq (.eq (.eq (.eq (.eq (.eq (.eq (.eq (.eq (.eq (.un (.un (.un (.un Le.nil))))))))))))))))))))))))))) fun s1029 => (show SB _ [.sh (a792), .sh (z793), .sh (v803), .sh (z804), .sh (z811), .sh (z816), .sh (z821), .sh (z826), .sh (z831), .sh (z851), .sh (z910), .sh (z915), .sh (z925), .sh (z986), .un, .un, .un, .un] _ _ _ _ from (sb_nil (.eq (.eq (.un (.un (.un (.un (.un (.un (.un (.un (.un (.un (.un (.un (.un (.un (.un (.un Le.nil))))))))))))))))))))))))))))))))))))))))))))))))))))))))))))))))))))))))) fun s802 => (show SB _ [.sh (a792), .sh (z793), .un, .un, .un, .un, .un, .un, .un, .un, .un, .un, .un, .un, .un, .un, .un, .un] _ _ _ _ from (sb_ret ee_bl)))))))))
theorem all_mk {l : PySem.W.OpenLaw} {w : World} {K : PySem.W.Frag} {h : Heap} {mg : Str → Option Value} {fa C0 f0 f1 f2 f3 f4 f5 f6 f7 f8 f9 f10 f11 f12 f13 f14 f15 f16 f17 f18 f19 f20 f21 f22 f23 f24 f25 f26 f27 f28 f29 f30 f31 : Addr} (X : K.In h) (G : h.Ns mainGlobals mg) (hfa : mg "law" = some (.ref fa))
    {od0 an0 od1 an1 od2 an2 od3 an3 od4 an4 od5 an5 od6 an6 od7 an7 od8 an8 od9 an9 od10 an10 od11 an11 od12 an12 od13 an13 od14 an14 od15 an15 od16 an16 od17 an17 od18 an18 od19 an19 od20 an20 od21 an21 od22 an22 od23 an23 od24 an24 od25 an25 od26 an26 od27 an27 od28 an28 od29 an29 od30 an30 od31 an31 : Option Addr} {sl0 sl1 sl2 sl3 sl4 sl5 sl6 sl7 sl8 sl9 sl10 sl11 sl12 sl13 sl14 sl15 sl16 sl17 sl18 sl19 sl20 sl21 sl22 sl23 sl24 sl25 sl26 sl27 sl28 sl29 sl30 sl31 : Array (Option Value)} {oc0 kV0 dc0 pm0 cd0 ct0 oc1 kV1 dc1 pm1 cd1 ct1 oc2 kV2 dc2 pm2 cd2 ct2 oc3 kV3 dc3 pm3 cd3 ct3 oc4 kV4 dc4 pm4 cd4 ct4 oc5 kV5 dc5 pm5 cd5 ct5 oc6 kV6 dc6 pm6 cd6 ct6 oc7 kV7 dc7 pm7 cd7 ct7 oc8 kV8 dc8 pm8 cd8 ct8 oc9 kV9 dc9 pm9 cd9 ct9 oc10 kV10 dc10 pm10 cd10 ct10 oc11 kV11 dc11 pm11 cd11 ct11 oc12 kV12 dc12 pm12 cd12 ct12 oc13 kV13 dc13 pm13 cd13 ct13 oc14 kV14 dc14 pm14 cd14 ct14 oc15 kV15 dc15 pm15 cd15 ct15 oc16 kV16 dc16 pm16 cd16 ct16 oc17 kV17 dc17 pm17 cd17 ct17 oc18 kV18 dc18 pm18 cd18 ct18 oc19 kV19 dc19 pm19 cd19 ct19 oc20 kV20 dc20 pm20 cd20 ct20 oc21 kV21 dc21 pm21 cd21 ct21 oc22 kV22 dc22 pm22 cd22 ct22 oc23 kV23 dc23 pm23 cd23 ct23 oc24 kV24 dc24 pm24 cd24 ct24 oc25 kV25 dc25 pm25 cd25 ct25 oc26 kV26 dc26 pm26 cd26 ct26 oc27 kV27 dc27 pm27 cd27 ct27 oc28 kV28 dc28 pm28 cd28 ct28 oc29 kV29 dc29 pm29 cd29 ct29 oc30 kV30 dc30 pm30 cd30 ct30 oc31 kV31 dc31 pm31 cd31 ct31 : Value} {t_MAX_THINGS : Tok}
    (a0 : PySem.W.nsIn K mainGlobals "check_count" = some (some (.ref f0)))
    (l0 : K.lookup f0 = some ⟨oc0, od0, .func (PySem.W.fnOf "check_count" "check_count" (defArgs s_check_count) (defBody s_check_count) (defScope s_check_count) .none kV0 dc0 pm0 an0 cd0 ct0), sl0⟩) (c0 : PySem.W.codeIn K cd0 "check_count" = true) (k0 : PySem.W.keepIn K (.ref f0) = true)
    (a1 : PySem.W.nsIn K mainGlobals "check_sets" = some (some (.ref f1)))
    (l1 : K.lookup f1 = some ⟨oc1, od1, .func (PySem.W.fnOf "check_sets" "check_sets" (defArgs s_check_sets) (defBody s_check_sets) (defScope s_check_sets) .none kV1 dc1 pm1 an1 cd1 ct1), sl1⟩) (c1 : PySem.W.codeIn K cd1 "check_sets" = true) (k1 : PySem.W.keepIn K (.ref f1) = true)
    (a2 : PySem.W.nsIn K mainGlobals "things_in" = some (some (.ref f2)))
    (l2 : K.lookup f2 = some ⟨oc2, od2, .func (PySem.W.fnOf "things_in" "things_in" (defArgs s_things_in) (defBody s_things_in) (defScope s_things_in) .none kV2 dc2 pm2 an2 cd2 ct2), sl2⟩) (c2 : PySem.W.codeIn K cd2 "things_in" = true) (k2 : PySem.W.keepIn K (.ref f2) = true)
    (a3 : PySem.W.nsIn K mainGlobals "least_of" = some (some (.ref f3)))
    (l3 : K.lookup f3 = some ⟨oc3, od3, .func (PySem.W.fnOf "least_of" "least_of" (defArgs s_least_of) (defBody s_least_of) (defScope s_least_of) .none kV3 dc3 pm3 an3 cd3 ct3), sl3⟩) (c3 : PySem.W.codeIn K cd3 "least_of" = true) (k3 : PySem.W.keepIn K (.ref f3) = true)
    (a4 : PySem.W.nsIn K mainGlobals "check_border" = some (some (.ref f4)))
    (l4 : K.lookup f4 = some ⟨oc4, od4, .func (PySem.W.fnOf "check_border" "check_border" (defArgs s_check_border) (defBody s_check_border) (defScope s_check_border) .none kV4 dc4 pm4 an4 cd4 ct4), sl4⟩) (c4 : PySem.W.codeIn K cd4 "check_border" = true) (k4 : PySem.W.keepIn K (.ref f4) = true)
    (a5 : PySem.W.nsIn K mainGlobals "crossing_of" = some (some (.ref f5)))
    (l5 : K.lookup f5 = some ⟨oc5, od5, .func (PySem.W.fnOf "crossing_of" "crossing_of" (defArgs s_crossing_of) (defBody s_crossing_of) (defScope s_crossing_of) .none kV5 dc5 pm5 an5 cd5 ct5), sl5⟩) (c5 : PySem.W.codeIn K cd5 "crossing_of" = true) (k5 : PySem.W.keepIn K (.ref f5) = true)
    (a6 : PySem.W.nsIn K mainGlobals "crossing" = some (some (.ref f6)))
    (l6 : K.lookup f6 = some ⟨oc6, od6, .func (PySem.W.fnOf "crossing" "crossing" (defArgs s_crossing) (defBody s_crossing) (defScope s_crossing) .none kV6 dc6 pm6 an6 cd6 ct6), sl6⟩) (c6 : PySem.W.codeIn K cd6 "crossing" = true) (k6 : PySem.W.keepIn K (.ref f6) = true)
    (a7 : PySem.W.nsIn K mainGlobals "falses_of" = some (some (.ref f7)))
    (l7 : K.lookup f7 = some ⟨oc7, od7, .func (PySem.W.fnOf "falses_of" "falses_of" (defArgs s_falses_of) (defBody s_falses_of) (defScope s_falses_of) .none kV7 dc7 pm7 an7 cd7 ct7), sl7⟩) (c7 : PySem.W.codeIn K cd7 "falses_of" = true) (k7 : PySem.W.keepIn K (.ref f7) = true)
    (a8 : PySem.W.nsIn K mainGlobals "greatest_falses" = some (some (.ref f8)))
    (l8 : K.lookup f8 = some ⟨oc8, od8, .func (PySem.W.fnOf "greatest_falses" "greatest_falses" (defArgs s_greatest_falses) (defBody s_greatest_falses) (defScope s_greatest_falses) .none kV8 dc8 pm8 an8 cd8 ct8), sl8⟩) (c8 : PySem.W.codeIn K cd8 "greatest_falses" = true) (k8 : PySem.W.keepIn K (.ref f8) = true)
    (a9 : PySem.W.nsIn K mainGlobals "least_trues" = some (some (.ref f9)))
    (l9 : K.lookup f9 = some ⟨oc9, od9, .func (PySem.W.fnOf "least_trues" "least_trues" (defArgs s_least_trues) (defBody s_least_trues) (defScope s_least_trues) .none kV9 dc9 pm9 an9 cd9 ct9), sl9⟩) (c9 : PySem.W.codeIn K cd9 "least_trues" = true) (k9 : PySem.W.keepIn K (.ref f9) = true)
    (a10 : PySem.W.nsIn K mainGlobals "is_true" = some (some (.ref f10)))
    (l10 : K.lookup f10 = some ⟨oc10, od10, .func (PySem.W.fnOf "is_true" "is_true" (defArgs s_is_true) (defBody s_is_true) (defScope s_is_true) .none kV10 dc10 pm10 an10 cd10 ct10), sl10⟩) (c10 : PySem.W.codeIn K cd10 "is_true" = true) (k10 : PySem.W.keepIn K (.ref f10) = true)
    (a11 : PySem.W.nsIn K mainGlobals "first_open" = some (some (.ref f11)))
    (l11 : K.lookup f11 = some ⟨oc11, od11, .func (PySem.W.fnOf "first_open" "first_open" (defArgs s_first_open) (defBody s_first_open) (defScope s_first_open) .none kV11 dc11 pm11 an11 cd11 ct11), sl11⟩) (c11 : PySem.W.codeIn K cd11 "first_open" = true) (k11 : PySem.W.keepIn K (.ref f11) = true)
    (a12 : PySem.W.nsIn K mainGlobals "is_whole" = some (some (.ref f12)))
    (l12 : K.lookup f12 = some ⟨oc12, od12, .func (PySem.W.fnOf "is_whole" "is_whole" (defArgs s_is_whole) (defBody s_is_whole) (defScope s_is_whole) .none kV12 dc12 pm12 an12 cd12 ct12), sl12⟩) (c12 : PySem.W.codeIn K cd12 "is_whole" = true) (k12 : PySem.W.keepIn K (.ref f12) = true)
    (a13 : PySem.W.findIn K (.ref C0) "__init__" = some (some (.ref f13))) (i13 : PySem.W.isFn K (.ref f13) = true)
    (l13 : K.lookup f13 = some ⟨oc13, od13, .func (PySem.W.fnOf "__init__" "BorderAsker.__init__" (defArgs s_BorderAsker___init__) (defBody s_BorderAsker___init__) (defScope s_BorderAsker___init__) .none kV13 dc13 pm13 an13 cd13 ct13), sl13⟩) (c13 : PySem.W.codeIn K cd13 "BorderAsker.__init__" = true) (k13 : PySem.W.keepIn K (.ref f13) = true)
    (a14 : PySem.W.findIn K (.ref C0) "answer_of" = some (some (.ref f14))) (i14 : PySem.W.isFn K (.ref f14) = true)
    (l14 : K.lookup f14 = some ⟨oc14, od14, .func (PySem.W.fnOf "answer_of" "BorderAsker.answer_of" (defArgs s_BorderAsker_answer_of) (defBody s_BorderAsker_answer_of) (defScope s_BorderAsker_answer_of) .none kV14 dc14 pm14 an14 cd14 ct14), sl14⟩) (c14 : PySem.W.codeIn K cd14 "BorderAsker.answer_of" = true) (k14 : PySem.W.keepIn K (.ref f14) = true)
    (a15 : PySem.W.findIn K (.ref C0) "tried" = some (some (.ref f15))) (i15 : PySem.W.isFn K (.ref f15) = true)
    (l15 : K.lookup f15 = some ⟨oc15, od15, .func (PySem.W.fnOf "tried" "BorderAsker.tried" (defArgs s_BorderAsker_tried) (defBody s_BorderAsker_tried) (defScope s_BorderAsker_tried) .none kV15 dc15 pm15 an15 cd15 ct15), sl15⟩) (c15 : PySem.W.codeIn K cd15 "BorderAsker.tried" = true) (k15 : PySem.W.keepIn K (.ref f15) = true)
    (a16 : PySem.W.findIn K (.ref C0) "go_on" = some (some (.ref f16))) (i16 : PySem.W.isFn K (.ref f16) = true)
    (l16 : K.lookup f16 = some ⟨oc16, od16, .func (PySem.W.fnOf "go_on" "BorderAsker.go_on" (defArgs s_BorderAsker_go_on) (defBody s_BorderAsker_go_on) (defScope s_BorderAsker_go_on) .none kV16 dc16 pm16 an16 cd16 ct16), sl16⟩) (c16 : PySem.W.codeIn K cd16 "BorderAsker.go_on" = true) (k16 : PySem.W.keepIn K (.ref f16) = true)
    (a17 : PySem.W.findIn K (.ref C0) "step" = some (some (.ref f17))) (i17 : PySem.W.isFn K (.ref f17) = true)
    (l17 : K.lookup f17 = some ⟨oc17, od17, .func (PySem.W.fnOf "step" "BorderAsker.step" (defArgs s_BorderAsker_step) (defBody s_BorderAsker_step) (defScope s_BorderAsker_step) .none kV17 dc17 pm17 an17 cd17 ct17), sl17⟩) (c17 : PySem.W.codeIn K cd17 "BorderAsker.step" = true) (k17 : PySem.W.keepIn K (.ref f17) = true)
    (a18 : PySem.W.findIn K (.ref C0) "tell" = some (some (.ref f18))) (i18 : PySem.W.isFn K (.ref f18) = true)
    (l18 : K.lookup f18 = some ⟨oc18, od18, .func (PySem.W.fnOf "tell" "BorderAsker.tell" (defArgs s_BorderAsker_tell) (defBody s_BorderAsker_tell) (defScope s_BorderAsker_tell) .none kV18 dc18 pm18 an18 cd18 ct18), sl18⟩) (c18 : PySem.W.codeIn K cd18 "BorderAsker.tell" = true) (k18 : PySem.W.keepIn K (.ref f18) = true)
    (a19 : PySem.W.findIn K (.ref C0) "asked" = some (some (.ref f19))) (i19 : PySem.W.isFn K (.ref f19) = true)
    (l19 : K.lookup f19 = some ⟨oc19, od19, .func (PySem.W.fnOf "asked" "BorderAsker.asked" (defArgs s_BorderAsker_asked) (defBody s_BorderAsker_asked) (defScope s_BorderAsker_asked) .none kV19 dc19 pm19 an19 cd19 ct19), sl19⟩) (c19 : PySem.W.codeIn K cd19 "BorderAsker.asked" = true) (k19 : PySem.W.keepIn K (.ref f19) = true)
    (a20 : PySem.W.nsIn K mainGlobals "asks_for" = some (some (.ref f20)))
    (l20 : K.lookup f20 = some ⟨oc20, od20, .func (PySem.W.fnOf "asks_for" "asks_for" (defArgs s_asks_for) (defBody s_asks_for) (defScope s_asks_for) .none kV20 dc20 pm20 an20 cd20 ct20), sl20⟩) (c20 : PySem.W.codeIn K cd20 "asks_for" = true) (k20 : PySem.W.keepIn K (.ref f20) = true)
    (a21 : PySem.W.nsIn K mainGlobals "_law_stream" = some (some (.ref f21)))
    (l21 : K.lookup f21 = some ⟨oc21, od21, .func (PySem.W.fnOf "_law_stream" "_law_stream" (defArgs s__law_stream) (defBody s__law_stream) (defScope s__law_stream) .none kV21 dc21 pm21 an21 cd21 ct21), sl21⟩) (c21 : PySem.W.codeIn K cd21 "_law_stream" = true) (k21 : PySem.W.keepIn K (.ref f21) = true)
    (a22 : PySem.W.nsIn K mainGlobals "_law_next" = some (some (.ref f22)))
    (l22 : K.lookup f22 = some ⟨oc22, od22, .func (PySem.W.fnOf "_law_next" "_law_next" (defArgs s__law_next) (defBody s__law_next) (defScope s__law_next) .none kV22 dc22 pm22 an22 cd22 ct22), sl22⟩) (c22 : PySem.W.codeIn K cd22 "_law_next" = true) (k22 : PySem.W.keepIn K (.ref f22) = true)
    (a23 : PySem.W.nsIn K mainGlobals "_law_least" = some (some (.ref f23)))
    (l23 : K.lookup f23 = some ⟨oc23, od23, .func (PySem.W.fnOf "_law_least" "_law_least" (defArgs s__law_least) (defBody s__law_least) (defScope s__law_least) .none kV23 dc23 pm23 an23 cd23 ct23), sl23⟩) (c23 : PySem.W.codeIn K cd23 "_law_least" = true) (k23 : PySem.W.keepIn K (.ref f23) = true)
    (a24 : PySem.W.nsIn K mainGlobals "_law_true" = some (some (.ref f24)))
    (l24 : K.lookup f24 = some ⟨oc24, od24, .func (PySem.W.fnOf "_law_true" "_law_true" (defArgs s__law_true) (defBody s__law_true) (defScope s__law_true) .none kV24 dc24 pm24 an24 cd24 ct24), sl24⟩) (c24 : PySem.W.codeIn K cd24 "_law_true" = true) (k24 : PySem.W.keepIn K (.ref f24) = true)
    (a25 : PySem.W.nsIn K mainGlobals "_law_border" = some (some (.ref f25)))
    (l25 : K.lookup f25 = some ⟨oc25, od25, .func (PySem.W.fnOf "_law_border" "_law_border" (defArgs s__law_border) (defBody s__law_border) (defScope s__law_border) .none kV25 dc25 pm25 an25 cd25 ct25), sl25⟩) (c25 : PySem.W.codeIn K cd25 "_law_border" = true) (k25 : PySem.W.keepIn K (.ref f25) = true)
    (a26 : PySem.W.nsIn K mainGlobals "_law_crossing" = some (some (.ref f26)))
    (l26 : K.lookup f26 = some ⟨oc26, od26, .func (PySem.W.fnOf "_law_crossing" "_law_crossing" (defArgs s__law_crossing) (defBody s__law_crossing) (defScope s__law_crossing) .none kV26 dc26 pm26 an26 cd26 ct26), sl26⟩) (c26 : PySem.W.codeIn K cd26 "_law_crossing" = true) (k26 : PySem.W.keepIn K (.ref f26) = true)
    (a27 : PySem.W.nsIn K mainGlobals "_law_row" = some (some (.ref f27)))
    (l27 : K.lookup f27 = some ⟨oc27, od27, .func (PySem.W.fnOf "_law_row" "_law_row" (defArgs s__law_row) (defBody s__law_row) (defScope s__law_row) .none kV27 dc27 pm27 an27 cd27 ct27), sl27⟩) (c27 : PySem.W.codeIn K cd27 "_law_row" = true) (k27 : PySem.W.keepIn K (.ref f27) = true)
    (a28 : PySem.W.nsIn K mainGlobals "_law_border_of" = some (some (.ref f28)))
    (l28 : K.lookup f28 = some ⟨oc28, od28, .func (PySem.W.fnOf "_law_border_of" "_law_border_of" (defArgs s__law_border_of) (defBody s__law_border_of) (defScope s__law_border_of) .none kV28 dc28 pm28 an28 cd28 ct28), sl28⟩) (c28 : PySem.W.codeIn K cd28 "_law_border_of" = true) (k28 : PySem.W.keepIn K (.ref f28) = true)
    (a29 : PySem.W.nsIn K mainGlobals "_law_joins" = some (some (.ref f29)))
    (l29 : K.lookup f29 = some ⟨oc29, od29, .func (PySem.W.fnOf "_law_joins" "_law_joins" (defArgs s__law_joins) (defBody s__law_joins) (defScope s__law_joins) .none kV29 dc29 pm29 an29 cd29 ct29), sl29⟩) (c29 : PySem.W.codeIn K cd29 "_law_joins" = true) (k29 : PySem.W.keepIn K (.ref f29) = true)
    (a30 : PySem.W.nsIn K mainGlobals "_law_known" = some (some (.ref f30)))
    (l30 : K.lookup f30 = some ⟨oc30, od30, .func (PySem.W.fnOf "_law_known" "_law_known" (defArgs s__law_known) (defBody s__law_known) (defScope s__law_known) .none kV30 dc30 pm30 an30 cd30 ct30), sl30⟩) (c30 : PySem.W.codeIn K cd30 "_law_known" = true) (k30 : PySem.W.keepIn K (.ref f30) = true)
    (a31 : PySem.W.nsIn K mainGlobals "law" = some (some (.ref f31)))
    (l31 : K.lookup f31 = some ⟨oc31, od31, .func (PySem.W.fnOf "law" "law" (defArgs s_law) (defBody s_law) (defScope s_law) .none kV31 dc31 pm31 an31 cd31 ct31), sl31⟩) (c31 : PySem.W.codeIn K cd31 "law" = true) (k31 : PySem.W.keepIn K (.ref f31) = true)
    (aC0 : PySem.W.nsIn K mainGlobals "BorderAsker" = some (some (.ref C0))) (pg0 : PySem.W.plainGet K C0 Str.empty = true) (hd0 : PySem.W.hasDictIn K C0 = true) (po0 : PySem.W.plainOver K C0 = true) (sa0 : PySem.W.findIn K (.ref C0) "__setattr__" = some (some (.builtin "object.__setattr__"))) (mk0 : PySem.W.makesIn K C0 = true) (kc0 : PySem.W.keepIn K (.ref C0) = true)
    (n0_0 : PySem.W.findIn K (.ref C0) "count" = some none)
    (n0_1 : PySem.W.findIn K (.ref C0) "trues" = some none)
    (n0_2 : PySem.W.findIn K (.ref C0) "falses" = some none)
    (n0_3 : PySem.W.findIn K (.ref C0) "asks" = some none)
    (n0_4 : PySem.W.findIn K (.ref C0) "here" = some none)
    (n0_5 : PySem.W.findIn K (.ref C0) "left" = some none)
    (n0_6 : PySem.W.findIn K (.ref C0) "bit" = some none)
    (zb_abs : PySem.W.nsIn K mainGlobals "abs" = some none)
    (zb_all : PySem.W.nsIn K mainGlobals "all" = some none)
    (zb_any : PySem.W.nsIn K mainGlobals "any" = some none)
    (zb_int : PySem.W.nsIn K mainGlobals "int" = some none)
    (zb_len : PySem.W.nsIn K mainGlobals "len" = some none)
    (zb_list : PySem.W.nsIn K mainGlobals "list" = some none)
    (zb_range : PySem.W.nsIn K mainGlobals "range" = some none)
    (zb_set : PySem.W.nsIn K mainGlobals "set" = some none)
    (zb_sorted : PySem.W.nsIn K mainGlobals "sorted" = some none)
    (zb_tuple : PySem.W.nsIn K mainGlobals "tuple" = some none)
    (zc_MAX_THINGS : PySem.W.nsIn K mainGlobals "MAX_THINGS" = some (some (.int 8 t_MAX_THINGS)))
    (ok : LawOk m_law) : ∃ fd : FuncData, (∀ (s : Shared) (u : Value), BindsTo s fd ⟨[u], []⟩ [("script", u)]) ∧ ∀ base : Heap, K.In base → base.Ns mainGlobals mg → FnOk l.prog w K mg base (L2.CX l.prog w) 5 fa fd ["script"] (spLaw K) := by
  cases hfa.symm.trans (PySem.W.mg_of X G a31)
  have F0 := fun_mk (st := s_check_count) l0 c0 k0
  have F1 := fun_mk (st := s_check_sets) l1 c1 k1
  have F2 := fun_mk (st := s_things_in) l2 c2 k2
  have F3 := fun_mk (st := s_least_of) l3 c3 k3
  have F4 := fun_mk (st := s_check_border) l4 c4 k4
  have F5 := fun_mk (st := s_crossing_of) l5 c5 k5
  have F6 := fun_mk (st := s_crossing) l6 c6 k6
  have F7 := fun_mk (st := s_falses_of) l7 c7 k7
  have F8 := fun_mk (st := s_greatest_falses) l8 c8 k8
  have F9 := fun_mk (st := s_least_trues) l9 c9 k9
  have F10 := fun_mk (st := s_is_true) l10 c10 k10
  have F11 := fun_mk (st := s_first_open) l11 c11 k11
  have F12 := fun_mk (st := s_is_whole) l12 c12 k12
  have F13 := fun_mk (st := s_BorderAsker___init__) l13 c13 k13
  have F14 := fun_mk (st := s_BorderAsker_answer_of) l14 c14 k14
  have F15 := fun_mk (st := s_BorderAsker_tried) l15 c15 k15
  have F16 := fun_mk (st := s_BorderAsker_go_on) l16 c16 k16
  have F17 := fun_mk (st := s_BorderAsker_step) l17 c17 k17
  have F18 := fun_mk (st := s_BorderAsker_tell) l18 c18 k18
  have F19 := fun_mk (st := s_BorderAsker_asked) l19 c19 k19
  have F20 := fun_mk (st := s_asks_for) l20 c20 k20
  have F21 := fun_mk (st := s__law_stream) l21 c21 k21
  have F22 := fun_mk (st := s__law_next) l22 c22 k22
  have F23 := fun_mk (st := s__law_least) l23 c23 k23
  have F24 := fun_mk (st := s__law_true) l24 c24 k24
  have F25 := fun_mk (st := s__law_border) l25 c25 k25
  have F26 := fun_mk (st := s__law_crossing) l26 c26 k26
  have F27 := fun_mk (st := s__law_row) l27 c27 k27
  have F28 := fun_mk (st := s__law_border_of) l28 c28 k28
  have F29 := fun_mk (st := s__law_joins) l29 c29 k29
  have F30 := fun_mk (st := s__law_known) l30 c30 k30
  have F31 := fun_mk (st := s_law) l31 c31 k31
  refine ⟨PySem.W.fnOf "law" "law" (defArgs s_law) (defBody s_law) (defScope s_law) .none kV31 dc31 pm31 an31 cd31 ct31, fun s v => .of_eq rfl, fun base _ _ => ?_⟩
  let p : Pg := ⟨l.prog, w, K, mg, base, fun n => match n with | 0 => C0 | _ => fa⟩
  have T : Txt p := {
    b_abs := PySem.W.mg_none_of X G zb_abs,
    b_all := PySem.W.mg_none_of X G zb_all,
    b_any := PySem.W.mg_none_of X G zb_any,
    b_int := PySem.W.mg_none_of X G zb_int,
    b_len := PySem.W.mg_none_of X G zb_len,
    b_list := PySem.W.mg_none_of X G zb_list,
    b_range := PySem.W.mg_none_of X G zb_range,
    b_set := PySem.W.mg_none_of X G zb_set,
    b_sorted := PySem.W.mg_none_of X G zb_sorted,
    b_tuple := PySem.W.mg_none_of X G zb_tuple,
    c_MAX_THINGS := ⟨_, PySem.W.mg_of X G zc_MAX_THINGS⟩,
    k_BorderAsker := ⟨⟨pg0, hd0, po0, sa0⟩, fun f hf => by
    simp only [List.mem_cons, List.not_mem_nil, or_false] at hf
    rcases hf with rfl | rfl | rfl | rfl | rfl | rfl | rfl
    · exact n0_0
    · exact n0_1
    · exact n0_2
    · exact n0_3
    · exact n0_4
    · exact n0_5
    · exact n0_6⟩ }
  have h_check_count := fnc_of (p := p) (x := "check_count") (o_check_count (p := p) T F0 ) (PySem.W.mg_of X G a0) k0 (F0.binds (ps := ["count"]) fun _ _ _ _ _ _ us hl => match us, hl with | [_], _ => rfl)
  have h_check_sets := fnc_of (p := p) (x := "check_sets") (o_check_sets (p := p) T F1 h_check_count) (PySem.W.mg_of X G a1) k1 (F1.binds (ps := ["count", "sets"]) fun _ _ _ _ _ _ us hl => match us, hl with | [_, _], _ => rfl)
  have h_things_in := fnc_of (p := p) (x := "things_in") (o_things_in (p := p) T F2 ) (PySem.W.mg_of X G a2) k2 (F2.binds (ps := ["one"]) fun _ _ _ _ _ _ us hl => match us, hl with | [_], _ => rfl)
  have h_least_of := fnc_of (p := p) (x := "least_of") (o_least_of (p := p) T F3 ) (PySem.W.mg_of X G a3) k3 (F3.binds (ps := ["sets"]) fun _ _ _ _ _ _ us hl => match us, hl with | [_], _ => rfl)
  have h_check_border := fnc_of (p := p) (x := "check_border") (o_check_border (p := p) T F4 h_check_sets h_least_of) (PySem.W.mg_of X G a4) k4 (F4.binds (ps := ["count", "sets"]) fun _ _ _ _ _ _ us hl => match us, hl with | [_, _], _ => rfl)
  have h_crossing_of := fnc_of (p := p) (x := "crossing_of") (o_crossing_of (p := p) T F5 h_things_in h_least_of) (PySem.W.mg_of X G a5) k5 (F5.binds (ps := ["sets"]) fun _ _ _ _ _ _ us hl => match us, hl with | [_], _ => rfl)
  have h_crossing := fnc_of (p := p) (x := "crossing") (o_crossing (p := p) T F6 h_check_sets h_crossing_of) (PySem.W.mg_of X G a6) k6 (F6.binds (ps := ["count", "sets"]) fun _ _ _ _ _ _ us hl => match us, hl with | [_, _], _ => rfl)
  have h_falses_of := fnc_of (p := p) (x := "falses_of") (o_falses_of (p := p) T F7 h_crossing_of) (PySem.W.mg_of X G a7) k7 (F7.binds (ps := ["count", "trues"]) fun _ _ _ _ _ _ us hl => match us, hl with | [_, _], _ => rfl)
  have h_greatest_falses := fnc_of (p := p) (x := "greatest_falses") (o_greatest_falses (p := p) T F8 h_check_border h_falses_of) (PySem.W.mg_of X G a8) k8 (F8.binds (ps := ["count", "trues"]) fun _ _ _ _ _ _ us hl => match us, hl with | [_, _], _ => rfl)
  have h_least_trues := fnc_of (p := p) (x := "least_trues") (o_least_trues (p := p) T F9 h_check_border h_crossing_of) (PySem.W.mg_of X G a9) k9 (F9.binds (ps := ["count", "falses"]) fun _ _ _ _ _ _ us hl => match us, hl with | [_, _], _ => rfl)
  have h_is_true := fnc_of (p := p) (x := "is_true") (o_is_true (p := p) T F10 h_check_border h_check_sets) (PySem.W.mg_of X G a10) k10 (F10.binds (ps := ["count", "trues", "one"]) fun _ _ _ _ _ _ us hl => match us, hl with | [_, _, _], _ => rfl)
  have h_first_open := fnc_of (p := p) (x := "first_open") (o_first_open (p := p) T F11 ) (PySem.W.mg_of X G a11) k11 (F11.binds (ps := ["count", "trues", "falses"]) fun _ _ _ _ _ _ us hl => match us, hl with | [_, _, _], _ => rfl)
  have h_is_whole := fnc_of (p := p) (x := "is_whole") (o_is_whole (p := p) T F12 h_check_border h_falses_of) (PySem.W.mg_of X G a12) k12 (F12.binds (ps := ["count", "trues", "falses"]) fun _ _ _ _ _ _ us hl => match us, hl with | [_, _, _], _ => rfl)
  have h_BorderAsker___init__ := mkr_of (p := p) (c := 0) (x := "BorderAsker") (o_BorderAsker___init__ (p := p) T F13 h_check_count) ⟨mk0, a13, i13, kc0⟩ (F13.binds (ps := ["self", "count"]) fun _ _ _ _ _ _ us hl => match us, hl with | [_, _], _ => rfl) (PySem.W.mg_of X G aC0)
  have h_BorderAsker_answer_of := mtd_of (p := p) (c := 0) (m := "answer_of") (o_BorderAsker_answer_of (p := p) T F14 ) ⟨a14, i14, k14⟩ (F14.binds (ps := ["self", "one"]) fun _ _ _ _ _ _ us hl => match us, hl with | [_, _], _ => rfl)
  have h_BorderAsker_tried := mtd_of (p := p) (c := 0) (m := "tried") (o_BorderAsker_tried (p := p) T F15 ) ⟨a15, i15, k15⟩ (F15.binds (ps := ["self"]) fun _ _ _ _ _ _ us hl => match us, hl with | [_], _ => rfl)
  have h_BorderAsker_go_on := mtd_of (p := p) (c := 0) (m := "go_on") (o_BorderAsker_go_on (p := p) T F16 h_BorderAsker_answer_of h_BorderAsker_tried) ⟨a16, i16, k16⟩ (F16.binds (ps := ["self"]) fun _ _ _ _ _ _ us hl => match us, hl with | [_], _ => rfl)
  have h_BorderAsker_step := mtd_of (p := p) (c := 0) (m := "step") (o_BorderAsker_step (p := p) T F17 h_BorderAsker_tried h_first_open) ⟨a17, i17, k17⟩ (F17.binds (ps := ["self"]) fun _ _ _ _ _ _ us hl => match us, hl with | [_], _ => rfl)
  have h_BorderAsker_tell := mtd_of (p := p) (c := 0) (m := "tell") (o_BorderAsker_tell (p := p) T F18 h_BorderAsker_step h_things_in h_BorderAsker_go_on) ⟨a18, i18, k18⟩ (F18.binds (ps := ["self", "bit"]) fun _ _ _ _ _ _ us hl => match us, hl with | [_, _], _ => rfl)
  have h_BorderAsker_asked := mtd_of (p := p) (c := 0) (m := "asked") (o_BorderAsker_asked (p := p) T F19 ) ⟨a19, i19, k19⟩ (F19.binds (ps := ["self"]) fun _ _ _ _ _ _ us hl => match us, hl with | [_], _ => rfl)
  have h_asks_for := fnc_of (p := p) (x := "asks_for") (o_asks_for (p := p) T F20 h_check_border h_BorderAsker___init__ h_BorderAsker_step h_BorderAsker_tell h_BorderAsker_asked) (PySem.W.mg_of X G a20) k20 (F20.binds (ps := ["count", "trues"]) fun _ _ _ _ _ _ us hl => match us, hl with | [_, _], _ => rfl)
  have h__law_stream := fnc_of (p := p) (x := "_law_stream") (o__law_stream (p := p) T F21 ) (PySem.W.mg_of X G a21) k21 (F21.binds (ps := ["script"]) fun _ _ _ _ _ _ us hl => match us, hl with | [_], _ => rfl)
  have h__law_next := fnc_of (p := p) (x := "_law_next") (o__law_next (p := p) T F22 ) (PySem.W.mg_of X G a22) k22 (F22.binds (ps := ["state", "many"]) fun _ _ _ _ _ _ us hl => match us, hl with | [_, _], _ => rfl)
  have h__law_least := fnc_of (p := p) (x := "_law_least") (o__law_least (p := p) T F23 ) (PySem.W.mg_of X G a23) k23 (F23.binds (ps := ["sets"]) fun _ _ _ _ _ _ us hl => match us, hl with | [_], _ => rfl)
  have h__law_true := fnc_of (p := p) (x := "_law_true") (o__law_true (p := p) T F24 ) (PySem.W.mg_of X G a24) k24 (F24.binds (ps := ["trues", "one"]) fun _ _ _ _ _ _ us hl => match us, hl with | [_, _], _ => rfl)
  have h__law_border := fnc_of (p := p) (x := "_law_border") (o__law_border (p := p) T F25 h__law_next h__law_least) (PySem.W.mg_of X G a25) k25 (F25.binds (ps := ["state", "count"]) fun _ _ _ _ _ _ us hl => match us, hl with | [_, _], _ => rfl)
  have h__law_crossing := fnc_of (p := p) (x := "_law_crossing") (o__law_crossing (p := p) T F26 h__law_least) (PySem.W.mg_of X G a26) k26 (F26.binds (ps := ["count", "sets"]) fun _ _ _ _ _ _ us hl => match us, hl with | [_, _], _ => rfl)
  have h__law_row := fnc_of (p := p) (x := "_law_row") (o__law_row (p := p) T F27 h__law_true) (PySem.W.mg_of X G a27) k27 (F27.binds (ps := ["count", "trues"]) fun _ _ _ _ _ _ us hl => match us, hl with | [_, _], _ => rfl)
  have h__law_border_of := fnc_of (p := p) (x := "_law_border_of") (o__law_border_of (p := p) T F28 h__law_least) (PySem.W.mg_of X G a28) k28 (F28.binds (ps := ["row"]) fun _ _ _ _ _ _ us hl => match us, hl with | [_], _ => rfl)
  have h__law_joins := fnc_of (p := p) (x := "_law_joins") (o__law_joins (p := p) T F29 ) (PySem.W.mg_of X G a29) k29 (F29.binds (ps := ["first", "second"]) fun _ _ _ _ _ _ us hl => match us, hl with | [_, _], _ => rfl)
  have h__law_known := fnc_of (p := p) (x := "_law_known") (o__law_known (p := p) T F30 h_BorderAsker___init__ h_BorderAsker_step h_BorderAsker_asked h_BorderAsker_tell h__law_true) (PySem.W.mg_of X G a30) k30 (F30.binds (ps := ["count", "trues"]) fun _ _ _ _ _ _ us hl => match us, hl with | [_, _], _ => rfl)
  exact (o_law (p := p) T F31 h__law_stream h__law_next h__law_border h__law_row h_crossing h__law_crossing h_greatest_falses h_least_trues h_is_whole h_is_true h__law_border_of h__law_least h__law_joins h__law_known h_asks_for).imp (law_sp (p := p) ok)
end K79
namespace K79
open DL Bd
/-! ### the drawn numbers of this law -/
theorem next_wp {n : Nat} {rest s : Store} {many : Int} {Q : D → Store → Prop} (d : Drw (n + 1) rest s) (hm : 0 < many) (q : ∀ (r : Int) s', 0 ≤ r → r < many → Drw n rest s' → Q (.int r) s') : Wp (m__law_next [.ref 0, .int many]) s Q := by
  obtain ⟨ns, t, rfl, h0, h1, h2⟩ := d
  have e0 : ∀ u : D, ixD (.ref 0) (.int 0) (.lst [.lst (ns.map .int), u] :: rest) = .ok (.lst (ns.map .int)) (.lst [.lst (ns.map .int), u] :: rest) := fun u => rfl
  have e1 : ∀ u : D, ixD (.ref 0) (.int 1) (.lst [.lst (ns.map .int), u] :: rest) = .ok u (.lst [.lst (ns.map .int), u] :: rest) := fun u => rfl
  have es : ∀ u v : D, cellSet (.ref 0) (.int 1) v (.lst [.lst (ns.map .int), u] :: rest) = .ok () (.lst [.lst (ns.map .int), v] :: rest) := fun u v => rfl
  have hl : (ns.map D.int).length = ns.length := List.length_map _
  have hlp : (0 : Int) < (ns.length : Nat) := by omega
  have hlq : ((ns.length : Nat) : Int) < 1073741824 := by omega
  -- the place
  have hix : ∃ v : Int, ∀ s : Store, ixD (.lst (ns.map .int)) (.int (((t : Nat) + 1 : Int) % (ns.length : Nat))) s = .ok (.int v) s := by
    have a1 : 0 ≤ ((t : Nat) + 1 : Int) % (ns.length : Nat) := Int.emod_nonneg _ (by omega)
    have a2 : ((t : Nat) + 1 : Int) % (ns.length : Nat) < (ns.length : Nat) := Int.emod_lt_of_pos _ hlp
    obtain ⟨k, ek⟩ : ∃ k : Nat, ((t : Nat) + 1 : Int) % (ns.length : Nat) = (k : Int) := ⟨(((t : Nat) + 1 : Int) % (ns.length : Nat)).toNat, by omega⟩
    rw [ek] at a2 ⊢
    have hk : k < ns.length := by omega
    refine ⟨ns[k], fun s => ?_⟩
    show ixL (ns.map .int) (k : Int) s = _
    unfold ixL
    have hg : (ns.map D.int)[k]? = some (.int ns[k]) := by
      rw [List.getElem?_map, List.getElem?_eq_getElem hk]
      rfl
    have : L2.atI (ns.map D.int) (k : Int) = some (.int ns[k]) := L2.atI_nat hg
    rw [this]
    rfl
  obtain ⟨v, hv⟩ := hix
  have hdiv : divD (.int ((t : Nat) + 1)) (.int (ns.length : Nat)) = pure (.int (((t : Nat) + 1 : Int) / (ns.length : Nat))) := div_ii _ _ hlp hlq
  have hmod : modD (.int ((t : Nat) + 1)) (.int (ns.length : Nat)) = pure (.int (((t : Nat) + 1 : Int) % (ns.length : Nat))) := mod_ii _ _ hlp
  have hm1 : ∀ i : Int, mulD (.int i) (.int 389) = pure (.int (i * 389)) := fun i => mul_ii _ _ (.inr ⟨by omega, by omega⟩)
  have hm2 : ∀ i : Int, mulD (.int i) (.int 17) = pure (.int (i * 17)) := fun i => mul_ii _ _ (.inr ⟨by omega, by omega⟩)
  have hm3 : ∀ i : Int, mulD (.int ((t : Nat) + 1)) (.int i) = pure (.int (((t : Nat) + 1 : Int) * i)) := fun i => mul_ii _ _ (.inl ⟨by omega, by omega⟩)
  have hm4 : ∀ i : Int, modD (.int i) (.int many) = pure (.int (i % many)) := fun i => mod_ii _ _ hm
  unfold m__law_next b__law_next
  simp only [p2_ap, pure_bind', bind_assoc', runF_bind, runF_rt]
  refine wp_go (e1 _) ?_
  rw [add_ii, pure_bind']
  refine wp_go (es _ _) (wp_go (e1 _) (wp_go (e0 _) ?_))
  simp only [len_l, pure_bind', hl, hdiv]
  refine wp_go (e0 _) (wp_go (e1 _) (wp_go (e0 _) ?_))
  simp only [len_l, pure_bind', hl, hmod]
  refine wp_go (hv _) ?_
  simp only [hm1, add_ii, pure_bind']
  refine wp_go (e1 _) ?_
  simp only [hm3, hm2, add_ii, int_i, hm4, pure_bind']
  exact wp_pure (q _ _ (Int.emod_nonneg _ (by omega)) (Int.emod_lt_of_pos _ hm) ⟨ns, t + 1, by simp, h0, h1, by omega⟩)
theorem stream_ok (ms : List Int) (hm : ms.length ≤ 63) (s : Store) : ∃ ns : List Int, m__law_stream [.rls (ms.map .int)] s = .ok (.lst (ns.map .int)) s ∧ 0 < ns.length ∧ ns.length ≤ 5000 := by
  have key : Wp (m__law_stream [.rls (ms.map .int)]) s fun d s' => ∃ ns : List Int, d = .lst (ns.map .int) ∧ s' = s ∧ 0 < ns.length ∧ ns.length ≤ 5000 := by
    have hcut : slL none (some 63) (.rls (ms.map .int)) = pure (.lst (ms.map .int)) := by
      show (pure (.lst (cut (ms.map .int) none (some 63))) : M D) = _
      unfold cut
      rw [HT.sIx_none, show HT.sIx (ms.map D.int).length (ms.map D.int).length (some 63) = min 63 (ms.map D.int).length from HT.sIx_nat _ _ 63]
      rw [List.drop_zero, List.length_map, Nat.sub_zero, List.take_of_length_le (by rw [List.length_map]; omega)]
    have hpow : powD (.int 10) (.int 18) = pure (.int (10 ^ 18)) := pow_ii _ _ (by omega) (by omega) (by decide)
    have hmd : ∀ i : Int, modD (.int i) (.int 1009) = pure (.int (i % 1009)) := fun i => mod_ii _ _ (by omega)
    have hdv : ∀ i : Int, divD (.int i) (.int 1009) = pure (.int (i / 1009)) := fun i => div_ii _ _ (by omega) (by omega)
    have hmd2 : ∀ i : Int, modD (.int i) (.int 2147483647) = pure (.int (i % 2147483647)) := fun i => mod_ii _ _ (by omega)
    have hmd3 : ∀ i : Int, modD (.int i) (.int 2147483629) = pure (.int (i % 2147483629)) := fun i => mod_ii _ _ (by omega)
    have hmu : ∀ i : Int, mulD (.int i) (.int 48271) = pure (.int (i * 48271)) := fun i => mul_ii _ _ (.inr ⟨by omega, by omega⟩)
    have hmu2 : ∀ i : Int, mulD (.int 7) (.int i) = pure (.int (7 * i)) := fun i => mul_ii _ _ (.inl ⟨by omega, by omega⟩)
    have hmu3 : ∀ i : Int, mulD (.int i) (.int 69621) = pure (.int (i * 69621)) := fun i => mul_ii _ _ (.inr ⟨by omega, by omega⟩)
    unfold m__law_stream b__law_stream
    simp only [p1_ap, pure_bind', bind_assoc', runF_bind, mkL0, intM_i, hcut, items_l, nm_ap]
    refine wp_bind (wp_for (fun xs z s' => s' = s ∧ ∃ (r ns : List Int), xs = r.map .int ∧ z = .lst (ns.map .int) ∧ ns.length + 60 * r.length ≤ 3780) _ _ _ ⟨rfl, ms, [], rfl, rfl, by simpa using by omega⟩ ?_ ?_)
    · rintro x xs z s' ⟨rfl, r, ns, e, rfl, hl⟩
      cases r with
      | nil => cases e
      | cons i r =>
        rw [List.map_cons] at e
        injection e with e1 e2
        subst e1 e2
        rw [List.length_cons] at hl
        simp only [int_i, abs_i, pure_bind', hpow, ge_ii]
        generalize (if i < 0 then -i else i) = a
        split
        · rw [show range1 (.int 60) = pure (rangeL 0 60) from range1_i 60 (by decide)]
          simp only [pure_bind', bind_assoc']
          refine wp_bind (wp_for (fun xs z s'' => s'' = s' ∧ ∃ (ks : List D) (ns' : List Int) (j : Int), xs = ks ∧ z = (.lst (ns'.map .int), .int j) ∧ ns'.length + ks.length ≤ ns.length + 60) _ _ _ ⟨rfl, _, ns, _, rfl, rfl, by rw [rangeL_len]; exact Nat.le_refl _⟩ ?_ ?_)
          · rintro x xs z s'' ⟨rfl, ks, ns', j, rfl, rfl, hl2⟩
            rw [List.length_cons] at hl2
            have ha : appL (ns'.map .int) (.int (j % 1009)) = pure (.lst ((ns' ++ [j % 1009]).map .int)) := by
              rw [app_ok _ _ (by rw [List.length_map]; omega), List.map_append]
              rfl
            simp only [lst_l, pure_bind', int_i, hmd, ha, hdv, eq_ii]
            split
            · exact ⟨rfl, _, _, rfl, rfl, by rw [List.length_append, List.length_singleton]; omega⟩
            · exact ⟨rfl, _, _, _, rfl, rfl, by rw [List.length_append, List.length_singleton]; omega⟩
          · rintro z s'' ⟨rfl, ks, ns', j, e, rfl, hl2⟩
            exact ⟨rfl, _, _, rfl, rfl, by omega⟩
        · rw [show range1 (.int 10) = pure (rangeL 0 10) from range1_i 10 (by decide)]
          simp only [pure_bind', bind_assoc', int_i, hmd2]
          refine wp_bind (wp_for (fun xs z s'' => s'' = s' ∧ ∃ (ks : List Int) (ns' : List Int) (j : Int), xs = ks.map .int ∧ z = (.lst (ns'.map .int), .int j) ∧ ns'.length + ks.length ≤ ns.length + 10) _ _ _ ⟨rfl, (List.range 10).map fun (i : Nat) => (i : Int), ns, _, by rw [rangeL_eq, List.map_map]; rfl, rfl, by simp⟩ ?_ ?_)
          · rintro x xs z s'' ⟨rfl, ks, ns', j, e, rfl, hl2⟩
            cases ks with
            | nil => cases e
            | cons k ks =>
              rw [List.map_cons] at e
              injection e with e1 e2
              subst e1 e2
              rw [List.length_cons] at hl2
              have ha : ∀ v : Int, appL (ns'.map .int) (.int v) = pure (.lst ((ns' ++ [v]).map .int)) := fun v => by
                rw [app_ok _ _ (by rw [List.length_map]; omega), List.map_append]
                rfl
              simp only [lst_l, pure_bind', int_i, hmd, hmd2, hmd3, hmu, hmu2, hmu3, ha, add_ii]
              exact ⟨rfl, _, _, _, rfl, rfl, by rw [List.length_append, List.length_singleton]; omega⟩
          · rintro z s'' ⟨rfl, ks, ns', j, e, rfl, hl2⟩
            exact ⟨rfl, _, _, rfl, rfl, by omega⟩
    · rintro z s' ⟨rfl, r, ns, e, rfl, hl⟩
      simp only [seqO_nx, len_l, pure_bind', eq_ii, runF_bind, List.length_map]
      split
      · rename_i h
        have : ns = [] := List.length_eq_zero_iff.mp (by simpa using h)
        subst this
        exact ⟨[0], rfl, rfl, by decide, by decide⟩
      · rename_i h
        have : ns.length ≠ 0 := by simpa using h
        exact ⟨ns, rfl, rfl, by omega, by omega⟩
  obtain ⟨_, _, e, ns, rfl, rfl, a, b⟩ := wp_get key
  exact ⟨ns, e, a, b⟩
/-! ### what the defs of borders compute -/
theorem ccM {c : Nat} (h1 : 1 ≤ c) (h8 : c ≤ 8) : m_check_count [ni c] = pure .non := by
  unfold m_check_count b_check_count
  simp only [p1_ap, pure_bind', bind_assoc', runF_bind, chainM]
  simp only [c1, c8, le_nn, pure_bind', decide_eq_true h1, decide_eq_true h8, if_true, Bool.not_true]
  rfl
theorem csM {c : Nat} {l : List Nat} (h1 : 1 ≤ c) (h8 : c ≤ 8) (ha : Asc l) (hl : ∀ x ∈ l, x < 2 ^ c) : m_check_sets [ni c, .tup (en l)] = pure .non := by
  have len := brd_len ha hl h8
  unfold m_check_sets b_check_sets
  simp only [p2_ap, pure_bind', bind_assoc', runF_bind, ccM h1 h8, list_t, ssort_ten (by omega : l.length ≤ 4000), usort_id ha, ne_len, decide_eq_true, Bool.not_true, items_t]
  rw [if_neg (by decide), lcM_bool (xs := l) (fun _ => true) rfl (by omega) fun x hx => ?_]
  · simp only [pure_bind', all_b, truth_b, bind_assoc']
    rw [show (l.all fun _ => true) = true from List.all_eq_true.mpr fun _ _ => rfl]
    rfl
  · simp only [nm_ap, p1_ap, pure_bind', if_true, chainM, bind_assoc']
    simp only [c0, c1, le_nn, pure_bind', decide_eq_true (Nat.zero_le x), if_true, shl_nn 1 c (by decide) (by omega), lt_nn, Nat.one_mul, decide_eq_true (hl x hx)]
theorem things_eq {x t : Nat} (h : x < 2 ^ t) : (List.range t).filter x.testBit = things x := by
  refine asc_eq (List.Pairwise.filter _ List.pairwise_lt_range) (List.Pairwise.filter _ List.pairwise_lt_range) fun i => ?_
  rw [things_mem, List.mem_filter, List.mem_range]
  exact ⟨fun q => q.2, fun q => ⟨bit_lt h q, q⟩⟩
theorem tw {x : Nat} (hx : x < 2 ^ 20) : ∀ (fuel t : Nat), t ≤ 20 → 21 ≤ t + fuel →
    ∃ T : D, (whileL (fun (s25 : D × D) => (shrD (ni x) s25.2 >>= fun x28 => gtB x28 (ni 0))) (fun s25 => (shrD (ni x) s25.2 >>= fun x32 => andD x32 (ni 1) >>= fun a => truth a >>= fun b40 => (if b40 = true then (lstD s25.1 >>= fun ds37 => appL ds37 s25.2 >>= fun z35 => (pure (.nx z35)) : M (Out D (D × D))) else pure (.nx s25.1)) >>= seqO fun s34 => (addI s25.2 (ni 1) >>= fun z39 => (pure (.nx (s34, z39)) : M (Out (D × D) (D × D)))))) fuel (.lst (en ((List.range t).filter x.testBit)), ni t) : M (Out (D × D) Unit)) = pure (.nx (.lst (en (things x)), T))
  | 0, t, h, k => by omega
  | fuel + 1, t, h, k => by
    unfold whileL
    simp only [shr_nn, pure_bind', gt_nn]
    by_cases z : 0 < x / 2 ^ t
    · have ht : t < 20 := by
        refine Classical.byContradiction fun q => ?_
        have : 2 ^ 20 ≤ 2 ^ t := Nat.pow_le_pow_right (by omega) (by omega)
        rw [Nat.div_eq_of_lt (by omega)] at z
        omega
      have len : ((List.range t).filter x.testBit).length < 2 ^ 24 := by
        have := List.length_filter_le x.testBit (List.range t)
        rw [List.length_range] at this
        omega
      obtain ⟨T, ih⟩ := tw hx fuel (t + 1) (by omega) (by omega)
      refine ⟨T, ?_⟩
      rw [List.range_succ, List.filter_append, List.filter_cons, List.filter_nil] at ih
      rw [decide_eq_true z, if_pos rfl]
      simp only [and_nn, pure_bind', truth_n', bit_truth]
      by_cases y : x.testBit t = true
      · rw [if_pos y] at ih
        rw [if_pos y, lst_l, pure_bind', app_en len, pure_bind', pure_bind', seqO_nx, addI_nn, pure_bind', pure_bind']
        exact ih
      · rw [if_neg y, List.append_nil] at ih
        rw [if_neg y, pure_bind', seqO_nx, addI_nn, pure_bind', pure_bind']
        exact ih
    · rw [decide_eq_false z, if_neg Bool.false_ne_true, things_eq]
      · exact ⟨_, rfl⟩
      · have p := Nat.two_pow_pos t
        refine Classical.byContradiction fun q => z (Nat.div_pos (by omega) p)
theorem thM {x : Nat} (hx : x < 2 ^ 20) : m_things_in [ni x] = pure (.lst (en (things x))) := by
  obtain ⟨T, h⟩ := tw hx 1000 0 (by omega) (by omega)
  unfold m_things_in b_things_in
  simp only [p1_ap, pure_bind', bind_assoc', runF_bind, mkL0]
  simp only [c0, c1]
  rw [show (D.lst [] : D) = .lst (en ((List.range 0).filter x.testBit)) from rfl, h]
  rfl
theorem lpW {l : List Nat} {x : Nat} (hl : l.length ≤ 4000) : lcM (pure (en (usort l))) nm (p1 fun _ => (pure true : M Bool)) (p1 fun v45 => (neB v45 (ni x) >>= fun b48 => (if b48 = true then (invD (ni x) >>= fun x59 => andD v45 x59 >>= fun x56 => eqB x56 (D.int 0) >>= fun b55 => (pure (D.bl b55) : M D)) else (pure (D.bl b48) : M D)))) = pure (.lst (((usort l).map fun y => !(y == x) && sub y x).map .bl)) := by
  have := usort_len l
  refine lcM_bool (xs := usort l) _ rfl (by omega) fun y hy => ?_
  simp only [nm_ap, p1_ap, pure_bind', if_true, ne_nn, bind_assoc']
  by_cases z : y = x
  · subst z
    simp
  · rw [beq_eq_false_iff_ne.mpr z, Bool.not_false, if_pos rfl, inv_n, pure_bind', and_inv, pure_bind', c0, eq_nn, pure_bind', pure_bind']
    rfl
theorem leM {l : List Nat} {d : D} (hl : l.length ≤ 4000) (hd : ssortD d = pure (.lst (en (usort l)))) : m_least_of [d] = pure (.tup (en (least l))) := by
  have len := usort_len l
  unfold m_least_of b_least_of
  simp only [p1_ap, pure_bind', bind_assoc', runF_bind, hd, items_l]
  rw [lcM_en (xs := usort l) (fun x => !((usort l).any fun y => !(y == x) && sub y x)) id rfl (by omega) fun x hx => ?_]
  · rw [List.map_id]
    rfl
  · simp only [nm_ap, p1_ap, pure_bind', bind_assoc', truth_b]
    rw [lpW hl, pure_bind', any_b, pure_bind', truth_b, pure_bind']
    split <;> rfl
theorem cbM {c : Nat} {l : List Nat} (h1 : 1 ≤ c) (h8 : c ≤ 8) (hb : Brd l) (hl : ∀ x ∈ l, x < 2 ^ c) : m_check_border [ni c, .tup (en l)] = pure .non := by
  have len := brd_len hb.1 hl h8
  unfold m_check_border b_check_border
  simp only [p2_ap, pure_bind', bind_assoc', runF_bind, csM h1 h8 hb.1 hl, leM (by omega : l.length ≤ 4000) (ssort_ten (by omega)), tuple_t, least_id hb, ne_ten, decide_eq_true, Bool.not_true]
  rfl
def rowsS (one : Nat) (rows : List Nat) (row : Nat) : List Nat := if meet row one = true then rows ++ [row] else rows ++ (things one).map fun thing => row ||| 2 ^ thing
theorem rowsS_len {one row : Nat} {rows : List Nat} (h1 : one < 2 ^ 8) : (rowsS one rows row).length ≤ rows.length + 8 := by
  unfold rowsS
  split
  · rw [List.length_append, List.length_singleton]; omega
  · rw [List.length_append, List.length_map]
    have := things_len h1
    omega
theorem coM {c : Nat} {l : List Nat} (h8 : c ≤ 8) (hl : ∀ x ∈ l, x < 2 ^ c) (d : D) (hd : items d = pure (en l)) : m_crossing_of [d] = pure (.tup (en (crossing l))) := by
  have p8 := pow8 h8
  unfold m_crossing_of b_crossing_of
  simp only [p1_ap, pure_bind', bind_assoc', runF_bind, mkT1, hd]
  refine forL_go (enc := fun a : List Nat => D.tup (en a)) (to := ni) (g := cstep) (P := fun _ found => Brd found ∧ ∀ x ∈ found, x < 2 ^ c) l [0] ⟨brd0, fun x hx => by rw [List.mem_singleton.mp hx]; exact Nat.two_pow_pos c⟩ ?_ fun _ => rfl
  · rintro found one r ⟨hb, hf⟩ ho
    have h1 := hl one ho
    have h1' : one < 2 ^ 8 := Nat.lt_of_lt_of_le h1 (Nat.pow_le_pow_right (by omega) h8)
    have flen := brd_len hb.1 hf h8
    refine ⟨?_, least_brd _, cstep_lt hf h1⟩
    simp only [nm_ap, pure_bind', p1_ap, bind_assoc', mkL0, items_t]
    refine forL_go (enc := fun a : List Nat => D.lst (en a)) (to := ni) (g := rowsS one) (P := fun r rows => rows.length + 8 * r.length ≤ 8 * found.length) found [] (by rw [List.length_nil]; omega) ?_ fun key => ?_
    · intro rows row r2 hr hm
      rw [List.length_cons] at hr
      have hrow := hf row hm
      have tl := things_len h1'
      refine ⟨?_, ?_⟩
      · simp only [nm_ap, pure_bind', p1_ap, bind_assoc', and_nn, c0, ne_nn]
        unfold rowsS
        by_cases z : meet row one = true
        · rw [if_pos z]
          unfold meet at z
          rw [if_pos z, lst_l, pure_bind', app_en (by omega)]
          rfl
        · rw [if_neg z]
          unfold meet at z
          rw [if_neg z, lst_l, pure_bind', lcM_enm (xs := things one) (fun t => row ||| 2 ^ t) (by rw [thM (by omega), pure_bind', items_l]) (by omega) fun t ht => ?_]
          · rw [pure_bind', ext_en (by rw [List.length_map]; omega)]
            rfl
          · have := bit_lt h1' (things_mem.mp ht)
            simp only [nm_ap, p1_ap, pure_bind', if_true, c1, bind_assoc']
            rw [shl_nn 1 t (by decide) (by omega), pure_bind', or_nn, pure_bind', Nat.one_mul]
      · have := rowsS_len (rows := rows) (row := row) h1'
        show (rowsS one rows row).length + 8 * r2.length ≤ _
        omega
    · have len : (found.foldl (rowsS one) []).length ≤ 4000 := by
        rw [List.length_nil] at key
        omega
      rw [seqO_nx]
      rw [leM len (ssort_len len), pure_bind']
      rfl
theorem crM {c : Nat} {l : List Nat} (h1 : 1 ≤ c) (h8 : c ≤ 8) (ha : Asc l) (hl : ∀ x ∈ l, x < 2 ^ c) : m_crossing [ni c, .tup (en l)] = pure (.tup (en (crossing l))) := by
  unfold m_crossing b_crossing
  simp only [p2_ap, pure_bind', bind_assoc', runF_bind, csM h1 h8 ha hl, coM h8 hl _ (items_t _)]
  rfl
theorem wholeN {c : Nat} (h : c ≤ 8) : (shlD (ni 1) (ni c) >>= fun x => subD x (ni 1)) = pure (ni (2 ^ c - 1)) := by
  have := Nat.two_pow_pos c
  rw [shl_nn 1 c (by decide) (by omega), pure_bind', Nat.one_mul, sub_nn (by omega)]
theorem faM {c : Nat} {l : List Nat} (h8 : c ≤ 8) (hl : ∀ x ∈ l, x < 2 ^ c) : m_falses_of [ni c, .tup (en l)] = pure (.tup (en (falses c l))) := by
  have p := Nat.two_pow_pos c
  have len := brd_len (crossing_brd l).1 (crossing_lt hl) h8
  unfold m_falses_of b_falses_of
  simp only [p2_ap, pure_bind', bind_assoc', runF_bind, c1]
  rw [shl_nn 1 c (by decide) (by omega), pure_bind', Nat.one_mul, sub_nn (by omega), pure_bind', coM h8 hl _ (items_t _), pure_bind', items_t, coL (by omega), pure_bind', sorted_en, pure_bind', tuple_l]
  rfl
theorem gfM {c : Nat} {l : List Nat} (h1 : 1 ≤ c) (h8 : c ≤ 8) (hb : Brd l) (hl : ∀ x ∈ l, x < 2 ^ c) : m_greatest_falses [ni c, .tup (en l)] = pure (.tup (en (falses c l))) := by
  unfold m_greatest_falses b_greatest_falses
  simp only [p2_ap, pure_bind', bind_assoc', runF_bind, cbM h1 h8 hb hl, faM h8 hl]
  rfl
theorem ltM {c : Nat} {l : List Nat} (h1 : 1 ≤ c) (h8 : c ≤ 8) (hb : Brd l) (hl : ∀ x ∈ l, x < 2 ^ c) : m_least_trues [ni c, .tup (en l)] = pure (.tup (en (crossing (l.map (co c))))) := by
  have p := Nat.two_pow_pos c
  have len := brd_len hb.1 hl h8
  unfold m_least_trues b_least_trues
  simp only [p2_ap, pure_bind', bind_assoc', runF_bind, cbM h1 h8 hb hl, c1]
  rw [shl_nn 1 c (by decide) (by omega), pure_bind', Nat.one_mul, sub_nn (by omega), pure_bind', items_t, coL (by omega), pure_bind', coM h8 (fun x hx => ?_) _ (items_l _)]
  · rfl
  · obtain ⟨y, _, rfl⟩ := List.mem_map.mp hx
    exact co_lt c y
theorem itM {c : Nat} {l : List Nat} {x : Nat} (h1 : 1 ≤ c) (h8 : c ≤ 8) (hb : Brd l) (hl : ∀ x ∈ l, x < 2 ^ c) (hx : x < 2 ^ c) : m_is_true [ni c, .tup (en l), ni x] = pure (.bl (up l x)) := by
  have len := brd_len hb.1 hl h8
  unfold m_is_true b_is_true
  simp only [p3_ap, pure_bind', bind_assoc', runF_bind, cbM h1 h8 hb hl, mkT1, items_t]
  rw [show [ni x] = en [x] from rfl, csM h1 h8 (List.pairwise_singleton _ _) (fun y hy => by rw [List.mem_singleton.mp hy]; exact hx), pure_bind', upL (by omega), pure_bind', any_b]
  rfl
def opD : Option Nat → D
  | some x => ni x
  | none => .non
theorem foM {c : Nat} {t f : List Nat} (h8 : c ≤ 8) (ht : t.length ≤ 2 ^ 24) (hf : f.length ≤ 2 ^ 24) : m_first_open [ni c, .tup (en t), .tup (en f)] = pure (opD (fo c t f)) := by
  have p8 := pow8 h8
  unfold m_first_open b_first_open
  simp only [p3_ap, pure_bind', bind_assoc', runF_bind, c1]
  rw [shl_nn 1 c (by decide) (by omega), pure_bind', Nat.one_mul, range1_n _ (by omega), pure_bind']
  rw [forL_find (p := fun x => !(up t x) && !(down f x)) (g := ni) _ fun x _ => ?_]
  · rw [pure_bind']
    show runF (seqO _ (match fo c t f with
      | some x => .rt (ni x)
      | none => .nx ())) = _
    cases fo c t f <;> rfl
  · simp only [nm_ap, pure_bind', p1_ap, bind_assoc', items_t]
    rw [upL ht, pure_bind', any_b, pure_bind', truth_b, pure_bind']
    show (if (!up t x) = true then _ else _) >>= _ = _
    cases e : up t x
    · simp only [Bool.not_false, if_true, bind_assoc']
      rw [downL hf, pure_bind', any_b, pure_bind', truth_b, pure_bind']
      show (pure (!down f x) : M Bool) >>= _ = _
      rw [pure_bind']
      cases e2 : down f x <;> rfl
    · rfl
theorem iwM {c : Nat} {l m : List Nat} (h1 : 1 ≤ c) (h8 : c ≤ 8) (hb : Brd l) (hl : ∀ x ∈ l, x < 2 ^ c) (kb : Brd m) (kl : ∀ x ∈ m, x < 2 ^ c) : m_is_whole [ni c, .tup (en l), .tup (en m)] = pure (.bl (decide (falses c l = m))) := by
  unfold m_is_whole b_is_whole
  simp only [p3_ap, pure_bind', bind_assoc', runF_bind, cbM h1 h8 hb hl, cbM h1 h8 kb kl, faM h8 hl, tuple_t, eq_ten]
  rfl
/-! the cell of an object: count, trues, falses, asks, here, left, bit -/
def bac (v0 v1 v2 v3 v4 v5 v6 : D) : Cell := .ins 0 [("count", v0), ("trues", v1), ("falses", v2), ("asks", v3), ("here", v4), ("left", v5), ("bit", v6)]
section
variable {k : Nat} {s : Store} {v0 v1 v2 v3 v4 v5 v6 x : D} (hk : k < s.length)
include hk
theorem bac_g_count {β : Type} (g : D → M β) : (fldD 0 "count" (.ref k) >>= g) (s.set k (bac v0 v1 v2 v3 v4 v5 v6)) = g v0 (s.set k (bac v0 v1 v2 v3 v4 v5 v6)) := bind_ok (fld_at hk rfl)
theorem bac_s_count {β : Type} (g : Unit → M β) : (setF 0 "count" (.ref k) x >>= g) (s.set k (bac v0 v1 v2 v3 v4 v5 v6)) = g () (s.set k (bac x v1 v2 v3 v4 v5 v6)) := bind_ok (setF_at hk (show 7 < 1000 by decide))
theorem bac_g_trues {β : Type} (g : D → M β) : (fldD 0 "trues" (.ref k) >>= g) (s.set k (bac v0 v1 v2 v3 v4 v5 v6)) = g v1 (s.set k (bac v0 v1 v2 v3 v4 v5 v6)) := bind_ok (fld_at hk rfl)
theorem bac_s_trues {β : Type} (g : Unit → M β) : (setF 0 "trues" (.ref k) x >>= g) (s.set k (bac v0 v1 v2 v3 v4 v5 v6)) = g () (s.set k (bac v0 x v2 v3 v4 v5 v6)) := bind_ok (setF_at hk (show 7 < 1000 by decide))
theorem bac_g_falses {β : Type} (g : D → M β) : (fldD 0 "falses" (.ref k) >>= g) (s.set k (bac v0 v1 v2 v3 v4 v5 v6)) = g v2 (s.set k (bac v0 v1 v2 v3 v4 v5 v6)) := bind_ok (fld_at hk rfl)
theorem bac_s_falses {β : Type} (g : Unit → M β) : (setF 0 "falses" (.ref k) x >>= g) (s.set k (bac v0 v1 v2 v3 v4 v5 v6)) = g () (s.set k (bac v0 v1 x v3 v4 v5 v6)) := bind_ok (setF_at hk (show 7 < 1000 by decide))
theorem bac_g_asks {β : Type} (g : D → M β) : (fldD 0 "asks" (.ref k) >>= g) (s.set k (bac v0 v1 v2 v3 v4 v5 v6)) = g v3 (s.set k (bac v0 v1 v2 v3 v4 v5 v6)) := bind_ok (fld_at hk rfl)
theorem bac_s_asks {β : Type} (g : Unit → M β) : (setF 0 "asks" (.ref k) x >>= g) (s.set k (bac v0 v1 v2 v3 v4 v5 v6)) = g () (s.set k (bac v0 v1 v2 x v4 v5 v6)) := bind_ok (setF_at hk (show 7 < 1000 by decide))
theorem bac_g_here {β : Type} (g : D → M β) : (fldD 0 "here" (.ref k) >>= g) (s.set k (bac v0 v1 v2 v3 v4 v5 v6)) = g v4 (s.set k (bac v0 v1 v2 v3 v4 v5 v6)) := bind_ok (fld_at hk rfl)
theorem bac_s_here {β : Type} (g : Unit → M β) : (setF 0 "here" (.ref k) x >>= g) (s.set k (bac v0 v1 v2 v3 v4 v5 v6)) = g () (s.set k (bac v0 v1 v2 v3 x v5 v6)) := bind_ok (setF_at hk (show 7 < 1000 by decide))
theorem bac_g_left {β : Type} (g : D → M β) : (fldD 0 "left" (.ref k) >>= g) (s.set k (bac v0 v1 v2 v3 v4 v5 v6)) = g v5 (s.set k (bac v0 v1 v2 v3 v4 v5 v6)) := bind_ok (fld_at hk rfl)
theorem bac_s_left {β : Type} (g : Unit → M β) : (setF 0 "left" (.ref k) x >>= g) (s.set k (bac v0 v1 v2 v3 v4 v5 v6)) = g () (s.set k (bac v0 v1 v2 v3 v4 x v6)) := bind_ok (setF_at hk (show 7 < 1000 by decide))
theorem bac_g_bit {β : Type} (g : D → M β) : (fldD 0 "bit" (.ref k) >>= g) (s.set k (bac v0 v1 v2 v3 v4 v5 v6)) = g v6 (s.set k (bac v0 v1 v2 v3 v4 v5 v6)) := bind_ok (fld_at hk rfl)
theorem bac_s_bit {β : Type} (g : Unit → M β) : (setF 0 "bit" (.ref k) x >>= g) (s.set k (bac v0 v1 v2 v3 v4 v5 v6)) = g () (s.set k (bac v0 v1 v2 v3 v4 v5 x)) := bind_ok (setF_at hk (show 7 < 1000 by decide))
theorem bac_l_count {β : Type} {u : D → M (List D)} {mt : List D → M Bool} {me : List D → M D} (g : D → M β) : (lcM (fldD 0 "count" (.ref k) >>= items) u mt me >>= g) (s.set k (bac v0 v1 v2 v3 v4 v5 v6)) = (lcM (items v0) u mt me >>= g) (s.set k (bac v0 v1 v2 v3 v4 v5 v6)) := lcM_at (bac_g_count hk items) g
theorem bac_l_trues {β : Type} {u : D → M (List D)} {mt : List D → M Bool} {me : List D → M D} (g : D → M β) : (lcM (fldD 0 "trues" (.ref k) >>= items) u mt me >>= g) (s.set k (bac v0 v1 v2 v3 v4 v5 v6)) = (lcM (items v1) u mt me >>= g) (s.set k (bac v0 v1 v2 v3 v4 v5 v6)) := lcM_at (bac_g_trues hk items) g
theorem bac_l_falses {β : Type} {u : D → M (List D)} {mt : List D → M Bool} {me : List D → M D} (g : D → M β) : (lcM (fldD 0 "falses" (.ref k) >>= items) u mt me >>= g) (s.set k (bac v0 v1 v2 v3 v4 v5 v6)) = (lcM (items v2) u mt me >>= g) (s.set k (bac v0 v1 v2 v3 v4 v5 v6)) := lcM_at (bac_g_falses hk items) g
theorem bac_l_asks {β : Type} {u : D → M (List D)} {mt : List D → M Bool} {me : List D → M D} (g : D → M β) : (lcM (fldD 0 "asks" (.ref k) >>= items) u mt me >>= g) (s.set k (bac v0 v1 v2 v3 v4 v5 v6)) = (lcM (items v3) u mt me >>= g) (s.set k (bac v0 v1 v2 v3 v4 v5 v6)) := lcM_at (bac_g_asks hk items) g
theorem bac_l_here {β : Type} {u : D → M (List D)} {mt : List D → M Bool} {me : List D → M D} (g : D → M β) : (lcM (fldD 0 "here" (.ref k) >>= items) u mt me >>= g) (s.set k (bac v0 v1 v2 v3 v4 v5 v6)) = (lcM (items v4) u mt me >>= g) (s.set k (bac v0 v1 v2 v3 v4 v5 v6)) := lcM_at (bac_g_here hk items) g
theorem bac_l_left {β : Type} {u : D → M (List D)} {mt : List D → M Bool} {me : List D → M D} (g : D → M β) : (lcM (fldD 0 "left" (.ref k) >>= items) u mt me >>= g) (s.set k (bac v0 v1 v2 v3 v4 v5 v6)) = (lcM (items v5) u mt me >>= g) (s.set k (bac v0 v1 v2 v3 v4 v5 v6)) := lcM_at (bac_g_left hk items) g
theorem bac_l_bit {β : Type} {u : D → M (List D)} {mt : List D → M Bool} {me : List D → M D} (g : D → M β) : (lcM (fldD 0 "bit" (.ref k) >>= items) u mt me >>= g) (s.set k (bac v0 v1 v2 v3 v4 v5 v6)) = (lcM (items v6) u mt me >>= g) (s.set k (bac v0 v1 v2 v3 v4 v5 v6)) := lcM_at (bac_g_bit hk items) g
theorem bac_wg_count {β : Type} {Q : β → Store → Prop} (g : D → M β) : Wp (fldD 0 "count" (.ref k) >>= g) (s.set k (bac v0 v1 v2 v3 v4 v5 v6)) Q = Wp (g v0) (s.set k (bac v0 v1 v2 v3 v4 v5 v6)) Q := wp_at (bac_g_count hk g)
theorem bac_ws_count {β : Type} {Q : β → Store → Prop} (g : Unit → M β) : Wp (setF 0 "count" (.ref k) x >>= g) (s.set k (bac v0 v1 v2 v3 v4 v5 v6)) Q = Wp (g ()) (s.set k (bac x v1 v2 v3 v4 v5 v6)) Q := wp_at (bac_s_count hk g)
theorem bac_wg_trues {β : Type} {Q : β → Store → Prop} (g : D → M β) : Wp (fldD 0 "trues" (.ref k) >>= g) (s.set k (bac v0 v1 v2 v3 v4 v5 v6)) Q = Wp (g v1) (s.set k (bac v0 v1 v2 v3 v4 v5 v6)) Q := wp_at (bac_g_trues hk g)
theorem bac_ws_trues {β : Type} {Q : β → Store → Prop} (g : Unit → M β) : Wp (setF 0 "trues" (.ref k) x >>= g) (s.set k (bac v0 v1 v2 v3 v4 v5 v6)) Q = Wp (g ()) (s.set k (bac v0 x v2 v3 v4 v5 v6)) Q := wp_at (bac_s_trues hk g)
theorem bac_wg_falses {β : Type} {Q : β → Store → Prop} (g : D → M β) : Wp (fldD 0 "falses" (.ref k) >>= g) (s.set k (bac v0 v1 v2 v3 v4 v5 v6)) Q = Wp (g v2) (s.set k (bac v0 v1 v2 v3 v4 v5 v6)) Q := wp_at (bac_g_falses hk g)
theorem bac_ws_falses {β : Type} {Q : β → Store → Prop} (g : Unit → M β) : Wp (setF 0 "falses" (.ref k) x >>= g) (s.set k (bac v0 v1 v2 v3 v4 v5 v6)) Q = Wp (g ()) (s.set k (bac v0 v1 x v3 v4 v5 v6)) Q := wp_at (bac_s_falses hk g)
theorem bac_wg_asks {β : Type} {Q : β → Store → Prop} (g : D → M β) : Wp (fldD 0 "asks" (.ref k) >>= g) (s.set k (bac v0 v1 v2 v3 v4 v5 v6)) Q = Wp (g v3) (s.set k (bac v0 v1 v2 v3 v4 v5 v6)) Q := wp_at (bac_g_asks hk g)
theorem bac_ws_asks {β : Type} {Q : β → Store → Prop} (g : Unit → M β) : Wp (setF 0 "asks" (.ref k) x >>= g) (s.set k (bac v0 v1 v2 v3 v4 v5 v6)) Q = Wp (g ()) (s.set k (bac v0 v1 v2 x v4 v5 v6)) Q := wp_at (bac_s_asks hk g)
theorem bac_wg_here {β : Type} {Q : β → Store → Prop} (g : D → M β) : Wp (fldD 0 "here" (.ref k) >>= g) (s.set k (bac v0 v1 v2 v3 v4 v5 v6)) Q = Wp (g v4) (s.set k (bac v0 v1 v2 v3 v4 v5 v6)) Q := wp_at (bac_g_here hk g)
theorem bac_ws_here {β : Type} {Q : β → Store → Prop} (g : Unit → M β) : Wp (setF 0 "here" (.ref k) x >>= g) (s.set k (bac v0 v1 v2 v3 v4 v5 v6)) Q = Wp (g ()) (s.set k (bac v0 v1 v2 v3 x v5 v6)) Q := wp_at (bac_s_here hk g)
theorem bac_wg_left {β : Type} {Q : β → Store → Prop} (g : D → M β) : Wp (fldD 0 "left" (.ref k) >>= g) (s.set k (bac v0 v1 v2 v3 v4 v5 v6)) Q = Wp (g v5) (s.set k (bac v0 v1 v2 v3 v4 v5 v6)) Q := wp_at (bac_g_left hk g)
theorem bac_ws_left {β : Type} {Q : β → Store → Prop} (g : Unit → M β) : Wp (setF 0 "left" (.ref k) x >>= g) (s.set k (bac v0 v1 v2 v3 v4 v5 v6)) Q = Wp (g ()) (s.set k (bac v0 v1 v2 v3 v4 x v6)) Q := wp_at (bac_s_left hk g)
theorem bac_wg_bit {β : Type} {Q : β → Store → Prop} (g : D → M β) : Wp (fldD 0 "bit" (.ref k) >>= g) (s.set k (bac v0 v1 v2 v3 v4 v5 v6)) Q = Wp (g v6) (s.set k (bac v0 v1 v2 v3 v4 v5 v6)) Q := wp_at (bac_g_bit hk g)
theorem bac_ws_bit {β : Type} {Q : β → Store → Prop} (g : Unit → M β) : Wp (setF 0 "bit" (.ref k) x >>= g) (s.set k (bac v0 v1 v2 v3 v4 v5 v6)) Q = Wp (g ()) (s.set k (bac v0 v1 v2 v3 v4 v5 x)) Q := wp_at (bac_s_bit hk g)
theorem bac_m {β : Type} {fm : PySem.Str} {ms : M (List D)} {FM : List D → M D} (h : [(("count" : PySem.Str), v0), (("trues" : PySem.Str), v1), (("falses" : PySem.Str), v2), (("asks" : PySem.Str), v3), (("here" : PySem.Str), v4), (("left" : PySem.Str), v5), (("bit" : PySem.Str), v6)].lookup fm = none) (g : D → M β) : (mthM 0 fm (pure (.ref k)) ms FM >>= g) (s.set k (bac v0 v1 v2 v3 v4 v5 v6)) = ((ms >>= fun vs => FM (.ref k :: vs)) >>= g) (s.set k (bac v0 v1 v2 v3 v4 v5 v6)) := bind_at (mth_at hk h) g
theorem bac_wm {β : Type} {Q : β → Store → Prop} {fm : PySem.Str} {ms : M (List D)} {FM : List D → M D} (h : [(("count" : PySem.Str), v0), (("trues" : PySem.Str), v1), (("falses" : PySem.Str), v2), (("asks" : PySem.Str), v3), (("here" : PySem.Str), v4), (("left" : PySem.Str), v5), (("bit" : PySem.Str), v6)].lookup fm = none) (g : D → M β) : Wp (mthM 0 fm (pure (.ref k)) ms FM >>= g) (s.set k (bac v0 v1 v2 v3 v4 v5 v6)) Q = Wp ((ms >>= fun vs => FM (.ref k :: vs)) >>= g) (s.set k (bac v0 v1 v2 v3 v4 v5 v6)) Q := wp_at (bac_m hk h g)
end
/-! ### what the asker computes -/
def opB : Option Bool → D
  | some b => .bl b
  | none => .non
section
variable {k : Nat} {s : Store} (hk : k < s.length)
include hk
theorem aoM {C N H L B : D} {t f : List Nat} {x : Nat} (ht : t.length ≤ 2 ^ 24) (hf : f.length ≤ 2 ^ 24) : m_BorderAsker_answer_of [.ref k, ni x] (s.set k (bac C (.tup (en t)) (.tup (en f)) N H L B)) = .ok (opB (ans t f x)) (s.set k (bac C (.tup (en t)) (.tup (en f)) N H L B)) := by
  have e1 := upL (t := t) (x := x) ht
  have e2 := downL (t := f) (x := x) hf
  have e3 : (t.any fun y => sub y x) = up t x := rfl
  have e4 : (f.any fun y => sub x y) = down f x := rfl
  unfold m_BorderAsker_answer_of b_BorderAsker_answer_of ans
  simp only [p2_ap, pure_bind', bind_assoc', runF_bind]
  rw [bac_l_trues hk, items_t, e1, pure_bind', any_b, pure_bind', truth_b, pure_bind', e3]
  by_cases z : up t x = true
  · simp only [if_pos z]
    rfl
  · simp only [if_neg z, pure_bind', seqO_nx, runF_bind, bind_assoc']
    rw [bac_l_falses hk, items_t, e2, pure_bind', any_b, pure_bind', truth_b, pure_bind', e4]
    by_cases y : down f x = true
    · simp only [if_pos y]
      rfl
    · simp only [if_neg y]
      rfl
theorem trM {C T F N B : D} {h i : Nat} {r : List Nat} {b : Bool} (hi : i ≤ 1000000) (hb : truth B = pure b) : m_BorderAsker_tried [.ref k] (s.set k (bac C T F N (ni h) (.lst (en (i :: r))) B)) = .ok (ni (tried h i b)) (s.set k (bac C T F N (ni h) (.lst (en (i :: r))) B)) := by
  have e1 : ixD (.lst (en (i :: r))) (ni 0) = pure (ni i) := at_en (by rw [List.length_cons]; omega)
  unfold m_BorderAsker_tried b_BorderAsker_tried tried
  simp only [p1_ap, pure_bind', bind_assoc', runF_bind, c0, c1]
  rw [bac_g_left hk, e1, pure_bind', shl_nn 1 i (by decide) hi, pure_bind', Nat.one_mul, bac_g_bit hk, hb, pure_bind']
  cases b
  · rw [if_neg (by decide), if_neg (by decide), bind_assoc', bac_g_here hk, or_nn, pure_bind', runF_rt]
    rfl
  · rw [if_pos rfl, if_pos rfl, bind_assoc', bac_g_here hk, inv_n, pure_bind', and_inv, pure_bind', runF_rt]
    rfl
/-- what the cell holds -/
def acl (C : D) (a : Ask) (B : D) : Cell := bac C (.tup (en a.t)) (.tup (en a.f)) (ni a.asks) (opD a.here) (.lst (en a.left)) B
theorem goM {C : D} {t f : List Nat} {asks h : Nat} {b : Bool} {B : D} {left : List Nat} (ht : t.length ≤ 2 ^ 20) (hf : f.length ≤ 2 ^ 20) (hl : ∀ i ∈ left, i ≤ 1000000) (h5 : left.length ≤ 500) (hb : truth B = pure b) (he : ∀ x : Bool, eqB (.bl x) B = pure (x == b)) :
    Wp (m_BorderAsker_go_on [.ref k]) (s.set k (bac C (.tup (en t)) (.tup (en f)) (ni asks) (ni h) (.lst (en left)) B)) fun d s' => d = .non ∧ s' = s.set k (acl C (goA t f asks b h left) B) := by
  unfold m_BorderAsker_go_on b_BorderAsker_go_on
  simp only [p1_ap, pure_bind', bind_assoc', runF_bind]
  refine wp_bind (wp_while (fun n _ st => ∃ h' left', n = left'.length ∧ (∀ i ∈ left', i ≤ 1000000) ∧ st = s.set k (bac C (.tup (en t)) (.tup (en f)) (ni asks) (ni h') (.lst (en left')) B) ∧ goA t f asks b h' left' = goA t f asks b h left) ?_ 1000 left.length () _ ⟨h, left, rfl, hl, rfl, rfl⟩ (by omega))
  rintro n ⟨⟩ st ⟨h', left', rfl, hl', rfl, eg⟩
  rw [bac_wg_here hk]
  rw [show notNoneB (ni h') .non = pure true from rfl]
  refine wp_pure ?_
  rw [if_pos rfl, bac_wg_left hk, len_len, pure_bind', c0, eq_nn, pure_bind']
  cases left' with
  | nil =>
    have tail : ∀ y : Nat, en t ++ [ni y] = en (t ++ [y]) := fun y => (en_app t [y]).symm
    have tail2 : ∀ y : Nat, en f ++ [ni y] = en (f ++ [y]) := fun y => (en_app f [y]).symm
    have m1 : ∀ y : Nat, mkT (en (t ++ [y])) = pure (.tup (en (t ++ [y]))) := fun y => mkT_en (by rw [List.length_append, List.length_singleton]; omega)
    have m2 : ∀ y : Nat, mkT (en (f ++ [y])) = pure (.tup (en (f ++ [y]))) := fun y => mkT_en (by rw [List.length_append, List.length_singleton]; omega)
    rw [show (([] : List Nat).length == 0) = true from rfl, if_pos rfl, bind_assoc', bac_wg_bit hk, hb, pure_bind']
    rw [← eg]
    unfold goA
    cases b
    · rw [if_neg (by decide), if_neg (by decide)]
      simp only [bind_assoc', bac_wg_falses hk, bac_wg_here hk, items_t, pure_bind', tail2, m2, sorted_ten, tuple_l, bac_ws_falses hk, bac_ws_here hk, seqO_nx]
      exact wp_pure ⟨rfl, rfl⟩
    · rw [if_pos rfl, if_pos rfl]
      simp only [bind_assoc', bac_wg_trues hk, bac_wg_here hk, items_t, pure_bind', tail, m1, sorted_ten, tuple_l, bac_ws_trues hk, bac_ws_here hk, seqO_nx]
      exact wp_pure ⟨rfl, rfl⟩
  | cons i r =>
    have hi := hl' i List.mem_cons_self
    have tr := trM hk (C := C) (T := .tup (en t)) (F := .tup (en f)) (N := ni asks) (h := h') (r := r) hi hb
    have ao := aoM hk (C := C) (N := ni asks) (H := ni h') (L := .lst (en (i :: r))) (B := B) (t := t) (f := f) (x := tried h' i b) (by omega) (by omega)
    rw [show ((i :: r).length == 0) = false from rfl, if_neg (by decide), pure_bind', seqO_nx, bac_wm hk rfl]
    simp only [bind_assoc']
    rw [bac_wm hk rfl]
    simp only [pure_bind', bind_assoc']
    refine wp_go tr (wp_go ao ?_)
    rw [← eg]
    cases e : ans t f (tried h' i b) with
    | none =>
      rw [show isNoneB (opB none) .non = pure true from rfl, pure_bind', if_pos rfl, pure_bind', go_none e]
      exact wp_pure ⟨rfl, rfl⟩
    | some q =>
      have sl := sl1 (i := i) (r := r)
      rw [show isNoneB (opB (some q)) .non = pure false from rfl, pure_bind', if_neg (by decide), pure_bind', seqO_nx, bac_wg_bit hk, show opB (some q) = .bl q from rfl, he, pure_bind']
      by_cases z : q = b
      · rw [show (q == b) = true from beq_iff_eq.mpr z, if_pos rfl, bind_assoc', bac_wm hk rfl]
        simp only [pure_bind', bind_assoc']
        refine wp_go tr ?_
        rw [bac_ws_here hk]
        simp only [pure_bind', seqO_nx, bac_wg_left hk, intM_i, sl, bac_ws_left hk]
        refine wp_pure ⟨r.length, by rw [List.length_cons]; omega, tried h' i b, r, rfl, fun j hj => hl' j (List.mem_cons_of_mem _ hj), rfl, ?_⟩
        rw [go_some e, if_pos z]
      · rw [show (q == b) = false from beq_eq_false_iff_ne.mpr z, if_neg (by decide)]
        simp only [pure_bind', seqO_nx, bac_wg_left hk, intM_i, sl, bac_ws_left hk]
        refine wp_pure ⟨r.length, by rw [List.length_cons]; omega, h', r, rfl, fun j hj => hl' j (List.mem_cons_of_mem _ hj), rfl, ?_⟩
        rw [go_some e, if_neg z]
end
def stpD (c : Nat) (a : Ask) : D := match stepA c a with
  | some x => .tup [.str "ask", ni x]
  | none => .tup [.str "known", .tup (en a.t), .tup (en a.f)]
theorem go_bit {t f : List Nat} {asks : Nat} {b : Bool} : ∀ (left : List Nat) (h : Nat), (goA t f asks b h left).bit = b
  | [], h => by unfold goA; split <;> rfl
  | i :: r, h => by
    unfold goA
    cases ans t f (tried h i b) with
    | none => rfl
    | some k => exact go_bit r _
section
variable {k c : Nat} {s : Store} {T : List Nat} {a : Ask} {eb : Bool → D} (hk : k < s.length) (c8 : c ≤ 8) (kT : ∀ x ∈ T, x < 2 ^ c) (I : Inv c T a) (ht : ∀ b, truth (eb b) = pure b)
include hk c8 kT I ht
theorem stM {B : D} (hB : ∀ h, a.here = some h → B = eb a.bit) : m_BorderAsker_step [.ref k] (s.set k (acl (ni c) a B)) = .ok (stpD c a) (s.set k (acl (ni c) a B)) := by
  have p8 := pow8 c8
  have lt : a.t.length ≤ 256 := Nat.le_trans (asc_len I.kn.ta fun x hx => kT x (I.kn.ts x hx)) p8
  have lf : a.f.length ≤ 256 := Nat.le_trans (asc_len I.kn.fa fun x hx => falses_lt x (I.kn.fs x hx)) p8
  suffices q : Wp (m_BorderAsker_step [.ref k]) (s.set k (acl (ni c) a B)) fun d s' => d = stpD c a ∧ s' = s.set k (acl (ni c) a B) by
    obtain ⟨d, s', e, rfl, rfl⟩ := wp_get q
    exact e
  unfold m_BorderAsker_step b_BorderAsker_step acl stpD stepA
  simp only [p1_ap, pure_bind', bind_assoc', runF_bind]
  rw [bac_wg_here hk]
  cases e : a.here with
  | some h =>
    obtain ⟨H, i, r, e2, _⟩ := I.yes h e
    have hi : i < c := H.ll i (by rw [e2]; exact List.mem_cons_self)
    have tr := trM hk (C := ni c) (T := .tup (en a.t)) (F := .tup (en a.f)) (N := ni a.asks) (h := h) (i := i) (r := r) (B := B) (b := a.bit) (by omega) (by rw [hB h e]; exact ht a.bit)
    rw [e2, show notNoneB (opD (some h)) .non = pure true from rfl, pure_bind', if_pos rfl]
    rw [show opD (some h) = ni h from rfl, bind_assoc', bac_wm hk rfl]
    simp only [pure_bind', bind_assoc']
    refine wp_go tr ?_
    rw [mkT2, pure_bind']
    exact wp_pure (a := D.tup [.str "ask", ni (tried h i a.bit)]) ⟨rfl, rfl⟩
  | none =>
    rw [show notNoneB (opD none) .non = pure false from rfl, pure_bind', if_neg (by decide), pure_bind', seqO_nx]
    simp only [runF_bind, bind_assoc', bac_wg_count hk, bac_wg_trues hk, bac_wg_falses hk, pure_bind', foM c8 (by omega : a.t.length ≤ 2 ^ 24) (by omega : a.f.length ≤ 2 ^ 24)]
    cases e3 : fo c a.t a.f with
    | none =>
      rw [show isNoneB (opD none) .non = pure true from rfl, pure_bind', if_pos rfl]
      simp only [bind_assoc', bac_wg_trues hk, bac_wg_falses hk, pure_bind', mkT3]
      exact wp_pure ⟨rfl, rfl⟩
    | some x =>
      rw [show isNoneB (opD (some x)) .non = pure false from rfl, pure_bind', if_neg (by decide), pure_bind', seqO_nx]
      simp only [runF_bind, bind_assoc', pure_bind', mkT2]
      exact wp_pure ⟨rfl, rfl⟩
theorem teM (hq : ∀ x b : Bool, eqB (.bl x) (eb b) = pure (x == b)) (he : ∀ x b : Bool, eqB (eb x) (eb b) = pure (x == b)) {B : D} (hB : ∀ h, a.here = some h → B = eb a.bit) {x : Nat} (hs : stepA c a = some x) (hx : x < 2 ^ c) (b : Bool) :
    Wp (m_BorderAsker_tell [.ref k, eb b]) (s.set k (acl (ni c) a B)) fun d s' => d = .non ∧ s' = s.set k (acl (ni c) (tellA c a b x) (eb (tellA c a b x).bit)) := by
  have p8 := pow8 c8
  have lt : a.t.length ≤ 256 := Nat.le_trans (asc_len I.kn.ta fun x hx => kT x (I.kn.ts x hx)) p8
  have lf : a.f.length ≤ 256 := Nat.le_trans (asc_len I.kn.fa fun x hx => falses_lt x (I.kn.fs x hx)) p8
  have st := stM hk c8 kT I ht hB
  have es : stpD c a = .tup [.str "ask", ni x] := by unfold stpD; rw [hs]
  rw [es] at st
  have x1 : ixD (.tup [.str "ask", ni x]) (ni 1) = pure (ni x) := rfl
  have x0 : ixD (.tup [.str "ask", ni x]) (ni 0) = pure (.str "ask") := rfl
  have en1 : eqB (.str "ask") (.str "known") = pure false := by
    rw [eqB_ss (strOk_of (by decide +kernel)) (strOk_of (by decide +kernel))]
    rfl
  have fin : ∀ (h0 : Nat) (L : List Nat) (bb : Bool), L.length ≤ c → (∀ i ∈ L, i ≤ 1000000) → tellA c a b x = goA a.t a.f (a.asks + 1) bb h0 L →
      Wp (runF (seqO (fun _ => mthM 0 "go_on" (pure (.ref k)) (pure []) m_BorderAsker_go_on >>= fun _ => (pure (.nx ()) : M (Out Unit Unit))) (.nx () : Out Unit Unit)))
        (s.set k (bac (ni c) (.tup (en a.t)) (.tup (en a.f)) (ni (a.asks + 1)) (ni h0) (.lst (en L)) (eb bb))) fun d s' => d = .non ∧ s' = s.set k (acl (ni c) (tellA c a b x) (eb (tellA c a b x).bit)) := by
    intro h0 L bb hL hl e
    rw [e, go_bit, seqO_nx]
    simp only [runF_bind]
    rw [bac_wm hk rfl]
    simp only [pure_bind', bind_assoc']
    refine wp_bind (wp_imp (goM hk (by omega) (by omega) hl (by omega) (ht bb) fun y => hq y bb) ?_)
    rintro d s' ⟨rfl, rfl⟩
    exact wp_pure ⟨rfl, rfl⟩
  unfold m_BorderAsker_tell b_BorderAsker_tell
  simp only [p2_ap, pure_bind', bind_assoc', runF_bind]
  unfold acl at st fin ⊢
  rw [bac_wm hk rfl]
  simp only [pure_bind', bind_assoc']
  refine wp_go st ?_
  simp only [c0, c1, x0, pure_bind', en1]
  rw [if_neg (by decide), pure_bind', seqO_nx]
  simp only [runF_bind, bind_assoc', bac_wg_asks hk, pure_bind', addI_nn, bac_ws_asks hk, bac_wg_here hk]
  cases e : a.here with
  | none =>
    rw [show isNoneB (opD none) .non = pure true from rfl, pure_bind', if_pos rfl]
    simp only [bind_assoc', x1, pure_bind', bac_ws_here hk, bac_ws_bit hk, thM (by have := Nat.pow_le_pow_right (n := 2) (by omega) c8; omega : x < 2 ^ 20), ht]
    have tl := things_len hx
    have lc : (if b = true then things x else (List.range c).filter fun i => !(things x).contains i).length ≤ c := by
      by_cases z : b = true
      · rw [if_pos z]
        exact tl
      · rw [if_neg z]
        have := List.length_filter_le (fun i => !(things x).contains i) (List.range c)
        rwa [List.length_range] at this
    have ll : ∀ i ∈ (if b = true then things x else (List.range c).filter fun i => !(things x).contains i), i ≤ 1000000 := by
      intro i hi
      by_cases z : b = true
      · rw [if_pos z] at hi
        have := bit_lt hx (things_mem.mp hi)
        omega
      · rw [if_neg z] at hi
        have := List.mem_range.mp (List.mem_filter.mp hi).1
        omega
    have et : tellA c a b x = goA a.t a.f (a.asks + 1) b x (if b = true then things x else (List.range c).filter fun i => !(things x).contains i) := by
      unfold tellA
      rw [e]
    by_cases z : b = true
    · rw [if_pos z] at et lc ll
      rw [if_pos z, pure_bind', bac_ws_left hk]
      exact fin x _ b lc ll et
    · rw [if_neg z] at et lc ll
      rw [if_neg z, wp_at (lcM_at (bac_g_count hk range1) _), range1_n c (by omega), lcM_en (xs := List.range c) (fun i => !(things x).contains i) id rfl (by rw [List.length_range]; omega) fun i _ => ?_]
      · rw [List.map_id, pure_bind', bac_ws_left hk]
        exact fin x _ b lc ll et
      · simp only [nm_ap, p1_ap, pure_bind', nin_l]
        split <;> rfl
  | some h =>
    obtain ⟨H, i, r, e2, op⟩ := I.yes h e
    have hx2 : x = tried h i a.bit := by
      unfold stepA at hs
      rw [e, e2] at hs
      exact (Option.some.inj hs).symm
    have lc := H.lc
    have ll := H.ll
    rw [e2] at lc ll
    rw [List.length_cons] at lc
    have et : tellA c a b x = goA a.t a.f (a.asks + 1) a.bit (if b = a.bit then x else h) r := by
      unfold tellA
      rw [e, e2]
      rfl
    have ll2 : ∀ j ∈ r, j ≤ 1000000 := fun j hj => by
      have := ll j (List.mem_cons_of_mem _ hj)
      omega
    rw [show isNoneB (opD (some h)) .non = pure false from rfl, pure_bind', if_neg (by decide)]
    simp only [bind_assoc', x1, pure_bind', bac_wg_bit hk, hB h e, he]
    by_cases z : b = a.bit
    · rw [if_pos z] at et
      rw [show (b == a.bit) = true from beq_iff_eq.mpr z, if_pos rfl, bind_assoc', bac_ws_here hk]
      simp only [pure_bind', seqO_nx, bind_assoc', bac_wg_left hk, c1.symm ▸ intM_i 1, e2, sl1, bac_ws_left hk]
      exact fin x r a.bit (by omega) ll2 et
    · rw [if_neg z] at et
      rw [show (b == a.bit) = false from beq_eq_false_iff_ne.mpr z, if_neg (by decide), pure_bind']
      simp only [pure_bind', seqO_nx, bind_assoc', bac_wg_left hk, c1.symm ▸ intM_i 1, e2, sl1, bac_ws_left hk]
      exact fin h r a.bit (by omega) ll2 et
end
/-! ### what the asker's makers and loops compute -/
theorem inM {c : Nat} {s : Store} (h1 : 1 ≤ c) (h8 : c ≤ 8) : Wp (mkM 0 (pure [ni c]) m_BorderAsker___init__) s fun d s' => d = .ref s.length ∧ s' = (s ++ [Cell.ins 0 []]).set s.length (acl (ni c) startA .non) := by
  have hk := end_lt s (Cell.ins 0 [])
  refine mk_at ?_
  unfold m_BorderAsker___init__ b_BorderAsker___init__
  simp only [p2_ap, pure_bind', bind_assoc', runF_bind, ccM h1 h8, mkT0, mkL0]
  refine wp_go (setF_at hk (show 0 < 1000 by decide)) ?_
  refine wp_go (setF_at hk (show 1 < 1000 by decide)) ?_
  refine wp_go (setF_at hk (show 2 < 1000 by decide)) ?_
  refine wp_go (setF_at hk (show 3 < 1000 by decide)) ?_
  refine wp_go (setF_at hk (show 4 < 1000 by decide)) ?_
  refine wp_go (setF_at hk (show 5 < 1000 by decide)) ?_
  refine wp_go (setF_at hk (show 6 < 1000 by decide)) ?_
  exact wp_pure ⟨rfl, trivial, rfl⟩
theorem asM {k : Nat} {s : Store} (hk : k < s.length) {C B : D} {a : Ask} : m_BorderAsker_asked [.ref k] (s.set k (acl C a B)) = .ok (ni a.asks) (s.set k (acl C a B)) := by
  unfold m_BorderAsker_asked b_BorderAsker_asked acl
  simp only [p1_ap, pure_bind', bind_assoc', runF_bind]
  rw [bac_g_asks hk]
  rfl
theorem ltrM {T : List Nat} {x : Nat} (h : T.length ≤ 2 ^ 24) : m__law_true [.tup (en T), ni x] = pure (.bl (up T x)) := by
  unfold m__law_true b__law_true
  simp only [p2_ap, pure_bind', bind_assoc', runF_bind, items_t]
  rw [upL h, pure_bind', any_b]
  rfl
theorem kk : eqB (.str "known") (.str "known") = pure true := by
  rw [eqB_ss (strOk_of (by decide +kernel)) (strOk_of (by decide +kernel))]
  rfl
theorem ak : eqB (.str "ask") (.str "known") = pure false := by
  rw [eqB_ss (strOk_of (by decide +kernel)) (strOk_of (by decide +kernel))]
  rfl
theorem aa : eqB (.str "ask") (.str "ask") = pure true := by
  rw [eqB_ss (strOk_of (by decide +kernel)) (strOk_of (by decide +kernel))]
  rfl
theorem ka : eqB (.str "known") (.str "ask") = pure false := by
  rw [eqB_ss (strOk_of (by decide +kernel)) (strOk_of (by decide +kernel))]
  rfl
def eb1 (b : Bool) : D := ni (if b = true then 1 else 0)
theorem eb1t (b : Bool) : truth (eb1 b) = pure b := by cases b <;> rfl
theorem eb1q (x b : Bool) : eqB (.bl x) (eb1 b) = pure (x == b) := by
  unfold eb1
  rw [eqB_sh (n := 0) (m := 0) Sh.bl Sh.ni]
  show (pure (eqD (.bl x) (.int _)) : M Bool) = _
  rw [eqD_bi]
  cases x <;> cases b <;> rfl
theorem eb1e (x b : Bool) : eqB (eb1 x) (eb1 b) = pure (x == b) := by
  unfold eb1
  rw [eq_nn]
  cases x <;> cases b <;> rfl
section
variable {c : Nat} {T : List Nat} {s : Store} (h1 : 1 ≤ c) (h8 : c ≤ 8) (hT : Brd T) (kT : ∀ x ∈ T, x < 2 ^ c)
include h1 h8 hT kT
theorem knM {n : Nat} {b : Ask} (R : Run c T n startA b) (hn : n < 600) (Q : D → Store → Prop) (q : ∀ C, Q (.tup [.tup [.str "known", .tup (en b.t), .tup (en b.f)], ni b.asks]) (s ++ [C])) : Wp (m__law_known [ni c, .tup (en T)]) s Q := by
  have len := brd_len hT.1 kT h8
  unfold m__law_known b__law_known
  simp only [p2_ap, pure_bind', bind_assoc', runF_bind]
  refine wp_bind (wp_imp (inM h1 h8) ?_)
  rintro d s' ⟨rfl, rfl⟩
  have hk := end_lt s (Cell.ins 0 [])
  rw [show D.int 600 = ni 600 from rfl, range1_n 600 (by decide), pure_bind']
  refine wp_bind (wp_for (fun xs _ st => ∃ n a B, Run c T n a b ∧ n < xs.length ∧ Inv c T a ∧ (∀ h, a.here = some h → B = eb1 a.bit) ∧ st = (s ++ [Cell.ins 0 []]).set s.length (acl (ni c) a B)) _ _ _ ⟨n, startA, .non, R, by rw [en_len, List.length_range]; exact hn, start_inv, fun h q => (by cases q), rfl⟩ ?_ ?_)
  · rintro x r ⟨⟩ st ⟨n, a, B, R, hn, I, hB, rfl⟩
    have st := stM hk h8 kT I eb1t hB
    rw [nm_ap, pure_bind', p1_ap]
    unfold acl at st ⊢
    rw [bac_wm hk rfl]
    simp only [pure_bind', bind_assoc']
    refine wp_go st ?_
    cases R with
    | done e =>
      rw [show stpD c b = .tup [.str "known", .tup (en b.t), .tup (en b.f)] by unfold stpD; rw [e]]
      rw [c0, show ixD (.tup [.str "known", .tup (en b.t), .tup (en b.f)]) (ni 0) = pure (.str "known") from rfl, pure_bind', kk, pure_bind', if_pos rfl, bind_assoc', bac_wm hk rfl]
      simp only [pure_bind', bind_assoc']
      have as := asM hk (C := ni c) (B := B) (a := b)
      unfold acl at as
      refine wp_go as ?_
      rw [mkT2, pure_bind', seqO_rt]
      refine wp_pure ?_
      rw [set_end]
      exact wp_pure (q _)
    | @more n _ _ x e lx R =>
      rw [show stpD c a = .tup [.str "ask", ni x] by unfold stpD; rw [e]]
      rw [c0, show ixD (.tup [.str "ask", ni x]) (ni 0) = pure (.str "ask") from rfl, pure_bind', ak, pure_bind', if_neg (by decide), pure_bind', seqO_nx, bac_wm hk rfl]
      rw [c1, show ixD (.tup [.str "ask", ni x]) (ni 1) = pure (ni x) from rfl]
      simp only [pure_bind', bind_assoc', ltrM (by omega : T.length ≤ 2 ^ 24), int_bn]
      have te := teM hk h8 kT I eb1t eb1q eb1e hB e lx (up T x)
      unfold acl at te
      refine wp_bind (wp_imp te ?_)
      rintro d st' ⟨rfl, rfl⟩
      refine wp_pure ⟨n, tellA c a (up T x) x, _, R, by rw [List.length_cons] at hn; omega, (tell_inv kT I e).2, fun _ _ => rfl, rfl⟩
  · rintro z st ⟨n, a, B, R, hn, _⟩
    exact (Nat.not_lt_zero n hn).elim
theorem afM {n : Nat} {b : Ask} (R : Run c T n startA b) (hn : n < 1000) (Q : D → Store → Prop) (q : ∀ C, Q (ni b.asks) (s ++ [C])) : Wp (m_asks_for [ni c, .tup (en T)]) s Q := by
  have len := brd_len hT.1 kT h8
  unfold m_asks_for b_asks_for
  simp only [p2_ap, pure_bind', bind_assoc', runF_bind, cbM h1 h8 hT kT]
  refine wp_bind (wp_imp (inM h1 h8) ?_)
  rintro d s' ⟨rfl, rfl⟩
  have hk := end_lt s (Cell.ins 0 [])
  have st0 := stM hk h8 kT (start_inv (T := T)) (eb := D.bl) truth_b (B := .non) (fun h q => (by cases q))
  unfold acl at st0 ⊢
  rw [bac_wm hk rfl]
  simp only [pure_bind', bind_assoc']
  refine wp_go st0 ?_
  refine wp_bind (wp_while (fun m z st => ∃ a B, z = stpD c a ∧ Run c T m a b ∧ Inv c T a ∧ (∀ h, a.here = some h → B = D.bl a.bit) ∧ st = (s ++ [Cell.ins 0 []]).set s.length (acl (ni c) a B)) ?_ 1000 n _ _ ⟨startA, .non, rfl, R, start_inv, fun h q => (by cases q), rfl⟩ hn)
  rintro m z st ⟨a, B, rfl, R, I, hB, rfl⟩
  cases R with
  | done e =>
    rw [show stpD c b = .tup [.str "known", .tup (en b.t), .tup (en b.f)] by unfold stpD; rw [e]]
    rw [c0, show ixD (.tup [.str "known", .tup (en b.t), .tup (en b.f)]) (ni 0) = pure (.str "known") from rfl, pure_bind', ka]
    refine wp_pure ?_
    rw [if_neg (by decide), seqO_nx]
    unfold acl
    rw [runF_bind, bac_wm hk rfl]
    simp only [pure_bind', bind_assoc']
    have as := asM hk (C := ni c) (B := B) (a := b)
    unfold acl at as
    refine wp_go as ?_
    rw [set_end]
    exact wp_pure (q _)
  | @more m _ _ x e lx R =>
    have es : stpD c a = .tup [.str "ask", ni x] := by unfold stpD; rw [e]
    rw [es]
    rw [c0, show ixD (.tup [.str "ask", ni x]) (ni 0) = pure (.str "ask") from rfl, pure_bind', aa]
    refine wp_pure ?_
    rw [if_pos rfl]
    unfold acl
    have te := teM hk h8 kT I truth_b (fun x b => eq_bb x b) (fun x b => eq_bb x b) hB e lx (up T x)
    unfold acl at te
    have st := stM hk h8 kT (tell_inv kT I e).2 (eb := D.bl) truth_b (B := .bl (tellA c a (up T x) x).bit) (fun _ _ => rfl)
    unfold acl at st
    rw [bac_wm hk rfl]
    rw [c1, show ixD (.tup [.str "ask", ni x]) (ni 1) = pure (ni x) from rfl]
    simp only [pure_bind', bind_assoc', items_t]
    rw [← c0, upL (by omega), pure_bind', any_b, pure_bind']
    refine wp_bind (wp_imp te ?_)
    rintro d st' ⟨rfl, rfl⟩
    rw [bac_wm hk rfl]
    simp only [pure_bind', bind_assoc']
    refine wp_go st (wp_pure ⟨m, Nat.lt_succ_self m, tellA c a (up T x) x, _, rfl, R, (tell_inv kT I e).2, fun _ _ => rfl, rfl⟩)
end
/-! ### the law's own defs -/
theorem llM {l : List Nat} {d : D} (hl : l.length ≤ 4000) (hd : ssortD d = pure (.lst (en (usort l)))) : m__law_least [d] = pure (.tup (en (least l))) := by
  have len := usort_len l
  unfold m__law_least b__law_least
  simp only [p1_ap, pure_bind', bind_assoc', runF_bind, hd, items_l]
  rw [lcM_en (xs := usort l) (fun x => !((usort l).any fun y => !(y == x) && sub y x)) id rfl (by omega) fun x hx => ?_]
  · rw [List.map_id]
    rfl
  · simp only [nm_ap, p1_ap, pure_bind', bind_assoc', truth_b]
    rw [lpW hl, pure_bind', any_b, pure_bind', truth_b, pure_bind']
    split <;> rfl
def lcr (c : Nat) (T : List Nat) : List Nat := least ((List.range (2 ^ c)).filter fun x => T.all fun y => meet x y)
theorem lcM' {c : Nat} {T : List Nat} (h8 : c ≤ 8) (h : T.length ≤ 2 ^ 24) : m__law_crossing [ni c, .tup (en T)] = pure (.tup (en (lcr c T))) := by
  have p8 := pow8 h8
  have fl := List.length_filter_le (fun x => T.all fun y => meet x y) (List.range (2 ^ c))
  rw [List.length_range] at fl
  unfold m__law_crossing b__law_crossing
  simp only [p2_ap, pure_bind', bind_assoc', runF_bind, items_t, c1]
  rw [shl_nn 1 c (by decide) (by omega), pure_bind', Nat.one_mul, range1_n _ (by omega)]
  rw [lcM_en (xs := List.range (2 ^ c)) (fun x => T.all fun y => meet x y) id rfl (by rw [List.length_range]; omega) fun x hx => ?_]
  · rw [pure_bind', List.map_id, llM (by omega) (ssort_len (by omega))]
    rfl
  · simp only [nm_ap, p1_ap, pure_bind']
    rw [lcM_bool (xs := T) (fun y => meet x y) rfl h fun y _ => ?_]
    · rw [pure_bind', all_b, pure_bind', truth_b, pure_bind']
      split <;> rfl
    · simp only [nm_ap, p1_ap, pure_bind', if_true, and_nn, c0, ne_nn]
      rfl
theorem lrM {c : Nat} {T : List Nat} (h8 : c ≤ 8) (h : T.length ≤ 2 ^ 24) : m__law_row [ni c, .tup (en T)] = pure (.lst (((List.range (2 ^ c)).map (up T)).map .bl)) := by
  have p8 := pow8 h8
  unfold m__law_row b__law_row
  simp only [p2_ap, pure_bind', bind_assoc', runF_bind, c1]
  rw [shl_nn 1 c (by decide) (by omega), pure_bind', Nat.one_mul, range1_n _ (by omega)]
  rw [lcM_bool (xs := List.range (2 ^ c)) (up T) rfl (by rw [List.length_range]; omega) fun x _ => ?_]
  · rfl
  · simp only [nm_ap, p1_ap, pure_bind', if_true, ltrM h]
theorem lbM {N : Nat} {f : Nat → Bool} (h : N ≤ 4000) : m__law_border_of [.lst (((List.range N).map f).map .bl)] = pure (.tup (en (least ((List.range N).filter f)))) := by
  have fl := List.length_filter_le f (List.range N)
  rw [List.length_range] at fl
  unfold m__law_border_of b__law_border_of
  simp only [p1_ap, pure_bind', bind_assoc', runF_bind, len_row]
  rw [range1_n _ (by omega), lcM_en (xs := List.range N) f id rfl (by rw [List.length_range]; omega) fun x hx => ?_]
  · rw [pure_bind', List.map_id, llM (by omega) (ssort_len (by omega))]
    rfl
  · simp only [nm_ap, p1_ap, pure_bind', at_row (List.mem_range.mp hx), truth_b]
    split <;> rfl
def joins (A B : List Nat) : List Nat := A.foldl (fun f a => f ++ B.map fun b => a ||| b) []
theorem joins_mem {B : List Nat} {x : Nat} : ∀ (A acc : List Nat), x ∈ A.foldl (fun f a => f ++ B.map fun b => a ||| b) acc ↔ x ∈ acc ∨ ∃ a ∈ A, ∃ b ∈ B, x = a ||| b
  | [], acc => by simp
  | a :: A, acc => by
    rw [List.foldl_cons, joins_mem A]
    simp only [List.mem_cons, exists_eq_or_imp]
    rw [List.mem_append, List.mem_map, or_assoc]
    refine or_congr Iff.rfl (or_congr ?_ Iff.rfl)
    constructor
    · rintro ⟨b, h, e⟩; exact ⟨b, h, e.symm⟩
    · rintro ⟨b, h, e⟩; exact ⟨b, h, e.symm⟩
theorem joins_up {A B : List Nat} {x : Nat} : Up (joins A B) x ↔ Up A x ∧ Up B x := by
  constructor
  · rintro ⟨t, ht, k⟩
    obtain h | ⟨a, ha, b, hb, rfl⟩ := (joins_mem A []).mp ht
    · cases h
    · exact ⟨⟨a, ha, (or_sub.mp k).1⟩, ⟨b, hb, (or_sub.mp k).2⟩⟩
  · rintro ⟨⟨a, ha, k⟩, ⟨b, hb, q⟩⟩
    exact ⟨a ||| b, (joins_mem A []).mpr (.inr ⟨a, ha, b, hb, rfl⟩), or_sub.mpr ⟨k, q⟩⟩
theorem joins_len {B : List Nat} : ∀ (A acc : List Nat), (A.foldl (fun f a => f ++ B.map fun b => a ||| b) acc).length = acc.length + A.length * B.length
  | [], acc => by simp
  | a :: A, acc => by
    rw [List.foldl_cons, joins_len A, List.length_append, List.length_map, List.length_cons, Nat.succ_mul]
    omega
theorem ljM {A B : List Nat} (hA : A.length ≤ 60) (hB : B.length ≤ 60) : m__law_joins [.tup (en A), .tup (en B)] = pure (.lst (en (joins A B))) := by
  unfold m__law_joins b__law_joins
  simp only [p2_ap, pure_bind', bind_assoc', runF_bind, mkL0, items_t]
  refine forL_go (enc := fun a : List Nat => D.lst (en a)) (to := ni) (g := fun f a => f ++ B.map fun b => a ||| b) (P := fun r f => f.length + r.length * B.length ≤ 60 * 60) A [] (by rw [List.length_nil]; have := Nat.mul_le_mul hA hB; omega) ?_ fun _ => rfl
  intro f a r hf ha
  rw [List.length_cons, Nat.succ_mul] at hf
  refine ⟨?_, by rw [List.length_append, List.length_map]; omega⟩
  simp only [nm_ap, p1_ap, pure_bind', lst_l]
  rw [lcM_enm (xs := B) (fun b => a ||| b) rfl (by omega) fun b _ => ?_]
  · rw [pure_bind', ext_en (by rw [List.length_map]; omega)]
    rfl
  · simp only [nm_ap, p1_ap, pure_bind', if_true, or_nn]
/-! a drawn border -/
theorem next_n {n : Nat} {rest s : Store} {many : Nat} {Q : D → Store → Prop} (d : Drw (n + 1) rest s) (hm : 0 < many) (q : ∀ (r : Nat) s', r < many → Drw n rest s' → Q (ni r) s') : Wp (m__law_next [.ref 0, ni many]) s Q :=
  next_wp d (by omega) fun r s' h0 h1 hd => by
    obtain ⟨k, rfl⟩ := Int.eq_ofNat_of_zero_le h0
    exact q k s' (by omega) hd
theorem boM {n c : Nat} {rest s : Store} {Q : D → Store → Prop} (h8 : c ≤ 8) (d : Drw (n + 12) rest s) (q : ∀ T s', Brd T → (∀ x ∈ T, x < 2 ^ c) → Drw n rest s' → Q (.tup (en T)) s') : Wp (m__law_border [.ref 0, ni c]) s Q := by
  have pc := Nat.two_pow_pos c
  have p8 := pow8 h8
  unfold m__law_border b__law_border
  simp only [p2_ap, pure_bind', bind_assoc', runF_bind]
  refine wp_bind (next_n (many := 6) (d.less (m := n + 11 + 1) (by omega)) (by omega) fun kind s1 hk hd1 => ?_)
  rw [c0, eq_nn, pure_bind']
  by_cases z : kind = 0
  · subst z
    rw [show ((0 : Nat) == 0) = true from rfl, if_pos rfl]
    simp only [mkT0, mkT1, mkL2, pure_bind', bind_assoc']
    refine wp_bind (next_n (many := 2) (hd1.less (m := n + 1) (by omega)) (by omega) fun w s2 hw hd2 => ?_)
    have : w = 0 ∨ w = 1 := by omega
    rcases this with rfl | rfl
    · exact wp_pure (q [] s2 ⟨List.Pairwise.nil, fun a ha => (by cases ha)⟩ (fun x hx => (by cases hx)) hd2)
    · exact wp_pure (q [0] s2 brd0 (fun x hx => by rw [List.mem_singleton.mp hx]; exact pc) hd2)
  · rw [beq_eq_false_iff_ne.mpr z, if_neg (by decide), pure_bind', seqO_nx]
    simp only [runF_bind, bind_assoc', pure_bind']
    refine wp_bind (wp_lc (J := fun xs acc s => ∃ l, acc = en l ∧ l.length + xs.length ≤ 5 ∧ (∀ x ∈ l, x < 2 ^ c) ∧ Drw (n + 2 * xs.length) rest s) (wp_bind (next_n (many := 5) (hd1.less (m := n + 10 + 1) (by omega)) (by omega) fun k s2 hk hd2 => ?_)) (fun x r acc s ⟨l, e, hl, hw, hd⟩ => ?_) fun ys s' ⟨l, e, hl, hw, hd⟩ => ⟨?_, ?_⟩)
    · rw [c1, add_nn, pure_bind', range1_n _ (by omega)]
      refine wp_pure ⟨[], rfl, ?_, fun x hx => (by cases hx), hd2.less ?_⟩
      · rw [en_len, List.length_range, List.length_nil]; omega
      · rw [en_len, List.length_range]; omega
    · rw [List.length_cons] at hl hd
      rw [nm_ap, pure_bind', p1_ap, pure_bind', if_pos rfl, p1_ap]
      rw [c1, shl_nn 1 c (by decide) (by omega), pure_bind', Nat.one_mul]
      simp only [pure_bind', bind_assoc']
      refine wp_bind (next_n (many := 2 ^ c) (hd.less (m := n + 2 * r.length + 1 + 1) (by omega)) pc fun a s3 ha hd3 => ?_)
      refine wp_bind (next_n (many := 2 ^ c) (hd3.less (m := n + 2 * r.length + 1) (by omega)) pc fun b s4 hb hd4 => ?_)
      rw [c3, gt_nn, pure_bind', int_bn, pure_bind']
      have e5 : mulD (ni b) (ni (if decide (3 < kind) = true then 1 else 0)) = pure (ni (b * if decide (3 < kind) = true then 1 else 0)) := by
        show mulD (.int b) (.int _) = _
        rw [mul_ii _ _ (.inl (by omega))]
        rw [← Int.natCast_mul]
        rfl
      rw [e5, pure_bind', or_nn, pure_bind']
      have hv : a ||| (b * if decide (3 < kind) = true then 1 else 0) < 2 ^ c := by
        refine Nat.or_lt_two_pow ha ?_
        split
        · rw [Nat.mul_one]; exact hb
        · rw [Nat.mul_zero]; exact pc
      refine wp_pure ⟨l ++ [a ||| (b * if decide (3 < kind) = true then 1 else 0)], by rw [e, en_app]; rfl, by rw [List.length_append, List.length_singleton]; omega, fun x hx => ?_, hd4⟩
      rcases List.mem_append.mp hx with h | h
      · exact hw x h
      · rw [List.mem_singleton.mp h]; exact hv
    · rw [e, en_len]; omega
    · subst e
      rw [llM (by omega) (ssort_len (by omega)), pure_bind', runF_rt]
      exact wp_pure (q _ _ (least_brd l) (fun x hx => hw x (least_sub hx)) (hd.less (by omega)))
/-! the facts -/
section
variable {c : Nat} {T O : List Nat}
theorem all_meet {T : List Nat} {x : Nat} : (T.all fun y => meet x y) = true ↔ Tr T x := by
  rw [List.all_eq_true]
  exact ⟨fun h s hs => meet_iff.mp (h s hs), fun h s hs => meet_iff.mpr (h s hs)⟩
/-- what is made of all sets that .. -/
theorem up_filter {p : Nat → Bool} (hp : ∀ x y, Sub x y → p x = true → p y = true) {x : Nat} (hx : x < 2 ^ c) : Up ((List.range (2 ^ c)).filter p) x ↔ p x = true := by
  constructor
  · rintro ⟨t, ht, k⟩
    exact hp t x k (List.mem_filter.mp ht).2
  · intro h
    exact ⟨x, List.mem_filter.mpr ⟨List.mem_range.mpr hx, h⟩, Sub.refl x⟩
theorem filter_lt {p : Nat → Bool} : ∀ x ∈ least ((List.range (2 ^ c)).filter p), x < 2 ^ c := fun x hx => List.mem_range.mp (List.mem_filter.mp (least_sub hx)).1
theorem least_lt {l : List Nat} (h : ∀ x ∈ l, x < 2 ^ c) : ∀ x ∈ least l, x < 2 ^ c := fun x hx => h x (least_sub hx)
theorem lcr_eq (kT : ∀ x ∈ T, x < 2 ^ c) : lcr c T = crossing T := by
  refine brd_eqc (c := c) (least_brd _) (crossing_brd T) filter_lt (crossing_lt kT) fun x hx => ?_
  unfold lcr
  rw [least_up, up_filter (fun a b k h => all_meet.mpr (tr_mono (all_meet.mp h) k)) hx, all_meet, crossing_up]
theorem joins_lt {A B : List Nat} (hA : ∀ x ∈ A, x < 2 ^ c) (hB : ∀ x ∈ B, x < 2 ^ c) : ∀ x ∈ joins A B, x < 2 ^ c := fun x hx => by
  obtain h | ⟨a, ha, b, hb, rfl⟩ := (joins_mem A []).mp hx
  · cases h
  · exact Nat.or_lt_two_pow (hA a ha) (hB b hb)
theorem app_lt {A B : List Nat} (hA : ∀ x ∈ A, x < 2 ^ c) (hB : ∀ x ∈ B, x < 2 ^ c) : ∀ x ∈ A ++ B, x < 2 ^ c := fun x hx => by
  rcases List.mem_append.mp hx with h | h
  · exact hA x h
  · exact hB x h
theorem app_up {A B : List Nat} {x : Nat} : Up (A ++ B) x ↔ Up A x ∨ Up B x := by
  constructor
  · rintro ⟨t, ht, k⟩
    rcases List.mem_append.mp ht with h | h
    · exact .inl ⟨t, h, k⟩
    · exact .inr ⟨t, h, k⟩
  · rintro (⟨t, h, k⟩ | ⟨t, h, k⟩)
    · exact ⟨t, List.mem_append.mpr (.inl h), k⟩
    · exact ⟨t, List.mem_append.mpr (.inr h), k⟩
theorem either_eq (kT : ∀ x ∈ T, x < 2 ^ c) (kO : ∀ x ∈ O, x < 2 ^ c) : least ((List.range (2 ^ c)).filter fun x => up T x || up O x) = least (T ++ O) := by
  refine brd_eqc (c := c) (least_brd _) (least_brd _) filter_lt (least_lt (app_lt kT kO)) fun x hx => ?_
  rw [least_up, least_up, up_filter (fun a b k h => ?_) hx, app_up, Bool.or_eq_true, up_iff, up_iff]
  rw [Bool.or_eq_true, up_iff, up_iff] at h ⊢
  exact h.imp (fun q => q.mono k) fun q => q.mono k
theorem both_eq (kT : ∀ x ∈ T, x < 2 ^ c) (kO : ∀ x ∈ O, x < 2 ^ c) : least ((List.range (2 ^ c)).filter fun x => up T x && up O x) = least (joins T O) := by
  refine brd_eqc (c := c) (least_brd _) (least_brd _) filter_lt (least_lt (joins_lt kT kO)) fun x hx => ?_
  rw [least_up, least_up, up_filter (fun a b k h => ?_) hx, joins_up, Bool.and_eq_true, up_iff, up_iff]
  rw [Bool.and_eq_true, up_iff, up_iff] at h ⊢
  exact h.imp (fun q => q.mono k) fun q => q.mono k
theorem cross_either : crossing (least (T ++ O)) = least (joins (crossing T) (crossing O)) := by
  refine brd_eq (crossing_brd _) (least_brd _) fun x => ?_
  rw [crossing_up, least_up, joins_up, crossing_up, crossing_up, tr_up, tr_up, tr_up]
  constructor
  · intro h
    exact ⟨fun y hy => h y (least_up.mpr (app_up.mpr (.inl hy))), fun y hy => h y (least_up.mpr (app_up.mpr (.inr hy)))⟩
  · rintro ⟨h, k⟩ y hy
    rcases app_up.mp (least_up.mp hy) with q | q
    · exact h y q
    · exact k y q
theorem cross_both : crossing (least (joins T O)) = least (crossing T ++ crossing O) := by
  refine brd_eq (crossing_brd _) (least_brd _) fun x => ?_
  rw [crossing_up, least_up, app_up, crossing_up, crossing_up]
  constructor
  · intro h
    rw [tr_up] at h
    refine Classical.byContradiction fun z => ?_
    rw [not_or] at z
    obtain ⟨z1, z2⟩ := z
    obtain ⟨t, z1⟩ := Classical.not_forall.mp z1
    obtain ⟨ht, z1⟩ := Classical.not_imp.mp z1
    obtain ⟨u, z2⟩ := Classical.not_forall.mp z2
    obtain ⟨hu, z2⟩ := Classical.not_imp.mp z2
    obtain ⟨i, a, b⟩ := h (t ||| u) (least_up.mpr (joins_up.mpr ⟨⟨t, ht, sub_orL t u⟩, ⟨u, hu, sub_orR t u⟩⟩))
    rw [or_bit, Bool.or_eq_true] at b
    exact b.elim (fun b => z1 ⟨i, a, b⟩) fun b => z2 ⟨i, a, b⟩
  · rintro (h | h) <;> rw [tr_up] at h ⊢ <;> intro y hy
    · exact h y (joins_up.mp (least_up.mp hy)).1
    · exact h y (joins_up.mp (least_up.mp hy)).2
theorem rows_eq (kT : ∀ x ∈ T, x < 2 ^ c) : (List.range (2 ^ c)).map (down (falses c T)) = (List.range (2 ^ c)).map fun x => !up T x := by
  refine List.map_congr_left fun x hx => ?_
  have hx := List.mem_range.mp hx
  rw [Bool.eq_iff_iff, down_iff, falses_down kT hx, Bool.not_eq_true', up_false]
end
theorem law_ok : LawOk m_law := by
  intro ns hl
  obtain ⟨nums, e, h0, h1⟩ := stream_ok ns hl []
  suffices h : Wp (m_law [.rls (ns.map .int)]) [] fun d _ => d = .bl true from h.run
  unfold m_law b_law
  simp only [p1_ap, pure_bind', bind_assoc', runF_bind]
  refine wp_go e ?_
  rw [mkL2, pure_bind']
  refine wp_go (a := .ref 0) (s' := [.lst [.lst (nums.map .int), .int ((0 : Nat) : Int)]]) rfl ?_
  rw [c4, range1_n 4 (by decide), pure_bind']
  refine wp_bind (wp_for (fun xs _ s => ∃ rest, Drw (xs.length * 30) rest s) _ _ _ ⟨[], nums, 0, rfl, h0, h1, by rw [en_len]; decide⟩ ?_ ?_)
  · rintro x r ⟨⟩ s ⟨rest, hd⟩
    rw [List.length_cons] at hd
    rw [nm_ap, pure_bind', p1_ap, c5, c1]
    refine wp_bind (next_n (many := 5) (hd.less (m := r.length * 30 + 29 + 1) (by omega)) (by omega) fun k s1 hk hd1 => ?_)
    rw [add_nn, pure_bind']
    generalize hc : 1 + k = c
    have k1 : 1 ≤ c := by omega
    have k5 : c ≤ 5 := by omega
    have k8 : c ≤ 8 := by omega
    have p := Nat.two_pow_pos c
    have p5 : 2 ^ c ≤ 32 := Nat.le_trans (Nat.pow_le_pow_right (by omega) k5) (by decide)
    rw [shl_nn 1 c (by decide) (by omega), pure_bind', Nat.one_mul, sub_nn (by omega), pure_bind']
    refine wp_bind (boM (n := r.length * 30 + 13) k8 (hd1.less (by omega)) fun T s2 bT kT hd2 => ?_)
    refine wp_bind (boM (n := r.length * 30) k8 (hd2.less (by omega)) fun O s3 bO kO hd3 => ?_)
    have lT : T.length ≤ 32 := Nat.le_trans (asc_len bT.1 kT) p5
    have lO : O.length ≤ 32 := Nat.le_trans (asc_len bO.1 kO) p5
    have bC := crossing_brd T
    have kC := crossing_lt kT
    have lC : (crossing T).length ≤ 32 := Nat.le_trans (asc_len bC.1 kC) p5
    have bD := crossing_brd O
    have kD := crossing_lt kO
    have lD : (crossing O).length ≤ 32 := Nat.le_trans (asc_len bD.1 kD) p5
    have bF := falses_brd kT
    have kF := falses_lt (c := c) (trues := T)
    have lF : (falses c T).length ≤ 32 := Nat.le_trans (asc_len bF.1 kF) p5
    have ek : ∀ l : List Nat, l.length ≤ 32 → Brd l → (∀ x ∈ l, x < 2 ^ c) → m_crossing [ni c, .tup (en l)] = pure (.tup (en (crossing l))) := fun l _ b q => crM k1 k8 b.1 q
    have bE := least_brd (T ++ O)
    have kE : ∀ x ∈ least (T ++ O), x < 2 ^ c := least_lt (app_lt kT kO)
    have bB := least_brd (joins T O)
    have kB : ∀ x ∈ least (joins T O), x < 2 ^ c := least_lt (joins_lt kT kO)
    have jl1 : (joins T O).length ≤ 1024 := by
      have := joins_len (B := O) T []
      have := Nat.mul_le_mul lT lO
      rw [List.length_nil] at *
      unfold joins
      omega
    have jl2 : (joins (crossing T) (crossing O)).length ≤ 1024 := by
      have := joins_len (B := crossing O) (crossing T) []
      have := Nat.mul_le_mul lC lD
      rw [List.length_nil] at *
      unfold joins
      omega
    have v1 := lrM k8 (by omega : T.length ≤ 2 ^ 24)
    have v2 := crM k1 k8 bT.1 kT
    have v3 := lcM' k8 (by omega : T.length ≤ 2 ^ 24)
    rw [lcr_eq kT] at v3
    have v4 := crM k1 k8 bC.1 kC
    rw [crossing_two bT kT] at v4
    have v5 := gfM k1 k8 bT kT
    have v6 := coL (t := crossing T) (c := c) (by omega)
    have v7 := ltM k1 k8 bF kF
    rw [falses_back bT kT] at v7
    have v8 := iwM k1 k8 bT kT bF kF
    have v9 : lcM (range1 (ni (2 ^ c))) nm (p1 fun _ => (pure true : M Bool)) (p1 fun v880 => m_is_true [ni c, .tup (en T), v880]) = pure (.lst (((List.range (2 ^ c)).map (up T)).map .bl)) := by
      rw [range1_n _ (by omega)]
      refine lcM_bool (xs := List.range (2 ^ c)) (up T) rfl (by rw [List.length_range]; omega) fun x hx => ?_
      simp only [nm_ap, p1_ap, pure_bind', if_true, itM k1 k8 bT kT (List.mem_range.mp hx)]
    have v10 : lcM (range1 (ni (2 ^ c))) nm (p1 fun _ => (pure true : M Bool)) (p1 fun v893 => (lcM (pure (en (falses c T))) nm (p1 fun _ => (pure true : M Bool)) (p1 fun v894 => (invD v894 >>= fun y => andD v893 y >>= fun z => eqB z (ni 0) >>= fun b => (pure (D.bl b) : M D))) >>= anyD)) = pure (.lst (((List.range (2 ^ c)).map (down (falses c T))).map .bl)) := by
      rw [range1_n _ (by omega)]
      refine lcM_bool (xs := List.range (2 ^ c)) (down (falses c T)) rfl (by rw [List.length_range]; omega) fun x hx => ?_
      simp only [nm_ap, p1_ap, pure_bind', if_true, ← c0, downL (t := falses c T) (x := x) (by omega), any_b]
      rfl
    have v11 : lcM (pure (((List.range (2 ^ c)).map (up T)).map D.bl)) nm (p1 fun _ => (pure true : M Bool)) (p1 fun v904 => (truth v904 >>= fun b905 => (pure (D.bl (!b905)) : M D))) = pure (.lst (((List.range (2 ^ c)).map fun x => !up T x).map .bl)) := by
      rw [List.map_map, lcM_map (to := D.bl ∘ up T) (xs := List.range (2 ^ c)) (fun x => .bl (!up T x)) rfl (by rw [List.length_range]; omega) fun x hx => ?_]
      · rw [List.map_map]; rfl
      · simp only [nm_ap, p1_ap, pure_bind', if_true, Function.comp, truth_b]
    have v12 := lrM k8 (by omega : O.length ≤ 2 ^ 24)
    have v13 : lcM (range1 (ni (2 ^ c))) nm (p1 fun _ => (pure true : M Bool)) (p1 fun v916 => (ixD (.lst (((List.range (2 ^ c)).map (up T)).map .bl)) v916 >>= fun x921 => truth x921 >>= fun b922 => if b922 = true then (pure x921 : M D) else ixD (.lst (((List.range (2 ^ c)).map (up O)).map .bl)) v916)) = pure (.lst (((List.range (2 ^ c)).map fun x => up T x || up O x).map .bl)) := by
      rw [range1_n _ (by omega)]
      refine lcM_bool (xs := List.range (2 ^ c)) _ rfl (by rw [List.length_range]; omega) fun x hx => ?_
      have hx := List.mem_range.mp hx
      simp only [nm_ap, p1_ap, pure_bind', if_true, at_row hx, truth_b]
      cases up T x <;> rfl
    have v14 : lcM (range1 (ni (2 ^ c))) nm (p1 fun _ => (pure true : M Bool)) (p1 fun v926 => (ixD (.lst (((List.range (2 ^ c)).map (up T)).map .bl)) v926 >>= fun x931 => truth x931 >>= fun b932 => if b932 = true then ixD (.lst (((List.range (2 ^ c)).map (up O)).map .bl)) v926 else (pure x931 : M D))) = pure (.lst (((List.range (2 ^ c)).map fun x => up T x && up O x).map .bl)) := by
      rw [range1_n _ (by omega)]
      refine lcM_bool (xs := List.range (2 ^ c)) _ rfl (by rw [List.length_range]; omega) fun x hx => ?_
      have hx := List.mem_range.mp hx
      simp only [nm_ap, p1_ap, pure_bind', if_true, at_row hx, truth_b]
      cases up T x <;> rfl
    have v15 := lbM (N := 2 ^ c) (f := fun x => up T x || up O x) (by omega)
    rw [either_eq kT kO] at v15
    have v16 := lbM (N := 2 ^ c) (f := fun x => up T x && up O x) (by omega)
    rw [both_eq kT kO] at v16
    have v17 : catD (.lst (en T)) (.lst (en O)) = pure (.lst (en (T ++ O))) := by rw [cat_ok _ _ (by rw [en_len, en_len]; omega), en_app]
    have v18 := llM (l := T ++ O) (d := .lst (en (T ++ O))) (by rw [List.length_append]; omega) (ssort_len (by rw [List.length_append]; omega))
    have v19 := ljM (A := T) (B := O) (by omega) (by omega)
    have v20 := llM (l := joins T O) (d := .lst (en (joins T O))) (by omega) (ssort_len (by omega))
    have v21 := crM k1 k8 bE.1 kE
    rw [cross_either] at v21
    have v22 := crM k1 k8 bO.1 kO
    have v23 := ljM (A := crossing T) (B := crossing O) (by omega) (by omega)
    have v24 := llM (l := joins (crossing T) (crossing O)) (d := .lst (en (joins (crossing T) (crossing O)))) (by omega) (ssort_len (by omega))
    have v25 := crM k1 k8 bB.1 kB
    rw [cross_both] at v25
    have v26 : catD (.lst (en (crossing T))) (.lst (en (crossing O))) = pure (.lst (en (crossing T ++ crossing O))) := by rw [cat_ok _ _ (by rw [en_len, en_len]; omega), en_app]
    have v27 := llM (l := crossing T ++ crossing O) (d := .lst (en (crossing T ++ crossing O))) (by rw [List.length_append]; omega) (ssort_len (by rw [List.length_append]; omega))
    simp only [c0, c1, shl_nn 1 c (by decide) (by omega), Nat.one_mul] at *
    simp only [v1, v2, v3, v4, pure_bind', bind_assoc', ne_ten, decide_true, Bool.not_true, Bool.false_eq_true, if_false, seqO_nx]
    simp only [v5, v6, sorted_en, tuple_l, items_t, pure_bind', bind_assoc']
    have f1 : srt ((crossing T).map (co c)) = falses c T := rfl
    have w1 : neB (.lst (((List.range (2 ^ c)).map (up T)).map .bl)) (.lst (((List.range (2 ^ c)).map (up T)).map .bl)) = pure false := neB_self (n := 1) (Sh.row _)
    have w2 : neB (.lst (((List.range (2 ^ c)).map fun x => !up T x).map .bl)) (.lst (((List.range (2 ^ c)).map fun x => !up T x).map .bl)) = pure false := neB_self (n := 1) (Sh.row _)
    simp only [f1, v7, v8, v9, v10, v11, w1, w2, rows_eq kT, truth_b, pure_bind', bind_assoc', items_l, ne_ten, decide_true, Bool.not_true, Bool.false_eq_true, if_false, seqO_nx]
    simp only [v12, len_row, pure_bind', bind_assoc', v13, v14]
    simp only [v15, v16, pure_bind', list_t, v17, v18, v19, v20, ne_ten, decide_true, Bool.not_true, Bool.false_eq_true, if_false, seqO_nx]
    simp only [v21, v22, v23, v24, v25, v26, v27, pure_bind', list_t, ne_ten, decide_true, Bool.not_true, Bool.false_eq_true, if_false, seqO_nx]
    -- the asker
    have bnd := Nat.mul_le_mul (show 2 ^ c + 2 ^ c ≤ 64 by omega) (show c + 1 ≤ 6 by omega)
    obtain ⟨nn, b, R, Ib, sb, ln⟩ := run_end kT bT 400 startA start_inv (by show (2 ^ c + 2 ^ c) * (c + 1) + (c + 1) + 1 ≤ 400 + 0; omega)
    obtain ⟨_, et, ef, few⟩ := end_known kT bT Ib sb
    refine wp_bind (knM k1 k8 bT kT R (by omega) _ fun C1 => ?_)
    rw [et, ef]
    have sh : Sh 2 (.tup [.str "known", .tup (en T), .tup (en (falses c T))]) := Sh.tup fun x hx => by
      rcases List.mem_cons.mp hx with rfl | hx
      · exact Sh.str (strOk_of (by decide +kernel))
      · rcases List.mem_cons.mp hx with rfl | hx
        · exact Sh.ten _
        · rw [List.mem_singleton.mp hx]; exact Sh.ten _
    rw [show isNoneB (.tup [.tup [.str "known", .tup (en T), .tup (en (falses c T))], ni b.asks]) .non = pure false from rfl, pure_bind', if_neg (by decide)]
    rw [show ixD (.tup [.tup [.str "known", .tup (en T), .tup (en (falses c T))], ni b.asks]) (ni 0) = pure (.tup [.str "known", .tup (en T), .tup (en (falses c T))]) from rfl, show ixD (.tup [.tup [.str "known", .tup (en T), .tup (en (falses c T))], ni b.asks]) (ni 1) = pure (ni b.asks) from rfl]
    simp only [pure_bind', mkT3, neB_self sh, Bool.false_eq_true, if_false, bind_assoc']
    refine wp_bind (afM k1 k8 bT kT R (by omega) _ fun C2 => ?_)
    have nl : ¬ (T.length + (falses c T).length) * (c + 1) < b.asks := by omega
    simp only [ne_nn, beq_self_eq_true, Bool.not_true, pure_bind', Bool.false_eq_true, if_false, bind_assoc', len_ten, add_nn, mul_nn (by omega : T.length + (falses c T).length < 2 ^ 64), gt_nn, decide_eq_false nl, seqO_nx]
    rw [range1_n _ (by omega), pure_bind']
    refine wp_eq (forL_thru (en (List.range T.length)) fun x hx => ?_) ?_
    · obtain ⟨k, hk, rfl⟩ := List.mem_map.mp hx
      have hk := List.mem_range.mp hk
      have sl : (T.take k ++ T.drop (k + 1)).Sublist T := by
        rw [← List.eraseIdx_eq_take_drop_succ]
        exact List.eraseIdx_sublist T k
      have bW := brd_sublist bT sl
      have kW : ∀ x ∈ T.take k ++ T.drop (k + 1), x < 2 ^ c := fun x hx => kT x (sl.subset hx)
      have ne : ¬ falses c (T.take k ++ T.drop (k + 1)) = falses c T := fun q => by
        have := congrArg List.length (falses_inj bW bT kW kT q)
        rw [List.length_append, List.length_take, List.length_drop] at this
        omega
      have u1 := gfM k1 k8 bW kW
      have u2 := iwM k1 k8 bW kW bF kF
      rw [decide_eq_false ne] at u2
      rw [nm_ap, pure_bind', p1_ap]
      simp only [intM_n, pure_bind', slT_hi, add_nn, slT_lo, add_ten (l := T.take k) (m := T.drop (k + 1)) (by have := sl.length_le; rw [List.length_append] at this; omega), u1, u2, eq_ten, decide_eq_false ne, Bool.false_eq_true, if_false, truth_b, seqO_nx]
    · rw [pure_bind', seqO_nx]
      exact wp_pure ⟨_, ((hd3.snoc C1).snoc C2).less (by omega)⟩
  · rintro z s ⟨rest, hd⟩
    rw [seqO_nx, runF_rt]
    exact wp_pure rfl
end K79
open PySem PySem.W PyProof.Rows
set_option maxHeartbeats 0
theorem PySem.Challenge.cw_askcraft_k79_whole_borders_in_order_holds : PySem.Challenge.rw_askcraft_k79_whole_borders_in_order.Holds := by
  w_on; o_law; k_head; (case hw => w_witness2)
  k_fill
  refine L2.walk_of (l := PySem.Challenge.rw_askcraft_k79_whole_borders_in_order) (n := 63) (k := 5) (x := "script") (CX := fun w => L2.CX PySem.Challenge.rw_askcraft_k79_whole_borders_in_order.prog w) (sp := fun w => DL.spLaw _) rfl (by decide) rfl ⟨rfl, by decide, by decide⟩ (fun w h Y => PySem.W.kIn_of Y) ?F (fun _ _ a ns hl _ hS => ⟨a, ns, rfl, hl, hS, fun _ => rfl⟩) (fun _ _ _ _ _ h => DL.cx_no h)
  case F =>
    intro w mg fa h KX G hmg
    refine' K79.all_mk KX G hmg ?a0 ?l0 ?c0 ?k0 ?a1 ?l1 ?c1 ?k1 ?a2 ?l2 ?c2 ?k2 ?a3 ?l3 ?c3 ?k3 ?a4 ?l4 ?c4 ?k4 ?a5 ?l5 ?c5 ?k5 ?a6 ?l6 ?c6 ?k6 ?a7 ?l7 ?c7 ?k7 ?a8 ?l8 ?c8 ?k8 ?a9 ?l9 ?c9 ?k9 ?a10 ?l10 ?c10 ?k10 ?a11 ?l11 ?c11 ?k11 ?a12 ?l12 ?c12 ?k12 ?a13 ?i13 ?l13 ?c13 ?k13 ?a14 ?i14 ?l14 ?c14 ?k14 ?a15 ?i15 ?l15 ?c15 ?k15 ?a16 ?i16 ?l16 ?c16 ?k16 ?a17 ?i17 ?l17 ?c17 ?k17 ?a18 ?i18 ?l18 ?c18 ?k18 ?a19 ?i19 ?l19 ?c19 ?k19 ?a20 ?l20 ?c20 ?k20 ?a21 ?l21 ?c21 ?k21 ?a22 ?l22 ?c22 ?k22 ?a23 ?l23 ?c23 ?k23 ?a24 ?l24 ?c24 ?k24 ?a25 ?l25 ?c25 ?k25 ?a26 ?l26 ?c26 ?k26 ?a27 ?l27 ?c27 ?k27 ?a28 ?l28 ?c28 ?k28 ?a29 ?l29 ?c29 ?k29 ?a30 ?l30 ?c30 ?k30 ?a31 ?l31 ?c31 ?k31 ?aC0 ?pg0 ?hd0 ?po0 ?sa0 ?mk0 ?kc0 ?n0_0 ?n0_1 ?n0_2 ?n0_3 ?n0_4 ?n0_5 ?n0_6 ?zb_abs ?zb_all ?zb_any ?zb_int ?zb_len ?zb_list ?zb_range ?zb_set ?zb_sorted ?zb_tuple ?zc_MAX_THINGS K79.law_ok
    (case aC0 => k_is); (case a0 => k_is); (case l0 => k_is); (case c0 => k_is); (case k0 => k_is); (case a1 => k_is); (case l1 => k_is); (case c1 => k_is); (case k1 => k_is); (case a2 => k_is); (case l2 => k_is); (case c2 => k_is); (case k2 => k_is); (case a3 => k_is); (case l3 => k_is); (case c3 => k_is); (case k3 => k_is); (case a4 => k_is); (case l4 => k_is); (case c4 => k_is); (case k4 => k_is); (case a5 => k_is); (case l5 => k_is); (case c5 => k_is); (case k5 => k_is); (case a6 => k_is); (case l6 => k_is); (case c6 => k_is); (case k6 => k_is); (case a7 => k_is); (case l7 => k_is); (case c7 => k_is); (case k7 => k_is); (case a8 => k_is); (case l8 => k_is); (case c8 => k_is); (case k8 => k_is); (case a9 => k_is); (case l9 => k_is); (case c9 => k_is); (case k9 => k_is); (case a10 => k_is); (case l10 => k_is); (case c10 => k_is); (case k10 => k_is); (case a11 => k_is); (case l11 => k_is); (case c11 => k_is); (case k11 => k_is); (case a12 => k_is); (case l12 => k_is); (case c12 => k_is); (case k12 => k_is); (case a13 => k_is); (case i13 => k_is); (case l13 => k_is); (case c13 => k_is); (case k13 => k_is); (case a14 => k_is); (case i14 => k_is); (case l14 => k_is); (case c14 => k_is); (case k14 => k_is); (case a15 => k_is); (case i15 => k_is); (case l15 => k_is); (case c15 => k_is); (case k15 => k_is); (case a16 => k_is); (case i16 => k_is); (case l16 => k_is); (case c16 => k_is); (case k16 => k_is); (case a17 => k_is); (case i17 => k_is); (case l17 => k_is); (case c17 => k_is); (case k17 => k_is); (case a18 => k_is); (case i18 => k_is); (case l18 => k_is); (case c18 => k_is); (case k18 => k_is); (case a19 => k_is); (case i19 => k_is); (case l19 => k_is); (case c19 => k_is); (case k19 => k_is); (case a20 => k_is); (case l20 => k_is); (case c20 => k_is); (case k20 => k_is); (case a21 => k_is); (case l21 => k_is); (case c21 => k_is); (case k21 => k_is); (case a22 => k_is); (case l22 => k_is); (case c22 => k_is); (case k22 => k_is); (case a23 => k_is); (case l23 => k_is); (case c23 => k_is); (case k23 => k_is); (case a24 => k_is); (case l24 => k_is); (case c24 => k_is); (case k24 => k_is); (case a25 => k_is); (case l25 => k_is); (case c25 => k_is); (case k25 => k_is); (case a26 => k_is); (case l26 => k_is); (case c26 => k_is); (case k26 => k_is); (case a27 => k_is); (case l27 => k_is); (case c27 => k_is); (case k27 => k_is); (case a28 => k_is); (case l28 => k_is); (case c28 => k_is); (case k28 => k_is); (case a29 => k_is); (case l29 => k_is); (case c29 => k_is); (case k29 => k_is); (case a30 => k_is); (case l30 => k_is); (case c30 => k_is); (case k30 => k_is); (case a31 => k_is); (case l31 => k_is); (case c31 => k_is); (case k31 => k_is); (case pg0 => k_is); (case hd0 => k_is); (case po0 => k_is); (case sa0 => k_is); (case mk0 => k_is); (case kc0 => k_is); (case n0_0 => k_is); (case n0_1 => k_is); (case n0_2 => k_is); (case n0_3 => k_is); (case n0_4 => k_is); (case n0_5 => k_is); (case n0_6 => k_is); (case zb_abs => k_is); (case zb_all => k_is); (case zb_any => k_is); (case zb_int => k_is); (case zb_len => k_is); (case zb_list => k_is); (case zb_range => k_is); (case zb_set => k_is); (case zb_sorted => k_is); (case zb_tuple => k_is); (case zc_MAX_THINGS => k_is)
