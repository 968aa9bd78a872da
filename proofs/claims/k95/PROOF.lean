import PyProof.Rows.All
import Wide.All
import OpenK.AllK
import Wide.FinOn
import HandS.ForMost
import HandS.ForExc
import HandS.Walk
import HandS.SortInts
import HandS.SortKw
import HandS.Zip
import HandS.Conv
import HandS.Flow
import HandS.Style
import HandS.TupAny
import HandS.Deep
import HandS.Star
import HandS.Zip0
import KE.GoesMore
import KE.GoesZip
import KE.KRevSl
import PySem.Challenge.RW_askcraft_k95_whole_spans_in_order
set_option Elab.async false
set_option linter.all false
set_option maxRecDepth 100000
namespace DL
open PySem PySem.Spec PyProof.Rows L2
/-! ### pure data, the store, the monad -/
inductive D where
  | non | bl (b : Bool) | int (i : Int) | str (x : Str)
  /-- rls: a list that the program is handed (the script) -/
  | tup (xs : List D) | lst (xs : List D) | dct (kvs : List (D × D)) | ref (k : Nat) | rls (xs : List D)
inductive Cell where
  | lst (xs : List D) | dct (kvs : List (D × D)) | ins (c : Nat) (fs : List (Str × D))
abbrev Store := List Cell
inductive Res (α : Type) where
  | ok (a : α) (s : Store) | exc (c : Nat) (s : Store) | stuck
def M (α : Type) := Store → Res α
def M.bind' {α β : Type} (m : M α) (f : α → M β) : M β := fun s => match m s with
  | .ok a s' => f a s'
  | .exc c s' => .exc c s'
  | .stuck => .stuck
instance : Monad M where
  pure a := fun s => .ok a s
  bind := M.bind'
theorem pure_run {α : Type} (a : α) (s : Store) : (pure a : M α) s = .ok a s := rfl
theorem bind_run {α β : Type} (m : M α) (f : α → M β) (s : Store) : (m >>= f) s = match m s with
  | .ok a s' => f a s'
  | .exc c s' => .exc c s'
  | .stuck => .stuck := rfl
theorem bind_ok {α β : Type} {m : M α} {f : α → M β} {s s' : Store} {a : α} (h : m s = .ok a s') : (m >>= f) s = f a s' := by
  rw [bind_run, h]
@[simp] theorem pure_bind' {α β : Type} (a : α) (f : α → M β) : ((pure a : M α) >>= f) = f a := Eq.trans rfl rfl
@[simp] theorem bind_pure' {α : Type} (m : M α) : (m >>= fun a => pure a) = m := by
  funext s
  rw [bind_run]
  cases m s <;> rfl
@[simp] theorem bind_assoc' {α β γ : Type} (m : M α) (f : α → M β) (k : β → M γ) : ((m >>= f) >>= k) = (m >>= fun a => f a >>= k) := by
  funext s
  rw [bind_run, bind_run, bind_run]
  cases m s <;> rfl
def stuck {α : Type} : M α := fun _ => .stuck
def raise {α : Type} (c : Nat) : M α := fun s => .exc c s
@[simp] theorem stuck_bind {α β : Type} (f : α → M β) : ((stuck : M α) >>= f) = stuck := Eq.trans rfl rfl
@[simp] theorem raise_bind {α β : Type} (c : Nat) (f : α → M β) : ((raise c : M α) >>= f) = raise c := Eq.trans rfl rfl
def getC (k : Nat) : M Cell := fun s => match s[k]? with
  | some c => .ok c s
  | none => .stuck
def setC (k : Nat) (c : Cell) : M Unit := fun s => .ok () (s.set k c)
def newC (c : Cell) : M Nat := fun s => .ok s.length (s ++ [c])
/-- what holds of a result -/
def Res.Post {α : Type} (r : Res α) (ok : α → Store → Prop) (ex : Nat → Store → Prop) : Prop := match r with
  | .ok a s => ok a s
  | .exc c s => ex c s
  | .stuck => False
theorem Res.Post.imp {α : Type} {r : Res α} {ok ok' : α → Store → Prop} {ex ex' : Nat → Store → Prop} (h : r.Post ok ex) (h1 : ∀ a s, ok a s → ok' a s) (h2 : ∀ c s, ex c s → ex' c s) : r.Post ok' ex' := by
  cases r with
  | ok a s => exact h1 a s h
  | exc c s => exact h2 c s h
  | stuck => exact h
theorem post_bind {α β : Type} {m : M α} {f : α → M β} {s : Store} {ok : β → Store → Prop} {ex : Nat → Store → Prop} (h : ((m >>= f) s).Post ok ex) : (m s).Post (fun a s' => (f a s').Post ok ex) ex := by
  rw [bind_run] at h
  cases e : m s with
  | ok a s' => rw [e] at h; exact h
  | exc c s' => rw [e] at h; exact h
  | stuck => rw [e] at h; exact h
def kD : Key → D
  | .inl i => .int i
  | .inr x => .str x
/-! ### values stand for data: G is the part of the heap that is never written any more, am the addresses of the store's cells -/
section
variable (K : PySem.W.Frag) (G : Hp) (am : List Addr)
mutual
inductive Rp : V → D → Prop
  | non : Rp .non .non
  | bl (b : Bool) : Rp (.bl b) (.bl b)
  | int (i : Int) : Rp (.int i) (.int i)
  | str (x : Str) : Rp (.str x) (.str x)
  | tup {a : Addr} {xs : List V} {ds : List D} : SqT K G a xs → Rps xs ds → Rp (.ref a) (.tup ds)
  | lst {a : Addr} {xs : List V} {ds : List D} : G a = some (.lst xs) → Rps xs ds → Rp (.ref a) (.lst ds)
  | rls {a : Addr} {xs : List V} {ds : List D} : SqL K G a xs → Rps xs ds → Rp (.ref a) (.rls ds)
  | dK {a : Addr} {kvs : List (Key × V)} {es : List (D × D)} : G a = some (.dK kvs) → RpK kvs es → Rp (.ref a) (.dct es)
  | dT {a : Addr} {kvs : List (List Key × V)} {es : List (D × D)} : G a = some (.dT kvs) → RpT kvs es → Rp (.ref a) (.dct es)
  | ref {a : Addr} {k : Nat} : am[k]? = some a → Rp (.ref a) (.ref k)
inductive Rps : List V → List D → Prop
  | nil : Rps [] []
  | cons {v : V} {vs : List V} {d : D} {ds : List D} : Rp v d → Rps vs ds → Rps (v :: vs) (d :: ds)
inductive RpK : List (Key × V) → List (D × D) → Prop
  | nil : RpK [] []
  | cons {k : Key} {v : V} {d : D} {kvs : List (Key × V)} {es : List (D × D)} : Rp v d → RpK kvs es → RpK ((k, v) :: kvs) ((kD k, d) :: es)
inductive RpT : List (List Key × V) → List (D × D) → Prop
  | nil : RpT [] []
  | cons {k : List Key} {v : V} {d : D} {kvs : List (List Key × V)} {es : List (D × D)} : Rp v d → RpT kvs es → RpT ((k, v) :: kvs) ((.tup (k.map kD), d) :: es)
end
end
section
variable {K : PySem.W.Frag} {G G' : Hp} {am am' : List Addr}
theorem rd_mono (h : ∀ a o, G a = some o → G' a = some o) {a : Addr} {u : HO} (r : Rd G a u) : Rd G' a u := by
  rcases r with r | ⟨o, r⟩
  · exact .inl (h _ _ r)
  · exact .inr ⟨o, h _ _ r⟩
theorem sqL_mono (h : ∀ a o, G a = some o → G' a = some o) {a : Addr} {xs : List V} (r : SqL K G a xs) : SqL K G' a xs := by
  rcases r with r | r
  · exact .inl (rd_mono h r)
  · exact .inr r
theorem sqT_mono (h : ∀ a o, G a = some o → G' a = some o) {a : Addr} {xs : List V} (r : SqT K G a xs) : SqT K G' a xs := by
  rcases r with r | r
  · exact .inl (rd_mono h r)
  · exact .inr r
theorem pre_get (h : am <+: am') {k : Nat} {a : Addr} (e : am[k]? = some a) : am'[k]? = some a := by
  obtain ⟨t, rfl⟩ := h
  have hk : k < am.length := (List.getElem?_eq_some_iff.mp e).1
  rw [List.getElem?_append_left hk]
  exact e
mutual
theorem Rp.mono (h : ∀ a o, G a = some o → G' a = some o) (ha : am <+: am') : ∀ {v : V} {d : D}, Rp K G am v d → Rp K G' am' v d
  | _, _, .non => .non
  | _, _, .bl b => .bl b
  | _, _, .int i => .int i
  | _, _, .str x => .str x
  | _, _, .tup s r => .tup (sqT_mono h s) (Rps.mono h ha r)
  | _, _, .lst s r => .lst (h _ _ s) (Rps.mono h ha r)
  | _, _, .rls s r => .rls (sqL_mono h s) (Rps.mono h ha r)
  | _, _, .dK s r => .dK (h _ _ s) (RpK.mono h ha r)
  | _, _, .dT s r => .dT (h _ _ s) (RpT.mono h ha r)
  | _, _, .ref e => .ref (pre_get ha e)
theorem Rps.mono (h : ∀ a o, G a = some o → G' a = some o) (ha : am <+: am') : ∀ {vs : List V} {ds : List D}, Rps K G am vs ds → Rps K G' am' vs ds
  | _, _, .nil => .nil
  | _, _, .cons r t => .cons (Rp.mono h ha r) (Rps.mono h ha t)
theorem RpK.mono (h : ∀ a o, G a = some o → G' a = some o) (ha : am <+: am') : ∀ {vs : List (Key × V)} {ds : List (D × D)}, RpK K G am vs ds → RpK K G' am' vs ds
  | _, _, .nil => .nil
  | _, _, .cons r t => .cons (Rp.mono h ha r) (RpK.mono h ha t)
theorem RpT.mono (h : ∀ a o, G a = some o → G' a = some o) (ha : am <+: am') : ∀ {vs : List (List Key × V)} {ds : List (D × D)}, RpT K G am vs ds → RpT K G' am' vs ds
  | _, _, .nil => .nil
  | _, _, .cons r t => .cons (Rp.mono h ha r) (RpT.mono h ha t)
end
theorem Rps.length : ∀ {vs : List V} {ds : List D}, Rps K G am vs ds → vs.length = ds.length
  | _, _, .nil => rfl
  | _, _, .cons _ t => by rw [List.length_cons, List.length_cons, Rps.length t]
theorem Rps.get : ∀ {vs : List V} {ds : List D} {i : Nat} {d : D}, Rps K G am vs ds → ds[i]? = some d → ∃ v, vs[i]? = some v ∧ Rp K G am v d
  | _, _, i, d, .nil, e => by simp at e
  | _, _, 0, d, .cons r _, e => by
    simp at e; subst e; exact ⟨_, rfl, r⟩
  | _, _, i + 1, d, .cons _ t, e => by
    obtain ⟨v, h1, h2⟩ := Rps.get (i := i) (d := d) t (by simpa using e)
    exact ⟨v, by simpa using h1, h2⟩
theorem Rps.getV : ∀ {vs : List V} {ds : List D} {i : Nat} {v : V}, Rps K G am vs ds → vs[i]? = some v → ∃ d, ds[i]? = some d ∧ Rp K G am v d
  | _, _, i, d, .nil, e => by simp at e
  | _, _, 0, d, .cons r _, e => by
    simp at e; subst e; exact ⟨_, rfl, r⟩
  | _, _, i + 1, d, .cons _ t, e => by
    obtain ⟨v, h1, h2⟩ := Rps.getV (i := i) (v := d) t (by simpa using e)
    exact ⟨v, by simpa using h1, h2⟩
theorem Rps.append : ∀ {vs ws : List V} {ds es : List D}, Rps K G am vs ds → Rps K G am ws es → Rps K G am (vs ++ ws) (ds ++ es)
  | _, _, _, _, .nil, s => s
  | _, _, _, _, .cons r t, s => .cons r (Rps.append t s)
theorem Rps.take : ∀ {vs : List V} {ds : List D} (n : Nat), Rps K G am vs ds → Rps K G am (vs.take n) (ds.take n)
  | _, _, 0, _ => .nil
  | _, _, _ + 1, .nil => .nil
  | _, _, n + 1, .cons r t => .cons r (Rps.take n t)
theorem Rps.drop : ∀ {vs : List V} {ds : List D} (n : Nat), Rps K G am vs ds → Rps K G am (vs.drop n) (ds.drop n)
  | _, _, 0, r => r
  | _, _, _ + 1, .nil => .nil
  | _, _, n + 1, .cons _ t => Rps.drop n t
theorem Rps.reverse : ∀ {vs : List V} {ds : List D}, Rps K G am vs ds → Rps K G am vs.reverse ds.reverse
  | _, _, .nil => .nil
  | _, _, .cons r t => by
    rw [List.reverse_cons, List.reverse_cons]
    exact (Rps.reverse t).append (.cons r .nil)
theorem Rps.set {v : V} {d : D} (r : Rp K G am v d) : ∀ {vs : List V} {ds : List D} (i : Nat), Rps K G am vs ds → Rps K G am (vs.set i v) (ds.set i d)
  | _, _, _, .nil => .nil
  | _, _, 0, .cons _ t => .cons r t
  | _, _, i + 1, .cons q t => .cons q (Rps.set r i t)
theorem Rps.eraseIdx : ∀ {vs : List V} {ds : List D} (i : Nat), Rps K G am vs ds → Rps K G am (vs.eraseIdx i) (ds.eraseIdx i)
  | _, _, _, .nil => .nil
  | _, _, 0, .cons _ t => t
  | _, _, i + 1, .cons q t => .cons q (Rps.eraseIdx i t)
/-- dints -/
def dints : List D → Option (List Int)
  | [] => some []
  | .int i :: r => (dints r).map (i :: ·)
  | _ :: _ => none
def dbools : List D → Option (List Bool)
  | [] => some []
  | .bl i :: r => (dbools r).map (i :: ·)
  | _ :: _ => none
theorem ints_map (ns : List Int) : dints (ns.map D.int) = some ns := by
  induction ns with
  | nil => rfl
  | cons n r ih => rw [List.map_cons, dints, ih]; rfl
theorem bools_map (ns : List Bool) : dbools (ns.map D.bl) = some ns := by
  induction ns with
  | nil => rfl
  | cons n r ih => rw [List.map_cons, dbools, ih]; rfl
theorem ints_eq : ∀ {ds : List D} {ns : List Int}, dints ds = some ns → ds = ns.map D.int
  | [], ns, h => by simp [dints] at h; subst h; rfl
  | .int i :: r, ns, h => by
    simp only [dints] at h
    cases e : dints r with
    | none => rw [e] at h; cases h
    | some q => rw [e] at h; simp at h; subst h; rw [List.map_cons, ← ints_eq e]
  | .non :: _, _, h => by simp [dints] at h
  | .bl _ :: _, _, h => by simp [dints] at h
  | .str _ :: _, _, h => by simp [dints] at h
  | .tup _ :: _, _, h => by simp [dints] at h
  | .lst _ :: _, _, h => by simp [dints] at h
  | .dct _ :: _, _, h => by simp [dints] at h
  | .ref _ :: _, _, h => by simp [dints] at h
  | .rls _ :: _, _, h => by simp [dints] at h
theorem bools_eq : ∀ {ds : List D} {ns : List Bool}, dbools ds = some ns → ds = ns.map D.bl
  | [], ns, h => by simp [dbools] at h; subst h; rfl
  | .bl i :: r, ns, h => by
    simp only [dbools] at h
    cases e : dbools r with
    | none => rw [e] at h; cases h
    | some q => rw [e] at h; simp at h; subst h; rw [List.map_cons, ← bools_eq e]
  | .non :: _, _, h => by simp [dbools] at h
  | .int _ :: _, _, h => by simp [dbools] at h
  | .str _ :: _, _, h => by simp [dbools] at h
  | .tup _ :: _, _, h => by simp [dbools] at h
  | .lst _ :: _, _, h => by simp [dbools] at h
  | .dct _ :: _, _, h => by simp [dbools] at h
  | .ref _ :: _, _, h => by simp [dbools] at h
  | .rls _ :: _, _, h => by simp [dbools] at h
theorem Rps.toInts : ∀ {vs : List V} {ns : List Int}, Rps K G am vs (ns.map D.int) → vs = ns.map V.int
  | _, [], .nil => rfl
  | _, _ :: r, .cons (.int _) t => by rw [List.map_cons, ← Rps.toInts t]
theorem Rps.ofInts : ∀ (ns : List Int), Rps K G am (ns.map V.int) (ns.map D.int)
  | [] => .nil
  | n :: r => .cons (.int n) (Rps.ofInts r)
theorem Rps.toBools : ∀ {vs : List V} {ns : List Bool}, Rps K G am vs (ns.map D.bl) → vs = ns.map V.bl
  | _, [], .nil => rfl
  | _, _ :: r, .cons (.bl _) t => by rw [List.map_cons, ← Rps.toBools t]
end
/-! ### the ghost state -/
structure Gs where
  G : Hp
  am : List Addr
  st : Store
/-- what the text gives once for all -/
structure Pg where
  P : Program
  w : World
  K : PySem.W.Frag
  mg : Str → Option Value
  base : Heap
  cA : Nat → Addr
abbrev Pg.Rp (p : Pg) (g : Gs) : V → D → Prop := DL.Rp p.K g.G g.am
abbrev Pg.Rps (p : Pg) (g : Gs) : List V → List D → Prop := DL.Rps p.K g.G g.am
/-- a container whose own object may be written -/
def Own (p : Pg) (g : Gs) (H : Hp) (a : Addr) : D → Prop
  | .lst ds => ∃ xs, H a = some (.lst xs) ∧ p.Rps g xs ds
  | .dct es => (∃ kvs, H a = some (.dK kvs) ∧ RpK p.K g.G g.am kvs es) ∨ (∃ kvs, H a = some (.dT kvs) ∧ RpT p.K g.G g.am kvs es)
  | _ => False
def RpF (p : Pg) (g : Gs) : List (Str × V) → List (Str × D) → Prop := Paired fun q r => q.1 = r.1 ∧ p.Rp g q.2 r.2
def CellR (p : Pg) (g : Gs) (H : Hp) (a : Addr) : Cell → Prop
  | .lst ds => Own p g H a (.lst ds)
  | .dct es => Own p g H a (.dct es)
  | .ins c fs => ∃ dx fvs, H a = some (.ins (p.cA c) dx fvs) ∧ H dx = some (.own a) ∧ RpF p g fvs fs
structure Wf (p : Pg) (g : Gs) (H : Hp) : Prop where
  sub : ∀ a o, g.G a = some o → H a = some o
  amG : ∀ a, a ∈ g.am → g.G a = none
  nd : g.am.Nodup
  len : g.am.length = g.st.length
  cell : ∀ (k : Nat) (a : Addr) (c : Cell), g.am[k]? = some a → g.st[k]? = some c → CellR p g H a c
structure Stp (p : Pg) (g : Gs) (H : Hp) (g' : Gs) (H' : Hp) : Prop where
  gle : ∀ a o, g.G a = some o → g'.G a = some o
  aml : g.am <+: g'.am
  keep : ∀ a o, H a = some o → a ∉ g.am → H' a = some o
  gnew : ∀ a o, g'.G a = some o → g.G a = some o ∨ H a = none ∨ ∃ xs, H a = some (.tup xs)
  amn : ∀ a, a ∈ g'.am → a ∈ g.am ∨ H a = none
  wf : Wf p g' H'
section
variable {p : Pg} {g g' g'' : Gs} {H H' H'' : Hp}
theorem Own.at {a : Addr} {d : D} (h : Own p g H a d) : ∃ o, H a = some o ∧ (∀ xs, o ≠ .tup xs) ∧ Mut (some o) ∧ ∀ y, o ≠ .own y := by
  cases d with
  | lst ds => obtain ⟨xs, e, _⟩ := h; exact ⟨_, e, (fun _ z => by cases z), True.intro, fun _ z => by cases z⟩
  | dct es =>
    rcases h with ⟨kvs, e, _⟩ | ⟨kvs, e, _⟩
    · exact ⟨_, e, (fun _ z => by cases z), True.intro, fun _ z => by cases z⟩
    · exact ⟨_, e, (fun _ z => by cases z), True.intro, fun _ z => by cases z⟩
  | _ => exact h.elim
theorem Own.mono {a : Addr} {d : D} (h : Own p g H a d) (hg : ∀ a o, g.G a = some o → g'.G a = some o) (ha : g.am <+: g'.am) (e : H' a = H a) : Own p g' H' a d := by
  cases d with
  | lst ds => obtain ⟨xs, e1, r⟩ := h; exact ⟨xs, e.trans e1, r.mono hg ha⟩
  | dct es =>
    rcases h with ⟨kvs, e1, r⟩ | ⟨kvs, e1, r⟩
    · exact .inl ⟨kvs, e.trans e1, r.mono hg ha⟩
    · exact .inr ⟨kvs, e.trans e1, r.mono hg ha⟩
  | _ => exact h.elim
theorem RpF.mono (hg : ∀ a o, g.G a = some o → g'.G a = some o) (ha : g.am <+: g'.am) {xs : List (Str × V)} {ys : List (Str × D)} (h : RpF p g xs ys) : RpF p g' xs ys :=
  L2.Paired.mapP h fun _ _ q => ⟨q.1, q.2.mono hg ha⟩
theorem CellR.at {a : Addr} {c : Cell} (h : CellR p g H a c) : ∃ o, H a = some o ∧ (∀ xs, o ≠ .tup xs) ∧ Mut (some o) ∧ ∀ y, o ≠ .own y := by
  cases c with
  | lst ds => exact Own.at (d := .lst ds) h
  | dct es => exact Own.at (d := .dct es) h
  | ins c fs => obtain ⟨dx, fvs, e, _, _⟩ := h; exact ⟨_, e, (fun _ z => by cases z), True.intro, fun _ z => by cases z⟩
theorem CellR.mono {a : Addr} {c : Cell} (h : CellR p g H a c) (hg : ∀ a o, g.G a = some o → g'.G a = some o) (ha : g.am <+: g'.am) (e : H' a = H a) (e2 : ∀ dx, H dx = some (.own a) → H' dx = some (.own a)) : CellR p g' H' a c := by
  cases c with
  | lst ds => exact Own.mono (d := .lst ds) h hg ha e
  | dct es => exact Own.mono (d := .dct es) h hg ha e
  | ins c fs => obtain ⟨dx, fvs, e1, e3, r⟩ := h; exact ⟨dx, fvs, e.trans e1, e2 _ e3, r.mono hg ha⟩
theorem Wf.tracked (w : Wf p g H) {a : Addr} (ha : a ∈ g.am) : ∃ o, H a = some o ∧ (∀ xs, o ≠ .tup xs) ∧ Mut (some o) ∧ ∀ y, o ≠ .own y := by
  obtain ⟨k, hk, e⟩ := List.getElem_of_mem ha
  have hk2 : k < g.st.length := by rw [← w.len]; exact hk
  exact (w.cell k a g.st[k] (by rw [List.getElem?_eq_getElem hk, e]) (List.getElem?_eq_getElem hk2)).at
theorem Wf.freeG (w : Wf p g H) {a : Addr} (n : H a = none) : g.G a = none := by
  cases q : g.G a with
  | none => rfl
  | some u => rw [w.sub a u q] at n; cases n
theorem Wf.freeA (w : Wf p g H) {a : Addr} (n : H a = none) : a ∉ g.am := fun h => by
  obtain ⟨u, e, _⟩ := w.tracked h
  rw [n] at e; cases e
theorem Stp.refl (w : Wf p g H) : Stp p g H g H :=
  ⟨fun _ _ e => e, List.prefix_refl _, fun _ _ e _ => e, fun _ _ e => .inl e, fun _ h => .inl h, w⟩
theorem Stp.none_of (s : Stp p g H g' H') (w : Wf p g H) {a : Addr} (e : H' a = none) : H a = none := by
  cases q : H a with
  | none => rfl
  | some o =>
    by_cases ha : a ∈ g.am
    · obtain ⟨o', e', _⟩ := s.wf.tracked (s.aml.subset ha)
      rw [e] at e'; cases e'
    · have := s.keep a o q ha
      rw [e] at this; cases this
theorem Stp.trans (w : Wf p g H) (s : Stp p g H g' H') (t : Stp p g' H' g'' H'') : Stp p g H g'' H'' := by
  have nam : ∀ a o, H a = some o → a ∉ g.am → a ∉ g'.am := fun a o e n h => by
    rcases s.amn a h with z | z
    · exact n z
    · rw [e] at z; cases z
  refine ⟨fun a o e => t.gle a o (s.gle a o e), s.aml.trans t.aml, fun a o e n => t.keep a o (s.keep a o e n) (nam a o e n), fun a o e => ?_, fun a h => ?_, t.wf⟩
  · rcases t.gnew a o e with z | z | ⟨xs, z⟩
    · exact s.gnew a o z
    · exact .inr (.inl (s.none_of w z))
    · cases q : H a with
      | none => exact .inr (.inl rfl)
      | some u =>
        by_cases ha : a ∈ g.am
        · obtain ⟨o', e', n, _⟩ := s.wf.tracked (s.aml.subset ha)
          rw [z] at e'; cases e'; exact absurd rfl (n xs)
        · have := s.keep a u q ha
          rw [z] at this; cases this
          exact .inr (.inr ⟨xs, rfl⟩)
  · rcases t.amn a h with z | z
    · exact s.amn a z
    · exact .inr (s.none_of w z)
/-- a new object is laid, and held by nobody yet -/
theorem Stp.laid (w : Wf p g H) {a : Addr} {o : HO} (n : H a = none) : Stp p g H g (upd H a o) := by
  have ne : ∀ b u, H b = some u → b ≠ a := fun b u e => ne_of_none e n
  refine ⟨fun _ _ e => e, List.prefix_refl _, fun b u e _ => by rw [upd_ne (ne b u e)]; exact e, fun _ _ e => .inl e, fun _ h => .inl h,
    ⟨fun b u e => by rw [upd_ne (ne b u (w.sub b u e))]; exact w.sub b u e, w.amG, w.nd, w.len, fun k b c e1 e2 => ?_⟩⟩
  have h := w.cell k b c e1 e2
  obtain ⟨u, e, _⟩ := h.at
  exact h.mono (fun _ _ e => e) (List.prefix_refl _) (upd_ne (ne b u e)) fun dx e => by rw [upd_ne (ne dx _ e)]; exact e
/-- what nobody holds is frozen -/
theorem Stp.freeze (w : Wf p g H) {a : Addr} {o : HO} (e : H a = some o) (hG : g.G a = none) (ha : a ∉ g.am) : Wf p { g with G := upd g.G a o } H ∧ (∀ b u, g.G b = some u → upd g.G a o b = some u) := by
  have le : ∀ b u, g.G b = some u → upd g.G a o b = some u := fun b u e => by rw [upd_ne (ne_of_none e hG)]; exact e
  refine ⟨⟨fun b u q => ?_, fun b hb => ?_, w.nd, w.len, fun k b c e1 e2 => ?_⟩, le⟩
  · have q : upd g.G a o b = some u := q
    by_cases z : b = a
    · subst z; rw [upd_same] at q; cases q; exact e
    · rw [upd_ne z] at q; exact w.sub b u q
  · show upd g.G a o b = none
    rw [upd_ne (show b ≠ a from fun z => ha (by rw [← z]; exact hb))]
    exact w.amG b hb
  · exact (w.cell k b c e1 e2).mono le (List.prefix_refl _) rfl fun _ e => e
/-- a new object that is never written: laid and frozen -/
theorem Stp.new (w : Wf p g H) {a : Addr} {o : HO} (n : H a = none) : Stp p g H { g with G := upd g.G a o } (upd H a o) := by
  have gn : g.G a = none := by
    cases q : g.G a with
    | none => rfl
    | some u => rw [w.sub a u q] at n; cases n
  have na : a ∉ g.am := fun h => by
    obtain ⟨u, e, _⟩ := w.tracked h
    rw [n] at e; cases e
  have s := Stp.laid (o := o) w n
  obtain ⟨wf', le⟩ := Stp.freeze s.wf (a := a) (o := o) upd_same gn na
  refine ⟨le, List.prefix_refl _, s.keep, fun b u e => ?_, fun _ h => .inl h, wf'⟩
  have e : upd g.G a o b = some u := e
  by_cases z : b = a
  · subst z; exact .inr (.inl n)
  · rw [upd_ne z] at e; exact .inl e
end
/-! ### what stands in a slot -/
inductive Sl where
  /-- unknown -/
  | un
  /-- a value that is never written -/
  | sh (d : D)
  /-- a list or dict that this name alone holds -/
  | ow (d : D)
  /-- a list or dict that a caller lends: read, not kept -/
  | bo (d : D)
structure Fm where
  g : Gs
  H : Hp
/-- a value that is read now -/
def TopR (p : Pg) (g : Gs) (H : Hp) (v : V) (d : D) : Prop := p.Rp g v d ∨ ∃ a, v = .ref a ∧ a ∉ g.am ∧ Own p g H a d
/-- a fresh container -/
def NewR (p : Pg) (H : Hp) (g : Gs) (H' : Hp) (v : V) (d : D) : Prop := ∃ a : Addr, v = .ref a ∧ Own p g H' a d ∧ g.G a = none ∧ a ∉ g.am ∧ H a = none
def SlV (p : Pg) (F : Fm) (g : Gs) (H : Hp) : Option V → Sl → Prop
  | _, .un => True
  | some v, .sh d => p.Rp g v d
  | some v, .ow d => ∃ a, v = .ref a ∧ Own p g H a d ∧ g.G a = none ∧ a ∉ g.am ∧ F.H a = none
  | some v, .bo d => p.Rp g v d ∨ ∃ a, v = .ref a ∧ a ∉ g.am ∧ Own p g H a d ∧ ∃ o, F.H a = some o
  | none, _ => False
abbrev Ev := List Sl
structure ER (p : Pg) (F : Fm) (ρ : Ev) (σ : L2.St) (g : Gs) (H : Hp) : Prop where
  len : ρ.length = σ.length
  sl : ∀ (i : Nat) (s : Sl), ρ[i]? = some s → SlV p F g H (σ[i]?.join) s
  dist : ∀ (i j : Nat) (d e : D), ρ[i]? = some (.ow d) → ρ[j]? = some (.ow e) → σ[i]? = σ[j]? → i = j
  fr : Stp p F.g F.H g H
  fw : Wf p F.g F.H
section
variable {p : Pg} {F : Fm} {ρ ρ' : Ev} {σ σ' : L2.St} {g g' : Gs} {H H' : Hp}
theorem ER.wf (E : ER p F ρ σ g H) : Wf p g H := E.fr.wf
theorem TopR.step {v : V} {d : D} (w : Wf p g H) (h : TopR p g H v d) (s : Stp p g H g' H') : TopR p g' H' v d := by
  rcases h with h | ⟨a, e, n, o⟩
  · exact .inl (h.mono s.gle s.aml)
  · obtain ⟨u, e1, _⟩ := o.at
    refine .inr ⟨a, e, fun z => ?_, o.mono s.gle s.aml ((s.keep a u e1 n).trans e1.symm)⟩
    rcases s.amn a z with z | z
    · exact n z
    · rw [e1] at z; cases z
theorem ER.step (E : ER p F ρ σ g H) (s : Stp p g H g' H') : ER p F ρ σ g' H' := by
  refine ⟨E.len, fun i q hq => ?_, E.dist, E.fr.trans E.fw s, E.fw⟩
  have h := E.sl i q hq
  cases q with
  | un => cases σ[i]?.join <;> exact True.intro
  | sh d =>
    cases e : σ[i]?.join with
    | none => rw [e] at h; exact h.elim
    | some v => rw [e] at h; exact Rp.mono s.gle s.aml h
  | ow d =>
    cases e : σ[i]?.join with
    | none => rw [e] at h; exact h.elim
    | some v =>
      rw [e] at h
      obtain ⟨a, rfl, o, hG, ha, hF⟩ := h
      obtain ⟨u, e1, nt, _⟩ := o.at
      refine ⟨a, rfl, o.mono s.gle s.aml ((s.keep a u e1 ha).trans e1.symm), ?_, fun z => ?_, hF⟩
      · cases q : g'.G a with
        | none => rfl
        | some x =>
          rcases s.gnew a x q with z | z | ⟨xs, z⟩
          · rw [hG] at z; cases z
          · rw [e1] at z; cases z
          · rw [e1] at z; cases z; exact absurd rfl (nt xs)
      · rcases s.amn a z with z | z
        · exact ha z
        · rw [e1] at z; cases z
  | bo d =>
    cases e : σ[i]?.join with
    | none => rw [e] at h; exact h.elim
    | some v =>
      rw [e] at h
      rcases h with h | ⟨a, rfl, n, o, hF⟩
      · exact .inl (Rp.mono s.gle s.aml h)
      · obtain ⟨u, e1, _⟩ := o.at
        refine .inr ⟨a, rfl, fun z => ?_, o.mono s.gle s.aml ((s.keep a u e1 n).trans e1.symm), hF⟩
        rcases s.amn a z with z | z
        · exact n z
        · rw [e1] at z; cases z
/-- forgetting -/
inductive Le : Ev → Ev → Prop
  | nil : Le [] []
  | un {s : Sl} {r t : Ev} : Le r t → Le (.un :: r) (s :: t)
  | eq {s : Sl} {r t : Ev} : Le r t → Le (s :: r) (s :: t)
theorem Le.refl : ∀ ρ : Ev, Le ρ ρ
  | [] => .nil
  | _ :: r => .eq (Le.refl r)
theorem Le.length (h : Le ρ' ρ) : ρ'.length = ρ.length := by
  induction h with
  | nil => rfl
  | un _ ih => rw [List.length_cons, List.length_cons, ih]
  | eq _ ih => rw [List.length_cons, List.length_cons, ih]
theorem Le.at (h : Le ρ' ρ) : ∀ (i : Nat) (s : Sl), ρ'[i]? = some s → s = .un ∨ ρ[i]? = some s := by
  induction h with
  | nil => intro i s e; simp at e
  | un _ ih =>
    intro i s e
    cases i with
    | zero => simp at e; exact .inl e.symm
    | succ j => exact ih j s (by simpa using e)
  | eq _ ih =>
    intro i s e
    cases i with
    | zero => simp at e; subst e; exact .inr rfl
    | succ j => exact ih j s (by simpa using e)
theorem ER.weak (E : ER p F ρ σ g H) (l : Le ρ' ρ) : ER p F ρ' σ g H := by
  refine ⟨l.length.trans E.len, fun i s e => ?_, fun i j d e h1 h2 h3 => ?_, E.fr, E.fw⟩
  · rcases l.at i s e with rfl | h
    · cases σ[i]?.join <;> exact True.intro
    · exact E.sl i s h
  · rcases l.at i _ h1 with z | z
    · cases z
    · rcases l.at j _ h2 with y | y
      · cases y
      · exact E.dist i j d e z y h3
/-- a slot is stored with a value that is never written -/
theorem ER.set (E : ER p F ρ σ g H) {i : Nat} {v : V} {d : D} (r : p.Rp g v d) : ER p F (ρ.set i (.sh d)) (σ.set i (some v)) g H := by
  refine ⟨by rw [List.length_set, List.length_set, E.len], fun j s e => ?_, fun a b d1 e1 h1 h2 h3 => ?_, E.fr, E.fw⟩
  · by_cases z : i = j
    · subst z
      have hl : i < ρ.length := by
        have := (List.getElem?_eq_some_iff.mp e).1
        rwa [List.length_set] at this
      rw [List.getElem?_set_self hl] at e
      cases e
      rw [List.getElem?_set_self (by rw [← E.len]; exact hl)]
      exact r
    · rw [List.getElem?_set_ne z] at e
      rw [List.getElem?_set_ne z]
      exact E.sl j s e
  · have ne : ∀ {c : Nat} {x : D}, (ρ.set i (.sh d))[c]? = some (.ow x) → i ≠ c ∧ ρ[c]? = some (.ow x) := fun {c x} h => by
      by_cases z : i = c
      · subst z
        have hl : i < ρ.length := by
          have := (List.getElem?_eq_some_iff.mp h).1
          rwa [List.length_set] at this
        rw [List.getElem?_set_self hl] at h; cases h
      · rw [List.getElem?_set_ne z] at h; exact ⟨z, h⟩
    obtain ⟨n1, h1⟩ := ne h1
    obtain ⟨n2, h2⟩ := ne h2
    rw [List.getElem?_set_ne n1, List.getElem?_set_ne n2] at h3
    exact E.dist a b d1 e1 h1 h2 h3
theorem Own.addr_ne {a b : Addr} {d : D} (h : Own p g H a d) (n : H b = none) : a ≠ b := by
  obtain ⟨o, e, _⟩ := h.at
  exact ne_of_none e n
/-- a slot is stored with a fresh container; g0 H0 the state ahead of the making -/
theorem ER.setOwn {g0 : Gs} {H0 : Hp} (E0 : ER p F ρ σ g0 H0) (s : Stp p g0 H0 g H) {i : Nat} {v : V} {d : D} (r : NewR p H0 g H v d) : ER p F (ρ.set i (.ow d)) (σ.set i (some v)) g H := by
  have E := E0.step s
  obtain ⟨a, rfl, o, hG, ha, hn⟩ := r
  have hF : F.H a = none := E0.fr.none_of E0.fw hn
  refine ⟨by rw [List.length_set, List.length_set, E.len], fun j q e => ?_, fun x y d1 e1 h1 h2 h3 => ?_, E.fr, E.fw⟩
  · by_cases z : i = j
    · subst z
      have hl : i < ρ.length := by
        have := (List.getElem?_eq_some_iff.mp e).1
        rwa [List.length_set] at this
      rw [List.getElem?_set_self hl] at e
      cases e
      rw [List.getElem?_set_self (by rw [← E.len]; exact hl)]
      exact ⟨a, rfl, o, hG, ha, hF⟩
    · rw [List.getElem?_set_ne z] at e
      rw [List.getElem?_set_ne z]
      exact E.sl j q e
  · -- other owned slots hold addresses that stood ahead
    have old : ∀ {c : Nat} {x : D}, i ≠ c → (ρ.set i (.ow d))[c]? = some (.ow x) → (σ.set i (some (.ref a)))[c]? = some (some (.ref a)) → False := fun {c x} n h q => by
      rw [List.getElem?_set_ne n] at h q
      have z := E0.sl c _ h
      rw [q] at z
      obtain ⟨b, eb, ob, _⟩ := z
      cases eb
      exact ob.addr_ne hn rfl
    have self : i < ρ.length → (σ.set i (some (.ref a)))[i]? = some (some (V.ref a)) := fun hl => List.getElem?_set_self (by rw [← E.len]; exact hl)
    by_cases zx : i = x
    · by_cases zy : i = y
      · exact zx.symm.trans zy
      · subst zx
        have hl : i < ρ.length := by
          have := (List.getElem?_eq_some_iff.mp h1).1
          rwa [List.length_set] at this
        exact (old zy h2 (h3.symm.trans (self hl))).elim
    · by_cases zy : i = y
      · subst zy
        have hl : i < ρ.length := by
          have := (List.getElem?_eq_some_iff.mp h2).1
          rwa [List.length_set] at this
        exact (old zx h1 (h3.trans (self hl))).elim
      · rw [List.getElem?_set_ne zx] at h1 h3
        rw [List.getElem?_set_ne zy] at h2 h3
        exact E.dist x y d1 e1 h1 h2 h3
end
end DL
namespace DL
open PySem PySem.Spec PyProof.Rows L2
/-! ### contexts: what the text gives of a def (Sta), what a run gives (Dyn) -/
structure Sta where
  pg : Pg
  N : List Str
  sc : Scope
  fn : Str → Bool
  lv : Nat
structure Dyn where
  A : Around
  s0 : Shared
  H0 : Hp
  env : Env
  outer : List Env
  stack : List Env
  ex : List Addr
  pn : List (Addr × Obj)
  xe : Value → Shared → Prop
  W : Value → Option Addr → Hp → Prop
def Sta.cx (S : Sta) (Y : Dyn) : Cx where
  prog := S.pg.P
  w := S.pg.w
  K := S.pg.K
  mg := S.pg.mg
  base := S.pg.base
  A := Y.A
  N := S.N
  s_0 := Y.s0
  H_0 := Y.H0
  env := { Y.env with scope := S.sc }
  outer := Y.outer
  stack := Y.stack
  ex := Y.ex
  fn := S.fn
  calm := true
  pn := Y.pn
  xe := Y.xe
structure OkY (S : Sta) (Y : Dyn) : Prop where
  room : Room S.lv Y.A
  pass : PassesOwn (model S.pg.P S.pg.w) Y.A (S.cx Y).env Y.xe
  takes : Takes (S.cx Y) fun c d _ H => Y.W c d H
theorem _root_.L2.PE.pre {X : Cx} {e : Expr} {t t' : TE} (h : PE X e t) (k : ∀ σ H Q, t' σ H Q → t σ H Q) : PE X e t' :=
  ⟨fun pins s σ H Q I q => h.run pins s σ H Q I (k σ H Q q)⟩
theorem _root_.L2.PT.pre {X : Cx} {e : Expr} {t t' : TT} (h : PT X e t) (k : ∀ σ H Q, t' σ H Q → t σ H Q) : PT X e t' :=
  ⟨fun pins s σ H Q I q => h.run pins s σ H Q I (k σ H Q q)⟩
theorem _root_.L2.PW.pre {X : Cx} {e : Expr} {t t' : TT} (h : PW X e t) (k : ∀ σ H Q, t' σ H Q → t σ H Q) : PW X e t' :=
  ⟨fun wh pins s σ H Q I q => h.run wh pins s σ H Q I (k σ H Q q)⟩
theorem _root_.L2.PA.pre {X : Cx} {e : List Expr} {t t' : TA} (h : PA X e t) (k : ∀ σ H Q, t' σ H Q → t σ H Q) : PA X e t' :=
  ⟨fun pos pins s σ H Q I q => h.run pos pins s σ H Q I (k σ H Q q)⟩
theorem _root_.L2.PS.pre {X : Cx} {e : Stmt} {t t' : TS} (h : PS X e t) (k : ∀ D σ H, t' D σ H → t D σ H) : PS X e t' :=
  ⟨fun pins s σ H D I q => h.run pins s σ H D I (k D σ H q)⟩
theorem _root_.L2.PSs.pre {X : Cx} {e : List Stmt} {t t' : TS} (h : PSs X e t) (k : ∀ D σ H, t' D σ H → t D σ H) : PSs X e t' :=
  ⟨fun pins s σ H D I q => h.run pins s σ H D I (k D σ H q)⟩
/-! ### the judgements -/
/-- what a value is to be behind an expression -/
abbrev Rel := Hp → Gs → Hp → V → D → Prop
abbrev RE (p : Pg) : Rel := fun _ g _ v d => p.Rp g v d
abbrev RL (p : Pg) : Rel := fun _ g H v d => TopR p g H v d
abbrev RN (p : Pg) : Rel := fun H0 g H v d => NewR p H0 g H v d
/-- it may begin further ahead -/
def Back (p : Pg) (R : Rel) : Prop := ∀ (g : Gs) (H : Hp) (g1 : Gs) (H1 : Hp) (g2 : Gs) (H2 : Hp) (v : V) (d : D), Wf p g H → Stp p g H g1 H1 → R H1 g2 H2 v d → R H g2 H2 v d
theorem back_RE {p : Pg} : Back p (RE p) := fun _ _ _ _ _ _ _ _ _ _ h => h
theorem back_RL {p : Pg} : Back p (RL p) := fun _ _ _ _ _ _ _ _ _ _ h => h
theorem back_RN {p : Pg} : Back p (RN p) := fun _ _ _ _ _ _ _ _ w s ⟨a, e, o, hG, ha, hn⟩ => ⟨a, e, o, hG, ha, s.none_of w hn⟩
/-- what a value operation wants: the value's post -/
def Pv (p : Pg) (R : Rel) (g : Gs) (H : Hp) (Q : VK) (d : D) (st' : Store) : Prop := ∀ v g' H', g'.st = st' → Stp p g H g' H' → R H g' H' v d → Q v H'
def Px (S : Sta) (Y : Dyn) (g : Gs) (H : Hp) (c : Nat) (st' : Store) : Prop := ∀ g' H', g'.st = st' → Stp S.pg g H g' H' → Y.W (.ref (S.pg.cA c)) none H'
def rdX (S : Sta) (Y : Dyn) (ρ : Ev) (R : Rel) (m : M D) : TE := fun σ H Q => ∃ F g, ER S.pg F ρ σ g H ∧ (m g.st).Post (Pv S.pg R g H Q) (Px S Y g H)
def EX (S : Sta) (ρ : Ev) (R : Rel) (e : Expr) (m : M D) : Prop := ∀ Y, OkY S Y → PE (S.cx Y) e (rdX S Y ρ R m)
abbrev EE (S : Sta) (ρ : Ev) (e : Expr) (m : M D) : Prop := EX S ρ (RE S.pg) e m
abbrev EL (S : Sta) (ρ : Ev) (e : Expr) (m : M D) : Prop := EX S ρ (RL S.pg) e m
abbrev EN (S : Sta) (ρ : Ev) (e : Expr) (m : M D) : Prop := EX S ρ (RN S.pg) e m
def rdT (S : Sta) (Y : Dyn) (ρ : Ev) (m : M Bool) : TT := fun σ H Q => ∃ F g, ER S.pg F ρ σ g H ∧ (m g.st).Post (fun b st' => ∀ g' H', g'.st = st' → Stp S.pg g H g' H' → Q b H') (Px S Y g H)
def ET (S : Sta) (ρ : Ev) (e : Expr) (m : M Bool) : Prop := ∀ Y, OkY S Y → PT (S.cx Y) e (rdT S Y ρ m)
def EW (S : Sta) (ρ : Ev) (e : Expr) (m : M Bool) : Prop := ∀ Y, OkY S Y → PW (S.cx Y) e (rdT S Y ρ m)
/-- lists of arguments -/
def rdA (S : Sta) (Y : Dyn) (ρ : Ev) (Rs : Gs → Hp → List V → List D → Prop) (m : M (List D)) : TA := fun σ H Q => ∃ F g, ER S.pg F ρ σ g H ∧ (m g.st).Post (fun ds st' => ∀ vs g' H', g'.st = st' → Stp S.pg g H g' H' → Rs g' H' vs ds → Q vs H') (Px S Y g H)
def EA (S : Sta) (ρ : Ev) (e : List Expr) (m : M (List D)) : Prop := ∀ Y, OkY S Y → PA (S.cx Y) e (rdA S Y ρ (fun g _ => S.pg.Rps g) m)
section
variable {S : Sta} {ρ : Ev} {e a b c : Expr} {m ma mb mc : M D} {R : Rel}
theorem Px.back {Y : Dyn} {g g1 : Gs} {H H1 : Hp} {c : Nat} {st' : Store} (w : Wf S.pg g H) (s : Stp S.pg g H g1 H1) (h : Px S Y g H c st') : Px S Y g1 H1 c st' :=
  fun g' H' e t => h g' H' e (s.trans w t)
theorem Pv.back {p : Pg} {R : Rel} (hR : Back p R) {g g1 : Gs} {H H1 : Hp} {Q : VK} {d : D} {st' : Store} (w : Wf p g H) (s : Stp p g H g1 H1) (h : Pv p R g H Q d st') : Pv p R g1 H1 Q d st' :=
  fun v g' H' e t r => h v g' H' e (s.trans w t) (hR _ _ _ _ _ _ _ _ w s r)
/-- a value that was read ahead stays -/
theorem EX.imp {R' : Rel} (h : EX S ρ R e m) (k : ∀ g H g' H' v d, Wf S.pg g H → Stp S.pg g H g' H' → R H g' H' v d → R' H g' H' v d) : EX S ρ R' e m := fun Y ok => (h Y ok).pre fun σ H Q ⟨F, g, E, q⟩ =>
  ⟨F, g, E, q.imp (fun d st' q v g' H' e s r => q v g' H' e s (k g H g' H' v d E.wf s r)) fun _ _ q => q⟩
theorem el_of (h : EE S ρ e m) : EL S ρ e m := h.imp fun _ _ _ _ _ _ _ _ r => .inl r
theorem el_new (h : EN S ρ e m) : EL S ρ e m := h.imp fun _ _ _ _ _ _ _ _ ⟨a, e, o, _, ha, _⟩ => .inr ⟨a, e, ha, o⟩
/-- freezing -/
theorem Own.frozen {p : Pg} {g : Gs} {H : Hp} {a : Addr} {d : D} (w : Wf p g H) (o : Own p g H a d) (hG : g.G a = none) (ha : a ∉ g.am) : ∃ u, H a = some u ∧ Wf p { g with G := upd g.G a u } H ∧ (∀ b x, g.G b = some x → upd g.G a u b = some x) ∧ p.Rp { g with G := upd g.G a u } (.ref a) d := by
  obtain ⟨u, e, _⟩ := o.at
  obtain ⟨wf', le⟩ := Stp.freeze w e hG ha
  refine ⟨u, e, wf', le, ?_⟩
  cases d with
  | lst ds =>
    obtain ⟨xs, e1, r⟩ := o
    rw [e] at e1; cases e1
    exact .lst (upd_same) (r.mono le (List.prefix_refl _))
  | dct es =>
    rcases o with ⟨kvs, e1, r⟩ | ⟨kvs, e1, r⟩
    · rw [e] at e1; cases e1
      exact .dK (upd_same) (r.mono le (List.prefix_refl _))
    · rw [e] at e1; cases e1
      exact .dT (upd_same) (r.mono le (List.prefix_refl _))
  | _ => exact o.elim
theorem NewR.frozen {p : Pg} {g g' : Gs} {H H' : Hp} {v : V} {d : D} (w : Wf p g H) (s : Stp p g H g' H') (r : NewR p H g' H' v d) : ∃ g2, g2.st = g'.st ∧ Stp p g H g2 H' ∧ p.Rp g2 v d ∧ (∀ b x, g'.G b = some x → g2.G b = some x) ∧ g'.am <+: g2.am := by
  obtain ⟨a, rfl, o, hG, ha, hn⟩ := r
  obtain ⟨u, e, wf', le, r⟩ := o.frozen s.wf hG ha
  refine ⟨{ g' with G := upd g'.G a u }, rfl, Stp.mk (fun b x q => le b x (s.gle b x q)) s.aml s.keep (fun b x q => ?_) s.amn wf', r, le, List.prefix_refl _⟩
  have q : upd g'.G a u b = some x := q
  by_cases z : b = a
  · subst z; exact .inr (.inl hn)
  · rw [upd_ne z] at q; exact s.gnew b x q
theorem ee_new (h : EN S ρ e m) : EE S ρ e m := fun Y ok => (h Y ok).pre fun σ H Q ⟨F, g, E, q⟩ => by
  refine ⟨F, g, E, q.imp (fun d st' q v g' H' e s r => ?_) fun _ _ q => q⟩
  obtain ⟨g2, e2, s2, r2, _⟩ := NewR.frozen E.wf s r
  exact q v g2 H' (e2.trans e) s2 r2
/-! ### names and constants -/
theorem ee_var (i : Nat) {x : Str} {d : D} {pos : Pos} (hs : ρ[i]? = some (.sh d)) (hN : S.N[i]? = some x) (hv : Vis S.sc x) (hd : (x == ("__debug__" : Str)) = false := by decide) (hcd : (x == ("__classdict__" : Str)) = false := by decide) :
    EE S ρ (.Name x pos) (pure d) := fun Y ok => (pe_var (X := S.cx Y) (i := i) hN hv hd hcd).pre fun σ H Q ⟨F, g, E, q⟩ => by
  have h := E.sl i _ hs
  cases e : σ[i]? with
  | none => rw [e] at h; exact h.elim
  | some o =>
    rw [e] at h
    cases o with
    | none => exact h.elim
    | some v => exact ⟨v, e, q v g H rfl (.refl E.wf) h⟩
theorem el_ow (i : Nat) {x : Str} {d : D} {pos : Pos} (hs : ρ[i]? = some (.ow d)) (hN : S.N[i]? = some x) (hv : Vis S.sc x) (hd : (x == ("__debug__" : Str)) = false := by decide) (hcd : (x == ("__classdict__" : Str)) = false := by decide) :
    EL S ρ (.Name x pos) (pure d) := fun Y ok => (pe_var (X := S.cx Y) (i := i) hN hv hd hcd).pre fun σ H Q ⟨F, g, E, q⟩ => by
  have h := E.sl i _ hs
  cases e : σ[i]? with
  | none => rw [e] at h; exact h.elim
  | some o =>
    rw [e] at h
    cases o with
    | none => exact h.elim
    | some v =>
      obtain ⟨a, rfl, o, _, ha, _⟩ := h
      exact ⟨_, e, q _ g H rfl (.refl E.wf) (.inr ⟨a, rfl, ha, o⟩)⟩
theorem el_bo (i : Nat) {x : Str} {d : D} {pos : Pos} (hs : ρ[i]? = some (.bo d)) (hN : S.N[i]? = some x) (hv : Vis S.sc x) (hd : (x == ("__debug__" : Str)) = false := by decide) (hcd : (x == ("__classdict__" : Str)) = false := by decide) :
    EL S ρ (.Name x pos) (pure d) := fun Y ok => (pe_var (X := S.cx Y) (i := i) hN hv hd hcd).pre fun σ H Q ⟨F, g, E, q⟩ => by
  have h := E.sl i _ hs
  cases e : σ[i]? with
  | none => rw [e] at h; exact h.elim
  | some o =>
    rw [e] at h
    cases o with
    | none => exact h.elim
    | some v =>
      rcases h with h | ⟨a, rfl, ha, o, _⟩
      · exact ⟨_, e, q _ g H rfl (.refl E.wf) (.inl h)⟩
      · exact ⟨_, e, q _ g H rfl (.refl E.wf) (.inr ⟨a, rfl, ha, o⟩)⟩
/-- a value that asks for nothing -/
theorem ee_tC {v : V} {d : D} (hp : ∀ Y : Dyn, PE (S.cx Y) e (tC v)) (r : ∀ g, S.pg.Rp g v d) : EE S ρ e (pure d) := fun Y _ => (hp Y).pre fun σ H Q ⟨F, g, E, q⟩ =>
  q v g H rfl (.refl E.wf) (r g)
theorem ee_int {i : Int} {j : Nat} {pos : Pos} : EE S ρ (.Constant (.int i) j pos) (pure (.int i)) := ee_tC (fun _ => pe_int) fun _ => .int i
theorem ee_bl {i : Bool} {j : Nat} {pos : Pos} : EE S ρ (.Constant (.bool i) j pos) (pure (.bl i)) := ee_tC (fun _ => pe_bl) fun _ => .bl i
theorem ee_non {j : Nat} {pos : Pos} : EE S ρ (.Constant .none j pos) (pure .non) := ee_tC (fun _ => pe_non) fun _ => .non
theorem ee_str {x : Str} {j : Nat} {pos : Pos} : EE S ρ (.Constant (.str x) j pos) (pure (.str x)) := ee_tC (fun _ => pe_str) fun _ => .str x
/-- a name of the module's -/
theorem ee_glob {x : Str} {u : Value} {v : V} {d : D} {pos : Pos} (hg : S.sc.names.lookup x = some .globalImplicit) (hm : S.pg.mg x = some u) (r : RelV v u) (h : ∀ g, S.pg.Rp g v d) (hd : (x == ("__debug__" : Str)) = false := by decide) :
    EE S ρ (.Name x pos) (pure d) := ee_tC (fun Y => pe_glob (X := S.cx Y) hg hm r hd) h
/-! ### one, two operands -/
theorem rdX.bind {α : Type} {Y : Dyn} {σ : L2.St} {H : Hp} {F : Fm} {g : Gs} {R1 : Rel} {f : D → M α} {ok : α → Store → Prop} {Q : VK}
    (E : ER S.pg F ρ σ g H) (q : ((ma >>= f) g.st).Post ok (Px S Y g H))
    (k : ∀ x v g' H', Stp S.pg g H g' H' → ER S.pg F ρ σ g' H' → R1 H g' H' v x → (f x g'.st).Post ok (Px S Y g H) → Q v H') : rdX S Y ρ R1 ma σ H Q :=
  ⟨F, g, E, (post_bind q).imp (fun x st' q v g' H' e s r => k x v g' H' s (E.step s) r (by rw [e]; exact q)) fun _ _ q => q⟩
theorem rdT.bind {α : Type} {Y : Dyn} {σ : L2.St} {H : Hp} {F : Fm} {g : Gs} {mt : M Bool} {f : Bool → M α} {ok : α → Store → Prop} {Q : Bool → Hp → Prop}
    (E : ER S.pg F ρ σ g H) (q : ((mt >>= f) g.st).Post ok (Px S Y g H))
    (k : ∀ x g' H', Stp S.pg g H g' H' → ER S.pg F ρ σ g' H' → (f x g'.st).Post ok (Px S Y g H) → Q x H') : rdT S Y ρ mt σ H Q :=
  ⟨F, g, E, (post_bind q).imp (fun x st' q g' H' e s => k x g' H' s (E.step s) (by rw [e]; exact q)) fun _ _ q => q⟩
theorem rdA.bind {α : Type} {Y : Dyn} {σ : L2.St} {H : Hp} {F : Fm} {g : Gs} {Rs : Gs → Hp → List V → List D → Prop} {mt : M (List D)} {f : List D → M α} {ok : α → Store → Prop} {Q : List V → Hp → Prop}
    (E : ER S.pg F ρ σ g H) (q : ((mt >>= f) g.st).Post ok (Px S Y g H))
    (k : ∀ x v g' H', Stp S.pg g H g' H' → ER S.pg F ρ σ g' H' → Rs g' H' v x → (f x g'.st).Post ok (Px S Y g H) → Q v H') : rdA S Y ρ Rs mt σ H Q :=
  ⟨F, g, E, (post_bind q).imp (fun x st' q v g' H' e s r => k x v g' H' s (E.step s) r (by rw [e]; exact q)) fun _ _ q => q⟩
/-- a one-place operation on values -/
def Op1 (p : Pg) (r : V → Hp → VK → Prop) (f : D → M D) (R : Rel) : Prop := ∀ (g : Gs) (H : Hp) (x : D) (vx : V) (Q : VK) (E : Nat → Store → Prop), Wf p g H → TopR p g H vx x → (f x g.st).Post (Pv p R g H Q) E → r vx H Q
def Op2 (p : Pg) (r : R2) (f : D → D → M D) (R : Rel) : Prop := ∀ (g : Gs) (H : Hp) (x y : D) (vx vy : V) (Q : VK) (E : Nat → Store → Prop), Wf p g H → TopR p g H vx x → TopR p g H vy y → (f x y g.st).Post (Pv p R g H Q) E → r vx vy H Q
/-- .. that gives a truth -/
def Op2B (p : Pg) (r : R2) (f : D → D → M Bool) : Prop := ∀ (g : Gs) (H : Hp) (x y : D) (vx vy : V) (Q : VK) (E : Nat → Store → Prop), Wf p g H → TopR p g H vx x → TopR p g H vy y → (f x y g.st).Post (fun b st' => st' = g.st → Q (.bl b) H) E → r vx vy H Q
theorem ex_un {r : V → Hp → VK → Prop} {f : D → M D} (hR : Back S.pg R) (ha : EL S ρ a ma) (hp : ∀ Y : Dyn, OkY S Y → ∀ ta, PE (S.cx Y) a ta → PE (S.cx Y) e (tUn r ta)) (ho : Op1 S.pg r f R) :
    EX S ρ R e (ma >>= f) := fun Y ok => (hp Y ok _ (ha Y ok)).pre fun σ H Q ⟨F, g, E, q⟩ =>
  rdX.bind E q fun x v g' H' s E' r q => ho g' H' x v Q _ E'.wf r (q.imp (fun _ _ q => q.back hR E.wf s) fun _ _ q => q)
theorem ex_bin {r : R2} {f : D → D → M D} (hR : Back S.pg R) (ha : EL S ρ a ma) (hb : EL S ρ b mb) (hp : ∀ Y : Dyn, OkY S Y → ∀ ta tb, PE (S.cx Y) a ta → PE (S.cx Y) b tb → PE (S.cx Y) e (tOp r ta tb)) (ho : Op2 S.pg r f R) :
    EX S ρ R e (ma >>= fun x => mb >>= fun y => f x y) := fun Y ok => (hp Y ok _ _ (ha Y ok) (hb Y ok)).pre fun σ H Q ⟨F, g, E, q⟩ =>
  rdX.bind E q fun x v g' H' s E' r q => rdX.bind E' (q.imp (fun _ _ q => q) fun _ _ q => q.back E.wf s) fun y u g2 H2 s2 E2 r2 q =>
    ho g2 H2 x y v u Q _ E2.wf (r.step E'.wf s2) r2 (q.imp (fun _ _ q => q.back hR E.wf (s.trans E.wf s2)) fun _ _ q => q)
theorem ex_binB {r : R2} {f : D → D → M Bool} (ha : EL S ρ a ma) (hb : EL S ρ b mb) (hp : ∀ Y : Dyn, OkY S Y → ∀ ta tb, PE (S.cx Y) a ta → PE (S.cx Y) b tb → PE (S.cx Y) e (tOp r ta tb)) (ho : Op2B S.pg r f) :
    EE S ρ e (ma >>= fun x => mb >>= fun y => f x y >>= fun b => pure (.bl b)) := fun Y ok => (hp Y ok _ _ (ha Y ok) (hb Y ok)).pre fun σ H Q ⟨F, g, E, q⟩ =>
  rdX.bind E q fun x v g' H' s E' r q => rdX.bind E' (q.imp (fun _ _ q => q) fun _ _ q => q.back E.wf s) fun y u g2 H2 s2 E2 r2 q =>
    ho g2 H2 x y v u Q _ E2.wf (r.step E'.wf s2) r2 ((post_bind q).imp (fun b st' q e => q (.bl b) g2 H2 e.symm (s.trans E.wf s2) (.bl b)) fun _ _ q => q)
theorem et_binB {r : R2} {f : D → D → M Bool} (ha : EL S ρ a ma) (hb : EL S ρ b mb) (hp : ∀ Y : Dyn, OkY S Y → ∀ ta tb, PE (S.cx Y) a ta → PE (S.cx Y) b tb → PT (S.cx Y) e (tTest (tOp r ta tb))) (ho : Op2B S.pg r f) :
    ET S ρ e (ma >>= fun x => mb >>= fun y => f x y) := fun Y ok => (hp Y ok _ _ (ha Y ok) (hb Y ok)).pre fun σ H Q ⟨F, g, E, q⟩ =>
  rdX.bind E q fun x v g' H' s E' r q => rdX.bind E' (q.imp (fun _ _ q => q) fun _ _ q => q.back E.wf s) fun y u g2 H2 s2 E2 r2 q =>
    ho g2 H2 x y v u _ _ E2.wf (r.step E'.wf s2) r2 (q.imp (fun b st' q e => ⟨b, rfl, q g2 H2 e.symm (s.trans E.wf s2)⟩) fun _ _ q => q)
end
/-! ### ints -/
section
variable {p : Pg} {g : Gs} {H : Hp} {v : V}
theorem TopR.cases {d : D} (h : TopR p g H v d) (n : ∀ a, Own p g H a d → False) : p.Rp g v d := by
  rcases h with h | ⟨a, _, _, o⟩
  · exact h
  · exact (n a o).elim
theorem TopR.int {i : Int} (h : TopR p g H v (.int i)) : v = .int i := by
  cases h.cases fun _ o => o
  rfl
theorem TopR.bl {i : Bool} (h : TopR p g H v (.bl i)) : v = .bl i := by
  cases h.cases fun _ o => o
  rfl
theorem TopR.str {i : Str} (h : TopR p g H v (.str i)) : v = .str i := by
  cases h.cases fun _ o => o
  rfl
theorem TopR.non (h : TopR p g H v .non) : v = .non := by
  cases h.cases fun _ o => o
  rfl
theorem TopR.tup {ds : List D} (w : Wf p g H) (h : TopR p g H v (.tup ds)) : ∃ a xs, v = .ref a ∧ SqT p.K H a xs ∧ p.Rps g xs ds := by
  have h := h.cases fun _ o => o
  cases h with
  | tup s r => exact ⟨_, _, rfl, sqT_mono w.sub s, r⟩
theorem TopR.rls {ds : List D} (w : Wf p g H) (h : TopR p g H v (.rls ds)) : ∃ a xs, v = .ref a ∧ SqL p.K H a xs ∧ p.Rps g xs ds := by
  have h := h.cases fun _ o => o
  cases h with
  | rls s r => exact ⟨_, _, rfl, sqL_mono w.sub s, r⟩
theorem TopR.lst {ds : List D} (w : Wf p g H) (h : TopR p g H v (.lst ds)) : ∃ a xs, v = .ref a ∧ H a = some (.lst xs) ∧ p.Rps g xs ds := by
  rcases h with h | ⟨a, rfl, _, xs, e, r⟩
  · cases h with
    | lst s r => exact ⟨_, _, rfl, w.sub _ _ s, r⟩
  · exact ⟨a, xs, rfl, e, r⟩
theorem TopR.ref {k : Nat} (h : TopR p g H v (.ref k)) : ∃ a, v = .ref a ∧ g.am[k]? = some a := by
  have h := h.cases fun _ o => o
  cases h with
  | ref e => exact ⟨_, rfl, e⟩
/-- the cell behind a reference -/
theorem Wf.at_ref {k : Nat} {a : Addr} (w : Wf p g H) (e : g.am[k]? = some a) : ∃ c, g.st[k]? = some c ∧ CellR p g H a c := by
  have hk : k < g.am.length := (List.getElem?_eq_some_iff.mp e).1
  have hk2 : k < g.st.length := by rw [← w.len]; exact hk
  exact ⟨_, List.getElem?_eq_getElem hk2, w.cell k a _ e (List.getElem?_eq_getElem hk2)⟩
end
/-- two ints, and a number -/
def i2 (h : Int → Int → Int) : D → D → M D
  | .int i, .int j => pure (.int (h i j))
  | _, _ => stuck
/-- under a condition -/
def i2c (c : Int → Int → Bool) (h : Int → Int → Int) : D → D → M D
  | .int i, .int j => if c i j then pure (.int (h i j)) else stuck
  | _, _ => stuck
def b2 (h : Int → Int → Bool) : D → D → M Bool
  | .int i, .int j => pure (h i j)
  | _, _ => stuck
section
variable {p : Pg}
theorem post_pure {α : Type} {a : α} {s : Store} {ok : α → Store → Prop} {ex : Nat → Store → Prop} (h : ((pure a : M α) s).Post ok ex) : ok a s := h
theorem post_stuck {α : Type} {s : Store} {ok : α → Store → Prop} {ex : Nat → Store → Prop} (h : ((stuck : M α) s).Post ok ex) : False := h
theorem Pv.now {R : Rel} {g : Gs} {H : Hp} {Q : VK} {d : D} (w : Wf p g H) (h : Pv p R g H Q d g.st) {v : V} (r : R H g H v d) : Q v H := h v g H rfl (.refl w) r
theorem op_i2 {h : Int → Int → Int} {r : R2} (hr : ∀ (i j : Int) (H : Hp) (Q : VK), Q (.int (h i j)) H → r (.int i) (.int j) H Q) : Op2 p r (i2 h) (RE p) := by
  intro g H x y vx vy Q E w hx hy q
  cases x with
  | int i =>
    cases y with
    | int j =>
      obtain rfl := hx.int
      obtain rfl := hy.int
      exact hr i j H Q (Pv.now w (post_pure q) (.int _))
    | _ => exact False.elim q
  | _ => exact False.elim q
theorem op_i2c {c : Int → Int → Bool} {h : Int → Int → Int} {r : R2} (hr : ∀ (i j : Int) (H : Hp) (Q : VK), c i j = true → Q (.int (h i j)) H → r (.int i) (.int j) H Q) : Op2 p r (i2c c h) (RE p) := by
  intro g H x y vx vy Q E w hx hy q
  cases x with
  | int i =>
    cases y with
    | int j =>
      obtain rfl := hx.int
      obtain rfl := hy.int
      unfold i2c at q
      by_cases z : c i j = true
      · simp only [z, if_true] at q
        exact hr i j H Q z (Pv.now w (post_pure q) (.int _))
      · simp only [z] at q
        exact False.elim q
    | _ => exact False.elim q
  | _ => exact False.elim q
theorem op_b2 {h : Int → Int → Bool} {r : R2} (hr : ∀ (i j : Int) (H : Hp) (Q : VK), Q (.bl (h i j)) H → r (.int i) (.int j) H Q) : Op2B p r (b2 h) := by
  intro g H x y vx vy Q E w hx hy q
  cases x with
  | int i =>
    cases y with
    | int j =>
      obtain rfl := hx.int
      obtain rfl := hy.int
      exact hr i j H Q ((post_pure q) rfl)
    | _ => exact False.elim q
  | _ => exact False.elim q
end
end DL
namespace DL
open PySem PySem.Spec PyProof.Rows L2
/-! ### data as the library's data -/
mutual
def toP : D → PyData
  | .non => .none
  | .bl b => .bool b
  | .int i => .int i
  | .str x => .str x
  | .tup xs => .tuple (toPs xs)
  | .lst xs => .list (toPs xs)
  | .rls xs => .list (toPs xs)
  | .dct _ => .dict []
  | .ref _ => .dict []
def toPs : List D → List PyData
  | [] => []
  | x :: r => toP x :: toPs r
end
theorem toPs_map : ∀ ds : List D, toPs ds = ds.map toP
  | [] => rfl
  | d :: r => by rw [toPs, List.map_cons, toPs_map r]
section
variable {p : Pg} {g : Gs} {H : Hp}
mutual
theorem Rp.dp (w : ∀ a o, g.G a = some o → H a = some o) : ∀ {v : V} {d : D}, p.Rp g v d → (toP d).canLay0 = true → Dp p.K H v (toP d)
  | _, _, .non, _ => by rw [toP]; exact .non
  | _, _, .bl b, _ => by rw [toP]; exact .bl b
  | _, _, .int i, _ => by rw [toP]; exact .int i
  | _, _, .str x, _ => by rw [toP]; exact .str x
  | _, _, .tup s r, h => by
    rw [toP]
    exact .tup (sqT_mono w s) (Rps.dp w r (by rw [toP, PyData.canLay0] at h; exact h))
  | _, _, .lst s r, h => by
    rw [toP]
    exact .lst (.inl (.inl (w _ _ s))) (Rps.dp w r (by rw [toP, PyData.canLay0] at h; exact h))
  | _, _, .rls s r, h => by
    rw [toP]
    exact .lst (sqL_mono w s) (Rps.dp w r (by rw [toP, PyData.canLay0] at h; exact h))
  | _, _, .dK _ _, h => by simp [toP, PyData.canLay0] at h
  | _, _, .dT _ _, h => by simp [toP, PyData.canLay0] at h
  | _, _, .ref _, h => by simp [toP, PyData.canLay0] at h
theorem Rps.dp (w : ∀ a o, g.G a = some o → H a = some o) : ∀ {v : List V} {d : List D}, p.Rps g v d → PyData.canLayAll0 (toPs d) = true → DpAll p.K H v (toPs d)
  | _, _, .nil, _ => by rw [toPs]; exact .nil
  | _, _, .cons r t, h => by
    rw [toPs, PyData.canLayAll0, Bool.and_eq_true] at h
    rw [toPs]
    exact .cons (Rp.dp w r h.1) (Rps.dp w t h.2)
end
theorem TopR.dp (w : Wf p g H) {v : V} {d : D} (h : TopR p g H v d) (s : SeqAt.shaped (toP d) = true) : Dp p.K H v (toP d) := by
  have s := SeqAt.canLay_of_shaped s
  rcases h with h | ⟨a, rfl, _, o⟩
  · exact Rp.dp w.sub h s
  · cases d with
    | lst ds =>
      obtain ⟨xs, e, r⟩ := o
      rw [toP] at s ⊢
      exact .lst (.inl (.inl e)) (Rps.dp w.sub r (by rw [PyData.canLay0] at s; exact s))
    | dct es => simp [toP, PyData.canLay0] at s
    | _ => exact o.elim
end
/-! ### comparisons of data -/
def eqB (x y : D) : M Bool := if SeqAt.shaped (toP x) && SeqAt.shaped (toP y) then pure (PyData.eqv (toP x) (toP y)) else stuck
def neB (x y : D) : M Bool := if SeqAt.shaped (toP x) && SeqAt.shaped (toP y) then pure (!PyData.eqv (toP x) (toP y)) else stuck
def isN : D → Bool
  | .non => true
  | _ => false
def isNoneB (x y : D) : M Bool := if isN y then pure (isN x) else stuck
def notNoneB (x y : D) : M Bool := if isN y then pure (!isN x) else stuck
def inSeq (neg : Bool) (x : D) (ds : List D) : M Bool :=
  if SeqAt.shaped (toP x) && SeqAt.shaped (.list (toPs ds)) then pure (let b := ds.any fun z => PyData.eqv (toP z) (toP x); if neg then !b else b) else stuck
/-- x in ds, x not in ds -/
def inB (neg : Bool) (x y : D) : M Bool := match y with
  | .tup ds => inSeq neg x ds
  | .lst ds => inSeq neg x ds
  | .rls ds => inSeq neg x ds
  | _ => stuck
theorem any_toPs (ds : List D) (d : PyData) : (toPs ds).any (fun z => PyData.eqv z d) = ds.any fun z => PyData.eqv (toP z) d := by
  rw [toPs_map, List.any_map]
  rfl
section
variable {p : Pg} {X : Cx}
theorem op_eqB : Op2B p (rEqD p.K) eqB := by
  intro g H x y vx vy Q E w hx hy q
  unfold eqB at q
  by_cases z : (SeqAt.shaped (toP x) && SeqAt.shaped (toP y)) = true
  · rw [if_pos z] at q
    rw [Bool.and_eq_true] at z
    exact ⟨_, _, hx.dp w z.1, hy.dp w z.2, z.1, z.2, (post_pure q) rfl⟩
  · rw [if_neg z] at q
    exact False.elim q
theorem op_neB : Op2B p (rNeD p.K) neB := by
  intro g H x y vx vy Q E w hx hy q
  unfold neB at q
  by_cases z : (SeqAt.shaped (toP x) && SeqAt.shaped (toP y)) = true
  · rw [if_pos z] at q
    rw [Bool.and_eq_true] at z
    exact ⟨_, _, hx.dp w z.1, hy.dp w z.2, z.1, z.2, (post_pure q) rfl⟩
  · rw [if_neg z] at q
    exact False.elim q
def rIsN : R2 := fun x y H Q => y = .non ∧ Q (.bl (decide (x = .non))) H
def rNotN : R2 := fun x y H Q => y = .non ∧ Q (.bl (!decide (x = .non))) H
theorem TopR.isNon {g : Gs} {H : Hp} {v : V} {x : D} (h : TopR p g H v x) : decide (v = .non) = isN x := by
  rcases h with h | ⟨a, rfl, _, o⟩
  · cases h <;> rfl
  · cases x with
    | lst ds => rfl
    | dct es => rfl
    | _ => exact o.elim
theorem isN_eq {x : D} (h : isN x = true) : x = .non := by
  cases x with
  | non => rfl
  | _ => cases h
theorem op_isNoneB : Op2B p rIsN isNoneB := by
  intro g H x y vx vy Q E w hx hy q
  unfold isNoneB at q
  by_cases z : isN y = true
  · rw [if_pos z] at q
    obtain rfl := isN_eq z
    have q : Q (.bl (isN x)) H := (post_pure q) rfl
    rw [← hx.isNon] at q
    exact ⟨hy.non, q⟩
  · rw [if_neg z] at q
    exact False.elim q
theorem op_notNoneB : Op2B p rNotN notNoneB := by
  intro g H x y vx vy Q E w hx hy q
  unfold notNoneB at q
  by_cases z : isN y = true
  · rw [if_pos z] at q
    obtain rfl := isN_eq z
    have q : Q (.bl (!isN x)) H := (post_pure q) rfl
    rw [← hx.isNon] at q
    exact ⟨hy.non, q⟩
  · rw [if_neg z] at q
    exact False.elim q
/-- membership in a list, in a tuple -/
def rInDT (K : PySem.W.Frag) : R2 := fun x y H Q => ∃ d ds, Dp K H x d ∧ Dp K H y (.tuple ds) ∧ SeqAt.shaped d = true ∧ SeqAt.shaped (.list ds) = true ∧ Q (.bl (ds.any fun z => PyData.eqv z d)) H
def rNotInDT (K : PySem.W.Frag) : R2 := fun x y H Q => ∃ d ds, Dp K H x d ∧ Dp K H y (.tuple ds) ∧ SeqAt.shaped d = true ∧ SeqAt.shaped (.list ds) = true ∧ Q (.bl (!ds.any fun z => PyData.eqv z d)) H
theorem op_inDT (hu : X.A.units + 65 < cLine) : OpR X (compareOp .In) (rInDT X.K) := by
  intro pins s σ H x y v u Q I rx ry h
  obtain ⟨d, ds, hd, he, sd, se, q⟩ := h
  obtain ⟨as, r1⟩ := Dp.reads I d x v hd rx
  obtain ⟨bs, r2⟩ := Dp.reads I (.tuple ds) y u he ry
  exact SeqAt.in_tuple_reads r2 r1 (SeqAt.canLay_of_shaped se) (SeqAt.canLay_of_shaped sd) (room_in_shaped sd hu) ⟨.bl _, H, I, rfl, q⟩
theorem op_notInDT (hu : X.A.units + 65 < cLine) : OpR X (compareOp .NotIn) (rNotInDT X.K) := by
  intro pins s σ H x y v u Q I rx ry h
  obtain ⟨d, ds, hd, he, sd, se, q⟩ := h
  obtain ⟨as, r1⟩ := Dp.reads I d x v hd rx
  obtain ⟨bs, r2⟩ := Dp.reads I (.tuple ds) y u he ry
  exact SeqAt.notIn_tuple_reads r2 r1 (SeqAt.canLay_of_shaped se) (SeqAt.canLay_of_shaped sd) (room_in_shaped sd hu) ⟨.bl _, H, I, rfl, q⟩
theorem tuple_shape {ds : List PyData} : (PyData.tuple ds).canLay0 = (PyData.list ds).canLay0 ∧ (PyData.tuple ds).depth = (PyData.list ds).depth := by
  constructor
  · rw [PyData.canLay0, PyData.canLay0]
  · rw [PyData.depth, PyData.depth]
theorem shaped_tup {ds : List D} : SeqAt.shaped (toP (.tup ds)) = SeqAt.shaped (.list (toPs ds)) := by
  rw [toP, SeqAt.shaped, SeqAt.shaped, tuple_shape.1, tuple_shape.2]
theorem inSeq_post {neg : Bool} {x : D} {ds : List D} {s : Store} {ok : Bool → Store → Prop} {ex : Nat → Store → Prop} (q : (inSeq neg x ds s).Post ok ex) :
    SeqAt.shaped (toP x) = true ∧ SeqAt.shaped (.list (toPs ds)) = true ∧ ok (if neg then !((toPs ds).any fun z => PyData.eqv z (toP x)) else (toPs ds).any fun z => PyData.eqv z (toP x)) s := by
  unfold inSeq at q
  by_cases z : (SeqAt.shaped (toP x) && SeqAt.shaped (.list (toPs ds))) = true
  · rw [if_pos z] at q
    rw [Bool.and_eq_true] at z
    rw [any_toPs]
    exact ⟨z.1, z.2, q⟩
  · rw [if_neg z] at q
    exact False.elim q
def rInA (K : PySem.W.Frag) : R2 := fun x y H Q => rInD K x y H Q ∨ rInDT K x y H Q
def rNotInA (K : PySem.W.Frag) : R2 := fun x y H Q => rNotInD K x y H Q ∨ rNotInDT K x y H Q
theorem op_inB : Op2B p (rInA p.K) (inB false) := by
  intro g H x y vx vy Q E w hx hy q
  cases y with
  | lst ds =>
    obtain ⟨h1, h2, h3⟩ := inSeq_post q
    exact .inl ⟨_, _, hx.dp w h1, by have := hy.dp w (by rw [toP]; exact h2); rwa [toP] at this, h1, h2, h3 rfl⟩
  | rls ds =>
    obtain ⟨h1, h2, h3⟩ := inSeq_post q
    exact .inl ⟨_, _, hx.dp w h1, by have := hy.dp w (by rw [toP]; exact h2); rwa [toP] at this, h1, h2, h3 rfl⟩
  | tup ds =>
    obtain ⟨h1, h2, h3⟩ := inSeq_post q
    exact .inr ⟨_, _, hx.dp w h1, by have := hy.dp w (by rw [shaped_tup]; exact h2); rwa [toP] at this, h1, h2, h3 rfl⟩
  | _ => exact False.elim q
theorem op_notInB : Op2B p (rNotInA p.K) (inB true) := by
  intro g H x y vx vy Q E w hx hy q
  cases y with
  | lst ds =>
    obtain ⟨h1, h2, h3⟩ := inSeq_post q
    exact .inl ⟨_, _, hx.dp w h1, by have := hy.dp w (by rw [toP]; exact h2); rwa [toP] at this, h1, h2, h3 rfl⟩
  | rls ds =>
    obtain ⟨h1, h2, h3⟩ := inSeq_post q
    exact .inl ⟨_, _, hx.dp w h1, by have := hy.dp w (by rw [toP]; exact h2); rwa [toP] at this, h1, h2, h3 rfl⟩
  | tup ds =>
    obtain ⟨h1, h2, h3⟩ := inSeq_post q
    exact .inr ⟨_, _, hx.dp w h1, by have := hy.dp w (by rw [shaped_tup]; exact h2); rwa [toP] at this, h1, h2, h3 rfl⟩
  | _ => exact False.elim q
end
/-! ### operators -/
def addD : D → D → M D
  | .int i, .int j => pure (.int (i + j))
  | .str x, .str y => if x.length + y.length ≤ sizeLine then pure (.str (x ++ y)) else stuck
  | .tup xs, .tup ys => if xs.length + ys.length ≤ sizeLine then pure (.tup (xs ++ ys)) else stuck
  | _, _ => stuck
def catD : D → D → M D
  | .lst xs, .lst ys => if xs.length + ys.length ≤ sizeLine then pure (.lst (xs ++ ys)) else stuck
  | _, _ => stuck
def repL : D → D → M D
  | .lst xs, .int k => if 0 ≤ k ∧ k < 2 ^ 62 ∧ xs.length * k.toNat ≤ sizeLine then pure (.lst (List.replicate k.toNat xs).flatten) else stuck
  | _, _ => stuck
def subD := i2 (· - ·)
def mulC (i j : Int) : Bool := decide ((-(2 ^ 64) < i ∧ i < 2 ^ 64) ∨ (-(2 ^ 64) < j ∧ j < 2 ^ 64))
def mulD := i2c mulC (· * ·)
def divC (_ j : Int) : Bool := decide (0 < j ∧ j < 1073741824)
def divD := i2c divC (· / ·)
def modC (_ j : Int) : Bool := decide (0 < j)
def modD := i2c modC (· % ·)
def powC (i j : Int) : Bool := decide (0 ≤ j ∧ j ≤ 1000000 ∧ i.natAbs < 2 ^ 64)
def powD := i2c powC fun i j => i ^ j.toNat
def shlD := i2c powC fun i j => i * 2 ^ j.toNat
def shrC (_ j : Int) : Bool := decide (0 ≤ j)
def shrD := i2c shrC fun i j => i / 2 ^ j.toNat
def andD := i2 Builtin.bitAnd
def orD := i2 Builtin.bitOr
def xorD := i2 Builtin.bitXor
def ltB := b2 fun i j => decide (i < j)
def leB := b2 fun i j => decide (i ≤ j)
def gtB := b2 fun i j => decide (j < i)
def geB := b2 fun i j => decide (j ≤ i)
def negD : D → M D
  | .int i => pure (.int (-i))
  | _ => stuck
def invD : D → M D
  | .int i => pure (.int (Builtin.bitNot i))
  | _ => stuck
section
variable {S : Sta} {ρ : Ev} {a b c : Expr} {ma mb mc : M D} {pos : Pos} {R : Rel}
def rAddA (K : PySem.W.Frag) : R2 := fun x y H Q => (rI0 (fun i j => .int (i + j)) x y H Q ∨ (∃ i j, x = .str i ∧ y = .str j ∧ i.length + j.length ≤ sizeLine ∧ Q (.str (i ++ j)) H)) ∨ rCatA K x y H Q
theorem op_addD {p : Pg} : Op2 p (rAddA p.K) addD (RE p) := by
  intro g H x y vx vy Q E w hx hy q
  cases x with
  | int i =>
    cases y with
    | int j =>
      obtain rfl := hx.int
      obtain rfl := hy.int
      exact .inl (.inl ⟨i, j, rfl, rfl, Pv.now w (post_pure q) (.int _)⟩)
    | _ => exact False.elim q
  | str i =>
    cases y with
    | str j =>
      obtain rfl := hx.str
      obtain rfl := hy.str
      unfold addD at q
      by_cases z : i.length + j.length ≤ sizeLine
      · simp only [if_pos z] at q
        exact .inl (.inr ⟨i, j, rfl, rfl, z, Pv.now w (post_pure q) (.str _)⟩)
      · simp only [if_neg z] at q
        exact False.elim q
    | _ => exact False.elim q
  | tup xs =>
    cases y with
    | tup ys =>
      unfold addD at q
      by_cases z : xs.length + ys.length ≤ sizeLine
      · simp only [if_pos z] at q
        have q := post_pure q
        obtain ⟨a, us, rfl, sa, ra⟩ := hx.tup w
        obtain ⟨b, vs, rfl, sb, rb⟩ := hy.tup w
        have hx := hx.cases fun _ o => o
        have hy := hy.cases fun _ o => o
        refine .inr ⟨a, b, us, vs, rfl, rfl, sa, sb, by rw [ra.length, rb.length]; exact z, fun e => ?_, fun _ e => ?_, fun _ _ l hl => ?_⟩
        · subst e
          cases ra
          exact Pv.now w q hy
        · subst e
          cases rb
          refine Pv.now w q ?_
          show p.Rp g _ (.tup (xs ++ []))
          rw [List.append_nil]
          exact hx
        · have s := Stp.new (o := .tup (us ++ vs)) w hl
          exact q _ { g with G := upd g.G l (.tup (us ++ vs)) } _ rfl s (.tup (.inl (.inl upd_same)) ((ra.append rb).mono s.gle s.aml))
      · simp only [if_neg z] at q
        exact False.elim q
    | _ => exact False.elim q
  | _ => exact False.elim q
theorem op_catD {p : Pg} : Op2 p rCat catD (RN p) := by
  intro g H x y vx vy Q E w hx hy q
  cases x with
  | lst xs =>
    cases y with
    | lst ys =>
      unfold catD at q
      by_cases z : xs.length + ys.length ≤ sizeLine
      · simp only [if_pos z] at q
        have q := post_pure q
        obtain ⟨a, us, rfl, sa, ra⟩ := hx.lst w
        obtain ⟨b, vs, rfl, sb, rb⟩ := hy.lst w
        refine ⟨a, b, us, vs, rfl, rfl, sa, sb, by rw [ra.length, rb.length]; exact z, fun l hl => ?_⟩
        have s := Stp.laid (o := .lst (us ++ vs)) w hl
        exact q _ _ _ rfl s ⟨l, rfl, ⟨_, upd_same, ra.append rb⟩, w.freeG hl, w.freeA hl, hl⟩
      · simp only [if_neg z] at q
        exact False.elim q
    | _ => exact False.elim q
  | _ => exact False.elim q
theorem mulC_ok {i j : Int} (h : mulC i j = true) : CMul i j := of_decide_eq_true (p := (-(2 ^ 64) < i ∧ i < 2 ^ 64) ∨ (-(2 ^ 64) < j ∧ j < 2 ^ 64)) h
theorem divC_ok {i j : Int} (h : divC i j = true) : CDiv i j := of_decide_eq_true (p := 0 < j ∧ j < 1073741824) h
theorem powC_ok {i j : Int} (h : powC i j = true) : CPow i j := of_decide_eq_true (p := 0 ≤ j ∧ j ≤ 1000000 ∧ i.natAbs < 2 ^ 64) h
/-! the rules -/
theorem ee_add (ha : EL S ρ a ma) (hb : EL S ρ b mb) : EE S ρ (.BinOp a .Add b pos) (ma >>= fun x => mb >>= fun y => addD x y) :=
  ex_bin back_RE ha hb (fun Y ok ta tb h1 h2 => pe_op (OpR.or (OpR.or op_add op_add_str) op_catA) h1 h2) op_addD
theorem en_cat (ha : EL S ρ a ma) (hb : EL S ρ b mb) : EN S ρ (.BinOp a .Add b pos) (ma >>= fun x => mb >>= fun y => catD x y) :=
  ex_bin back_RN ha hb (fun Y ok ta tb h1 h2 => pe_op op_cat h1 h2) op_catD
theorem op_repL {p : Pg} : Op2 p rRep repL (RN p) := by
  intro g H x y vx vy Q E w hx hy q
  cases x with
  | lst xs =>
    cases y with
    | int k =>
      unfold repL at q
      by_cases z : 0 ≤ k ∧ k < 2 ^ 62 ∧ xs.length * k.toNat ≤ sizeLine
      · simp only [if_pos z] at q
        have q := post_pure q
        obtain ⟨a, us, rfl, sa, ra⟩ := hx.lst w
        obtain rfl := hy.int
        refine ⟨a, k, us, rfl, rfl, sa, by omega, by omega, by rw [ra.length]; exact z.2.2, fun l hl => ?_⟩
        have s := Stp.laid (o := .lst (List.replicate k.toNat us).flatten) w hl
        have rr : ∀ n : Nat, p.Rps g (List.replicate n us).flatten (List.replicate n xs).flatten := by
          intro n
          induction n with
          | zero => exact .nil
          | succ n ih => rw [List.replicate_succ, List.replicate_succ, List.flatten_cons, List.flatten_cons]; exact ra.append ih
        exact q _ _ _ rfl s ⟨l, rfl, ⟨_, upd_same, rr _⟩, w.freeG hl, w.freeA hl, hl⟩
      · simp only [if_neg z] at q
        exact False.elim q
    | _ => exact False.elim q
  | _ => exact False.elim q
theorem en_rep (ha : EL S ρ a ma) (hb : EL S ρ b mb) : EN S ρ (.BinOp a .Mult b pos) (ma >>= fun x => mb >>= fun y => repL x y) :=
  ex_bin back_RN ha hb (fun Y ok ta tb h1 h2 => pe_op op_rep h1 h2) op_repL
theorem ee_sub (ha : EL S ρ a ma) (hb : EL S ρ b mb) : EE S ρ (.BinOp a .Sub b pos) (ma >>= fun x => mb >>= fun y => subD x y) :=
  ex_bin back_RE ha hb (fun Y ok ta tb h1 h2 => pe_op op_sub h1 h2) (op_i2 fun i j H Q q => ⟨i, j, rfl, rfl, q⟩)
theorem ee_mul (ha : EL S ρ a ma) (hb : EL S ρ b mb) : EE S ρ (.BinOp a .Mult b pos) (ma >>= fun x => mb >>= fun y => mulD x y) :=
  ex_bin back_RE ha hb (fun Y ok ta tb h1 h2 => pe_op op_mul h1 h2) (op_i2c fun i j H Q c q => ⟨i, j, rfl, rfl, mulC_ok c, q⟩)
theorem ee_div (ha : EL S ρ a ma) (hb : EL S ρ b mb) : EE S ρ (.BinOp a .FloorDiv b pos) (ma >>= fun x => mb >>= fun y => divD x y) :=
  ex_bin back_RE ha hb (fun Y ok ta tb h1 h2 => pe_op op_fdiv h1 h2) (op_i2c fun i j H Q c q => ⟨i, j, rfl, rfl, divC_ok c, q⟩)
theorem ee_mod (ha : EL S ρ a ma) (hb : EL S ρ b mb) : EE S ρ (.BinOp a .Mod b pos) (ma >>= fun x => mb >>= fun y => modD x y) :=
  ex_bin back_RE ha hb (fun Y ok ta tb h1 h2 => pe_op op_mod h1 h2) (op_i2c fun i j H Q c q => ⟨i, j, rfl, rfl, of_decide_eq_true c, q⟩)
theorem ee_pow (ha : EL S ρ a ma) (hb : EL S ρ b mb) : EE S ρ (.BinOp a .Pow b pos) (ma >>= fun x => mb >>= fun y => powD x y) :=
  ex_bin back_RE ha hb (fun Y ok ta tb h1 h2 => pe_op op_pow h1 h2) (op_i2c fun i j H Q c q => ⟨i, j, rfl, rfl, powC_ok c, q⟩)
theorem ee_shl (ha : EL S ρ a ma) (hb : EL S ρ b mb) : EE S ρ (.BinOp a .LShift b pos) (ma >>= fun x => mb >>= fun y => shlD x y) :=
  ex_bin back_RE ha hb (fun Y ok ta tb h1 h2 => pe_op op_shl h1 h2) (op_i2c fun i j H Q c q => ⟨i, j, rfl, rfl, powC_ok c, q⟩)
theorem ee_shr (ha : EL S ρ a ma) (hb : EL S ρ b mb) : EE S ρ (.BinOp a .RShift b pos) (ma >>= fun x => mb >>= fun y => shrD x y) :=
  ex_bin back_RE ha hb (fun Y ok ta tb h1 h2 => pe_op op_shr h1 h2) (op_i2c fun i j H Q c q => ⟨i, j, rfl, rfl, of_decide_eq_true c, q⟩)
theorem ee_and (ha : EL S ρ a ma) (hb : EL S ρ b mb) : EE S ρ (.BinOp a .BitAnd b pos) (ma >>= fun x => mb >>= fun y => andD x y) :=
  ex_bin back_RE ha hb (fun Y ok ta tb h1 h2 => pe_op op_and h1 h2) (op_i2 fun i j H Q q => ⟨i, j, rfl, rfl, q⟩)
theorem ee_or (ha : EL S ρ a ma) (hb : EL S ρ b mb) : EE S ρ (.BinOp a .BitOr b pos) (ma >>= fun x => mb >>= fun y => orD x y) :=
  ex_bin back_RE ha hb (fun Y ok ta tb h1 h2 => pe_op op_or h1 h2) (op_i2 fun i j H Q q => ⟨i, j, rfl, rfl, q⟩)
theorem ee_xor (ha : EL S ρ a ma) (hb : EL S ρ b mb) : EE S ρ (.BinOp a .BitXor b pos) (ma >>= fun x => mb >>= fun y => xorD x y) :=
  ex_bin back_RE ha hb (fun Y ok ta tb h1 h2 => pe_op op_xor h1 h2) (op_i2 fun i j H Q q => ⟨i, j, rfl, rfl, q⟩)
theorem op_negD {p : Pg} : Op1 p (rU fun i => .int (-i)) negD (RE p) := by
  intro g H x vx Q E w hx q
  cases x with
  | int i =>
    obtain rfl := hx.int
    exact ⟨i, rfl, Pv.now w (post_pure q) (.int _)⟩
  | _ => exact False.elim q
theorem op_invD {p : Pg} : Op1 p (rU fun i => .int (Builtin.bitNot i)) invD (RE p) := by
  intro g H x vx Q E w hx q
  cases x with
  | int i =>
    obtain rfl := hx.int
    exact ⟨i, rfl, Pv.now w (post_pure q) (.int _)⟩
  | _ => exact False.elim q
theorem ee_neg (ha : EL S ρ a ma) : EE S ρ (.UnaryOp .USub a pos) (ma >>= negD) := ex_un back_RE ha (fun Y ok ta h => pe_un un_neg h) op_negD
theorem ee_inv (ha : EL S ρ a ma) : EE S ρ (.UnaryOp .Invert a pos) (ma >>= invD) := ex_un back_RE ha (fun Y ok ta h => pe_un un_inv h) op_invD
/-! comparisons: by the operator -/
/-- an operator that gives a truth, in every run of a def -/
structure Cmp (S : Sta) (op : CmpOp) (r : R2) (f : D → D → M Bool) : Prop where
  op : ∀ Y : Dyn, OkY S Y → OpR (S.cx Y) (compareOp op) r
  ok : Op2B S.pg r f
theorem c_lt : Cmp S .Lt (rI0 fun i j => .bl (decide (i < j))) ltB := ⟨fun _ _ => op_lt, op_b2 fun i j H Q q => ⟨i, j, rfl, rfl, q⟩⟩
theorem c_le : Cmp S .LtE (rI0 fun i j => .bl (decide (i ≤ j))) leB := ⟨fun _ _ => op_le, op_b2 fun i j H Q q => ⟨i, j, rfl, rfl, q⟩⟩
theorem c_gt : Cmp S .Gt (rI0 fun i j => .bl (decide (j < i))) gtB := ⟨fun _ _ => op_gt, op_b2 fun i j H Q q => ⟨i, j, rfl, rfl, q⟩⟩
theorem c_ge : Cmp S .GtE (rI0 fun i j => .bl (decide (j ≤ i))) geB := ⟨fun _ _ => op_ge, op_b2 fun i j H Q q => ⟨i, j, rfl, rfl, q⟩⟩
theorem c_eq : Cmp S .Eq (rEqD S.pg.K) eqB := ⟨fun Y ok => op_eqD (X := S.cx Y) ok.room.units, op_eqB⟩
theorem c_ne : Cmp S .NotEq (rNeD S.pg.K) neB := ⟨fun Y ok => op_neD (X := S.cx Y) ok.room.units, op_neB⟩
theorem c_is : Cmp S .Is rIsN isNoneB := ⟨fun _ _ => op_isN, op_isNoneB⟩
theorem c_nis : Cmp S .IsNot rNotN notNoneB := ⟨fun _ _ => op_notN, op_notNoneB⟩
theorem in_room {k : Nat} {A : Around} (r : Room k A) : A.units + 65 < cLine := by
  have := r.un
  omega
theorem c_in : Cmp S .In (rInA S.pg.K) (inB false) := ⟨fun Y ok => OpR.or (op_inD (X := S.cx Y) (in_room ok.room)) (op_inDT (X := S.cx Y) (in_room ok.room)), op_inB⟩
theorem c_nin : Cmp S .NotIn (rNotInA S.pg.K) (inB true) := ⟨fun Y ok => OpR.or (op_notInD (X := S.cx Y) (in_room ok.room)) (op_notInDT (X := S.cx Y) (in_room ok.room)), op_notInB⟩
theorem ee_cmp {op : CmpOp} {r : R2} {f : D → D → M Bool} (h : Cmp S op r f) (ha : EL S ρ a ma) (hb : EL S ρ b mb) (hm : behindInMarks op b = false) :
    EE S ρ (.Compare a [op] [b] pos) (ma >>= fun x => mb >>= fun y => f x y >>= fun b => pure (.bl b)) :=
  ex_binB ha hb (fun Y ok ta tb h1 h2 => pe_cmpR (h.op Y ok) h1 h2 hm) h.ok
theorem et_cmp {op : CmpOp} {r : R2} {f : D → D → M Bool} (h : Cmp S op r f) (ha : EL S ρ a ma) (hb : EL S ρ b mb) (hm : behindInMarks op b = false) :
    ET S ρ (.Compare a [op] [b] pos) (ma >>= fun x => mb >>= fun y => f x y) :=
  et_binB ha hb (fun Y ok ta tb h1 h2 => pt_cmpR (h.op Y ok) h1 h2 hm) h.ok
/-- a op1 b op2 c -/
def chainM (ma mb : M D) (f1 : D → D → M Bool) (mc : M D) (f2 : D → D → M Bool) : M Bool := ma >>= fun x => mb >>= fun y => f1 x y >>= fun k => if k = true then mc >>= fun z => f2 y z else pure false
theorem chain_core {op1 op2 : CmpOp} {r1 r2 : R2} {f1 f2 : D → D → M Bool} (h1 : Cmp S op1 r1 f1) (h2 : Cmp S op2 r2 f2) {Y : Dyn} {σ : L2.St} {H : Hp} {F : Fm} {g : Gs} {Q : VK}
    (E : ER S.pg F ρ σ g H) (q : (chainM ma mb f1 mc f2 g.st).Post (fun b st' => ∀ g' H', g'.st = st' → Stp S.pg g H g' H' → Q (.bl b) H') (Px S Y g H)) :
    tChain r1 r2 (rdX S Y ρ (RL S.pg) ma) (rdX S Y ρ (RL S.pg) mb) (rdX S Y ρ (RL S.pg) mc) σ H Q :=
  rdX.bind E q fun x v g' H' s E' r q => rdX.bind E' (q.imp (fun _ _ q => q) fun _ _ q => q.back E.wf s) fun y u g2 H2 s2 E2 r2 q =>
    h1.ok g2 H2 x y v u _ _ E2.wf (r.step E'.wf s2) r2 ((post_bind q).imp (fun b st' q e => ⟨b, rfl, by
      subst e
      have s3 := s.trans E.wf s2
      by_cases z : b = true
      · rw [if_pos z]
        rw [if_pos z] at q
        exact rdX.bind E2 (q.imp (fun _ _ q => q) fun _ _ q => Px.back E'.wf s2 q) fun w t g4 H4 s4 E4 r4 q =>
          h2.ok g4 H4 y w u t Q _ E4.wf (r2.step E2.wf s4) r4 (q.imp (fun b st' q e => q g4 H4 e.symm (s3.trans E.wf s4)) fun _ _ q => q)
      · rw [if_neg z]
        rw [if_neg z] at q
        have zb : b = false := by cases b with | true => exact absurd rfl z | false => rfl
        exact (post_pure q) g2 H2 rfl s3⟩) fun _ _ q => q)
theorem ee_chain {op1 op2 : CmpOp} {r1 r2 : R2} {f1 f2 : D → D → M Bool} (h1 : Cmp S op1 r1 f1) (h2 : Cmp S op2 r2 f2) (ha : EL S ρ a ma) (hb : EL S ρ b mb) (hc : EL S ρ c mc) (hm : lastMarks [op1, op2] [b, c] = false := by with_unfolding_all rfl) :
    EE S ρ (.Compare a [op1, op2] [b, c] pos) (chainM ma mb f1 mc f2 >>= fun b => pure (.bl b)) := fun Y ok => (pe_chain (h1.op Y ok) (h2.op Y ok) (ha Y ok) (hb Y ok) (hc Y ok) hm).pre fun σ H Q ⟨F, g, E, q⟩ =>
  chain_core h1 h2 E ((post_bind q).imp (fun b st' q g' H' e s => (post_pure q) (.bl b) g' H' e s (.bl b)) fun _ _ q => q)
theorem et_chain {op1 op2 : CmpOp} {r1 r2 : R2} {f1 f2 : D → D → M Bool} (h1 : Cmp S op1 r1 f1) (h2 : Cmp S op2 r2 f2) (ha : EL S ρ a ma) (hb : EL S ρ b mb) (hc : EL S ρ c mc) (hm : lastMarks [op1, op2] [b, c] = false := by with_unfolding_all rfl) :
    ET S ρ (.Compare a [op1, op2] [b, c] pos) (chainM ma mb f1 mc f2) := fun Y ok => (pt_chain (h1.op Y ok) (h2.op Y ok) (ha Y ok) (hb Y ok) (hc Y ok) hm).pre fun σ H Q ⟨F, g, E, q⟩ =>
  chain_core h1 h2 E (q.imp (fun b st' q g' H' e s => ⟨b, rfl, q g' H' e s⟩) fun _ _ q => q)
/-! ### truth, not, and, or, if -/
def truth : D → M Bool
  | .non => pure false
  | .bl b => pure b
  | .int i => pure (i != 0)
  | .str y => if y.length ≤ sizeLine then pure ((y.length : Int) != 0) else stuck
  | .tup xs => pure (!xs.isEmpty)
  | .lst xs => pure (!xs.isEmpty)
  | .rls xs => pure (!xs.isEmpty)
  | .dct _ => stuck
  | .ref k => getC k >>= fun c => match c with
    | .lst xs => pure (!xs.isEmpty)
    | _ => stuck
theorem Rps.isEmpty {p : Pg} {g : Gs} {xs : List V} {ds : List D} (r : p.Rps g xs ds) : (!ds.isEmpty) = !xs.isEmpty := by
  cases r <;> rfl
theorem truth_ok {p : Pg} {g : Gs} {H : Hp} {v : V} {x : D} {ok : Bool → Store → Prop} {ex : Nat → Store → Prop} (w : Wf p g H) (hx : TopR p g H v x) (q : (truth x g.st).Post ok ex) : ∃ k, TruV p.K v H k ∧ ok k g.st := by
  cases x with
  | non => obtain rfl := hx.non; exact ⟨_, rfl, post_pure q⟩
  | bl b => obtain rfl := hx.bl; exact ⟨_, rfl, post_pure q⟩
  | int i => obtain rfl := hx.int; exact ⟨_, rfl, post_pure q⟩
  | str y =>
    obtain rfl := hx.str
    unfold truth at q
    by_cases z : y.length ≤ sizeLine
    · simp only [if_pos z] at q
      exact ⟨_, ⟨z, rfl⟩, post_pure q⟩
    · simp only [if_neg z] at q
      exact False.elim q
  | tup xs =>
    obtain ⟨a, us, rfl, s, r⟩ := hx.tup w
    exact ⟨_, .inr (.inl ⟨us, s, r.isEmpty⟩), post_pure q⟩
  | lst xs =>
    obtain ⟨a, us, rfl, s, r⟩ := hx.lst w
    exact ⟨_, .inl ⟨us, SqL.of s, r.isEmpty⟩, post_pure q⟩
  | rls xs =>
    obtain ⟨a, us, rfl, s, r⟩ := hx.rls w
    exact ⟨_, .inl ⟨us, s, r.isEmpty⟩, post_pure q⟩
  | dct es => exact False.elim q
  | ref k =>
    obtain ⟨a, rfl, e⟩ := hx.ref
    obtain ⟨c, e2, r⟩ := w.at_ref e
    have q : ((getC k >>= fun c => match c with
      | .lst xs => pure (!xs.isEmpty)
      | _ => stuck) g.st).Post ok ex := q
    rw [bind_run] at q
    unfold getC at q
    rw [e2] at q
    cases c with
    | lst xs =>
      obtain ⟨us, s, r⟩ := r
      exact ⟨_, .inl ⟨us, SqL.of s, r.isEmpty⟩, post_pure q⟩
    | _ => exact False.elim q
theorem et_truth (ha : EL S ρ a ma) (he : ∀ (env : Env) (whole : Sem Value), isTrue a env whole = (do let v ← whole; standAt a.pos; holding [v] (truthy v))) : ET S ρ a (ma >>= truth) := fun Y ok =>
  (pt_truth (ha Y ok) (he _)).pre fun σ H Q ⟨F, g, E, q⟩ => rdX.bind E q fun x v g' H' s E' r q => by
    obtain ⟨k, t, q⟩ := truth_ok E'.wf r q
    exact ⟨k, t, q g' H' rfl s⟩
theorem ee_not (ha : EL S ρ a ma) : EE S ρ (.UnaryOp .Not a pos) (ma >>= truth >>= fun b => pure (.bl (!b))) := fun Y ok =>
  (pe_notT (ha Y ok)).pre fun σ H Q ⟨F, g, E, q⟩ => by
    rw [bind_assoc'] at q
    exact rdX.bind E q fun x v g' H' s E' r q => by
      obtain ⟨k, t, q⟩ := truth_ok E'.wf r (post_bind q)
      exact ⟨k, t, (post_pure q) (.bl (!k)) g' H' rfl s (.bl _)⟩
theorem et_not {m : M Bool} (ha : ET S ρ a m) : ET S ρ (.UnaryOp .Not a pos) (m >>= fun b => pure (!b)) := fun Y ok =>
  (pt_not (ha Y ok)).pre fun σ H Q ⟨F, g, E, q⟩ => rdT.bind E q fun b g' H' s E' q => (post_pure q) g' H' rfl s
variable {rest : List Expr} {t u : M Bool}
theorem ew_and1 (ha : ET S ρ a t) : EW S ρ (.BoolOp .And [a] pos) t := fun Y ok => pw_and1 (ha Y ok)
theorem ew_or1 (ha : ET S ρ a t) : EW S ρ (.BoolOp .Or [a] pos) t := fun Y ok => pw_or1 (ha Y ok)
theorem ew_and (ha : ET S ρ a t) (hb : EW S ρ (.BoolOp .And (b :: rest) pos) u) : EW S ρ (.BoolOp .And (a :: b :: rest) pos) (t >>= fun k => if k = true then u else pure false) := fun Y ok =>
  (pw_and (ha Y ok) (hb Y ok)).pre fun σ H Q ⟨F, g, E, q⟩ => rdT.bind E q fun b g' H' s E' q => by
    by_cases z : b = true
    · rw [if_pos z]
      rw [if_pos z] at q
      exact ⟨F, g', E', q.imp (fun b st' q g2 H2 e s2 => q g2 H2 e (s.trans E.wf s2)) fun _ _ q => q.back E.wf s⟩
    · rw [if_neg z]
      rw [if_neg z] at q
      exact (post_pure q) g' H' rfl s
theorem ew_or (ha : ET S ρ a t) (hb : EW S ρ (.BoolOp .Or (b :: rest) pos) u) : EW S ρ (.BoolOp .Or (a :: b :: rest) pos) (t >>= fun k => if k = true then pure true else u) := fun Y ok =>
  (pw_or (ha Y ok) (hb Y ok)).pre fun σ H Q ⟨F, g, E, q⟩ => rdT.bind E q fun b g' H' s E' q => by
    by_cases z : b = true
    · rw [if_pos z]
      rw [if_pos z] at q
      exact (post_pure q) g' H' rfl s
    · rw [if_neg z]
      rw [if_neg z] at q
      exact ⟨F, g', E', q.imp (fun b st' q g2 H2 e s2 => q g2 H2 e (s.trans E.wf s2)) fun _ _ q => q.back E.wf s⟩
theorem et_w (h : EW S ρ a t) : ET S ρ a t := fun Y ok => (h Y ok).pt
/-- and, or as values -/
theorem ee_one {op : BoolOp} (h : EX S ρ R a ma) : EX S ρ R (.BoolOp op [a] pos) ma := fun Y ok => pe_one (h Y ok)
theorem ee_and2 (ha : EE S ρ a ma) (hb : EE S ρ (.BoolOp .And (b :: rest) pos) mb) : EE S ρ (.BoolOp .And (a :: b :: rest) pos) (ma >>= fun x => truth x >>= fun k => if k = true then mb else pure x) := fun Y ok =>
  (pe_andT (ha Y ok) (hb Y ok)).pre fun σ H Q ⟨F, g, E, q⟩ => rdX.bind E q fun x v g' H' s E' r q => by
    obtain ⟨k, t, q⟩ := truth_ok E'.wf (.inl r) (post_bind q)
    refine ⟨k, t, ?_⟩
    by_cases z : k = true
    · rw [if_pos z]
      rw [if_pos z] at q
      exact ⟨F, g', E', q.imp (fun _ _ q => q.back back_RE E.wf s) fun _ _ q => q.back E.wf s⟩
    · rw [if_neg z]
      rw [if_neg z] at q
      exact (post_pure q) v g' H' rfl s r
theorem ee_or2 (ha : EE S ρ a ma) (hb : EE S ρ (.BoolOp .Or (b :: rest) pos) mb) : EE S ρ (.BoolOp .Or (a :: b :: rest) pos) (ma >>= fun x => truth x >>= fun k => if k = true then pure x else mb) := fun Y ok =>
  (pe_orT (ha Y ok) (hb Y ok)).pre fun σ H Q ⟨F, g, E, q⟩ => rdX.bind E q fun x v g' H' s E' r q => by
    obtain ⟨k, t, q⟩ := truth_ok E'.wf (.inl r) (post_bind q)
    refine ⟨k, t, ?_⟩
    by_cases z : k = true
    · rw [if_pos z]
      rw [if_pos z] at q
      exact (post_pure q) v g' H' rfl s r
    · rw [if_neg z]
      rw [if_neg z] at q
      exact ⟨F, g', E', q.imp (fun _ _ q => q.back back_RE E.wf s) fun _ _ q => q.back E.wf s⟩
theorem ex_if (hR : Back S.pg R) (hc : ET S ρ c t) (ha : EX S ρ R a ma) (hb : EX S ρ R b mb) : EX S ρ R (.IfExp c a b pos) (t >>= fun k => if k = true then ma else mb) := fun Y ok =>
  (pe_ifExp (hc Y ok) (ha Y ok) (hb Y ok)).pre fun σ H Q ⟨F, g, E, q⟩ => rdT.bind E q fun k g' H' s E' q => by
    by_cases z : k = true
    · rw [if_pos z]
      rw [if_pos z] at q
      exact ⟨F, g', E', q.imp (fun _ _ q => q.back hR E.wf s) fun _ _ q => q.back E.wf s⟩
    · rw [if_neg z]
      rw [if_neg z] at q
      exact ⟨F, g', E', q.imp (fun _ _ q => q.back hR E.wf s) fun _ _ q => q.back E.wf s⟩
/-! ### argument lists, displays -/
def items : D → M (List D)
  | .tup ds => pure ds
  | .lst ds => pure ds
  | .rls ds => pure ds
  | _ => stuck
variable {es : List Expr} {e : Expr} {m : M D} {ms : M (List D)} {spos : Pos}
theorem ea_nil : EA S ρ [] (pure []) := fun Y ok => pa_nil.pre fun σ H Q ⟨F, g, E, q⟩ => (post_pure q) [] g H rfl (.refl E.wf) .nil
theorem ea_cons (he : EE S ρ e m) (hr : EA S ρ es ms) (hs : ∀ env : Env, starEach (e :: es) env = (false, eval e env) :: starEach es env := by intro _; rfl) : EA S ρ (e :: es) (m >>= fun d => ms >>= fun ds => pure (d :: ds)) := fun Y ok =>
  (pa_cons (he Y ok) (hr Y ok) (hs _)).pre fun σ H Q ⟨F, g, E, q⟩ => rdX.bind E q fun x v g' H' s E' r q => rdA.bind E' (q.imp (fun _ _ q => q) fun _ _ q => q.back E.wf s) fun xs vs g2 H2 s2 E2 r2 q =>
    (post_pure q) (v :: vs) g2 H2 rfl (s.trans E.wf s2) (.cons (r.mono s2.gle s2.aml) r2)
theorem items_ok {p : Pg} {g : Gs} {H : Hp} {v : V} {x : D} {ok : List D → Store → Prop} {ex : Nat → Store → Prop} (w : Wf p g H) (hx : TopR p g H v x) (q : (items x g.st).Post ok ex) :
    ∃ a xs ds, v = .ref a ∧ (SqT p.K H a xs ∨ SqL p.K H a xs) ∧ p.Rps g xs ds ∧ ok ds g.st := by
  cases x with
  | tup ds => obtain ⟨a, us, rfl, s, r⟩ := hx.tup w; exact ⟨a, us, ds, rfl, .inl s, r, post_pure q⟩
  | lst ds => obtain ⟨a, us, rfl, s, r⟩ := hx.lst w; exact ⟨a, us, ds, rfl, .inr (SqL.of s), r, post_pure q⟩
  | rls ds => obtain ⟨a, us, rfl, s, r⟩ := hx.rls w; exact ⟨a, us, ds, rfl, .inr s, r, post_pure q⟩
  | _ => exact False.elim q
theorem ea_star (he : EL S ρ e m) (hr : EA S ρ es ms) : EA S ρ (.Starred e spos :: es) (m >>= fun d => items d >>= fun xs => ms >>= fun ds => pure (xs ++ ds)) := fun Y ok =>
  (StX.pa_star (X := S.cx Y) (he Y ok) (hr Y ok)).pre fun σ H Q ⟨F, g, E, q⟩ => rdX.bind E q fun x v g' H' s E' r q => by
    obtain ⟨a, us, ds, rfl, hq, rr, q⟩ := items_ok E'.wf r (post_bind q)
    exact ⟨a, us, rfl, hq, rdA.bind E' (q.imp (fun _ _ q => q) fun _ _ q => q.back E.wf s) fun xs vs g2 H2 s2 E2 r2 q =>
      (post_pure q) (us ++ vs) g2 H2 rfl (s.trans E.wf s2) ((rr.mono s2.gle s2.aml).append r2)⟩
def mkT (ds : List D) : M D := if ds.length ≤ sizeLine then pure (.tup ds) else stuck
def mkL (ds : List D) : M D := if ds.length ≤ sizeLine then pure (.lst ds) else stuck
theorem ee_tup {k : Nat} (h : EA S ρ es ms) : EE S ρ (.Tuple es k pos) (ms >>= mkT) := fun Y ok =>
  (pe_tup (h Y ok)).pre fun σ H Q ⟨F, g, E, q⟩ => rdA.bind E q fun ds vs g' H' s E' r q => by
    unfold mkT at q
    by_cases z : ds.length ≤ sizeLine
    · rw [if_pos z] at q
      refine ⟨by rw [r.length]; exact z, fun l hl => ?_⟩
      have s2 := Stp.new (o := .tup vs) E'.wf hl
      exact (post_pure q) _ { g' with G := upd g'.G l (.tup vs) } _ rfl (s.trans E.wf s2) (.tup (.inl (.inl upd_same)) (r.mono s2.gle s2.aml))
    · rw [if_neg z] at q
      exact False.elim q
theorem en_lst (h : EA S ρ es ms) : EN S ρ (.List es pos) (ms >>= mkL) := fun Y ok =>
  (pe_lst (h Y ok)).pre fun σ H Q ⟨F, g, E, q⟩ => rdA.bind E q fun ds vs g' H' s E' r q => by
    unfold mkL at q
    by_cases z : ds.length ≤ sizeLine
    · rw [if_pos z] at q
      refine ⟨by rw [r.length]; exact z, fun l hl => ?_⟩
      have s2 := Stp.laid (o := .lst vs) E'.wf hl
      exact (post_pure q) _ g' _ rfl (s.trans E.wf s2) ⟨l, rfl, ⟨_, upd_same, r⟩, E'.wf.freeG hl, E'.wf.freeA hl, s.none_of E.wf hl⟩
    · rw [if_neg z] at q
      exact False.elim q
end
end DL
namespace DL
open PySem PySem.Spec PyProof.Rows L2
/-! ### subscripts -/
def ixL (ds : List D) (i : Int) : M D := match atI ds i with
  | some d => pure d
  | none => stuck
def ixD : D → D → M D
  | .tup ds, .int i => ixL ds i
  | .lst ds, .int i => ixL ds i
  | .rls ds, .int i => ixL ds i
  | .ref k, .int i => getC k >>= fun c => match c with
    | .lst ds => ixL ds i
    | _ => stuck
  | _, _ => stuck
theorem Rps.atI {K : PySem.W.Frag} {G : Hp} {am : List Addr} {vs : List V} {ds : List D} {i : Int} {d : D} (r : DL.Rps K G am vs ds) (h : L2.atI ds i = some d) : ∃ v, L2.atI vs i = some v ∧ DL.Rp K G am v d := by
  unfold L2.atI at h ⊢
  rw [r.length]
  cases e : ixN ds.length i with
  | none => rw [e] at h; cases h
  | some j =>
    rw [e] at h
    exact r.get h
section
variable {S : Sta} {ρ : Ev} {a b c : Expr} {ma mb mc : M D} {pos : Pos} {R : Rel}
theorem ixL_post {ds : List D} {i : Int} {s : Store} {ok : D → Store → Prop} {ex : Nat → Store → Prop} (q : (ixL ds i s).Post ok ex) : ∃ d, L2.atI ds i = some d ∧ ok d s := by
  unfold ixL at q
  cases e : L2.atI ds i with
  | none => rw [e] at q; exact False.elim q
  | some d => rw [e] at q; exact ⟨d, rfl, q⟩
def rIxA (K : PySem.W.Frag) : R2 := fun x y H Q => rIxL K x y H Q ∨ rIxT K x y H Q
theorem op_ixD {p : Pg} : Op2 p (rIxA p.K) ixD (RE p) := by
  intro g H x y vx vy Q E w hx hy q
  cases y with
  | int i =>
    obtain rfl := hy.int
    cases x with
    | tup ds =>
      obtain ⟨a, us, rfl, s, r⟩ := hx.tup w
      obtain ⟨d, e, q⟩ := ixL_post q
      obtain ⟨v, ev, rv⟩ := r.atI e
      exact .inr ⟨a, us, i, v, rfl, rfl, s, ev, Pv.now w q rv⟩
    | lst ds =>
      obtain ⟨a, us, rfl, s, r⟩ := hx.lst w
      obtain ⟨d, e, q⟩ := ixL_post q
      obtain ⟨v, ev, rv⟩ := r.atI e
      exact .inl ⟨a, us, i, v, rfl, rfl, SqL.of s, ev, Pv.now w q rv⟩
    | rls ds =>
      obtain ⟨a, us, rfl, s, r⟩ := hx.rls w
      obtain ⟨d, e, q⟩ := ixL_post q
      obtain ⟨v, ev, rv⟩ := r.atI e
      exact .inl ⟨a, us, i, v, rfl, rfl, s, ev, Pv.now w q rv⟩
    | ref k =>
      obtain ⟨a, rfl, e⟩ := hx.ref
      obtain ⟨c, e2, r⟩ := w.at_ref e
      have q : ((getC k >>= fun c => match c with
        | .lst ds => ixL ds i
        | _ => stuck) g.st).Post (Pv p (RE p) g H Q) E := q
      rw [bind_run] at q
      unfold getC at q
      rw [e2] at q
      cases c with
      | lst ds =>
        obtain ⟨us, s, r⟩ := r
        obtain ⟨d, e, q⟩ := ixL_post q
        obtain ⟨v, ev, rv⟩ := r.atI e
        exact .inl ⟨a, us, i, v, rfl, rfl, SqL.of s, ev, Pv.now w q rv⟩
      | _ => exact False.elim q
    | _ => exact False.elim q
  | _ => cases x <;> exact False.elim q
theorem ee_ix (ha : EL S ρ a ma) (hb : EL S ρ b mb) (hs : PlainIx b) : EE S ρ (.Subscript a b pos) (ma >>= fun x => mb >>= fun y => ixD x y) :=
  ex_bin back_RE ha hb (fun Y ok ta tb h1 h2 => pe_ix (IxR.or ix_list ix_tup) h1 h2 hs) op_ixD
/-! ### slices -/
/-- a slice's part -/
def EO (S : Sta) (ρ : Ev) (e : Option Expr) (m : M (Option Int)) : Prop := ∀ Y, OkY S Y → PO (S.cx Y) e (fun σ H Q => ∃ F g, ER S.pg F ρ σ g H ∧ (m g.st).Post (fun o st' => ∀ g' H', g'.st = st' → Stp S.pg g H g' H' → Q o H') (Px S Y g H))
def intM : D → M (Option Int)
  | .int i => pure (some i)
  | _ => stuck
theorem PO_pre {X : Cx} {e : Option Expr} {t t' : TO} (h : PO X e t) (k : ∀ σ H Q, t' σ H Q → t σ H Q) : PO X e t' :=
  ⟨fun pins s σ H Q I q => h.run pins s σ H Q I (k σ H Q q)⟩
theorem eo_none : EO S ρ none (pure none) := fun Y ok => PO_pre po_none fun σ H Q ⟨F, g, E, q⟩ => (post_pure q) g H rfl (.refl E.wf)
theorem eo_some (ha : EL S ρ a ma) : EO S ρ (some a) (ma >>= intM) := fun Y ok => PO_pre (po_some (ha Y ok)) fun σ H Q ⟨F, g, E, q⟩ => rdX.bind E q fun x v g' H' s E' r q => by
  cases x with
  | int i =>
    obtain rfl := r.int
    exact ⟨i, rfl, (post_pure q) g' H' rfl s⟩
  | _ => exact False.elim q
/-- the items of xs[lo:hi] -/
def cut {α : Type} (xs : List α) (lo hi : Option Int) : List α := (xs.drop (HT.sIx xs.length 0 lo)).take (HT.sIx xs.length xs.length hi - HT.sIx xs.length 0 lo)
def slT (lo hi : Option Int) : D → M D
  | .tup ds => pure (.tup (cut ds lo hi))
  | _ => stuck
def slL (lo hi : Option Int) : D → M D
  | .lst ds => pure (.lst (cut ds lo hi))
  | .rls ds => pure (.lst (cut ds lo hi))
  | _ => stuck
theorem Rps.cut {K : PySem.W.Frag} {G : Hp} {am : List Addr} {vs : List V} {ds : List D} (r : DL.Rps K G am vs ds) (lo hi : Option Int) : DL.Rps K G am (cutV vs lo hi) (DL.cut ds lo hi) := by
  unfold cutV DL.cut
  rw [r.length]
  exact (r.drop _).take _
variable {lo hi : Option Expr} {ml mh : M (Option Int)} {p2 : Pos}
theorem sl_core {r : V → Option Int → Option Int → Hp → VK → Prop} {f : Option Int → Option Int → D → M D} (hR : Back S.pg R) (ha : EL S ρ a ma) (hl : EO S ρ lo ml) (hh : EO S ρ hi mh) (hr : ∀ Y : Dyn, SlR (S.cx Y) r)
    (ho : ∀ (g : Gs) (H : Hp) (x : D) (vx : V) (l h : Option Int) (Q : VK) (E : Nat → Store → Prop), Wf S.pg g H → TopR S.pg g H vx x → (f l h x g.st).Post (Pv S.pg R g H Q) E → r vx l h H Q) :
    EX S ρ R (.Subscript a (.Slice lo hi none p2) pos) (ma >>= fun x => ml >>= fun l => mh >>= fun h => f l h x) := fun Y ok =>
  (pe_slice (hr Y) (ha Y ok) (hl Y ok) (hh Y ok)).pre fun σ H Q ⟨F, g, E, q⟩ => rdX.bind E q fun x v g' H' s E' r q =>
    ⟨F, g', E', (post_bind q).imp (fun l st' q g2 H2 e s2 => by
      subst e
      have E2 := E'.step s2
      exact ⟨F, g2, E2, (post_bind q).imp (fun h st' q g3 H3 e s3 => by
        subst e
        have s5 := (s.trans E.wf s2).trans E.wf s3
        exact ho g3 H3 x v l h Q _ (E2.step s3).wf ((r.step E'.wf s2).step E2.wf s3) (q.imp (fun _ _ q => q.back hR E.wf s5) fun _ _ q => q)) fun _ _ q => q.back E.wf (s.trans E.wf s2)⟩) fun _ _ q => q.back E.wf s⟩
theorem ee_slT (ha : EL S ρ a ma) (hl : EO S ρ lo ml) (hh : EO S ρ hi mh) : EE S ρ (.Subscript a (.Slice lo hi none p2) pos) (ma >>= fun x => ml >>= fun l => mh >>= fun h => slT l h x) :=
  sl_core (r := rSlA S.pg.K) back_RE ha hl hh (fun Y => sl_tupA (X := S.cx Y)) fun g H x vx l h Q E w hx q => by
    cases x with
    | tup ds =>
      have q := post_pure q
      have hx2 := hx.cases fun _ o => o
      obtain ⟨a, us, rfl, s, r⟩ := hx.tup w
      have hlen := r.length
      refine ⟨a, us, rfl, s, fun z => Pv.now w q ?_, fun z l2 hl => ?_⟩
      · have e : cut ds l h = ds := by
          unfold cut
          rw [← hlen, z.1, z.2, List.drop_zero, Nat.sub_zero, hlen, List.take_length]
        rw [e]
        exact hx2
      · have s2 := Stp.new (o := .tup (cutV us l h)) w hl
        exact q _ { g with G := upd g.G l2 (.tup (cutV us l h)) } _ rfl s2 (.tup (.inl (.inl upd_same)) ((r.cut l h).mono s2.gle s2.aml))
    | _ => exact False.elim q
theorem en_slL (ha : EL S ρ a ma) (hl : EO S ρ lo ml) (hh : EO S ρ hi mh) : EN S ρ (.Subscript a (.Slice lo hi none p2) pos) (ma >>= fun x => ml >>= fun l => mh >>= fun h => slL l h x) :=
  sl_core (r := rSlL S.pg.K) back_RN ha hl hh (fun Y => sl_list (X := S.cx Y)) fun g H x vx l h Q E w hx q => by
    have core : ∀ (a : Addr) (us : List V) (ds : List D), SqL S.pg.K H a us → S.pg.Rps g us ds → Pv S.pg (RN S.pg) g H Q (.lst (cut ds l h)) g.st → rSlL S.pg.K (.ref a) l h H Q := fun a us ds s r q =>
      ⟨a, us, rfl, s, fun l2 hl => q _ g _ rfl (Stp.laid w hl) ⟨l2, rfl, ⟨_, upd_same, r.cut l h⟩, w.freeG hl, w.freeA hl, hl⟩⟩
    cases x with
    | lst ds =>
      obtain ⟨a, us, rfl, s, r⟩ := hx.lst w
      exact core a us ds (SqL.of s) r (post_pure q)
    | rls ds =>
      obtain ⟨a, us, rfl, s, r⟩ := hx.rls w
      exact core a us ds s r (post_pure q)
    | _ => exact False.elim q
/-! ### calls of built-ins -/
/-- a call with one value -/
def Op1C (p : Pg) (r : List V → Hp → VK → Prop) (f : D → M D) (R : Rel) : Prop := ∀ (g : Gs) (H : Hp) (x : D) (vx : V) (Q : VK) (E : Nat → Store → Prop), Wf p g H → TopR p g H vx x → (f x g.st).Post (Pv p R g H Q) E → r [vx] H Q
def Op2C (p : Pg) (r : List V → Hp → VK → Prop) (f : D → D → M D) (R : Rel) : Prop := ∀ (g : Gs) (H : Hp) (x y : D) (vx vy : V) (Q : VK) (E : Nat → Store → Prop), Wf p g H → TopR p g H vx x → TopR p g H vy y → (f x y g.st).Post (Pv p R g H Q) E → r [vx, vy] H Q
/-- a built-in, found by its name -/
structure Blt (S : Sta) (x : Str) (u : Value) : Prop where
  gl : S.sc.names.lookup x = some .globalImplicit
  mg : S.pg.mg x = none
  boot : bootBuiltins x = some u
  n1 : x ≠ "__name__"
  n2 : (x == ("__debug__" : Str)) = false
theorem Blt.mk' {x : Str} {u : Value} (gl : S.sc.names.lookup x = some .globalImplicit) (mg : S.pg.mg x = none) (boot : bootBuiltins x = some u) (n1 : x ≠ "__name__" := by decide) (n2 : (x == ("__debug__" : Str)) = false := by decide) : Blt S x u := ⟨gl, mg, boot, n1, n2⟩
def NoStar (es : List Expr) : Prop := ∀ env : Env, starEach es env = es.map fun e => (false, eval e env)
variable {x : Str} {bid T : String} {p : Pos}
theorem ex_b1 {r : List V → Hp → VK → Prop} {f : D → M D} (hR : Back S.pg R) (hc : ∀ Y : Dyn, OkY S Y → CallR (S.cx Y) (.builtin bid) r) (ho : Op1C S.pg r f R) (B : Blt S x (.builtin bid)) (ha : EL S ρ a ma) (hs : NoStar [a] := by intro _; rfl) :
    EX S ρ R (.Call (.Name x p) [a] [] pos) (ma >>= f) := fun Y ok =>
  (pe_callB (X := S.cx Y) (hc Y ok) B.gl B.mg B.boot (pa_cons (ha Y ok) pa_nil (hs _)) B.n1 B.n2 (hs _) rfl).pre fun σ H Q ⟨F, g, E, q⟩ =>
    rdX.bind E q fun x v g' H' s E' r q => ho g' H' x v Q _ E'.wf r (q.imp (fun _ _ q => q.back hR E.wf s) fun _ _ q => q)
theorem ex_t1 {r : List V → Hp → VK → Prop} {f : D → M D} (hR : Back S.pg R) (hc : ∀ Y : Dyn, OkY S Y → CallR (S.cx Y) (.type T) r) (ho : Op1C S.pg r f R) (B : Blt S x (.type T)) (ha : EL S ρ a ma) (hs : NoStar [a] := by intro _; rfl) :
    EX S ρ R (.Call (.Name x p) [a] [] pos) (ma >>= f) := fun Y ok =>
  (pe_callTy (X := S.cx Y) (hc Y ok) B.gl B.mg B.boot (pa_cons (ha Y ok) pa_nil (hs _)) B.n1 B.n2 (hs _) rfl).pre fun σ H Q ⟨F, g, E, q⟩ =>
    rdX.bind E q fun x v g' H' s E' r q => ho g' H' x v Q _ E'.wf r (q.imp (fun _ _ q => q.back hR E.wf s) fun _ _ q => q)
theorem ex_b2 {r : List V → Hp → VK → Prop} {f : D → D → M D} (hR : Back S.pg R) (hc : ∀ Y : Dyn, OkY S Y → CallR (S.cx Y) (.builtin bid) r) (ho : Op2C S.pg r f R) (B : Blt S x (.builtin bid)) (ha : EL S ρ a ma) (hb : EL S ρ b mb)
    (hs : NoStar [a, b] := by intro _; rfl) (hs2 : NoStar [b] := by intro _; rfl) : EX S ρ R (.Call (.Name x p) [a, b] [] pos) (ma >>= fun x => mb >>= fun y => f x y) := fun Y ok =>
  (pe_callB (X := S.cx Y) (hc Y ok) B.gl B.mg B.boot (pa_cons (ha Y ok) (pa_cons (hb Y ok) pa_nil (hs2 _)) (by rw [hs2 _]; exact hs _)) B.n1 B.n2 (by rw [hs2 _]; exact hs _) (by rw [hs2 _]; rfl)).pre fun σ H Q ⟨F, g, E, q⟩ =>
    rdX.bind E q fun x v g' H' s E' r q => rdX.bind E' (q.imp (fun _ _ q => q) fun _ _ q => q.back E.wf s) fun y u g2 H2 s2 E2 r2 q =>
      ho g2 H2 x y v u Q _ E2.wf (r.step E'.wf s2) r2 (q.imp (fun _ _ q => q.back hR E.wf (s.trans E.wf s2)) fun _ _ q => q)
/-! len -/
def lenD : D → M D
  | .tup ds => pure (.int ds.length)
  | .lst ds => pure (.int ds.length)
  | .rls ds => pure (.int ds.length)
  | .ref k => getC k >>= fun c => match c with
    | .lst ds => pure (.int ds.length)
    | _ => stuck
  | _ => stuck
theorem op_lenD {p : Pg} : Op1C p (fun xs H Q => ∃ q ys, xs = [.ref q] ∧ (SqL p.K H q ys ∨ SqT p.K H q ys) ∧ Q (.int ys.length) H) lenD (RE p) := by
  intro g H x vx Q E w hx q
  have fin : ∀ {us : List V} {ds : List D}, p.Rps g us ds → Pv p (RE p) g H Q (.int ds.length) g.st → Q (.int us.length) H := fun {us ds} r q => Pv.now w q (by rw [← r.length]; exact .int _)
  cases x with
  | tup ds =>
    obtain ⟨a, us, rfl, s, r⟩ := hx.tup w
    exact ⟨a, us, rfl, .inr s, fin r (post_pure q)⟩
  | lst ds =>
    obtain ⟨a, us, rfl, s, r⟩ := hx.lst w
    exact ⟨a, us, rfl, .inl (SqL.of s), fin r (post_pure q)⟩
  | rls ds =>
    obtain ⟨a, us, rfl, s, r⟩ := hx.rls w
    exact ⟨a, us, rfl, .inl s, fin r (post_pure q)⟩
  | ref k =>
    obtain ⟨a, rfl, e⟩ := hx.ref
    obtain ⟨c, e2, r⟩ := w.at_ref e
    have q : ((getC k >>= fun c => match c with
      | .lst ds => pure (.int ds.length)
      | _ => stuck) g.st).Post (Pv p (RE p) g H Q) E := q
    rw [bind_run] at q
    unfold getC at q
    rw [e2] at q
    cases c with
    | lst ds =>
      obtain ⟨us, s, r⟩ := r
      exact ⟨a, us, rfl, .inl (SqL.of s), fin r (post_pure q)⟩
    | _ => exact False.elim q
  | _ => exact False.elim q
theorem ee_len (B : Blt S "len" (.builtin "len")) (ha : EL S ρ a ma) (hs : NoStar [a] := by intro _; rfl) : EE S ρ (.Call (.Name "len" p) [a] [] pos) (ma >>= lenD) :=
  ex_b1 back_RE (fun Y _ => call_len_seq) op_lenD B ha hs
/-! sum, any, all, max, min, sorted of lists of ints, of truths -/
def sumD : D → M D
  | .lst ds => match dints ds with
    | some ns => pure (.int ns.sum)
    | none => stuck
  | _ => stuck
def anyD : D → M D
  | .lst ds => match dbools ds with
    | some bs => pure (.bl (bs.any id))
    | none => stuck
  | _ => stuck
def allD : D → M D
  | .lst ds => match dbools ds with
    | some bs => pure (.bl (bs.all id))
    | none => stuck
  | _ => stuck
def maxI : List Int → Int
  | [] => 0
  | [x] => x
  | x :: r => max x (maxI r)
def minI : List Int → Int
  | [] => 0
  | [x] => x
  | x :: r => min x (minI r)
def maxD : D → M D
  | .lst ds => match dints ds with
    | some ns => if ns.isEmpty then stuck else pure (.int (maxI ns))
    | none => stuck
  | _ => stuck
def minD : D → M D
  | .lst ds => match dints ds with
    | some ns => if ns.isEmpty then stuck else pure (.int (minI ns))
    | none => stuck
  | _ => stuck
theorem maxI_cons (x y : Int) (r : List Int) : maxI (x :: y :: r) = max x (maxI (y :: r)) := rfl
theorem minI_cons (x y : Int) (r : List Int) : minI (x :: y :: r) = min x (minI (y :: r)) := rfl
theorem maxI_mem : ∀ {ns : List Int}, ns ≠ [] → maxI ns ∈ ns
  | [], h => absurd rfl h
  | [x], _ => List.mem_cons_self
  | x :: y :: r, _ => by
    have ih := maxI_mem (ns := y :: r) (List.cons_ne_nil _ _)
    rw [maxI_cons]
    by_cases h : x ≤ maxI (y :: r)
    · rw [Int.max_eq_right h]; exact List.mem_cons_of_mem _ ih
    · rw [Int.max_eq_left (by omega)]; exact List.mem_cons_self
theorem maxI_ge : ∀ {ns : List Int} {a : Int}, a ∈ ns → a ≤ maxI ns
  | [x], a, h => by rw [List.mem_singleton.mp h]; exact Int.le_refl _
  | x :: y :: r, a, h => by
    rw [maxI_cons]
    rcases List.mem_cons.mp h with e | h
    · rw [e]; omega
    · have := maxI_ge h; omega
theorem minI_mem : ∀ {ns : List Int}, ns ≠ [] → minI ns ∈ ns
  | [], h => absurd rfl h
  | [x], _ => List.mem_cons_self
  | x :: y :: r, _ => by
    have ih := minI_mem (ns := y :: r) (List.cons_ne_nil _ _)
    rw [minI_cons]
    by_cases h : x ≤ minI (y :: r)
    · rw [Int.min_eq_left h]; exact List.mem_cons_self
    · rw [Int.min_eq_right (by omega)]; exact List.mem_cons_of_mem _ ih
theorem minI_le : ∀ {ns : List Int} {a : Int}, a ∈ ns → minI ns ≤ a
  | [x], a, h => by rw [List.mem_singleton.mp h]; exact Int.le_refl _
  | x :: y :: r, a, h => by
    rw [minI_cons]
    rcases List.mem_cons.mp h with e | h
    · rw [e]; omega
    · have := minI_le h; omega
/-- a list of ints, read -/
theorem lst_ints {p : Pg} {g : Gs} {H : Hp} {v : V} {ds : List D} {ns : List Int} (w : Wf p g H) (hx : TopR p g H v (.lst ds)) (e : dints ds = some ns) : ∃ a, v = .ref a ∧ SqL p.K H a (ns.map V.int) ∧ H a = some (.lst (ns.map V.int)) := by
  obtain ⟨a, us, rfl, s, r⟩ := hx.lst w
  rw [ints_eq e] at r
  have := r.toInts
  subst this
  exact ⟨a, rfl, SqL.of s, s⟩
theorem lst_bools {p : Pg} {g : Gs} {H : Hp} {v : V} {ds : List D} {ns : List Bool} (w : Wf p g H) (hx : TopR p g H v (.lst ds)) (e : dbools ds = some ns) : ∃ a, v = .ref a ∧ SqL p.K H a (ns.map V.bl) := by
  obtain ⟨a, us, rfl, s, r⟩ := hx.lst w
  rw [bools_eq e] at r
  have := r.toBools
  subst this
  exact ⟨a, rfl, SqL.of s⟩
theorem op_sumD {p : Pg} : Op1C p (rSum p.K) sumD (RE p) := by
  intro g H x vx Q E w hx q
  cases x with
  | lst ds =>
    unfold sumD at q
    cases e : dints ds with
    | none => simp only [e] at q; exact False.elim q
    | some ns =>
      simp only [e] at q
      obtain ⟨a, rfl, s, _⟩ := lst_ints w hx e
      exact ⟨a, ns, rfl, s, Pv.now w (post_pure q) (.int _)⟩
  | _ => exact False.elim q
theorem op_anyD {p : Pg} : Op1C p (rAny p.K) anyD (RE p) := by
  intro g H x vx Q E w hx q
  cases x with
  | lst ds =>
    unfold anyD at q
    cases e : dbools ds with
    | none => simp only [e] at q; exact False.elim q
    | some ns =>
      simp only [e] at q
      obtain ⟨a, rfl, s⟩ := lst_bools w hx e
      exact ⟨a, ns, rfl, s, Pv.now w (post_pure q) (.bl _)⟩
  | _ => exact False.elim q
theorem op_allD {p : Pg} : Op1C p (rAll p.K) allD (RE p) := by
  intro g H x vx Q E w hx q
  cases x with
  | lst ds =>
    unfold allD at q
    cases e : dbools ds with
    | none => simp only [e] at q; exact False.elim q
    | some ns =>
      simp only [e] at q
      obtain ⟨a, rfl, s⟩ := lst_bools w hx e
      exact ⟨a, ns, rfl, s, Pv.now w (post_pure q) (.bl _)⟩
  | _ => exact False.elim q
theorem op_maxD {p : Pg} : Op1C p (rMax p.K) maxD (RE p) := by
  intro g H x vx Q E w hx q
  cases x with
  | lst ds =>
    unfold maxD at q
    cases e : dints ds with
    | none => simp only [e] at q; exact False.elim q
    | some ns =>
      simp only [e] at q
      cases ns with
      | nil => exact False.elim q
      | cons n r =>
        obtain ⟨a, rfl, s, _⟩ := lst_ints w hx e
        refine ⟨a, n :: r, rfl, s, Nat.succ_pos _, fun m hm hle => ?_⟩
        have e2 : m = maxI (n :: r) := Int.le_antisymm (maxI_ge hm) (hle _ (maxI_mem (List.cons_ne_nil _ _)))
        rw [e2]
        exact Pv.now w (post_pure q) (.int _)
  | _ => exact False.elim q
theorem op_minD {p : Pg} : Op1C p (rMin p.K) minD (RE p) := by
  intro g H x vx Q E w hx q
  cases x with
  | lst ds =>
    unfold minD at q
    cases e : dints ds with
    | none => simp only [e] at q; exact False.elim q
    | some ns =>
      simp only [e] at q
      cases ns with
      | nil => exact False.elim q
      | cons n r =>
        obtain ⟨a, rfl, s, _⟩ := lst_ints w hx e
        refine ⟨a, n :: r, rfl, s, Nat.succ_pos _, fun m hm hle => ?_⟩
        have e2 : m = minI (n :: r) := Int.le_antisymm (hle _ (minI_mem (List.cons_ne_nil _ _))) (minI_le hm)
        rw [e2]
        exact Pv.now w (post_pure q) (.int _)
  | _ => exact False.elim q
theorem ee_sum (B : Blt S "sum" (.builtin "sum")) (ha : EL S ρ a ma) (hs : NoStar [a] := by intro _; rfl) : EE S ρ (.Call (.Name "sum" p) [a] [] pos) (ma >>= sumD) := ex_b1 back_RE (fun Y _ => cr_sum rfl) op_sumD B ha hs
theorem ee_any (B : Blt S "any" (.builtin "any")) (ha : EL S ρ a ma) (hs : NoStar [a] := by intro _; rfl) : EE S ρ (.Call (.Name "any" p) [a] [] pos) (ma >>= anyD) := ex_b1 back_RE (fun Y _ => cr_any rfl) op_anyD B ha hs
theorem ee_all (B : Blt S "all" (.builtin "all")) (ha : EL S ρ a ma) (hs : NoStar [a] := by intro _; rfl) : EE S ρ (.Call (.Name "all" p) [a] [] pos) (ma >>= allD) := ex_b1 back_RE (fun Y _ => cr_all rfl) op_allD B ha hs
theorem ee_max (B : Blt S "max" (.builtin "max")) (ha : EL S ρ a ma) (hs : NoStar [a] := by intro _; rfl) : EE S ρ (.Call (.Name "max" p) [a] [] pos) (ma >>= maxD) := ex_b1 back_RE (fun Y _ => cr_max rfl) op_maxD B ha hs
theorem ee_min (B : Blt S "min" (.builtin "min")) (ha : EL S ρ a ma) (hs : NoStar [a] := by intro _; rfl) : EE S ρ (.Call (.Name "min" p) [a] [] pos) (ma >>= minD) := ex_b1 back_RE (fun Y _ => cr_min rfl) op_minD B ha hs
def max2D := i2 fun i j => if j > i then j else i
def min2D := i2 fun i j => if j < i then j else i
theorem op_i2C {h : Int → Int → Int} {r : List V → Hp → VK → Prop} {p : Pg} (hr : ∀ (i j : Int) (H : Hp) (Q : VK), Q (.int (h i j)) H → r [.int i, .int j] H Q) : Op2C p r (i2 h) (RE p) := by
  intro g H x y vx vy Q E w hx hy q
  cases x with
  | int i =>
    cases y with
    | int j =>
      obtain rfl := hx.int
      obtain rfl := hy.int
      exact hr i j H Q (Pv.now w (post_pure q) (.int _))
    | _ => exact False.elim q
  | _ => exact False.elim q
theorem ee_max2 (B : Blt S "max" (.builtin "max")) (ha : EL S ρ a ma) (hb : EL S ρ b mb) (hs : NoStar [a, b] := by intro _; rfl) (hs2 : NoStar [b] := by intro _; rfl) : EE S ρ (.Call (.Name "max" p) [a, b] [] pos) (ma >>= fun x => mb >>= fun y => max2D x y) :=
  ex_b2 back_RE (fun Y _ => call_max2 rfl) (op_i2C fun i j H Q q => ⟨i, j, rfl, q⟩) B ha hb hs hs2
theorem ee_min2 (B : Blt S "min" (.builtin "min")) (ha : EL S ρ a ma) (hb : EL S ρ b mb) (hs : NoStar [a, b] := by intro _; rfl) (hs2 : NoStar [b] := by intro _; rfl) : EE S ρ (.Call (.Name "min" p) [a, b] [] pos) (ma >>= fun x => mb >>= fun y => min2D x y) :=
  ex_b2 back_RE (fun Y _ => call_min2 rfl) (op_i2C fun i j H Q q => ⟨i, j, rfl, q⟩) B ha hb hs hs2
/-! int, abs -/
def intD : D → M D
  | .int i => pure (.int i)
  | .bl k => pure (.int (if k then 1 else 0))
  | _ => stuck
def absD : D → M D
  | .int i => pure (.int (if i < 0 then -i else i))
  | _ => stuck
theorem ee_intc (B : Blt S "int" (.type "int")) (ha : EL S ρ a ma) (hs : NoStar [a] := by intro _; rfl) : EE S ρ (.Call (.Name "int" p) [a] [] pos) (ma >>= intD) := ex_t1 back_RE (fun Y _ => call_int1) (fun g H x vx Q E w hx q => by
  cases x with
  | int i => obtain rfl := hx.int; exact .inl ⟨i, rfl, Pv.now w (post_pure q) (.int _)⟩
  | bl k => obtain rfl := hx.bl; exact .inr ⟨k, rfl, Pv.now w (post_pure q) (.int _)⟩
  | _ => exact False.elim q) B ha hs
theorem ee_abs (B : Blt S "abs" (.builtin "abs")) (ha : EL S ρ a ma) (hs : NoStar [a] := by intro _; rfl) : EE S ρ (.Call (.Name "abs" p) [a] [] pos) (ma >>= absD) := ex_b1 back_RE (fun Y _ => call_abs) (fun g H x vx Q E w hx q => by
  cases x with
  | int i => obtain rfl := hx.int; exact ⟨i, rfl, Pv.now w (post_pure q) (.int _)⟩
  | _ => exact False.elim q) B ha hs
/-! tuple, list -/
def tupleD : D → M D
  | .tup ds => pure (.tup ds)
  | .lst ds => pure (.tup ds)
  | .rls ds => pure (.tup ds)
  | .ref k => getC k >>= fun c => match c with
    | .lst ds => pure (.tup ds)
    | _ => stuck
  | _ => stuck
def listD : D → M D
  | .tup ds => pure (.lst ds)
  | .lst ds => pure (.lst ds)
  | .rls ds => pure (.lst ds)
  | _ => stuck
theorem op_tupleD {p : Pg} : Op1C p (fun xs H Q => ∃ q ys, xs = [.ref q] ∧ ((SqL p.K H q ys ∧ ∀ l, H l = none → Q (.ref l) (upd H l (.tup ys))) ∨ (SqT p.K H q ys ∧ Q (.ref q) H))) tupleD (RE p) := by
  intro g H x vx Q E w hx q
  have fin : ∀ {us : List V} {ds : List D}, p.Rps g us ds → Pv p (RE p) g H Q (.tup ds) g.st → ∀ l, H l = none → Q (.ref l) (upd H l (.tup us)) := fun {us ds} r q l hl => by
    have s2 := Stp.new (o := .tup us) w hl
    exact q _ { g with G := upd g.G l (.tup us) } _ rfl s2 (.tup (.inl (.inl upd_same)) (r.mono s2.gle s2.aml))
  cases x with
  | tup ds =>
    have hx2 := hx.cases fun _ o => o
    obtain ⟨a, us, rfl, s, r⟩ := hx.tup w
    exact ⟨a, us, rfl, .inr ⟨s, Pv.now w (post_pure q) hx2⟩⟩
  | lst ds =>
    obtain ⟨a, us, rfl, s, r⟩ := hx.lst w
    exact ⟨a, us, rfl, .inl ⟨SqL.of s, fin r (post_pure q)⟩⟩
  | rls ds =>
    obtain ⟨a, us, rfl, s, r⟩ := hx.rls w
    exact ⟨a, us, rfl, .inl ⟨s, fin r (post_pure q)⟩⟩
  | ref k =>
    obtain ⟨a, rfl, e⟩ := hx.ref
    obtain ⟨c, e2, r⟩ := w.at_ref e
    have q : ((getC k >>= fun c => match c with
      | .lst ds => pure (.tup ds)
      | _ => stuck) g.st).Post (Pv p (RE p) g H Q) E := q
    rw [bind_run] at q
    unfold getC at q
    rw [e2] at q
    cases c with
    | lst ds =>
      obtain ⟨us, s, r⟩ := r
      exact ⟨a, us, rfl, .inl ⟨SqL.of s, fin r (post_pure q)⟩⟩
    | _ => exact False.elim q
  | _ => exact False.elim q
theorem op_listD {p : Pg} : Op1C p (fun xs H Q => ∃ q ys, xs = [.ref q] ∧ (SqL p.K H q ys ∨ SqT p.K H q ys) ∧ ∀ l, H l = none → Q (.ref l) (upd H l (.lst ys))) listD (RN p) := by
  intro g H x vx Q E w hx q
  have fin : ∀ {us : List V} {ds : List D}, p.Rps g us ds → Pv p (RN p) g H Q (.lst ds) g.st → ∀ l, H l = none → Q (.ref l) (upd H l (.lst us)) := fun {us ds} r q l hl =>
    q _ g _ rfl (Stp.laid w hl) ⟨l, rfl, ⟨_, upd_same, r⟩, w.freeG hl, w.freeA hl, hl⟩
  cases x with
  | tup ds =>
    obtain ⟨a, us, rfl, s, r⟩ := hx.tup w
    exact ⟨a, us, rfl, .inr s, fin r (post_pure q)⟩
  | lst ds =>
    obtain ⟨a, us, rfl, s, r⟩ := hx.lst w
    exact ⟨a, us, rfl, .inl (SqL.of s), fin r (post_pure q)⟩
  | rls ds =>
    obtain ⟨a, us, rfl, s, r⟩ := hx.rls w
    exact ⟨a, us, rfl, .inl s, fin r (post_pure q)⟩
  | _ => exact False.elim q
theorem ee_tuplec (B : Blt S "tuple" (.type "tuple")) (ha : EL S ρ a ma) (hs : NoStar [a] := by intro _; rfl) : EE S ρ (.Call (.Name "tuple" p) [a] [] pos) (ma >>= tupleD) := ex_t1 back_RE (fun Y _ => call_tuple_of) op_tupleD B ha hs
theorem en_listc (B : Blt S "list" (.type "list")) (ha : EL S ρ a ma) (hs : NoStar [a] := by intro _; rfl) : EN S ρ (.Call (.Name "list" p) [a] [] pos) (ma >>= listD) := ex_t1 back_RN (fun Y _ => call_list_of) op_listD B ha hs
/-! sorted of ints -/
def ins (x : Int) : List Int → List Int
  | [] => [x]
  | y :: r => if x ≤ y then x :: y :: r else y :: ins x r
def isort : List Int → List Int
  | [] => []
  | x :: r => ins x (isort r)
theorem ins_perm (x : Int) : ∀ l : List Int, (ins x l).Perm (x :: l)
  | [] => .refl _
  | y :: r => by
    unfold ins
    by_cases h : x ≤ y
    · rw [if_pos h]
    · rw [if_neg h]
      exact ((ins_perm x r).cons y).trans (.swap x y r)
theorem isort_perm : ∀ l : List Int, (isort l).Perm l
  | [] => .refl _
  | x :: r => (ins_perm x (isort r)).trans ((isort_perm r).cons x)
theorem ins_sorted (x : Int) : ∀ {l : List Int}, l.Pairwise (· ≤ ·) → (ins x l).Pairwise (· ≤ ·)
  | [], _ => List.pairwise_singleton _ _
  | y :: r, h => by
    unfold ins
    by_cases hxy : x ≤ y
    · rw [if_pos hxy]
      refine List.Pairwise.cons (fun z hz => ?_) h
      rcases List.mem_cons.mp hz with rfl | hz
      · exact hxy
      · exact Int.le_trans hxy ((List.pairwise_cons.mp h).1 z hz)
    · rw [if_neg hxy]
      refine List.Pairwise.cons (fun z hz => ?_) (ins_sorted x (List.pairwise_cons.mp h).2)
      rcases List.mem_cons.mp ((ins_perm x r).mem_iff.mp hz) with rfl | hz
      · omega
      · exact (List.pairwise_cons.mp h).1 z hz
theorem isort_sorted : ∀ l : List Int, (isort l).Pairwise (· ≤ ·)
  | [] => .nil
  | x :: r => ins_sorted x (isort_sorted r)
theorem sorted_uniq : ∀ {a b : List Int}, a.Perm b → a.Pairwise (· ≤ ·) → b.Pairwise (· ≤ ·) → a = b
  | [], b, p, _, _ => by rw [List.nil_perm.mp p]
  | x :: r, [], p, _, _ => absurd (List.perm_nil.mp p) (List.cons_ne_nil _ _)
  | x :: r, y :: t, p, ha, hb => by
    have hx : x ≤ y := by
      rcases List.mem_cons.mp (p.mem_iff.mpr (List.mem_cons_self : y ∈ y :: t)) with h | h
      · omega
      · exact (List.pairwise_cons.mp ha).1 y h
    have hy : y ≤ x := by
      rcases List.mem_cons.mp (p.mem_iff.mp (List.mem_cons_self : x ∈ x :: r)) with h | h
      · omega
      · exact (List.pairwise_cons.mp hb).1 x h
    have e : x = y := Int.le_antisymm hx hy
    subst e
    rw [sorted_uniq (List.Perm.cons_inv p) (List.pairwise_cons.mp ha).2 (List.pairwise_cons.mp hb).2]
def sortedD : D → M D
  | .lst ds => match dints ds with
    | some ns => pure (.lst ((isort ns).map D.int))
    | none => stuck
  | _ => stuck
def sortedRevD : D → M D
  | .lst ds => match dints ds with
    | some ns => pure (.lst ((isort ns).reverse.map D.int))
    | none => stuck
  | _ => stuck
theorem op_sortedD {p : Pg} : Op1C p (rSortedI p.K) sortedD (RN p) := by
  intro g H x vx Q E w hx q
  cases x with
  | lst ds =>
    unfold sortedD at q
    cases e : dints ds with
    | none => simp only [e] at q; exact False.elim q
    | some ns =>
      simp only [e] at q
      obtain ⟨a, rfl, s, _⟩ := lst_ints w hx e
      refine ⟨a, ns, rfl, s, fun ns' l hp ho hl => ?_⟩
      have e2 : ns' = isort ns := sorted_uniq (hp.trans (isort_perm ns).symm) ho (isort_sorted ns)
      rw [e2]
      exact (post_pure q) _ g _ rfl (Stp.laid w hl) ⟨l, rfl, ⟨_, upd_same, .ofInts _⟩, w.freeG hl, w.freeA hl, hl⟩
  | _ => exact False.elim q
theorem en_sorted (B : Blt S "sorted" (.builtin "sorted")) (ha : EL S ρ a ma) (hs : NoStar [a] := by intro _; rfl) : EN S ρ (.Call (.Name "sorted" p) [a] [] pos) (ma >>= sortedD) := ex_b1 back_RN (fun Y _ => cr_sortedI) op_sortedD B ha hs
theorem en_sortedRev {kpos : Pos} {j : Nat} {cpos : Pos} (B : Blt S "sorted" (.builtin "sorted")) (ha : EL S ρ a ma) (hs : NoStar [a] := by intro _; rfl)
    (hk1 : ∀ env : Env, ((backToKw pos (keywordEach [⟨some "reverse", .Constant (.bool true) j cpos, kpos⟩] env)).all (·.1.isSome)) = true := by intro _; rfl) :
    EN S ρ (.Call (.Name "sorted" p) [a] [⟨some "reverse", .Constant (.bool true) j cpos, kpos⟩] pos) (ma >>= sortedRevD) := fun Y ok =>
  (pe_callBK (X := S.cx Y) (cr_sortedRev (b := true)) B.gl B.mg B.boot (pa_cons (ha Y ok) pa_nil (hs _)) (pk_cons pe_bl pk_nil) B.n1 B.n2 (he := by rw [hs _]; rfl) (hpl := by rw [hs _]; rfl)).pre fun σ H Q ⟨F, g, E, q⟩ =>
    rdX.bind E q fun x v g' H' s E' r q => by
      cases x with
      | lst ds =>
        unfold sortedRevD at q
        cases e : dints ds with
        | none => simp only [e] at q; exact False.elim q
        | some ns =>
          simp only [e] at q
          obtain ⟨a, rfl, s3, _⟩ := lst_ints E'.wf r e
          refine ⟨a, ns, rfl, rfl, s3, fun ns' l hp ho hl => ?_⟩
          have ho : ns'.Pairwise (· ≥ ·) := ho
          have e2 : ns'.reverse = isort ns := sorted_uniq ((List.reverse_perm _).trans (hp.trans (isort_perm ns).symm)) (List.pairwise_reverse.mpr ho) (isort_sorted ns)
          have e3 : ns' = (isort ns).reverse := by rw [← e2, List.reverse_reverse]
          rw [e3]
          exact (post_pure q) _ g' _ rfl (s.trans E.wf (Stp.laid E'.wf hl)) ⟨l, rfl, ⟨_, upd_same, .ofInts _⟩, E'.wf.freeG hl, E'.wf.freeA hl, s.none_of E.wf hl⟩
      | _ => exact False.elim q
end
end DL
namespace DL
open PySem PySem.Spec PyProof.Rows L2
/-! ### what is walked -/
/-- later: what was frozen is there -/
structure Ltr (p : Pg) (g1 g : Gs) : Prop where
  gle : ∀ a o, g1.G a = some o → g.G a = some o
  aml : g1.am <+: g.am
theorem Stp.ltr {p : Pg} {g g' : Gs} {H H' : Hp} (s : Stp p g H g' H') : Ltr p g g' := ⟨s.gle, s.aml⟩
theorem Ltr.refl {p : Pg} (g : Gs) : Ltr p g g := ⟨fun _ _ e => e, List.prefix_refl _⟩
theorem Ltr.trans {p : Pg} {g g' g'' : Gs} (a : Ltr p g g') (b : Ltr p g' g'') : Ltr p g g'' := ⟨fun x o e => b.gle x o (a.gle x o e), a.aml.trans b.aml⟩
abbrev Tm := Gs → Hp → Prop
structure Wk (p : Pg) (T : Tm) (J : It) (ds : List D) : Prop where
  goes : ∀ i g H, i < ds.length → Wf p g H → T g H → J.go i H
  stops : ∀ g H, Wf p g H → T g H → J.stop ds.length H
  yields : ∀ i g H x H', i < ds.length → Wf p g H → T g H → J.yld i H x H' → ∃ g' d, g'.st = g.st ∧ Stp p g H g' H' ∧ ds[i]? = some d ∧ p.Rp g' x d
def rdI (S : Sta) (Y : Dyn) (ρ : Ev) (T : Gs → Hp → Tm) (m : M (List D)) : TI := fun σ H R => ∃ F g, ER S.pg F ρ σ g H ∧
  (m g.st).Post (fun ds st' => ∀ J g' H', g'.st = st' → Stp S.pg g H g' H' → Wk S.pg (T g' H') J ds → R J H') (Px S Y g H)
def EI (S : Sta) (ρ : Ev) (T : Gs → Hp → Tm) (tg it : Expr) (m : M (List D)) : Prop := ∀ Y, OkY S Y → PI (S.cx Y) tg it (rdI S Y ρ T m)
/-- as long as nothing is written -/
abbrev TS' (p : Pg) : Gs → Hp → Tm := fun g H g2 H2 => Stp p g H g2 H2
/-- as long as nothing frozen is written: always -/
abbrev TL (p : Pg) : Gs → Hp → Tm := fun g _ g2 _ => Ltr p g g2
theorem _root_.L2.PI.pre {X : Cx} {tg it : Expr} {t t' : TI} (h : PI X tg it t) (k : ∀ σ H R, t' σ H R → t σ H R) : PI X tg it t' :=
  ⟨fun pins s σ H R I q => h.run pins s σ H R I (k σ H R q)⟩
theorem _root_.L2.PI.or {X : Cx} {tg it : Expr} {t t' : TI} (h : PI X tg it t) (h' : PI X tg it t') : PI X tg it (fun σ H R => t σ H R ∨ t' σ H R) :=
  ⟨fun pins s σ H R I q => q.elim (h.run pins s σ H R I) (h'.run pins s σ H R I)⟩
theorem Wk.weak {p : Pg} {T T' : Tm} {J : It} {ds : List D} (w : Wk p T J ds) (h : ∀ g H, T' g H → T g H) : Wk p T' J ds :=
  ⟨fun i g H a b c => w.goes i g H a b (h g H c), fun g H b c => w.stops g H b (h g H c), fun i g H x H' a b c d => w.yields i g H x H' a b (h g H c) d⟩
section
variable {S : Sta} {ρ : Ev} {a b c tg it e : Expr} {ma mb mc m : M D} {mi : M (List D)} {pos p : Pos}
/-- a walk that always goes goes as long as nothing is written -/
theorem ei_weak (h : EI S ρ (TL S.pg) tg it mi) : EI S ρ (TS' S.pg) tg it mi := fun Y ok => (h Y ok).pre fun σ H R ⟨F, g, E, q⟩ =>
  ⟨F, g, E, q.imp (fun ds st' q J g' H' e s w => q J g' H' e s (w.weak fun _ _ h => h.ltr)) fun _ _ q => q⟩
/-- a sequence that stands as long as T -/
def SqK (p : Pg) (T : Tm) (v : V) : D → Prop
  | .tup es => ∃ a us, v = .ref a ∧ ∀ g H, Wf p g H → T g H → SqT p.K H a us ∧ p.Rps g us es
  | .lst es => ∃ a us, v = .ref a ∧ ∀ g H, Wf p g H → T g H → SqL p.K H a us ∧ p.Rps g us es
  | .rls es => ∃ a us, v = .ref a ∧ ∀ g H, Wf p g H → T g H → SqL p.K H a us ∧ p.Rps g us es
  | _ => True
theorem sq_strong {p : Pg} {g : Gs} {H : Hp} {v : V} {d : D} (r : p.Rp g v d) : SqK p (TL p g H) v d := by
  cases r with
  | tup s r => exact ⟨_, _, rfl, fun g2 H2 w l => ⟨sqT_mono (fun x o h => w.sub x o (l.gle x o h)) s, r.mono l.gle l.aml⟩⟩
  | lst s r => exact ⟨_, _, rfl, fun g2 H2 w l => ⟨.inl (.inl (w.sub _ _ (l.gle _ _ s))), r.mono l.gle l.aml⟩⟩
  | rls s r => exact ⟨_, _, rfl, fun g2 H2 w l => ⟨sqL_mono (fun x o h => w.sub x o (l.gle x o h)) s, r.mono l.gle l.aml⟩⟩
  | _ => exact True.intro
theorem SqK.weak {p : Pg} {T T' : Tm} {v : V} {d : D} (h : SqK p T v d) (k : ∀ g H, T' g H → T g H) : SqK p T' v d := by
  cases d with
  | tup es => obtain ⟨a, us, e, h⟩ := h; exact ⟨a, us, e, fun g H w t => h g H w (k g H t)⟩
  | lst es => obtain ⟨a, us, e, h⟩ := h; exact ⟨a, us, e, fun g H w t => h g H w (k g H t)⟩
  | rls es => obtain ⟨a, us, e, h⟩ := h; exact ⟨a, us, e, fun g H w t => h g H w (k g H t)⟩
  | _ => exact True.intro
theorem sq_weak {p : Pg} {g : Gs} {H : Hp} {v : V} {d : D} (w0 : Wf p g H) (r : TopR p g H v d) : SqK p (TS' p g H) v d := by
  rcases r with r | ⟨a, rfl, n, o⟩
  · exact (sq_strong (H := H) r).weak fun _ _ l => l.ltr
  · cases d with
    | lst es =>
      obtain ⟨us, eu, ru⟩ := o
      exact ⟨_, _, rfl, fun g2 H2 w l => ⟨.inl (.inl (l.keep a _ eu n)), ru.mono l.gle l.aml⟩⟩
    | dct es => exact True.intro
    | _ => exact o.elim
theorem wk_tup {p : Pg} {T : Tm} {a : Addr} {us : List V} {ds : List D} (h : ∀ g H, Wf p g H → T g H → SqT p.K H a us ∧ p.Rps g us ds) : Wk p T (Itt p.K a) ds := by
  refine ⟨fun i g H hi w t => ?_, fun g H w t => ?_, fun i g H x H' hi w t y => ?_⟩
  · obtain ⟨s, r⟩ := h g H w t
    have hl : i < us.length := by rw [r.length]; exact hi
    exact walk_tup.goes i H hl s
  · obtain ⟨s, r⟩ := h g H w t
    rw [← r.length]
    exact walk_tup.stops H s
  · obtain ⟨s, r⟩ := h g H w t
    have hl : i < us.length := by rw [r.length]; exact hi
    obtain ⟨e1, e2⟩ := walk_tup.yields i H x H' hl s y
    subst e1
    obtain ⟨d, h1, h2⟩ := r.getV e2
    exact ⟨g, d, rfl, .refl w, h1, h2⟩
theorem wk_lst {p : Pg} {T : Tm} {a : Addr} {us : List V} {ds : List D} (h : ∀ g H, Wf p g H → T g H → SqL p.K H a us ∧ p.Rps g us ds) : Wk p T (Itl p.K a) ds := by
  refine ⟨fun i g H hi w t => ?_, fun g H w t => ?_, fun i g H x H' hi w t y => ?_⟩
  · obtain ⟨s, r⟩ := h g H w t
    have hl : i < us.length := by rw [r.length]; exact hi
    exact walk_list.goes i H hl s
  · obtain ⟨s, r⟩ := h g H w t
    rw [← r.length]
    exact walk_list.stops H s
  · obtain ⟨s, r⟩ := h g H w t
    have hl : i < us.length := by rw [r.length]; exact hi
    obtain ⟨e1, e2⟩ := walk_list.yields i H x H' hl s y
    subst e1
    obtain ⟨d, h1, h2⟩ := r.getV e2
    exact ⟨g, d, rfl, .refl w, h1, h2⟩
theorem ei_core {T : Gs → Hp → Tm} {R : Rel} (hT : ∀ (g : Gs) (H : Hp) (g' : Gs) (H' : Hp) (v : V) (d : D), Stp S.pg g H g' H' → R H g' H' v d → SqK S.pg (T g' H') v d) (hT0 : ∀ (g : Gs) (H : Hp), Wf S.pg g H → T g H g H)
    (ha : EX S ρ R a ma) : EI S ρ T tg a (ma >>= items) := fun Y ok =>
  (PI.or (pi_tup (ha Y ok)) (pi_list (ha Y ok))).pre fun σ H Q ⟨F, g, E, q⟩ => by
    have q := post_bind q
    -- which of both: by the value that comes
    cases e : ma g.st with
    | stuck => rw [e] at q; exact False.elim q
    | exc c st' =>
      refine .inl ⟨F, g, E, ?_⟩
      rw [e] at q ⊢
      exact q
    | ok d st' =>
      rw [e] at q
      cases d with
      | tup es =>
        refine .inl ⟨F, g, E, ?_⟩
        rw [e]
        intro v g' H' e1 s r
        obtain ⟨a, us, rfl, h⟩ := hT g H g' H' v _ s r
        exact ⟨a, rfl, ⟨us, (h g' H' s.wf (hT0 g' H' s.wf)).1⟩, (post_pure q) _ g' H' e1 s (wk_tup h)⟩
      | lst es =>
        refine .inr ⟨F, g, E, ?_⟩
        rw [e]
        intro v g' H' e1 s r
        obtain ⟨a, us, rfl, h⟩ := hT g H g' H' v _ s r
        exact ⟨a, rfl, ⟨us, (h g' H' s.wf (hT0 g' H' s.wf)).1⟩, (post_pure q) _ g' H' e1 s (wk_lst h)⟩
      | rls es =>
        refine .inr ⟨F, g, E, ?_⟩
        rw [e]
        intro v g' H' e1 s r
        obtain ⟨a, us, rfl, h⟩ := hT g H g' H' v _ s r
        exact ⟨a, rfl, ⟨us, (h g' H' s.wf (hT0 g' H' s.wf)).1⟩, (post_pure q) _ g' H' e1 s (wk_lst h)⟩
      | _ => exact False.elim q
/-- a value's items: a value that is never written (in any loop), one that is read now (in a comprehension) -/
theorem ei_seq (ha : EE S ρ a ma) : EI S ρ (TL S.pg) tg a (ma >>= items) := ei_core (fun _ _ _ _ _ _ _ r => sq_strong r) (fun g _ _ => .refl g) ha
theorem ei_read (ha : EL S ρ a ma) : EI S ρ (TS' S.pg) tg a (ma >>= items) := ei_core (fun _ _ _ _ _ _ s r => sq_weak s.wf r) (fun g _ w => .refl w) ha
/-- a name that is not the def's own -/
abbrev Glb (S : Sta) (x : Str) : Prop := S.sc.names.lookup x = some .globalImplicit
/-! range -/
def rangeL (lo : Int) (n : Nat) : List D := (List.range n).map fun i => .int (lo + (i : Nat))
theorem rangeL_len (lo : Int) (n : Nat) : (rangeL lo n).length = n := by unfold rangeL; rw [List.length_map, List.length_range]
theorem wk_range {p : Pg} {T : Tm} {lo : Int} {n : Nat} : Wk p T (Itr lo n) (rangeL lo n) := by
  refine ⟨fun i g H hi w t => ?_, fun g H w t => ?_, fun i g H x H' hi w t y => ?_⟩
  · rw [rangeL_len] at hi; exact hi
  · rw [rangeL_len]; exact Nat.le_refl _
  · rw [rangeL_len] at hi
    obtain ⟨e1, e2⟩ := y
    subst e1
    refine ⟨g, .int (lo + (i : Nat)), rfl, .refl w, ?_, ?_⟩
    · unfold rangeL
      rw [List.getElem?_map, List.getElem?_range hi]
      rfl
    · rw [e2]; exact .int _
def bnd (i : Int) : Bool := decide (-(2 ^ 62) ≤ i ∧ i < 2 ^ 62)
def range1 : D → M (List D)
  | .int j => if bnd j then pure (rangeL 0 j.toNat) else stuck
  | _ => stuck
def range2 : D → D → M (List D)
  | .int i, .int j => if bnd i && bnd j then pure (rangeL i (j - i).toNat) else stuck
  | _, _ => stuck
theorem bnd_ok {i : Int} (h : bnd i = true) : -(2 ^ 62) ≤ i ∧ i < 2 ^ 62 := of_decide_eq_true (p := -(2 ^ 62) ≤ i ∧ i < 2 ^ 62) h
theorem ei_range1 {T : Gs → Hp → Tm} (hg : Glb S "range") (hm : S.pg.mg "range" = none) (ha : EL S ρ a ma) (hs : NoStar [a] := by intro _; rfl) : EI S ρ T tg (.Call (.Name "range" p) [a] [] pos) (ma >>= range1) := fun Y ok =>
  (pi_range1 (X := S.cx Y) hg hm (pa_cons (ha Y ok) pa_nil (hs _)) (hs _)).pre fun σ H Q ⟨F, g, E, q⟩ => rdX.bind E q fun x v g' H' s E' r q => by
    cases x with
    | int j =>
      unfold range1 at q
      by_cases z : bnd j = true
      · simp only [z, if_true] at q
        obtain rfl := r.int
        exact ⟨j, rfl, (bnd_ok z).1, (bnd_ok z).2, (post_pure q) _ g' H' rfl s wk_range⟩
      · simp only [z] at q
        exact False.elim q
    | _ => exact False.elim q
theorem ei_range2 {T : Gs → Hp → Tm} (hg : Glb S "range") (hm : S.pg.mg "range" = none) (ha : EL S ρ a ma) (hb : EL S ρ b mb) (hs : NoStar [a, b] := by intro _; rfl) (hs2 : NoStar [b] := by intro _; rfl) :
    EI S ρ T tg (.Call (.Name "range" p) [a, b] [] pos) (ma >>= fun x => mb >>= fun y => range2 x y) := fun Y ok =>
  (pi_range2 (X := S.cx Y) hg hm (pa_cons (ha Y ok) (pa_cons (hb Y ok) pa_nil (hs2 _)) (by rw [hs2 _]; exact hs _)) (hs _) (hs2 _)).pre fun σ H Q ⟨F, g, E, q⟩ => rdX.bind E q fun x v g' H' s E' r q =>
    rdX.bind E' (q.imp (fun _ _ q => q) fun _ _ q => q.back E.wf s) fun y u g2 H2 s2 E2 r2 q => by
      cases x with
      | int i =>
        cases y with
        | int j =>
          unfold range2 at q
          by_cases z : (bnd i && bnd j) = true
          · simp only [z, if_true] at q
            rw [Bool.and_eq_true] at z
            obtain rfl := r.int
            obtain rfl := r2.int
            exact ⟨i, j, rfl, ⟨(bnd_ok z.1).1, (bnd_ok z.1).2, (bnd_ok z.2).1, (bnd_ok z.2).2⟩, (post_pure q) _ g2 H2 rfl (s.trans E.wf s2) wk_range⟩
          · simp only [z] at q
            exact False.elim q
        | _ => exact False.elim q
      | _ => exact False.elim q
/-! zip, enumerate: new pairs -/
def zipL : List D → List D → List D
  | x :: xs, y :: ys => .tup [x, y] :: zipL xs ys
  | _, _ => []
def enumL (i : Nat) : List D → List D
  | [] => []
  | x :: xs => .tup [.int (i : Nat), x] :: enumL (i + 1) xs
theorem zipL_get : ∀ {xs ys : List D} {i : Nat} {x y : D}, xs[i]? = some x → ys[i]? = some y → (zipL xs ys)[i]? = some (.tup [x, y])
  | [], _, i, x, y, h, _ => by simp at h
  | _ :: _, [], i, x, y, _, h => by simp at h
  | a :: r, b :: t, 0, x, y, h, k => by simp at h k; subst h; subst k; rfl
  | a :: r, b :: t, i + 1, x, y, h, k => by
    rw [zipL, List.getElem?_cons_succ]
    exact zipL_get (by simpa using h) (by simpa using k)
theorem zipL_len : ∀ (xs ys : List D), (zipL xs ys).length = min xs.length ys.length
  | [], ys => by cases ys <;> simp [zipL]
  | _ :: _, [] => by simp [zipL]
  | a :: r, b :: t => by
    rw [zipL, List.length_cons, List.length_cons, List.length_cons, zipL_len r t]
    omega
theorem enumL_len : ∀ (k : Nat) (xs : List D), (enumL k xs).length = xs.length
  | _, [] => rfl
  | k, _ :: r => by rw [enumL, List.length_cons, List.length_cons, enumL_len]
theorem enumL_get : ∀ {k : Nat} {xs : List D} {i : Nat} {x : D}, xs[i]? = some x → (enumL k xs)[i]? = some (.tup [.int ((k + i : Nat) : Int), x])
  | _, [], i, x, h => by simp at h
  | k, a :: r, 0, x, h => by simp at h; subst h; rfl
  | k, a :: r, i + 1, x, h => by
    rw [enumL, List.getElem?_cons_succ, enumL_get (k := k + 1) (by simpa using h)]
    have : k + 1 + i = k + (i + 1) := by omega
    rw [this]
end
end DL
namespace DL
open PySem PySem.Spec PyProof.Rows L2
/-! ### targets -/
def setS : L2.St → List Nat → List V → L2.St
  | σ, i :: ix, w :: ws => setS (σ.set i (some w)) ix ws
  | σ, _, _ => σ
def setE : Ev → List Nat → List D → Ev
  | ρ, i :: ix, d :: ds => setE (ρ.set i (.sh d)) ix ds
  | ρ, _, _ => ρ
theorem ER.setMany {p : Pg} {F : Fm} {g : Gs} {H : Hp} : ∀ (ix : List Nat) {ws : List V} {ds : List D} {ρ : Ev} {σ : L2.St}, ER p F ρ σ g H → p.Rps g ws ds → ER p F (setE ρ ix ds) (setS σ ix ws) g H
  | [], _, _, _, _, E, _ => by unfold setE setS; exact E
  | i :: ix, _, _, _, _, E, .nil => by unfold setE setS; exact E
  | i :: ix, _, _, _, _, E, .cons r t => by
    unfold setE setS
    exact ER.setMany ix (E.set r) t
/-- a target takes a value apart: u gives the parts, ix are their slots -/
def TG (S : Sta) (tg : Expr) (u : D → M (List D)) (ix : List Nat) : Prop := ∀ Y, OkY S Y → PG (S.cx Y) tg (fun v σ H Q => ∃ g d, Wf S.pg g H ∧ S.pg.Rp g v d ∧ (u d g.st).Post (fun ds st' => st' = g.st → ∀ ws, S.pg.Rps g ws ds → Q (setS σ ix ws) H) fun _ _ => False)
def TGs (S : Sta) (tgs : List Expr) (u : List D → M (List D)) (ix : List Nat) : Prop := ∀ Y, OkY S Y → PGs (S.cx Y) tgs (fun vs σ H Q => ∃ g ds, Wf S.pg g H ∧ S.pg.Rps g vs ds ∧ (u ds g.st).Post (fun ds st' => st' = g.st → ∀ ws, S.pg.Rps g ws ds → Q (setS σ ix ws) H) fun _ _ => False)
/-- a part that never touches the store -/
structure Pure1 {α β : Type} (u : α → M β) : Prop where
  st : ∀ d s b s', u d s = .ok b s' → s' = s
  nx : ∀ d s c s', u d s ≠ .exc c s'
def nm : D → M (List D) := fun d => pure [d]
def un0 : List D → M (List D)
  | [] => pure []
  | _ => stuck
def unc (u : D → M (List D)) (us : List D → M (List D)) : List D → M (List D)
  | d :: ds => u d >>= fun a => us ds >>= fun b => pure (a ++ b)
  | _ => stuck
def unT (us : List D → M (List D)) : D → M (List D)
  | .tup ds => us ds
  | _ => stuck
theorem _root_.L2.PG.pre {X : Cx} {tg : Expr} {t t' : L2.TG} (h : PG X tg t) (k : ∀ v σ H Q, t' v σ H Q → t v σ H Q) : PG X tg t' :=
  ⟨fun pins s σ H v u Q I r q => h.run pins s σ H v u Q I r (k v σ H Q q)⟩
theorem _root_.L2.PGs.pre {X : Cx} {tg : List Expr} {t t' : L2.TGs} (h : PGs X tg t) (k : ∀ v σ H Q, t' v σ H Q → t v σ H Q) : PGs X tg t' :=
  ⟨fun pins s σ H v u Q I r q => h.run pins s σ H v u Q I r (k v σ H Q q)⟩
theorem setS_append : ∀ (ix jx : List Nat) (σ : L2.St) (ws zs : List V), ws.length = ix.length → setS σ (ix ++ jx) (ws ++ zs) = setS (setS σ ix ws) jx zs
  | [], jx, σ, [], zs, _ => by
    rw [List.nil_append, List.nil_append]
    conv => rhs; arg 1; unfold setS
  | [], jx, σ, _ :: _, zs, h => by simp at h
  | i :: ix, jx, σ, [], zs, h => by simp at h
  | i :: ix, jx, σ, w :: ws, zs, h => by
    rw [List.cons_append, List.cons_append]
    conv => lhs; unfold setS
    conv => rhs; arg 1; unfold setS
    exact setS_append ix jx _ ws zs (by simpa using h)
section
variable {S : Sta} {ρ : Ev} {a b c tg it e elt : Expr} {tgs : List Expr} {ma mb mc m : M D} {mi : M (List D)} {pos p : Pos}
theorem tg_name (i : Nat) {x : Str} (hnd : S.N.Nodup) (hN : S.N[i]? = some x) (hx : Loc S.sc x) (hf : S.fn x = true ∨ S.sc.names.lookup x = some .local) : TG S (.Name x pos) nm [i] := fun Y ok =>
  (pg_name (X := S.cx Y) (i := i) hnd hN hx hf).pre fun v σ H Q ⟨g, d, w, r, q⟩ => (post_pure q) rfl [v] (.cons r .nil)
theorem tgs_nil : TGs S [] un0 [] := fun Y ok => pgs_nil.pre fun vs σ H Q ⟨g, ds, w, r, q⟩ => by
  cases r with
  | nil => exact ⟨rfl, (post_pure q) rfl [] .nil⟩
  | cons _ _ => exact False.elim q
theorem tgs_cons {u : D → M (List D)} {us : List D → M (List D)} {ix jx : List Nat} (pu : Pure1 u) (pus : Pure1 us) (hlen : ∀ d s ds s', u d s = .ok ds s' → ds.length = ix.length) (h1 : TG S tg u ix) (h2 : TGs S tgs us jx)
    (hs : ∀ env : Env, (assignEach (tg :: tgs) env).map (·.2) = assign tg env :: (assignEach tgs env).map (·.2)) : TGs S (tg :: tgs) (unc u us) (ix ++ jx) := fun Y ok =>
  (pgs_cons (h1 Y ok) (h2 Y ok) (hs _)).pre fun vs σ H Q ⟨g, ds, w, r, q⟩ => by
    cases r with
    | nil => exact False.elim q
    | @cons v0 vr d ds r rr =>
      refine ⟨_, _, rfl, g, _, w, r, ?_⟩
      have q := post_bind (m := u d) q
      cases e1 : u d g.st with
      | stuck => rw [e1] at q; exact q
      | exc c s => rw [e1] at q; exact q
      | ok as s1 =>
        rw [e1] at q
        have es := pu.st _ _ _ _ e1
        have el := hlen _ _ _ _ e1
        intro _ ws rw1
        refine ⟨g, _, w, rr, ?_⟩
        subst es
        have q := post_bind q
        refine q.imp (fun bs s2 q e2 zs rz => ?_) fun _ _ q => q
        have q := (post_pure q) e2 (ws ++ zs) (rw1.append rz)
        rw [setS_append _ _ _ _ _ (by rw [rw1.length, el])] at q
        exact q
theorem tg_tup {us : List D → M (List D)} {ix : List Nat} {n : Nat} {k : Nat} (h : TGs S tgs us ix) (hn : ∀ env : Env, (assignEach tgs env).length = n) (hl : ∀ ds s r s', us ds s = .ok r s' → ds.length = n) (hst : ∀ env : Env, (assignEach tgs env).findIdx? (·.1) = none) : TG S (.Tuple tgs k pos) (unT us) ix := fun Y ok =>
  (pg_tup (X := S.cx Y) (n := n) rfl (h Y ok) (hn _) (hst _)).pre fun v σ H Q ⟨g, d, w, r, q⟩ => by
    cases d with
    | tup ds =>
      cases r with
      | tup s r =>
        refine ⟨_, _, rfl, sqT_mono w.sub s, ?_, g, ds, w, r, q⟩
        rw [r.length]
        cases e : us ds g.st with
        | ok a s' => exact hl _ _ _ _ e
        | exc c s' => have q : (us ds g.st).Post _ _ := q; rw [e] at q; exact q.elim
        | stuck => have q : (us ds g.st).Post _ _ := q; rw [e] at q; exact q.elim
    | _ => exact False.elim q
/-! the parts' lemmas -/
theorem nm_pure : Pure1 nm where
  st d s b s' h := by
    injection h with _ h
    exact h.symm
  nx d s c s' h := by cases h
theorem un0_pure : Pure1 un0 where
  st d s b s' h := by
    cases d with
    | nil => injection h with _ h; exact h.symm
    | cons _ _ => cases h
  nx d s c s' h := by cases d <;> cases h
theorem unc_pure {u : D → M (List D)} {us : List D → M (List D)} (pu : Pure1 u) (pus : Pure1 us) : Pure1 (unc u us) where
  st d s b s' h := by
    cases d with
    | nil => cases h
    | cons x r =>
      have h : (u x >>= fun a => us r >>= fun b => pure (a ++ b)) s = .ok b s' := h
      rw [bind_run] at h
      cases e : u x s with
      | stuck => rw [e] at h; cases h
      | exc c t => rw [e] at h; cases h
      | ok a t =>
        rw [e] at h
        have h : (us r >>= fun b => pure (a ++ b)) t = .ok b s' := h
        rw [bind_run] at h
        cases e2 : us r t with
        | stuck => rw [e2] at h; cases h
        | exc c t => rw [e2] at h; cases h
        | ok a2 t2 =>
          rw [e2] at h
          injection h with _ h
          rw [← h, pus.st _ _ _ _ e2, pu.st _ _ _ _ e]
  nx d s c s' h := by
    cases d with
    | nil => cases h
    | cons x r =>
      have h : (u x >>= fun a => us r >>= fun b => pure (a ++ b)) s = .exc c s' := h
      rw [bind_run] at h
      cases e : u x s with
      | stuck => rw [e] at h; cases h
      | exc c t => exact pu.nx _ _ _ _ e
      | ok a t =>
        rw [e] at h
        have h : (us r >>= fun b => pure (a ++ b)) t = .exc c s' := h
        rw [bind_run] at h
        cases e2 : us r t with
        | stuck => rw [e2] at h; cases h
        | exc c t => exact pus.nx _ _ _ _ e2
        | ok a2 t2 => rw [e2] at h; cases h
theorem unT_pure {us : List D → M (List D)} (pus : Pure1 us) : Pure1 (unT us) where
  st d s b s' h := by
    cases d with
    | tup ds => exact pus.st _ _ _ _ h
    | _ => cases h
  nx d s c s' h := by
    cases d with
    | tup ds => exact pus.nx _ _ _ _ h
    | _ => cases h
/-! lengths of the parts -/
def Len1 (u : D → M (List D)) (n : Nat) : Prop := ∀ d s ds s', u d s = .ok ds s' → ds.length = n
def LenS (us : List D → M (List D)) (k n : Nat) : Prop := ∀ d s ds s', us d s = .ok ds s' → d.length = k ∧ ds.length = n
theorem nm_len : Len1 nm 1 := fun d s b s' h => by injection h with h _; rw [← h]; rfl
theorem un0_len : LenS un0 0 0 := fun d s b s' h => by
  cases d with
  | nil => injection h with h _; rw [← h]; exact ⟨rfl, rfl⟩
  | cons _ _ => cases h
theorem unc_len {u : D → M (List D)} {us : List D → M (List D)} {k n l : Nat} (pu : Len1 u n) (pus : LenS us k l) : LenS (unc u us) (k + 1) (n + l) := fun d s b s' h => by
  cases d with
  | nil => cases h
  | cons x r =>
    have h : (u x >>= fun a => us r >>= fun b => pure (a ++ b)) s = .ok b s' := h
    rw [bind_run] at h
    cases e : u x s with
    | stuck => rw [e] at h; cases h
    | exc c t => rw [e] at h; cases h
    | ok a t =>
      rw [e] at h
      have h : (us r >>= fun b => pure (a ++ b)) t = .ok b s' := h
      rw [bind_run] at h
      cases e2 : us r t with
      | stuck => rw [e2] at h; cases h
      | exc c t => rw [e2] at h; cases h
      | ok a2 t2 =>
        rw [e2] at h
        injection h with h _
        obtain ⟨h1, h2⟩ := pus _ _ _ _ e2
        rw [← h, List.length_cons, List.length_append, h1, h2, pu _ _ _ _ e]
        exact ⟨rfl, rfl⟩
theorem unT_len {us : List D → M (List D)} {k n : Nat} (pus : LenS us k n) : Len1 (unT us) n := fun d s b s' h => by
  cases d with
  | tup ds => exact (pus _ _ _ _ h).2
  | _ => cases h
/-! ### comprehensions -/
def noexc {α : Type} (m : M α) : M α := fun s => match m s with
  | .ok a s' => .ok a s'
  | _ => .stuck
def addO : Option D → List D → List D
  | some d, t => d :: t
  | none, t => t
def compM (f : D → M (Option D)) : List D → M (List D)
  | [] => pure []
  | x :: r => noexc (f x) >>= fun o => compM f r >>= fun t => pure (addO o t)
theorem noexc_post {α β : Type} {m : M α} {k : α → M β} {s : Store} {ok : β → Store → Prop} {ex : Nat → Store → Prop} (q : ((noexc m >>= k) s).Post ok ex) : (m s).Post (fun a s' => (k a s').Post ok ex) fun _ _ => False := by
  rw [bind_run] at q
  unfold noexc at q
  cases e : m s with
  | ok a s' => rw [e] at q; exact q
  | exc c s' => rw [e] at q; exact q
  | stuck => rw [e] at q; exact q
theorem compM_noexc (f : D → M (Option D)) : ∀ (xs : List D) (s : Store) (c : Nat) (s' : Store), compM f xs s ≠ .exc c s'
  | [], s, c, s', h => by cases h
  | x :: r, s, c, s', h => by
    unfold compM at h
    rw [bind_run] at h
    unfold noexc at h
    cases e : f x s with
    | exc c t => rw [e] at h; cases h
    | stuck => rw [e] at h; cases h
    | ok o t =>
      rw [e] at h
      have h : (compM f r >>= fun t => pure (addO o t)) t = .exc c s' := h
      rw [bind_run] at h
      cases e2 : compM f r t with
      | exc c t2 => exact compM_noexc f r _ _ _ e2
      | stuck => rw [e2] at h; cases h
      | ok o t2 => rw [e2] at h; cases h
def wipeE : Ev → List Nat → Ev
  | ρ, [] => ρ
  | ρ, v :: vs => (wipeE ρ vs).set v .un
theorem wipeE_len (ρ : Ev) : ∀ vs : List Nat, (wipeE ρ vs).length = ρ.length
  | [] => rfl
  | _ :: vs => by unfold wipeE; rw [List.length_set, wipeE_len ρ vs]
theorem ER.unset {p : Pg} {F : Fm} {ρ : Ev} {σ : L2.St} {g : Gs} {H : Hp} (E : ER p F ρ σ g H) (i : Nat) (o : Option V) : ER p F (ρ.set i .un) (σ.set i o) g H := by
  refine ⟨by rw [List.length_set, List.length_set, E.len], fun j s e => ?_, fun x y d1 e1 h1 h2 h3 => ?_, E.fr, E.fw⟩
  · by_cases z : i = j
    · subst z
      have hl : i < ρ.length := by
        have := (List.getElem?_eq_some_iff.mp e).1
        rwa [List.length_set] at this
      rw [List.getElem?_set_self hl] at e
      cases e
      cases (σ.set i o)[i]?.join <;> exact True.intro
    · rw [List.getElem?_set_ne z] at e
      rw [List.getElem?_set_ne z]
      exact E.sl j s e
  · have ne : ∀ {c : Nat} {x : D}, (ρ.set i .un)[c]? = some (.ow x) → i ≠ c ∧ ρ[c]? = some (.ow x) := fun {c x} h => by
      by_cases z : i = c
      · subst z
        have hl : i < ρ.length := by
          have := (List.getElem?_eq_some_iff.mp h).1
          rwa [List.length_set] at this
        rw [List.getElem?_set_self hl] at h; cases h
      · rw [List.getElem?_set_ne z] at h; exact ⟨z, h⟩
    obtain ⟨n1, h1⟩ := ne h1
    obtain ⟨n2, h2⟩ := ne h2
    rw [List.getElem?_set_ne n1, List.getElem?_set_ne n2] at h3
    exact E.dist x y d1 e1 h1 h2 h3
theorem ER.wipe {p : Pg} {F : Fm} {ρ : Ev} {σ : L2.St} {g : Gs} {H : Hp} (E : ER p F ρ σ g H) : ∀ vs : List Nat, ER p F (wipeE ρ vs) (L2.wipe σ vs) g H
  | [] => E
  | v :: vs => (E.wipe vs).unset v none
theorem wipe_get (σ : L2.St) : ∀ (vs : List Nat) (j : Nat), (L2.wipe σ vs)[j]? = if j ∈ vs then σ[j]?.map (fun _ => none) else σ[j]?
  | [], j => by simp [L2.wipe]
  | v :: vs, j => by
    unfold L2.wipe
    by_cases z : v = j
    · subst z
      by_cases hl : v < σ.length
      · rw [List.getElem?_set_self (by rw [wipe_length]; exact hl), if_pos List.mem_cons_self, List.getElem?_eq_getElem hl]
        rfl
      · rw [List.getElem?_eq_none (by rw [List.length_set, wipe_length]; omega), if_pos List.mem_cons_self, List.getElem?_eq_none (by omega)]
        rfl
    · rw [List.getElem?_set_ne z, wipe_get σ vs j]
      have : (j ∈ v :: vs) = (j ∈ vs) := by
        rw [List.mem_cons]
        exact propext ⟨fun h => h.elim (fun e => absurd e.symm z) id, .inr⟩
      simp only [this]
theorem setS_len : ∀ (ix : List Nat) (ws : List V) (σ : L2.St), (setS σ ix ws).length = σ.length
  | [], _, _ => by unfold setS; rfl
  | _ :: _, [], _ => by unfold setS; rfl
  | i :: ix, w :: ws, σ => by unfold setS; rw [setS_len ix ws, List.length_set]
theorem setS_ne : ∀ (ix : List Nat) (ws : List V) (σ : L2.St) (j : Nat), j ∉ ix → (setS σ ix ws)[j]? = σ[j]?
  | [], _, _, _, _ => by unfold setS; rfl
  | _ :: _, [], _, _, _ => by unfold setS; rfl
  | i :: ix, w :: ws, σ, j, h => by
    unfold setS
    rw [setS_ne ix ws _ j (fun z => h (List.mem_cons_of_mem _ z)), List.getElem?_set_ne (fun z => h (by rw [z]; exact List.mem_cons_self))]
theorem wipe_setS (σ : L2.St) (vs ix : List Nat) (ws : List V) (h : ∀ i ∈ ix, i ∈ vs) : L2.wipe (setS (L2.wipe σ vs) ix ws) vs = L2.wipe σ vs := by
  refine List.ext_getElem? fun j => ?_
  rw [wipe_get, wipe_get]
  by_cases z : j ∈ vs
  · rw [if_pos z, if_pos z]
    have hl : (setS (L2.wipe σ vs) ix ws).length = σ.length := by rw [setS_len, wipe_length]
    by_cases hj : j < σ.length
    · rw [List.getElem?_eq_getElem (by rw [hl]; exact hj), List.getElem?_eq_getElem hj]
      rfl
    · rw [List.getElem?_eq_none (by rw [hl]; omega), List.getElem?_eq_none (by omega)]
  · rw [if_neg z, if_neg z, setS_ne _ _ _ _ (fun q => z (h j q)), wipe_get, if_neg z]
/-- the block of a comprehension -/
def Sta.blk (S : Sta) (scope : Scope) : Sta := { S with sc := relS scope S.sc, fn := fun x => scope.names.lookup x == some .cell }
def Dyn.blk (Y : Dyn) (S : Sta) (s : Shared) (H : Hp) (scope : Scope) (C : Addr) (cl : List (Str × Addr)) (fp : List Addr) : Dyn where
  A := Y.A
  s0 := s
  H0 := H
  env := compEnvC scope cl C (S.cx Y).env
  outer := Y.stack
  stack := Y.stack
  ex := fp
  pn := []
  xe := fun _ _ => False
  W := fun _ _ _ => False
theorem blk_eq {Y : Dyn} {s : Shared} {H : Hp} {scope : Scope} {C : Addr} {cl : List (Str × Addr)} {fp : List Addr} : (S.blk scope).cx (Y.blk S s H scope C cl fp) = (S.cx Y).blk s H scope (compEnvC scope cl C (S.cx Y).env) fp := rfl
theorem blk_ok {Y : Dyn} (ok : OkY S Y) {s : Shared} {H : Hp} {scope : Scope} {C : Addr} {cl : List (Str × Addr)} {fp : List Addr} : OkY (S.blk scope) (Y.blk S s H scope C cl fp) :=
  ⟨ok.room, PassesOwn.never, takes0⟩
/-- the tests of a clause -/
def ETs (S : Sta) (ρ : Ev) (ifs : List Expr) (m : M Bool) : Prop := ∀ Y, OkY S Y → PTs (S.cx Y) ifs (rdT S Y ρ m)
theorem ets_nil : ETs S ρ [] (pure true) := fun Y ok => ⟨fun pins s σ H Q I ⟨F, g, E, q⟩ => (pts_nil (X := S.cx Y)).run pins s σ H Q I ((post_pure q) g H rfl (.refl E.wf))⟩
theorem ets_one {m : M Bool} (h : ET S ρ c m) : ETs S ρ [c] m := fun Y ok => ⟨fun pins s σ H Q I q => (pts_one (h Y ok)).run pins s σ H Q I q⟩
/-- an expression that may stand right of name = .. too -/
def CompE (S : Sta) (ρ : Ev) (e : Expr) (m : M D) : Prop := ∃ t : Dyn → TE, (∀ Y, OkY S Y → PE (S.cx Y) e (t Y)) ∧ (∀ Y, OkY S Y → ∀ σ H Q, rdX S Y ρ (RN S.pg) m σ H Q → t Y σ H Q) ∧
  ∀ Y, OkY S Y → ∀ (i : Nat) (y : Str) (py spos : Pos), S.N[i]? = some y → S.sc.names.lookup y = some .local → (∀ env : Env, env.scope = S.sc → swapsWith e (some (.Name y py)) spos.line env = pure true) →
    PS (S.cx Y) (.Assign [.Name y py] e spos) (tAsg (t Y) (gName i))
theorem en_comp (h : CompE S ρ e m) : EN S ρ e m := fun Y ok => by
  obtain ⟨t, h1, h2, _⟩ := h
  exact (h1 Y ok).pre (h2 Y ok)
theorem upd_new {p : Pg} {g1 g2 : Gs} {H1 H2 : Hp} {a : Addr} {o : HO} (s : Stp p g1 H1 g2 H2) (hn : H1 a = none) (hG : g2.G a = none) (ha : a ∉ g2.am) (hm : ∃ xs, H2 a = some (.lst xs)) : Stp p g1 H1 g2 (upd H2 a o) := by
  refine ⟨s.gle, s.aml, fun b u e n => ?_, s.gnew, s.amn, ⟨fun b u e => ?_, s.wf.amG, s.wf.nd, s.wf.len, fun k b c e1 e2 => ?_⟩⟩
  · rw [upd_ne (ne_of_none e hn)]
    exact s.keep b u e n
  · rw [upd_ne (ne_of_none e hG)]
    exact s.wf.sub b u e
  · have hb : b ≠ a := fun z => ha (by rw [← z]; exact List.mem_of_getElem? e1)
    have h := s.wf.cell k b c e1 e2
    obtain ⟨xs, hm⟩ := hm
    refine h.mono (fun _ _ e => e) (List.prefix_refl _) (upd_ne hb) fun dx e => ?_
    rw [upd_ne (ne_of e hm (by intro z; cases z))]
    exact e
/-- a list comprehension with one clause -/
def lcM (mi : M (List D)) (u : D → M (List D)) (mt : List D → M Bool) (me : List D → M D) : M D :=
  mi >>= fun xs => compM (fun x => u x >>= fun ds => mt ds >>= fun b => if b = true then me ds >>= fun d => pure (some d) else pure none) xs >>= mkL
theorem lc_read {own : List (Str × Nat)} {u : D → M (List D)} {ix : List Nat} {mt : List D → M Bool} {me : List D → M D} {tt : Dyn → TT} {te : Dyn → TE} {tgt : L2.TG}
    (pu : Pure1 u) (hlen : Len1 u ix.length) (hix : ∀ i ∈ ix, i ∈ own.map (·.2)) {Y : Dyn} (ok : OkY S Y)
    {σ : L2.St} {H : Hp} {Q : VK} (q : rdX S Y ρ (RN S.pg) (lcM mi u mt me) σ H Q)
    (hg : ∀ v σ H Q, (∃ g d, Wf S.pg g H ∧ S.pg.Rp g v d ∧ (u d g.st).Post (fun ds st' => st' = g.st → ∀ ws, S.pg.Rps g ws ds → Q (setS σ ix ws) H) fun _ _ => False) → tgt v σ H Q)
    (ht : ∀ ds σ H Q, ds.length = ix.length → (∃ F g, ER S.pg F (setE (wipeE ρ (own.map (·.2))) ix ds) σ g H ∧ (mt ds g.st).Post (fun b st' => ∀ g' H', g'.st = st' → Stp S.pg g H g' H' → Q b H') fun _ _ => False) → tt Y σ H Q)
    (he : ∀ ds σ H Q, ds.length = ix.length → (∃ F g, ER S.pg F (setE (wipeE ρ (own.map (·.2))) ix ds) σ g H ∧ (me ds g.st).Post (Pv S.pg (RE S.pg) g H Q) fun _ _ => False) → te Y σ H Q) :
    tLc (rdI S Y ρ (TS' S.pg) mi) tgt (tt Y) (te Y) (own.map (·.2)) σ H Q := by
  obtain ⟨F, g, E, q⟩ := q
  refine ⟨F, g, E, (post_bind q).imp (fun xs st' q J g1 H1 e1 s1 wk A hA => ?_) fun _ _ q => q⟩
  subst e1
  -- what is made so far, and what the rest makes
  refine ⟨fun i m H2 => i ≤ xs.length ∧ m = xs.length - i ∧ ∃ g2 vs acc, Stp S.pg g1 H1 g2 H2 ∧ H2 A = some (.lst vs) ∧ S.pg.Rps g2 vs acc ∧ g2.G A = none ∧ A ∉ g2.am ∧
    ((compM (fun x => u x >>= fun ds => mt ds >>= fun b => if b = true then me ds >>= fun d => pure (some d) else pure none) (xs.drop i) >>= fun r => mkL (acc ++ r)) g2.st).Post (Pv S.pg (RN S.pg) g H Q) (Px S Y g H),
    ⟨xs.length, Nat.zero_le _, rfl, g1, [], [], Stp.laid s1.wf hA, upd_same, .nil, s1.wf.freeG hA, s1.wf.freeA hA, q⟩, ?_⟩
  rintro i m H2 ⟨hi, rfl, g2, vs, acc, s2, hD, rv, hG, ha, q⟩
  have sg2 := s1.trans E.wf s2
  by_cases hlt : i < xs.length
  · refine .inr ⟨wk.goes i g2 H2 hlt s2.wf s2, fun H' => i + 1 ≤ xs.length ∧ ∃ g2 vs acc, Stp S.pg g1 H1 g2 H' ∧ H' A = some (.lst vs) ∧ S.pg.Rps g2 vs acc ∧ g2.G A = none ∧ A ∉ g2.am ∧
      ((compM (fun x => u x >>= fun ds => mt ds >>= fun b => if b = true then me ds >>= fun d => pure (some d) else pure none) (xs.drop (i + 1)) >>= fun r => mkL (acc ++ r)) g2.st).Post (Pv S.pg (RN S.pg) g H Q) (Px S Y g H),
      fun H' h => ⟨xs.length - (i + 1), by omega, h.1, rfl, h.2⟩, fun x H' hy => ?_⟩
    obtain ⟨g3, d, e3, s3, hd, rx⟩ := wk.yields i g2 H2 x H' hlt s2.wf s2 hy
    have s23 := s2.trans s1.wf s3
    have sg3 := s1.trans E.wf s23
    have keepD : ∀ {gg : Gs} {HH : Hp}, Stp S.pg g2 H2 gg HH → HH A = some (.lst vs) := fun {gg HH} s => s.keep A _ hD ha
    have keepG : ∀ {gg : Gs} {HH : Hp}, Stp S.pg g2 H2 gg HH → gg.G A = none := fun {gg HH} s => by
      cases z : gg.G A with
      | none => rfl
      | some o =>
        rcases s.gnew A o z with y | y | ⟨ys, y⟩
        · rw [hG] at y; cases y
        · rw [hD] at y; cases y
        · rw [hD] at y; cases y
    have keepA : ∀ {gg : Gs} {HH : Hp}, Stp S.pg g2 H2 gg HH → A ∉ gg.am := fun {gg HH} s h => by
      rcases s.amn A h with y | y
      · exact ha y
      · rw [hD] at y; cases y
    have ed : xs.drop i = d :: xs.drop (i + 1) := by
      rw [List.drop_eq_getElem_cons hlt]
      rw [List.getElem?_eq_getElem hlt] at hd
      cases hd; rfl
    rw [ed, compM, bind_assoc'] at q
    have q := noexc_post q
    rw [← e3] at q
    refine hg x _ H' _ ⟨g3, d, s23.wf, rx, ?_⟩
    have q := post_bind q
    cases eu : u d g3.st with
    | stuck => rw [eu] at q; exact q
    | exc c s => rw [eu] at q; exact q
    | ok ds st4 =>
      rw [eu] at q
      intro es ws rws
      subst es
      have hl := hlen _ _ _ _ eu
      refine ⟨wipe_setS σ _ _ ws hix, ?_⟩
      have E4 := ((E.step sg3).wipe (own.map (·.2))).setMany ix rws
      refine ht ds _ _ _ hl ⟨F, g3, E4, (post_bind q).imp (fun b st5 q g5 H5 e5 s5 => ?_) fun _ _ q => q⟩
      subst e5
      have s25 := s3.trans s2.wf s5
      by_cases hb : b = true
      · rw [if_pos hb]
        rw [if_pos hb] at q
        refine he ds _ _ _ hl ⟨F, g5, E4.step s5, (post_bind q).imp (fun y st6 q v6 g6 H6 e6 s6 r6 => ?_) fun _ _ q => q⟩
        subst e6
        have s26 := s25.trans s2.wf s6
        have q : ((compM (fun x => u x >>= fun ds => mt ds >>= fun b => if b = true then me ds >>= fun d => pure (some d) else pure none) (xs.drop (i + 1)) >>= fun t => mkL (acc ++ y :: t)) g6.st).Post (Pv S.pg (RN S.pg) g H Q) (Px S Y g H) := by
          have q := post_pure q
          rw [bind_assoc'] at q
          exact q
        refine ⟨vs, keepD s26, ?_, hlt, g6, vs ++ [v6], acc ++ [y], upd_new (s2.trans s1.wf s26) hA (keepG s26) (keepA s26) ⟨vs, keepD s26⟩, upd_same, (rv.mono s26.gle s26.aml).append (.cons r6 .nil), keepG s26, keepA s26, ?_⟩
        · rw [rv.length]
          rw [bind_run] at q
          cases er : compM (fun x => u x >>= fun ds => mt ds >>= fun b => if b = true then me ds >>= fun d => pure (some d) else pure none) (xs.drop (i + 1)) g6.st with
          | stuck => rw [er] at q; exact q.elim
          | exc c s => exact (compM_noexc _ _ _ _ _ er).elim
          | ok t s =>
            rw [er] at q
            have q : (mkL (acc ++ y :: t) s).Post _ _ := q
            unfold mkL at q
            by_cases z : (acc ++ y :: t).length ≤ sizeLine
            · rw [List.length_append, List.length_cons] at z
              omega
            · rw [if_neg z] at q
              exact False.elim q
        · have fe : (fun t => mkL (acc ++ y :: t)) = fun t => mkL (acc ++ [y] ++ t) := by
            funext t
            rw [List.append_assoc]
            rfl
          rw [fe] at q
          exact q
      · rw [if_neg hb]
        rw [if_neg hb] at q
        have q : ((compM (fun x => u x >>= fun ds => mt ds >>= fun b => if b = true then me ds >>= fun d => pure (some d) else pure none) (xs.drop (i + 1)) >>= fun t => mkL (acc ++ t)) g5.st).Post (Pv S.pg (RN S.pg) g H Q) (Px S Y g H) := by
          have q := post_pure q
          rw [bind_assoc'] at q
          exact q
        exact ⟨hlt, g5, vs, acc, s2.trans s1.wf s25, keepD s25, rv.mono s25.gle s25.aml, keepG s25, keepA s25, q⟩
  · have ei : i = xs.length := by omega
    subst ei
    rw [List.drop_length, compM] at q
    have q : (mkL (acc ++ []) g2.st).Post (Pv S.pg (RN S.pg) g H Q) (Px S Y g H) := q
    rw [List.append_nil] at q
    unfold mkL at q
    by_cases z : acc.length ≤ sizeLine
    · rw [if_pos z] at q
      exact .inl ⟨wk.stops g2 H2 s2.wf s2, (post_pure q) (.ref A) g2 H2 rfl sg2 ⟨A, rfl, ⟨vs, hD, rv⟩, hG, ha, s1.none_of E.wf hA⟩⟩
    · rw [if_neg z] at q
      exact False.elim q
theorem comp1 {ifs : List Expr} {scope : Scope} {own : List (Str × Nat)} {u : D → M (List D)} {ix : List Nat} {mt : List D → M Bool} {me : List D → M D}
    (hN : S.N.Nodup) (hok : BlkOk S.N S.sc scope own) (hi : EI S ρ (TS' S.pg) tg it mi) (hg : TG (S.blk scope) tg u ix) (pu : Pure1 u) (hlen : Len1 u ix.length) (hix : ∀ i ∈ ix, i ∈ own.map (·.2))
    (ht : ∀ ds, ds.length = ix.length → ETs (S.blk scope) (setE (wipeE ρ (own.map (·.2))) ix ds) ifs (mt ds))
    (he : ∀ ds, ds.length = ix.length → EE (S.blk scope) (setE (wipeE ρ (own.map (·.2))) ix ds) elt (me ds))
    (hs : ∀ (env : Env) (x : Value), foldedSetIterable it env x = pure x) :
    CompE S ρ (.ListComp elt [⟨tg, it, ifs, 0⟩] scope pos) (lcM mi u mt me) := by
  have hT : ∀ Y, OkY S Y → ∀ (s : Shared) (H : Hp) (C : Addr) (cl : List (Str × Addr)) (fp : List Addr), PTs ((S.cx Y).blk s H scope (compEnvC scope cl C (S.cx Y).env) fp) ifs
      (fun σ H Q => ∃ ds, ds.length = ix.length ∧ ∃ F g, ER S.pg F (setE (wipeE ρ (own.map (·.2))) ix ds) σ g H ∧ (mt ds g.st).Post (fun b st' => ∀ g' H', g'.st = st' → Stp S.pg g H g' H' → Q b H') fun _ _ => False) := fun Y ok s H C cl fp =>
    ⟨fun pins s2 σ H2 Q I ⟨ds, hl, F, g, E, q⟩ => (ht ds hl (Y.blk S s H scope C cl fp) (blk_ok ok)).run pins s2 σ H2 Q I ⟨F, g, E, q.imp (fun _ _ q => q) fun _ _ q => q.elim⟩⟩
  have hE : ∀ Y, OkY S Y → ∀ (s : Shared) (H : Hp) (C : Addr) (cl : List (Str × Addr)) (fp : List Addr), PE ((S.cx Y).blk s H scope (compEnvC scope cl C (S.cx Y).env) fp) elt
      (fun σ H Q => ∃ ds, ds.length = ix.length ∧ ∃ F g, ER S.pg F (setE (wipeE ρ (own.map (·.2))) ix ds) σ g H ∧ (me ds g.st).Post (Pv S.pg (RE S.pg) g H Q) fun _ _ => False) := fun Y ok s H C cl fp =>
    ⟨fun pins s2 σ H2 Q I ⟨ds, hl, F, g, E, q⟩ => (he ds hl (Y.blk S s H scope C cl fp) (blk_ok ok)).run pins s2 σ H2 Q I ⟨F, g, E, q.imp (fun _ _ q => q) fun _ _ q => q.elim⟩⟩
  refine ⟨fun Y => tLc (rdI S Y ρ (TS' S.pg) mi) _ _ _ (own.map (·.2)), fun Y ok => pe_lc (X := S.cx Y) rfl hN (hi Y ok) hok (fun s H C cl fp => hg (Y.blk S s H scope C cl fp) (blk_ok ok)) (hT Y ok) (hE Y ok) (hs _), fun Y ok σ H Q q => ?_, fun Y ok i y py spos hy hyl hsw => ?_⟩
  · exact lc_read (tt := fun _ => _) (te := fun _ => _) pu hlen hix ok q (fun v σ H Q h => h) (fun ds σ H Q hl h => ⟨ds, hl, h⟩) fun ds σ H Q hl h => ⟨ds, hl, h⟩
  · exact ps_setLc (X := S.cx Y) rfl hN hy hyl (hsw _ rfl) (hi Y ok) hok (fun s H C cl fp => hg (Y.blk S s H scope C cl fp) (blk_ok ok)) (hT Y ok) (hE Y ok) (hs _)
end
end DL
namespace DL
open PySem PySem.Spec PyProof.Rows L2
/-! ### statements -/
inductive Out (N B : Type) where
  | nx (n : N) | rt (d : D) | bk (b : B) | ct (b : B)
def seqO {N N' B : Type} (k : N → M (Out N' B)) : Out N B → M (Out N' B)
  | .nx n => k n
  | .rt d => pure (.rt d)
  | .bk b => pure (.bk b)
  | .ct b => pure (.ct b)
@[simp] theorem seqO_nx {N N' B : Type} (k : N → M (Out N' B)) (n : N) : seqO k (.nx n) = k n := Eq.trans rfl rfl
@[simp] theorem seqO_rt {N N' B : Type} (k : N → M (Out N' B)) (d : D) : seqO k (.rt d) = pure (.rt d) := Eq.trans rfl rfl
@[simp] theorem seqO_bk {N N' B : Type} (k : N → M (Out N' B)) (d : B) : seqO k (.bk d) = pure (.bk d) := Eq.trans rfl rfl
@[simp] theorem seqO_ct {N N' B : Type} (k : N → M (Out N' B)) (d : B) : seqO k (.ct d) = pure (.ct d) := Eq.trans rfl rfl
/-- what is wanted behind statements -/
def PoO {N B : Type} (p : Pg) (F : Fm) (g : Gs) (shN : N → Ev) (shB : B → Ev) (Dd : Ends) : Out N B → Store → Prop
  | .nx n, st' => ∀ σ' g' H', g'.st = st' → Ltr p g g' → ER p F (shN n) σ' g' H' → Dd.nx σ' H'
  | .rt d, st' => ∀ v g' H', g'.st = st' → Stp p F.g F.H g' H' → p.Rp g' v d → Dd.rt v H'
  | .bk b, st' => ∀ σ' g' H', g'.st = st' → Ltr p g g' → ER p F (shB b) σ' g' H' → Dd.bk σ' H'
  | .ct b, st' => ∀ σ' g' H', g'.st = st' → Ltr p g g' → ER p F (shB b) σ' g' H' → Dd.ct σ' H'
def PxO (S : Sta) (Y : Dyn) (F : Fm) (c : Nat) (st' : Store) : Prop := ∀ g' H', g'.st = st' → Stp S.pg F.g F.H g' H' → Y.W (.ref (S.pg.cA c)) none H'
def rdS {N B : Type} (S : Sta) (Y : Dyn) (ρ : Ev) (m : M (Out N B)) (shN : N → Ev) (shB : B → Ev) : TS := fun Dd σ H => ∃ F g, ER S.pg F ρ σ g H ∧ (m g.st).Post (PoO S.pg F g shN shB Dd) (PxO S Y F)
def SB {N B : Type} (S : Sta) (ρ : Ev) (sts : List Stmt) (m : M (Out N B)) (shN : N → Ev) (shB : B → Ev) : Prop := ∀ Y, OkY S Y → PSs (S.cx Y) sts (rdS S Y ρ m shN shB)
theorem PoO.back {N B : Type} {p : Pg} {F : Fm} {g g1 : Gs} {shN : N → Ev} {shB : B → Ev} {Dd : Ends} {o : Out N B} {st' : Store} (l : Ltr p g g1) (h : PoO p F g shN shB Dd o st') : PoO p F g1 shN shB Dd o st' := by
  cases o with
  | nx n => exact fun σ' g' H' e l2 E => h σ' g' H' e (l.trans l2) E
  | rt d => exact h
  | bk b => exact fun σ' g' H' e l2 E => h σ' g' H' e (l.trans l2) E
  | ct b => exact fun σ' g' H' e l2 E => h σ' g' H' e (l.trans l2) E
section
variable {S : Sta} {ρ ρ' : Ev} {a b c tg it e elt : Expr} {st : Stmt} {body rest ta tb : List Stmt} {tgs : List Expr} {ma mb mc m : M D} {mi : M (List D)} {pos p p2 : Pos} {N B : Type} {shN : N → Ev} {shB : B → Ev}
/-- an expression in a statement: its exceptions are the statement's -/
theorem PxO.of {Y : Dyn} {F : Fm} {σ : L2.St} {g : Gs} {H : Hp} {c : Nat} {st' : Store} (E : ER S.pg F ρ σ g H) (h : PxO S Y F c st') : Px S Y g H c st' :=
  fun g' H' e s => h g' H' e (E.fr.trans E.fw s)
theorem rdS.expr {Y : Dyn} {F : Fm} {σ : L2.St} {g : Gs} {H : Hp} {R : Rel} {N' B' : Type} {k : D → M (Out N' B')} {shN : N' → Ev} {shB : B' → Ev} {Dd : Ends} {Q : VK} (E : ER S.pg F ρ σ g H) (q : ((m >>= k) g.st).Post (PoO S.pg F g shN shB Dd) (PxO S Y F))
    (h : ∀ d v g' H', Stp S.pg g H g' H' → ER S.pg F ρ σ g' H' → R H g' H' v d → (k d g'.st).Post (PoO S.pg F g' shN shB Dd) (PxO S Y F) → Q v H') : rdX S Y ρ R m σ H Q :=
  ⟨F, g, E, (post_bind q).imp (fun d st' q v g' H' e s r => h d v g' H' s (E.step s) r (by rw [e]; exact q.imp (fun _ _ q => q.back s.ltr) fun _ _ q => q)) fun _ _ q => PxO.of E q⟩
theorem rdS.test {Y : Dyn} {F : Fm} {σ : L2.St} {g : Gs} {H : Hp} {N' B' : Type} {t : M Bool} {k : Bool → M (Out N' B')} {shN : N' → Ev} {shB : B' → Ev} {Dd : Ends} {Q : Bool → Hp → Prop} (E : ER S.pg F ρ σ g H) (q : ((t >>= k) g.st).Post (PoO S.pg F g shN shB Dd) (PxO S Y F))
    (h : ∀ d g' H', Stp S.pg g H g' H' → ER S.pg F ρ σ g' H' → (k d g'.st).Post (PoO S.pg F g' shN shB Dd) (PxO S Y F) → Q d H') : rdT S Y ρ t σ H Q :=
  ⟨F, g, E, (post_bind q).imp (fun d st' q g' H' e s => h d g' H' s (E.step s) (by rw [e]; exact q.imp (fun _ _ q => q.back s.ltr) fun _ _ q => q)) fun _ _ q => PxO.of E q⟩
theorem sb_pre {m : M (Out N B)} (h : SB S ρ' rest m shN shB) (l : Le ρ' ρ) : SB S ρ rest m shN shB := fun Y ok => (h Y ok).pre fun Dd σ H ⟨F, g, E, q⟩ => ⟨F, g, E.weak l, q⟩
theorem sb_nil {n : N} (l : Le (shN n) ρ) : SB S ρ [] (pure (.nx n)) shN shB := fun Y ok => pss_nil.pre fun Dd σ H ⟨F, g, E, q⟩ => (post_pure q) σ g H rfl (.refl g) (E.weak l)
/-- name = e -/
theorem sb_asg (i : Nat) {x : Str} {k : D → M (Out N B)} (hnd : S.N.Nodup) (hN : S.N[i]? = some x) (hx : Loc S.sc x) (he : EE S ρ e m) (hr : ∀ d, SB S (ρ.set i (.sh d)) rest (k d) shN shB) (hs : ∀ env : Env, env.scope = S.sc → swapsWith e (some (.Name x p2)) pos.line env = pure false) (hf : S.fn x = true ∨ S.sc.names.lookup x = some .local) :
    SB S ρ (.Assign [.Name x p2] e pos :: rest) (m >>= k) shN shB := fun Y ok => by
  have hR : PSs (S.cx Y) rest (fun Dd σ H => ∃ d, rdS S Y (ρ.set i (.sh d)) (k d) shN shB Dd σ H) := ⟨fun pins s σ H Dd I ⟨d, q⟩ => (hr d Y ok).run pins s σ H Dd I q⟩
  refine (pss_cons (ps_set (X := S.cx Y) (i := i) hnd hN hx (he Y ok) (hs _ rfl) hf) hR).pre fun Dd σ H ⟨F, g, E, q⟩ => ?_
  exact rdS.expr E q fun d v g' H' s E' r q => ⟨d, F, g', E'.set r, q⟩
/-- .. a fresh list or dict, that the name alone holds -/
theorem sb_asgN (i : Nat) {x : Str} {k : D → M (Out N B)} (hnd : S.N.Nodup) (hN : S.N[i]? = some x) (hx : Loc S.sc x) (he : EN S ρ e m) (hr : ∀ d, SB S (ρ.set i (.ow d)) rest (k d) shN shB) (hs : ∀ env : Env, env.scope = S.sc → swapsWith e (some (.Name x p2)) pos.line env = pure false) (hf : S.fn x = true ∨ S.sc.names.lookup x = some .local) :
    SB S ρ (.Assign [.Name x p2] e pos :: rest) (m >>= k) shN shB := fun Y ok => by
  have hR : PSs (S.cx Y) rest (fun Dd σ H => ∃ d, rdS S Y (ρ.set i (.ow d)) (k d) shN shB Dd σ H) := ⟨fun pins s σ H Dd I ⟨d, q⟩ => (hr d Y ok).run pins s σ H Dd I q⟩
  refine (pss_cons (ps_set (X := S.cx Y) (i := i) hnd hN hx (he Y ok) (hs _ rfl) hf) hR).pre fun Dd σ H ⟨F, g, E, q⟩ => ?_
  exact rdS.expr E q fun d v g' H' s E' r q => ⟨d, F, g', E.setOwn s r, q⟩
/-- .. a comprehension, its list not written later -/
theorem sb_asgC (i : Nat) {x : Str} {k : D → M (Out N B)} (hnd : S.N.Nodup) (hN : S.N[i]? = some x) (hx : S.sc.names.lookup x = some .local) (he : CompE S ρ e m) (hr : ∀ d, SB S (ρ.set i (.sh d)) rest (k d) shN shB) (hs : ∀ env : Env, env.scope = S.sc → swapsWith e (some (.Name x p2)) pos.line env = pure true) :
    SB S ρ (.Assign [.Name x p2] e pos :: rest) (m >>= k) shN shB := fun Y ok => by
  have hR : PSs (S.cx Y) rest (fun Dd σ H => ∃ d, rdS S Y (ρ.set i (.sh d)) (k d) shN shB Dd σ H) := ⟨fun pins s σ H Dd I ⟨d, q⟩ => (hr d Y ok).run pins s σ H Dd I q⟩
  obtain ⟨t, h1, h2, h3⟩ := he
  refine (pss_cons (h3 Y ok i x p2 pos hN hx hs) hR).pre fun Dd σ H ⟨F, g, E, q⟩ => h2 Y ok σ H _ ?_
  refine rdS.expr E q fun d v g' H' s E' r q => ?_
  obtain ⟨g2, e2, s2, r2, l1, l2⟩ := NewR.frozen E.wf s r
  refine ⟨d, F, g2, (E.step s2).set r2, ?_⟩
  rw [e2]
  exact q.imp (fun o st' q => q.back ⟨l1, l2⟩) fun _ _ q => q
/-- .. written later -/
theorem sb_asgCN (i : Nat) {x : Str} {k : D → M (Out N B)} (hnd : S.N.Nodup) (hN : S.N[i]? = some x) (hx : S.sc.names.lookup x = some .local) (he : CompE S ρ e m) (hr : ∀ d, SB S (ρ.set i (.ow d)) rest (k d) shN shB) (hs : ∀ env : Env, env.scope = S.sc → swapsWith e (some (.Name x p2)) pos.line env = pure true) :
    SB S ρ (.Assign [.Name x p2] e pos :: rest) (m >>= k) shN shB := fun Y ok => by
  have hR : PSs (S.cx Y) rest (fun Dd σ H => ∃ d, rdS S Y (ρ.set i (.ow d)) (k d) shN shB Dd σ H) := ⟨fun pins s σ H Dd I ⟨d, q⟩ => (hr d Y ok).run pins s σ H Dd I q⟩
  obtain ⟨t, h1, h2, h3⟩ := he
  refine (pss_cons (h3 Y ok i x p2 pos hN hx hs) hR).pre fun Dd σ H ⟨F, g, E, q⟩ => h2 Y ok σ H _ ?_
  exact rdS.expr E q fun d v g' H' s E' r q => ⟨d, F, g', E.setOwn s r, q⟩
/-- a slot is frozen -/
theorem ER.freeze {p : Pg} {F : Fm} {σ : L2.St} {g : Gs} {H : Hp} (E : ER p F ρ σ g H) {i : Nat} {d : D} (hi : ρ[i]? = some (.ow d)) : ∃ g', g'.st = g.st ∧ Ltr p g g' ∧ ER p F (ρ.set i (.sh d)) σ g' H := by
  have h := E.sl i _ hi
  cases es : σ[i]? with
  | none => rw [es] at h; exact h.elim
  | some o =>
    rw [es] at h
    cases o with
    | none => exact h.elim
    | some v =>
      obtain ⟨a, rfl, o, hG, ha, hF⟩ := h
      obtain ⟨u, e, wf', le, r⟩ := o.frozen E.wf hG ha
      refine ⟨{ g with G := upd g.G a u }, rfl, ⟨le, List.prefix_refl _⟩, ⟨by rw [List.length_set]; exact E.len, fun j s hj => ?_, fun x y d1 e1 h1 h2 h3 => ?_, ⟨fun b x q => le b x (E.fr.gle b x q), E.fr.aml, E.fr.keep, fun b x q => ?_, E.fr.amn, wf'⟩, E.fw⟩⟩
      · by_cases z : i = j
        · subst z
          have hl : i < ρ.length := (List.getElem?_eq_some_iff.mp hi).1
          rw [List.getElem?_set_self hl] at hj
          cases hj
          rw [es]
          exact r
        · rw [List.getElem?_set_ne z] at hj
          have h := E.sl j s hj
          cases s with
          | un => cases σ[j]?.join <;> exact True.intro
          | sh d2 =>
            cases e3 : σ[j]?.join with
            | none => rw [e3] at h; exact h.elim
            | some v => rw [e3] at h; exact Rp.mono le (List.prefix_refl _) h
          | ow d2 =>
            cases e3 : σ[j]?.join with
            | none => rw [e3] at h; exact h.elim
            | some v =>
              rw [e3] at h
              obtain ⟨b, rfl, o2, hG2, ha2, hF2⟩ := h
              have hab : b ≠ a := fun z2 => by
                subst z2
                refine z (E.dist i j d d2 hi hj ?_)
                rw [es]
                cases e4 : σ[j]? with
                | none => rw [e4] at e3; cases e3
                | some w =>
                  rw [e4] at e3
                  cases w with
                  | none => cases e3
                  | some w => cases e3; rfl
              refine ⟨b, rfl, o2.mono le (List.prefix_refl _) rfl, ?_, ha2, hF2⟩
              show upd g.G a u b = none
              rw [upd_ne hab]
              exact hG2
          | bo d2 =>
            cases e3 : σ[j]?.join with
            | none => rw [e3] at h; exact h.elim
            | some v =>
              rw [e3] at h
              rcases h with h | ⟨b, rfl, n, o2, hF2⟩
              · exact .inl (Rp.mono le (List.prefix_refl _) h)
              · exact .inr ⟨b, rfl, n, o2.mono le (List.prefix_refl _) rfl, hF2⟩
      · have ne : ∀ {c : Nat} {x : D}, (ρ.set i (.sh d))[c]? = some (.ow x) → ρ[c]? = some (.ow x) := fun {c x} h => by
          by_cases z : i = c
          · subst z
            have hl : i < ρ.length := (List.getElem?_eq_some_iff.mp hi).1
            rw [List.getElem?_set_self hl] at h; cases h
          · rw [List.getElem?_set_ne z] at h; exact h
        exact E.dist x y d1 e1 (ne h1) (ne h2) h3
      · have q : upd g.G a u b = some x := q
        by_cases z : b = a
        · subst z; exact .inr (.inl hF)
        · rw [upd_ne z] at q; exact E.fr.gnew b x q
theorem sb_freeze (i : Nat) {d : D} {m : M (Out N B)} (hi : ρ[i]? = some (.ow d)) (h : SB S (ρ.set i (.sh d)) rest m shN shB) : SB S ρ rest m shN shB := fun Y ok => (h Y ok).pre fun Dd σ H ⟨F, g, E, q⟩ => by
  obtain ⟨g', e, l, E'⟩ := E.freeze hi
  refine ⟨F, g', E', ?_⟩
  rw [e]
  exact q.imp (fun _ _ q => q.back l) fun _ _ q => q
/-- a, b = e -/
theorem sb_asgT {u : D → M (List D)} {ix : List Nat} {k : List D → M (Out N B)} (he : EE S ρ e m) (hg : TG S tg u ix) (pu : Pure1 u) (hlen : Len1 u ix.length) (hr : ∀ ds, ds.length = ix.length → SB S (setE ρ ix ds) rest (k ds) shN shB)
    (hs : ∀ env : Env, env.scope = S.sc → swapsWithSole [tg] e pos.line env = pure false) (hw : ∀ env : Env, env.scope = S.sc → swappedStores [tg] e env = pure none) (h1 : ∀ env : Env, (assignEach [tg] env).map (·.2) = [assign tg env]) :
    SB S ρ (.Assign [tg] e pos :: rest) (m >>= fun d => u d >>= k) shN shB := fun Y ok => by
  have hR : PSs (S.cx Y) rest (fun Dd σ H => ∃ ds, ds.length = ix.length ∧ rdS S Y (setE ρ ix ds) (k ds) shN shB Dd σ H) := ⟨fun pins s σ H Dd I ⟨d, hl, q⟩ => (hr d hl Y ok).run pins s σ H Dd I q⟩
  refine (pss_cons (ps_asg (X := S.cx Y) (he Y ok) (hg Y ok) (hs _ rfl) (hw _ rfl) (h1 _)) hR).pre fun Dd σ H ⟨F, g, E, q⟩ => ?_
  refine rdS.expr E q fun d v g' H' s E' r q => ⟨g', d, E'.wf, r, ?_⟩
  have q := post_bind q
  cases e1 : u d g'.st with
  | stuck => rw [e1] at q; exact q
  | exc c s => exact (pu.nx _ _ _ _ e1).elim
  | ok ds s1 =>
    rw [e1] at q
    intro es ws rw1
    subst es
    exact ⟨ds, hlen _ _ _ _ e1, F, g', E'.setMany ix rw1, q⟩
/-- an expression whose value is dropped -/
theorem sb_expr {k : M (Out N B)} (he : EL S ρ e m) (hr : SB S ρ rest k shN shB) (hs : ∀ env : Env, swapsWith e none pos.line env = pure false) : SB S ρ (.Expr e pos :: rest) (m >>= fun _ => k) shN shB := fun Y ok =>
  (pss_cons (ps_expr (he Y ok) (hs _)) (hr Y ok)).pre fun Dd σ H ⟨F, g, E, q⟩ => rdS.expr E q fun d v g' H' s E' r q => ⟨F, g', E', q⟩
theorem sb_pass {m : M (Out N B)} (hr : SB S ρ rest m shN shB) : SB S ρ (.Pass pos :: rest) m shN shB := fun Y ok => (pss_cons ps_pass (hr Y ok)).pre fun Dd σ H q => q
/-- return -/
theorem sb_ret (he : EE S ρ e m) : SB S ρ (.Return (some e) pos :: rest) (m >>= fun d => pure (.rt d)) shN shB := fun Y ok =>
  (pss_cons (ps_ret (he Y ok)) pss_never).pre fun Dd σ H ⟨F, g, E, q⟩ => rdS.expr E q fun d v g' H' s E' r q => (post_pure q) v g' H' rfl E'.fr r
theorem sb_retN : SB S ρ (.Return none pos :: rest) (pure (.rt .non)) shN shB := fun Y ok =>
  (pss_cons ps_retN pss_never).pre fun Dd σ H ⟨F, g, E, q⟩ => (post_pure q) .non g H rfl E.fr .non
theorem sb_break {n : B} (l : Le (shB n) ρ) : SB S ρ (.Break pos :: rest) (pure (.bk n)) shN shB := fun Y ok =>
  (pss_cons ps_break pss_never).pre fun Dd σ H ⟨F, g, E, q⟩ => (post_pure q) σ g H rfl (.refl g) (E.weak l)
theorem sb_cont {n : B} (l : Le (shB n) ρ) : SB S ρ (.Continue pos :: rest) (pure (.ct n)) shN shB := fun Y ok =>
  (pss_cons ps_continue pss_never).pre fun Dd σ H ⟨F, g, E, q⟩ => (post_pure q) σ g H rfl (.refl g) (E.weak l)
/-- if -/
theorem sb_if {J : Type} {shJ : J → Ev} {t : M Bool} {mA mB : M (Out J B)} {k : J → M (Out N B)} (hc : ET S ρ c t) (hA : SB S ρ ta mA shJ shB) (hB : SB S ρ tb mB shJ shB) (hr : ∀ j, SB S (shJ j) rest (k j) shN shB) :
    SB S ρ (.If c ta tb pos :: rest) (t >>= fun b => (if b = true then mA else mB) >>= seqO k) shN shB := fun Y ok => by
  have hR : PSs (S.cx Y) rest (fun Dd σ H => ∃ j, rdS S Y (shJ j) (k j) shN shB Dd σ H) := ⟨fun pins s σ H Dd I ⟨d, q⟩ => (hr d Y ok).run pins s σ H Dd I q⟩
  refine (pss_cons (ps_if (hc Y ok) (hA Y ok) (hB Y ok)) hR).pre fun Dd σ H ⟨F, g, E, q⟩ => ?_
  refine rdS.test E q fun b g' H' s E' q => ?_
  have core : ∀ mX : M (Out J B), ((mX >>= seqO k) g'.st).Post (PoO S.pg F g' shN shB Dd) (PxO S Y F) → rdS S Y ρ mX shJ shB { Dd with nx := fun σ H => ∃ j, rdS S Y (shJ j) (k j) shN shB Dd σ H } σ H' := fun mX q =>
    ⟨F, g', E', (post_bind q).imp (fun o st' q => by
      cases o with
      | nx j => exact fun σ2 g2 H2 e l E2 => ⟨j, F, g2, E2, by rw [e]; exact q.imp (fun _ _ q => q.back l) fun _ _ q => q⟩
      | rt d => exact q
      | bk b => exact q
      | ct b => exact q) fun _ _ q => q⟩
  by_cases z : b = true
  · rw [if_pos z] at q ⊢
    exact core mA q
  · rw [if_neg z] at q ⊢
    exact core mB q
/-! loops -/
def forL {Z B : Type} (step : Z → D → M (Out Z Z)) : Z → List D → M (Out Z B)
  | s, [] => pure (.nx s)
  | s, d :: r => step s d >>= fun o => match o with
    | .nx s' => forL step s' r
    | .ct s' => forL step s' r
    | .bk s' => pure (.nx s')
    | .rt v => pure (.rt v)
def whileL {Z B : Type} (t : Z → M Bool) (step : Z → M (Out Z Z)) : Nat → Z → M (Out Z B)
  | 0, _ => stuck
  | n + 1, s => t s >>= fun b => if b = true then step s >>= fun o => match o with
    | .nx s' => whileL t step n s'
    | .ct s' => whileL t step n s'
    | .bk s' => pure (.nx s')
    | .rt v => pure (.rt v) else pure (.nx s)
theorem sb_for {Z : Type} {sh : Z → Ev} {s0 : Z} {u : D → M (List D)} {ix : List Nat} {step : Z → List D → M (Out Z Z)} {k : Z → M (Out N B)} (hi : EI S ρ (TL S.pg) tg it mi) (hg : TG S tg u ix) (pu : Pure1 u) (hlen : Len1 u ix.length) (h0 : Le (sh s0) ρ)
    (hb : ∀ s ds, ds.length = ix.length → SB S (setE (sh s) ix ds) body (step s ds) sh sh) (hr : ∀ s, SB S (sh s) rest (k s) shN shB) (hs : ∀ (env : Env) (x : Value), foldedSetIterable it env x = pure x) :
    SB S ρ (.For tg it body [] pos :: rest) (mi >>= fun xs => forL (fun s x => u x >>= step s) s0 xs >>= seqO k) shN shB := fun Y ok => by
  have hR : PSs (S.cx Y) rest (fun Dd σ H => ∃ j, rdS S Y (sh j) (k j) shN shB Dd σ H) := ⟨fun pins s σ H Dd I ⟨d, q⟩ => (hr d Y ok).run pins s σ H Dd I q⟩
  have hB : PSs (S.cx Y) body (fun Dd σ H => ∃ s ds, ds.length = ix.length ∧ rdS S Y (setE (sh s) ix ds) (step s ds) sh sh Dd σ H) := ⟨fun pins s σ H Dd I ⟨z, d, hl, q⟩ => (hb z d hl Y ok).run pins s σ H Dd I q⟩
  refine (pss_cons (ps_for (X := S.cx Y) ok.pass rfl (hi Y ok) (hg Y ok) hB (hs _)) hR).pre fun Dd σ H ⟨F, g, E, q⟩ => ?_
  refine ⟨F, g, E, (post_bind q).imp (fun xs st' q J g1 H1 e1 s1 wk => ?_) fun _ _ q => PxO.of E q⟩
  subst e1
  have E1 := E.step s1
  refine ⟨fun i m σ H => i ≤ xs.length ∧ m = xs.length - i ∧ ∃ g2 s, ER S.pg F (sh s) σ g2 H ∧ Ltr S.pg g1 g2 ∧ ((forL (fun s x => u x >>= step s) s (xs.drop i) >>= seqO k) g2.st).Post (PoO S.pg F g shN shB Dd) (PxO S Y F),
    ⟨xs.length, Nat.zero_le _, rfl, g1, s0, E1.weak h0, .refl g1, q⟩, ?_⟩
  rintro i m σ2 H2 ⟨hi, rfl, g2, s, E2, l2, q⟩
  have lg : Ltr S.pg g g2 := s1.ltr.trans l2
  by_cases hlt : i < xs.length
  · refine .inr ⟨wk.goes i g2 H2 hlt E2.wf l2, fun σ' H' => i + 1 ≤ xs.length ∧ ∃ g2 s, ER S.pg F (sh s) σ' g2 H' ∧ Ltr S.pg g1 g2 ∧ ((forL (fun s x => u x >>= step s) s (xs.drop (i + 1)) >>= seqO k) g2.st).Post (PoO S.pg F g shN shB Dd) (PxO S Y F),
      fun σ' H' h => ⟨xs.length - (i + 1), by omega, h.1, rfl, h.2⟩, fun x H' hy => ?_⟩
    obtain ⟨g3, d, e3, s3, hd, rx⟩ := wk.yields i g2 H2 x H' hlt E2.wf l2 hy
    have ed : xs.drop i = d :: xs.drop (i + 1) := by
      rw [List.drop_eq_getElem_cons hlt]
      rw [List.getElem?_eq_getElem hlt] at hd
      cases hd; rfl
    rw [ed, forL, bind_assoc', bind_assoc'] at q
    refine ⟨g3, d, s3.wf, rx, ?_⟩
    rw [← e3] at q
    have q := post_bind q
    cases eu : u d g3.st with
    | stuck => rw [eu] at q; exact q
    | exc c s => exact (pu.nx _ _ _ _ eu).elim
    | ok ds st4 =>
      rw [eu] at q
      intro es ws rws
      subst es
      refine ⟨s, ds, hlen _ _ _ _ eu, F, g3, (E2.step s3).setMany ix rws, (post_bind q).imp (fun o st5 q => ?_) fun _ _ q => q⟩
      cases o with
      | nx z => exact fun σ5 g5 H5 e5 l5 E5 => ⟨hlt, g5, z, E5, (l2.trans s3.ltr).trans l5, by rw [e5]; exact q⟩
      | ct z => exact fun σ5 g5 H5 e5 l5 E5 => ⟨hlt, g5, z, E5, (l2.trans s3.ltr).trans l5, by rw [e5]; exact q⟩
      | bk z => exact fun σ5 g5 H5 e5 l5 E5 => ⟨z, F, g5, E5, by rw [e5]; exact q.imp (fun _ _ q => q.back ((lg.trans s3.ltr).trans l5)) fun _ _ q => q⟩
      | rt v => exact q
  · have ei : i = xs.length := by omega
    subst ei
    rw [List.drop_length, forL] at q
    exact .inl ⟨wk.stops g2 H2 E2.wf l2, s, F, g2, E2, q.imp (fun _ _ q => q.back lg) fun _ _ q => q⟩
theorem sb_while {Z : Type} {sh : Z → Ev} {s0 : Z} {t : Z → M Bool} {step : Z → M (Out Z Z)} {k : Z → M (Out N B)} {fuel : Nat} (hc : ∀ s, ET S (sh s) c (t s)) (h0 : Le (sh s0) ρ)
    (hb : ∀ s, SB S (sh s) body (step s) sh sh) (hr : ∀ s, SB S (sh s) rest (k s) shN shB) : SB S ρ (.While c body [] pos :: rest) (whileL t step fuel s0 >>= seqO k) shN shB := fun Y ok => by
  have hR : PSs (S.cx Y) rest (fun Dd σ H => ∃ j, rdS S Y (sh j) (k j) shN shB Dd σ H) := ⟨fun pins s σ H Dd I ⟨d, q⟩ => (hr d Y ok).run pins s σ H Dd I q⟩
  have hB : PSs (S.cx Y) body (fun Dd σ H => ∃ s, rdS S Y (sh s) (step s) sh sh Dd σ H) := ⟨fun pins s σ H Dd I ⟨z, q⟩ => (hb z Y ok).run pins s σ H Dd I q⟩
  have hC : PT (S.cx Y) c (fun σ H Q => ∃ s, rdT S Y (sh s) (t s) σ H Q) := ⟨fun pins st σ H Q I ⟨z, q⟩ => (hc z Y ok).run pins st σ H Q I q⟩
  refine (pss_cons (ps_while (X := S.cx Y) ok.pass hC hB) hR).pre fun Dd σ H ⟨F, g, E, q⟩ => ?_
  refine ⟨fun m σ H => ∃ g2 s, ER S.pg F (sh s) σ g2 H ∧ Ltr S.pg g g2 ∧ ((whileL t step m s >>= seqO k) g2.st).Post (PoO S.pg F g shN shB Dd) (PxO S Y F), ⟨fuel, g, s0, E.weak h0, .refl g, q⟩, ?_⟩
  rintro m σ2 H2 ⟨g2, s, E2, l2, q⟩
  cases m with
  | zero => exact False.elim q
  | succ n =>
    rw [whileL, bind_assoc'] at q
    refine ⟨s, F, g2, E2, (post_bind q).imp (fun b st' q g3 H3 e3 s3 => ?_) fun _ _ q => PxO.of E2 q⟩
    subst e3
    have E3 := E2.step s3
    have l3 := l2.trans s3.ltr
    by_cases z : b = true
    · rw [if_pos z] at q ⊢
      rw [bind_assoc'] at q
      refine ⟨fun σ' H' => ∃ g2 s, ER S.pg F (sh s) σ' g2 H' ∧ Ltr S.pg g g2 ∧ ((whileL t step n s >>= seqO k) g2.st).Post (PoO S.pg F g shN shB Dd) (PxO S Y F), fun σ' H' h => ⟨n, Nat.lt_succ_self n, h⟩, s, F, g3, E3, (post_bind q).imp (fun o st5 q => ?_) fun _ _ q => q⟩
      cases o with
      | nx z => exact fun σ5 g5 H5 e5 l5 E5 => ⟨g5, z, E5, l3.trans l5, by rw [e5]; exact q⟩
      | ct z => exact fun σ5 g5 H5 e5 l5 E5 => ⟨g5, z, E5, l3.trans l5, by rw [e5]; exact q⟩
      | bk z => exact fun σ5 g5 H5 e5 l5 E5 => ⟨z, F, g5, E5, by rw [e5]; exact q.imp (fun _ _ q => q.back (l3.trans l5)) fun _ _ q => q⟩
      | rt v => exact q
    · rw [if_neg z] at q ⊢
      exact ⟨s, F, g3, E3, q.imp (fun _ _ q => q.back l3) fun _ _ q => q⟩
end
end DL
namespace DL
open PySem PySem.Spec PyProof.Rows L2
/-! ### a list or dict that a name alone holds is written -/
section
variable {p : Pg} {F : Fm} {ρ : Ev} {σ : L2.St} {g : Gs} {H : Hp}
theorem ER.updOwn (E : ER p F ρ σ g H) {i : Nat} {d d' : D} (hi : ρ[i]? = some (.ow d)) {a : Addr} (hv : σ[i]? = some (some (.ref a))) {o : HO} (h' : Own p g (upd H a o) a d') : ER p F (ρ.set i (.ow d')) σ g (upd H a o) := by
  have h := E.sl i _ hi
  rw [hv] at h
  obtain ⟨a', e, o0, hG, ha, hF⟩ := h
  cases e
  obtain ⟨u, hu, nt, mu, no⟩ := o0.at
  have wf' : Wf p g (upd H a o) := by
    refine ⟨fun b x e => ?_, E.wf.amG, E.wf.nd, E.wf.len, fun k b c e1 e2 => ?_⟩
    · rw [upd_ne (ne_of_none e hG)]
      exact E.wf.sub b x e
    · have hb : b ≠ a := fun z => ha (by rw [← z]; exact List.mem_of_getElem? e1)
      refine (E.wf.cell k b c e1 e2).mono (fun _ _ e => e) (List.prefix_refl _) (upd_ne hb) fun dx e => ?_
      rw [upd_ne (ne_of e hu fun z => no b z.symm)]
      exact e
  refine ⟨by rw [List.length_set]; exact E.len, fun j s hj => ?_, fun x y d1 e1 h1 h2 h3 => ?_, ⟨E.fr.gle, E.fr.aml, fun b x e n => ?_, E.fr.gnew, E.fr.amn, wf'⟩, E.fw⟩
  · by_cases z : i = j
    · subst z
      have hl : i < ρ.length := (List.getElem?_eq_some_iff.mp hi).1
      rw [List.getElem?_set_self hl] at hj
      cases hj
      rw [hv]
      exact ⟨a, rfl, h', hG, ha, hF⟩
    · rw [List.getElem?_set_ne z] at hj
      have h := E.sl j s hj
      cases s with
      | un => cases σ[j]?.join <;> exact True.intro
      | sh d2 =>
        cases e3 : σ[j]?.join with
        | none => rw [e3] at h; exact h.elim
        | some v => rw [e3] at h; exact h
      | ow d2 =>
        cases e3 : σ[j]?.join with
        | none => rw [e3] at h; exact h.elim
        | some v =>
          rw [e3] at h
          obtain ⟨b, rfl, o2, hG2, ha2, hF2⟩ := h
          have hab : b ≠ a := fun z2 => by
            subst z2
            refine z (E.dist i j d d2 hi hj ?_)
            rw [hv]
            cases e4 : σ[j]? with
            | none => rw [e4] at e3; cases e3
            | some w =>
              rw [e4] at e3
              cases w with
              | none => cases e3
              | some w => cases e3; rfl
          exact ⟨b, rfl, o2.mono (fun _ _ e => e) (List.prefix_refl _) (upd_ne hab), hG2, ha2, hF2⟩
      | bo d2 =>
        cases e3 : σ[j]?.join with
        | none => rw [e3] at h; exact h.elim
        | some v =>
          rw [e3] at h
          rcases h with h | ⟨b, rfl, n, o2, o3, hF2⟩
          · exact .inl h
          · have hab : b ≠ a := ne_of_none hF2 hF
            exact .inr ⟨b, rfl, n, o2.mono (fun _ _ e => e) (List.prefix_refl _) (upd_ne hab), o3, hF2⟩
  · have ne : ∀ {c : Nat} {x : D}, (ρ.set i (.ow d'))[c]? = some (.ow x) → ∃ x', ρ[c]? = some (.ow x') := fun {c x} h => by
      by_cases z : i = c
      · subst z; exact ⟨d, hi⟩
      · rw [List.getElem?_set_ne z] at h; exact ⟨x, h⟩
    obtain ⟨d2, h1⟩ := ne h1
    obtain ⟨e2, h2⟩ := ne h2
    exact E.dist x y d2 e2 h1 h2 h3
  · rw [upd_ne (ne_of_none e hF)]
    exact E.fr.keep b x e n
/-- the address in a slot that holds a container of its own -/
theorem ER.own_at (E : ER p F ρ σ g H) {i : Nat} {d : D} (hi : ρ[i]? = some (.ow d)) : ∃ a, σ[i]? = some (some (.ref a)) ∧ Own p g H a d ∧ a ∉ g.am := by
  have h := E.sl i _ hi
  cases es : σ[i]? with
  | none => rw [es] at h; exact h.elim
  | some o =>
    rw [es] at h
    cases o with
    | none => exact h.elim
    | some v =>
      obtain ⟨a, rfl, o, hG, ha, hF⟩ := h
      exact ⟨a, rfl, o, ha⟩
end
def lstD : D → M (List D)
  | .lst ds => pure ds
  | _ => stuck
def appL (ds : List D) (d : D) : M D := if ds.length < sizeLine then pure (.lst (ds ++ [d])) else stuck
def extL (ds : List D) : D → M D
  | .lst es => if ds.length + es.length ≤ sizeLine then pure (.lst (ds ++ es)) else stuck
  | _ => stuck
def setL (ds : List D) (i : Int) (d : D) : M (List D) := match ixN ds.length i with
  | some j => pure (ds.set j d)
  | none => stuck
theorem lstD_post {d : D} {s : Store} {ok : List D → Store → Prop} {ex : Nat → Store → Prop} (q : (lstD d s).Post ok ex) : ∃ ds, d = .lst ds ∧ ok ds s := by
  cases d with
  | lst ds => exact ⟨ds, rfl, q⟩
  | _ => exact False.elim q
section
variable {S : Sta} {ρ ρ' : Ev} {a b c tg it e elt : Expr} {st : Stmt} {body rest ta tb : List Stmt} {ma mb mc m : M D} {mi : M (List D)} {pos p p2 apos cpos : Pos} {N B : Type} {shN : N → Ev} {shB : B → Ev}
/-- x.append(e) -/
theorem sb_append (i : Nat) {x : Str} {d : D} {k : D → M (Out N B)} (hi : ρ[i]? = some (.ow d)) (hN : S.N[i]? = some x) (hv : Vis S.sc x) (he : EE S ρ e m) (hr : ∀ d, SB S (ρ.set i (.ow d)) rest (k d) shN shB) (hs : NoStar [e]) (hline : (apos.endLine == cpos.line) = true)
    (hsw : ∀ env : Env, swapsWith (.Call (.Attribute (.Name x p) "append" apos) [e] [] cpos) none pos.line env = pure false) (hba : ∀ env : Env, attributeBase (.Name x p) "append" env (eval (.Name x p) env) = eval (.Name x p) env)
    (hd : (x == ("__debug__" : Str)) = false := by decide) (hcd : (x == ("__classdict__" : Str)) = false := by decide) :
    SB S ρ (.Expr (.Call (.Attribute (.Name x p) "append" apos) [e] [] cpos) pos :: rest) (lstD d >>= fun ds => m >>= fun y => appL ds y >>= k) shN shB := fun Y ok => by
  have hR : PSs (S.cx Y) rest (fun Dd σ H => ∃ d, rdS S Y (ρ.set i (.ow d)) (k d) shN shB Dd σ H) := ⟨fun pins s σ H Dd I ⟨d, q⟩ => (hr d Y ok).run pins s σ H Dd I q⟩
  have hP := pe_bm (X := S.cx Y) (cpos := cpos) (apos := apos) PySem.F.plainAttrs_list PySem.F.slot_list_append PySem.F.type_list_append mt_append (pe_var (X := S.cx Y) (i := i) (pos := p) hN hv hd hcd) (pa_cons (he Y ok) pa_nil (hs _))
    (hba _) (by rw [hs _]; rfl) hline (hs _) (by rfl)
  refine (pss_cons (ps_expr hP (hsw _)) hR).pre fun Dd σ H ⟨F, g, E, q⟩ => ?_
  obtain ⟨l, hl, o, ha⟩ := E.own_at hi
  obtain ⟨ds, rfl, q⟩ := lstD_post (post_bind q)
  obtain ⟨xs, ex, rx⟩ := o
  refine ⟨.ref l, hl, .inl ⟨rfl, xs, SqL.of ex⟩, rdS.expr E q fun y v g' H' s E' r q => ?_⟩
  have ex' := s.keep l _ ex ha
  have rx' := rx.mono s.gle s.aml
  have q := post_bind q
  unfold appL at q
  by_cases z : ds.length < sizeLine
  · rw [if_pos z] at q
    have o2 : Own S.pg g' (upd H' l (.lst (xs ++ [v]))) l (.lst (ds ++ [y])) := ⟨_, upd_same, rx'.append (.cons r .nil)⟩
    exact ⟨l, xs, v, rfl, rfl, ex', by rw [rx.length]; exact z, .lst (ds ++ [y]), F, g', E'.updOwn hi hl o2, post_pure q⟩
  · rw [if_neg z] at q
    exact False.elim q
/-- x.extend(e) -/
theorem sb_extend (i : Nat) {x : Str} {d : D} {k : D → M (Out N B)} (hi : ρ[i]? = some (.ow d)) (hN : S.N[i]? = some x) (hv : Vis S.sc x) (he : EL S ρ e m) (hr : ∀ d, SB S (ρ.set i (.ow d)) rest (k d) shN shB) (hs : NoStar [e]) (hline : (apos.endLine == cpos.line) = true)
    (hsw : ∀ env : Env, swapsWith (.Call (.Attribute (.Name x p) "extend" apos) [e] [] cpos) none pos.line env = pure false) (hba : ∀ env : Env, attributeBase (.Name x p) "extend" env (eval (.Name x p) env) = eval (.Name x p) env)
    (hd : (x == ("__debug__" : Str)) = false := by decide) (hcd : (x == ("__classdict__" : Str)) = false := by decide) :
    SB S ρ (.Expr (.Call (.Attribute (.Name x p) "extend" apos) [e] [] cpos) pos :: rest) (lstD d >>= fun ds => m >>= fun y => extL ds y >>= k) shN shB := fun Y ok => by
  have hR : PSs (S.cx Y) rest (fun Dd σ H => ∃ d, rdS S Y (ρ.set i (.ow d)) (k d) shN shB Dd σ H) := ⟨fun pins s σ H Dd I ⟨d, q⟩ => (hr d Y ok).run pins s σ H Dd I q⟩
  have hP := pe_bm (X := S.cx Y) (cpos := cpos) (apos := apos) PySem.F.plainAttrs_list PySem.F.slot_list_extend PySem.F.type_list_extend mt_extend (pe_var (X := S.cx Y) (i := i) (pos := p) hN hv hd hcd) (pa_cons (he Y ok) pa_nil (hs _))
    (hba _) (by rw [hs _]; rfl) hline (hs _) (by rfl)
  refine (pss_cons (ps_expr hP (hsw _)) hR).pre fun Dd σ H ⟨F, g, E, q⟩ => ?_
  obtain ⟨l, hl, o, ha⟩ := E.own_at hi
  obtain ⟨ds, rfl, q⟩ := lstD_post (post_bind q)
  obtain ⟨xs, ex, rx⟩ := o
  refine ⟨.ref l, hl, .inl ⟨rfl, xs, SqL.of ex⟩, rdS.expr E q fun y v g' H' s E' r q => ?_⟩
  have ex' := s.keep l _ ex ha
  have rx' := rx.mono s.gle s.aml
  have q := post_bind q
  cases y with
  | lst es =>
    obtain ⟨b, ys, rfl, sb, rb⟩ := TopR.lst E'.wf r
    unfold extL at q
    by_cases z : ds.length + es.length ≤ sizeLine
    · simp only [if_pos z] at q
      have o2 : Own S.pg g' (upd H' l (.lst (xs ++ ys))) l (.lst (ds ++ es)) := ⟨_, upd_same, rx'.append rb⟩
      exact ⟨l, b, xs, ys, rfl, rfl, ex', sb, by rw [rx.length, rb.length]; exact z, .lst (ds ++ es), F, g', E'.updOwn hi hl o2, post_pure q⟩
    · simp only [if_neg z] at q
      exact False.elim q
  | _ => exact False.elim q
theorem setL_post {ds : List D} {i : Int} {d : D} {s : Store} {ok : List D → Store → Prop} {ex : Nat → Store → Prop} (q : (setL ds i d s).Post ok ex) : ∃ j, ixN ds.length i = some j ∧ ok (ds.set j d) s := by
  unfold setL at q
  cases e : ixN ds.length i with
  | none => rw [e] at q; exact False.elim q
  | some j => rw [e] at q; exact ⟨j, rfl, q⟩
/-- x[i] = e -/
def setO (ds : List D) : D → D → M D
  | .int i, d => setL ds i d >>= fun r => pure (.lst r)
  | _, _ => stuck
theorem sb_setitem (i : Nat) {x : Str} {d : D} {k : D → M (Out N B)} {spos : Pos} (hi : ρ[i]? = some (.ow d)) (hN : S.N[i]? = some x) (hv : Vis S.sc x) (he : EE S ρ e m) (hb : EE S ρ b mb) (hr : ∀ d, SB S (ρ.set i (.ow d)) rest (k d) shN shB)
    (hsw : ∀ env : Env, swapsWithSole [.Subscript (.Name x p) b spos] e pos.line env = pure false) (hw : ∀ env : Env, swappedStores [.Subscript (.Name x p) b spos] e env = pure none)
    (h1 : ∀ env : Env, (assignEach [.Subscript (.Name x p) b spos] env).map (·.2) = [assign (.Subscript (.Name x p) b spos) env])
    (ha2 : ∀ (env : Env) v, assign (.Subscript (.Name x p) b spos) env v = (do
      let ov ← holding [v] (eval (.Name x p) env)
      let iv ← holding [v, ov] (eval b env)
      standAt spos
      holding [v, ov, iv] (setItem ov iv v)
      release [v, ov, iv] []))
    (hd : (x == ("__debug__" : Str)) = false := by decide) (hcd : (x == ("__classdict__" : Str)) = false := by decide) :
    SB S ρ (.Assign [.Subscript (.Name x p) b spos] e pos :: rest) (lstD d >>= fun ds => m >>= fun y => mb >>= fun j => setO ds j y >>= k) shN shB := fun Y ok => by
  have hR : PSs (S.cx Y) rest (fun Dd σ H => ∃ d, rdS S Y (ρ.set i (.ow d)) (k d) shN shB Dd σ H) := ⟨fun pins s σ H Dd I ⟨d, q⟩ => (hr d Y ok).run pins s σ H Dd I q⟩
  have hG : PG (S.cx Y) (.Subscript (.Name x p) b spos) _ := pg_sub (X := S.cx Y) (pe_var (X := S.cx Y) (i := i) (pos := p) hN hv hd hcd) (hb Y ok) set_list (ha2 _)
  refine (pss_cons (ps_asg (X := S.cx Y) (he Y ok) hG (hsw _) (hw _) (h1 _)) hR).pre fun Dd σ H ⟨F, g, E, q⟩ => ?_
  obtain ⟨l, hl, o, ha⟩ := E.own_at hi
  obtain ⟨ds, rfl, q⟩ := lstD_post (post_bind q)
  obtain ⟨xs, ex, rx⟩ := o
  refine rdS.expr E q fun y v g' H' s E' r q => ⟨.ref l, hl, rdS.expr E' q fun j w g2 H2 s2 E2 r2 q => ?_⟩
  have s12 := s.trans E.wf s2
  have ex' := s12.keep l _ ex ha
  have rx' := rx.mono s12.gle s12.aml
  cases j with
  | int n =>
    cases r2
    have q : ((setL ds n y >>= fun r => (pure (D.lst r) : M D)) g2.st).Post _ _ := post_bind q
    obtain ⟨j, ej, q⟩ := setL_post (post_bind q)
    have o2 : Own S.pg g2 (upd H2 l (.lst (xs.set j v))) l (.lst (ds.set j y)) := ⟨_, upd_same, rx'.set (r.mono s2.gle s2.aml) j⟩
    exact ⟨l, xs, n, j, rfl, rfl, ex', by rw [rx.length]; exact ej, .lst (ds.set j y), F, g2, E2.updOwn hi hl o2, post_pure q⟩
  | _ => exact False.elim q
/-! ### calls of defs -/
/-- how an argument is handed: a value that is never written; a list or dict that is lent -/
inductive AK where
  | v | b
def ArgR (p : Pg) (g : Gs) (H : Hp) : List AK → List V → List D → Prop
  | [], [], [] => True
  | .v :: ks, v :: vs, d :: ds => p.Rp g v d ∧ ArgR p g H ks vs ds
  | .b :: ks, v :: vs, d :: ds => TopR p g H v d ∧ ArgR p g H ks vs ds
  | _, _, _ => False
theorem ArgR.step {p : Pg} {g g' : Gs} {H H' : Hp} (w : Wf p g H) (s : Stp p g H g' H') : ∀ {ks : List AK} {vs : List V} {ds : List D}, ArgR p g H ks vs ds → ArgR p g' H' ks vs ds
  | [], [], [], _ => True.intro
  | .v :: _, _ :: _, _ :: _, h => ⟨h.1.mono s.gle s.aml, ArgR.step w s h.2⟩
  | .b :: _, _ :: _, _ :: _, h => ⟨h.1.step w s, ArgR.step w s h.2⟩
theorem ArgR.len {p : Pg} {g : Gs} {H : Hp} : ∀ {ks : List AK} {vs : List V} {ds : List D}, ArgR p g H ks vs ds → vs.length = ks.length ∧ ds.length = ks.length
  | [], [], [], _ => ⟨rfl, rfl⟩
  | .v :: _, _ :: _, _ :: _, h => by
    obtain ⟨a, b⟩ := ArgR.len h.2
    exact ⟨by rw [List.length_cons, List.length_cons, a], by rw [List.length_cons, List.length_cons, b]⟩
  | .b :: _, _ :: _, _ :: _, h => by
    obtain ⟨a, b⟩ := ArgR.len h.2
    exact ⟨by rw [List.length_cons, List.length_cons, a], by rw [List.length_cons, List.length_cons, b]⟩
/-- what a def promises: it does what F does -/
def spD (p : Pg) (ks : List AK) (F : List D → M D) : Sp := fun vs H Q E => ∃ g ds, Wf p g H ∧ ArgR p g H ks vs ds ∧ (F ds g.st).Post (Pv p (RE p) g H Q) fun c st' => ∀ g' H', g'.st = st' → Stp p g H g' H' → E (.ref (p.cA c)) none H'
structure Fnc (p : Pg) (k : Nat) (x : Str) (ks : List AK) (F : List D → M D) : Prop where
  ex : ∃ f fd ps, FnOk p.P p.w p.K p.mg p.base (L2.CX p.P p.w) k f fd ps (spD p ks F) ∧ p.mg x = some (.ref f) ∧ PySem.W.keepIn p.K (.ref f) = true ∧ Binds p.K fd ps []
/-- arguments by their kinds -/
def EAk (S : Sta) (ρ : Ev) (ks : List AK) (es : List Expr) (m : M (List D)) : Prop := ∀ Y, OkY S Y → PA (S.cx Y) es (rdA S Y ρ (fun g H => ArgR S.pg g H ks) m)
variable {es : List Expr} {ms : M (List D)} {ks : List AK}
theorem eak_nil : EAk S ρ [] [] (pure []) := fun Y ok => pa_nil.pre fun σ H Q ⟨F, g, E, q⟩ => (post_pure q) [] g H rfl (.refl E.wf) True.intro
theorem eak_v (he : EE S ρ e m) (hr : EAk S ρ ks es ms) (hs : ∀ env : Env, starEach (e :: es) env = (false, eval e env) :: starEach es env) : EAk S ρ (.v :: ks) (e :: es) (m >>= fun d => ms >>= fun ds => pure (d :: ds)) := fun Y ok =>
  (pa_cons (he Y ok) (hr Y ok) (hs _)).pre fun σ H Q ⟨F, g, E, q⟩ => rdX.bind E q fun x v g' H' s E' r q => rdA.bind E' (q.imp (fun _ _ q => q) fun _ _ q => q.back E.wf s) fun xs vs g2 H2 s2 E2 r2 q =>
    (post_pure q) (v :: vs) g2 H2 rfl (s.trans E.wf s2) ⟨r.mono s2.gle s2.aml, r2⟩
theorem eak_b (he : EL S ρ e m) (hr : EAk S ρ ks es ms) (hs : ∀ env : Env, starEach (e :: es) env = (false, eval e env) :: starEach es env) : EAk S ρ (.b :: ks) (e :: es) (m >>= fun d => ms >>= fun ds => pure (d :: ds)) := fun Y ok =>
  (pa_cons (he Y ok) (hr Y ok) (hs _)).pre fun σ H Q ⟨F, g, E, q⟩ => rdX.bind E q fun x v g' H' s E' r q => rdA.bind E' (q.imp (fun _ _ q => q) fun _ _ q => q.back E.wf s) fun xs vs g2 H2 s2 E2 r2 q =>
    (post_pure q) (v :: vs) g2 H2 rfl (s.trans E.wf s2) ⟨r.step E'.wf s2, r2⟩
theorem ee_call {x : Str} {k : Nat} {F : List D → M D} (fn : Fnc S.pg k x ks F) (hk : k ≤ S.lv) (hg : Glb S x) (ha : EAk S ρ ks (e :: es) ms) (hs : ∀ env : Env, starEach (e :: es) env = (false, eval e env) :: starEach es env) (hpl : ∀ env : Env, (backTo pos (starEach es env)).any (·.1) = false)
    (hdb : (x == ("__debug__" : Str)) = false := by decide) : EE S ρ (.Call (.Name x p) (e :: es) [] pos) (ms >>= F) := fun Y ok => by
  obtain ⟨f, fd, ps, FO, hm, hkp, hb⟩ := fn.ex
  refine (pe_call (X := S.cx Y) (E := fun cls d H' => Y.W cls d H') FO (ok.room.mono hk) hg hm hkp hb .nil (passes_call ok.takes fun _ _ _ _ h => h) (ha Y ok) hdb (hs _) (hpl _)).pre fun σ H Q ⟨Fm, g, E, q⟩ => ?_
  refine rdA.bind E q fun ds vs g' H' s E' r q => ?_
  rw [List.append_nil]
  exact ⟨g', ds, E'.wf, r, q.imp (fun _ _ q => q.back back_RE E.wf s) fun _ _ q => Px.back E.wf s q⟩
theorem ee_call0 {x : Str} {k : Nat} {F : List D → M D} (fn : Fnc S.pg k x [] F) (hk : k ≤ S.lv) (hg : Glb S x) (hdb : (x == ("__debug__" : Str)) = false := by decide) : EE S ρ (.Call (.Name x p) [] [] pos) (F []) := fun Y ok => by
  obtain ⟨f, fd, ps, FO, hm, hkp, hb⟩ := fn.ex
  refine (pe_call0 (X := S.cx Y) (E := fun cls d H' => Y.W cls d H') FO (ok.room.mono hk) hg hm hkp hb .nil (passes_call ok.takes fun _ _ _ _ h => h) hdb).pre fun σ H Q ⟨Fm, g, E, q⟩ => ?_
  exact ⟨g, [], E.wf, True.intro, q.imp (fun _ _ q => q) fun _ _ q => q⟩
/-! by the number of arguments -/
theorem ee_call1 {x : Str} {k : Nat} {F : List D → M D} (fn : Fnc S.pg k x [.v] F) (hk : k ≤ S.lv) (hg : Glb S x) (ha : EE S ρ a ma) (hs : NoStar [a] := by intro _; rfl) (hdb : (x == ("__debug__" : Str)) = false := by decide) :
    EE S ρ (.Call (.Name x p) [a] [] pos) (ma >>= fun a => F [a]) := by
  have h := ee_call (pos := pos) (p := p) fn hk hg (eak_v ha eak_nil (hs)) (hs) (fun _ => rfl) hdb
  simpa using h
end
/-! ### a def from its body -/
def runF {N B : Type} (m : M (Out N B)) : M D := m >>= fun o => match o with
  | .rt d => pure d
  | .nx _ => pure .non
  | _ => stuck
def argE : List AK → List D → Ev
  | .v :: ks, d :: ds => .sh d :: argE ks ds
  | .b :: ks, d :: ds => .bo d :: argE ks ds
  | _, _ => []
theorem argE_len : ∀ (ks : List AK) (ds : List D), ds.length = ks.length → (argE ks ds).length = ks.length
  | [], ds, _ => by unfold argE; rfl
  | .v :: ks, d :: ds, h => by
    unfold argE
    rw [List.length_cons, List.length_cons, argE_len ks ds (by simpa using h)]
  | .b :: ks, d :: ds, h => by
    unfold argE
    rw [List.length_cons, List.length_cons, argE_len ks ds (by simpa using h)]
  | .v :: _, [], h => by simp at h
  | .b :: _, [], h => by simp at h
theorem argE_at {p : Pg} {g : Gs} {H : Hp} (w : Wf p g H) : ∀ {ks : List AK} {vs : List V} {ds : List D}, ArgR p g H ks vs ds → ∀ (i : Nat) (s : Sl), (argE ks ds)[i]? = some s → ∃ v, vs[i]? = some v ∧ SlV p ⟨g, H⟩ g H (some v) s ∧ ∀ d, s ≠ .ow d
  | [], [], [], _, i, s, e => by simp [argE] at e
  | .v :: ks, v :: vs, d :: ds, h, 0, s, e => by
    simp [argE] at e
    subst e
    exact ⟨v, rfl, h.1, fun _ z => by cases z⟩
  | .b :: ks, v :: vs, d :: ds, h, 0, s, e => by
    simp [argE] at e
    subst e
    refine ⟨v, rfl, ?_, fun _ z => by cases z⟩
    rcases h.1 with r | ⟨a, e, n, o⟩
    · exact .inl r
    · obtain ⟨u, hu, _⟩ := o.at
      exact .inr ⟨a, e, n, o, u, hu⟩
  | .v :: ks, v :: vs, d :: ds, h, i + 1, s, e => by
    simp only [argE, List.getElem?_cons_succ] at e
    exact argE_at w h.2 i s e
  | .b :: ks, v :: vs, d :: ds, h, i + 1, s, e => by
    simp only [argE, List.getElem?_cons_succ] at e
    exact argE_at w h.2 i s e
/-- a def -/
theorem fnok_of {p : Pg} {k : Nat} {x qual : Str} {st : Stmt} {f : Addr} {fd : FuncData} {N ps : List Str} {ks : List AK} {Nn B : Type} {shN : Nn → Ev} {shB : B → Ev} {body : List D → M (Out Nn B)}
    (Fn : Fun p.K x qual st f fd) (Sc : FnScope N ps (defScope st)) (hks : ks.length = ps.length)
    (h : ∀ ds, ds.length = ks.length → SB ⟨p, N, defScope st, fun _ => true, k⟩ (argE ks ds ++ List.replicate (N.length - ks.length) .un) (defBody st) (body ds) shN shB) : FnOk p.P p.w p.K p.mg p.base (L2.CX p.P p.w) (k + 1) f fd ps (spD p ks fun ds => runF (body ds)) := by
  refine Fn.okX Sc (fun vs H Q E ⟨g, ds, w, r, q⟩ => ?_) (fun cdv A outer s H vs Q E hr ⟨g, ds, w, r, q⟩ => ?_)
  · rw [r.len.1, hks]
  · have hl := r.len
    have hok : OkY ⟨p, N, defScope st, fun _ => true, k⟩ ⟨A.deeper (envOfC qual (defScope st) s.heap.objs.size f cdv), s, H, envOfC qual (defScope st) s.heap.objs.size f cdv, outer, envOfC qual (defScope st) s.heap.objs.size f cdv :: outer, [], [],
        (cxOf (L2.CX p.P p.w) p.P p.w p.K p.mg p.base N qual (defScope st) f cdv A outer s H E).xe, fun cls d H' => E cls d H'⟩ :=
      ⟨hr, passes_of (X := cxOf (L2.CX p.P p.w) p.P p.w p.K p.mg p.base N qual (defScope st) f cdv A outer s H E) rfl, takes_of (X := cxOf (L2.CX p.P p.w) p.P p.w p.K p.mg p.base N qual (defScope st) f cdv A outer s H E) rfl rfl rfl rfl⟩
    refine ⟨_, h ds hl.2 _ hok, ⟨⟨g, H⟩, g, ?_, ?_⟩⟩
    · -- the slots at the entry
      have hpl : ps.length ≤ N.length := by have := congrArg List.length Sc.pre; rw [List.length_take] at this; omega
      have hstart : ∀ i v, vs[i]? = some v → (L2.start N vs)[i]? = some (some v) := fun i v e => by
        unfold L2.start
        have hi : i < vs.length := (List.getElem?_eq_some_iff.mp e).1
        rw [List.getElem?_append_left (by rw [List.length_map]; exact hi), List.getElem?_map, e]
        rfl
      have hE := argE_len ks ds hl.2
      have cases_at : ∀ (i : Nat) (s : Sl), (argE ks ds ++ List.replicate (N.length - ks.length) .un)[i]? = some s → s = .un ∨ (argE ks ds)[i]? = some s := fun i s e => by
        by_cases hi : i < (argE ks ds).length
        · rw [List.getElem?_append_left hi] at e
          exact .inr e
        · rw [List.getElem?_append_right (by omega), List.getElem?_replicate] at e
          split at e
          · cases e; exact .inl rfl
          · cases e
      refine ⟨?_, fun i s e => ?_, fun i j d1 d2 h1 h2 _ => ?_, .refl w, w⟩
      · unfold L2.start
        rw [List.length_append, List.length_append, List.length_replicate, List.length_replicate, List.length_map, hE, hl.1]
      · rcases cases_at i s e with rfl | e
        · cases (L2.start N vs)[i]?.join <;> exact True.intro
        · obtain ⟨v, hv, r2, _⟩ := argE_at w r i s e
          rw [hstart i v hv]
          exact r2
      · rcases cases_at i _ h1 with z | z
        · cases z
        · obtain ⟨_, _, _, n⟩ := argE_at w r i _ z
          exact absurd rfl (n d1)
    · refine (post_bind q).imp (fun o st' q => ?_) fun _ _ q => q
      cases o with
      | nx n => exact fun σ' g' H' e l E' => (post_pure q) .non g' H' e E'.fr .non
      | rt d => exact fun v g' H' e s r => (post_pure q) v g' H' e s r
      | bk b => exact False.elim q
      | ct b => exact False.elim q
theorem fnc_of {p : Pg} {k : Nat} {x : Str} {f : Addr} {fd : FuncData} {ps : List Str} {ks : List AK} {F : List D → M D} (h : FnOk p.P p.w p.K p.mg p.base (L2.CX p.P p.w) k f fd ps (spD p ks F)) (hm : p.mg x = some (.ref f)) (kp : PySem.W.keepIn p.K (.ref f) = true) (hb : Binds p.K fd ps []) : Fnc p k x ks F :=
  ⟨f, fd, ps, h, hm, kp, hb⟩
end DL
namespace DL
open PySem PySem.Spec PyProof.Rows L2
/-! ### zip of two sequences of any kinds: k says list (true) or tuple -/
def SqG (k : Bool) (K : PySem.W.Frag) (H : Hp) (a : Addr) (xs : List V) : Prop := if k = true then SqL K H a xs else SqT K H a xs
def ItG (k : Bool) (h : Heap) (it a : Addr) (i : Nat) : Prop := if k = true then h.IsListIter it a i else h.IsTupleIter it a i
def AsG (k : Bool) (h : Heap) (a : Addr) (xs : Array Value) : Prop := if k = true then h.IsList a xs else h.IsTuple a xs
def obG (k : Bool) (a : Addr) : Obj := if k = true then { cls := .type "list_iterator", data := .fields #[.ref a, .int 0 0] } else { cls := .type "tuple_iterator", data := .fields #[.ref a, .int 0 0] }
theorem draws_G {P : Program} {w : World} {A : Around} (k : Bool) (hh : A.handled = none) (it a : Addr) (hne : a ≠ it) (xs : Array Value) : Draws P w A it [it, a] xs.size (fun i v => xs[i]? = some v) (fun i h => ItG k h it a i ∧ AsG k h a xs) := by
  cases k
  · exact Draws.tuple hh it a hne xs
  · exact Draws.list hh it a hne xs
theorem begins_G (k : Bool) (a : Addr) (xs : Array Value) : Begins (.ref a) (obG k a) fun h => AsG k h a xs := by
  cases k
  · exact begins_tuple a xs
  · exact begins_list a xs
section
variable {X : Cx} {pins : List (Addr × Obj)} {σ : L2.St} {H : Hp} {s : Shared}
theorem SqG.heap {k : Bool} {a : Addr} {xs : List V} (I : Inv X pins σ H s) (h : SqG k X.K H a xs) : ∃ its : List Value, Vals xs its ∧ AsG k s.heap a its.toArray ∧ a < s.heap.objs.size := by
  cases k
  · obtain ⟨its, rv, p, _⟩ := I.tuple h
    obtain ⟨o, ho, _⟩ := id p
    exact ⟨its, rv, p, Heap.lt_size ho⟩
  · obtain ⟨its, rv, p, _⟩ := I.list h
    exact ⟨its, rv, p.isList, p.lt⟩
theorem SqG.inj {k : Bool} {a : Addr} {xs ys : List V} (I : Inv X pins σ H s) (h : SqG k X.K H a xs) (g : SqG k X.K H a ys) : xs = ys := by
  cases k
  · exact I.tuple_inj h g
  · exact I.list_inj h g
end
theorem ItG.live {k : Bool} {h : Heap} {it a : Addr} {i : Nat} (x : ItG k h it a i) : ∃ o, h.get? it = some o ∧ ∀ v, o.data ≠ .cell v := by
  cases k
  · obtain ⟨o, e, _, d⟩ := x
    exact ⟨o, e, fun v q => by rw [d] at q; cases q⟩
  · obtain ⟨o, e, _, d⟩ := x
    exact ⟨o, e, fun v q => by rw [d] at q; cases q⟩
theorem ItG.moved {k : Bool} {h h' : Heap} {it a : Addr} {i : Nat} (x : ItG k h it a i) (e : ∀ o, h.get? it = some o → h'.get? it = some o) : ItG k h' it a i := by
  cases k
  · exact Heap.IsTupleIter.at x e
  · exact Heap.IsListIter.at x e
theorem obG_it {k : Bool} {h : Heap} {it a : Addr} (e : h.get? it = some (obG k a)) : ItG k h it a 0 := by
  cases k
  · exact ⟨_, e, rfl, rfl⟩
  · exact ⟨_, e, rfl, rfl⟩
/-- the walk of zip -/
def ItzG (k1 k2 : Bool) (K : PySem.W.Frag) (a b : Addr) : It :=
  ⟨fun i H => ∃ (xs ys : List V), SqG k1 K H a xs ∧ SqG k2 K H b ys ∧ i < xs.length ∧ i < ys.length,
    fun i H v H' => ∃ T x y, v = .ref T ∧ H T = none ∧ H' = upd H T (.tup [x, y]) ∧ (∀ xs, SqG k1 K H a xs → xs[i]? = some x) ∧ ∀ ys, SqG k2 K H b ys → ys[i]? = some y,
    fun i H => ∃ xs ys : List V, SqG k1 K H a xs ∧ SqG k2 K H b ys ∧ i ≤ xs.length ∧ i ≤ ys.length ∧ (i = xs.length ∨ i = ys.length)⟩
theorem sep_G {z TI TO i1 i2 a b : Addr} (D : ZipApart z TI TO i1 i2 a b) : ZipSep2 z TI TO i1 i2 [i1, a] [i2, b] where
  TIz := D.TIz
  TOz := D.TOz
  TITO := D.TITO
  TIi1 := D.TIi1
  mem1 := by simp
  zf1 := by simpa using ⟨D.i1z.symm, D.l1z.symm⟩
  Tf1 := by simpa using ⟨D.TOi1, D.l1TO.symm⟩
  TIi2 := D.TIi2
  mem2 := by simp
  zf2 := by simpa using ⟨D.i2z.symm, D.l2z.symm⟩
  Tf2 := by simpa using ⟨D.TOi2, D.l2TO.symm⟩
  sep1_2 := by simpa using ⟨D.i12, D.l2i1.symm⟩
  sep2_1 := by simpa using ⟨D.i12.symm, D.l1i2.symm⟩
theorem five {c z TI TO i1 i2 : Addr} {α : Prop} (h : c ∈ [z, TI, TO, i1, i2]) (f1 : c = z → α) (f2 : c = TI → α) (f3 : c = TO → α) (f4 : c = i1 → α) (f5 : c = i2 → α) : α := by
  simp only [List.mem_cons, List.not_mem_nil, or_false] at h
  rcases h with q | q | q | q | q
  · exact f1 q
  · exact f2 q
  · exact f3 q
  · exact f4 q
  · exact f5 q
theorem turn_zipG {P : Program} {w : World} {K : PySem.W.Frag} {elts : List Expr} {kk : Nat} {tpos : Pos} {k1 k2 : Bool} {a b z TI TO i1 i2 : Addr} (D : ZipApart z TI TO i1 i2 a b) :
    Turn P w K (.Tuple elts kk tpos) (ItzG k1 k2 K a b) [z, TI, TO, i1, i2] z (fun i h => IsZip h z TI TO .none ∧ IsTupOf2 h TI (.ref i1) (.ref i2) ∧ (∃ x y, IsTupOf2 h TO x y) ∧ ItG k1 h i1 a i ∧ ItG k2 h i2 b i) where
  mem := by simp
  obj := by
    rintro i h ⟨hz, hTI, ⟨x, y, hTO⟩, h1, h2⟩ c hc
    refine five hc (fun q => ?_) (fun q => ?_) (fun q => ?_) (fun q => ?_) fun q => ?_
    · subst q; exact ⟨_, hz, fun v q => by cases q⟩
    · subst q; exact ⟨_, hTI, fun v q => by cases q⟩
    · subst q; exact ⟨_, hTO, fun v q => by cases q⟩
    · subst q; exact h1.live
    · subst q; exact h2.live
  keep := by
    rintro i h h' ⟨hz, hTI, ⟨x, y, hTO⟩, h1, h2⟩ k
    exact ⟨k z (by simp) _ hz, k TI (by simp) _ hTI, ⟨x, y, k TO (by simp) _ hTO⟩, h1.moved (k i1 (by simp)), h2.moved (k i2 (by simp))⟩
  item := by
    intro X hP hw hK hc i pins s σ H E I hf st hg
    subst hP hw hK
    obtain ⟨hz, hTI, ⟨x0, y0, hTO⟩, h1, h2⟩ := st
    obtain ⟨xs, ys, sx, sy, hx, hy⟩ := hg
    obtain ⟨us, ru, p1, _⟩ := sx.heap I
    obtain ⟨vs, rv, p2, _⟩ := sy.heap I
    have lu : us.toArray.size = xs.length := by rw [List.size_toArray, ru.length]
    have lv : vs.toArray.size = ys.length := by rw [List.size_toArray, rv.length]
    obtain ⟨x, ex⟩ : ∃ x, xs[i]? = some x := ⟨_, List.getElem?_eq_getElem hx⟩
    obtain ⟨y, ey⟩ : ∃ y, ys[i]? = some y := ⟨_, List.getElem?_eq_getElem hy⟩
    obtain ⟨u, eu, rxu⟩ := ru.get ex
    obtain ⟨v, ev, ryv⟩ := rv.get ey
    have hzl : z < s.heap.objs.size := Heap.lt_size hz
    refine wpAny_pyNext_zipD2_item (sep_G D) (draws_G (A := X.A.in1) k1 (I.ok.hd hc) i1 a D.l1i1 us.toArray) (draws_G (A := X.A.in1) k2 (I.ok.hd hc) i2 b D.l2i2 vs.toArray) hz hTI hTO ⟨h1, p1⟩ ⟨h2, p2⟩ (by rw [lu]; exact hx) (by rw [lv]; exact hy)
      fun x1 x2 h' tk g1 g2 z' TO' t1 t2 hT hsz hk => ?_
    have e1 : x1 = u := by
      have : us[i]? = some x1 := by simpa using g1
      rw [eu] at this; cases this; rfl
    have e2 : x2 = v := by
      have : vs[i]? = some x2 := by simpa using g2
      rw [ev] at this; cases this; rfl
    subst e1 e2
    refine ⟨_, rfl, wpAny_letOwnedTupleGo_zip (s := { s with heap := h', toks := tk }) z' fun h'' z'' sb => ?_⟩
    have keep : ∀ c o, c ≠ z → h'.get? c = some o → h''.get? c = some o := fun c o n e => (sb.2 c n).trans e
    have hT2 : IsTupOf2 h'' s.heap.objs.size x1 x2 := keep _ _ (Nat.ne_of_gt hzl) hT
    have new : ObjOk X.prog X.w (upd H s.heap.objs.size (.tup [x, y])) h'' s.heap.objs.size (.tup [x, y]) :=
      ⟨by show 2 ≤ sizeLine; decide, [x1, x2], .cons rxu (.cons ryv .nil), ⟨_, hT2, rfl, _, rfl⟩⟩
    have I1 : Inv X pins σ (upd H s.heap.objs.size (.tup [x, y])) { s with heap := h'', toks := tk } :=
      I.turnedNew (ch := [z, TI, TO, i1, i2]) (fun c o hb q => by
        simp only [List.mem_cons, List.not_mem_nil, or_false, not_or] at hb
        exact keep c o hb.1 (hk c o hb.1 hb.2.2.1 hb.2.2.2.1 hb.2.2.2.2 q)) hf (Nat.le_refl _) new
    refine ⟨.ref s.heap.objs.size, _, I1, rfl, ⟨_, x, y, rfl, I.hok.fresh (Nat.le_refl _), rfl, fun l hl => by rw [hl.inj I sx]; exact ex, fun l hl => by rw [hl.inj I sy]; exact ey⟩, ⟨z'', ?_, ⟨x1, x2, keep _ _ D.TOz TO'⟩, ?_, ?_⟩, fun c hcm => ?_⟩
    · exact keep _ _ D.TIz (hk _ _ D.TIz D.TITO D.TIi1 D.TIi2 hTI)
    · exact t1.1.moved fun o q => keep _ o D.i1z q
    · exact t2.1.moved fun o q => keep _ o D.i2z q
    · have hlt : c < s.heap.objs.size := five hcm (fun q => by rw [q]; exact hzl) (fun q => by rw [q]; exact Heap.lt_size hTI) (fun q => by rw [q]; exact Heap.lt_size hTO)
        (fun q => by rw [q]; obtain ⟨_, e, _⟩ := h1.live; exact Heap.lt_size e) fun q => by rw [q]; obtain ⟨_, e, _⟩ := h2.live; exact Heap.lt_size e
      rw [upd_ne (Nat.ne_of_lt hlt)]
      exact (hf c hcm).1
  done := by
    intro X hP hw hK hc i pins s σ H E I hf st hg
    subst hP hw hK
    obtain ⟨hz, hTI, ⟨x0, y0, hTO⟩, h1, h2⟩ := st
    obtain ⟨xs, ys, sx, sy, hx, hy, hend⟩ := hg
    obtain ⟨us, ru, p1, _⟩ := sx.heap I
    obtain ⟨vs, rv, p2, _⟩ := sy.heap I
    have lu : us.toArray.size = xs.length := by rw [List.size_toArray, ru.length]
    have lv : vs.toArray.size = ys.length := by rw [List.size_toArray, rv.length]
    refine wpAny_pyNext_zipD2_end (sep_G D) (draws_G (A := X.A.in1) k1 (I.ok.hd hc) i1 a D.l1i1 us.toArray) (draws_G (A := X.A.in1) k2 (I.ok.hd hc) i2 b D.l2i2 vs.toArray) hz hTI hTO ⟨h1, p1⟩ ⟨h2, p2⟩ (by rw [lu]; exact hx) (by rw [lv]; exact hy) (by rw [lu, lv]; exact hend)
      fun h' tk hk => ⟨rfl, I.turnedL (ch := [z, TI, TO, i1, i2]) (fun c o hb q => ?_) hf⟩
    simp only [List.mem_cons, List.not_mem_nil, or_false, not_or] at hb
    exact hk c o hb.1 hb.2.2.1 hb.2.2.2.1 hb.2.2.2.2 q
  self := fun A i s Q E st h => wpAny_pyIter_zip st.1 h
def iZipG (K : PySem.W.Frag) (ta : TA) : TI := fun σ H R => ta σ H fun vs H1 => ∃ a b xs ys k1 k2, vs = [.ref a, .ref b] ∧ SqG k1 K H1 a xs ∧ SqG k2 K H1 b ys ∧ R (ItzG k1 k2 K a b) H1
theorem pi_zipG {X : Cx} {e e2 : Expr} {ta : TA} {p pos tpos : Pos} {elts : List Expr} {kk : Nat} (hg : Gl X "zip") (hm : X.mg "zip" = none) (ha : PA X [e, e2] ta)
    (hs : starEach [e, e2] X.env = (false, eval e X.env) :: starEach [e2] X.env) (hpl : (backTo pos (starEach [e2] X.env)).any (·.1) = false) :
    PI X (.Tuple elts kk tpos) (.Call (.Name "zip" p) [e, e2] [] pos) (iZipG X.K ta) := by
  refine ⟨fun pins s σ H R I h => Call_ (ld_blt I hg hm PyProof.Rows.boot_zip (PyProof.Rows.callWith_type1 (thn (ha.run pos pins s σ H _ I h) fun us s1 q0 => ?_) hs hpl))⟩
  obtain ⟨vs, H1, I1, r1, a, b, xs, ys, k1, k2, ex, sx, sy, q⟩ := q0
  subst ex
  cases r1 with
  | cons r rr =>
    cases rr with
    | cons r' rr =>
      cases rr
      cases r
      cases r'
      obtain ⟨its, rv, p1, la⟩ := sx.heap I1
      obtain ⟨its2, rv2, p2, lb⟩ := sy.heap I1
      refine zip_begins2 (begins_G k1 a its.toArray) (begins_G k2 b its2.toArray) p1 p2 fun h' hz hTI hTO h1 h2 hsz hk => wpAny_pyIter_zip hz ?_
      have I2 : Inv X pins σ H1 { s1 with heap := h' } := I1.kept (t' := s1.toks) hk
      refine ⟨s1.heap.objs.size + 4, [s1.heap.objs.size + 4, s1.heap.objs.size + 2, s1.heap.objs.size + 3, s1.heap.objs.size, s1.heap.objs.size + 1], _, _, H1, rfl, I2, turn_zipG (PySem.W.ktu_apart s1.heap.objs.size a b la lb), ⟨hz, hTI, ⟨_, _, hTO⟩, obG_it h1, obG_it h2⟩, fun c hcm => ?_, q⟩
      have hle : s1.heap.objs.size ≤ c := five hcm (fun q => by rw [q]; exact Nat.le_add_right _ _) (fun q => by rw [q]; exact Nat.le_add_right _ _) (fun q => by rw [q]; exact Nat.le_add_right _ _) (fun q => by rw [q]; exact Nat.le_refl _) fun q => by rw [q]; exact Nat.le_add_right _ _
      exact I1.fpOk hle (I1.hok.fresh hle)
end DL
namespace DL
open PySem PySem.Spec PyProof.Rows L2
/-! ### sequences of any kind -/
/-- k: list or tuple; stands as long as T -/
def SqW (p : Pg) (T : Tm) (k : Bool) (a : Addr) (us : List V) (es : List D) : Prop := ∀ g H, Wf p g H → T g H → SqG k p.K H a us ∧ p.Rps g us es
theorem items_K {p : Pg} {T : Tm} {v : V} {d : D} (h : SqK p T v d) {s : Store} {ok : List D → Store → Prop} {ex : Nat → Store → Prop} (q : (items d s).Post ok ex) : ∃ k a us es, v = .ref a ∧ SqW p T k a us es ∧ ok es s := by
  cases d with
  | tup es => obtain ⟨a, us, e, h⟩ := h; exact ⟨false, a, us, es, e, h, post_pure q⟩
  | lst es => obtain ⟨a, us, e, h⟩ := h; exact ⟨true, a, us, es, e, h, post_pure q⟩
  | rls es => obtain ⟨a, us, e, h⟩ := h; exact ⟨true, a, us, es, e, h, post_pure q⟩
  | _ => exact False.elim q
/-- a new pair is frozen at once -/
theorem pair_new {p : Pg} {g : Gs} {H : Hp} {T : Addr} {x y : V} {d e : D} (w : Wf p g H) (hT : H T = none) (r1 : p.Rp g x d) (r2 : p.Rp g y e) :
    ∃ g', g'.st = g.st ∧ Stp p g H g' (upd H T (.tup [x, y])) ∧ p.Rp g' (.ref T) (.tup [d, e]) := by
  have s := Stp.new (o := .tup [x, y]) w hT
  exact ⟨{ g with G := upd g.G T (.tup [x, y]) }, rfl, s, .tup (.inl (.inl upd_same)) (.cons (r1.mono s.gle s.aml) (.cons (r2.mono s.gle s.aml) .nil))⟩
theorem wk_zip {p : Pg} {T : Tm} {k1 k2 : Bool} {a b : Addr} {us vs : List V} {ds es : List D} (h1 : SqW p T k1 a us ds) (h2 : SqW p T k2 b vs es) : Wk p T (ItzG k1 k2 p.K a b) (zipL ds es) := by
  refine ⟨fun i g H hi w t => ?_, fun g H w t => ?_, fun i g H x H' hi w t y => ?_⟩
  · obtain ⟨s1, r1⟩ := h1 g H w t
    obtain ⟨s2, r2⟩ := h2 g H w t
    rw [zipL_len] at hi
    exact ⟨us, vs, s1, s2, by rw [r1.length]; omega, by rw [r2.length]; omega⟩
  · obtain ⟨s1, r1⟩ := h1 g H w t
    obtain ⟨s2, r2⟩ := h2 g H w t
    rw [zipL_len]
    exact ⟨us, vs, s1, s2, by rw [r1.length]; omega, by rw [r2.length]; omega, by rw [r1.length, r2.length]; omega⟩
  · obtain ⟨s1, r1⟩ := h1 g H w t
    obtain ⟨s2, r2⟩ := h2 g H w t
    obtain ⟨T, x', y', rfl, hT, rfl, f1, f2⟩ := y
    obtain ⟨d, hd, rd⟩ := r1.getV (f1 us s1)
    obtain ⟨e, he, re⟩ := r2.getV (f2 vs s2)
    obtain ⟨g', e1, st, r⟩ := pair_new w hT rd re
    exact ⟨g', _, e1, st, zipL_get hd he, r⟩
theorem wk_enum {p : Pg} {T : Tm} {a : Addr} {us : List V} {ds : List D} (h1 : SqW p T true a us ds) : Wk p T (Ite p.K a) (enumL 0 ds) := by
  refine ⟨fun i g H hi w t => ?_, fun g H w t => ?_, fun i g H x H' hi w t y => ?_⟩
  · obtain ⟨s1, r1⟩ := h1 g H w t
    rw [enumL_len] at hi
    exact ⟨us, _, s1, List.getElem?_eq_getElem (by rw [r1.length]; exact hi)⟩
  · obtain ⟨s1, r1⟩ := h1 g H w t
    rw [enumL_len]
    exact ⟨us, s1, by rw [r1.length]; exact Nat.le_refl _⟩
  · obtain ⟨s1, r1⟩ := h1 g H w t
    obtain ⟨T, x', rfl, hT, rfl, f1⟩ := y
    obtain ⟨d, hd, rd⟩ := r1.getV (f1 us s1)
    obtain ⟨g', e1, st, r⟩ := pair_new w hT (.int (i : Nat)) rd
    exact ⟨g', _, e1, st, by rw [enumL_get hd, Nat.zero_add], r⟩
section
variable {S : Sta} {ρ : Ev} {a b c tg it e : Expr} {ma mb mc m : M D} {mi : M (List D)} {pos p tpos : Pos} {elts : List Expr} {kk : Nat}
def zip2M (ma mb : M D) : M (List D) := ma >>= fun x => mb >>= fun y => items x >>= fun xs => items y >>= fun ys => pure (zipL xs ys)
theorem ei_zip_core {T : Gs → Hp → Tm} {R : Rel} (hT : ∀ (g : Gs) (H : Hp) (g' : Gs) (H' : Hp) (v : V) (d : D), Stp S.pg g H g' H' → R H g' H' v d → SqK S.pg (T g' H') v d) (hT0 : ∀ (g : Gs) (H : Hp), Wf S.pg g H → T g H g H)
    (hTl : ∀ (g : Gs) (H : Hp) (g' : Gs) (H' : Hp), Stp S.pg g H g' H' → ∀ g2 H2, T g' H' g2 H2 → T g H g2 H2) (wR : ∀ (g : Gs) (H : Hp), Wf S.pg g H → True)
    (hg : Glb S "zip") (hm : S.pg.mg "zip" = none) (ha : EX S ρ R a ma) (hb : EX S ρ R b mb) (hs : NoStar [a, b]) (hs2 : NoStar [b]) : EI S ρ T (.Tuple elts kk tpos) (.Call (.Name "zip" p) [a, b] [] pos) (zip2M ma mb) := fun Y ok =>
  (pi_zipG (X := S.cx Y) hg hm (pa_cons (ha Y ok) (pa_cons (hb Y ok) pa_nil (hs2 _)) (by rw [hs2 _]; exact hs _)) (by rw [hs2 _]; exact hs _) (by rw [hs2 _]; rfl)).pre fun σ H Q ⟨F, g, E, q⟩ =>
    rdX.bind E q fun x v g' H' s E' r q => rdX.bind E' (q.imp (fun _ _ q => q) fun _ _ q => q.back E.wf s) fun y u g2 H2 s2 E2 r2 q => by
      obtain ⟨k1, a1, us, ds, e1, w1, q⟩ := items_K (hT g H g' H' v x s r) (post_bind q)
      obtain ⟨k2, b1, vs, es, e2, w2, q⟩ := items_K (hT g' H' g2 H2 u y s2 r2) (post_bind q)
      subst e1 e2
      have w1' : SqW S.pg (T g2 H2) k1 a1 us ds := fun g H w t => w1 g H w (hTl _ _ _ _ s2 _ _ t)
      exact ⟨a1, b1, us, vs, k1, k2, rfl, (w1' g2 H2 E2.wf (hT0 g2 H2 E2.wf)).1, (w2 g2 H2 E2.wf (hT0 g2 H2 E2.wf)).1, (post_pure q) _ g2 H2 rfl (s.trans E.wf s2) (wk_zip w1' w2)⟩
theorem ei_zip (hg : Glb S "zip") (hm : S.pg.mg "zip" = none) (ha : EE S ρ a ma) (hb : EE S ρ b mb) (hs : NoStar [a, b] := by intro _; rfl) (hs2 : NoStar [b] := by intro _; rfl) : EI S ρ (TL S.pg) (.Tuple elts kk tpos) (.Call (.Name "zip" p) [a, b] [] pos) (zip2M ma mb) :=
  ei_zip_core (fun _ _ _ _ _ _ _ r => sq_strong r) (fun g _ _ => .refl g) (fun _ _ _ _ s _ _ t => s.ltr.trans t) (fun _ _ _ => True.intro) hg hm ha hb hs hs2
/-- enumerate of a list -/
def lstO : D → M (List D)
  | .lst ds => pure ds
  | _ => stuck
def enumM (ma : M D) : M (List D) := ma >>= fun x => lstO x >>= fun xs => pure (enumL 0 xs)
theorem ei_enum_core {T : Gs → Hp → Tm} {R : Rel} (hT : ∀ (g : Gs) (H : Hp) (g' : Gs) (H' : Hp) (v : V) (d : D), Stp S.pg g H g' H' → R H g' H' v d → SqK S.pg (T g' H') v d) (hT0 : ∀ (g : Gs) (H : Hp), Wf S.pg g H → T g H g H)
    (hg : Glb S "enumerate") (hm : S.pg.mg "enumerate" = none) (ha : EX S ρ R a ma) (hs : NoStar [a]) : EI S ρ T (.Tuple elts kk tpos) (.Call (.Name "enumerate" p) [a] [] pos) (enumM ma) := fun Y ok =>
  (pi_enum (X := S.cx Y) hg hm (pa_cons (ha Y ok) pa_nil (hs _)) (hs _)).pre fun σ H Q ⟨F, g, E, q⟩ =>
    rdX.bind E q fun x v g' H' s E' r q => by
      cases x with
      | lst ds =>
        obtain ⟨a1, us, e1, w1⟩ := hT g H g' H' v _ s r
        subst e1
        have q := post_bind q
        exact ⟨a1, us, rfl, (w1 g' H' E'.wf (hT0 g' H' E'.wf)).1, (post_pure q) _ g' H' rfl s (wk_enum w1)⟩
      | _ => exact False.elim q
theorem ei_enum (hg : Glb S "enumerate") (hm : S.pg.mg "enumerate" = none) (ha : EE S ρ a ma) (hs : NoStar [a] := by intro _; rfl) : EI S ρ (TL S.pg) (.Tuple elts kk tpos) (.Call (.Name "enumerate" p) [a] [] pos) (enumM ma) :=
  ei_enum_core (fun _ _ _ _ _ _ _ r => sq_strong r) (fun g _ _ => .refl g) hg hm ha hs
theorem ei_enumR (hg : Glb S "enumerate") (hm : S.pg.mg "enumerate" = none) (ha : EL S ρ a ma) (hs : NoStar [a] := by intro _; rfl) : EI S ρ (TS' S.pg) (.Tuple elts kk tpos) (.Call (.Name "enumerate" p) [a] [] pos) (enumM ma) :=
  ei_enum_core (fun _ _ _ _ _ _ s r => sq_weak s.wf r) (fun g _ w => .refl w) hg hm ha hs
end
/-! ### list(range(..)) -/
section
variable {S : Sta} {ρ : Ev} {a b c : Expr} {ma mb mc m : M D} {pos p p2 rpos : Pos}
def rgM (lo hi : Int) : M D := if 0 ≤ lo ∧ lo ≤ 16777216 ∧ 0 ≤ hi ∧ hi ≤ 16777216 then pure (.lst (rangeL lo (hi - lo).toNat)) else stuck
def intG : D → M Int
  | .int i => pure i
  | _ => stuck
theorem rps_range {K : PySem.W.Frag} {G : Hp} {am : List Addr} (lo hi : Int) : Rps K G am (rgV lo hi) (rangeL lo (hi - lo).toNat) := by
  have : ∀ l : List Nat, Rps K G am (l.map fun i => V.int (lo + (i : Nat))) (l.map fun i => D.int (lo + (i : Nat))) := by
    intro l
    induction l with
    | nil => exact .nil
    | cons x r ih => exact .cons (.int _) ih
  exact this _
theorem intG_post {d : D} {s : Store} {ok : Int → Store → Prop} {ex : Nat → Store → Prop} (q : (intG d s).Post ok ex) : ∃ i, d = .int i ∧ ok i s := by
  cases d with
  | int i => exact ⟨i, rfl, q⟩
  | _ => exact False.elim q
theorem rgM_ok {S : Sta} {g g0 : Gs} {H H0 : Hp} {Q : VK} {lo hi : Int} {E : Nat → Store → Prop} (w0 : Wf S.pg g0 H0) (s : Stp S.pg g0 H0 g H) (w : Wf S.pg g H) (q : (rgM lo hi g.st).Post (Pv S.pg (RN S.pg) g0 H0 Q) E) : RgOk lo hi ∧ ∀ q, H q = none → Q (.ref q) (upd H q (.lst (rgV lo hi))) := by
  unfold rgM at q
  by_cases z : 0 ≤ lo ∧ lo ≤ 16777216 ∧ 0 ≤ hi ∧ hi ≤ 16777216
  · rw [if_pos z] at q
    exact ⟨RgOk.of_le z.1 z.2.2.2 z.2.1 z.2.2.1, fun l hl => (post_pure q) _ g _ rfl (s.trans w0 (Stp.laid w hl)) ⟨l, rfl, ⟨_, upd_same, rps_range lo hi⟩, w.freeG hl, w.freeA hl, s.none_of w0 hl⟩⟩
  · rw [if_neg z] at q
    exact False.elim q
theorem en_listRg1 (hg : Glb S "list") (hm : S.pg.mg "list" = none) (hg2 : Glb S "range") (hm2 : S.pg.mg "range" = none) (ha : EL S ρ a ma) (hs : NoStar [a] := by intro _; rfl) (hs2 : NoStar [.Call (.Name "range" p2) [a] [] rpos] := by intro _; rfl) :
    EN S ρ (.Call (.Name "list" p) [.Call (.Name "range" p2) [a] [] rpos] [] pos) (ma >>= intG >>= rgM 0) := fun Y ok =>
  (pe_listRg (X := S.cx Y) rfl hg hm (prg_1 (X := S.cx Y) hg2 hm2 (ha Y ok) (hs _)) (hs2 _)).pre fun σ H Q ⟨F, g, E, q⟩ => by
    rw [bind_assoc'] at q
    exact rdX.bind E q fun x v g' H' s E' r q => by
      obtain ⟨i, rfl, q⟩ := intG_post (post_bind q)
      exact ⟨i, r.int, rgM_ok E.wf s E'.wf q⟩
end
/-! ### cells -/
section
variable {p : Pg} {g g' : Gs} {H H' : Hp}
/-- a container with a cell of its own -/
def celD : D → M D
  | .lst ds => newC (.lst ds) >>= fun k => pure (.ref k)
  | .dct ds => newC (.dct ds) >>= fun k => pure (.ref k)
  | _ => stuck
/-- a new cell -/
def Gs.cell (g : Gs) (a : Addr) (c : Cell) : Gs := ⟨g.G, g.am ++ [a], g.st ++ [c]⟩
theorem Stp.cell {a : Addr} {c : Cell} (w : Wf p g H) (hG : g.G a = none) (ha : a ∉ g.am) (hc : CellR p g H a c) : Wf p (g.cell a c) H ∧ g.am <+: (g.cell a c).am := by
  have pre : g.am <+: g.am ++ [a] := List.prefix_append _ _
  refine ⟨⟨w.sub, fun b hb => ?_, ?_, ?_, fun k b d e1 e2 => ?_⟩, pre⟩
  · rcases List.mem_append.mp hb with h | h
    · exact w.amG b h
    · rw [List.mem_singleton.mp h]; exact hG
  · refine List.nodup_append.mpr ⟨w.nd, List.nodup_cons.mpr ⟨List.not_mem_nil, List.nodup_nil⟩, fun x hx y hy e => ?_⟩
    rw [List.mem_singleton.mp hy] at e
    exact ha (e ▸ hx)
  · show (g.am ++ [a]).length = (g.st ++ [c]).length
    rw [List.length_append, List.length_append, w.len]
    rfl
  · have e1 : (g.am ++ [a])[k]? = some b := e1
    have e2 : (g.st ++ [c])[k]? = some d := e2
    by_cases hk : k < g.am.length
    · rw [List.getElem?_append_left hk] at e1
      rw [List.getElem?_append_left (by rw [← w.len]; exact hk)] at e2
      exact (w.cell k b d e1 e2).mono (g' := g.cell a c) (fun _ _ e => e) pre rfl fun _ e => e
    · rw [List.getElem?_append_right (by omega)] at e1
      rw [List.getElem?_append_right (by rw [← w.len]; omega)] at e2
      rw [← w.len] at e2
      have hk0 : k - g.am.length = 0 := by
        have := (List.getElem?_eq_some_iff.mp e1).1
        rw [List.length_singleton] at this
        omega
      rw [hk0] at e1 e2
      cases e1
      cases e2
      exact hc.mono (g' := g.cell a c) (fun _ _ e => e) pre rfl fun _ e => e
theorem NewR.cell {v : V} {d : D} {Q : VK} {E : Nat → Store → Prop} (w : Wf p g H) (s : Stp p g H g' H') (r : NewR p H g' H' v d) (q : (celD d g'.st).Post (Pv p (RE p) g H Q) E) : Q v H' := by
  obtain ⟨a, rfl, o, hG, ha, hn⟩ := r
  have core : ∀ c, CellR p g' H' a c → ((newC c >>= fun k => pure (D.ref k)) g'.st).Post (Pv p (RE p) g H Q) E → Q (.ref a) H' := fun c hc q => by
    obtain ⟨wf', pre⟩ := Stp.cell s.wf hG ha hc
    have q : Pv p (RE p) g H Q (.ref g'.st.length) (g'.st ++ [c]) := q
    refine q (.ref a) (g'.cell a c) H' rfl ⟨s.gle, s.aml.trans pre, s.keep, s.gnew, fun b hb => ?_, wf'⟩ (.ref ?_)
    · rcases List.mem_append.mp hb with h | h
      · exact s.amn b h
      · rw [List.mem_singleton.mp h]; exact .inr hn
    · show (g'.am ++ [a])[g'.st.length]? = some a
      rw [← s.wf.len, List.getElem?_append_right (Nat.le_refl _), Nat.sub_self]
      rfl
  cases d with
  | lst ds => exact core (.lst ds) o q
  | dct es => exact core (.dct es) o q
  | _ => exact o.elim
theorem nodup_ix : ∀ {l : List Addr} {i j : Nat} {a : Addr}, l.Nodup → l[i]? = some a → l[j]? = some a → i = j
  | [], i, j, a, _, h, _ => by simp at h
  | x :: r, 0, 0, a, _, _, _ => rfl
  | x :: r, 0, j + 1, a, n, h, k => by
    simp at h k
    subst h
    exact absurd (List.mem_of_getElem? k) (List.nodup_cons.mp n).1
  | x :: r, i + 1, 0, a, n, h, k => by
    simp at h k
    subst k
    exact absurd (List.mem_of_getElem? h) (List.nodup_cons.mp n).1
  | x :: r, i + 1, j + 1, a, n, h, k => by
    simp at h k
    rw [nodup_ix (List.nodup_cons.mp n).2 h k]
/-- a cell's container is written -/
theorem Stp.wrt {a : Addr} {k : Nat} {c : Cell} {o u : HO} (w : Wf p g H) (hk : g.am[k]? = some a) (e : H a = some u) (nu : ∀ y, u ≠ .own y) (nt : ∀ xs, u ≠ .tup xs) (hc : CellR p { g with st := g.st.set k c } (upd H a o) a c) : Stp p g H { g with st := g.st.set k c } (upd H a o) := by
  have ham : a ∈ g.am := List.mem_of_getElem? hk
  have hG := w.amG a ham
  refine ⟨fun _ _ e => e, List.prefix_refl _, fun b x eb hb => ?_, fun b x e => .inl e, fun b h => .inl h, ⟨fun b x e => ?_, w.amG, w.nd, by show g.am.length = (g.st.set k c).length; rw [List.length_set, w.len], fun j b d e1 e2 => ?_⟩⟩
  · rw [upd_ne (fun z => hb (by rw [z]; exact ham))]; exact eb
  · have e : g.G b = some x := e
    rw [upd_ne (ne_of_none e hG)]
    exact w.sub b x e
  · have e1 : g.am[j]? = some b := e1
    have e2 : (g.st.set k c)[j]? = some d := e2
    by_cases z : k = j
    · subst z
      rw [hk] at e1
      cases e1
      have hl : k < g.st.length := by rw [← w.len]; exact (List.getElem?_eq_some_iff.mp hk).1
      rw [List.getElem?_set_self hl] at e2
      cases e2
      exact hc
    · rw [List.getElem?_set_ne z] at e2
      have hb : b ≠ a := fun h => by
        subst h
        have l1 := (List.getElem?_eq_some_iff.mp hk).1
        have l2 := (List.getElem?_eq_some_iff.mp e1).1
        have h1 := (List.getElem?_eq_some_iff.mp hk).2
        have h2 := (List.getElem?_eq_some_iff.mp e1).2
        exact z (nodup_ix w.nd e1 hk).symm
      have h := w.cell j b d e1 e2
      cases d with
      | lst ds =>
        obtain ⟨xs, e1, r⟩ := h
        exact ⟨xs, by rw [upd_ne hb]; exact e1, r⟩
      | dct es =>
        rcases h with ⟨kvs, e1, r⟩ | ⟨kvs, e1, r⟩
        · exact .inl ⟨kvs, by rw [upd_ne hb]; exact e1, r⟩
        · exact .inr ⟨kvs, by rw [upd_ne hb]; exact e1, r⟩
      | ins c fs =>
        obtain ⟨dx, fvs, e1, e2, r⟩ := h
        exact ⟨dx, fvs, by rw [upd_ne hb]; exact e1, by rw [upd_ne (ne_of e2 e fun z => nu b z.symm)]; exact e2, r⟩
end
def celL : D → M (Nat × List D)
  | .ref k => getC k >>= fun c => match c with
    | .lst ds => pure (k, ds)
    | _ => stuck
  | _ => stuck
theorem celL_post {p : Pg} {g : Gs} {H : Hp} {v : V} {d : D} {ok : Nat × List D → Store → Prop} {ex : Nat → Store → Prop} (w : Wf p g H) (r : p.Rp g v d) (q : (celL d g.st).Post ok ex) :
    ∃ k a xs ds, v = .ref a ∧ g.am[k]? = some a ∧ H a = some (.lst xs) ∧ p.Rps g xs ds ∧ ok (k, ds) g.st := by
  cases d with
  | ref k =>
    obtain ⟨a, rfl, e⟩ := TopR.ref (H := H) (.inl r)
    obtain ⟨c, e2, r⟩ := w.at_ref e
    have q : ((getC k >>= fun c => match c with
      | .lst ds => pure (k, ds)
      | _ => stuck) g.st).Post ok ex := q
    rw [bind_run] at q
    unfold getC at q
    rw [e2] at q
    cases c with
    | lst ds =>
      obtain ⟨xs, ex, rx⟩ := r
      exact ⟨k, a, xs, ds, rfl, e, ex, rx, q⟩
    | _ => exact False.elim q
  | _ => exact False.elim q
theorem post_setC {α : Type} {k : Nat} {c : Cell} {f : Unit → M α} {s : Store} {ok : α → Store → Prop} {ex : Nat → Store → Prop} (q : ((setC k c >>= f) s).Post ok ex) : (f () (s.set k c)).Post ok ex := q
section
variable {S : Sta} {ρ : Ev} {a b c o e ie : Expr} {ma mb mc m mo : M D} {pos p apos cpos spos : Pos} {N B : Type} {shN : N → Ev} {shB : B → Ev} {rest : List Stmt}
theorem ee_cell (h : EN S ρ e m) : EE S ρ e (m >>= celD) := fun Y ok => (h Y ok).pre fun σ H Q ⟨F, g, E, q⟩ =>
  ⟨F, g, E, (post_bind q).imp (fun d st' q v g' H' e s r => by
    rw [← e] at q
    exact NewR.cell E.wf s r q) fun _ _ q => q⟩
/-- o[i] = e, o a list with a cell -/
def cellSet (x i y : D) : M Unit := celL x >>= fun kd => intG i >>= fun n => setL kd.2 n y >>= fun ds => setC kd.1 (.lst ds)
theorem sb_cset {k : M (Out N B)} (he : EE S ρ e m) (ho : EE S ρ o mo) (hb : EE S ρ b mb) (hr : SB S ρ rest k shN shB)
    (hsw : ∀ env : Env, swapsWithSole [.Subscript o b spos] e pos.line env = pure false) (hw : ∀ env : Env, swappedStores [.Subscript o b spos] e env = pure none)
    (h1 : ∀ env : Env, (assignEach [.Subscript o b spos] env).map (·.2) = [assign (.Subscript o b spos) env])
    (ha2 : ∀ (env : Env) v, assign (.Subscript o b spos) env v = (do
      let ov ← holding [v] (eval o env)
      let iv ← holding [v, ov] (eval b env)
      standAt spos
      holding [v, ov, iv] (setItem ov iv v)
      release [v, ov, iv] [])) :
    SB S ρ (.Assign [.Subscript o b spos] e pos :: rest) (m >>= fun y => mo >>= fun x => mb >>= fun i => cellSet x i y >>= fun _ => k) shN shB := fun Y ok => by
  have hG : PG (S.cx Y) (.Subscript o b spos) _ := pg_sub (X := S.cx Y) (ho Y ok) (hb Y ok) set_list (ha2 _)
  refine (pss_cons (ps_asg (X := S.cx Y) (he Y ok) hG (hsw _) (hw _) (h1 _)) (hr Y ok)).pre fun Dd σ H ⟨F, g, E, q⟩ => ?_
  refine rdS.expr E q fun y v g1 H1 s1 E1 r1 q => rdS.expr E1 q fun x u g2 H2 s2 E2 r2 q => rdS.expr E2 q fun i w g3 H3 s3 E3 r3 q => ?_
  unfold cellSet at q
  simp only [bind_assoc'] at q
  obtain ⟨kk, a, xs, ds, rfl, hk, hx, rx, q⟩ := celL_post E3.wf (r2.mono s3.gle s3.aml) (post_bind q)
  obtain ⟨n, rfl, q⟩ := intG_post (post_bind q)
  obtain rfl := TopR.int (H := H3) (.inl r3)
  obtain ⟨j, ej, q⟩ := setL_post (post_bind q)
  have q := post_setC q
  have ry := (r1.mono s2.gle s2.aml).mono s3.gle s3.aml
  have st : Stp S.pg g3 H3 { g3 with st := g3.st.set kk (.lst (ds.set j y)) } (upd H3 a (.lst (xs.set j v))) :=
    Stp.wrt E3.wf hk hx (fun _ z => by cases z) (fun _ z => by cases z) ⟨_, upd_same, rx.set ry j⟩
  exact ⟨a, xs, n, j, rfl, rfl, hx, by rw [rx.length]; exact ej, F, _, E3.step st, q.imp (fun _ _ q => q.back st.ltr) fun _ _ q => q⟩
/-- o.pop(i) of a list with a cell -/
def cellPop (x i : D) : M D := celL x >>= fun kd => intG i >>= fun n =>
  if -(2 ^ 63) ≤ n ∧ n < 2 ^ 63 then (match seqIndex? n kd.2.length with
    | some j => (match kd.2[j]? with
      | some y => setC kd.1 (.lst (kd.2.eraseIdx j)) >>= fun _ => pure y
      | none => stuck)
    | none => stuck) else stuck
theorem ee_cpop (ho : EE S ρ o mo) (hb : EE S ρ b mb) (hs : NoStar [b] := by intro _; rfl) (hline : (apos.endLine == cpos.line) = true := by rfl) (hba : ∀ env : Env, attributeBase o "pop" env (eval o env) = eval o env := by intro _; rfl) :
    EE S ρ (.Call (.Attribute o "pop" apos) [b] [] cpos) (mo >>= fun x => celL x >>= fun _ => mb >>= fun i => cellPop x i) := fun Y ok => by
  refine (pe_bm (X := S.cx Y) (cpos := cpos) (apos := apos) PySem.F.plainAttrs_list PySem.F.slot_list_pop PySem.F.type_list_pop mt_popAt (ho Y ok) (pa_cons (hb Y ok) pa_nil (hs _)) (hba _) (by rw [hs _]; rfl) hline (hs _) (by rfl)).pre fun σ H Q ⟨F, g, E, q⟩ => ?_
  refine rdX.bind E q fun x v g1 H1 s1 E1 r1 q => ?_
  obtain ⟨k0, a, us, ds0, rfl, hk0, hx0, rx0, q⟩ := celL_post E1.wf r1 (post_bind q)
  refine ⟨.inl ⟨rfl, us, SqL.of hx0⟩, rdX.bind E1 (q.imp (fun _ _ q => q) fun _ _ q => q.back E.wf s1) fun i w g2 H2 s2 E2 r2 q => ?_⟩
  unfold cellPop at q
  obtain ⟨k, a2, xs, ds, e2, hk, hx, rx, q⟩ := celL_post E2.wf (r1.mono s2.gle s2.aml) (post_bind q)
  cases e2
  obtain ⟨n, ei, q5⟩ := intG_post (post_bind q)
  subst ei
  obtain rfl := TopR.int (H := H2) (.inl r2)
  by_cases z : -(2 ^ 63) ≤ n ∧ n < 2 ^ 63
  · simp only [if_pos z] at q5
    cases ej : seqIndex? n ds.length with
    | none => simp only [ej] at q5; exact False.elim q5
    | some j =>
      simp only [ej] at q5
      cases ed : ds[j]? with
      | none => simp only [ed] at q5; exact False.elim q5
      | some y =>
        simp only [ed] at q5
        have q := post_setC q5
        obtain ⟨vy, hy, ry⟩ := rx.get ed
        have st : Stp S.pg g2 H2 { g2 with st := g2.st.set k (.lst (ds.eraseIdx j)) } (upd H2 a (.lst (xs.eraseIdx j))) :=
          Stp.wrt E2.wf hk hx (fun _ z => by cases z) (fun _ z => by cases z) ⟨_, upd_same, rx.eraseIdx j⟩
        exact ⟨a, xs, n, j, vy, rfl, rfl, hx, z.1, z.2, by rw [rx.length]; exact ej, hy, (post_pure q) vy _ _ rfl (s1.trans E.wf (s2.trans E1.wf st)) ry⟩
  · simp only [if_neg z] at q5
    exact False.elim q5
end
end DL
namespace DL
open PySem PySem.Spec PyProof.Rows L2
/-! ### t[::-1] of a tuple -/
section
variable {prog : Program} {w : World} {A : Around} {E : Value → Shared → Prop} {s : Shared}
theorem adjust_rev (n : Nat) : Builtin.Slice.sliceAdjust none none (-1) (n : Int) = ((n : Int) - 1, -1) := by
  unfold Builtin.Slice.sliceAdjust
  have h1 : ((-1 : Int) < 0) := by omega
  simp only [h1, if_true]
theorem places_rev (n : Nat) : Builtin.Slice.slicePlaces ((n : Int) - 1) (-1) (-1) = n := by
  unfold Builtin.Slice.slicePlaces
  have h1 : ¬ ((-1 : Int) > 0) := by omega
  have e : (- -1 : Int) = 1 := by omega
  simp only [h1, if_false, e, Int.ediv_one]
  split <;> omega
theorem fm_congr {α β : Type} {f g : α → Option β} : ∀ {l : List α}, (∀ k ∈ l, f k = g k) → l.filterMap f = l.filterMap g
  | [], _ => rfl
  | x :: r, h => by
    rw [List.filterMap_cons, List.filterMap_cons, h x List.mem_cons_self, fm_congr fun k hk => h k (List.mem_cons_of_mem _ hk)]
theorem pick_rev (its : List Value) : ((List.range its.length).filterMap fun (k : Nat) => its.toArray[(((its.length : Int) - 1) + (k : Int) * (-1)).toNat]?) = its.reverse := by
  refine List.ext_getElem? fun i => ?_
  have : (List.range its.length).filterMap (fun (k : Nat) => its.toArray[(((its.length : Int) - 1) + (k : Int) * (-1)).toNat]?) = (List.range its.length).filterMap fun k => its.reverse[k]? := by
    refine fm_congr fun k hk => ?_
    have hk := List.mem_range.mp hk
    have e : (((its.length : Int) - 1) + (k : Int) * (-1)).toNat = its.length - 1 - k := by omega
    rw [e, List.getElem?_reverse hk]
    try simp
  rw [this]
  have h2 := PySem.W.krv_all its.reverse.toArray
  have h3 : (List.range its.length).filterMap (fun k => its.reverse[k]?) = its.reverse := by
    have e : its.reverse.toArray.size = its.length := by simp
    rw [e] at h2
    simpa using h2
  rw [h3]
theorem getItem_tuple_rev {t sl : Addr} {its : List Value} {vs : Value} {Q : Value → Shared → Prop} (ht : IsTup s.heap t its.toArray) (hs : s.heap.IsSliceOf sl .none .none vs) (ps : IsPart vs (some (-1)))
    (h : Q (.ref s.heap.objs.size) { s with heap := s.heap.push { cls := .type "tuple", data := .seq its.reverse.toArray } }) (hsz : its.length ≤ sizeLine) : wpAny (model prog w) A (getItem (.ref t) (.ref sl)) Q E s := by
  have htake : sizeOk (.seq its.reverse.toArray) := by
    show its.reverse.toArray.size ≤ sizeLine
    rw [List.size_toArray, List.length_reverse]
    exact hsz
  obtain ⟨os, hos, hcs, hds⟩ := id hs
  have hTs : s.TypeIs (.ref sl) "slice" := ⟨os, hos, hcs⟩
  have hap : ∀ {A' : Around} {E' : Value → Shared → Prop} {Q : Int × Int × Nat → Shared → Prop}, Q ((its.length : Int) - 1, -1, its.length) s → wpAny (model prog w) A' (Builtin.Slice.sliceApplied (.ref sl) (pure (its.toArray.size : Int))) Q E' s := by
    intro A' E' Q q
    unfold Builtin.Slice.sliceApplied Builtin.Slice.sliceFields
    refine wpAny_bind (wpAny_bind (wpAny_field hos hds (x := .none) rfl (wpAny_bind (wpAny_field hos hds (x := .none) rfl (wpAny_bind (wpAny_field hos hds (x := vs) rfl (wpAny_pure ?_)))))))
    refine wpAny_bind (HT.slicePart_ ps ?_)
    show wpAny _ _ (if ((-1 : Int) == 0) = true then _ else _) _ _ s
    rw [if_neg (by decide)]
    refine wpAny_bind (HT.slicePart_ .none (wpAny_bind (HT.slicePart_ .none (wpAny_bind (wpAny_pure ?_)))))
    show wpAny _ _ (match Builtin.Slice.sliceAdjust none none (-1) (its.toArray.size : Int) with | (lo, hi) => pure (lo, (-1 : Int), Builtin.Slice.slicePlaces lo hi (-1))) _ _ s
    rw [List.size_toArray, adjust_rev]
    show wpAny _ _ (pure ((its.length : Int) - 1, (-1 : Int), Builtin.Slice.slicePlaces ((its.length : Int) - 1) (-1) (-1))) _ _ s
    rw [places_rev]
    exact wpAny_pure q
  unfold getItem
  try with_reducible refine wpAny_holding ?_
  first | refine wpAny_bind (wpAny_pure ?_) | skip
  refine wpAny_bind (wpAny_sequenceKey ht.typeIs (by decide) ?_)
  refine wpAny_bind (wpAny_callSpecial?_slot (name := Str.ofString "__getitem__") ht.typeIs PyProof.Rows.slot_tuple_getitem
    (wpAny_call_entry PyProof.Rows.slot_tuple_getitem ht.typeIs entry_tuple_getitem ?_ (args_tuple_getitem _ _)))
  show wpAny _ _ (Builtin.Tuple.tupleItemsOf (.ref t) >>= _) _ _ s
  refine wpAny_bind (tupleItemsOf_ ht (wpAny_bind (wpAny_typeOf hTs ?_)))
  rw [if_pos (by decide)]
  refine wpAny_bind (hap ?_)
  have hno : ¬ ((((its.length : Int) - 1) == 0 && (-1 : Int) == 1 && its.length == its.toArray.size) = true) := by
    have : ((-1 : Int) == 1) = false := by decide
    rw [this, Bool.and_false, Bool.false_and]
    exact Bool.false_ne_true
  show wpAny _ _ (if (((its.length : Int) - 1) == 0 && (-1 : Int) == 1 && its.length == its.toArray.size) = true then _ else _) _ _ s
  rw [if_neg hno, pick_rev]
  first
    | exact wpAny_bind (m := Builtin.Tuple.tupleExact _) (wpAny_newObj_type (wpAny_pure ⟨_, rfl, wpAny_pure h⟩) htake)
    | exact wpAny_bind (m := Builtin.Tuple.tupleExact _) (wpAny_newObj_type (wpAny_bind (wpAny_pure (wpAny_pure ⟨_, rfl, wpAny_pure h⟩))) htake)
    | exact wpAny_bind (wpAny_bind (m := Builtin.Tuple.tupleExact _) (wpAny_newObj_type (wpAny_pure (wpAny_pure ⟨_, rfl, wpAny_pure h⟩)) htake))
    | exact wpAny_bind (wpAny_bind (m := Builtin.Tuple.tupleExact _) (wpAny_newObj_type (wpAny_pure ⟨_, rfl, wpAny_pure h⟩) htake))
end
def tRevT (K : PySem.W.Frag) (te : TE) : TE := fun σ H Q => te σ H fun x H1 => ∃ a xs, x = .ref a ∧ SqT K H1 a xs ∧ ∀ p, H1 p = none → Q (.ref p) (upd H1 p (.tup xs.reverse))
theorem pe_revT {X : Cx} {e : Expr} {te : TE} {k : Nat} {p1 p2 p3 pos : Pos} (he : PE X e te) : PE X (.Subscript e (.Slice none none (some (.UnaryOp .USub (.Constant (.int 1) k p1) p2)) p3) pos) (tRevT X.K te) := by
  refine ⟨fun pins s σ H Q I h => Subscript_ (thn (he.run pins s σ H _ I h) fun v s1 q0 => ?_)⟩
  obtain ⟨x, H1, I1, r1, a, xs, ex, hx, q⟩ := q0
  subst ex
  cases r1
  have hst : PO X (some (.UnaryOp .USub (.Constant (.int 1) k p1) p2)) (tPart (tUn (rU fun i => .int (-i)) (tC (.int 1)))) := po_some (pe_un un_neg pe_int)
  have e0 : ∀ {v : Value}, IsPart v none → v = .none := fun p => by cases p; rfl
  refine wpAny_Slice (thn (po_none.run pins s1 σ H1 (fun o H2 => o = none ∧ H2 = H1) I1 ⟨rfl, rfl⟩) fun vl s2 q0 => ?_)
  obtain ⟨l, H2, I2, pl, el, e2⟩ := q0
  subst el e2
  refine thn (po_none.run pins s2 σ H2 (fun o H3 => o = none ∧ H3 = H2) I2 ⟨rfl, rfl⟩) fun vu s3 q0 => ?_
  obtain ⟨u, H3, I3, pu, eu, e3⟩ := q0
  subst eu e3
  refine thn (hst.run pins s3 σ H3 (fun o H4 => o = some (-1) ∧ H4 = H3) I3 ⟨1, rfl, -1, rfl, rfl, rfl⟩) fun vs s4 q0 => ?_
  obtain ⟨o, H4, I4, ps, eo, e4⟩ := q0
  subst eo e4
  have z1 := e0 pl
  have z2 := e0 pu
  subst z1 z2
  have I5 : Inv X pins σ H4 { s4 with heap := s4.heap.push { cls := .type "slice", data := .fields #[.none, .none, vs] } } := I4.kept (t' := s4.toks) fun b ob q => Heap.get?_push_of_some _ q
  obtain ⟨its, r, ht, hz⟩ := I5.tuple hx
  have hlen := r.length
  refine tail_any (s := { s4 with heap := s4.heap.push { cls := .type "slice", data := .fields #[.none, .none, vs] } }) (ops := [.ref a, .ref s4.heap.objs.size]) ht.typeIs (PyProof.Rows.slot_tuple_getitem.lookup) ?_ (by with_unfolding_all rfl)
  refine getItem_tuple_rev ht (Heap.IsSliceOf.new _ _ _ vs) ps ?_ (by rw [← hlen]; exact hz)
  refine ⟨.ref _, _, I5.laid (t' := s4.toks) (o := .tup xs.reverse) (fun b ob q => Heap.get?_push_of_some _ q) (Nat.le_refl _) ?_, rfl, q _ (I5.hok.fresh (Nat.le_refl _))⟩
  exact ⟨by rw [List.length_reverse]; exact hz, _, r.reverse, IsTup.new _ _⟩
def revD : D → M D
  | .tup ds => pure (.tup ds.reverse)
  | _ => stuck
def revL : D → M D
  | .lst ds => pure (.lst ds.reverse)
  | .rls ds => pure (.lst ds.reverse)
  | _ => stuck
section
variable {S : Sta} {ρ : Ev} {a : Expr} {ma : M D} {k : Nat} {p1 p2 p3 pos : Pos}
theorem ee_revT (ha : EL S ρ a ma) : EE S ρ (.Subscript a (.Slice none none (some (.UnaryOp .USub (.Constant (.int 1) k p1) p2)) p3) pos) (ma >>= revD) := fun Y ok =>
  (pe_revT (X := S.cx Y) (ha Y ok)).pre fun σ H Q ⟨F, g, E, q⟩ => rdX.bind E q fun x v g' H' s E' r q => by
    cases x with
    | tup ds =>
      obtain ⟨a, us, rfl, sq, ru⟩ := r.tup E'.wf
      refine ⟨a, us, rfl, sq, fun l hl => ?_⟩
      have s2 := Stp.new (o := .tup us.reverse) E'.wf hl
      exact (post_pure q) _ { g' with G := upd g'.G l (.tup us.reverse) } _ rfl (s.trans E.wf s2) (.tup (.inl (.inl upd_same)) (ru.reverse.mono s2.gle s2.aml))
    | _ => exact False.elim q
theorem en_revL (ha : EL S ρ a ma) : EN S ρ (.Subscript a (.Slice none none (some (.UnaryOp .USub (.Constant (.int 1) k p1) p2)) p3) pos) (ma >>= revL) := fun Y ok =>
  (pe_revL (X := S.cx Y) (ha Y ok)).pre fun σ H Q ⟨F, g, E, q⟩ => rdX.bind E q fun x v g' H' s E' r q => by
    have core : ∀ (a : Addr) (us : List V) (ds : List D), SqL S.pg.K H' a us → S.pg.Rps g' us ds → Pv S.pg (RN S.pg) g H Q (.lst ds.reverse) g'.st → ∃ a xs, V.ref a = .ref a ∧ SqL S.pg.K H' a xs ∧ ∀ p, H' p = none → Q (.ref p) (upd H' p (.lst xs.reverse)) := fun a us ds sq r q =>
      ⟨a, us, rfl, sq, fun l hl => q _ g' _ rfl (s.trans E.wf (Stp.laid E'.wf hl)) ⟨l, rfl, ⟨_, upd_same, r.reverse⟩, E'.wf.freeG hl, E'.wf.freeA hl, s.none_of E.wf hl⟩⟩
    cases x with
    | lst ds =>
      obtain ⟨a, us, rfl, sq, ru⟩ := r.lst E'.wf
      exact ⟨a, us, rfl, SqL.of sq, fun l hl => (post_pure q) _ g' _ rfl (s.trans E.wf (Stp.laid E'.wf hl)) ⟨l, rfl, ⟨_, upd_same, ru.reverse⟩, E'.wf.freeG hl, E'.wf.freeA hl, s.none_of E.wf hl⟩⟩
    | rls ds =>
      obtain ⟨a, us, rfl, sq, ru⟩ := r.rls E'.wf
      exact ⟨a, us, rfl, sq, fun l hl => (post_pure q) _ g' _ rfl (s.trans E.wf (Stp.laid E'.wf hl)) ⟨l, rfl, ⟨_, upd_same, ru.reverse⟩, E'.wf.freeG hl, E'.wf.freeA hl, s.none_of E.wf hl⟩⟩
    | _ => exact False.elim q
/-! ### a statement that is never met -/
variable {st : Stmt} {N B : Type} {shN : N → Ev} {shB : B → Ev} {rest : List Stmt}
theorem sb_never : SB S ρ (st :: rest) (stuck : M (Out N B)) shN shB := fun Y ok => pss_never.pre fun Dd σ H ⟨F, g, E, q⟩ => False.elim q
end
end DL
namespace DL
open PySem PySem.Spec PyProof.Rows L2
/-! ### by the number of arguments -/
def p1 {α : Type} (f : D → M α) : List D → M α
  | [a] => f a
  | _ => stuck
def p2 {α : Type} (f : D → D → M α) : List D → M α
  | [a, b] => f a b
  | _ => stuck
def p3 {α : Type} (f : D → D → D → M α) : List D → M α
  | [a, b, c] => f a b c
  | _ => stuck
def p4 {α : Type} (f : D → D → D → D → M α) : List D → M α
  | [a, b, c, d] => f a b c d
  | _ => stuck
def p5 {α : Type} (f : D → D → D → D → D → M α) : List D → M α
  | [a, b, c, d, e] => f a b c d e
  | _ => stuck
def p6 {α : Type} (f : D → D → D → D → D → D → M α) : List D → M α
  | [a, b, c, d, e, g] => f a b c d e g
  | _ => stuck
def p0 {α : Type} (f : M α) : List D → M α
  | [] => f
  | _ => stuck
section
variable {α : Type} {P : List D → M α → Prop}
theorem q0 {f : M α} (h : P [] f) : ∀ ds : List D, ds.length = 0 → P ds (p0 f ds)
  | [], _ => h
theorem q1 {f : D → M α} (h : ∀ a, P [a] (f a)) : ∀ ds : List D, ds.length = 1 → P ds (p1 f ds)
  | [a], _ => h a
theorem q2 {f : D → D → M α} (h : ∀ a b, P [a, b] (f a b)) : ∀ ds : List D, ds.length = 2 → P ds (p2 f ds)
  | [a, b], _ => h a b
theorem q3 {f : D → D → D → M α} (h : ∀ a b c, P [a, b, c] (f a b c)) : ∀ ds : List D, ds.length = 3 → P ds (p3 f ds)
  | [a, b, c], _ => h a b c
theorem q4 {f : D → D → D → D → M α} (h : ∀ a b c d, P [a, b, c, d] (f a b c d)) : ∀ ds : List D, ds.length = 4 → P ds (p4 f ds)
  | [a, b, c, d], _ => h a b c d
theorem q5 {f : D → D → D → D → D → M α} (h : ∀ a b c d e, P [a, b, c, d, e] (f a b c d e)) : ∀ ds : List D, ds.length = 5 → P ds (p5 f ds)
  | [a, b, c, d, e], _ => h a b c d e
theorem q6 {f : D → D → D → D → D → D → M α} (h : ∀ a b c d e g, P [a, b, c, d, e, g] (f a b c d e g)) : ∀ ds : List D, ds.length = 6 → P ds (p6 f ds)
  | [a, b, c, d, e, g], _ => h a b c d e g
end
/-! ### swaps -/
def swC (sc scope : Scope) (x : Str) (p1 p2 : Pos) : Bool := (if sc.kind.isAnnotationScope then ScopeKind.function else sc.kind) == .function && sc.names.lookup x == some .local && p1.line == p2.line && !(scope.names.any fun (n, k) => n == x && (k == .local || k == .cell))
theorem sw_lc {elt : Expr} {gs : List Comprehension} {sc scope : Scope} {x : Str} {p1 p2 : Pos} {l : Nat} {b : Bool} (h : swC sc scope x p1 p2 = b) : ∀ env : Env, env.scope = sc → swapsWith (.ListComp elt gs scope p2) (some (.Name x p1)) l env = pure b := by
  rintro env rfl
  rw [← h]
  rfl
/-! ### the law's end -/
/-- the law's promise -/
def spLaw (K : PySem.W.Frag) : Sp := fun vs H Q _ => ∃ (a : Addr) (ns : List Int), vs = [.ref a] ∧ ns.length ≤ 63 ∧ SqL K H a (ns.map V.int) ∧ ∀ H', Q (.bl true) H'
/-- the law holds of its mirror -/
def LawOk (F : List D → M D) : Prop := ∀ ns : List Int, ns.length ≤ 63 → (F [.rls (ns.map D.int)] []).Post (fun d _ => d = .bl true) fun _ _ => False
theorem law_sp {p : Pg} {F : List D → M D} (h : LawOk F) (vs : List V) (H : Hp) (Q : VK) (E : XK) (q : spLaw p.K vs H Q E) : spD p [.v] F vs H Q E := by
  obtain ⟨a, ns, rfl, hl, hs, q⟩ := q
  refine ⟨⟨H, [], []⟩, [.rls (ns.map D.int)], ⟨fun _ _ e => e, fun _ h => (List.not_mem_nil h).elim, List.nodup_nil, rfl, fun k b c e => by simp at e⟩, ⟨.rls hs (.ofInts ns), True.intro⟩, (h ns hl).imp (fun d st e => ?_) fun _ _ e => e.elim⟩
  subst e
  intro v g' H' _ s r
  cases r
  exact q H'
theorem cx_no {P : Program} {w : World} {H : Hp} {s s' : Shared} {e : Value} (h : L2.CX P w [] H s (fun _ _ _ => False) e s') : False := by
  obtain ⟨_, _, _, _, _, _, _, _, _, _, _, _, h⟩ := h
  exact h
end DL
namespace DL
open PySem PySem.Spec PyProof.Rows L2
/-! ### the built-ins by name -/
section
variable {S : Sta}
theorem b_len (m : S.pg.mg "len" = none) (g : Glb S "len" := by rfl) : Blt S "len" (.builtin "len") := .mk' g m PySem.boot_len
theorem b_sum (m : S.pg.mg "sum" = none) (g : Glb S "sum" := by rfl) : Blt S "sum" (.builtin "sum") := .mk' g m PyProof.Rows.boot_sum
theorem b_any (m : S.pg.mg "any" = none) (g : Glb S "any" := by rfl) : Blt S "any" (.builtin "any") := .mk' g m PyProof.Rows.boot_any
theorem b_all (m : S.pg.mg "all" = none) (g : Glb S "all" := by rfl) : Blt S "all" (.builtin "all") := .mk' g m PyProof.Rows.boot_all
theorem b_max (m : S.pg.mg "max" = none) (g : Glb S "max" := by rfl) : Blt S "max" (.builtin "max") := .mk' g m PyProof.Rows.boot_max
theorem b_min (m : S.pg.mg "min" = none) (g : Glb S "min" := by rfl) : Blt S "min" (.builtin "min") := .mk' g m PyProof.Rows.boot_min
theorem b_abs (m : S.pg.mg "abs" = none) (g : Glb S "abs" := by rfl) : Blt S "abs" (.builtin "abs") := .mk' g m PyProof.Rows.boot_abs
theorem b_sorted (m : S.pg.mg "sorted" = none) (g : Glb S "sorted" := by rfl) : Blt S "sorted" (.builtin "sorted") := .mk' g m PyProof.Rows.boot_sorted
theorem b_int (m : S.pg.mg "int" = none) (g : Glb S "int" := by rfl) : Blt S "int" (.type "int") := .mk' g m PyProof.Rows.boot_int
theorem b_tuple (m : S.pg.mg "tuple" = none) (g : Glb S "tuple" := by rfl) : Blt S "tuple" (.type "tuple") := .mk' g m PyProof.Rows.boot_tuple
theorem b_list (m : S.pg.mg "list" = none) (g : Glb S "list" := by rfl) : Blt S "list" (.type "list") := .mk' g m PyProof.Rows.boot_list
end
/-! ### rules with their small print filled in -/
section
variable {S : Sta} {ρ : Ev} {a b c e : Expr} {ma mb mc m : M D} {pos p p2 : Pos} {R : Rel}
theorem ev (i : Nat) {x : Str} {d : D} (hs : ρ[i]? = some (.sh d) := by rfl) (hN : S.N[i]? = some x := by rfl) (hv : Vis S.sc x := by first | exact Or.inl rfl | exact Or.inr (Or.inl rfl) | exact Or.inr (Or.inr rfl))
    (hd : (x == ("__debug__" : Str)) = false := by decide) (hcd : (x == ("__classdict__" : Str)) = false := by decide) : EE S ρ (.Name x pos) (pure d) := ee_var i hs hN hv hd hcd
theorem evo (i : Nat) {x : Str} {d : D} (hs : ρ[i]? = some (.ow d) := by rfl) (hN : S.N[i]? = some x := by rfl) (hv : Vis S.sc x := by first | exact Or.inl rfl | exact Or.inr (Or.inl rfl) | exact Or.inr (Or.inr rfl))
    (hd : (x == ("__debug__" : Str)) = false := by decide) (hcd : (x == ("__classdict__" : Str)) = false := by decide) : EL S ρ (.Name x pos) (pure d) := el_ow i hs hN hv hd hcd
theorem evb (i : Nat) {x : Str} {d : D} (hs : ρ[i]? = some (.bo d) := by rfl) (hN : S.N[i]? = some x := by rfl) (hv : Vis S.sc x := by first | exact Or.inl rfl | exact Or.inr (Or.inl rfl) | exact Or.inr (Or.inr rfl))
    (hd : (x == ("__debug__" : Str)) = false := by decide) (hcd : (x == ("__classdict__" : Str)) = false := by decide) : EL S ρ (.Name x pos) (pure d) := el_bo i hs hN hv hd hcd
theorem eg {x : Str} {i : Int} (h : ∃ t, S.pg.mg x = some (.int i t)) (hg : S.sc.names.lookup x = some .globalImplicit := by rfl) (hd : (x == ("__debug__" : Str)) = false := by decide) : EE S ρ (.Name x pos) (pure (.int i)) := by
  obtain ⟨t, h⟩ := h
  exact ee_glob (v := .int i) hg h ⟨t, rfl⟩ (fun _ => .int i) hd
theorem xcmp {op : CmpOp} {r : R2} {f : D → D → M Bool} (h : Cmp S op r f) (ha : EL S ρ a ma) (hb : EL S ρ b mb) (hm : behindInMarks op b = false := by rfl) : EE S ρ (.Compare a [op] [b] pos) (ma >>= fun x => mb >>= fun y => f x y >>= fun b => pure (.bl b)) := ee_cmp h ha hb hm
theorem tcmp {op : CmpOp} {r : R2} {f : D → D → M Bool} (h : Cmp S op r f) (ha : EL S ρ a ma) (hb : EL S ρ b mb) (hm : behindInMarks op b = false := by rfl) : ET S ρ (.Compare a [op] [b] pos) (ma >>= fun x => mb >>= fun y => f x y) := et_cmp h ha hb hm
theorem xix (ha : EL S ρ a ma) (hb : EL S ρ b mb) (hs : PlainIx b := by exact fun _ _ => rfl) : EE S ρ (.Subscript a b pos) (ma >>= fun x => mb >>= fun y => ixD x y) := ee_ix ha hb hs
theorem ttr (ha : EL S ρ a ma) (he : ∀ (env : Env) (whole : Sem Value), isTrue a env whole = (do let v ← whole; standAt a.pos; holding [v] (truthy v)) := by exact fun _ _ => rfl) : ET S ρ a (ma >>= truth) := et_truth ha he
theorem xcall {x : Str} {k : Nat} {F : List D → M D} {es : List Expr} {ks : List AK} {ms : M (List D)} (fn : Fnc S.pg k x ks F) (ha : EAk S ρ ks (e :: es) ms) (hk : k ≤ S.lv := by exact Nat.le_of_ble_eq_true rfl) (hg : Glb S x := by rfl) (hs : ∀ env : Env, starEach (e :: es) env = (false, eval e env) :: starEach es env := by exact fun _ => rfl)
    (hpl : ∀ env : Env, (backTo pos (starEach es env)).any (·.1) = false := by exact fun _ => rfl) (hdb : (x == ("__debug__" : Str)) = false := by decide) : EE S ρ (.Call (.Name x p) (e :: es) [] pos) (ms >>= F) := ee_call fn hk hg ha hs hpl hdb
theorem xcall0 {x : Str} {k : Nat} {F : List D → M D} (fn : Fnc S.pg k x [] F) (hk : k ≤ S.lv := by exact Nat.le_of_ble_eq_true rfl) (hg : Glb S x := by rfl) (hdb : (x == ("__debug__" : Str)) = false := by decide) : EE S ρ (.Call (.Name x p) [] [] pos) (F []) := ee_call0 fn hk hg hdb
theorem av {es : List Expr} {ks : List AK} {ms : M (List D)} (he : EE S ρ e m) (hr : EAk S ρ ks es ms) (hs : ∀ env : Env, starEach (e :: es) env = (false, eval e env) :: starEach es env := by exact fun _ => rfl) : EAk S ρ (.v :: ks) (e :: es) (m >>= fun d => ms >>= fun ds => pure (d :: ds)) := eak_v he hr hs
theorem ab {es : List Expr} {ks : List AK} {ms : M (List D)} (he : EL S ρ e m) (hr : EAk S ρ ks es ms) (hs : ∀ env : Env, starEach (e :: es) env = (false, eval e env) :: starEach es env := by exact fun _ => rfl) : EAk S ρ (.b :: ks) (e :: es) (m >>= fun d => ms >>= fun ds => pure (d :: ds)) := eak_b he hr hs
/-! targets -/
theorem tn (i : Nat) {x : Str} (hnd : S.N.Nodup) (hN : S.N[i]? = some x := by rfl) (hx : Loc S.sc x := by first | exact Or.inl rfl | exact Or.inr rfl) (hf : S.fn x = true ∨ S.sc.names.lookup x = some .local := by first | exact Or.inl rfl | exact Or.inr rfl) : TG S (.Name x pos) nm [i] := tg_name i hnd hN hx hf
theorem tc {tg : Expr} {tgs : List Expr} {u : D → M (List D)} {us : List D → M (List D)} {ix jx : List Nat} (pu : Pure1 u) (pus : Pure1 us) (hlen : Len1 u ix.length) (h1 : TG S tg u ix) (h2 : TGs S tgs us jx)
    (hs : ∀ env : Env, (assignEach (tg :: tgs) env).map (·.2) = assign tg env :: (assignEach tgs env).map (·.2) := by exact fun _ => rfl) : TGs S (tg :: tgs) (unc u us) (ix ++ jx) := tgs_cons pu pus hlen h1 h2 hs
theorem tt {tgs : List Expr} {us : List D → M (List D)} {ix : List Nat} {n k l : Nat} (h : TGs S tgs us ix) (hl : LenS us n l) (hn : ∀ env : Env, (assignEach tgs env).length = n := by exact fun _ => rfl) (hst : ∀ env : Env, (assignEach tgs env).findIdx? (·.1) = none := by exact fun _ => rfl) :
    TG S (.Tuple tgs k pos) (unT us) ix := tg_tup h hn (fun ds s r s' e => (hl ds s r s' e).1) hst
/-! statements -/
variable {rest body : List Stmt} {N B : Type} {shN : N → Ev} {shB : B → Ev} {apos cpos spos : Pos} {tg it : Expr} {mi : M (List D)} {o : Expr} {mo : M D}
theorem s_set (i : Nat) {x : Str} {k : D → M (Out N B)} (hnd : S.N.Nodup) (he : EE S ρ e m) (hr : ∀ d, SB S (ρ.set i (.sh d)) rest (k d) shN shB) (hs : ∀ env : Env, env.scope = S.sc → swapsWith e (some (.Name x p2)) pos.line env = pure false := by exact fun _ _ => rfl)
    (hN : S.N[i]? = some x := by rfl) (hx : Loc S.sc x := by first | exact Or.inl rfl | exact Or.inr rfl) (hf : S.fn x = true ∨ S.sc.names.lookup x = some .local := by first | exact Or.inl rfl | exact Or.inr rfl) :
    SB S ρ (.Assign [.Name x p2] e pos :: rest) (m >>= k) shN shB := sb_asg i hnd hN hx he hr hs hf
theorem s_setN (i : Nat) {x : Str} {k : D → M (Out N B)} (hnd : S.N.Nodup) (he : EN S ρ e m) (hr : ∀ d, SB S (ρ.set i (.ow d)) rest (k d) shN shB) (hs : ∀ env : Env, env.scope = S.sc → swapsWith e (some (.Name x p2)) pos.line env = pure false := by exact fun _ _ => rfl)
    (hN : S.N[i]? = some x := by rfl) (hx : Loc S.sc x := by first | exact Or.inl rfl | exact Or.inr rfl) (hf : S.fn x = true ∨ S.sc.names.lookup x = some .local := by first | exact Or.inl rfl | exact Or.inr rfl) :
    SB S ρ (.Assign [.Name x p2] e pos :: rest) (m >>= k) shN shB := sb_asgN i hnd hN hx he hr hs hf
theorem s_setC (i : Nat) {x : Str} {k : D → M (Out N B)} (hnd : S.N.Nodup) (he : CompE S ρ e m) (hr : ∀ d, SB S (ρ.set i (.sh d)) rest (k d) shN shB) (hs : ∀ env : Env, env.scope = S.sc → swapsWith e (some (.Name x p2)) pos.line env = pure true)
    (hN : S.N[i]? = some x := by rfl) (hx : S.sc.names.lookup x = some .local := by rfl) : SB S ρ (.Assign [.Name x p2] e pos :: rest) (m >>= k) shN shB := sb_asgC i hnd hN hx he hr hs
theorem s_setCN (i : Nat) {x : Str} {k : D → M (Out N B)} (hnd : S.N.Nodup) (he : CompE S ρ e m) (hr : ∀ d, SB S (ρ.set i (.ow d)) rest (k d) shN shB) (hs : ∀ env : Env, env.scope = S.sc → swapsWith e (some (.Name x p2)) pos.line env = pure true)
    (hN : S.N[i]? = some x := by rfl) (hx : S.sc.names.lookup x = some .local := by rfl) : SB S ρ (.Assign [.Name x p2] e pos :: rest) (m >>= k) shN shB := sb_asgCN i hnd hN hx he hr hs
theorem s_append (i : Nat) {x : Str} {d : D} {k : D → M (Out N B)} (he : EE S ρ e m) (hr : ∀ d, SB S (ρ.set i (.ow d)) rest (k d) shN shB) (hi : ρ[i]? = some (.ow d) := by rfl) (hN : S.N[i]? = some x := by rfl)
    (hv : Vis S.sc x := by first | exact Or.inl rfl | exact Or.inr (Or.inl rfl) | exact Or.inr (Or.inr rfl)) (hs : NoStar [e] := by exact fun _ => rfl) (hline : (apos.endLine == cpos.line) = true := by rfl)
    (hsw : ∀ env : Env, swapsWith (.Call (.Attribute (.Name x p) "append" apos) [e] [] cpos) none pos.line env = pure false := by exact fun _ => rfl) (hba : ∀ env : Env, attributeBase (.Name x p) "append" env (eval (.Name x p) env) = eval (.Name x p) env := by exact fun _ => rfl)
    (hd : (x == ("__debug__" : Str)) = false := by decide) (hcd : (x == ("__classdict__" : Str)) = false := by decide) :
    SB S ρ (.Expr (.Call (.Attribute (.Name x p) "append" apos) [e] [] cpos) pos :: rest) (lstD d >>= fun ds => m >>= fun y => appL ds y >>= k) shN shB := sb_append i hi hN hv he hr hs hline hsw hba hd hcd
theorem s_expr {k : M (Out N B)} (he : EL S ρ e m) (hr : SB S ρ rest k shN shB) (hs : ∀ env : Env, swapsWith e none pos.line env = pure false := by exact fun _ => rfl) : SB S ρ (.Expr e pos :: rest) (m >>= fun _ => k) shN shB := sb_expr he hr hs
theorem s_for {Z : Type} {sh : Z → Ev} {s0 : Z} {u : D → M (List D)} {ix : List Nat} {step : Z → List D → M (Out Z Z)} {k : Z → M (Out N B)} (hi : EI S ρ (TL S.pg) tg it mi) (hg : TG S tg u ix) (pu : Pure1 u) (hlen : Len1 u ix.length) (h0 : Le (sh s0) ρ)
    (hb : ∀ s ds, ds.length = ix.length → SB S (setE (sh s) ix ds) body (step s ds) sh sh) (hr : ∀ s, SB S (sh s) rest (k s) shN shB) (hs : ∀ (env : Env) (x : Value), foldedSetIterable it env x = pure x := by exact fun _ _ => rfl) :
    SB S ρ (.For tg it body [] pos :: rest) (mi >>= fun xs => forL (fun s x => u x >>= step s) s0 xs >>= seqO k) shN shB := sb_for hi hg pu hlen h0 hb hr hs
theorem s_cset {k : M (Out N B)} (he : EE S ρ e m) (ho : EE S ρ o mo) (hb : EE S ρ b mb) (hr : SB S ρ rest k shN shB)
    (hsw : ∀ env : Env, swapsWithSole [.Subscript o b spos] e pos.line env = pure false := by exact fun _ => rfl) (hw : ∀ env : Env, swappedStores [.Subscript o b spos] e env = pure none := by exact fun _ => rfl)
    (h1 : ∀ env : Env, (assignEach [.Subscript o b spos] env).map (·.2) = [assign (.Subscript o b spos) env] := by exact fun _ => rfl)
    (ha2 : ∀ (env : Env) v, assign (.Subscript o b spos) env v = (do
      let ov ← holding [v] (eval o env)
      let iv ← holding [v, ov] (eval b env)
      standAt spos
      holding [v, ov, iv] (setItem ov iv v)
      release [v, ov, iv] []) := by exact fun _ _ => rfl) :
    SB S ρ (.Assign [.Subscript o b spos] e pos :: rest) (m >>= fun y => mo >>= fun x => mb >>= fun i => cellSet x i y >>= fun _ => k) shN shB := sb_cset he ho hb hr hsw hw h1 ha2
theorem c_lc {ifs : List Expr} {scope : Scope} {elt : Expr} {u : D → M (List D)} {ix : List Nat} {mt : List D → M Bool} {me : List D → M D}
    (hN : S.N.Nodup) (own' : List (Str × Nat)) (hi : EI S ρ (TS' S.pg) tg it mi) (hg : TG (S.blk scope) tg u ix) (pu : Pure1 u) (hlen : Len1 u ix.length)
    (ht : ∀ ds, ds.length = ix.length → ETs (S.blk scope) (setE (wipeE ρ (own'.map (·.2))) ix ds) ifs (mt ds))
    (he : ∀ ds, ds.length = ix.length → EE (S.blk scope) (setE (wipeE ρ (own'.map (·.2))) ix ds) elt (me ds))
    (hok : blkC S.N S.sc scope own' = true := by kernel_rfl) (hix : ∀ i ∈ ix, i ∈ own'.map (·.2) := by decide)
    (hs : ∀ (env : Env) (x : Value), foldedSetIterable it env x = pure x := by exact fun _ _ => rfl) :
    CompE S ρ (.ListComp elt [⟨tg, it, ifs, 0⟩] scope pos) (lcM mi u mt me) := comp1 hN (blkOk_by hok) hi hg pu hlen hix ht he hs
end
end DL
namespace DL
/-! ### plain facts about the mirrors -/
structure Wp {α : Type} (m : M α) (s : Store) (Q : α → Store → Prop) : Prop where
  run : (m s).Post Q fun _ _ => False
section
variable {α β : Type} {m : M α} {f : α → M β} {s : Store}
theorem wp_bind {Q : β → Store → Prop} (h : Wp m s fun a s' => Wp (f a) s' Q) : Wp (m >>= f) s Q := by
  have h := h.run
  refine ⟨?_⟩
  rw [bind_run]
  cases e : m s with
  | ok a s' => rw [e] at h; exact h.run
  | exc c s' => rw [e] at h; exact h
  | stuck => rw [e] at h; exact h
theorem wp_pure {a : α} {Q : α → Store → Prop} (h : Q a s) : Wp (pure a) s Q := ⟨h⟩
theorem wp_imp {Q R : α → Store → Prop} (h : Wp m s Q) (k : ∀ a s, Q a s → R a s) : Wp m s R := ⟨Res.Post.imp h.run k fun _ _ e => e⟩
theorem wp_ok {a : α} {s' : Store} {Q : α → Store → Prop} (h : m s = .ok a s') (q : Q a s') : Wp m s Q := by
  refine ⟨?_⟩
  rw [h]
  exact q
theorem wp_get {Q : α → Store → Prop} (h : Wp m s Q) : ∃ a s', m s = .ok a s' ∧ Q a s' := by
  have h := h.run
  cases e : m s with
  | ok a s' => rw [e] at h; exact ⟨a, s', rfl, h⟩
  | exc c s' => rw [e] at h; exact h.elim
  | stuck => rw [e] at h; exact h.elim
theorem wp_go {a : α} {s' : Store} {Q : β → Store → Prop} (h : m s = .ok a s') (q : Wp (f a) s' Q) : Wp (m >>= f) s Q := wp_bind (wp_ok h q)
end
@[simp] theorem p0_ap {α : Type} (f : M α) : p0 f [] = f := Eq.trans rfl rfl
@[simp] theorem p1_ap {α : Type} (f : D → M α) (a : D) : p1 f [a] = f a := Eq.trans rfl rfl
@[simp] theorem p2_ap {α : Type} (f : D → D → M α) (a b : D) : p2 f [a, b] = f a b := Eq.trans rfl rfl
@[simp] theorem p3_ap {α : Type} (f : D → D → D → M α) (a b c : D) : p3 f [a, b, c] = f a b c := Eq.trans rfl rfl
@[simp] theorem p4_ap {α : Type} (f : D → D → D → D → M α) (a b c d : D) : p4 f [a, b, c, d] = f a b c d := Eq.trans rfl rfl
@[simp] theorem p5_ap {α : Type} (f : D → D → D → D → D → M α) (a b c d e : D) : p5 f [a, b, c, d, e] = f a b c d e := Eq.trans rfl rfl
@[simp] theorem p6_ap {α : Type} (f : D → D → D → D → D → D → M α) (a b c d e g : D) : p6 f [a, b, c, d, e, g] = f a b c d e g := Eq.trans rfl rfl
@[simp] theorem nm_ap (a : D) : nm a = pure [a] := Eq.trans rfl rfl
@[simp] theorem un0_ap : un0 [] = pure [] := Eq.trans rfl rfl
@[simp] theorem unc_ap (u : D → M (List D)) (us : List D → M (List D)) (d : D) (ds : List D) : unc u us (d :: ds) = (u d >>= fun a => us ds >>= fun b => pure (a ++ b)) := Eq.trans rfl rfl
@[simp] theorem unT_ap (us : List D → M (List D)) (ds : List D) : unT us (.tup ds) = us ds := Eq.trans rfl rfl
@[simp] theorem runF_rt {N B : Type} (d : D) : runF (pure (.rt d) : M (Out N B)) = pure d := Eq.trans rfl rfl
@[simp] theorem runF_nx {N B : Type} (n : N) : runF (pure (.nx n) : M (Out N B)) = pure .non := Eq.trans rfl rfl
@[simp] theorem runF_bind {α N B : Type} (m : M α) (f : α → M (Out N B)) : runF (m >>= f) = m >>= fun a => runF (f a) := by
  unfold runF
  rw [bind_assoc']
@[simp] theorem runF_ite {N B : Type} (c : Prop) [Decidable c] (a b : M (Out N B)) : runF (if c then a else b) = if c then runF a else runF b := by
  split <;> rfl
@[simp] theorem ite_bind {α β : Type} (c : Prop) [Decidable c] (a b : M α) (f : α → M β) : ((if c then a else b) >>= f) = if c then a >>= f else b >>= f := by
  split <;> rfl
theorem bool_ite {α : Type} (b : Bool) (x y : α) : (if b = true then x else y) = cond b x y := by cases b <;> rfl
/-! ints -/
section
variable (i j : Int)
@[simp] theorem add_ii : addD (.int i) (.int j) = pure (.int (i + j)) := Eq.trans rfl rfl
@[simp] theorem sub_ii : subD (.int i) (.int j) = pure (.int (i - j)) := Eq.trans rfl rfl
@[simp] theorem and_ii : andD (.int i) (.int j) = pure (.int (PySem.Builtin.bitAnd i j)) := Eq.trans rfl rfl
@[simp] theorem or_ii : orD (.int i) (.int j) = pure (.int (PySem.Builtin.bitOr i j)) := Eq.trans rfl rfl
@[simp] theorem xor_ii : xorD (.int i) (.int j) = pure (.int (PySem.Builtin.bitXor i j)) := Eq.trans rfl rfl
@[simp] theorem lt_ii : ltB (.int i) (.int j) = pure (decide (i < j)) := Eq.trans rfl rfl
@[simp] theorem le_ii : leB (.int i) (.int j) = pure (decide (i ≤ j)) := Eq.trans rfl rfl
@[simp] theorem gt_ii : gtB (.int i) (.int j) = pure (decide (j < i)) := Eq.trans rfl rfl
@[simp] theorem ge_ii : geB (.int i) (.int j) = pure (decide (j ≤ i)) := Eq.trans rfl rfl
@[simp] theorem eq_ii : eqB (.int i) (.int j) = pure (i == j) := Eq.trans rfl rfl
@[simp] theorem ne_ii : neB (.int i) (.int j) = pure (!(i == j)) := Eq.trans rfl rfl
@[simp] theorem neg_i : negD (.int i) = pure (.int (-i)) := Eq.trans rfl rfl
@[simp] theorem inv_i : invD (.int i) = pure (.int (PySem.Builtin.bitNot i)) := Eq.trans rfl rfl
@[simp] theorem int_i : intD (.int i) = pure (.int i) := Eq.trans rfl rfl
@[simp] theorem int_b (b : Bool) : intD (.bl b) = pure (.int (if b then 1 else 0)) := Eq.trans rfl rfl
@[simp] theorem abs_i : absD (.int i) = pure (.int (if i < 0 then -i else i)) := Eq.trans rfl rfl
@[simp] theorem max2_ii : max2D (.int i) (.int j) = pure (.int (if j > i then j else i)) := Eq.trans rfl rfl
@[simp] theorem min2_ii : min2D (.int i) (.int j) = pure (.int (if j < i then j else i)) := Eq.trans rfl rfl
@[simp] theorem intM_i : intM (.int i) = pure (some i) := Eq.trans rfl rfl
@[simp] theorem intG_i : intG (.int i) = pure i := Eq.trans rfl rfl
@[simp] theorem truth_b (b : Bool) : truth (.bl b) = pure b := Eq.trans rfl rfl
@[simp] theorem truth_i : truth (.int i) = pure (i != 0) := Eq.trans rfl rfl
@[simp] theorem truth_n : truth .non = pure false := Eq.trans rfl rfl
theorem mul_ii (h : (-(2 ^ 64) < i ∧ i < 2 ^ 64) ∨ (-(2 ^ 64) < j ∧ j < 2 ^ 64)) : mulD (.int i) (.int j) = pure (.int (i * j)) := by
  show (if mulC i j = true then (pure (.int (i * j)) : M D) else stuck) = _
  rw [if_pos (by unfold mulC; exact decide_eq_true h)]
theorem div_ii (h : 0 < j) (h2 : j < 1073741824) : divD (.int i) (.int j) = pure (.int (i / j)) := by
  show (if divC i j = true then (pure (.int (i / j)) : M D) else stuck) = _
  rw [if_pos (by unfold divC; exact decide_eq_true ⟨h, h2⟩)]
theorem mod_ii (h : 0 < j) : modD (.int i) (.int j) = pure (.int (i % j)) := by
  show (if modC i j = true then (pure (.int (i % j)) : M D) else stuck) = _
  rw [if_pos (by unfold modC; exact decide_eq_true h)]
theorem shl_ii (h : 0 ≤ j) (h2 : j ≤ 1000000) (h3 : i.natAbs < 2 ^ 64) : shlD (.int i) (.int j) = pure (.int (i * 2 ^ j.toNat)) := by
  show (if powC i j = true then (pure (.int (i * 2 ^ j.toNat)) : M D) else stuck) = _
  rw [if_pos (by unfold powC; exact decide_eq_true ⟨h, h2, h3⟩)]
theorem shr_ii (h : 0 ≤ j) : shrD (.int i) (.int j) = pure (.int (i / 2 ^ j.toNat)) := by
  show (if shrC i j = true then (pure (.int (i / 2 ^ j.toNat)) : M D) else stuck) = _
  rw [if_pos (by unfold shrC; exact decide_eq_true h)]
theorem pow_ii (h : 0 ≤ j) (h2 : j ≤ 1000000) (h3 : i.natAbs < 2 ^ 64) : powD (.int i) (.int j) = pure (.int (i ^ j.toNat)) := by
  show (if powC i j = true then (pure (.int (i ^ j.toNat)) : M D) else stuck) = _
  rw [if_pos (by unfold powC; exact decide_eq_true ⟨h, h2, h3⟩)]
theorem range1_i (n : Nat) (h : n < 2 ^ 62) : range1 (.int (n : Nat)) = pure (rangeL 0 n) := by
  show (if bnd (n : Nat) = true then (pure (rangeL 0 ((n : Nat) : Int).toNat) : M (List D)) else stuck) = _
  rw [if_pos (by unfold bnd; exact decide_eq_true ⟨by omega, by omega⟩), Int.toNat_natCast]
theorem range1_z (j : Int) (h0 : 0 ≤ j) (h : j < 2 ^ 62) : range1 (.int j) = pure (rangeL 0 j.toNat) := by
  show (if bnd j = true then (pure (rangeL 0 j.toNat) : M (List D)) else stuck) = _
  rw [if_pos (by unfold bnd; exact decide_eq_true ⟨by omega, by omega⟩)]
end
/-! sequences -/
section
variable (ds : List D)
@[simp] theorem items_t : items (.tup ds) = pure ds := Eq.trans rfl rfl
@[simp] theorem items_l : items (.lst ds) = pure ds := Eq.trans rfl rfl
@[simp] theorem items_r : items (.rls ds) = pure ds := Eq.trans rfl rfl
@[simp] theorem len_t : lenD (.tup ds) = pure (.int ds.length) := Eq.trans rfl rfl
@[simp] theorem len_l : lenD (.lst ds) = pure (.int ds.length) := Eq.trans rfl rfl
@[simp] theorem len_r : lenD (.rls ds) = pure (.int ds.length) := Eq.trans rfl rfl
@[simp] theorem lst_l : lstD (.lst ds) = pure ds := Eq.trans rfl rfl
@[simp] theorem lstO_l : lstO (.lst ds) = pure ds := Eq.trans rfl rfl
@[simp] theorem tuple_l : tupleD (.lst ds) = pure (.tup ds) := Eq.trans rfl rfl
@[simp] theorem tuple_t : tupleD (.tup ds) = pure (.tup ds) := Eq.trans rfl rfl
@[simp] theorem list_t : listD (.tup ds) = pure (.lst ds) := Eq.trans rfl rfl
@[simp] theorem rev_t : revD (.tup ds) = pure (.tup ds.reverse) := Eq.trans rfl rfl
theorem mkT_ok (h : ds.length ≤ 2 ^ 24) : mkT ds = pure (.tup ds) := if_pos h
theorem mkL_ok (h : ds.length ≤ 2 ^ 24) : mkL ds = pure (.lst ds) := if_pos h
@[simp] theorem mkT0 : mkT [] = pure (.tup []) := Eq.trans rfl rfl
@[simp] theorem mkL0 : mkL [] = pure (.lst []) := Eq.trans rfl rfl
@[simp] theorem mkT1 (a : D) : mkT [a] = pure (.tup [a]) := Eq.trans rfl rfl
@[simp] theorem mkL1 (a : D) : mkL [a] = pure (.lst [a]) := Eq.trans rfl rfl
@[simp] theorem mkT2 (a b : D) : mkT [a, b] = pure (.tup [a, b]) := Eq.trans rfl rfl
@[simp] theorem mkL2 (a b : D) : mkL [a, b] = pure (.lst [a, b]) := Eq.trans rfl rfl
@[simp] theorem mkT3 (a b c : D) : mkT [a, b, c] = pure (.tup [a, b, c]) := Eq.trans rfl rfl
@[simp] theorem mkL3 (a b c : D) : mkL [a, b, c] = pure (.lst [a, b, c]) := Eq.trans rfl rfl
@[simp] theorem mkT4 (a b c d : D) : mkT [a, b, c, d] = pure (.tup [a, b, c, d]) := Eq.trans rfl rfl
@[simp] theorem mkL4 (a b c d : D) : mkL [a, b, c, d] = pure (.lst [a, b, c, d]) := Eq.trans rfl rfl
@[simp] theorem mkT5 (a b c d e : D) : mkT [a, b, c, d, e] = pure (.tup [a, b, c, d, e]) := Eq.trans rfl rfl
@[simp] theorem mkL5 (a b c d e : D) : mkL [a, b, c, d, e] = pure (.lst [a, b, c, d, e]) := Eq.trans rfl rfl
theorem app_ok (d : D) (h : ds.length < 2 ^ 24) : appL ds d = pure (.lst (ds ++ [d])) := if_pos h
theorem cat_ok (es : List D) (h : ds.length + es.length ≤ 2 ^ 24) : catD (.lst ds) (.lst es) = pure (.lst (ds ++ es)) := if_pos h
theorem add_tt (es : List D) (h : ds.length + es.length ≤ 2 ^ 24) : addD (.tup ds) (.tup es) = pure (.tup (ds ++ es)) := if_pos h
theorem sum_ints (ns : List Int) : sumD (.lst (ns.map .int)) = pure (.int ns.sum) := by
  unfold sumD
  simp only [ints_map]
theorem all_bools (bs : List Bool) : allD (.lst (bs.map .bl)) = pure (.bl (bs.all id)) := by
  unfold allD
  simp only [bools_map]
theorem any_bools (bs : List Bool) : anyD (.lst (bs.map .bl)) = pure (.bl (bs.any id)) := by
  unfold anyD
  simp only [bools_map]
theorem sorted_ints (ns : List Int) : sortedD (.lst (ns.map .int)) = pure (.lst ((isort ns).map .int)) := by
  unfold sortedD
  simp only [ints_map]
theorem sortedRev_ints (ns : List Int) : sortedRevD (.lst (ns.map .int)) = pure (.lst ((isort ns).reverse.map .int)) := by
  unfold sortedRevD
  simp only [ints_map]
end
/-! loops -/
theorem wp_for {Z B : Type} {step : Z → D → M (Out Z Z)} {Q : Out Z B → Store → Prop} (I : List D → Z → Store → Prop) : ∀ (xs : List D) (z : Z) (s : Store), I xs z s →
    (∀ x r z s, I (x :: r) z s → Wp (step z x) s fun o s' => match o with
      | .nx z' => I r z' s'
      | .ct z' => I r z' s'
      | .bk z' => Q (.nx z') s'
      | .rt d => Q (.rt d) s') → (∀ z s, I [] z s → Q (.nx z) s) → Wp (forL step z xs) s Q
  | [], z, s, i, _, d => ⟨d z s i⟩
  | x :: r, z, s, i, h, d => by
    unfold forL
    refine wp_bind (wp_imp (h x r z s i) fun o s' q => ?_)
    cases o with
    | nx z' => exact wp_for I r z' s' q h d
    | ct z' => exact wp_for I r z' s' q h d
    | bk z' => exact ⟨q⟩
    | rt d => exact ⟨q⟩
theorem forL_pure {Z B : Type} {step : Z → D → M (Out Z Z)} {g : Z → D → Z} : ∀ (xs : List D) (z : Z), (∀ z x, x ∈ xs → step z x = pure (.nx (g z x))) → (forL step z xs : M (Out Z B)) = pure (.nx (xs.foldl g z))
  | [], z, _ => rfl
  | x :: r, z, h => by
    unfold forL
    rw [h z x List.mem_cons_self, pure_bind']
    exact forL_pure r (g z x) fun z y hy => h z y (List.mem_cons_of_mem _ hy)
/-- a loop over ints -/
theorem forL_ints {Z B : Type} {step : Z → D → M (Out Z Z)} {g : Z → Int → Z} : ∀ (ns : List Int) (z : Z), (∀ z n, n ∈ ns → step z (.int n) = pure (.nx (g z n))) → (forL step z (ns.map D.int) : M (Out Z B)) = pure (.nx (ns.foldl g z))
  | [], z, _ => rfl
  | n :: r, z, h => by
    rw [List.map_cons]
    unfold forL
    rw [h z n List.mem_cons_self, pure_bind']
    exact forL_ints r (g z n) fun z y hy => h z y (List.mem_cons_of_mem _ hy)
/-! comprehensions -/
theorem compM_pure {α : Type} {f : D → M (Option D)} {to : α → D} {g : α → Option D} : ∀ (xs : List α), (∀ x ∈ xs, f (to x) = pure (g x)) → compM f (xs.map to) = pure (xs.filterMap g)
  | [], _ => rfl
  | x :: r, h => by
    have e : noexc (pure (g x) : M (Option D)) = pure (g x) := rfl
    rw [List.map_cons, compM, h x List.mem_cons_self, e, pure_bind', compM_pure r fun y hy => h y (List.mem_cons_of_mem _ hy), pure_bind', List.filterMap_cons]
    cases g x <;> rfl
theorem filterMap_all {α β : Type} (g : α → β) (xs : List α) : xs.filterMap (fun x => some (g x)) = xs.map g := by
  induction xs with
  | nil => rfl
  | cons x r ih => rw [List.filterMap_cons, ih, List.map_cons]
theorem filterMap_le {α β : Type} (g : α → Option β) (xs : List α) : (xs.filterMap g).length ≤ xs.length := List.length_filterMap_le g xs
/-- a comprehension, each item by itself; c the test, g what is put in -/
theorem lcM_pure {α : Type} {mi : M (List D)} {u : D → M (List D)} {mt : List D → M Bool} {me : List D → M D} {to : α → D} {xs : List α} (c : α → Bool) (g : α → D) (hi : mi = pure (xs.map to)) (hl : xs.length ≤ 2 ^ 24)
    (h : ∀ x ∈ xs, (u (to x) >>= fun ds => mt ds >>= fun b => if b = true then me ds >>= fun d => pure (some d) else pure none) = pure (if c x then some (g x) else none)) : lcM mi u mt me = pure (.lst ((xs.filter c).map g)) := by
  unfold lcM
  rw [hi, pure_bind', compM_pure (g := fun x => if c x then some (g x) else none) xs h, pure_bind']
  have e : xs.filterMap (fun x => if c x = true then some (g x) else none) = (xs.filter c).map g := by
    clear h hi hl
    induction xs with
    | nil => rfl
    | cons x r ih =>
      rw [List.filterMap_cons, List.filter_cons]
      by_cases z : c x = true
      · simp only [z, if_true, List.map_cons, ih]
      · simp only [z, ih]
        rfl
  rw [e]
  exact mkL_ok _ (Nat.le_trans (by rw [List.length_map]; exact List.length_filter_le _ _) hl)
/-- .. without a test -/
theorem lcM_map {α : Type} {mi : M (List D)} {u : D → M (List D)} {mt : List D → M Bool} {me : List D → M D} {to : α → D} {xs : List α} (g : α → D) (hi : mi = pure (xs.map to)) (hl : xs.length ≤ 2 ^ 24)
    (h : ∀ x ∈ xs, (u (to x) >>= fun ds => mt ds >>= fun b => if b = true then me ds >>= fun d => pure (some d) else pure none) = pure (some (g x))) : lcM mi u mt me = pure (.lst (xs.map g)) := by
  rw [lcM_pure (fun _ => true) g hi hl (fun x hx => by rw [h x hx]; rfl)]
  congr 2
  rw [List.filter_eq_self.mpr fun _ _ => rfl]
theorem rangeL_eq (n : Nat) : rangeL 0 n = (List.range n).map fun (i : Nat) => D.int (i : Nat) := by
  unfold rangeL
  refine List.map_congr_left fun i _ => ?_
  rw [Int.zero_add]
/-! ### the drawn numbers -/
/-- n more draws may be had; rest: the other cells -/
def Drw (n : Nat) (rest : Store) (s : Store) : Prop := ∃ (ns : List Int) (t : Nat), s = .lst [.lst (ns.map .int), .int (t : Nat)] :: rest ∧ 0 < ns.length ∧ ns.length ≤ 5000 ∧ t + n ≤ 2 ^ 60
theorem Drw.less {n m : Nat} {rest s : Store} (h : Drw n rest s) (l : m ≤ n) : Drw m rest s := by
  obtain ⟨ns, t, e, a, b, c⟩ := h
  exact ⟨ns, t, e, a, b, by omega⟩
end DL
/-! ### bits of numbers from nought -/
namespace DL
theorem split2 (a : Nat) : a = 2 * (a / 2) + a % 2 := by omega
theorem or_xor_and : ∀ (a b : Nat), (a ||| b) = (a ^^^ b) + (a &&& b) ∧ a + b = (a ^^^ b) + 2 * (a &&& b)
  | a, b => by
    by_cases h : a = 0
    · subst h
      simp
    · obtain ⟨ih1, ih2⟩ := or_xor_and (a / 2) (b / 2)
      have e1 := split2 (a ||| b)
      have e2 := split2 (a ^^^ b)
      have e3 := split2 (a &&& b)
      rw [Nat.or_div_two] at e1
      rw [Nat.xor_div_two] at e2
      rw [Nat.and_div_two] at e3
      have m1 := @Nat.or_mod_two_eq_one a b
      have m2 := @Nat.xor_mod_two_eq_one a b
      have m3 := @Nat.and_mod_two_eq_one a b
      have l1 : (a ||| b) % 2 < 2 := Nat.mod_lt _ (by omega)
      have l2 : (a ^^^ b) % 2 < 2 := Nat.mod_lt _ (by omega)
      have l3 : (a &&& b) % 2 < 2 := Nat.mod_lt _ (by omega)
      generalize (a ||| b) = p at *
      generalize (a ^^^ b) = q at *
      generalize (a &&& b) = r at *
      generalize (a / 2 ||| b / 2) = p' at *
      generalize (a / 2 ^^^ b / 2) = q' at *
      generalize (a / 2 &&& b / 2) = r' at *
      by_cases ha : a % 2 = 1 <;> by_cases hb : b % 2 = 1
      · have := m1.mpr (.inl ha)
        have := m3.mpr ⟨ha, hb⟩
        have : q % 2 ≠ 1 := fun z => (m2.mp z) ⟨fun _ => hb, fun _ => ha⟩
        omega
      · have := m1.mpr (.inl ha)
        have : r % 2 ≠ 1 := fun z => hb (m3.mp z).2
        have := m2.mpr fun z => hb (z.mp ha)
        omega
      · have := m1.mpr (.inr hb)
        have : r % 2 ≠ 1 := fun z => ha (m3.mp z).1
        have := m2.mpr fun z => ha (z.mpr hb)
        omega
      · have : p % 2 ≠ 1 := fun z => (m1.mp z).elim ha hb
        have : r % 2 ≠ 1 := fun z => ha (m3.mp z).1
        have : q % 2 ≠ 1 := fun z => (m2.mp z) ⟨fun y => absurd y ha, fun y => absurd y hb⟩
        omega
termination_by a => a
decreasing_by omega
theorem band_nat (a b : Nat) : PySem.Builtin.bitAnd (a : Int) (b : Int) = ((a &&& b : Nat) : Int) := by
  unfold PySem.Builtin.bitAnd
  rw [decide_eq_true (Int.natCast_nonneg a), decide_eq_true (Int.natCast_nonneg b)]
  show (((a : Int).toNat &&& (b : Int).toNat : Nat) : Int) = _
  rw [Int.toNat_natCast, Int.toNat_natCast]
theorem bor_nat (a b : Nat) : PySem.Builtin.bitOr (a : Int) (b : Int) = ((a ||| b : Nat) : Int) := by
  unfold PySem.Builtin.bitOr
  have e : PySem.Builtin.bitAnd (PySem.Builtin.bitNot (a : Int)) (PySem.Builtin.bitNot (b : Int)) = PySem.Builtin.bitNot ((a ||| b : Nat) : Int) := by
    unfold PySem.Builtin.bitAnd PySem.Builtin.bitNot
    have h1 : decide (0 ≤ -(a : Int) - 1) = false := decide_eq_false (by omega)
    have h2 : decide (0 ≤ -(b : Int) - 1) = false := decide_eq_false (by omega)
    rw [h1, h2]
    have e1 : (-(-(a : Int) - 1) - 1).toNat = a := by omega
    have e2 : (-(-(b : Int) - 1) - 1).toNat = b := by omega
    show -(((-(-(a : Int) - 1) - 1).toNat ||| (-(-(b : Int) - 1) - 1).toNat : Nat) : Int) - 1 = _
    rw [e1, e2]
  rw [e]
  unfold PySem.Builtin.bitNot
  omega
theorem bxor_nat (a b : Nat) : PySem.Builtin.bitXor (a : Int) (b : Int) = ((a ^^^ b : Nat) : Int) := by
  unfold PySem.Builtin.bitXor
  rw [bor_nat, band_nat, (or_xor_and a b).1]
  omega
/-- adding a power that is not there -/
theorem pow_add_bit {e s : Nat} (h : s.testBit e = false) (i : Nat) : (2 ^ e + s).testBit i = (decide (e = i) || s.testBit i) := by
  have z : 2 ^ e &&& s = 0 := by
    refine Nat.eq_of_testBit_eq fun j => ?_
    rw [Nat.testBit_and, Nat.testBit_two_pow, Nat.zero_testBit]
    by_cases q : e = j
    · subst q; rw [h, Bool.and_false]
    · rw [decide_eq_false q, Bool.false_and]
  have e2 := (or_xor_and (2 ^ e) s).2
  have e1 := (or_xor_and (2 ^ e) s).1
  rw [z] at e1 e2
  have : 2 ^ e + s = (2 ^ e ||| s) := by omega
  rw [this, Nat.testBit_or, Nat.testBit_two_pow]
theorem sum_pows : ∀ {L : List Nat}, L.Nodup → ∀ i, ((L.map (2 ^ ·)).sum).testBit i = decide (i ∈ L)
  | [], _, i => by
    rw [List.map_nil, List.sum_nil, Nat.zero_testBit]
    exact (decide_eq_false List.not_mem_nil).symm
  | e :: L, h, i => by
    obtain ⟨h1, h2⟩ := List.nodup_cons.mp h
    have ih := sum_pows h2
    rw [List.map_cons, List.sum_cons, pow_add_bit (by rw [ih e]; exact decide_eq_false h1), ih i]
    by_cases z : e = i
    · subst z
      rw [decide_eq_true rfl, Bool.true_or, decide_eq_true List.mem_cons_self]
    · rw [decide_eq_false z, Bool.false_or]
      by_cases y : i ∈ L
      · rw [decide_eq_true y, decide_eq_true (List.mem_cons_of_mem _ y)]
      · rw [decide_eq_false y, decide_eq_false fun q => (List.mem_cons.mp q).elim (fun q => z q.symm) y]
/-! lists of numbers as data -/
def ni (n : Nat) : D := .int (n : Int)
def en (l : List Nat) : List D := l.map ni
theorem en_ints (l : List Nat) : en l = (l.map fun (n : Nat) => (n : Int)).map .int := by
  unfold en
  rw [List.map_map]
  rfl
theorem en_len (l : List Nat) : (en l).length = l.length := List.length_map _
theorem en_app (l m : List Nat) : en (l ++ m) = en l ++ en m := List.map_append
theorem range_en (n : Nat) : rangeL 0 n = en (List.range n) := rangeL_eq n
theorem sum_cast (l : List Nat) : (l.map fun (n : Nat) => (n : Int)).sum = ((l.sum : Nat) : Int) := by
  induction l with
  | nil => rfl
  | cons x l ih => rw [List.map_cons, List.sum_cons, List.sum_cons, ih, Int.natCast_add]
theorem sum_en (l : List Nat) : sumD (.lst (en l)) = pure (ni l.sum) := by
  rw [en_ints, sum_ints, sum_cast]
  rfl
/-! comparing -/
theorem toPs_int : ∀ l : List Int, toPs (l.map .int) = l.map PySem.PyData.int
  | [] => by rw [List.map_nil, List.map_nil, toPs]
  | x :: l => by rw [List.map_cons, List.map_cons, toPs, toPs_int l, toP]
theorem canLay_ints : ∀ l : List Int, PySem.PyData.canLayAll0 (l.map PySem.PyData.int) = true
  | [] => by rw [List.map_nil, PySem.PyData.canLayAll0]
  | x :: l => by rw [List.map_cons, PySem.PyData.canLayAll0, canLay_ints l, PySem.PyData.canLay0]; rfl
theorem depth_ints : ∀ l : List Int, PySem.PyData.depthAll (l.map PySem.PyData.int) = 0
  | [] => by rw [List.map_nil, PySem.PyData.depthAll]
  | x :: l => by rw [List.map_cons, PySem.PyData.depthAll, depth_ints l, PySem.PyData.depth]; rfl
theorem eqv_ints : ∀ l m : List Int, PySem.PyData.eqvAll (l.map PySem.PyData.int) (m.map PySem.PyData.int) = decide (l = m)
  | [], [] => by rw [List.map_nil, PySem.PyData.eqvAll]; rfl
  | [], _ :: _ => by rw [List.map_nil, List.map_cons, PySem.PyData.eqvAll]; rfl
  | _ :: _, [] => by rw [List.map_nil, List.map_cons, PySem.PyData.eqvAll]; rfl
  | x :: l, y :: m => by
    rw [List.map_cons, List.map_cons, PySem.PyData.eqvAll, eqv_ints l m, PySem.PyData.eqv]
    by_cases h : x = y
    · subst h
      by_cases k : l = m
      · subst k; simp
      · simp [k]
    · simp [h]
theorem shaped_tup_ints (l : List Int) : PySem.SeqAt.shaped (toP (.tup (l.map .int))) = true := by
  rw [toP, toPs_int, PySem.SeqAt.shaped, PySem.PyData.canLay0, canLay_ints, PySem.PyData.depth, depth_ints]
  rfl
theorem shaped_lst_ints (l : List Int) : PySem.SeqAt.shaped (toP (.lst (l.map .int))) = true := by
  rw [toP, toPs_int, PySem.SeqAt.shaped, PySem.PyData.canLay0, canLay_ints, PySem.PyData.depth, depth_ints]
  rfl
theorem shaped_int (i : Int) : PySem.SeqAt.shaped (toP (.int i)) = true := by
  rw [toP, PySem.SeqAt.shaped, PySem.PyData.canLay0, PySem.PyData.depth]
  rfl
theorem shaped_bl (i : Bool) : PySem.SeqAt.shaped (toP (.bl i)) = true := by
  rw [toP, PySem.SeqAt.shaped, PySem.PyData.canLay0, PySem.PyData.depth]
  rfl
theorem eqB_of {x y : D} (hx : PySem.SeqAt.shaped (toP x) = true) (hy : PySem.SeqAt.shaped (toP y) = true) : eqB x y = pure (PySem.PyData.eqv (toP x) (toP y)) := by
  unfold eqB
  rw [hx, hy]
  rfl
theorem neB_of {x y : D} (hx : PySem.SeqAt.shaped (toP x) = true) (hy : PySem.SeqAt.shaped (toP y) = true) : neB x y = pure (!PySem.PyData.eqv (toP x) (toP y)) := by
  unfold neB
  rw [hx, hy]
  rfl
theorem eq_tt (l m : List Int) : eqB (.tup (l.map .int)) (.tup (m.map .int)) = pure (decide (l = m)) := by
  rw [eqB_of (shaped_tup_ints l) (shaped_tup_ints m), toP, toP, toPs_int, toPs_int, PySem.PyData.eqv, eqv_ints]
theorem ne_tt (l m : List Int) : neB (.tup (l.map .int)) (.tup (m.map .int)) = pure (!decide (l = m)) := by
  rw [neB_of (shaped_tup_ints l) (shaped_tup_ints m), toP, toP, toPs_int, toPs_int, PySem.PyData.eqv, eqv_ints]
theorem eq_ll (l m : List Int) : eqB (.lst (l.map .int)) (.lst (m.map .int)) = pure (decide (l = m)) := by
  rw [eqB_of (shaped_lst_ints l) (shaped_lst_ints m), toP, toP, toPs_int, toPs_int, PySem.PyData.eqv, eqv_ints]
theorem ne_ll (l m : List Int) : neB (.lst (l.map .int)) (.lst (m.map .int)) = pure (!decide (l = m)) := by
  rw [neB_of (shaped_lst_ints l) (shaped_lst_ints m), toP, toP, toPs_int, toPs_int, PySem.PyData.eqv, eqv_ints]
theorem eq_bb (a b : Bool) : eqB (.bl a) (.bl b) = pure (a == b) := by
  rw [eqB_of (shaped_bl a) (shaped_bl b), toP, toP, PySem.PyData.eqv]
theorem ne_bb (a b : Bool) : neB (.bl a) (.bl b) = pure (!(a == b)) := by
  rw [neB_of (shaped_bl a) (shaped_bl b), toP, toP, PySem.PyData.eqv]
theorem cast_inj {l m : List Nat} : (l.map fun (n : Nat) => (n : Int)) = (m.map fun (n : Nat) => (n : Int)) ↔ l = m := by
  constructor
  · intro h
    induction l generalizing m with
    | nil => cases m with
      | nil => rfl
      | cons _ _ => simp at h
    | cons x l ih => cases m with
      | nil => simp at h
      | cons y m =>
        rw [List.map_cons, List.map_cons] at h
        injection h with h1 h2
        rw [ih h2, Int.ofNat.inj h1]
  · intro h
    rw [h]
theorem eq_ten (l m : List Nat) : eqB (.tup (en l)) (.tup (en m)) = pure (decide (l = m)) := by
  rw [en_ints, en_ints, eq_tt]
  simp only [cast_inj]
theorem ne_ten (l m : List Nat) : neB (.tup (en l)) (.tup (en m)) = pure (!decide (l = m)) := by
  rw [en_ints, en_ints, ne_tt]
  simp only [cast_inj]
theorem eq_len (l m : List Nat) : eqB (.lst (en l)) (.lst (en m)) = pure (decide (l = m)) := by
  rw [en_ints, en_ints, eq_ll]
  simp only [cast_inj]
theorem ne_len (l m : List Nat) : neB (.lst (en l)) (.lst (en m)) = pure (!decide (l = m)) := by
  rw [en_ints, en_ints, ne_ll]
  simp only [cast_inj]
theorem inSeq_ints (neg : Bool) (i : Int) (l : List Int) : inSeq neg (.int i) (l.map .int) = pure (if neg then !l.contains i else l.contains i) := by
  unfold inSeq
  have h1 := shaped_lst_ints l
  rw [toP] at h1
  rw [shaped_int, h1, Bool.and_self, if_pos rfl]
  have e : ((l.map D.int).any fun z => PySem.PyData.eqv (toP z) (toP (.int i))) = l.contains i := by
    rw [Bool.eq_iff_iff, List.any_eq_true, List.contains_iff_mem]
    constructor
    · rintro ⟨z, hz, h⟩
      obtain ⟨j, hj, rfl⟩ := List.mem_map.mp hz
      rw [toP, toP, PySem.PyData.eqv, beq_iff_eq] at h
      rwa [← h]
    · intro h
      exact ⟨_, List.mem_map.mpr ⟨i, h, rfl⟩, by rw [toP, PySem.PyData.eqv, beq_self_eq_true]⟩
  simp only [e]
theorem contains_cast (l : List Nat) (n : Nat) : (l.map fun (n : Nat) => (n : Int)).contains (n : Int) = l.contains n := by
  rw [Bool.eq_iff_iff, List.contains_iff_mem, List.contains_iff_mem, List.mem_map]
  constructor
  · rintro ⟨m, hm, h⟩
    rwa [← Int.ofNat.inj h]
  · intro h
    exact ⟨n, h, rfl⟩
theorem in_l (n : Nat) (l : List Nat) : inB false (ni n) (.lst (en l)) = pure (l.contains n) := by
  show inSeq false (.int n) (en l) = _
  rw [en_ints, inSeq_ints, contains_cast]
  rfl
theorem nin_l (n : Nat) (l : List Nat) : inB true (ni n) (.lst (en l)) = pure (!l.contains n) := by
  show inSeq true (.int n) (en l) = _
  rw [en_ints, inSeq_ints, contains_cast]
  rfl
theorem in_t (n : Nat) (l : List Nat) : inB false (ni n) (.tup (en l)) = pure (l.contains n) := in_l n l
theorem nin_t (n : Nat) (l : List Nat) : inB true (ni n) (.tup (en l)) = pure (!l.contains n) := nin_l n l
/-! operators on numbers from nought -/
theorem and_nn (a b : Nat) : andD (ni a) (ni b) = pure (ni (a &&& b)) := by
  show (pure (.int (PySem.Builtin.bitAnd (a : Int) (b : Int))) : M D) = _
  rw [band_nat]
  rfl
theorem or_nn (a b : Nat) : orD (ni a) (ni b) = pure (ni (a ||| b)) := by
  show (pure (.int (PySem.Builtin.bitOr (a : Int) (b : Int))) : M D) = _
  rw [bor_nat]
  rfl
theorem xor_nn (a b : Nat) : xorD (ni a) (ni b) = pure (ni (a ^^^ b)) := by
  show (pure (.int (PySem.Builtin.bitXor (a : Int) (b : Int))) : M D) = _
  rw [bxor_nat]
  rfl
theorem add_nn (a b : Nat) : addD (ni a) (ni b) = pure (ni (a + b)) := by
  show (pure (.int ((a : Int) + (b : Int))) : M D) = _
  rw [← Int.natCast_add]
  rfl
theorem eq_nn (a b : Nat) : eqB (ni a) (ni b) = pure (a == b) := by
  show (eqB (.int (a : Int)) (.int (b : Int))) = _
  rw [eq_ii]
  congr 1
  rw [Bool.eq_iff_iff, beq_iff_eq, beq_iff_eq]
  exact ⟨fun h => Int.ofNat.inj h, fun h => by rw [h]⟩
theorem ne_nn (a b : Nat) : neB (ni a) (ni b) = pure (!(a == b)) := by
  show (neB (.int (a : Int)) (.int (b : Int))) = _
  rw [ne_ii]
  congr 2
  rw [Bool.eq_iff_iff, beq_iff_eq, beq_iff_eq]
  exact ⟨fun h => Int.ofNat.inj h, fun h => by rw [h]⟩
theorem le_nn (a b : Nat) : leB (ni a) (ni b) = pure (decide (a ≤ b)) := by
  show (leB (.int (a : Int)) (.int (b : Int))) = _
  rw [le_ii]
  simp only [Int.ofNat_le]
theorem lt_nn (a b : Nat) : ltB (ni a) (ni b) = pure (decide (a < b)) := by
  show (ltB (.int (a : Int)) (.int (b : Int))) = _
  rw [lt_ii]
  simp only [Int.ofNat_lt]
theorem gt_nn (a b : Nat) : gtB (ni a) (ni b) = pure (decide (b < a)) := by
  show (gtB (.int (a : Int)) (.int (b : Int))) = _
  rw [gt_ii]
  simp only [Int.ofNat_lt]
theorem shl_nn (a k : Nat) (ha : a < 2 ^ 64) (h : k ≤ 1000000) : shlD (ni a) (ni k) = pure (ni (a * 2 ^ k)) := by
  show (shlD (.int (a : Int)) (.int (k : Int))) = _
  rw [shl_ii _ _ (by omega) (by omega) (by rw [Int.natAbs_natCast]; exact ha), Int.toNat_natCast]
  show _ = (pure (.int (((a * 2 ^ k : Nat)) : Int)) : M D)
  rw [Int.natCast_mul, Int.natCast_pow]
  rfl
theorem shr_nn (a k : Nat) : shrD (ni a) (ni k) = pure (ni (a / 2 ^ k)) := by
  show (shrD (.int (a : Int)) (.int (k : Int))) = _
  rw [shr_ii _ _ (by omega), Int.toNat_natCast]
  show _ = (pure (.int (((a / 2 ^ k : Nat)) : Int)) : M D)
  rw [Int.natCast_ediv, Int.natCast_pow]
  rfl
theorem n0 : D.int 0 = ni 0 := rfl
theorem n1 : D.int 1 = ni 1 := rfl
theorem and_1 (a : Nat) : a &&& 1 = a % 2 := by
  have := Nat.and_two_pow_sub_one_eq_mod a 1
  exact this
theorem bit_eq (a k : Nat) : a / 2 ^ k % 2 = if a.testBit k then 1 else 0 := by
  rw [Nat.testBit_eq_decide_div_mod_eq]
  by_cases h : a / 2 ^ k % 2 = 1
  · rw [decide_eq_true h, if_pos rfl, h]
  · rw [decide_eq_false h, if_neg Bool.false_ne_true]
    omega
theorem range1_n (n : Nat) (h : n < 2 ^ 62) : range1 (ni n) = pure (en (List.range n)) := by
  rw [← range_en]
  exact range1_i n h
theorem at_en {l : List Nat} {k : Nat} (h : k < l.length) : ixD (.lst (en l)) (ni k) = pure (ni (l.getD k 0)) := by
  show ixL (en l) (k : Int) = _
  unfold ixL
  have hg : (en l)[k]? = some (ni (l.getD k 0)) := by
    unfold en
    rw [List.getElem?_map, List.getElem?_eq_getElem h, List.getD_eq_getElem?_getD, List.getElem?_eq_getElem h]
    rfl
  rw [L2.atI_nat hg]
theorem at_enT {l : List Nat} {k : Nat} (h : k < l.length) : ixD (.tup (en l)) (ni k) = pure (ni (l.getD k 0)) := at_en h
end DL
/-! ### rows of bits: spans over two numbers (plain Lean) -/
namespace Gf
/-- the rows' sums -/
def inS : List Nat → Nat → Prop
  | [], x => x = 0
  | b :: B, x => inS B x ∨ inS B (x ^^^ b)
theorem xx (x y : Nat) : x ^^^ y ^^^ y = x := by rw [Nat.xor_assoc, Nat.xor_self, Nat.xor_zero]
theorem xrc (x y z : Nat) : x ^^^ y ^^^ z = x ^^^ z ^^^ y := by rw [Nat.xor_assoc, Nat.xor_comm y z, ← Nat.xor_assoc]
theorem S_zero : ∀ B : List Nat, inS B 0
  | [] => rfl
  | _ :: B => .inl (S_zero B)
theorem S_xor : ∀ {B : List Nat} {x y : Nat}, inS B x → inS B y → inS B (x ^^^ y)
  | [], x, y, hx, hy => by
    have hx : x = 0 := hx
    have hy : y = 0 := hy
    subst hx hy; rfl
  | b :: B, x, y, hx, hy => by
    rcases hx with hx | hx <;> rcases hy with hy | hy
    · exact .inl (S_xor hx hy)
    · refine .inr ?_
      rw [Nat.xor_assoc]
      exact S_xor hx hy
    · refine .inr ?_
      rw [xrc]
      exact S_xor hx hy
    · refine .inl ?_
      have := S_xor hx hy
      rwa [Nat.xor_assoc, ← Nat.xor_assoc b, Nat.xor_comm b y, Nat.xor_assoc y, Nat.xor_self, Nat.xor_zero] at this
theorem S_mem : ∀ {B : List Nat} {b : Nat}, b ∈ B → inS B b
  | c :: B, b, h => by
    rcases List.mem_cons.mp h with rfl | h
    · refine .inr ?_
      rw [Nat.xor_self]
      exact S_zero B
    · exact .inl (S_mem h)
/-- what holds of the rows and is kept by sums holds of all sums -/
theorem S_ind {P : Nat → Prop} (h0 : P 0) (hx : ∀ x y, P x → P y → P (x ^^^ y)) : ∀ {B : List Nat}, (∀ b ∈ B, P b) → ∀ {x : Nat}, inS B x → P x
  | [], _, x, h => by
    have h : x = 0 := h
    subst h; exact h0
  | b :: B, hb, x, h => by
    rcases h with h | h
    · exact S_ind h0 hx (fun c hc => hb c (List.mem_cons_of_mem _ hc)) h
    · have := hx _ _ (S_ind h0 hx (fun c hc => hb c (List.mem_cons_of_mem _ hc)) h) (hb b List.mem_cons_self)
      rwa [xx] at this
theorem S_sub {B C : List Nat} (h : ∀ b ∈ B, inS C b) {x : Nat} (hx : inS B x) : inS C x := S_ind (S_zero C) (fun _ _ => S_xor) h hx
theorem S_app_l {B : List Nat} (C : List Nat) {x : Nat} (h : inS B x) : inS (B ++ C) x := S_sub (fun _ hb => S_mem (List.mem_append_left _ hb)) h
theorem S_app_r {C : List Nat} (B : List Nat) {x : Nat} (h : inS C x) : inS (B ++ C) x := S_sub (fun _ hb => S_mem (List.mem_append_right _ hb)) h
theorem S_app : ∀ {B C : List Nat} {x : Nat}, inS (B ++ C) x → ∃ u v, inS B u ∧ inS C v ∧ x = u ^^^ v
  | [], C, x, h => ⟨0, x, rfl, h, (Nat.zero_xor x).symm⟩
  | b :: B, C, x, h => by
    rcases h with h | h
    · obtain ⟨u, v, hu, hv, e⟩ := S_app h
      exact ⟨u, v, .inl hu, hv, e⟩
    · obtain ⟨u, v, hu, hv, e⟩ := S_app h
      refine ⟨u ^^^ b, v, .inr (by rwa [xx]), hv, ?_⟩
      rw [xrc, ← e, xx]
/-- two lists with the same sums -/
def Eqv (B C : List Nat) : Prop := ∀ x, inS B x ↔ inS C x
theorem Eqv.of {B C : List Nat} (h : ∀ b ∈ B, inS C b) (k : ∀ c ∈ C, inS B c) : Eqv B C := fun _ => ⟨S_sub h, S_sub k⟩
theorem Eqv.symm {B C : List Nat} (h : Eqv B C) : Eqv C B := fun x => (h x).symm
theorem Eqv.trans {B C E : List Nat} (h : Eqv B C) (k : Eqv C E) : Eqv B E := fun x => (h x).trans (k x)
theorem Eqv.app {B C B' C' : List Nat} (h : Eqv B B') (k : Eqv C C') : Eqv (B ++ C) (B' ++ C') := .of
  (fun b hb => by
    rcases List.mem_append.mp hb with z | z
    · exact S_app_l _ ((h b).mp (S_mem z))
    · exact S_app_r _ ((k b).mp (S_mem z)))
  fun b hb => by
    rcases List.mem_append.mp hb with z | z
    · exact S_app_l _ ((h b).mpr (S_mem z))
    · exact S_app_r _ ((k b).mpr (S_mem z))
theorem Eqv.perm {B C : List Nat} (h : B.Perm C) : Eqv B C := .of (fun _ hb => S_mem (h.mem_iff.mp hb)) fun _ hb => S_mem (h.mem_iff.mpr hb)
theorem S_lt {w : Nat} {B : List Nat} (h : ∀ b ∈ B, b < 2 ^ w) {x : Nat} (hx : inS B x) : x < 2 ^ w :=
  S_ind (Nat.two_pow_pos w) (fun _ _ => Nat.xor_lt_two_pow) h hx
theorem S_bit {i : Nat} {B : List Nat} (h : ∀ b ∈ B, b.testBit i = false) {x : Nat} (hx : inS B x) : x.testBit i = false :=
  S_ind (P := fun x => x.testBit i = false) (Nat.zero_testBit i) (fun x y hx hy => by rw [Nat.testBit_xor, hx, hy]; rfl) h hx
/-! reduced rows -/
abbrev lg (b : Nat) : Nat := b.log2
def Ap (a b : Nat) : Prop := a.testBit (lg b) = false ∧ b.testBit (lg a) = false
theorem Ap.symm {a b : Nat} (h : Ap a b) : Ap b a := ⟨h.2, h.1⟩
/-- reduced: no row has another's top bit -/
structure Rd (B : List Nat) : Prop where
  nz : ∀ b ∈ B, b ≠ 0
  ap : B.Pairwise Ap
theorem Rd.tail {b : Nat} {B : List Nat} (h : Rd (b :: B)) : Rd B := ⟨fun c hc => h.nz c (List.mem_cons_of_mem _ hc), (List.pairwise_cons.mp h.ap).2⟩
theorem Rd.head {b : Nat} {B : List Nat} (h : Rd (b :: B)) {c : Nat} (hc : c ∈ B) : Ap b c := (List.pairwise_cons.mp h.ap).1 c hc
/-- the rows whose top bits x has, added -/
def cf (x : Nat) : List Nat → Nat
  | [] => 0
  | b :: B => if x.testBit (lg b) then cf x B ^^^ b else cf x B
theorem cf_congr {x y : Nat} : ∀ {B : List Nat}, (∀ b ∈ B, x.testBit (lg b) = y.testBit (lg b)) → cf x B = cf y B
  | [], _ => rfl
  | b :: B, h => by
    unfold cf
    rw [h b List.mem_cons_self, cf_congr fun c hc => h c (List.mem_cons_of_mem _ hc)]
theorem cf_eq : ∀ {B : List Nat} {x : Nat}, Rd B → inS B x → cf x B = x
  | [], x, _, h => by
    have h : x = 0 := h
    subst h; rfl
  | b :: B, x, r, h => by
    have hb : b.testBit (lg b) = true := Nat.testBit_log2 (r.nz b List.mem_cons_self)
    have hB : ∀ c ∈ B, c.testBit (lg b) = false := fun c hc => (r.head hc).2
    have hc : ∀ c ∈ B, b.testBit (lg c) = false := fun c hc => (r.head hc).1
    unfold cf
    rcases h with h | h
    · rw [S_bit hB h]
      exact cf_eq r.tail h
    · have hx : x.testBit (lg b) = true := by
        have := S_bit hB h
        rw [Nat.testBit_xor, hb] at this
        cases e : x.testBit (lg b) with
        | true => rfl
        | false => rw [e] at this; cases this
      rw [hx, if_pos rfl]
      have e : cf x B = cf (x ^^^ b) B := cf_congr fun c h => by rw [Nat.testBit_xor, hc c h, Bool.xor_false]
      rw [e, cf_eq r.tail h, xx]
theorem zero_of {B : List Nat} {x : Nat} (r : Rd B) (h : inS B x) (k : ∀ b ∈ B, x.testBit (lg b) = false) : x = 0 := by
  have e : ∀ {B : List Nat}, (∀ b ∈ B, x.testBit (lg b) = false) → cf x B = 0 := by
    intro B k
    induction B with
    | nil => rfl
    | cons b B ih =>
      unfold cf
      rw [k b List.mem_cons_self]
      exact ih fun c hc => k c (List.mem_cons_of_mem _ hc)
  rw [← cf_eq r h, e k]
theorem lg_lt {n k : Nat} (h : n ≠ 0) : lg n < k ↔ n < 2 ^ k := Nat.log2_lt h
/-- log2 from the bits -/
theorem lg_of {x k : Nat} (h : x.testBit k = true) (l : x < 2 ^ (k + 1)) : lg x = k := by
  have h0 : x ≠ 0 := fun z => by rw [z, Nat.zero_testBit] at h; cases h
  have h1 := Nat.ge_two_pow_of_testBit h
  have h2 := (lg_lt h0).mpr l
  have h3 : ¬ lg x < k := fun z => by
    have := (lg_lt h0).mp z
    omega
  omega
theorem lt_lg {x : Nat} : x < 2 ^ (lg x + 1) := by
  by_cases h : x = 0
  · subst h; exact Nat.two_pow_pos _
  · exact (lg_lt h).mp (Nat.lt_succ_self _)
/-- a row added to x of a smaller top leaves x's top -/
theorem lg_xor {x y : Nat} (h0 : x ≠ 0) (h : y < 2 ^ lg x) : lg (x ^^^ y) = lg x := by
  refine lg_of ?_ (Nat.xor_lt_two_pow lt_lg (Nat.lt_trans h (Nat.pow_lt_pow_right (by omega) (Nat.lt_succ_self _))))
  rw [Nat.testBit_xor, Nat.testBit_log2 h0, Nat.testBit_lt_two_pow h]
  rfl
/-- the top of a sum is the top of a row -/
theorem lead : ∀ {B : List Nat} {x : Nat}, Rd B → B.Pairwise (· ≥ ·) → inS B x → x ≠ 0 → ∃ b ∈ B, lg x = lg b
  | [], x, _, _, h, n => absurd h n
  | b :: B, x, r, s, h, n => by
    have small : ∀ c ∈ B, c < 2 ^ lg b := fun c hc => by
      have h1 := (List.pairwise_cons.mp s).1 c hc
      have h2 := (r.head hc).2
      have nb := r.nz b List.mem_cons_self
      have nc := r.nz c (List.mem_cons_of_mem _ hc)
      have l1 : c < 2 ^ (lg b + 1) := Nat.lt_of_le_of_lt h1 lt_lg
      have l2 := (lg_lt nc).mpr l1
      refine (lg_lt nc).mp ?_
      have : lg c ≠ lg b := fun e => by
        rw [← e] at h2
        rw [Nat.testBit_log2 nc] at h2
        cases h2
      omega
    rcases h with h | h
    · obtain ⟨c, hc, e⟩ := lead r.tail (List.pairwise_cons.mp s).2 h n
      exact ⟨c, List.mem_cons_of_mem _ hc, e⟩
    · refine ⟨b, List.mem_cons_self, ?_⟩
      have := lg_xor (r.nz b List.mem_cons_self) (S_lt small h)
      rw [Nat.xor_comm x b, ← Nat.xor_assoc, Nat.xor_self, Nat.zero_xor] at this
      exact this
/-- reduced and in falling order -/
structure RR (B : List Nat) : Prop where
  rd : Rd B
  ge : B.Pairwise (· ≥ ·)
theorem pw_all {α : Type} {R : α → α → Prop} (hs : ∀ a b, R a b → R b a) : ∀ {l : List α}, l.Pairwise R → ∀ {a b : α}, a ∈ l → b ∈ l → a = b ∨ R a b
  | x :: l, h, a, b, ha, hb => by
    obtain ⟨h1, h2⟩ := List.pairwise_cons.mp h
    rcases List.mem_cons.mp ha with ea | ha' <;> rcases List.mem_cons.mp hb with eb | hb'
    · exact .inl (ea.trans eb.symm)
    · exact .inr (by rw [ea]; exact h1 b hb')
    · exact .inr (hs _ _ (by rw [eb]; exact h1 a ha'))
    · exact pw_all hs h2 ha' hb'
theorem Rd.uniq {B : List Nat} (r : Rd B) {a b : Nat} (ha : a ∈ B) (hb : b ∈ B) (h : a.testBit (lg b) = true) : a = b := by
  by_cases e : a = b
  · exact e
  · have : Ap a b := by
      exact (pw_all (fun _ _ h => h.symm) r.ap ha hb).resolve_left e
    rw [this.1] at h
    cases h
theorem RR.sub {B C : List Nat} (rB : RR B) (rC : RR C) (e : Eqv B C) {b : Nat} (hb : b ∈ B) : b ∈ C := by
  have nb := rB.rd.nz b hb
  have hS := (e b).mp (S_mem hb)
  obtain ⟨c, hc, el⟩ := lead rC.rd rC.ge hS nb
  -- b = c: b ^^^ c has no top of C
  have key : b ^^^ c = 0 := by
    refine zero_of rC.rd (S_xor hS (S_mem hc)) fun d hd => ?_
    obtain ⟨b2, hb2, el2⟩ := lead rB.rd rB.ge ((e d).mpr (S_mem hd)) (rC.rd.nz d hd)
    rw [Nat.testBit_xor]
    by_cases z : b.testBit (lg d) = true
    · rw [el2] at z
      have := rB.rd.uniq hb hb2 z
      subst this
      have e3 : c.testBit (lg d) = true := by
        rw [el2, el]
        exact Nat.testBit_log2 (rC.rd.nz c hc)
      rw [e3, el2, z]; rfl
    · by_cases z2 : c.testBit (lg d) = true
      · have := rC.rd.uniq hc hd z2
        subst this
        rw [← el] at z
        exact absurd (Nat.testBit_log2 nb) z
      · rw [Bool.not_eq_true] at z z2
        rw [z, z2]; rfl
  have : b = c := by
    have h := congrArg (· ^^^ c) key
    simpa [xx] using h
  rw [this]
  exact hc
/-- falling lists without doubles, with the same members -/
theorem ge_ext : ∀ {B C : List Nat}, B.Pairwise (· > ·) → C.Pairwise (· > ·) → (∀ x, x ∈ B ↔ x ∈ C) → B = C
  | [], [], _, _, _ => rfl
  | [], c :: C, _, _, h => absurd ((h c).mpr List.mem_cons_self) List.not_mem_nil
  | b :: B, [], _, _, h => absurd ((h b).mp List.mem_cons_self) List.not_mem_nil
  | b :: B, c :: C, hb, hc, h => by
    have h1 := (List.pairwise_cons.mp hb)
    have h2 := (List.pairwise_cons.mp hc)
    have e : b = c := by
      rcases List.mem_cons.mp ((h b).mp List.mem_cons_self) with e | e
      · exact e
      · rcases List.mem_cons.mp ((h c).mpr List.mem_cons_self) with e2 | e2
        · exact e2.symm
        · have := h2.1 b e
          have := h1.1 c e2
          omega
    subst e
    rw [ge_ext h1.2 h2.2 fun x => ⟨fun hx => ?_, fun hx => ?_⟩]
    · rcases List.mem_cons.mp ((h x).mp (List.mem_cons_of_mem _ hx)) with e | e
      · have := h1.1 x hx; omega
      · exact e
    · rcases List.mem_cons.mp ((h x).mpr (List.mem_cons_of_mem _ hx)) with e | e
      · have := h2.1 x hx; omega
      · exact e
theorem RR.gt {B : List Nat} (r : RR B) : B.Pairwise (· > ·) := by
  have := r.rd.ap.and r.ge
  refine List.Pairwise.imp_of_mem (fun {a b} ha hb h => ?_) this
  obtain ⟨h1, h2⟩ := h
  have : a ≠ b := fun e => by
    subst e
    have h3 : a.testBit (lg a) = false := h1.1
    rw [Nat.testBit_log2 (r.rd.nz a ha)] at h3
    cases h3
  omega
theorem RR.ext {B C : List Nat} (rB : RR B) (rC : RR C) (e : Eqv B C) : B = C :=
  ge_ext rB.gt rC.gt fun _ => ⟨rB.sub rC e, rC.sub rB e.symm⟩
/-! what the program computes -/
/-- the top bit -/
def top (r : Nat) : Nat := if r = 0 then 0 else 2 ^ lg r
def lo (B : List Nat) (r : Nat) : Nat := B.foldl (fun r b => if r &&& top b ≠ 0 then r ^^^ b else r) r
theorem and_top {r b : Nat} (h : b ≠ 0) : (r &&& top b ≠ 0) ↔ r.testBit (lg b) = true := by
  unfold top
  rw [if_neg h]
  constructor
  · intro h
    obtain ⟨i, hi⟩ := Nat.exists_testBit_ne_of_ne h
    rw [Nat.testBit_and, Nat.testBit_two_pow, Nat.zero_testBit] at hi
    by_cases z : lg b = i
    · subst z
      cases e : r.testBit (lg b) with
      | true => rfl
      | false => rw [e] at hi; exact absurd rfl hi
    · rw [decide_eq_false z, Bool.and_false] at hi
      exact absurd rfl hi
  · intro h z
    have : (r &&& 2 ^ lg b).testBit (lg b) = true := by rw [Nat.testBit_and, Nat.testBit_two_pow, h, decide_eq_true rfl]; rfl
    rw [z, Nat.zero_testBit] at this
    cases this
theorem lo_nil (r : Nat) : lo [] r = r := rfl
theorem lo_cons {b : Nat} {B : List Nat} (r : Nat) (h : b ≠ 0) : lo (b :: B) r = if r.testBit (lg b) = true then lo B (r ^^^ b) else lo B r := by
  show lo B (if r &&& top b ≠ 0 then r ^^^ b else r) = _
  by_cases z : r.testBit (lg b) = true
  · rw [if_pos z, if_pos ((and_top h).mpr z)]
  · rw [if_neg z, if_neg fun q => z ((and_top h).mp q)]
theorem lo_S : ∀ {B : List Nat} {r : Nat}, (∀ b ∈ B, b ≠ 0) → inS B (r ^^^ lo B r)
  | [], r, _ => Nat.xor_self r
  | b :: B, r, h => by
    rw [lo_cons r (h b List.mem_cons_self)]
    have h' : ∀ c ∈ B, c ≠ 0 := fun c hc => h c (List.mem_cons_of_mem _ hc)
    by_cases z : r.testBit (lg b) = true
    · rw [if_pos z]
      refine .inr ?_
      rw [xrc]
      exact lo_S h'
    · rw [if_neg z]
      exact .inl (lo_S h')
theorem lo_keep {i : Nat} : ∀ {B : List Nat} {r : Nat}, (∀ b ∈ B, b ≠ 0) → (∀ b ∈ B, b.testBit i = false) → (lo B r).testBit i = r.testBit i
  | [], r, _, _ => rfl
  | b :: B, r, h, k => by
    rw [lo_cons r (h b List.mem_cons_self)]
    have h' : ∀ c ∈ B, c ≠ 0 := fun c hc => h c (List.mem_cons_of_mem _ hc)
    have k' : ∀ c ∈ B, c.testBit i = false := fun c hc => k c (List.mem_cons_of_mem _ hc)
    by_cases z : r.testBit (lg b) = true
    · rw [if_pos z, lo_keep h' k', Nat.testBit_xor, k b List.mem_cons_self, Bool.xor_false]
    · rw [if_neg z, lo_keep h' k']
theorem lo_clear : ∀ {B : List Nat} {r : Nat}, Rd B → ∀ b ∈ B, (lo B r).testBit (lg b) = false
  | c :: B, r, h, b, hb => by
    have nc := h.nz c List.mem_cons_self
    have nB : ∀ x ∈ B, x ≠ 0 := fun x hx => h.nz x (List.mem_cons_of_mem _ hx)
    rw [lo_cons r nc]
    rcases List.mem_cons.mp hb with rfl | hb
    · have k : ∀ x ∈ B, x.testBit (lg b) = false := fun x hx => (h.head hx).2
      by_cases z : r.testBit (lg b) = true
      · rw [if_pos z, lo_keep nB k, Nat.testBit_xor, z, Nat.testBit_log2 nc]; rfl
      · rw [if_neg z, lo_keep nB k]
        exact (Bool.not_eq_true _).mp z
    · by_cases z : r.testBit (lg c) = true
      · rw [if_pos z]; exact lo_clear h.tail b hb
      · rw [if_neg z]; exact lo_clear h.tail b hb
theorem lo_zero {B : List Nat} (h : Rd B) (r : Nat) : lo B r = 0 ↔ inS B r := by
  constructor
  · intro z
    have := lo_S (r := r) h.nz
    rwa [z, Nat.xor_zero] at this
  · intro z
    refine zero_of h ?_ (lo_clear h)
    have := S_xor z (lo_S (r := r) h.nz)
    rwa [← Nat.xor_assoc, Nat.xor_self, Nat.zero_xor] at this
/-- one row more, before the order -/
def put (B : List Nat) (t : Nat) : List Nat := (B.map fun b => if b &&& top t ≠ 0 then b ^^^ t else b) ++ [t]
theorem put_one {t b : Nat} (ht : t ≠ 0) (hb : b ≠ 0) (ap : t.testBit (lg b) = false) : (if b &&& top t ≠ 0 then b ^^^ t else b) = (if b.testBit (lg t) = true then b ^^^ t else b) ∧
    lg (if b.testBit (lg t) = true then b ^^^ t else b) = lg b ∧ (if b.testBit (lg t) = true then b ^^^ t else b) ≠ 0 ∧ (if b.testBit (lg t) = true then b ^^^ t else b).testBit (lg t) = false := by
  by_cases z : b.testBit (lg t) = true
  · rw [if_pos z, if_pos ((and_top ht).mpr z)]
    have l1 : ¬ lg b < lg t := fun q => by
      have := Nat.testBit_lt_two_pow ((lg_lt hb).mp q)
      rw [this] at z; cases z
    have l2 : lg b ≠ lg t := fun q => by
      rw [q, Nat.testBit_log2 ht] at ap; cases ap
    have l3 : t < 2 ^ lg b := (lg_lt ht).mp (by omega)
    refine ⟨rfl, lg_xor hb l3, fun q => ?_, by rw [Nat.testBit_xor, z, Nat.testBit_log2 ht]; rfl⟩
    have h := lg_xor hb l3
    have h2 : (b ^^^ t).testBit (lg b) = true := by
      rw [Nat.testBit_xor, Nat.testBit_log2 hb, ap]; rfl
    rw [q, Nat.zero_testBit] at h2
    cases h2
  · rw [if_neg z, if_neg fun q => z ((and_top ht).mp q)]
    exact ⟨rfl, rfl, hb, (Bool.not_eq_true _).mp z⟩
theorem put_rd {B : List Nat} {t : Nat} (r : Rd B) (ht : t ≠ 0) (h : ∀ b ∈ B, t.testBit (lg b) = false) : Rd (put B t) := by
  unfold put
  refine ⟨fun b hb => ?_, ?_⟩
  · rcases List.mem_append.mp hb with z | z
    · obtain ⟨c, hc, rfl⟩ := List.mem_map.mp z
      obtain ⟨e, _, n, _⟩ := put_one ht (r.nz c hc) (h c hc)
      rw [e]; exact n
    · rw [List.mem_singleton.mp z]; exact ht
  · refine List.pairwise_append.mpr ⟨List.pairwise_map.mpr (List.Pairwise.imp_of_mem (fun {a b} ha hb k => ?_) r.ap), List.pairwise_singleton _ _, fun a ha b hb => ?_⟩
    · obtain ⟨ea, la, na, _⟩ := put_one ht (r.nz a ha) (h a ha)
      obtain ⟨eb, lb, nb, _⟩ := put_one ht (r.nz b hb) (h b hb)
      rw [ea, eb]
      have bit : ∀ {x y : Nat}, y ∈ B → x.testBit (lg y) = false → (if x.testBit (lg t) = true then x ^^^ t else x).testBit (lg y) = false := fun {x y} hy hx => by
        split
        · rw [Nat.testBit_xor, hx, h y hy]; rfl
        · exact hx
      exact ⟨by rw [lb]; exact bit hb k.1, by rw [la]; exact bit ha k.2⟩
    · obtain ⟨c, hc, rfl⟩ := List.mem_map.mp ha
      rw [List.mem_singleton.mp hb]
      obtain ⟨e, l, n, z⟩ := put_one ht (r.nz c hc) (h c hc)
      rw [e]
      exact ⟨z, by rw [l]; exact h c hc⟩
theorem put_S (B : List Nat) (t : Nat) : Eqv (put B t) (t :: B) := by
  unfold put
  refine .of (fun b hb => ?_) fun b hb => ?_
  · rcases List.mem_append.mp hb with z | z
    · obtain ⟨c, hc, rfl⟩ := List.mem_map.mp z
      split
      · exact S_xor (S_mem (List.mem_cons_of_mem _ hc)) (S_mem List.mem_cons_self)
      · exact S_mem (List.mem_cons_of_mem _ hc)
    · rw [List.mem_singleton.mp z]; exact S_mem List.mem_cons_self
  · have tS : inS ((B.map fun b => if b &&& top t ≠ 0 then b ^^^ t else b) ++ [t]) t := S_app_r _ (S_mem List.mem_cons_self)
    rcases List.mem_cons.mp hb with rfl | hb
    · exact tS
    · have m := S_app_l [t] (S_mem (List.mem_map.mpr ⟨b, hb, rfl⟩) : inS (B.map fun b => if b &&& top t ≠ 0 then b ^^^ t else b) _)
      by_cases z : b &&& top t ≠ 0
      · simp only [if_pos z] at m
        have := S_xor m tS
        rwa [xx] at this
      · simp only [if_neg z] at m
        exact m
/-! sorting -/
def nins (x : Nat) : List Nat → List Nat
  | [] => [x]
  | y :: r => if x ≤ y then x :: y :: r else y :: nins x r
def nsort : List Nat → List Nat
  | [] => []
  | x :: r => nins x (nsort r)
theorem nins_perm (x : Nat) : ∀ l : List Nat, (nins x l).Perm (x :: l)
  | [] => .refl _
  | y :: r => by
    unfold nins
    split
    · exact .refl _
    · exact ((nins_perm x r).cons y).trans (.swap x y r)
theorem nsort_perm : ∀ l : List Nat, (nsort l).Perm l
  | [] => .refl _
  | x :: r => (nins_perm x (nsort r)).trans ((nsort_perm r).cons x)
theorem nins_le (x : Nat) : ∀ {l : List Nat}, l.Pairwise (· ≤ ·) → (nins x l).Pairwise (· ≤ ·)
  | [], _ => List.pairwise_singleton _ _
  | y :: r, h => by
    obtain ⟨h1, h2⟩ := List.pairwise_cons.mp h
    unfold nins
    split
    · rename_i z
      refine List.pairwise_cons.mpr ⟨fun a ha => ?_, h⟩
      rcases List.mem_cons.mp ha with e | ha
      · omega
      · have := h1 a ha; omega
    · rename_i z
      refine List.pairwise_cons.mpr ⟨fun a ha => ?_, nins_le x h2⟩
      rcases List.mem_cons.mp ((nins_perm x r).mem_iff.mp ha) with e | ha
      · omega
      · exact h1 a ha
theorem nsort_le : ∀ l : List Nat, (nsort l).Pairwise (· ≤ ·)
  | [] => .nil
  | x :: r => nins_le x (nsort_le r)
theorem nsort_mem {l : List Nat} {x : Nat} : x ∈ nsort l ↔ x ∈ l := (nsort_perm l).mem_iff
theorem nsort_len (l : List Nat) : (nsort l).length = l.length := (nsort_perm l).length_eq
/-- rising lists without doubles, with the same members -/
theorem lt_ext {B C : List Nat} (hb : B.Pairwise (· < ·)) (hc : C.Pairwise (· < ·)) (h : ∀ x, x ∈ B ↔ x ∈ C) : B = C := by
  have := ge_ext (B := B.reverse) (C := C.reverse) (List.pairwise_reverse.mpr hb) (List.pairwise_reverse.mpr hc) fun x => by rw [List.mem_reverse, List.mem_reverse]; exact h x
  have := congrArg List.reverse this
  rwa [List.reverse_reverse, List.reverse_reverse] at this
theorem nsort_lt {l : List Nat} (h : l.Nodup) : (nsort l).Pairwise (· < ·) := by
  have h1 : (nsort l).Nodup := (nsort_perm l).nodup_iff.mpr h
  refine (List.nodup_iff_pairwise_ne.mp h1).and (nsort_le l) |>.imp fun h => ?_
  omega
theorem nsort_ext {B C : List Nat} (hb : B.Nodup) (hc : C.Nodup) (h : ∀ x, x ∈ B ↔ x ∈ C) : nsort B = nsort C :=
  lt_ext (nsort_lt hb) (nsort_lt hc) fun x => by rw [nsort_mem, nsort_mem]; exact h x
/-! the basis -/
def step (B : List Nat) (row : Nat) : List Nat := if lo B row = 0 then B else (nsort (put B (lo B row))).reverse
def basis (rows : List Nat) : List Nat := rows.foldl step []
theorem Rd.perm {B C : List Nat} (h : Rd B) (p : B.Perm C) : Rd C := ⟨fun b hb => h.nz b (p.mem_iff.mpr hb), p.pairwise h.ap (fun h => h.symm)⟩
theorem RR.nil : RR [] := ⟨⟨fun _ h => (List.not_mem_nil h).elim, .nil⟩, .nil⟩
theorem step_ok {B : List Nat} (r : RR B) (row : Nat) : RR (step B row) ∧ Eqv (step B row) (row :: B) ∧ (step B row).length = B.length + if lo B row = 0 then 0 else 1 := by
  unfold step
  by_cases z : lo B row = 0
  · rw [if_pos z, if_pos z]
    refine ⟨r, .of (fun b hb => S_mem (List.mem_cons_of_mem _ hb)) fun b hb => ?_, rfl⟩
    rcases List.mem_cons.mp hb with rfl | hb
    · exact (lo_zero r.rd _).mp z
    · exact S_mem hb
  · rw [if_neg z, if_neg z]
    have rp := put_rd r.rd z (lo_clear r.rd)
    have pm : (put B (lo B row)).Perm (nsort (put B (lo B row))).reverse := (nsort_perm _).symm.trans (List.reverse_perm _).symm
    refine ⟨⟨rp.perm pm, List.pairwise_reverse.mpr (nsort_le _)⟩, (Eqv.perm pm.symm).trans ((put_S _ _).trans (.of (fun b hb => ?_) fun b hb => ?_)), ?_⟩
    · rcases List.mem_cons.mp hb with rfl | hb
      · have h1 : inS (row :: B) (row ^^^ (row ^^^ lo B row)) := S_xor (S_mem List.mem_cons_self) (.inl (lo_S r.rd.nz))
        rwa [← Nat.xor_assoc, Nat.xor_self, Nat.zero_xor] at h1
      · exact S_mem (List.mem_cons_of_mem _ hb)
    · rcases List.mem_cons.mp hb with e | hb
      · subst e
        have h1 : inS (lo B b :: B) ((b ^^^ lo B b) ^^^ lo B b) := S_xor (.inl (lo_S r.rd.nz)) (S_mem List.mem_cons_self)
        rwa [xx] at h1
      · exact S_mem (List.mem_cons_of_mem _ hb)
    · rw [List.length_reverse, nsort_len]
      unfold put
      rw [List.length_append, List.length_map]
      rfl
theorem fold_ok : ∀ (rows : List Nat) {B : List Nat}, RR B → RR (rows.foldl step B) ∧ Eqv (rows.foldl step B) (B ++ rows)
  | [], B, r => ⟨r, by rw [List.append_nil]; exact fun _ => .rfl⟩
  | row :: rows, B, r => by
    obtain ⟨r1, e1, _⟩ := step_ok r row
    obtain ⟨r2, e2⟩ := fold_ok rows r1
    refine ⟨r2, e2.trans ((e1.app (fun _ => .rfl)).trans (Eqv.perm ?_))⟩
    show (row :: (B ++ rows)).Perm (B ++ row :: rows)
    exact List.perm_middle.symm
theorem basis_rr (rows : List Nat) : RR (basis rows) := (fold_ok rows .nil).1
theorem basis_S (rows : List Nat) : Eqv (basis rows) rows := (fold_ok rows .nil).2
theorem basis_eq {A B : List Nat} (h : Eqv A B) : basis A = basis B := (basis_rr A).ext (basis_rr B) ((basis_S A).trans (h.trans (basis_S B).symm))
theorem basis_iff {A B : List Nat} : basis A = basis B ↔ Eqv A B := ⟨fun h => (basis_S A).symm.trans (by rw [h]; exact basis_S B), basis_eq⟩
theorem basis_self {B : List Nat} (h : RR B) : basis B = B := (basis_rr B).ext h (basis_S B)
theorem basis_lt {w : Nat} {rows : List Nat} (h : ∀ r ∈ rows, r < 2 ^ w) : ∀ b ∈ basis rows, b < 2 ^ w := fun b hb => S_lt h ((basis_S rows b).mp (S_mem hb))
/-! the number of rows of the basis -/
def dim (L : List Nat) : Nat := (basis L).length
theorem dim_eq {A B : List Nat} (h : Eqv A B) : dim A = dim B := by unfold dim; rw [basis_eq h]
open Classical in
theorem dim_snoc (L : List Nat) (v : Nat) : dim (L ++ [v]) = dim L + if inS L v then 0 else 1 := by
  unfold dim
  have e : basis (L ++ [v]) = step (basis L) v := by unfold basis; rw [List.foldl_append]; rfl
  rw [e, (step_ok (basis_rr L) v).2.2]
  have : lo (basis L) v = 0 ↔ inS L v := (lo_zero (basis_rr L).rd v).trans (basis_S L v)
  by_cases z : inS L v
  · rw [if_pos z, if_pos (this.mpr z)]
  · rw [if_neg z, if_neg fun q => z (this.mp q)]
theorem Eqv.rfl' {A : List Nat} : Eqv A A := fun _ => .rfl
open Classical in
theorem dim_cons (v : Nat) (L : List Nat) : dim (v :: L) = dim L + if inS L v then 0 else 1 := by
  rw [← dim_snoc]
  exact dim_eq (.perm (List.perm_append_singleton v L).symm)
theorem dim_in {v : Nat} {L : List Nat} (h : inS L v) : dim (v :: L) = dim L := by rw [dim_cons, if_pos h, Nat.add_zero]
theorem dim_out {v : Nat} {L : List Nat} (h : ¬ inS L v) : dim (v :: L) = dim L + 1 := by rw [dim_cons, if_neg h]
theorem dim_app_le (A : List Nat) : ∀ C : List Nat, dim A ≤ dim (C ++ A)
  | [] => Nat.le_refl _
  | c :: C => by
    have := dim_app_le A C
    rw [List.cons_append]
    by_cases z : inS (C ++ A) c
    · rw [dim_in z]; exact this
    · rw [dim_out z]; omega
/-- as many rows, and one within the other: the same -/
theorem dim_same {A : List Nat} : ∀ {C : List Nat}, dim (C ++ A) = dim A → ∀ c ∈ C, inS A c
  | c :: C, h, x, hx => by
    have h1 := dim_app_le A C
    rw [List.cons_append] at h
    by_cases z : inS (C ++ A) c
    · rw [dim_in z] at h
      have ih := dim_same h
      rcases List.mem_cons.mp hx with rfl | hx
      · exact S_sub (fun b hb => by
          rcases List.mem_append.mp hb with q | q
          · exact ih b q
          · exact S_mem q) z
      · exact ih x hx
    · rw [dim_out z] at h
      omega
theorem eqv_of_dim {A B : List Nat} (h : ∀ a ∈ A, inS B a) (d : dim A = dim B) : Eqv A B := by
  have e : Eqv (B ++ A) B := .of (fun b hb => by
    rcases List.mem_append.mp hb with q | q
    · exact S_mem q
    · exact h b q) fun b hb => S_mem (List.mem_append_left _ hb)
  exact .of h (dim_same ((dim_eq e).trans d.symm))
/-- of what is in both: dimensions -/
theorem dim_both (U : List Nat) : ∀ W : List Nat, ∃ I, (∀ x, inS I x ↔ inS U x ∧ inS W x) ∧ dim I + dim (W ++ U) = dim U + dim W
  | [] => ⟨[], fun x => ⟨fun h => by
      have h : x = 0 := h
      subst h
      exact ⟨S_zero _, rfl⟩, fun h => h.2⟩, Nat.add_comm _ _⟩
  | v :: W => by
    obtain ⟨I, hI, d⟩ := dim_both U W
    rw [List.cons_append]
    by_cases z : inS W v
    · have e : Eqv (v :: W) W := .of (fun b hb => by
        rcases List.mem_cons.mp hb with rfl | hb
        · exact z
        · exact S_mem hb) fun b hb => S_mem (List.mem_cons_of_mem _ hb)
      refine ⟨I, fun x => (hI x).trans (and_congr_right fun _ => (e x).symm), ?_⟩
      rw [dim_in (S_app_l _ z), dim_in z]
      exact d
    · by_cases y : inS (W ++ U) v
      · obtain ⟨w, u, hw, hu, e⟩ := S_app y
        have eu : u = v ^^^ w := by rw [e, Nat.xor_comm w u, xx]
        have ev : v ^^^ u = w := by rw [eu, ← Nat.xor_assoc, Nat.xor_self, Nat.zero_xor]
        have nu : ¬ inS I u := fun q => z (by rw [e]; exact S_xor hw ((hI u).mp q).2)
        refine ⟨u :: I, fun x => ⟨fun h => ?_, fun ⟨h1, h2⟩ => ?_⟩, ?_⟩
        · rcases h with h | h
          · exact ⟨((hI x).mp h).1, .inl ((hI x).mp h).2⟩
          · obtain ⟨h1, h2⟩ := (hI _).mp h
            refine ⟨?_, .inr ?_⟩
            · have := S_xor h1 hu
              rwa [xx] at this
            · have := S_xor h2 hw
              rw [eu, ← Nat.xor_assoc, xx] at this
              exact this
        · rcases h2 with h2 | h2
          · exact .inl ((hI x).mpr ⟨h1, h2⟩)
          · refine .inr ((hI _).mpr ⟨S_xor h1 hu, ?_⟩)
            rw [eu, ← Nat.xor_assoc]
            exact S_xor h2 hw
        · rw [dim_out nu, dim_in y, dim_out z]
          omega
      · refine ⟨I, fun x => (hI x).trans (and_congr_right fun hx => ⟨.inl, fun h => ?_⟩), ?_⟩
        · rcases h with h | h
          · exact h
          · refine absurd ?_ y
            have := S_xor (S_app_r W hx) (S_app_l U h)
            rwa [← Nat.xor_assoc, Nat.xor_self, Nat.zero_xor] at this
        · rw [dim_out y, dim_out z]
          omega
theorem dim_sum {U W I : List Nat} (h : ∀ x, inS I x ↔ inS U x ∧ inS W x) : dim I + dim (U ++ W) = dim U + dim W := by
  obtain ⟨J, hJ, d⟩ := dim_both U W
  rw [dim_eq (A := I) (B := J) fun x => (h x).trans (hJ x).symm, dim_eq (A := U ++ W) (B := W ++ U) (.perm List.perm_append_comm)]
  exact d
/-! the parity of what two rows share -/
def dotN (x y : Nat) : Nat → Bool
  | 0 => false
  | n + 1 => dotN x y n ^^ (x.testBit n && y.testBit n)
theorem dot_comm (x y : Nat) : ∀ n, dotN x y n = dotN y x n
  | 0 => rfl
  | n + 1 => by unfold dotN; rw [dot_comm x y n, Bool.and_comm]
theorem bxor4 (a b c d : Bool) : ((a ^^ b) ^^ (c ^^ d)) = ((a ^^ c) ^^ (b ^^ d)) := by cases a <;> cases b <;> cases c <;> cases d <;> rfl
theorem band_xor (a b c : Bool) : ((a ^^ b) && c) = ((a && c) ^^ (b && c)) := by cases a <;> cases b <;> cases c <;> rfl
theorem dot_xor (x y z : Nat) : ∀ n, dotN (x ^^^ y) z n = (dotN x z n ^^ dotN y z n)
  | 0 => rfl
  | n + 1 => by
    unfold dotN
    rw [dot_xor x y z n, Nat.testBit_xor, band_xor, bxor4]
theorem dot_zero (y : Nat) : ∀ n, dotN 0 y n = false
  | 0 => rfl
  | n + 1 => by unfold dotN; rw [dot_zero y n, Nat.zero_testBit]; rfl
/-- no bit is shared -/
theorem dot_none {x y : Nat} : ∀ {n : Nat}, (∀ i, i < n → (x.testBit i && y.testBit i) = false) → dotN x y n = false
  | 0, _ => rfl
  | n + 1, h => by
    unfold dotN
    rw [dot_none fun i hi => h i (Nat.lt_succ_of_lt hi), h n (Nat.lt_succ_self n)]
    rfl
/-- at most one bit is shared -/
theorem dot_one {x y k : Nat} : ∀ {n : Nat}, k < n → (∀ i, i < n → i ≠ k → (x.testBit i && y.testBit i) = false) → dotN x y n = (x.testBit k && y.testBit k)
  | n + 1, hk, h => by
    unfold dotN
    by_cases z : k = n
    · subst z
      rw [dot_none fun i hi => h i (Nat.lt_succ_of_lt hi) (by omega), Bool.false_xor]
    · rw [dot_one (by omega) fun i hi => h i (Nat.lt_succ_of_lt hi), h n (Nat.lt_succ_self n) (fun e => z e.symm), Bool.xor_false]
theorem dot_S {n : Nat} {B : List Nat} {y : Nat} (h : ∀ b ∈ B, dotN b y n = false) {x : Nat} (hx : inS B x) : dotN x y n = false :=
  S_ind (P := fun x => dotN x y n = false) (dot_zero y n) (fun a b ha hb => by rw [dot_xor, ha, hb]; rfl) h hx
/-- across the rows -/
def Perp (w : Nat) (B : List Nat) (x : Nat) : Prop := x < 2 ^ w ∧ ∀ b ∈ B, dotN x b w = false
theorem Perp.eqv {w : Nat} {A B : List Nat} (e : Eqv A B) {x : Nat} : Perp w A x ↔ Perp w B x := by
  have key : ∀ {A B : List Nat}, Eqv A B → Perp w A x → Perp w B x := fun {A B} e h => ⟨h.1, fun b hb => by
    rw [dot_comm]
    exact dot_S (fun c hc => by rw [dot_comm]; exact h.2 c hc) ((e b).mpr (S_mem hb))⟩
  exact ⟨key e, key e.symm⟩
theorem pow2_inj {a b : Nat} (e : 2 ^ a = 2 ^ b) : a = b := by
  have := congrArg Nat.log2 e
  rwa [Nat.log2_two_pow, Nat.log2_two_pow] at this
/-! the rows across -/
/-- the tops of the basis' rows that have bit j -/
def tops (B : List Nat) (j : Nat) : List Nat := (B.filter fun b => b.testBit j).map top
def vec (B : List Nat) (j : Nat) : Nat := 2 ^ j ||| (tops B j).sum
theorem sum_tops {B : List Nat} (r : RR B) (p : Nat → Bool) : ∀ i, (((B.filter p).map top).sum).testBit i = true ↔ ∃ b ∈ B, p b = true ∧ lg b = i := by
  have key : ∀ {B : List Nat}, Rd B → B.Pairwise (· > ·) → (∀ i, (((B.filter p).map top).sum).testBit i = true ↔ ∃ b ∈ B, p b = true ∧ lg b = i) ∧ ∀ k, (∀ b ∈ B, lg b < k) → ((B.filter p).map top).sum < 2 ^ k := by
    intro B
    induction B with
    | nil =>
      intro _ _
      refine ⟨fun i => ⟨fun h => ?_, fun ⟨b, hb, _⟩ => (List.not_mem_nil hb).elim⟩, fun k _ => Nat.two_pow_pos k⟩
      rw [List.filter_nil, List.map_nil, List.sum_nil, Nat.zero_testBit] at h
      cases h
    | cons b B ih =>
      intro r s
      obtain ⟨s1, s2⟩ := List.pairwise_cons.mp s
      obtain ⟨ih1, ih2⟩ := ih r.tail s2
      have nb := r.nz b List.mem_cons_self
      have small : ∀ c ∈ B, lg c < lg b := fun c hc => by
        have h1 := s1 c hc
        have h2 := (r.head hc).2
        have nc := r.nz c (List.mem_cons_of_mem _ hc)
        have l1 : c < 2 ^ (lg b + 1) := Nat.lt_trans h1 lt_lg
        have l2 := (lg_lt nc).mpr l1
        have : lg c ≠ lg b := fun e => by
          rw [← e, Nat.testBit_log2 nc] at h2
          cases h2
        omega
      have sm := ih2 _ small
      by_cases z : p b = true
      · have e : ((b :: B).filter p).map top = top b :: (B.filter p).map top := by rw [List.filter_cons, if_pos z, List.map_cons]
        have et : top b = 2 ^ lg b := if_neg nb
        have e2 : (((b :: B).filter p).map top).sum = 2 ^ lg b ||| ((B.filter p).map top).sum := by
          rw [e, List.sum_cons, et]
          have := Nat.two_pow_add_eq_or_of_lt sm 1
          rw [Nat.mul_one] at this
          exact this
        refine ⟨fun i => ?_, fun k hk => ?_⟩
        · rw [e2, Nat.testBit_or, Bool.or_eq_true, Nat.testBit_two_pow, decide_eq_true_iff, ih1 i]
          constructor
          · rintro (h | ⟨c, hc, h1, h2⟩)
            · exact ⟨b, List.mem_cons_self, z, h⟩
            · exact ⟨c, List.mem_cons_of_mem _ hc, h1, h2⟩
          · rintro ⟨c, hc, h1, h2⟩
            rcases List.mem_cons.mp hc with rfl | hc
            · exact .inl h2
            · exact .inr ⟨c, hc, h1, h2⟩
        · rw [e2]
          refine Nat.or_lt_two_pow (Nat.pow_lt_pow_right (by omega) (hk b List.mem_cons_self)) (ih2 k fun c hc => hk c (List.mem_cons_of_mem _ hc))
      · have e : (b :: B).filter p = B.filter p := by rw [List.filter_cons, if_neg z]
        rw [e]
        refine ⟨fun i => ?_, fun k hk => ih2 k fun c hc => hk c (List.mem_cons_of_mem _ hc)⟩
        rw [ih1 i]
        constructor
        · rintro ⟨c, hc, h1, h2⟩
          exact ⟨c, List.mem_cons_of_mem _ hc, h1, h2⟩
        · rintro ⟨c, hc, h1, h2⟩
          rcases List.mem_cons.mp hc with rfl | hc
          · exact absurd h1 z
          · exact ⟨c, hc, h1, h2⟩
  exact (key r.rd r.gt).1
/-- bit j is no row's top -/
def Free (B : List Nat) (j : Nat) : Prop := ∀ b ∈ B, lg b ≠ j
theorem vec_bit {B : List Nat} (r : RR B) (j i : Nat) : (vec B j).testBit i = true ↔ i = j ∨ ∃ b ∈ B, b.testBit j = true ∧ lg b = i := by
  unfold vec tops
  rw [Nat.testBit_or, Bool.or_eq_true, Nat.testBit_two_pow, decide_eq_true_iff, sum_tops r]
  exact or_congr_left eq_comm
theorem vec_lt {w : Nat} {B : List Nat} (r : RR B) (hB : ∀ b ∈ B, b < 2 ^ w) {j : Nat} (hj : j < w) : vec B j < 2 ^ w := by
  refine Nat.lt_pow_two_of_testBit _ fun i hi => ?_
  cases e : (vec B j).testBit i with
  | false => rfl
  | true =>
    rcases (vec_bit r j i).mp e with h | ⟨b, hb, _, h⟩
    · omega
    · have := (lg_lt (r.rd.nz b hb)).mpr (hB b hb)
      omega
theorem vec_perp {w : Nat} {B : List Nat} (r : RR B) (hB : ∀ b ∈ B, b < 2 ^ w) {j : Nat} (hj : j < w) (hf : Free B j) : Perp w B (vec B j) := by
  refine ⟨vec_lt r hB hj, fun b hb => ?_⟩
  -- v = 2^j + t
  have lb : lg b < w := (lg_lt (r.rd.nz b hb)).mpr (hB b hb)
  have e : vec B j = 2 ^ j ^^^ (vec B j ^^^ 2 ^ j) := by rw [Nat.xor_comm (vec B j), ← Nat.xor_assoc, Nat.xor_self, Nat.zero_xor]
  have tb : ∀ i, (vec B j ^^^ 2 ^ j).testBit i = true ↔ i ≠ j ∧ ∃ b ∈ B, b.testBit j = true ∧ lg b = i := fun i => by
    rw [Nat.testBit_xor, Nat.testBit_two_pow]
    by_cases z : j = i
    · have : (vec B j).testBit i = true := (vec_bit r j i).mpr (.inl z.symm)
      rw [this, decide_eq_true z]
      exact ⟨fun h => (by cases h), fun h => absurd z.symm h.1⟩
    · rw [decide_eq_false z, Bool.xor_false, vec_bit r]
      exact ⟨fun h => ⟨fun q => z q.symm, h.resolve_left fun q => z q.symm⟩, fun h => .inr h.2⟩
  have d1 : dotN (2 ^ j) b w = b.testBit j := by
    rw [dot_one (k := j) hj fun i _ hi => by rw [Nat.testBit_two_pow, decide_eq_false fun q => hi q.symm]; rfl]
    rw [Nat.testBit_two_pow, decide_eq_true rfl, Bool.true_and]
  have d2 : dotN (vec B j ^^^ 2 ^ j) b w = b.testBit j := by
    have only : ∀ i, (vec B j ^^^ 2 ^ j).testBit i = true → b.testBit i = true → i = lg b := fun i h1 h2 => by
      obtain ⟨_, c, hc, _, el⟩ := (tb i).mp h1
      rw [← el] at h2
      rw [← el, r.rd.uniq hb hc h2]
    rw [dot_one (k := lg b) lb fun i _ hi => by
      cases e1 : (vec B j ^^^ 2 ^ j).testBit i with
      | false => rfl
      | true =>
        cases e2 : b.testBit i with
        | false => rfl
        | true => exact absurd (only i e1 e2) hi]
    rw [Nat.testBit_log2 (r.rd.nz b hb), Bool.and_true]
    cases e3 : b.testBit j with
    | true => exact (tb _).mpr ⟨hf b hb, b, hb, e3, rfl⟩
    | false =>
      cases e4 : (vec B j ^^^ 2 ^ j).testBit (lg b) with
      | false => rfl
      | true =>
        obtain ⟨_, c, hc, h1, el⟩ := (tb _).mp e4
        have : c = b := r.rd.uniq hc hb (by rw [← el]; exact Nat.testBit_log2 (r.rd.nz c hc))
        rw [this, e3] at h1
        cases h1
  rw [e, dot_xor, d1, d2, Bool.xor_self]
/-- the free bits below w -/
def freeJ (B : List Nat) (w : Nat) : List Nat := (List.range w).filter fun j => !(B.map top).contains (2 ^ j)
theorem mem_free {B : List Nat} (r : RR B) {w j : Nat} : j ∈ freeJ B w ↔ j < w ∧ Free B j := by
  unfold freeJ
  rw [List.mem_filter, List.mem_range, Bool.not_eq_true', ← Bool.not_eq_true, List.contains_iff_mem, List.mem_map]
  refine and_congr_right fun _ => ⟨fun h b hb e => h ⟨b, hb, ?_⟩, fun h ⟨b, hb, e⟩ => h b hb ?_⟩
  · unfold top
    rw [if_neg (r.rd.nz b hb), e]
  · unfold top at e
    rw [if_neg (r.rd.nz b hb)] at e
    exact pow2_inj e
def vecs (B : List Nat) (w : Nat) : List Nat := (freeJ B w).map (vec B)
theorem vec_free {B : List Nat} (r : RR B) {i j : Nat} (hi : Free B i) (h : i ≠ j) : (vec B j).testBit i = false := by
  cases e : (vec B j).testBit i with
  | false => rfl
  | true =>
    rcases (vec_bit r j i).mp e with q | ⟨b, hb, _, q⟩
    · exact absurd q h
    · exact absurd q (hi b hb)
theorem clear {B : List Nat} (r : RR B) (x : Nat) : ∀ {js : List Nat}, js.Nodup → (∀ j ∈ js, Free B j) → ∃ z, inS (js.map (vec B)) z ∧ ∀ j ∈ js, (x ^^^ z).testBit j = false
  | [], _, _ => ⟨0, rfl, fun _ h => (List.not_mem_nil h).elim⟩
  | j :: js, hn, hf => by
    obtain ⟨n1, n2⟩ := List.nodup_cons.mp hn
    obtain ⟨z, hz, hc⟩ := clear r x n2 fun i hi => hf i (List.mem_cons_of_mem _ hi)
    have fj := hf j List.mem_cons_self
    by_cases q : (x ^^^ z).testBit j = true
    · refine ⟨z ^^^ vec B j, .inr (by rwa [xx]), fun i hi => ?_⟩
      rw [← Nat.xor_assoc, Nat.testBit_xor]
      rcases List.mem_cons.mp hi with rfl | hi
      · rw [q, (vec_bit r i i).mpr (.inl rfl)]; rfl
      · have ne : i ≠ j := fun e => n1 (e ▸ hi)
        rw [hc i hi, vec_free r (hf i (List.mem_cons_of_mem _ hi)) ne]; rfl
    · refine ⟨z, .inl hz, fun i hi => ?_⟩
      rcases List.mem_cons.mp hi with rfl | hi
      · exact (Bool.not_eq_true _).mp q
      · exact hc i hi
theorem free_nodup (B : List Nat) (w : Nat) : (freeJ B w).Nodup := List.Pairwise.filter _ List.nodup_range
theorem vecs_S {w : Nat} {B : List Nat} (r : RR B) (hB : ∀ b ∈ B, b < 2 ^ w) {x : Nat} : inS (vecs B w) x ↔ Perp w B x := by
  have mem : ∀ v ∈ vecs B w, Perp w B v := fun v hv => by
    obtain ⟨j, hj, rfl⟩ := List.mem_map.mp hv
    obtain ⟨h1, h2⟩ := (mem_free r).mp hj
    exact vec_perp r hB h1 h2
  constructor
  · intro h
    exact ⟨S_lt (fun v hv => (mem v hv).1) h, fun b hb => dot_S (fun v hv => (mem v hv).2 b hb) h⟩
  · intro h
    obtain ⟨z, hz, hc⟩ := clear r x (free_nodup B w) fun j hj => ((mem_free r).mp hj).2
    have hzP : Perp w B z := ⟨S_lt (fun v hv => (mem v hv).1) hz, fun b hb => dot_S (fun v hv => (mem v hv).2 b hb) hz⟩
    have y0 : x ^^^ z = 0 := by
      refine Nat.eq_of_testBit_eq fun i => ?_
      rw [Nat.zero_testBit]
      have ylt : x ^^^ z < 2 ^ w := Nat.xor_lt_two_pow h.1 hzP.1
      by_cases hi : i < w
      · by_cases fi : Free B i
        · exact hc i ((mem_free r).mpr ⟨hi, fi⟩)
        · obtain ⟨b, hb, e⟩ : ∃ b ∈ B, lg b = i := by
            refine Classical.byContradiction fun q => fi fun b hb e => q ⟨b, hb, e⟩
          -- y and b share at most the top of b
          have d : dotN (x ^^^ z) b w = false := by rw [dot_xor, h.2 b hb, hzP.2 b hb]; rfl
          have lb : lg b < w := by rw [e]; exact hi
          rw [dot_one (k := lg b) lb fun k hk hne => ?_] at d
          · rw [Nat.testBit_log2 (r.rd.nz b hb), Bool.and_true, e] at d
            exact d
          · by_cases fk : Free B k
            · rw [hc k ((mem_free r).mpr ⟨hk, fk⟩)]; rfl
            · obtain ⟨c, hcB, ec⟩ : ∃ c ∈ B, lg c = k := Classical.byContradiction fun q => fk fun c hc e => q ⟨c, hc, e⟩
              cases e5 : b.testBit k with
              | false => rw [Bool.and_false]
              | true =>
                rw [← ec] at e5
                have := r.rd.uniq hb hcB e5
                subst this
                exact absurd ec.symm hne
      · exact Nat.testBit_lt_two_pow (Nat.lt_of_lt_of_le ylt (Nat.pow_le_pow_right (by omega) (by omega)))
    have : x = z := by
      have h := congrArg (· ^^^ z) y0
      simpa [xx] using h
    rw [this]
    exact hz
theorem vecs_dim {w : Nat} {B : List Nat} (r : RR B) : ∀ {js : List Nat}, js.Nodup → (∀ j ∈ js, Free B j) → dim (js.map (vec B)) = js.length
  | [], _, _ => rfl
  | j :: js, hn, hf => by
    obtain ⟨n1, n2⟩ := List.nodup_cons.mp hn
    rw [List.map_cons, dim_out fun q => ?_, vecs_dim (w := w) r n2 fun i hi => hf i (List.mem_cons_of_mem _ hi), List.length_cons]
    have := S_bit (i := j) (fun v hv => by
      obtain ⟨i, hi, rfl⟩ := List.mem_map.mp hv
      exact vec_free r (hf j List.mem_cons_self) fun e => n1 (e ▸ hi)) q
    rw [(vec_bit r j j).mpr (.inl rfl)] at this
    cases this
theorem len_filter {α : Type} (p : α → Bool) (l : List α) : (l.filter p).length + (l.filter fun x => !p x).length = l.length := by
  induction l with
  | nil => rfl
  | cons x l ih =>
    rw [List.filter_cons, List.filter_cons]
    cases p x
    · simp only [Bool.not_false, if_true, if_false, List.length_cons, Bool.false_eq_true]
      omega
    · simp only [Bool.not_true, if_true, if_false, List.length_cons, Bool.false_eq_true]
      omega
theorem free_len {w : Nat} {B : List Nat} (r : RR B) (hB : ∀ b ∈ B, b < 2 ^ w) : (freeJ B w).length + B.length = w := by
  have h := len_filter (fun j => !(B.map top).contains (2 ^ j)) (List.range w)
  rw [List.length_range] at h
  have e : ((List.range w).filter fun j => !!(B.map top).contains (2 ^ j)).length = B.length := by
    have p : ((List.range w).filter fun j => !!(B.map top).contains (2 ^ j)).Perm (B.map lg) := by
      refine (List.perm_ext_iff_of_nodup (List.Pairwise.filter _ List.nodup_range) ?_).mpr fun j => ?_
      · refine List.nodup_iff_pairwise_ne.mpr (List.pairwise_map.mpr (List.Pairwise.imp_of_mem (fun {a b} ha hb h e => ?_) r.rd.ap))
        have := h.1
        rw [show lg b = lg a from e.symm, Nat.testBit_log2 (r.rd.nz a ha)] at this
        cases this
      · rw [List.mem_filter, List.mem_range, Bool.not_not, List.contains_iff_mem, List.mem_map, List.mem_map]
        constructor
        · rintro ⟨_, b, hb, e⟩
          refine ⟨b, hb, ?_⟩
          unfold top at e
          rw [if_neg (r.rd.nz b hb)] at e
          exact pow2_inj e
        · rintro ⟨b, hb, e⟩
          subst e
          refine ⟨(lg_lt (r.rd.nz b hb)).mpr (hB b hb), b, hb, ?_⟩
          unfold top
          rw [if_neg (r.rd.nz b hb)]
    rw [p.length_eq, List.length_map]
  unfold freeJ
  omega
/-- what the program tells as across -/
def acr (w : Nat) (rows : List Nat) : List Nat := basis (vecs (basis rows) w)
theorem acr_S {w : Nat} {rows : List Nat} (h : ∀ r ∈ rows, r < 2 ^ w) {x : Nat} : inS (acr w rows) x ↔ Perp w rows x :=
  (basis_S _ x).trans ((vecs_S (basis_rr rows) (basis_lt h)).trans (Perp.eqv (basis_S rows)))
theorem acr_lt {w : Nat} {rows : List Nat} (h : ∀ r ∈ rows, r < 2 ^ w) : ∀ r ∈ acr w rows, r < 2 ^ w := fun _ hr => ((acr_S h).mp (S_mem hr)).1
theorem acr_dim {w : Nat} {rows : List Nat} (h : ∀ r ∈ rows, r < 2 ^ w) : dim (acr w rows) + dim rows = w := by
  have e : dim (acr w rows) = dim (vecs (basis rows) w) := dim_eq (basis_S _)
  rw [e]
  unfold vecs
  rw [vecs_dim (w := w) (basis_rr rows) (free_nodup _ _) fun j hj => ((mem_free (basis_rr rows)).mp hj).2]
  exact free_len (basis_rr rows) (basis_lt h)
theorem acr_rr (w : Nat) (rows : List Nat) : RR (acr w rows) := basis_rr _
theorem acr_acr {w : Nat} {rows : List Nat} (h : ∀ r ∈ rows, r < 2 ^ w) : Eqv (acr w (acr w rows)) rows := by
  refine (eqv_of_dim (A := rows) (B := acr w (acr w rows)) (fun r hr => (acr_S (acr_lt h)).mpr ⟨h r hr, fun b hb => ?_⟩) ?_).symm
  · rw [dot_comm]
    exact ((acr_S h).mp (S_mem hb)).2 r hr
  · have h1 := acr_dim h
    have h2 := acr_dim (acr_lt h)
    omega
theorem acr_eq {w : Nat} {A B : List Nat} (hA : ∀ r ∈ A, r < 2 ^ w) (hB : ∀ r ∈ B, r < 2 ^ w) (e : Eqv A B) : acr w A = acr w B :=
  (acr_rr w A).ext (acr_rr w B) fun _ => (acr_S hA).trans ((Perp.eqv e).trans (acr_S hB).symm)
/-- in both -/
def both (w : Nat) (A B : List Nat) : List Nat := acr w (acr w A ++ acr w B)
theorem app_lt {w : Nat} {A B : List Nat} (hA : ∀ r ∈ A, r < 2 ^ w) (hB : ∀ r ∈ B, r < 2 ^ w) : ∀ r ∈ A ++ B, r < 2 ^ w := fun r hr => (List.mem_append.mp hr).elim (hA r) (hB r)
theorem perp_app {w : Nat} {A B : List Nat} {x : Nat} : Perp w (A ++ B) x ↔ Perp w A x ∧ Perp w B x :=
  ⟨fun h => ⟨⟨h.1, fun b hb => h.2 b (List.mem_append_left _ hb)⟩, ⟨h.1, fun b hb => h.2 b (List.mem_append_right _ hb)⟩⟩, fun h => ⟨h.1.1, fun b hb => (List.mem_append.mp hb).elim (h.1.2 b) (h.2.2 b)⟩⟩
theorem both_S {w : Nat} {A B : List Nat} (hA : ∀ r ∈ A, r < 2 ^ w) (hB : ∀ r ∈ B, r < 2 ^ w) {x : Nat} : inS (both w A B) x ↔ inS A x ∧ inS B x := by
  unfold both
  rw [acr_S (app_lt (acr_lt hA) (acr_lt hB)), perp_app, ← acr_S (acr_lt hA), ← acr_S (acr_lt hB), acr_acr hA x, acr_acr hB x]
theorem both_rr (w : Nat) (A B : List Nat) : RR (both w A B) := acr_rr _ _
theorem both_lt {w : Nat} {A B : List Nat} (hA : ∀ r ∈ A, r < 2 ^ w) (hB : ∀ r ∈ B, r < 2 ^ w) : ∀ r ∈ both w A B, r < 2 ^ w := acr_lt (app_lt (acr_lt hA) (acr_lt hB))
theorem basis_len {w : Nat} {rows : List Nat} (h : ∀ r ∈ rows, r < 2 ^ w) : (basis rows).length ≤ w := by
  have := acr_dim h
  unfold dim at this
  omega
/-! all sums, as a list -/
def lspF (f : List Nat) (r : Nat) : List Nat := if f.contains r then f else f ++ f.map fun o => o ^^^ r
def lsp (rows : List Nat) : List Nat := nsort (rows.foldl lspF [0])
theorem xor_inj {x y r : Nat} (h : x ^^^ r = y ^^^ r) : x = y := by
  have := congrArg (· ^^^ r) h
  simpa [xx] using this
theorem lspF_ok {f done : List Nat} {r : Nat} (hn : f.Nodup) (hm : ∀ x, x ∈ f ↔ inS done x) : (lspF f r).Nodup ∧ (∀ x, x ∈ lspF f r ↔ inS (r :: done) x) ∧ (lspF f r).length ≤ 2 * f.length := by
  unfold lspF
  by_cases z : r ∈ f
  · rw [if_pos (List.contains_iff_mem.mpr z)]
    refine ⟨hn, fun x => ?_, by omega⟩
    rw [hm x]
    refine ⟨.inl, fun h => ?_⟩
    rcases h with h | h
    · exact h
    · have := S_xor h ((hm r).mp z)
      rwa [xx] at this
  · rw [if_neg fun q => z (List.contains_iff_mem.mp q)]
    refine ⟨List.nodup_append.mpr ⟨hn, ?_, fun a ha b hb e => ?_⟩, fun x => ?_, ?_⟩
    · exact List.nodup_iff_pairwise_ne.mpr (List.pairwise_map.mpr ((List.nodup_iff_pairwise_ne.mp hn).imp fun h e => h (xor_inj e)))
    · obtain ⟨c, hc, rfl⟩ := List.mem_map.mp hb
      refine z ((hm r).mpr ?_)
      have := S_xor ((hm a).mp ha) ((hm c).mp hc)
      rw [e, Nat.xor_comm c r, xx] at this
      exact this
    · rw [List.mem_append, hm x]
      refine or_congr_right ⟨fun h => ?_, fun h => ?_⟩
      · obtain ⟨c, hc, rfl⟩ := List.mem_map.mp h
        show inS done (c ^^^ r ^^^ r)
        rw [xx]
        exact (hm c).mp hc
      · exact List.mem_map.mpr ⟨x ^^^ r, (hm _).mpr h, xx x r⟩
    · rw [List.length_append, List.length_map]
      omega
theorem lsp_fold : ∀ (rows : List Nat) {f done : List Nat}, f.Nodup → (∀ x, x ∈ f ↔ inS done x) →
    (rows.foldl lspF f).Nodup ∧ (∀ x, x ∈ rows.foldl lspF f ↔ inS (rows ++ done) x) ∧ (rows.foldl lspF f).length ≤ 2 ^ rows.length * f.length
  | [], f, done, hn, hm => ⟨hn, hm, by show f.length ≤ 2 ^ 0 * f.length; omega⟩
  | r :: rows, f, done, hn, hm => by
    obtain ⟨n1, m1, l1⟩ := lspF_ok (r := r) hn hm
    obtain ⟨n2, m2, l2⟩ := lsp_fold rows n1 m1
    refine ⟨n2, fun x => (m2 x).trans (Eqv.perm ?_ x), Nat.le_trans l2 ?_⟩
    · exact List.perm_middle
    · rw [List.length_cons, Nat.pow_succ, Nat.mul_assoc]
      exact Nat.mul_le_mul_left _ l1
theorem lsp_nodup (rows : List Nat) : (rows.foldl lspF [0]).Nodup := (lsp_fold rows (List.nodup_cons.mpr ⟨List.not_mem_nil, List.nodup_nil⟩) (done := []) fun x => List.mem_singleton).1
theorem lsp_lt (rows : List Nat) : (lsp rows).Pairwise (· < ·) := nsort_lt (lsp_nodup rows)
theorem lsp_mem {rows : List Nat} {x : Nat} : x ∈ lsp rows ↔ inS rows x := by
  unfold lsp
  rw [nsort_mem, (lsp_fold rows (List.nodup_cons.mpr ⟨List.not_mem_nil, List.nodup_nil⟩) (done := []) fun x => List.mem_singleton).2.1 x, List.append_nil]
/-! bits in another order -/
def trn (order : List Nat) (x : Nat) : Nat := (((List.range order.length).filter fun k => x.testBit k).map fun k => 2 ^ order.getD k 0).sum
theorem getD_of {l : List Nat} {k : Nat} (h : k < l.length) : l.getD k 0 = l[k] := by
  rw [List.getD_eq_getElem?_getD, List.getElem?_eq_getElem h]
  rfl
theorem trn_bit {order : List Nat} (hn : order.Nodup) (x i : Nat) : (trn order x).testBit i = true ↔ ∃ k, k < order.length ∧ x.testBit k = true ∧ order.getD k 0 = i := by
  unfold trn
  have e : ((List.range order.length).filter fun k => x.testBit k).map (fun k => 2 ^ order.getD k 0) = (((List.range order.length).filter fun k => x.testBit k).map fun k => order.getD k 0).map (2 ^ ·) := by
    rw [List.map_map]; rfl
  have nd : (((List.range order.length).filter fun k => x.testBit k).map fun k => order.getD k 0).Nodup := by
    refine List.nodup_iff_pairwise_ne.mpr (List.pairwise_map.mpr (List.Pairwise.imp_of_mem (fun {a b} ha hb h e => ?_) (List.nodup_iff_pairwise_ne.mp (List.Pairwise.filter _ List.nodup_range))))
    have la := List.mem_range.mp (List.mem_filter.mp ha).1
    have lb := List.mem_range.mp (List.mem_filter.mp hb).1
    rw [getD_of la, getD_of lb] at e
    exact h ((List.getElem_inj hn).mp e)
  rw [e, DL.sum_pows nd, decide_eq_true_iff, List.mem_map]
  constructor
  · rintro ⟨k, hk, h⟩
    obtain ⟨h1, h2⟩ := List.mem_filter.mp hk
    exact ⟨k, List.mem_range.mp h1, h2, h⟩
  · rintro ⟨k, hk, h2, h⟩
    exact ⟨k, List.mem_filter.mpr ⟨List.mem_range.mpr hk, h2⟩, h⟩
theorem trn_lt {order : List Nat} (hn : order.Nodup) {w : Nat} (h : ∀ o ∈ order, o < w) (x : Nat) : trn order x < 2 ^ w := by
  refine Nat.lt_pow_two_of_testBit _ fun i hi => ?_
  cases e : (trn order x).testBit i with
  | false => rfl
  | true =>
    obtain ⟨k, hk, _, e2⟩ := (trn_bit hn x i).mp e
    rw [getD_of hk] at e2
    have := h _ (List.getElem_mem hk)
    omega
theorem trn_xor {order : List Nat} (hn : order.Nodup) (x y : Nat) : trn order (x ^^^ y) = trn order x ^^^ trn order y := by
  refine Nat.eq_of_testBit_eq fun i => ?_
  rw [Nat.testBit_xor]
  -- at most one place k gives i
  by_cases h : ∃ k, k < order.length ∧ order.getD k 0 = i
  · obtain ⟨k, hk, e⟩ := h
    have key : ∀ z, (trn order z).testBit i = z.testBit k := fun z => by
      rw [Bool.eq_iff_iff, trn_bit hn]
      constructor
      · rintro ⟨j, hj, h1, h2⟩
        have : j = k := by
          rw [← h2, getD_of hk, getD_of hj] at e
          exact ((List.getElem_inj hn).mp e).symm
        rwa [← this]
      · intro h
        exact ⟨k, hk, h, e⟩
    rw [key, key, key, Nat.testBit_xor]
  · have key : ∀ z, (trn order z).testBit i = false := fun z => by
      cases e : (trn order z).testBit i with
      | false => rfl
      | true =>
        obtain ⟨k, hk, _, e2⟩ := (trn_bit hn z i).mp e
        exact absurd ⟨k, hk, e2⟩ h
    rw [key, key, key]; rfl
theorem trn_zero {order : List Nat} (hn : order.Nodup) : trn order 0 = 0 := by
  have := trn_xor hn 0 0
  rw [Nat.xor_self, Nat.xor_self] at this
  exact this
theorem trn_inj {order : List Nat} (hn : order.Nodup) {x y : Nat} (hx : x < 2 ^ order.length) (hy : y < 2 ^ order.length) (h : trn order x = trn order y) : x = y := by
  refine Nat.eq_of_testBit_eq fun k => ?_
  by_cases hk : k < order.length
  · have key : ∀ z, (trn order z).testBit (order.getD k 0) = z.testBit k := fun z => by
      rw [Bool.eq_iff_iff, trn_bit hn]
      constructor
      · rintro ⟨j, hj, h1, h2⟩
        have : j = k := by
          rw [getD_of hk, getD_of hj] at h2
          exact (List.getElem_inj hn).mp h2
        rwa [← this]
      · intro h
        exact ⟨k, hk, h, rfl⟩
    rw [← key, ← key, h]
  · have hp : ∀ z, z < 2 ^ order.length → z.testBit k = false := fun z hz => Nat.testBit_lt_two_pow (Nat.lt_of_lt_of_le hz (Nat.pow_le_pow_right (by omega) (by omega)))
    rw [hp x hx, hp y hy]
/-- the span of the turned rows -/
theorem trn_S {order : List Nat} (hn : order.Nodup) : ∀ {B : List Nat} {x : Nat}, inS (B.map (trn order)) x ↔ ∃ y, inS B y ∧ trn order y = x
  | [], x => ⟨fun h => ⟨0, rfl, by
      have h : x = 0 := h
      rw [trn_zero hn, h]⟩, fun ⟨y, hy, e⟩ => by
      have hy : y = 0 := hy
      subst hy
      rw [trn_zero hn] at e
      exact e.symm⟩
  | b :: B, x => by
    constructor
    · intro h
      rcases h with h | h
      · obtain ⟨y, hy, e⟩ := (trn_S hn).mp h
        exact ⟨y, .inl hy, e⟩
      · obtain ⟨y, hy, e⟩ := (trn_S hn).mp h
        refine ⟨y ^^^ b, .inr (by rwa [xx]), ?_⟩
        rw [trn_xor hn, e, xx]
    · rintro ⟨y, hy, e⟩
      rcases hy with hy | hy
      · exact .inl ((trn_S hn).mpr ⟨y, hy, e⟩)
      · refine .inr ((trn_S hn).mpr ⟨y ^^^ b, hy, ?_⟩)
        rw [trn_xor hn, e]
theorem turned_lsp {order : List Nat} (hn : order.Nodup) {first one : List Nat} (h : ∀ r ∈ first, r < 2 ^ order.length) (e : Eqv one first) : lsp (basis (first.map (trn order))) = nsort ((lsp one).map (trn order)) := by
  have nd : ((lsp one).map (trn order)).Nodup := by
    refine List.nodup_iff_pairwise_ne.mpr (List.pairwise_map.mpr (List.Pairwise.imp_of_mem (fun {a b} ha hb h2 e2 => ?_) (lsp_lt one)))
    have la := S_lt h ((e a).mp (lsp_mem.mp ha))
    have lb := S_lt h ((e b).mp (lsp_mem.mp hb))
    have := trn_inj hn la lb e2
    omega
  refine lt_ext (lsp_lt _) (nsort_lt nd) fun x => ?_
  rw [lsp_mem, nsort_mem, basis_S _ x, trn_S hn, List.mem_map]
  exact ⟨fun ⟨y, hy, h⟩ => ⟨y, lsp_mem.mpr ((e y).mpr hy), h⟩, fun ⟨y, hy, h⟩ => ⟨y, (e y).mp (lsp_mem.mp hy), h⟩⟩
theorem both_lsp {I A B : List Nat} (h : ∀ x, inS I x ↔ inS A x ∧ inS B x) : lsp I = (lsp A).filter fun x => (lsp B).contains x := by
  refine lt_ext (lsp_lt _) (List.Pairwise.filter _ (lsp_lt _)) fun x => ?_
  rw [List.mem_filter, List.contains_iff_mem, lsp_mem, lsp_mem, lsp_mem, h x]
end Gf
namespace K95
open PySem PySem.Spec PyProof.Rows L2 DL
def topS (i : Nat) : Stmt := PySem.Challenge.pw_askcraft_k95_whole_spans_in_order.main.body.getD i (.Pass ⟨0, 0, 0, 0⟩)
structure Txt (p : Pg) : Prop where
  b_abs : p.mg "abs" = none
  b_all : p.mg "all" = none
  b_any : p.mg "any" = none
  b_int : p.mg "int" = none
  b_len : p.mg "len" = none
  b_list : p.mg "list" = none
  b_range : p.mg "range" = none
  b_sorted : p.mg "sorted" = none
  b_sum : p.mg "sum" = none
  b_tuple : p.mg "tuple" = none
  b_zip : p.mg "zip" = none
  c_MAX_SHOWN_ROWS : ∃ t, p.mg "MAX_SHOWN_ROWS" = some (.int 60 t)
  c_MAX_WIDTH : ∃ t, p.mg "MAX_WIDTH" = some (.int 16 t)
abbrev s_check_width : Stmt := topS 6
theorem sc_check_width : FnScope ["width"] ["width"] (defScope s_check_width) := ⟨rfl, rfl, rfl, by decide +kernel, rfl, by decide +kernel, by decide +kernel⟩
def b_check_width : List D → M (Out Unit Unit) := p1 (fun a1 => (((chainM (pure (D.int 1) : M D) (pure (a1) : M D) leB (pure (D.int 16) : M D) leB) >>= fun b2 => (pure (!b2) : M Bool)) >>= fun b4 => (if b4 = true then (stuck : M (Out (Unit) _)) else (pure (.nx ()))) >>= seqO fun s3 => (pure (.nx ()))))
def m_check_width (ds : List D) : M D := runF (b_check_width ds)
theorem o_check_width {p : Pg} (T : Txt p) {f : Addr} {fd : FuncData} (F : Fun p.K "check_width" "check_width" s_check_width f fd)  : FnOk p.P p.w p.K p.mg p.base (L2.CX p.P p.w) 1 f fd ["width"] (spD p [.v] m_check_width) :=
  fnok_of (k := 0) (N := ["width"]) (body := b_check_width) (shN := fun _ => [.un]) (shB := fun _ => []) F sc_check_width rfl (q1 (P := fun ds m => SB _ (argE _ ds ++ _) _ m _ _) (fun a1 => (show SB _ [.sh (a1)] _ _ _ _ from (sb_if (J := Unit) (shJ := fun s3 => [.sh (a1)]) (et_not (et_chain c_le c_le (el_of ee_int) (el_of (ev 0)) (el_of (eg T.c_MAX_WIDTH)))) sb_never (sb_nil (.eq Le.nil)) fun s3 => (show SB _ [.sh (a1)] _ _ _ _ from (sb_nil (.un Le.nil)))))))
abbrev s_check_rows : Stmt := topS 7
theorem sc_check_rows : FnScope ["width", "rows", "row"] ["width", "rows"] (defScope s_check_rows) := ⟨rfl, rfl, rfl, by decide +kernel, rfl, by decide +kernel, by decide +kernel⟩
def b_check_rows : List D → M (Out Unit Unit) := p2 (fun a5 a6 => ((((pure (a5) : M D) >>= fun x7 => (pure [] : M (List D)) >>= fun xs8 => pure (x7 :: xs8)) >>= m_check_width) >>= fun u21 => (((((pure (a6) : M D) >>= lenD) >>= fun x9 => (pure (D.int 60) : M D) >>= fun x10 => gtB x9 x10) >>= fun b18 => if b18 = true then (pure true : M Bool) else ((((lcM ((pure (a6) : M D) >>= items) nm (p1 (fun v11 => (pure true : M Bool))) (p1 (fun v11 => ((chainM (pure (D.int 0) : M D) (pure (v11) : M D) leB ((pure (D.int 1) : M D) >>= fun x12 => (pure (a5) : M D) >>= fun x13 => shlD x12 x13) ltB) >>= fun b14 => (pure (D.bl b14) : M D))))) >>= allD) >>= truth) >>= fun b17 => (pure (!b17) : M Bool))) >>= fun b20 => (if b20 = true then (stuck : M (Out (Unit) _)) else (pure (.nx ()))) >>= seqO fun s19 => (pure (.nx ())))))
def m_check_rows (ds : List D) : M D := runF (b_check_rows ds)
theorem o_check_rows {p : Pg} (T : Txt p) {f : Addr} {fd : FuncData} (F : Fun p.K "check_rows" "check_rows" s_check_rows f fd) (h_check_width : Fnc p 1 "check_width" [.v] m_check_width) : FnOk p.P p.w p.K p.mg p.base (L2.CX p.P p.w) 2 f fd ["width", "rows"] (spD p [.v, .v] m_check_rows) :=
  fnok_of (k := 1) (N := ["width", "rows", "row"]) (body := b_check_rows) (shN := fun _ => [.un, .un, .un]) (shB := fun _ => []) F sc_check_rows rfl (q2 (P := fun ds m => SB _ (argE _ ds ++ _) _ m _ _) (fun a5 a6 => (show SB _ [.sh (a5), .sh (a6), .un] _ _ _ _ from (s_expr (el_of (xcall h_check_width (av (ev 0) eak_nil))) (show SB _ [.sh (a5), .sh (a6), .un] _ _ _ _ from (sb_if (J := Unit) (shJ := fun s19 => [.sh (a5), .sh (a6), .un]) (et_w (ew_or (tcmp c_gt (el_of (ee_len (b_len T.b_len) (el_of (ev 1)))) (el_of (eg T.c_MAX_SHOWN_ROWS))) (ew_or1 (et_not (ttr (el_of (ee_all (b_all T.b_all) (el_new (en_comp (c_lc sc_check_rows.nd [("row", 2)] (ei_read (el_of (ev 1))) (tn 2 sc_check_rows.nd) nm_pure nm_len (q1 (P := fun ds m => ETs (Sta.blk _ _) (setE (wipeE _ _) _ ds) _ m) (fun v11 => (show ETs _ [.sh (a5), .sh (a6), .sh (v11)] _ _ from ets_nil))) (q1 (P := fun ds m => EE (Sta.blk _ _) (setE (wipeE _ _) _ ds) _ m) (fun v11 => (show EE _ [.sh (a5), .sh (a6), .sh (v11)] _ _ from (ee_chain c_le c_lt (el_of ee_int) (el_of (ev 2)) (el_of (ee_shl (el_of ee_int) (el_of (ev 0)))))))))))))))))) sb_never (sb_nil (.eq (.eq (.un Le.nil)))) fun s19 => (show SB _ [.sh (a5), .sh (a6), .un] _ _ _ _ from (sb_nil (.un (.un (.un Le.nil)))))))))))
abbrev s_top_of : Stmt := topS 8
theorem sc_top_of : FnScope ["row", "top"] ["row"] (defScope s_top_of) := ⟨rfl, rfl, rfl, by decide +kernel, rfl, by decide +kernel, by decide +kernel⟩
def b_top_of : List D → M (Out Unit Unit) := p1 (fun a22 => ((pure (D.int 1) : M D) >>= fun z23 => (whileL (fun (s24 : D) => (((pure (s24) : M D) >>= fun x25 => (pure (D.int 1) : M D) >>= fun x26 => shlD x25 x26) >>= fun x27 => (pure (a22) : M D) >>= fun x28 => leB x27 x28)) (fun s24 => (((pure (s24) : M D) >>= fun x30 => (pure (D.int 1) : M D) >>= fun x31 => shlD x30 x31) >>= fun z29 => (pure (.nx (z29))))) 1000 (z23) >>= seqO fun s24 => ((((pure (a22) : M D) >>= fun x32 => (pure (D.int 0) : M D) >>= fun x33 => gtB x32 x33) >>= fun b34 => if b34 = true then (pure (s24) : M D) else (pure (D.int 0) : M D)) >>= fun x35 => pure (.rt x35)))))
def m_top_of (ds : List D) : M D := runF (b_top_of ds)
theorem o_top_of {p : Pg} (T : Txt p) {f : Addr} {fd : FuncData} (F : Fun p.K "top_of" "top_of" s_top_of f fd)  : FnOk p.P p.w p.K p.mg p.base (L2.CX p.P p.w) 1 f fd ["row"] (spD p [.v] m_top_of) :=
  fnok_of (k := 0) (N := ["row", "top"]) (body := b_top_of) (shN := fun _ => [.un, .un]) (shB := fun _ => []) F sc_top_of rfl (q1 (P := fun ds m => SB _ (argE _ ds ++ _) _ m _ _) (fun a22 => (show SB _ [.sh (a22), .un] _ _ _ _ from (s_set 1 sc_top_of.nd ee_int (fun z23 => (show SB _ [.sh (a22), .sh (z23)] _ _ _ _ from (sb_while (Z := D) (sh := fun s24 => [.sh (a22), .sh (s24)]) (fun s24 => (show ET _ [.sh (a22), .sh (s24)] _ _ from (tcmp c_le (el_of (ee_shl (el_of (ev 1)) (el_of ee_int))) (el_of (ev 0))))) (.eq (.eq Le.nil)) (fun s24 => (show SB _ [.sh (a22), .sh (s24)] _ _ _ _ from (s_set 1 sc_top_of.nd (ee_shl (el_of (ev 1)) (el_of ee_int)) (fun z29 => (show SB _ [.sh (a22), .sh (z29)] _ _ _ _ from (sb_nil (.eq (.eq Le.nil)))))))) fun s24 => (show SB _ [.sh (a22), .sh (s24)] _ _ _ _ from (sb_ret (ex_if back_RE (tcmp c_gt (el_of (ev 0)) (el_of ee_int)) (ev 1) ee_int))))))))))
abbrev s_left_over : Stmt := topS 9
theorem sc_left_over : FnScope ["basis", "row", "one"] ["basis", "row"] (defScope s_left_over) := ⟨rfl, rfl, rfl, by decide +kernel, rfl, by decide +kernel, by decide +kernel⟩
def b_left_over : List D → M (Out Unit Unit) := p2 (fun a36 a37 => (((pure (a36) : M D) >>= items) >>= fun xs52 => forL (fun (s38 : D) x53 => nm x53 >>= p1 (fun v39 => ((((pure (s38) : M D) >>= fun x42 => (((pure (v39) : M D) >>= fun x40 => (pure [] : M (List D)) >>= fun xs41 => pure (x40 :: xs41)) >>= m_top_of) >>= fun x43 => andD x42 x43) >>= fun x44 => (pure (D.int 0) : M D) >>= fun x45 => neB x44 x45) >>= fun b50 => (if b50 = true then ((((pure (s38) : M D) >>= fun x48 => (pure (v39) : M D) >>= fun x49 => xorD x48 x49) >>= fun z47 => (pure (.nx (z47)))) : M (Out (D) _)) else (pure (.nx (s38)))) >>= seqO fun s46 => (pure (.nx (s46)))))) (a37) xs52 >>= seqO fun s38 => ((pure (s38) : M D) >>= fun x51 => pure (.rt x51))))
def m_left_over (ds : List D) : M D := runF (b_left_over ds)
theorem o_left_over {p : Pg} (T : Txt p) {f : Addr} {fd : FuncData} (F : Fun p.K "left_over" "left_over" s_left_over f fd) (h_top_of : Fnc p 1 "top_of" [.v] m_top_of) : FnOk p.P p.w p.K p.mg p.base (L2.CX p.P p.w) 2 f fd ["basis", "row"] (spD p [.v, .v] m_left_over) :=
  fnok_of (k := 1) (N := ["basis", "row", "one"]) (body := b_left_over) (shN := fun _ => [.un, .un, .un]) (shB := fun _ => []) F sc_left_over rfl (q2 (P := fun ds m => SB _ (argE _ ds ++ _) _ m _ _) (fun a36 a37 => (show SB _ [.sh (a36), .sh (a37), .un] _ _ _ _ from (s_for (Z := D) (sh := fun s38 => [.sh (a36), .sh (s38), .un]) (ei_seq (ev 0)) (tn 2 sc_left_over.nd) nm_pure nm_len (.eq (.eq (.un Le.nil))) (fun s38 => q1 (P := fun ds m => SB _ (setE _ _ ds) _ m _ _) (fun v39 => (show SB _ [.sh (a36), .sh (s38), .sh (v39)] _ _ _ _ from (sb_if (J := D) (shJ := fun s46 => [.sh (a36), .sh (s46), .sh (v39)]) (tcmp c_ne (el_of (ee_and (el_of (ev 1)) (el_of (xcall h_top_of (av (ev 2) eak_nil))))) (el_of ee_int)) (s_set 1 sc_left_over.nd (ee_xor (el_of (ev 1)) (el_of (ev 2))) (fun z47 => (show SB _ [.sh (a36), .sh (z47), .sh (v39)] _ _ _ _ from (sb_nil (.eq (.eq (.eq Le.nil))))))) (sb_nil (.eq (.eq (.eq Le.nil)))) fun s46 => (show SB _ [.sh (a36), .sh (s46), .sh (v39)] _ _ _ _ from (sb_nil (.eq (.eq (.un Le.nil))))))))) fun s38 => (show SB _ [.sh (a36), .sh (s38), .un] _ _ _ _ from (sb_ret (ev 1)))))))
abbrev s_basis_of : Stmt := topS 10
theorem sc_basis_of : FnScope ["rows", "found", "row", "rest", "one"] ["rows"] (defScope s_basis_of) := ⟨rfl, rfl, rfl, by decide +kernel, rfl, by decide +kernel, by decide +kernel⟩
def b_basis_of : List D → M (Out Unit Unit) := p1 (fun a54 => (((pure [] : M (List D)) >>= mkL) >>= fun z55 => (((pure (a54) : M D) >>= items) >>= fun xs86 => forL (fun (s56 : D) x87 => nm x87 >>= p1 (fun v57 => ((((pure (s56) : M D) >>= fun x61 => ((pure (v57) : M D) >>= fun x59 => (pure [] : M (List D)) >>= fun xs60 => pure (x59 :: xs60)) >>= fun xs62 => pure (x61 :: xs62)) >>= m_left_over) >>= fun z58 => (((pure (z58) : M D) >>= fun x63 => (pure (D.int 0) : M D) >>= fun x64 => neB x63 x64) >>= fun b84 => (if b84 = true then (((lcM ((pure (s56) : M D) >>= items) nm (p1 (fun v67 => (pure true : M Bool))) (p1 (fun v67 => ((((pure (v67) : M D) >>= fun x70 => (((pure (z58) : M D) >>= fun x68 => (pure [] : M (List D)) >>= fun xs69 => pure (x68 :: xs69)) >>= m_top_of) >>= fun x71 => andD x70 x71) >>= fun x72 => (pure (D.int 0) : M D) >>= fun x73 => neB x72 x73) >>= fun b76 => if b76 = true then ((pure (v67) : M D) >>= fun x74 => (pure (z58) : M D) >>= fun x75 => xorD x74 x75) else (pure (v67) : M D))))) >>= fun z66 => (((((pure (z66) : M D) >>= fun x81 => items x81 >>= fun xs82 => ((pure (z58) : M D) >>= fun x78 => (pure [] : M (List D)) >>= fun xs79 => pure (x78 :: xs79)) >>= fun ys83 => pure (xs82 ++ ys83)) >>= mkL) >>= sortedRevD) >>= fun z77 => (pure (.nx (z77))))) : M (Out (D) _)) else (pure (.nx (s56)))) >>= seqO fun s65 => (pure (.nx (s65))))))) (z55) xs86 >>= seqO fun s56 => (((pure (s56) : M D) >>= tupleD) >>= fun x85 => pure (.rt x85)))))
def m_basis_of (ds : List D) : M D := runF (b_basis_of ds)
theorem o_basis_of {p : Pg} (T : Txt p) {f : Addr} {fd : FuncData} (F : Fun p.K "basis_of" "basis_of" s_basis_of f fd) (h_left_over : Fnc p 2 "left_over" [.v, .v] m_left_over) (h_top_of : Fnc p 1 "top_of" [.v] m_top_of) : FnOk p.P p.w p.K p.mg p.base (L2.CX p.P p.w) 3 f fd ["rows"] (spD p [.v] m_basis_of) :=
  fnok_of (k := 2) (N := ["rows", "found", "row", "rest", "one"]) (body := b_basis_of) (shN := fun _ => [.un, .un, .un, .un, .un]) (shB := fun _ => []) F sc_basis_of rfl (q1 (P := fun ds m => SB _ (argE _ ds ++ _) _ m _ _) (fun a54 => (show SB _ [.sh (a54), .un, .un, .un, .un] _ _ _ _ from (s_set 1 sc_basis_of.nd (ee_new (en_lst ea_nil)) (fun z55 => (show SB _ [.sh (a54), .sh (z55), .un, .un, .un] _ _ _ _ from (s_for (Z := D) (sh := fun s56 => [.sh (a54), .sh (s56), .un, .un, .un]) (ei_seq (ev 0)) (tn 2 sc_basis_of.nd) nm_pure nm_len (.eq (.eq (.un (.un (.un Le.nil))))) (fun s56 => q1 (P := fun ds m => SB _ (setE _ _ ds) _ m _ _) (fun v57 => (show SB _ [.sh (a54), .sh (s56), .sh (v57), .un, .un] _ _ _ _ from (s_set 3 sc_basis_of.nd (xcall h_left_over (av (ev 1) (av (ev 2) eak_nil))) (fun z58 => (show SB _ [.sh (a54), .sh (s56), .sh (v57), .sh (z58), .un] _ _ _ _ from (sb_if (J := D) (shJ := fun s65 => [.sh (a54), .sh (s65), .sh (v57), .sh (z58), .un]) (tcmp c_ne (el_of (ev 3)) (el_of ee_int)) (s_setC 1 sc_basis_of.nd (c_lc sc_basis_of.nd [("one", 4)] (ei_read (el_of (ev 1))) (tn 4 sc_basis_of.nd) nm_pure nm_len (q1 (P := fun ds m => ETs (Sta.blk _ _) (setE (wipeE _ _) _ ds) _ m) (fun v67 => (show ETs _ [.sh (a54), .sh (s56), .sh (v57), .sh (z58), .sh (v67)] _ _ from ets_nil))) (q1 (P := fun ds m => EE (Sta.blk _ _) (setE (wipeE _ _) _ ds) _ m) (fun v67 => (show EE _ [.sh (a54), .sh (s56), .sh (v57), .sh (z58), .sh (v67)] _ _ from (ex_if back_RE (tcmp c_ne (el_of (ee_and (el_of (ev 4)) (el_of (xcall h_top_of (av (ev 3) eak_nil))))) (el_of ee_int)) (ee_xor (el_of (ev 4)) (el_of (ev 3))) (ev 4)))))) (fun z66 => (show SB _ [.sh (a54), .sh (z66), .sh (v57), .sh (z58), .un] _ _ _ _ from (s_set 1 sc_basis_of.nd (ee_new (en_sortedRev (b_sorted T.b_sorted) (el_new (en_lst (ea_star (el_of (ev 1)) (ea_cons (ev 3) ea_nil)))))) (fun z77 => (show SB _ [.sh (a54), .sh (z77), .sh (v57), .sh (z58), .un] _ _ _ _ from (sb_nil (.eq (.eq (.eq (.eq (.un Le.nil))))))))))) (hs := sw_lc rfl)) (sb_nil (.eq (.eq (.eq (.eq (.un Le.nil)))))) fun s65 => (show SB _ [.sh (a54), .sh (s65), .sh (v57), .sh (z58), .un] _ _ _ _ from (sb_nil (.eq (.eq (.un (.un (.un Le.nil)))))))))))))) fun s56 => (show SB _ [.sh (a54), .sh (s56), .un, .un, .un] _ _ _ _ from (sb_ret (ee_tuplec (b_tuple T.b_tuple) (el_of (ev 1))))))))))))
abbrev s_span : Stmt := topS 11
theorem sc_span : FnScope ["width", "rows"] ["width", "rows"] (defScope s_span) := ⟨rfl, rfl, rfl, by decide +kernel, rfl, by decide +kernel, by decide +kernel⟩
def b_span : List D → M (Out Unit Unit) := p2 (fun a88 a89 => ((((pure (a88) : M D) >>= fun x92 => ((pure (a89) : M D) >>= fun x90 => (pure [] : M (List D)) >>= fun xs91 => pure (x90 :: xs91)) >>= fun xs93 => pure (x92 :: xs93)) >>= m_check_rows) >>= fun u97 => ((((pure (a89) : M D) >>= fun x94 => (pure [] : M (List D)) >>= fun xs95 => pure (x94 :: xs95)) >>= m_basis_of) >>= fun x96 => pure (.rt x96))))
def m_span (ds : List D) : M D := runF (b_span ds)
theorem o_span {p : Pg} (T : Txt p) {f : Addr} {fd : FuncData} (F : Fun p.K "span" "span" s_span f fd) (h_check_rows : Fnc p 2 "check_rows" [.v, .v] m_check_rows) (h_basis_of : Fnc p 3 "basis_of" [.v] m_basis_of) : FnOk p.P p.w p.K p.mg p.base (L2.CX p.P p.w) 4 f fd ["width", "rows"] (spD p [.v, .v] m_span) :=
  fnok_of (k := 3) (N := ["width", "rows"]) (body := b_span) (shN := fun _ => [.un, .un]) (shB := fun _ => []) F sc_span rfl (q2 (P := fun ds m => SB _ (argE _ ds ++ _) _ m _ _) (fun a88 a89 => (show SB _ [.sh (a88), .sh (a89)] _ _ _ _ from (s_expr (el_of (xcall h_check_rows (av (ev 0) (av (ev 1) eak_nil)))) (show SB _ [.sh (a88), .sh (a89)] _ _ _ _ from (sb_ret (xcall h_basis_of (av (ev 1) eak_nil))))))))
abbrev s_is_in : Stmt := topS 12
theorem sc_is_in : FnScope ["width", "rows", "row"] ["width", "rows", "row"] (defScope s_is_in) := ⟨rfl, rfl, rfl, by decide +kernel, rfl, by decide +kernel, by decide +kernel⟩
def b_is_in : List D → M (Out Unit Unit) := p3 (fun a98 a99 a100 => ((((pure (a98) : M D) >>= fun x103 => ((pure (a99) : M D) >>= fun x101 => (pure [] : M (List D)) >>= fun xs102 => pure (x101 :: xs102)) >>= fun xs104 => pure (x103 :: xs104)) >>= m_check_rows) >>= fun u131 => ((((pure (a98) : M D) >>= fun x110 => ((((pure (a100) : M D) >>= fun x105 => (pure [] : M (List D)) >>= fun xs106 => pure (x105 :: xs106)) >>= mkT) >>= fun x108 => (pure [] : M (List D)) >>= fun xs109 => pure (x108 :: xs109)) >>= fun xs111 => pure (x110 :: xs111)) >>= m_check_rows) >>= fun u130 => (((((((pure (a99) : M D) >>= fun x125 => (pure [] : M (List D)) >>= fun xs126 => pure (x125 :: xs126)) >>= m_basis_of) >>= fun x127 => ((pure (a100) : M D) >>= fun x123 => (pure [] : M (List D)) >>= fun xs124 => pure (x123 :: xs124)) >>= fun xs128 => pure (x127 :: xs128)) >>= m_left_over) >>= fun x121 => (pure (D.int 0) : M D) >>= fun x122 => eqB x121 x122 >>= fun b120 => (pure (D.bl b120) : M D)) >>= fun x129 => pure (.rt x129)))))
def m_is_in (ds : List D) : M D := runF (b_is_in ds)
theorem o_is_in {p : Pg} (T : Txt p) {f : Addr} {fd : FuncData} (F : Fun p.K "is_in" "is_in" s_is_in f fd) (h_check_rows : Fnc p 2 "check_rows" [.v, .v] m_check_rows) (h_left_over : Fnc p 2 "left_over" [.v, .v] m_left_over) (h_basis_of : Fnc p 3 "basis_of" [.v] m_basis_of) : FnOk p.P p.w p.K p.mg p.base (L2.CX p.P p.w) 4 f fd ["width", "rows", "row"] (spD p [.v, .v, .v] m_is_in) :=
  fnok_of (k := 3) (N := ["width", "rows", "row"]) (body := b_is_in) (shN := fun _ => [.un, .un, .un]) (shB := fun _ => []) F sc_is_in rfl (q3 (P := fun ds m => SB _ (argE _ ds ++ _) _ m _ _) (fun a98 a99 a100 => (show SB _ [.sh (a98), .sh (a99), .sh (a100)] _ _ _ _ from (s_expr (el_of (xcall h_check_rows (av (ev 0) (av (ev 1) eak_nil)))) (show SB _ [.sh (a98), .sh (a99), .sh (a100)] _ _ _ _ from (s_expr (el_of (xcall h_check_rows (av (ev 0) (av (ee_tup (ea_cons (ev 2) ea_nil)) eak_nil)))) (show SB _ [.sh (a98), .sh (a99), .sh (a100)] _ _ _ _ from (sb_ret (xcmp c_eq (el_of (xcall h_left_over (av (xcall h_basis_of (av (ev 1) eak_nil)) (av (ev 2) eak_nil)))) (el_of ee_int))))))))))
abbrev s_across : Stmt := topS 13
theorem sc_across : FnScope ["width", "rows", "basis", "tops", "found", "at", "free", "one", "top"] ["width", "rows"] (defScope s_across) := ⟨rfl, rfl, rfl, by decide +kernel, rfl, by decide +kernel, by decide +kernel⟩
def b_across : List D → M (Out Unit Unit) := p2 (fun a132 a133 => ((((pure (a132) : M D) >>= fun x136 => ((pure (a133) : M D) >>= fun x134 => (pure [] : M (List D)) >>= fun xs135 => pure (x134 :: xs135)) >>= fun xs137 => pure (x136 :: xs137)) >>= m_check_rows) >>= fun u171 => ((((pure (a133) : M D) >>= fun x139 => (pure [] : M (List D)) >>= fun xs140 => pure (x139 :: xs140)) >>= m_basis_of) >>= fun z138 => ((lcM ((pure (z138) : M D) >>= items) nm (p1 (fun v142 => (pure true : M Bool))) (p1 (fun v142 => (((pure (v142) : M D) >>= fun x143 => (pure [] : M (List D)) >>= fun xs144 => pure (x143 :: xs144)) >>= m_top_of)))) >>= fun z141 => (((pure [] : M (List D)) >>= mkL) >>= fun z145 => (((pure (a132) : M D) >>= range1) >>= fun xs169 => forL (fun (s146 : D) x170 => nm x170 >>= p1 (fun v147 => (((pure (D.int 1) : M D) >>= fun x149 => (pure (v147) : M D) >>= fun x150 => shlD x149 x150) >>= fun z148 => (((pure (z148) : M D) >>= fun x151 => (pure (z141) : M D) >>= fun x152 => inB true x151 x152) >>= fun b165 => (if b165 = true then ((lstD s146 >>= fun ds164 => ((pure (z148) : M D) >>= fun x160 => ((lcM (zip2M (pure (z141) : M D) (pure (z138) : M D)) (unT (unc nm (unc nm un0))) (p2 (fun v154 v155 => (((pure (v155) : M D) >>= fun x156 => (pure (z148) : M D) >>= fun x157 => andD x156 x157) >>= fun x158 => (pure (D.int 0) : M D) >>= fun x159 => neB x158 x159))) (p2 (fun v154 v155 => (pure (v154) : M D)))) >>= sumD) >>= fun x161 => orD x160 x161) >>= fun x163 => appL ds164 x163 >>= fun z162 => (pure (.nx (z162)))) : M (Out (D) _)) else (pure (.nx (s146)))) >>= seqO fun s153 => (pure (.nx (s153))))))) (z145) xs169 >>= seqO fun s146 => ((((pure (s146) : M D) >>= fun x166 => (pure [] : M (List D)) >>= fun xs167 => pure (x166 :: xs167)) >>= m_basis_of) >>= fun x168 => pure (.rt x168))))))))
def m_across (ds : List D) : M D := runF (b_across ds)
theorem o_across {p : Pg} (T : Txt p) {f : Addr} {fd : FuncData} (F : Fun p.K "across" "across" s_across f fd) (h_check_rows : Fnc p 2 "check_rows" [.v, .v] m_check_rows) (h_basis_of : Fnc p 3 "basis_of" [.v] m_basis_of) (h_top_of : Fnc p 1 "top_of" [.v] m_top_of) : FnOk p.P p.w p.K p.mg p.base (L2.CX p.P p.w) 4 f fd ["width", "rows"] (spD p [.v, .v] m_across) :=
  fnok_of (k := 3) (N := ["width", "rows", "basis", "tops", "found", "at", "free", "one", "top"]) (body := b_across) (shN := fun _ => [.un, .un, .un, .un, .un, .un, .un, .un, .un]) (shB := fun _ => []) F sc_across rfl (q2 (P := fun ds m => SB _ (argE _ ds ++ _) _ m _ _) (fun a132 a133 => (show SB _ [.sh (a132), .sh (a133), .un, .un, .un, .un, .un, .un, .un] _ _ _ _ from (s_expr (el_of (xcall h_check_rows (av (ev 0) (av (ev 1) eak_nil)))) (show SB _ [.sh (a132), .sh (a133), .un, .un, .un, .un, .un, .un, .un] _ _ _ _ from (s_set 2 sc_across.nd (xcall h_basis_of (av (ev 1) eak_nil)) (fun z138 => (show SB _ [.sh (a132), .sh (a133), .sh (z138), .un, .un, .un, .un, .un, .un] _ _ _ _ from (s_setC 3 sc_across.nd (c_lc sc_across.nd [("one", 7)] (ei_read (el_of (ev 2))) (tn 7 sc_across.nd) nm_pure nm_len (q1 (P := fun ds m => ETs (Sta.blk _ _) (setE (wipeE _ _) _ ds) _ m) (fun v142 => (show ETs _ [.sh (a132), .sh (a133), .sh (z138), .un, .un, .un, .un, .sh (v142), .un] _ _ from ets_nil))) (q1 (P := fun ds m => EE (Sta.blk _ _) (setE (wipeE _ _) _ ds) _ m) (fun v142 => (show EE _ [.sh (a132), .sh (a133), .sh (z138), .un, .un, .un, .un, .sh (v142), .un] _ _ from (xcall h_top_of (av (ev 7) eak_nil)))))) (fun z141 => (show SB _ [.sh (a132), .sh (a133), .sh (z138), .sh (z141), .un, .un, .un, .un, .un] _ _ _ _ from (s_setN 4 sc_across.nd (en_lst ea_nil) (fun z145 => (show SB _ [.sh (a132), .sh (a133), .sh (z138), .sh (z141), .ow (z145), .un, .un, .un, .un] _ _ _ _ from (s_for (Z := D) (sh := fun s146 => [.sh (a132), .sh (a133), .sh (z138), .sh (z141), .ow (s146), .un, .un, .un, .un]) (ei_range1 (by rfl) T.b_range (el_of (ev 0))) (tn 5 sc_across.nd) nm_pure nm_len (.eq (.eq (.eq (.eq (.eq (.un (.un (.un (.un Le.nil))))))))) (fun s146 => q1 (P := fun ds m => SB _ (setE _ _ ds) _ m _ _) (fun v147 => (show SB _ [.sh (a132), .sh (a133), .sh (z138), .sh (z141), .ow (s146), .sh (v147), .un, .un, .un] _ _ _ _ from (s_set 6 sc_across.nd (ee_shl (el_of ee_int) (el_of (ev 5))) (fun z148 => (show SB _ [.sh (a132), .sh (a133), .sh (z138), .sh (z141), .ow (s146), .sh (v147), .sh (z148), .un, .un] _ _ _ _ from (sb_if (J := D) (shJ := fun s153 => [.sh (a132), .sh (a133), .sh (z138), .sh (z141), .ow (s153), .sh (v147), .sh (z148), .un, .un]) (tcmp c_nin (el_of (ev 6)) (el_of (ev 3))) (s_append 4 (ee_or (el_of (ev 6)) (el_of (ee_sum (b_sum T.b_sum) (el_new (en_comp (c_lc sc_across.nd [("top", 8), ("one", 7)] (ei_weak (ei_zip (by rfl) T.b_zip (ev 3) (ev 2))) (tt (tc (ix := [8]) (jx := [7]) nm_pure (unc_pure nm_pure un0_pure) nm_len (tn 8 sc_across.nd) (tc (ix := [7]) (jx := []) nm_pure un0_pure nm_len (tn 7 sc_across.nd) tgs_nil)) (unc_len nm_len (unc_len nm_len un0_len))) (unT_pure (unc_pure nm_pure (unc_pure nm_pure un0_pure))) (unT_len (unc_len nm_len (unc_len nm_len un0_len))) (q2 (P := fun ds m => ETs (Sta.blk _ _) (setE (wipeE _ _) _ ds) _ m) (fun v154 v155 => (show ETs _ [.sh (a132), .sh (a133), .sh (z138), .sh (z141), .ow (s146), .sh (v147), .sh (z148), .sh (v155), .sh (v154)] _ _ from (ets_one (tcmp c_ne (el_of (ee_and (el_of (ev 7)) (el_of (ev 6)))) (el_of ee_int)))))) (q2 (P := fun ds m => EE (Sta.blk _ _) (setE (wipeE _ _) _ ds) _ m) (fun v154 v155 => (show EE _ [.sh (a132), .sh (a133), .sh (z138), .sh (z141), .ow (s146), .sh (v147), .sh (z148), .sh (v155), .sh (v154)] _ _ from (ev 8)))))))))) fun z162 => (show SB _ [.sh (a132), .sh (a133), .sh (z138), .sh (z141), .ow (z162), .sh (v147), .sh (z148), .un, .un] _ _ _ _ from (sb_nil (.eq (.eq (.eq (.eq (.eq (.eq (.eq (.un (.un Le.nil)))))))))))) (sb_nil (.eq (.eq (.eq (.eq (.eq (.eq (.eq (.un (.un Le.nil)))))))))) fun s153 => (show SB _ [.sh (a132), .sh (a133), .sh (z138), .sh (z141), .ow (s153), .sh (v147), .sh (z148), .un, .un] _ _ _ _ from (sb_nil (.eq (.eq (.eq (.eq (.eq (.un (.un (.un (.un Le.nil)))))))))))))))))) fun s146 => (show SB _ [.sh (a132), .sh (a133), .sh (z138), .sh (z141), .ow (s146), .un, .un, .un, .un] _ _ _ _ from (sb_freeze 4 (by rfl) (show SB _ [.sh (a132), .sh (a133), .sh (z138), .sh (z141), .sh (s146), .un, .un, .un, .un] _ _ _ _ from (sb_ret (xcall h_basis_of (av (ev 4) eak_nil)))))))))))) (hs := sw_lc rfl))))))))))
abbrev s_in_both : Stmt := topS 14
theorem sc_in_both : FnScope ["width", "first", "second"] ["width", "first", "second"] (defScope s_in_both) := ⟨rfl, rfl, rfl, by decide +kernel, rfl, by decide +kernel, by decide +kernel⟩
def b_in_both : List D → M (Out Unit Unit) := p3 (fun a172 a173 a174 => ((((pure (a172) : M D) >>= fun x191 => ((((((pure (a172) : M D) >>= fun x187 => ((pure (a173) : M D) >>= fun x185 => (pure [] : M (List D)) >>= fun xs186 => pure (x185 :: xs186)) >>= fun xs188 => pure (x187 :: xs188)) >>= m_across) >>= fun x182 => items x182 >>= fun xs183 => ((((pure (a172) : M D) >>= fun x180 => ((pure (a174) : M D) >>= fun x178 => (pure [] : M (List D)) >>= fun xs179 => pure (x178 :: xs179)) >>= fun xs181 => pure (x180 :: xs181)) >>= m_across) >>= fun x175 => items x175 >>= fun xs176 => (pure [] : M (List D)) >>= fun ys177 => pure (xs176 ++ ys177)) >>= fun ys184 => pure (xs183 ++ ys184)) >>= mkT) >>= fun x189 => (pure [] : M (List D)) >>= fun xs190 => pure (x189 :: xs190)) >>= fun xs192 => pure (x191 :: xs192)) >>= m_across) >>= fun x193 => pure (.rt x193)))
def m_in_both (ds : List D) : M D := runF (b_in_both ds)
theorem o_in_both {p : Pg} (T : Txt p) {f : Addr} {fd : FuncData} (F : Fun p.K "in_both" "in_both" s_in_both f fd) (h_across : Fnc p 4 "across" [.v, .v] m_across) : FnOk p.P p.w p.K p.mg p.base (L2.CX p.P p.w) 5 f fd ["width", "first", "second"] (spD p [.v, .v, .v] m_in_both) :=
  fnok_of (k := 4) (N := ["width", "first", "second"]) (body := b_in_both) (shN := fun _ => [.un, .un, .un]) (shB := fun _ => []) F sc_in_both rfl (q3 (P := fun ds m => SB _ (argE _ ds ++ _) _ m _ _) (fun a172 a173 a174 => (show SB _ [.sh (a172), .sh (a173), .sh (a174)] _ _ _ _ from (sb_ret (xcall h_across (av (ev 0) (av (ee_tup (ea_star (el_of (xcall h_across (av (ev 0) (av (ev 1) eak_nil)))) (ea_star (el_of (xcall h_across (av (ev 0) (av (ev 2) eak_nil)))) ea_nil))) eak_nil)))))))
abbrev s_in_one : Stmt := topS 15
theorem sc_in_one : FnScope ["width", "first", "second"] ["width", "first", "second"] (defScope s_in_one) := ⟨rfl, rfl, rfl, by decide +kernel, rfl, by decide +kernel, by decide +kernel⟩
def b_in_one : List D → M (Out Unit Unit) := p3 (fun a194 a195 a196 => ((((pure (a194) : M D) >>= fun x199 => ((pure (a195) : M D) >>= fun x197 => (pure [] : M (List D)) >>= fun xs198 => pure (x197 :: xs198)) >>= fun xs200 => pure (x199 :: xs200)) >>= m_check_rows) >>= fun u219 => ((((pure (a194) : M D) >>= fun x203 => ((pure (a196) : M D) >>= fun x201 => (pure [] : M (List D)) >>= fun xs202 => pure (x201 :: xs202)) >>= fun xs204 => pure (x203 :: xs204)) >>= m_check_rows) >>= fun u218 => ((((((((pure (a195) : M D) >>= fun x213 => (pure [] : M (List D)) >>= fun xs214 => pure (x213 :: xs214)) >>= m_basis_of) >>= fun x210 => items x210 >>= fun xs211 => ((((pure (a196) : M D) >>= fun x208 => (pure [] : M (List D)) >>= fun xs209 => pure (x208 :: xs209)) >>= m_basis_of) >>= fun x205 => items x205 >>= fun xs206 => (pure [] : M (List D)) >>= fun ys207 => pure (xs206 ++ ys207)) >>= fun ys212 => pure (xs211 ++ ys212)) >>= mkT) >>= fun x215 => (pure [] : M (List D)) >>= fun xs216 => pure (x215 :: xs216)) >>= m_basis_of) >>= fun x217 => pure (.rt x217)))))
def m_in_one (ds : List D) : M D := runF (b_in_one ds)
theorem o_in_one {p : Pg} (T : Txt p) {f : Addr} {fd : FuncData} (F : Fun p.K "in_one" "in_one" s_in_one f fd) (h_check_rows : Fnc p 2 "check_rows" [.v, .v] m_check_rows) (h_basis_of : Fnc p 3 "basis_of" [.v] m_basis_of) : FnOk p.P p.w p.K p.mg p.base (L2.CX p.P p.w) 4 f fd ["width", "first", "second"] (spD p [.v, .v, .v] m_in_one) :=
  fnok_of (k := 3) (N := ["width", "first", "second"]) (body := b_in_one) (shN := fun _ => [.un, .un, .un]) (shB := fun _ => []) F sc_in_one rfl (q3 (P := fun ds m => SB _ (argE _ ds ++ _) _ m _ _) (fun a194 a195 a196 => (show SB _ [.sh (a194), .sh (a195), .sh (a196)] _ _ _ _ from (s_expr (el_of (xcall h_check_rows (av (ev 0) (av (ev 1) eak_nil)))) (show SB _ [.sh (a194), .sh (a195), .sh (a196)] _ _ _ _ from (s_expr (el_of (xcall h_check_rows (av (ev 0) (av (ev 2) eak_nil)))) (show SB _ [.sh (a194), .sh (a195), .sh (a196)] _ _ _ _ from (sb_ret (xcall h_basis_of (av (ee_tup (ea_star (el_of (xcall h_basis_of (av (ev 1) eak_nil))) (ea_star (el_of (xcall h_basis_of (av (ev 2) eak_nil))) ea_nil))) eak_nil))))))))))
abbrev s__law_stream : Stmt := topS 17
theorem sc__law_stream : FnScope ["script", "numbers", "cell", "rest", "k", "mixed"] ["script"] (defScope s__law_stream) := ⟨rfl, rfl, rfl, by decide +kernel, rfl, by decide +kernel, by decide +kernel⟩
def b__law_stream : List D → M (Out Unit Unit) := p1 (fun a220 => (((pure [] : M (List D)) >>= mkL) >>= fun z221 => ((((pure (a220) : M D) >>= fun x222 => (pure none : M (Option Int)) >>= fun l223 => ((pure (D.int 63) : M D) >>= intM) >>= fun h224 => slL l223 h224 x222) >>= items) >>= fun xs287 => forL (fun (s225 : D) x288 => nm x288 >>= p1 (fun v226 => ((((pure (v226) : M D) >>= intD) >>= absD) >>= fun z227 => (((pure (z227) : M D) >>= fun x230 => ((pure (D.int 10) : M D) >>= fun x228 => (pure (D.int 18) : M D) >>= fun x229 => powD x228 x229) >>= fun x231 => geB x230 x231) >>= fun b278 => (if b278 = true then ((((pure (D.int 60) : M D) >>= range1) >>= fun xs247 => forL (fun (s233 : D × D) x248 => nm x248 >>= p1 (fun v234 => (lstD s233.1 >>= fun ds239 => (((pure (s233.2) : M D) >>= intD) >>= fun x235 => (pure (D.int 1009) : M D) >>= fun x236 => modD x235 x236) >>= fun x238 => appL ds239 x238 >>= fun z237 => (((pure (s233.2) : M D) >>= fun x241 => (pure (D.int 1009) : M D) >>= fun x242 => divD x241 x242) >>= fun z240 => (((pure (z240) : M D) >>= fun x243 => (pure (D.int 0) : M D) >>= fun x244 => eqB x243 x244) >>= fun b246 => (if b246 = true then ((pure (.bk (z237, z240))) : M (Out (Unit) _)) else (pure (.nx ()))) >>= seqO fun s245 => (pure (.nx (z237, z240)))))))) (s225, z227) xs247 >>= seqO fun s233 => (pure (.nx (s233.1)))) : M (Out (D) _)) else ((((pure (z227) : M D) >>= intD) >>= fun x250 => (pure (D.int 2147483647) : M D) >>= fun x251 => modD x250 x251) >>= fun z249 => (((pure (D.int 10) : M D) >>= range1) >>= fun xs276 => forL (fun (s252 : D × D) x277 => nm x277 >>= p1 (fun v253 => (((((((pure (s252.2) : M D) >>= fun x255 => (pure (D.int 48271) : M D) >>= fun x256 => mulD x255 x256) >>= fun x259 => ((pure (D.int 7) : M D) >>= fun x257 => (pure (v253) : M D) >>= fun x258 => mulD x257 x258) >>= fun x260 => addD x259 x260) >>= fun x261 => (pure (D.int 11) : M D) >>= fun x262 => addD x261 x262) >>= intD) >>= fun x263 => (pure (D.int 2147483647) : M D) >>= fun x264 => modD x263 x264) >>= fun z254 => (lstD s252.1 >>= fun ds275 => ((((((pure (z254) : M D) >>= fun x265 => (pure (D.int 69621) : M D) >>= fun x266 => mulD x265 x266) >>= fun x267 => (pure (v253) : M D) >>= fun x268 => addD x267 x268) >>= intD) >>= fun x269 => (pure (D.int 2147483629) : M D) >>= fun x270 => modD x269 x270) >>= fun x271 => (pure (D.int 1009) : M D) >>= fun x272 => modD x271 x272) >>= fun x274 => appL ds275 x274 >>= fun z273 => (pure (.nx (z273, z254))))))) (s225, z249) xs276 >>= seqO fun s252 => (pure (.nx (s252.1)))))) >>= seqO fun s232 => (pure (.nx (s232))))))) (z221) xs287 >>= seqO fun s225 => ((((pure (s225) : M D) >>= lenD) >>= fun x279 => (pure (D.int 0) : M D) >>= fun x280 => eqB x279 x280) >>= fun b286 => (if b286 = true then ((lstD s225 >>= fun ds284 => (pure (D.int 0) : M D) >>= fun x283 => appL ds284 x283 >>= fun z282 => (pure (.nx (z282)))) : M (Out (D) _)) else (pure (.nx (s225)))) >>= seqO fun s281 => ((pure (s281) : M D) >>= fun x285 => pure (.rt x285))))))
def m__law_stream (ds : List D) : M D := runF (b__law_stream ds)
theorem o__law_stream {p : Pg} (T : Txt p) {f : Addr} {fd : FuncData} (F : Fun p.K "_law_stream" "_law_stream" s__law_stream f fd)  : FnOk p.P p.w p.K p.mg p.base (L2.CX p.P p.w) 1 f fd ["script"] (spD p [.v] m__law_stream) :=
  fnok_of (k := 0) (N := ["script", "numbers", "cell", "rest", "k", "mixed"]) (body := b__law_stream) (shN := fun _ => [.un, .un, .un, .un, .un, .un]) (shB := fun _ => []) F sc__law_stream rfl (q1 (P := fun ds m => SB _ (argE _ ds ++ _) _ m _ _) (fun a220 => (show SB _ [.sh (a220), .un, .un, .un, .un, .un] _ _ _ _ from (s_setN 1 sc__law_stream.nd (en_lst ea_nil) (fun z221 => (show SB _ [.sh (a220), .ow (z221), .un, .un, .un, .un] _ _ _ _ from (s_for (Z := D) (sh := fun s225 => [.sh (a220), .ow (s225), .un, .un, .un, .un]) (ei_seq (ee_new (en_slL (el_of (ev 0)) eo_none (eo_some (el_of ee_int))))) (tn 2 sc__law_stream.nd) nm_pure nm_len (.eq (.eq (.un (.un (.un (.un Le.nil)))))) (fun s225 => q1 (P := fun ds m => SB _ (setE _ _ ds) _ m _ _) (fun v226 => (show SB _ [.sh (a220), .ow (s225), .sh (v226), .un, .un, .un] _ _ _ _ from (s_set 3 sc__law_stream.nd (ee_abs (b_abs T.b_abs) (el_of (ee_intc (b_int T.b_int) (el_of (ev 2))))) (fun z227 => (show SB _ [.sh (a220), .ow (s225), .sh (v226), .sh (z227), .un, .un] _ _ _ _ from (sb_if (J := D) (shJ := fun s232 => [.sh (a220), .ow (s232), .sh (v226), .un, .un, .un]) (tcmp c_ge (el_of (ev 3)) (el_of (ee_pow (el_of ee_int) (el_of ee_int)))) (s_for (Z := D × D) (sh := fun s233 => [.sh (a220), .ow (s233.1), .sh (v226), .sh (s233.2), .un, .un]) (ei_range1 (by rfl) T.b_range (el_of ee_int)) (tn 4 sc__law_stream.nd) nm_pure nm_len (.eq (.eq (.eq (.eq (.un (.un Le.nil)))))) (fun s233 => q1 (P := fun ds m => SB _ (setE _ _ ds) _ m _ _) (fun v234 => (show SB _ [.sh (a220), .ow (s233.1), .sh (v226), .sh (s233.2), .sh (v234), .un] _ _ _ _ from (s_append 1 (ee_mod (el_of (ee_intc (b_int T.b_int) (el_of (ev 3)))) (el_of ee_int)) fun z237 => (show SB _ [.sh (a220), .ow (z237), .sh (v226), .sh (s233.2), .sh (v234), .un] _ _ _ _ from (s_set 3 sc__law_stream.nd (ee_div (el_of (ev 3)) (el_of ee_int)) (fun z240 => (show SB _ [.sh (a220), .ow (z237), .sh (v226), .sh (z240), .sh (v234), .un] _ _ _ _ from (sb_if (J := Unit) (shJ := fun s245 => [.sh (a220), .ow (z237), .sh (v226), .sh (z240), .sh (v234), .un]) (tcmp c_eq (el_of (ev 3)) (el_of ee_int)) (sb_break (.eq (.eq (.eq (.eq (.un (.un Le.nil))))))) (sb_nil (.eq (.eq (.eq (.eq (.eq (.un Le.nil))))))) fun s245 => (show SB _ [.sh (a220), .ow (z237), .sh (v226), .sh (z240), .sh (v234), .un] _ _ _ _ from (sb_nil (.eq (.eq (.eq (.eq (.un (.un Le.nil))))))))))))))))) fun s233 => (show SB _ [.sh (a220), .ow (s233.1), .sh (v226), .sh (s233.2), .un, .un] _ _ _ _ from (sb_nil (.eq (.eq (.eq (.un (.un (.un Le.nil))))))))) (s_set 5 sc__law_stream.nd (ee_mod (el_of (ee_intc (b_int T.b_int) (el_of (ev 3)))) (el_of ee_int)) (fun z249 => (show SB _ [.sh (a220), .ow (s225), .sh (v226), .sh (z227), .un, .sh (z249)] _ _ _ _ from (s_for (Z := D × D) (sh := fun s252 => [.sh (a220), .ow (s252.1), .sh (v226), .sh (z227), .un, .sh (s252.2)]) (ei_range1 (by rfl) T.b_range (el_of ee_int)) (tn 4 sc__law_stream.nd) nm_pure nm_len (.eq (.eq (.eq (.eq (.un (.eq Le.nil)))))) (fun s252 => q1 (P := fun ds m => SB _ (setE _ _ ds) _ m _ _) (fun v253 => (show SB _ [.sh (a220), .ow (s252.1), .sh (v226), .sh (z227), .sh (v253), .sh (s252.2)] _ _ _ _ from (s_set 5 sc__law_stream.nd (ee_mod (el_of (ee_intc (b_int T.b_int) (el_of (ee_add (el_of (ee_add (el_of (ee_mul (el_of (ev 5)) (el_of ee_int))) (el_of (ee_mul (el_of ee_int) (el_of (ev 4)))))) (el_of ee_int))))) (el_of ee_int)) (fun z254 => (show SB _ [.sh (a220), .ow (s252.1), .sh (v226), .sh (z227), .sh (v253), .sh (z254)] _ _ _ _ from (s_append 1 (ee_mod (el_of (ee_mod (el_of (ee_intc (b_int T.b_int) (el_of (ee_add (el_of (ee_mul (el_of (ev 5)) (el_of ee_int))) (el_of (ev 4)))))) (el_of ee_int))) (el_of ee_int)) fun z273 => (show SB _ [.sh (a220), .ow (z273), .sh (v226), .sh (z227), .sh (v253), .sh (z254)] _ _ _ _ from (sb_nil (.eq (.eq (.eq (.eq (.un (.eq Le.nil))))))))))))))) fun s252 => (show SB _ [.sh (a220), .ow (s252.1), .sh (v226), .sh (z227), .un, .sh (s252.2)] _ _ _ _ from (sb_nil (.eq (.eq (.eq (.un (.un (.un Le.nil)))))))))))) fun s232 => (show SB _ [.sh (a220), .ow (s232), .sh (v226), .un, .un, .un] _ _ _ _ from (sb_nil (.eq (.eq (.un (.un (.un (.un Le.nil))))))))))))))) fun s225 => (show SB _ [.sh (a220), .ow (s225), .un, .un, .un, .un] _ _ _ _ from (sb_if (J := D) (shJ := fun s281 => [.sh (a220), .ow (s281), .un, .un, .un, .un]) (tcmp c_eq (el_of (ee_len (b_len T.b_len) (evo 1))) (el_of ee_int)) (s_append 1 ee_int fun z282 => (show SB _ [.sh (a220), .ow (z282), .un, .un, .un, .un] _ _ _ _ from (sb_nil (.eq (.eq (.un (.un (.un (.un Le.nil))))))))) (sb_nil (.eq (.eq (.un (.un (.un (.un Le.nil))))))) fun s281 => (show SB _ [.sh (a220), .ow (s281), .un, .un, .un, .un] _ _ _ _ from (sb_freeze 1 (by rfl) (show SB _ [.sh (a220), .sh (s281), .un, .un, .un, .un] _ _ _ _ from (sb_ret (ev 1))))))))))))))
abbrev s__law_next : Stmt := topS 18
theorem sc__law_next : FnScope ["state", "many", "turn"] ["state", "many"] (defScope s__law_next) := ⟨rfl, rfl, rfl, by decide +kernel, rfl, by decide +kernel, by decide +kernel⟩
def b__law_next : List D → M (Out Unit Unit) := p2 (fun a289 a290 => ((((pure (a289) : M D) >>= fun x291 => (pure (D.int 1) : M D) >>= fun x292 => ixD x291 x292) >>= fun x293 => (pure (D.int 1) : M D) >>= fun x294 => addD x293 x294) >>= fun x295 => (pure (a289) : M D) >>= fun x296 => (pure (D.int 1) : M D) >>= fun x297 => cellSet x296 x297 x295 >>= fun u298 => ((((pure (a289) : M D) >>= fun x300 => (pure (D.int 1) : M D) >>= fun x301 => ixD x300 x301) >>= fun x304 => (((pure (a289) : M D) >>= fun x302 => (pure (D.int 0) : M D) >>= fun x303 => ixD x302 x303) >>= lenD) >>= fun x305 => divD x304 x305) >>= fun z299 => ((((((((pure (a289) : M D) >>= fun x306 => (pure (D.int 0) : M D) >>= fun x307 => ixD x306 x307) >>= fun x314 => (((pure (a289) : M D) >>= fun x308 => (pure (D.int 1) : M D) >>= fun x309 => ixD x308 x309) >>= fun x312 => (((pure (a289) : M D) >>= fun x310 => (pure (D.int 0) : M D) >>= fun x311 => ixD x310 x311) >>= lenD) >>= fun x313 => modD x312 x313) >>= fun x315 => ixD x314 x315) >>= fun x318 => ((pure (z299) : M D) >>= fun x316 => (pure (D.int 389) : M D) >>= fun x317 => mulD x316 x317) >>= fun x319 => addD x318 x319) >>= fun x326 => ((((pure (a289) : M D) >>= fun x320 => (pure (D.int 1) : M D) >>= fun x321 => ixD x320 x321) >>= fun x322 => (pure (z299) : M D) >>= fun x323 => mulD x322 x323) >>= fun x324 => (pure (D.int 17) : M D) >>= fun x325 => mulD x324 x325) >>= fun x327 => addD x326 x327) >>= intD) >>= fun x328 => (pure (a290) : M D) >>= fun x329 => modD x328 x329) >>= fun x330 => pure (.rt x330)))))
def m__law_next (ds : List D) : M D := runF (b__law_next ds)
theorem o__law_next {p : Pg} (T : Txt p) {f : Addr} {fd : FuncData} (F : Fun p.K "_law_next" "_law_next" s__law_next f fd)  : FnOk p.P p.w p.K p.mg p.base (L2.CX p.P p.w) 1 f fd ["state", "many"] (spD p [.v, .v] m__law_next) :=
  fnok_of (k := 0) (N := ["state", "many", "turn"]) (body := b__law_next) (shN := fun _ => [.un, .un, .un]) (shB := fun _ => []) F sc__law_next rfl (q2 (P := fun ds m => SB _ (argE _ ds ++ _) _ m _ _) (fun a289 a290 => (show SB _ [.sh (a289), .sh (a290), .un] _ _ _ _ from (s_cset (ee_add (el_of (xix (el_of (ev 0)) (el_of ee_int))) (el_of ee_int)) (ev 0) ee_int (show SB _ [.sh (a289), .sh (a290), .un] _ _ _ _ from (s_set 2 sc__law_next.nd (ee_div (el_of (xix (el_of (ev 0)) (el_of ee_int))) (el_of (ee_len (b_len T.b_len) (el_of (xix (el_of (ev 0)) (el_of ee_int)))))) (fun z299 => (show SB _ [.sh (a289), .sh (a290), .sh (z299)] _ _ _ _ from (sb_ret (ee_mod (el_of (ee_intc (b_int T.b_int) (el_of (ee_add (el_of (ee_add (el_of (xix (el_of (xix (el_of (ev 0)) (el_of ee_int))) (el_of (ee_mod (el_of (xix (el_of (ev 0)) (el_of ee_int))) (el_of (ee_len (b_len T.b_len) (el_of (xix (el_of (ev 0)) (el_of ee_int))))))))) (el_of (ee_mul (el_of (ev 2)) (el_of ee_int))))) (el_of (ee_mul (el_of (ee_mul (el_of (xix (el_of (ev 0)) (el_of ee_int))) (el_of (ev 2)))) (el_of ee_int))))))) (el_of (ev 1))))))))))))
abbrev s__law_span : Stmt := topS 19
theorem sc__law_span : FnScope ["rows", "found", "row", "one"] ["rows"] (defScope s__law_span) := ⟨rfl, rfl, rfl, by decide +kernel, rfl, by decide +kernel, by decide +kernel⟩
def b__law_span : List D → M (Out Unit Unit) := p1 (fun a331 => ((((pure (D.int 0) : M D) >>= fun x333 => (pure [] : M (List D)) >>= fun xs334 => pure (x333 :: xs334)) >>= mkL) >>= fun z332 => (((pure (a331) : M D) >>= items) >>= fun xs349 => forL (fun (s336 : D) x350 => nm x350 >>= p1 (fun v337 => (((pure (v337) : M D) >>= fun x338 => (pure (s336) : M D) >>= fun x339 => inB true x338 x339) >>= fun b347 => (if b347 = true then ((((pure (s336) : M D) >>= fun x345 => (lcM ((pure (s336) : M D) >>= items) nm (p1 (fun v342 => (pure true : M Bool))) (p1 (fun v342 => ((pure (v342) : M D) >>= fun x343 => (pure (v337) : M D) >>= fun x344 => xorD x343 x344)))) >>= fun x346 => catD x345 x346) >>= fun z341 => (pure (.nx (z341)))) : M (Out (D) _)) else (pure (.nx (s336)))) >>= seqO fun s340 => (pure (.nx (s340)))))) (z332) xs349 >>= seqO fun s336 => (((pure (s336) : M D) >>= sortedD) >>= fun x348 => pure (.rt x348)))))
def m__law_span (ds : List D) : M D := runF (b__law_span ds)
theorem o__law_span {p : Pg} (T : Txt p) {f : Addr} {fd : FuncData} (F : Fun p.K "_law_span" "_law_span" s__law_span f fd)  : FnOk p.P p.w p.K p.mg p.base (L2.CX p.P p.w) 1 f fd ["rows"] (spD p [.v] m__law_span) :=
  fnok_of (k := 0) (N := ["rows", "found", "row", "one"]) (body := b__law_span) (shN := fun _ => [.un, .un, .un, .un]) (shB := fun _ => []) F sc__law_span rfl (q1 (P := fun ds m => SB _ (argE _ ds ++ _) _ m _ _) (fun a331 => (show SB _ [.sh (a331), .un, .un, .un] _ _ _ _ from (s_set 1 sc__law_span.nd (ee_new (en_lst (ea_cons ee_int ea_nil))) (fun z332 => (show SB _ [.sh (a331), .sh (z332), .un, .un] _ _ _ _ from (s_for (Z := D) (sh := fun s336 => [.sh (a331), .sh (s336), .un, .un]) (ei_seq (ev 0)) (tn 2 sc__law_span.nd) nm_pure nm_len (.eq (.eq (.un (.un Le.nil)))) (fun s336 => q1 (P := fun ds m => SB _ (setE _ _ ds) _ m _ _) (fun v337 => (show SB _ [.sh (a331), .sh (s336), .sh (v337), .un] _ _ _ _ from (sb_if (J := D) (shJ := fun s340 => [.sh (a331), .sh (s340), .sh (v337), .un]) (tcmp c_nin (el_of (ev 2)) (el_of (ev 1))) (s_set 1 sc__law_span.nd (ee_new (en_cat (el_of (ev 1)) (el_new (en_comp (c_lc sc__law_span.nd [("one", 3)] (ei_read (el_of (ev 1))) (tn 3 sc__law_span.nd) nm_pure nm_len (q1 (P := fun ds m => ETs (Sta.blk _ _) (setE (wipeE _ _) _ ds) _ m) (fun v342 => (show ETs _ [.sh (a331), .sh (s336), .sh (v337), .sh (v342)] _ _ from ets_nil))) (q1 (P := fun ds m => EE (Sta.blk _ _) (setE (wipeE _ _) _ ds) _ m) (fun v342 => (show EE _ [.sh (a331), .sh (s336), .sh (v337), .sh (v342)] _ _ from (ee_xor (el_of (ev 3)) (el_of (ev 2))))))))))) (fun z341 => (show SB _ [.sh (a331), .sh (z341), .sh (v337), .un] _ _ _ _ from (sb_nil (.eq (.eq (.eq (.un Le.nil)))))))) (sb_nil (.eq (.eq (.eq (.un Le.nil))))) fun s340 => (show SB _ [.sh (a331), .sh (s340), .sh (v337), .un] _ _ _ _ from (sb_nil (.eq (.eq (.un (.un Le.nil)))))))))) fun s336 => (show SB _ [.sh (a331), .sh (s336), .un, .un] _ _ _ _ from (sb_ret (ee_new (en_sorted (b_sorted T.b_sorted) (el_of (ev 1)))))))))))))
abbrev s__law_odd : Stmt := topS 20
theorem sc__law_odd : FnScope ["row", "at"] ["row"] (defScope s__law_odd) := ⟨rfl, rfl, rfl, by decide +kernel, rfl, by decide +kernel, by decide +kernel⟩
def b__law_odd : List D → M (Out Unit Unit) := p1 (fun a351 => ((((lcM ((pure (D.int 17) : M D) >>= range1) nm (p1 (fun v352 => (pure true : M Bool))) (p1 (fun v352 => (((pure (a351) : M D) >>= fun x353 => (pure (v352) : M D) >>= fun x354 => shrD x353 x354) >>= fun x355 => (pure (D.int 1) : M D) >>= fun x356 => andD x355 x356)))) >>= sumD) >>= fun x357 => (pure (D.int 1) : M D) >>= fun x358 => andD x357 x358) >>= fun x359 => pure (.rt x359)))
def m__law_odd (ds : List D) : M D := runF (b__law_odd ds)
theorem o__law_odd {p : Pg} (T : Txt p) {f : Addr} {fd : FuncData} (F : Fun p.K "_law_odd" "_law_odd" s__law_odd f fd)  : FnOk p.P p.w p.K p.mg p.base (L2.CX p.P p.w) 1 f fd ["row"] (spD p [.v] m__law_odd) :=
  fnok_of (k := 0) (N := ["row", "at"]) (body := b__law_odd) (shN := fun _ => [.un, .un]) (shB := fun _ => []) F sc__law_odd rfl (q1 (P := fun ds m => SB _ (argE _ ds ++ _) _ m _ _) (fun a351 => (show SB _ [.sh (a351), .un] _ _ _ _ from (sb_ret (ee_and (el_of (ee_sum (b_sum T.b_sum) (el_new (en_comp (c_lc sc__law_odd.nd [("at", 1)] (ei_range1 (by rfl) T.b_range (el_of ee_int)) (tn 1 sc__law_odd.nd) nm_pure nm_len (q1 (P := fun ds m => ETs (Sta.blk _ _) (setE (wipeE _ _) _ ds) _ m) (fun v352 => (show ETs _ [.sh (a351), .sh (v352)] _ _ from ets_nil))) (q1 (P := fun ds m => EE (Sta.blk _ _) (setE (wipeE _ _) _ ds) _ m) (fun v352 => (show EE _ [.sh (a351), .sh (v352)] _ _ from (ee_and (el_of (ee_shr (el_of (ev 0)) (el_of (ev 1)))) (el_of ee_int)))))))))) (el_of ee_int))))))
abbrev s__law_some_rows : Stmt := topS 21
theorem sc__law_some_rows : FnScope ["state", "width", "most", "k"] ["state", "width", "most"] (defScope s__law_some_rows) := ⟨rfl, rfl, rfl, by decide +kernel, rfl, by decide +kernel, by decide +kernel⟩
def b__law_some_rows : List D → M (Out Unit Unit) := p3 (fun a360 a361 a362 => (((lcM ((((pure (a360) : M D) >>= fun x367 => (((pure (a362) : M D) >>= fun x363 => (pure (D.int 1) : M D) >>= fun x364 => addD x363 x364) >>= fun x365 => (pure [] : M (List D)) >>= fun xs366 => pure (x365 :: xs366)) >>= fun xs368 => pure (x367 :: xs368)) >>= m__law_next) >>= range1) nm (p1 (fun v369 => (pure true : M Bool))) (p1 (fun v369 => ((((((pure (a360) : M D) >>= fun x389 => (((pure (D.int 1) : M D) >>= fun x385 => (pure (a361) : M D) >>= fun x386 => shlD x385 x386) >>= fun x387 => (pure [] : M (List D)) >>= fun xs388 => pure (x387 :: xs388)) >>= fun xs390 => pure (x389 :: xs390)) >>= m__law_next) >>= fun x382 => (((pure (D.int 1) : M D) >>= fun x380 => (((pure (a360) : M D) >>= fun x378 => ((pure (a361) : M D) >>= fun x376 => (pure [] : M (List D)) >>= fun xs377 => pure (x376 :: xs377)) >>= fun xs379 => pure (x378 :: xs379)) >>= m__law_next) >>= fun x381 => shlD x380 x381) >>= fun x373 => ((pure (D.int 0) : M D) >>= fun x370 => (pure [] : M (List D)) >>= fun xs371 => pure (x370 :: xs371)) >>= fun xs374 => pure (x373 :: xs374)) >>= fun xs383 => pure (x382 :: xs383)) >>= mkL) >>= fun x412 => ((((pure (D.int 0) : M D) >>= fun x403 => ((pure (D.int 0) : M D) >>= fun x400 => ((pure (D.int 0) : M D) >>= fun x397 => ((pure (D.int 1) : M D) >>= fun x394 => ((pure (D.int 2) : M D) >>= fun x391 => (pure [] : M (List D)) >>= fun xs392 => pure (x391 :: xs392)) >>= fun xs395 => pure (x394 :: xs395)) >>= fun xs398 => pure (x397 :: xs398)) >>= fun xs401 => pure (x400 :: xs401)) >>= fun xs404 => pure (x403 :: xs404)) >>= mkL) >>= fun x410 => (((pure (a360) : M D) >>= fun x408 => ((pure (D.int 5) : M D) >>= fun x406 => (pure [] : M (List D)) >>= fun xs407 => pure (x406 :: xs407)) >>= fun xs409 => pure (x408 :: xs409)) >>= m__law_next) >>= fun x411 => ixD x410 x411) >>= fun x413 => ixD x412 x413)))) >>= tupleD) >>= fun x414 => pure (.rt x414)))
def m__law_some_rows (ds : List D) : M D := runF (b__law_some_rows ds)
theorem o__law_some_rows {p : Pg} (T : Txt p) {f : Addr} {fd : FuncData} (F : Fun p.K "_law_some_rows" "_law_some_rows" s__law_some_rows f fd) (h__law_next : Fnc p 1 "_law_next" [.v, .v] m__law_next) : FnOk p.P p.w p.K p.mg p.base (L2.CX p.P p.w) 2 f fd ["state", "width", "most"] (spD p [.v, .v, .v] m__law_some_rows) :=
  fnok_of (k := 1) (N := ["state", "width", "most", "k"]) (body := b__law_some_rows) (shN := fun _ => [.un, .un, .un, .un]) (shB := fun _ => []) F sc__law_some_rows rfl (q3 (P := fun ds m => SB _ (argE _ ds ++ _) _ m _ _) (fun a360 a361 a362 => (show SB _ [.sh (a360), .sh (a361), .sh (a362), .un] _ _ _ _ from (sb_ret (ee_tuplec (b_tuple T.b_tuple) (el_new (en_comp (c_lc sc__law_some_rows.nd [("k", 3)] (ei_range1 (by rfl) T.b_range (el_of (xcall h__law_next (av (ev 0) (av (ee_add (el_of (ev 2)) (el_of ee_int)) eak_nil))))) (tn 3 sc__law_some_rows.nd) nm_pure nm_len (q1 (P := fun ds m => ETs (Sta.blk _ _) (setE (wipeE _ _) _ ds) _ m) (fun v369 => (show ETs _ [.sh (a360), .sh (a361), .sh (a362), .sh (v369)] _ _ from ets_nil))) (q1 (P := fun ds m => EE (Sta.blk _ _) (setE (wipeE _ _) _ ds) _ m) (fun v369 => (show EE _ [.sh (a360), .sh (a361), .sh (a362), .sh (v369)] _ _ from (xix (el_new (en_lst (ea_cons (xcall h__law_next (av (ev 0) (av (ee_shl (el_of ee_int) (el_of (ev 1))) eak_nil))) (ea_cons (ee_shl (el_of ee_int) (el_of (xcall h__law_next (av (ev 0) (av (ev 1) eak_nil))))) (ea_cons ee_int ea_nil))))) (el_of (xix (el_new (en_lst (ea_cons ee_int (ea_cons ee_int (ea_cons ee_int (ea_cons ee_int (ea_cons ee_int ea_nil))))))) (el_of (xcall h__law_next (av (ev 0) (av ee_int eak_nil))))))))))))))))))
abbrev s__law_within : Stmt := topS 22
theorem sc__law_within : FnScope ["width", "first", "second", "row"] ["width", "first", "second"] (defScope s__law_within) := ⟨rfl, rfl, rfl, by decide +kernel, rfl, by decide +kernel, by decide +kernel⟩
def b__law_within : List D → M (Out Unit Unit) := p3 (fun a415 a416 a417 => (((lcM ((pure (a416) : M D) >>= items) nm (p1 (fun v418 => (pure true : M Bool))) (p1 (fun v418 => (((pure (a415) : M D) >>= fun x423 => ((pure (a417) : M D) >>= fun x421 => ((pure (v418) : M D) >>= fun x419 => (pure [] : M (List D)) >>= fun xs420 => pure (x419 :: xs420)) >>= fun xs422 => pure (x421 :: xs422)) >>= fun xs424 => pure (x423 :: xs424)) >>= m_is_in)))) >>= allD) >>= fun x425 => pure (.rt x425)))
def m__law_within (ds : List D) : M D := runF (b__law_within ds)
theorem o__law_within {p : Pg} (T : Txt p) {f : Addr} {fd : FuncData} (F : Fun p.K "_law_within" "_law_within" s__law_within f fd) (h_is_in : Fnc p 4 "is_in" [.v, .v, .v] m_is_in) : FnOk p.P p.w p.K p.mg p.base (L2.CX p.P p.w) 5 f fd ["width", "first", "second"] (spD p [.v, .v, .v] m__law_within) :=
  fnok_of (k := 4) (N := ["width", "first", "second", "row"]) (body := b__law_within) (shN := fun _ => [.un, .un, .un, .un]) (shB := fun _ => []) F sc__law_within rfl (q3 (P := fun ds m => SB _ (argE _ ds ++ _) _ m _ _) (fun a415 a416 a417 => (show SB _ [.sh (a415), .sh (a416), .sh (a417), .un] _ _ _ _ from (sb_ret (ee_all (b_all T.b_all) (el_new (en_comp (c_lc sc__law_within.nd [("row", 3)] (ei_read (el_of (ev 1))) (tn 3 sc__law_within.nd) nm_pure nm_len (q1 (P := fun ds m => ETs (Sta.blk _ _) (setE (wipeE _ _) _ ds) _ m) (fun v418 => (show ETs _ [.sh (a415), .sh (a416), .sh (a417), .sh (v418)] _ _ from ets_nil))) (q1 (P := fun ds m => EE (Sta.blk _ _) (setE (wipeE _ _) _ ds) _ m) (fun v418 => (show EE _ [.sh (a415), .sh (a416), .sh (a417), .sh (v418)] _ _ from (xcall h_is_in (av (ev 0) (av (ev 2) (av (ev 3) eak_nil)))))))))))))))
abbrev s__law_turned : Stmt := topS 23
theorem sc__law_turned : FnScope ["row", "order", "k"] ["row", "order"] (defScope s__law_turned) := ⟨rfl, rfl, rfl, by decide +kernel, rfl, by decide +kernel, by decide +kernel⟩
def b__law_turned : List D → M (Out Unit Unit) := p2 (fun a426 a427 => (((lcM (((pure (a427) : M D) >>= lenD) >>= range1) nm (p1 (fun v428 => ((((pure (a426) : M D) >>= fun x429 => (pure (v428) : M D) >>= fun x430 => shrD x429 x430) >>= fun x431 => (pure (D.int 1) : M D) >>= fun x432 => andD x431 x432) >>= truth))) (p1 (fun v428 => ((pure (D.int 1) : M D) >>= fun x435 => ((pure (a427) : M D) >>= fun x433 => (pure (v428) : M D) >>= fun x434 => ixD x433 x434) >>= fun x436 => shlD x435 x436)))) >>= sumD) >>= fun x437 => pure (.rt x437)))
def m__law_turned (ds : List D) : M D := runF (b__law_turned ds)
theorem o__law_turned {p : Pg} (T : Txt p) {f : Addr} {fd : FuncData} (F : Fun p.K "_law_turned" "_law_turned" s__law_turned f fd)  : FnOk p.P p.w p.K p.mg p.base (L2.CX p.P p.w) 1 f fd ["row", "order"] (spD p [.v, .v] m__law_turned) :=
  fnok_of (k := 0) (N := ["row", "order", "k"]) (body := b__law_turned) (shN := fun _ => [.un, .un, .un]) (shB := fun _ => []) F sc__law_turned rfl (q2 (P := fun ds m => SB _ (argE _ ds ++ _) _ m _ _) (fun a426 a427 => (show SB _ [.sh (a426), .sh (a427), .un] _ _ _ _ from (sb_ret (ee_sum (b_sum T.b_sum) (el_new (en_comp (c_lc sc__law_turned.nd [("k", 2)] (ei_range1 (by rfl) T.b_range (el_of (ee_len (b_len T.b_len) (el_of (ev 1))))) (tn 2 sc__law_turned.nd) nm_pure nm_len (q1 (P := fun ds m => ETs (Sta.blk _ _) (setE (wipeE _ _) _ ds) _ m) (fun v428 => (show ETs _ [.sh (a426), .sh (a427), .sh (v428)] _ _ from (ets_one (ttr (el_of (ee_and (el_of (ee_shr (el_of (ev 0)) (el_of (ev 2)))) (el_of ee_int)))))))) (q1 (P := fun ds m => EE (Sta.blk _ _) (setE (wipeE _ _) _ ds) _ m) (fun v428 => (show EE _ [.sh (a426), .sh (a427), .sh (v428)] _ _ from (ee_shl (el_of ee_int) (el_of (xix (el_of (ev 1)) (el_of (ev 2))))))))))))))))
abbrev s_law : Stmt := topS 24
theorem sc_law : FnScope ["script", "state", "turn", "width", "first", "second", "one", "two", "both", "either", "row", "more", "left", "order", "turned", "k", "other"] ["script"] (defScope s_law) := ⟨rfl, rfl, rfl, by decide +kernel, rfl, by decide +kernel, by decide +kernel⟩
def b_law : List D → M (Out Unit Unit) := p1 (fun a438 => (((((((pure (a438) : M D) >>= fun x446 => (pure [] : M (List D)) >>= fun xs447 => pure (x446 :: xs447)) >>= m__law_stream) >>= fun x443 => ((pure (D.int 0) : M D) >>= fun x440 => (pure [] : M (List D)) >>= fun xs441 => pure (x440 :: xs441)) >>= fun xs444 => pure (x443 :: xs444)) >>= mkL) >>= celD) >>= fun z439 => (((pure (D.int 6) : M D) >>= range1) >>= fun xs759 => forL (fun (s448 : Unit) x760 => nm x760 >>= p1 (fun v449 => (((pure (D.int 1) : M D) >>= fun x455 => (((pure (z439) : M D) >>= fun x453 => ((pure (D.int 8) : M D) >>= fun x451 => (pure [] : M (List D)) >>= fun xs452 => pure (x451 :: xs452)) >>= fun xs454 => pure (x453 :: xs454)) >>= m__law_next) >>= fun x456 => addD x455 x456) >>= fun z450 => ((((pure (z439) : M D) >>= fun x462 => ((pure (z450) : M D) >>= fun x460 => ((pure (D.int 6) : M D) >>= fun x458 => (pure [] : M (List D)) >>= fun xs459 => pure (x458 :: xs459)) >>= fun xs461 => pure (x460 :: xs461)) >>= fun xs463 => pure (x462 :: xs463)) >>= m__law_some_rows) >>= fun z457 => ((((pure (z439) : M D) >>= fun x469 => ((pure (z450) : M D) >>= fun x467 => ((pure (D.int 6) : M D) >>= fun x465 => (pure [] : M (List D)) >>= fun xs466 => pure (x465 :: xs466)) >>= fun xs468 => pure (x467 :: xs468)) >>= fun xs470 => pure (x469 :: xs470)) >>= m__law_some_rows) >>= fun z464 => ((((pure (z450) : M D) >>= fun x474 => ((pure (z457) : M D) >>= fun x472 => (pure [] : M (List D)) >>= fun xs473 => pure (x472 :: xs473)) >>= fun xs475 => pure (x474 :: xs475)) >>= m_span) >>= fun z471 => ((((pure (z450) : M D) >>= fun x479 => ((pure (z464) : M D) >>= fun x477 => (pure [] : M (List D)) >>= fun xs478 => pure (x477 :: xs478)) >>= fun xs480 => pure (x479 :: xs480)) >>= m_span) >>= fun z476 => ((((pure (z450) : M D) >>= fun x486 => ((pure (z457) : M D) >>= fun x484 => ((pure (z464) : M D) >>= fun x482 => (pure [] : M (List D)) >>= fun xs483 => pure (x482 :: xs483)) >>= fun xs485 => pure (x484 :: xs485)) >>= fun xs487 => pure (x486 :: xs487)) >>= m_in_both) >>= fun z481 => ((((pure (z450) : M D) >>= fun x493 => ((pure (z457) : M D) >>= fun x491 => ((pure (z464) : M D) >>= fun x489 => (pure [] : M (List D)) >>= fun xs490 => pure (x489 :: xs490)) >>= fun xs492 => pure (x491 :: xs492)) >>= fun xs494 => pure (x493 :: xs494)) >>= m_in_one) >>= fun z488 => ((((((pure (z481) : M D) >>= lenD) >>= fun x495 => ((pure (z488) : M D) >>= lenD) >>= fun x496 => addD x495 x496) >>= fun x499 => (((pure (z471) : M D) >>= lenD) >>= fun x497 => ((pure (z476) : M D) >>= lenD) >>= fun x498 => addD x497 x498) >>= fun x500 => neB x499 x500) >>= fun b509 => if b509 = true then (pure true : M Bool) else ((pure (z488) : M D) >>= fun x507 => (((pure (z450) : M D) >>= fun x505 => (((pure (z457) : M D) >>= fun x501 => (pure (z464) : M D) >>= fun x502 => addD x501 x502) >>= fun x503 => (pure [] : M (List D)) >>= fun xs504 => pure (x503 :: xs504)) >>= fun xs506 => pure (x505 :: xs506)) >>= m_span) >>= fun x508 => neB x507 x508)) >>= fun b757 => (if b757 = true then (((pure (D.bl false) : M D) >>= fun x511 => pure (.rt x511)) : M (Out (Unit) _)) else (pure (.nx ()))) >>= seqO fun s510 => (((((pure (z481) : M D) >>= fun x512 => (pure [] : M (List D)) >>= fun xs513 => pure (x512 :: xs513)) >>= m__law_span) >>= fun x521 => (lcM ((((pure (z471) : M D) >>= fun x514 => (pure [] : M (List D)) >>= fun xs515 => pure (x514 :: xs515)) >>= m__law_span) >>= items) nm (p1 (fun v516 => ((pure (v516) : M D) >>= fun x519 => (((pure (z476) : M D) >>= fun x517 => (pure [] : M (List D)) >>= fun xs518 => pure (x517 :: xs518)) >>= m__law_span) >>= fun x520 => inB false x519 x520))) (p1 (fun v516 => (pure (v516) : M D)))) >>= fun x522 => neB x521 x522) >>= fun b756 => (if b756 = true then (((pure (D.bl false) : M D) >>= fun x524 => pure (.rt x524)) : M (Out (Unit) _)) else (pure (.nx ()))) >>= seqO fun s523 => ((((((pure (z450) : M D) >>= fun x527 => ((pure (z488) : M D) >>= fun x525 => (pure [] : M (List D)) >>= fun xs526 => pure (x525 :: xs526)) >>= fun xs528 => pure (x527 :: xs528)) >>= m_across) >>= fun x543 => (((pure (z450) : M D) >>= fun x541 => ((((pure (z450) : M D) >>= fun x537 => ((pure (z471) : M D) >>= fun x535 => (pure [] : M (List D)) >>= fun xs536 => pure (x535 :: xs536)) >>= fun xs538 => pure (x537 :: xs538)) >>= m_across) >>= fun x539 => ((((pure (z450) : M D) >>= fun x531 => ((pure (z476) : M D) >>= fun x529 => (pure [] : M (List D)) >>= fun xs530 => pure (x529 :: xs530)) >>= fun xs532 => pure (x531 :: xs532)) >>= m_across) >>= fun x533 => (pure [] : M (List D)) >>= fun xs534 => pure (x533 :: xs534)) >>= fun xs540 => pure (x539 :: xs540)) >>= fun xs542 => pure (x541 :: xs542)) >>= m_in_both) >>= fun x544 => neB x543 x544) >>= fun b565 => if b565 = true then (pure true : M Bool) else ((((pure (z450) : M D) >>= fun x547 => ((pure (z481) : M D) >>= fun x545 => (pure [] : M (List D)) >>= fun xs546 => pure (x545 :: xs546)) >>= fun xs548 => pure (x547 :: xs548)) >>= m_across) >>= fun x563 => (((pure (z450) : M D) >>= fun x561 => ((((pure (z450) : M D) >>= fun x557 => ((pure (z471) : M D) >>= fun x555 => (pure [] : M (List D)) >>= fun xs556 => pure (x555 :: xs556)) >>= fun xs558 => pure (x557 :: xs558)) >>= m_across) >>= fun x559 => ((((pure (z450) : M D) >>= fun x551 => ((pure (z476) : M D) >>= fun x549 => (pure [] : M (List D)) >>= fun xs550 => pure (x549 :: xs550)) >>= fun xs552 => pure (x551 :: xs552)) >>= m_across) >>= fun x553 => (pure [] : M (List D)) >>= fun xs554 => pure (x553 :: xs554)) >>= fun xs560 => pure (x559 :: xs560)) >>= fun xs562 => pure (x561 :: xs562)) >>= m_in_one) >>= fun x564 => neB x563 x564)) >>= fun b755 => (if b755 = true then (((pure (D.bl false) : M D) >>= fun x567 => pure (.rt x567)) : M (Out (Unit) _)) else (pure (.nx ()))) >>= seqO fun s566 => ((((((pure (z471) : M D) >>= lenD) >>= fun x572 => ((((pure (z450) : M D) >>= fun x570 => ((pure (z457) : M D) >>= fun x568 => (pure [] : M (List D)) >>= fun xs569 => pure (x568 :: xs569)) >>= fun xs571 => pure (x570 :: xs571)) >>= m_across) >>= lenD) >>= fun x573 => addD x572 x573) >>= fun x574 => (pure (z450) : M D) >>= fun x575 => neB x574 x575) >>= fun b586 => if b586 = true then (pure true : M Bool) else ((((pure (z450) : M D) >>= fun x582 => ((((pure (z450) : M D) >>= fun x578 => ((pure (z457) : M D) >>= fun x576 => (pure [] : M (List D)) >>= fun xs577 => pure (x576 :: xs577)) >>= fun xs579 => pure (x578 :: xs579)) >>= m_across) >>= fun x580 => (pure [] : M (List D)) >>= fun xs581 => pure (x580 :: xs581)) >>= fun xs583 => pure (x582 :: xs583)) >>= m_across) >>= fun x584 => (pure (z471) : M D) >>= fun x585 => neB x584 x585)) >>= fun b754 => (if b754 = true then (((pure (D.bl false) : M D) >>= fun x588 => pure (.rt x588)) : M (Out (Unit) _)) else (pure (.nx ()))) >>= seqO fun s587 => (((((pure (z450) : M D) >>= fun x591 => ((pure (z457) : M D) >>= fun x589 => (pure [] : M (List D)) >>= fun xs590 => pure (x589 :: xs590)) >>= fun xs592 => pure (x591 :: xs592)) >>= m_across) >>= items) >>= fun xs752 => forL (fun (s593 : Unit) x753 => nm x753 >>= p1 (fun v594 => ((((lcM ((pure (z457) : M D) >>= items) nm (p1 (fun v595 => (pure true : M Bool))) (p1 (fun v595 => (((((pure (v594) : M D) >>= fun x605 => (pure (v595) : M D) >>= fun x606 => andD x605 x606) >>= fun x607 => (pure [] : M (List D)) >>= fun xs608 => pure (x607 :: xs608)) >>= m__law_odd) >>= fun x603 => (pure (D.int 1) : M D) >>= fun x604 => eqB x603 x604 >>= fun b602 => (pure (D.bl b602) : M D))))) >>= anyD) >>= truth) >>= fun b611 => (if b611 = true then (((pure (D.bl false) : M D) >>= fun x610 => pure (.rt x610)) : M (Out (Unit) _)) else (pure (.nx ()))) >>= seqO fun s609 => (pure (.nx ()))))) () xs752 >>= seqO fun s593 => ((((((pure (z450) : M D) >>= fun x616 => ((pure (z471) : M D) >>= fun x614 => ((pure (z476) : M D) >>= fun x612 => (pure [] : M (List D)) >>= fun xs613 => pure (x612 :: xs613)) >>= fun xs615 => pure (x614 :: xs615)) >>= fun xs617 => pure (x616 :: xs617)) >>= m__law_within) >>= fun x632 => (((pure (z450) : M D) >>= fun x630 => ((((pure (z450) : M D) >>= fun x626 => ((pure (z476) : M D) >>= fun x624 => (pure [] : M (List D)) >>= fun xs625 => pure (x624 :: xs625)) >>= fun xs627 => pure (x626 :: xs627)) >>= m_across) >>= fun x628 => ((((pure (z450) : M D) >>= fun x620 => ((pure (z471) : M D) >>= fun x618 => (pure [] : M (List D)) >>= fun xs619 => pure (x618 :: xs619)) >>= fun xs621 => pure (x620 :: xs621)) >>= m_across) >>= fun x622 => (pure [] : M (List D)) >>= fun xs623 => pure (x622 :: xs623)) >>= fun xs629 => pure (x628 :: xs629)) >>= fun xs631 => pure (x630 :: xs631)) >>= m__law_within) >>= fun x633 => neB x632 x633) >>= fun b647 => if b647 = true then (pure true : M Bool) else ((((pure (z450) : M D) >>= fun x638 => ((pure (z471) : M D) >>= fun x636 => ((pure (z476) : M D) >>= fun x634 => (pure [] : M (List D)) >>= fun xs635 => pure (x634 :: xs635)) >>= fun xs637 => pure (x636 :: xs637)) >>= fun xs639 => pure (x638 :: xs639)) >>= m__law_within) >>= fun x645 => ((pure (z488) : M D) >>= fun x643 => (pure (z476) : M D) >>= fun x644 => eqB x643 x644 >>= fun b642 => (pure (D.bl b642) : M D)) >>= fun x646 => neB x645 x646)) >>= fun b751 => (if b751 = true then (((pure (D.bl false) : M D) >>= fun x649 => pure (.rt x649)) : M (Out (Unit) _)) else (pure (.nx ()))) >>= seqO fun s648 => ((((pure (z439) : M D) >>= fun x655 => (((pure (D.int 1) : M D) >>= fun x651 => (pure (z450) : M D) >>= fun x652 => shlD x651 x652) >>= fun x653 => (pure [] : M (List D)) >>= fun xs654 => pure (x653 :: xs654)) >>= fun xs656 => pure (x655 :: xs656)) >>= m__law_next) >>= fun z650 => ((((pure (z450) : M D) >>= fun x665 => (((pure (z457) : M D) >>= fun x661 => (((pure (z650) : M D) >>= fun x658 => (pure [] : M (List D)) >>= fun xs659 => pure (x658 :: xs659)) >>= mkT) >>= fun x662 => addD x661 x662) >>= fun x663 => (pure [] : M (List D)) >>= fun xs664 => pure (x663 :: xs664)) >>= fun xs666 => pure (x665 :: xs666)) >>= m_span) >>= fun z657 => (((((pure (z657) : M D) >>= lenD) >>= fun x676 => (((pure (z471) : M D) >>= lenD) >>= fun x674 => (((((pure (z450) : M D) >>= fun x671 => ((pure (z457) : M D) >>= fun x669 => ((pure (z650) : M D) >>= fun x667 => (pure [] : M (List D)) >>= fun xs668 => pure (x667 :: xs668)) >>= fun xs670 => pure (x669 :: xs670)) >>= fun xs672 => pure (x671 :: xs672)) >>= m_is_in) >>= truth >>= fun b673 => (pure (D.bl (!b673)) : M D)) >>= intD) >>= fun x675 => addD x674 x675) >>= fun x677 => neB x676 x677) >>= fun b695 => if b695 = true then (pure true : M Bool) else ((((pure (z450) : M D) >>= fun x682 => ((pure (z457) : M D) >>= fun x680 => ((pure (z650) : M D) >>= fun x678 => (pure [] : M (List D)) >>= fun xs679 => pure (x678 :: xs679)) >>= fun xs681 => pure (x680 :: xs681)) >>= fun xs683 => pure (x682 :: xs683)) >>= m_is_in) >>= fun x693 => ((pure (z650) : M D) >>= fun x689 => (((pure (z471) : M D) >>= fun x691 => (pure [] : M (List D)) >>= fun xs692 => pure (x691 :: xs692)) >>= m__law_span) >>= fun x690 => inB false x689 x690 >>= fun b688 => (pure (D.bl b688) : M D)) >>= fun x694 => neB x693 x694)) >>= fun b750 => (if b750 = true then (((pure (D.bl false) : M D) >>= fun x697 => pure (.rt x697)) : M (Out (Unit) _)) else (pure (.nx ()))) >>= seqO fun s696 => ((((pure (z450) : M D) >>= intG >>= rgM 0) >>= celD) >>= fun z698 => ((lcM ((pure (z450) : M D) >>= range1) nm (p1 (fun v700 => (pure true : M Bool))) (p1 (fun v700 => ((pure (z698) : M D) >>= fun x705 => celL x705 >>= fun u707 => (((pure (z439) : M D) >>= fun x703 => (((pure (z698) : M D) >>= lenD) >>= fun x701 => (pure [] : M (List D)) >>= fun xs702 => pure (x701 :: xs702)) >>= fun xs704 => pure (x703 :: xs704)) >>= m__law_next) >>= fun x706 => cellPop x705 x706)))) >>= fun z699 => (((lcM ((pure (z457) : M D) >>= items) nm (p1 (fun v709 => (pure true : M Bool))) (p1 (fun v709 => (((pure (v709) : M D) >>= fun x712 => ((pure (z699) : M D) >>= fun x710 => (pure [] : M (List D)) >>= fun xs711 => pure (x710 :: xs711)) >>= fun xs713 => pure (x712 :: xs713)) >>= m__law_turned)))) >>= tupleD) >>= fun z708 => (((((((pure (z450) : M D) >>= fun x716 => ((pure (z708) : M D) >>= fun x714 => (pure [] : M (List D)) >>= fun xs715 => pure (x714 :: xs715)) >>= fun xs717 => pure (x716 :: xs717)) >>= m_span) >>= fun x718 => (pure [] : M (List D)) >>= fun xs719 => pure (x718 :: xs719)) >>= m__law_span) >>= fun x727 => ((lcM ((((pure (z471) : M D) >>= fun x720 => (pure [] : M (List D)) >>= fun xs721 => pure (x720 :: xs721)) >>= m__law_span) >>= items) nm (p1 (fun v722 => (pure true : M Bool))) (p1 (fun v722 => (((pure (v722) : M D) >>= fun x725 => ((pure (z699) : M D) >>= fun x723 => (pure [] : M (List D)) >>= fun xs724 => pure (x723 :: xs724)) >>= fun xs726 => pure (x725 :: xs726)) >>= m__law_turned)))) >>= sortedD) >>= fun x728 => neB x727 x728) >>= fun b749 => (if b749 = true then (((pure (D.bl false) : M D) >>= fun x730 => pure (.rt x730)) : M (Out (Unit) _)) else (pure (.nx ()))) >>= seqO fun s729 => ((((((pure (z450) : M D) >>= fun x733 => ((pure (z471) : M D) >>= fun x731 => (pure [] : M (List D)) >>= fun xs732 => pure (x731 :: xs732)) >>= fun xs734 => pure (x733 :: xs734)) >>= m_span) >>= fun x735 => (pure (z471) : M D) >>= fun x736 => neB x735 x736) >>= fun b745 => if b745 = true then (pure true : M Bool) else ((((pure (z450) : M D) >>= fun x741 => ((((pure (z471) : M D) >>= revD) >>= fun x737 => (pure (z457) : M D) >>= fun x738 => addD x737 x738) >>= fun x739 => (pure [] : M (List D)) >>= fun xs740 => pure (x739 :: xs740)) >>= fun xs742 => pure (x741 :: xs742)) >>= m_span) >>= fun x743 => (pure (z471) : M D) >>= fun x744 => neB x743 x744)) >>= fun b748 => (if b748 = true then (((pure (D.bl false) : M D) >>= fun x747 => pure (.rt x747)) : M (Out (Unit) _)) else (pure (.nx ()))) >>= seqO fun s746 => (pure (.nx ()))))))))))))))))))))))))) () xs759 >>= seqO fun s448 => ((pure (D.bl true) : M D) >>= fun x758 => pure (.rt x758)))))
def m_law (ds : List D) : M D := runF (b_law ds)
theorem o_law {p : Pg} (T : Txt p) {f : Addr} {fd : FuncData} (F : Fun p.K "law" "law" s_law f fd) (h__law_stream : Fnc p 1 "_law_stream" [.v] m__law_stream) (h__law_next : Fnc p 1 "_law_next" [.v, .v] m__law_next) (h__law_some_rows : Fnc p 2 "_law_some_rows" [.v, .v, .v] m__law_some_rows) (h_span : Fnc p 4 "span" [.v, .v] m_span) (h_in_both : Fnc p 5 "in_both" [.v, .v, .v] m_in_both) (h_in_one : Fnc p 4 "in_one" [.v, .v, .v] m_in_one) (h__law_span : Fnc p 1 "_law_span" [.v] m__law_span) (h_across : Fnc p 4 "across" [.v, .v] m_across) (h__law_odd : Fnc p 1 "_law_odd" [.v] m__law_odd) (h__law_within : Fnc p 5 "_law_within" [.v, .v, .v] m__law_within) (h_is_in : Fnc p 4 "is_in" [.v, .v, .v] m_is_in) (h__law_turned : Fnc p 1 "_law_turned" [.v, .v] m__law_turned) : FnOk p.P p.w p.K p.mg p.base (L2.CX p.P p.w) 6 f fd ["script"] (spD p [.v] m_law) :=
  fnok_of (k := 5) (N := ["script", "state", "turn", "width", "first", "second", "one", "two", "both", "either", "row", "more", "left", "order", "turned", "k", "other"]) (body := b_law) (shN := fun _ => [.un, .un, .un, .un, .un, .un, .un, .un, .un, .un, .un, .un, .un, .un, .un, .un, .un]) (shB := fun _ => []) F sc_law rfl (q1 (P := fun ds m => SB _ (argE _ ds ++ _) _ m _ _) (fun a438 => (show SB _ [.sh (a438), .un, .un, .un, .un, .un, .un, .un, .un, .un, .un, .un, .un, .un, .un, .un, .un] _ _ _ _ from (s_set 1 sc_law.nd (ee_cell (en_lst (ea_cons (xcall h__law_stream (av (ev 0) eak_nil)) (ea_cons ee_int ea_nil)))) (fun z439 => (show SB _ [.sh (a438), .sh (z439), .un, .un, .un, .un, .un, .un, .un, .un, .un, .un, .un, .un, .un, .un, .un] _ _ _ _ from (s_for (Z := Unit) (sh := fun s448 => [.sh (a438), .sh (z439), .un, .un, .un, .un, .un, .un, .un, .un, .un, .un, .un, .un, .un, .un, .un]) (ei_range1 (by rfl) T.b_range (el_of ee_int)) (tn 2 sc_law.nd) nm_pure nm_len (.eq (.eq (.un (.un (.un (.un (.un (.un (.un (.un (.un (.un (.un (.un (.un (.un (.un Le.nil))))))))))))))))) (fun s448 => q1 (P := fun ds m => SB _ (setE _ _ ds) _ m _ _) (fun v449 => (show SB _ [.sh (a438), .sh (z439), .sh (v449), .un, .un, .un, .un, .un, .un, .un, .un, .un, .un, .un, .un, .un, .un] _ _ _ _ from (s_set 3 sc_law.nd (ee_add (el_of ee_int) (el_of (xcall h__law_next (av (ev 1) (av ee_int eak_nil))))) (fun z450 => (show SB _ [.sh (a438), .sh (z439), .sh (v449), .sh (z450), .un, .un, .un, .un, .un, .un, .un, .un, .un, .un, .un, .un, .un] _ _ _ _ from (s_set 4 sc_law.nd (xcall h__law_some_rows (av (ev 1) (av (ev 3) (av ee_int eak_nil)))) (fun z457 => (show SB _ [.sh (a438), .sh (z439), .sh (v449), .sh (z450), .sh (z457), .un, .un, .un, .un, .un, .un, .un, .un, .un, .un, .un, .un] _ _ _ _ from (s_set 5 sc_law.nd (xcall h__law_some_rows (av (ev 1) (av (ev 3) (av ee_int eak_nil)))) (fun z464 => (show SB _ [.sh (a438), .sh (z439), .sh (v449), .sh (z450), .sh (z457), .sh (z464), .un, .un, .un, .un, .un, .un, .un, .un, .un, .un, .un] _ _ _ _ from (s_set 6 sc_law.nd (xcall h_span (av (ev 3) (av (ev 4) eak_nil))) (fun z471 => (show SB _ [.sh (a438), .sh (z439), .sh (v449), .sh (z450), .sh (z457), .sh (z464), .sh (z471), .un, .un, .un, .un, .un, .un, .un, .un, .un, .un] _ _ _ _ from (s_set 7 sc_law.nd (xcall h_span (av (ev 3) (av (ev 5) eak_nil))) (fun z476 => (show SB _ [.sh (a438), .sh (z439), .sh (v449), .sh (z450), .sh (z457), .sh (z464), .sh (z471), .sh (z476), .un, .un, .un, .un, .un, .un, .un, .un, .un] _ _ _ _ from (s_set 8 sc_law.nd (xcall h_in_both (av (ev 3) (av (ev 4) (av (ev 5) eak_nil)))) (fun z481 => (show SB _ [.sh (a438), .sh (z439), .sh (v449), .sh (z450), .sh (z457), .sh (z464), .sh (z471), .sh (z476), .sh (z481), .un, .un, .un, .un, .un, .un, .un, .un] _ _ _ _ from (s_set 9 sc_law.nd (xcall h_in_one (av (ev 3) (av (ev 4) (av (ev 5) eak_nil)))) (fun z488 => (show SB _ [.sh (a438), .sh (z439), .sh (v449), .sh (z450), .sh (z457), .sh (z464), .sh (z471), .sh (z476), .sh (z481), .sh (z488), .un, .un, .un, .un, .un, .un, .un] _ _ _ _ from (sb_if (J := Unit) (shJ := fun s510 => [.sh (a438), .sh (z439), .sh (v449), .sh (z450), .sh (z457), .sh (z464), .sh (z471), .sh (z476), .sh (z481), .sh (z488), .un, .un, .un, .un, .un, .un, .un]) (et_w (ew_or (tcmp c_ne (el_of (ee_add (el_of (ee_len (b_len T.b_len) (el_of (ev 8)))) (el_of (ee_len (b_len T.b_len) (el_of (ev 9)))))) (el_of (ee_add (el_of (ee_len (b_len T.b_len) (el_of (ev 6)))) (el_of (ee_len (b_len T.b_len) (el_of (ev 7))))))) (ew_or1 (tcmp c_ne (el_of (ev 9)) (el_of (xcall h_span (av (ev 3) (av (ee_add (el_of (ev 4)) (el_of (ev 5))) eak_nil)))))))) (sb_ret ee_bl) (sb_nil (.eq (.eq (.eq (.eq (.eq (.eq (.eq (.eq (.eq (.eq (.un (.un (.un (.un (.un (.un (.un Le.nil)))))))))))))))))) fun s510 => (show SB _ [.sh (a438), .sh (z439), .sh (v449), .sh (z450), .sh (z457), .sh (z464), .sh (z471), .sh (z476), .sh (z481), .sh (z488), .un, .un, .un, .un, .un, .un, .un] _ _ _ _ from (sb_if (J := Unit) (shJ := fun s523 => [.sh (a438), .sh (z439), .sh (v449), .sh (z450), .sh (z457), .sh (z464), .sh (z471), .sh (z476), .sh (z481), .sh (z488), .un, .un, .un, .un, .un, .un, .un]) (tcmp c_ne (el_of (xcall h__law_span (av (ev 8) eak_nil))) (el_new (en_comp (c_lc sc_law.nd [("row", 10)] (ei_read (el_of (xcall h__law_span (av (ev 6) eak_nil)))) (tn 10 sc_law.nd) nm_pure nm_len (q1 (P := fun ds m => ETs (Sta.blk _ _) (setE (wipeE _ _) _ ds) _ m) (fun v516 => (show ETs _ [.sh (a438), .sh (z439), .sh (v449), .sh (z450), .sh (z457), .sh (z464), .sh (z471), .sh (z476), .sh (z481), .sh (z488), .sh (v516), .un, .un, .un, .un, .un, .un] _ _ from (ets_one (tcmp c_in (el_of (ev 10)) (el_of (xcall h__law_span (av (ev 7) eak_nil)))))))) (q1 (P := fun ds m => EE (Sta.blk _ _) (setE (wipeE _ _) _ ds) _ m) (fun v516 => (show EE _ [.sh (a438), .sh (z439), .sh (v449), .sh (z450), .sh (z457), .sh (z464), .sh (z471), .sh (z476), .sh (z481), .sh (z488), .sh (v516), .un, .un, .un, .un, .un, .un] _ _ from (ev 10)))))))) (sb_ret ee_bl) (sb_nil (.eq (.eq (.eq (.eq (.eq (.eq (.eq (.eq (.eq (.eq (.un (.un (.un (.un (.un (.un (.un Le.nil)))))))))))))))))) fun s523 => (show SB _ [.sh (a438), .sh (z439), .sh (v449), .sh (z450), .sh (z457), .sh (z464), .sh (z471), .sh (z476), .sh (z481), .sh (z488), .un, .un, .un, .un, .un, .un, .un] _ _ _ _ from (sb_if (J := Unit) (shJ := fun s566 => [.sh (a438), .sh (z439), .sh (v449), .sh (z450), .sh (z457), .sh (z464), .sh (z471), .sh (z476), .sh (z481), .sh (z488), .un, .un, .un, .un, .un, .un, .un]) (et_w (ew_or (tcmp c_ne (el_of (xcall h_across (av (ev 3) (av (ev 9) eak_nil)))) (el_of (xcall h_in_both (av (ev 3) (av (xcall h_across (av (ev 3) (av (ev 6) eak_nil))) (av (xcall h_across (av (ev 3) (av (ev 7) eak_nil))) eak_nil)))))) (ew_or1 (tcmp c_ne (el_of (xcall h_across (av (ev 3) (av (ev 8) eak_nil)))) (el_of (xcall h_in_one (av (ev 3) (av (xcall h_across (av (ev 3) (av (ev 6) eak_nil))) (av (xcall h_across (av (ev 3) (av (ev 7) eak_nil))) eak_nil))))))))) (sb_ret ee_bl) (sb_nil (.eq (.eq (.eq (.eq (.eq (.eq (.eq (.eq (.eq (.eq (.un (.un (.un (.un (.un (.un (.un Le.nil)))))))))))))))))) fun s566 => (show SB _ [.sh (a438), .sh (z439), .sh (v449), .sh (z450), .sh (z457), .sh (z464), .sh (z471), .sh (z476), .sh (z481), .sh (z488), .un, .un, .un, .un, .un, .un, .un] _ _ _ _ from (sb_if (J := Unit) (shJ := fun s587 => [.sh (a438), .sh (z439), .sh (v449), .sh (z450), .sh (z457), .sh (z464), .sh (z471), .sh (z476), .sh (z481), .sh (z488), .un, .un, .un, .un, .un, .un, .un]) (et_w (ew_or (tcmp c_ne (el_of (ee_add (el_of (ee_len (b_len T.b_len) (el_of (ev 6)))) (el_of (ee_len (b_len T.b_len) (el_of (xcall h_across (av (ev 3) (av (ev 4) eak_nil)))))))) (el_of (ev 3))) (ew_or1 (tcmp c_ne (el_of (xcall h_across (av (ev 3) (av (xcall h_across (av (ev 3) (av (ev 4) eak_nil))) eak_nil)))) (el_of (ev 6)))))) (sb_ret ee_bl) (sb_nil (.eq (.eq (.eq (.eq (.eq (.eq (.eq (.eq (.eq (.eq (.un (.un (.un (.un (.un (.un (.un Le.nil)))))))))))))))))) fun s587 => (show SB _ [.sh (a438), .sh (z439), .sh (v449), .sh (z450), .sh (z457), .sh (z464), .sh (z471), .sh (z476), .sh (z481), .sh (z488), .un, .un, .un, .un, .un, .un, .un] _ _ _ _ from (s_for (Z := Unit) (sh := fun s593 => [.sh (a438), .sh (z439), .sh (v449), .sh (z450), .sh (z457), .sh (z464), .sh (z471), .sh (z476), .sh (z481), .sh (z488), .un, .un, .un, .un, .un, .un, .un]) (ei_seq (xcall h_across (av (ev 3) (av (ev 4) eak_nil)))) (tn 10 sc_law.nd) nm_pure nm_len (.eq (.eq (.eq (.eq (.eq (.eq (.eq (.eq (.eq (.eq (.un (.un (.un (.un (.un (.un (.un Le.nil))))))))))))))))) (fun s593 => q1 (P := fun ds m => SB _ (setE _ _ ds) _ m _ _) (fun v594 => (show SB _ [.sh (a438), .sh (z439), .sh (v449), .sh (z450), .sh (z457), .sh (z464), .sh (z471), .sh (z476), .sh (z481), .sh (z488), .sh (v594), .un, .un, .un, .un, .un, .un] _ _ _ _ from (sb_if (J := Unit) (shJ := fun s609 => [.sh (a438), .sh (z439), .sh (v449), .sh (z450), .sh (z457), .sh (z464), .sh (z471), .sh (z476), .sh (z481), .sh (z488), .sh (v594), .un, .un, .un, .un, .un, .un]) (ttr (el_of (ee_any (b_any T.b_any) (el_new (en_comp (c_lc sc_law.nd [("other", 16)] (ei_read (el_of (ev 4))) (tn 16 sc_law.nd) nm_pure nm_len (q1 (P := fun ds m => ETs (Sta.blk _ _) (setE (wipeE _ _) _ ds) _ m) (fun v595 => (show ETs _ [.sh (a438), .sh (z439), .sh (v449), .sh (z450), .sh (z457), .sh (z464), .sh (z471), .sh (z476), .sh (z481), .sh (z488), .sh (v594), .un, .un, .un, .un, .un, .sh (v595)] _ _ from ets_nil))) (q1 (P := fun ds m => EE (Sta.blk _ _) (setE (wipeE _ _) _ ds) _ m) (fun v595 => (show EE _ [.sh (a438), .sh (z439), .sh (v449), .sh (z450), .sh (z457), .sh (z464), .sh (z471), .sh (z476), .sh (z481), .sh (z488), .sh (v594), .un, .un, .un, .un, .un, .sh (v595)] _ _ from (xcmp c_eq (el_of (xcall h__law_odd (av (ee_and (el_of (ev 10)) (el_of (ev 16))) eak_nil))) (el_of ee_int))))))))))) (sb_ret ee_bl) (sb_nil (.eq (.eq (.eq (.eq (.eq (.eq (.eq (.eq (.eq (.eq (.eq (.un (.un (.un (.un (.un (.un Le.nil)))))))))))))))))) fun s609 => (show SB _ [.sh (a438), .sh (z439), .sh (v449), .sh (z450), .sh (z457), .sh (z464), .sh (z471), .sh (z476), .sh (z481), .sh (z488), .sh (v594), .un, .un, .un, .un, .un, .un] _ _ _ _ from (sb_nil (.eq (.eq (.eq (.eq (.eq (.eq (.eq (.eq (.eq (.eq (.un (.un (.un (.un (.un (.un (.un Le.nil))))))))))))))))))))))) fun s593 => (show SB _ [.sh (a438), .sh (z439), .sh (v449), .sh (z450), .sh (z457), .sh (z464), .sh (z471), .sh (z476), .sh (z481), .sh (z488), .un, .un, .un, .un, .un, .un, .un] _ _ _ _ from (sb_if (J := Unit) (shJ := fun s648 => [.sh (a438), .sh (z439), .sh (v449), .sh (z450), .sh (z457), .sh (z464), .sh (z471), .sh (z476), .sh (z481), .sh (z488), .un, .un, .un, .un, .un, .un, .un]) (et_w (ew_or (tcmp c_ne (el_of (xcall h__law_within (av (ev 3) (av (ev 6) (av (ev 7) eak_nil))))) (el_of (xcall h__law_within (av (ev 3) (av (xcall h_across (av (ev 3) (av (ev 7) eak_nil))) (av (xcall h_across (av (ev 3) (av (ev 6) eak_nil))) eak_nil)))))) (ew_or1 (tcmp c_ne (el_of (xcall h__law_within (av (ev 3) (av (ev 6) (av (ev 7) eak_nil))))) (el_of (xcmp c_eq (el_of (ev 9)) (el_of (ev 7)))))))) (sb_ret ee_bl) (sb_nil (.eq (.eq (.eq (.eq (.eq (.eq (.eq (.eq (.eq (.eq (.un (.un (.un (.un (.un (.un (.un Le.nil)))))))))))))))))) fun s648 => (show SB _ [.sh (a438), .sh (z439), .sh (v449), .sh (z450), .sh (z457), .sh (z464), .sh (z471), .sh (z476), .sh (z481), .sh (z488), .un, .un, .un, .un, .un, .un, .un] _ _ _ _ from (s_set 10 sc_law.nd (xcall h__law_next (av (ev 1) (av (ee_shl (el_of ee_int) (el_of (ev 3))) eak_nil))) (fun z650 => (show SB _ [.sh (a438), .sh (z439), .sh (v449), .sh (z450), .sh (z457), .sh (z464), .sh (z471), .sh (z476), .sh (z481), .sh (z488), .sh (z650), .un, .un, .un, .un, .un, .un] _ _ _ _ from (s_set 11 sc_law.nd (xcall h_span (av (ev 3) (av (ee_add (el_of (ev 4)) (el_of (ee_tup (ea_cons (ev 10) ea_nil)))) eak_nil))) (fun z657 => (show SB _ [.sh (a438), .sh (z439), .sh (v449), .sh (z450), .sh (z457), .sh (z464), .sh (z471), .sh (z476), .sh (z481), .sh (z488), .sh (z650), .sh (z657), .un, .un, .un, .un, .un] _ _ _ _ from (sb_if (J := Unit) (shJ := fun s696 => [.sh (a438), .sh (z439), .sh (v449), .sh (z450), .sh (z457), .sh (z464), .sh (z471), .sh (z476), .sh (z481), .sh (z488), .sh (z650), .sh (z657), .un, .un, .un, .un, .un]) (et_w (ew_or (tcmp c_ne (el_of (ee_len (b_len T.b_len) (el_of (ev 11)))) (el_of (ee_add (el_of (ee_len (b_len T.b_len) (el_of (ev 6)))) (el_of (ee_intc (b_int T.b_int) (el_of (ee_not (el_of (xcall h_is_in (av (ev 3) (av (ev 4) (av (ev 10) eak_nil)))))))))))) (ew_or1 (tcmp c_ne (el_of (xcall h_is_in (av (ev 3) (av (ev 4) (av (ev 10) eak_nil))))) (el_of (xcmp c_in (el_of (ev 10)) (el_of (xcall h__law_span (av (ev 6) eak_nil))))))))) (sb_ret ee_bl) (sb_nil (.eq (.eq (.eq (.eq (.eq (.eq (.eq (.eq (.eq (.eq (.eq (.eq (.un (.un (.un (.un (.un Le.nil)))))))))))))))))) fun s696 => (show SB _ [.sh (a438), .sh (z439), .sh (v449), .sh (z450), .sh (z457), .sh (z464), .sh (z471), .sh (z476), .sh (z481), .sh (z488), .sh (z650), .sh (z657), .un, .un, .un, .un, .un] _ _ _ _ from (s_set 12 sc_law.nd (ee_cell (en_listRg1 (by rfl) T.b_list (by rfl) T.b_range (el_of (ev 3)))) (fun z698 => (show SB _ [.sh (a438), .sh (z439), .sh (v449), .sh (z450), .sh (z457), .sh (z464), .sh (z471), .sh (z476), .sh (z481), .sh (z488), .sh (z650), .sh (z657), .sh (z698), .un, .un, .un, .un] _ _ _ _ from (s_set 13 sc_law.nd (ee_new (en_comp (c_lc sc_law.nd [("k", 15)] (ei_range1 (by rfl) T.b_range (el_of (ev 3))) (tn 15 sc_law.nd) nm_pure nm_len (q1 (P := fun ds m => ETs (Sta.blk _ _) (setE (wipeE _ _) _ ds) _ m) (fun v700 => (show ETs _ [.sh (a438), .sh (z439), .sh (v449), .sh (z450), .sh (z457), .sh (z464), .sh (z471), .sh (z476), .sh (z481), .sh (z488), .sh (z650), .sh (z657), .sh (z698), .un, .un, .sh (v700), .un] _ _ from ets_nil))) (q1 (P := fun ds m => EE (Sta.blk _ _) (setE (wipeE _ _) _ ds) _ m) (fun v700 => (show EE _ [.sh (a438), .sh (z439), .sh (v449), .sh (z450), .sh (z457), .sh (z464), .sh (z471), .sh (z476), .sh (z481), .sh (z488), .sh (z650), .sh (z657), .sh (z698), .un, .un, .sh (v700), .un] _ _ from (ee_cpop (ev 12) (xcall h__law_next (av (ev 1) (av (ee_len (b_len T.b_len) (el_of (ev 12))) eak_nil)))))))))) (fun z699 => (show SB _ [.sh (a438), .sh (z439), .sh (v449), .sh (z450), .sh (z457), .sh (z464), .sh (z471), .sh (z476), .sh (z481), .sh (z488), .sh (z650), .sh (z657), .sh (z698), .sh (z699), .un, .un, .un] _ _ _ _ from (s_set 14 sc_law.nd (ee_tuplec (b_tuple T.b_tuple) (el_new (en_comp (c_lc sc_law.nd [("other", 16)] (ei_read (el_of (ev 4))) (tn 16 sc_law.nd) nm_pure nm_len (q1 (P := fun ds m => ETs (Sta.blk _ _) (setE (wipeE _ _) _ ds) _ m) (fun v709 => (show ETs _ [.sh (a438), .sh (z439), .sh (v449), .sh (z450), .sh (z457), .sh (z464), .sh (z471), .sh (z476), .sh (z481), .sh (z488), .sh (z650), .sh (z657), .sh (z698), .sh (z699), .un, .un, .sh (v709)] _ _ from ets_nil))) (q1 (P := fun ds m => EE (Sta.blk _ _) (setE (wipeE _ _) _ ds) _ m) (fun v709 => (show EE _ [.sh (a438), .sh (z439), .sh (v449), .sh (z450), .sh (z457), .sh (z464), .sh (z471), .sh (z476), .sh (z481), .sh (z488), .sh (z650), .sh (z657), .sh (z698), .sh (z699), .un, .un, .sh (v709)] _ _ from (xcall h__law_turned (av (ev 16) (av (ev 13) eak_nil)))))))))) (fun z708 => (show SB _ [.sh (a438), .sh (z439), .sh (v449), .sh (z450), .sh (z457), .sh (z464), .sh (z471), .sh (z476), .sh (z481), .sh (z488), .sh (z650), .sh (z657), .sh (z698), .sh (z699), .sh (z708), .un, .un] _ _ _ _ from (sb_if (J := Unit) (shJ := fun s729 => [.sh (a438), .sh (z439), .sh (v449), .sh (z450), .sh (z457), .sh (z464), .sh (z471), .sh (z476), .sh (z481), .sh (z488), .sh (z650), .sh (z657), .sh (z698), .sh (z699), .sh (z708), .un, .un]) (tcmp c_ne (el_of (xcall h__law_span (av (xcall h_span (av (ev 3) (av (ev 14) eak_nil))) eak_nil))) (el_new (en_sorted (b_sorted T.b_sorted) (el_new (en_comp (c_lc sc_law.nd [("other", 16)] (ei_read (el_of (xcall h__law_span (av (ev 6) eak_nil)))) (tn 16 sc_law.nd) nm_pure nm_len (q1 (P := fun ds m => ETs (Sta.blk _ _) (setE (wipeE _ _) _ ds) _ m) (fun v722 => (show ETs _ [.sh (a438), .sh (z439), .sh (v449), .sh (z450), .sh (z457), .sh (z464), .sh (z471), .sh (z476), .sh (z481), .sh (z488), .sh (z650), .sh (z657), .sh (z698), .sh (z699), .sh (z708), .un, .sh (v722)] _ _ from ets_nil))) (q1 (P := fun ds m => EE (Sta.blk _ _) (setE (wipeE _ _) _ ds) _ m) (fun v722 => (show EE _ [.sh (a438), .sh (z439), .sh (v449), .sh (z450), .sh (z457), .sh (z464), .sh (z471), .sh (z476), .sh (z481), .sh (z488), .sh (z650), .sh (z657), .sh (z698), .sh (z699), .sh (z708), .un, .sh (v722)] _ _ from (xcall h__law_turned (av (ev 16) (av (ev 13) eak_nil)))))))))))) (sb_ret ee_bl) (sb_nil (.eq (.eq (.eq (.eq (.eq (.eq (.eq (.eq (.eq (.eq (.eq (.eq (.eq (.eq (.eq (.un (.un Le.nil)))))))))))))))))) fun s729 => (show SB _ [.sh (a438), .sh (z439), .sh (v449), .sh (z450), .sh (z457), .sh (z464), .sh (z471), .sh (z476), .sh (z481), .sh (z488), .sh (z650), .sh (z657), .sh (z698), .sh (z699), .sh (z708), .un, .un] _ _ _ _ from (sb_if (J := Unit) (shJ := fun s746 => [.sh (a438), .sh (z439), .sh (v449), .sh (z450), .sh (z457), .sh (z464), .sh (z471), .sh (z476), .sh (z481), .sh (z488), .sh (z650), .sh (z657), .sh (z698), .sh (z699), .sh (z708), .un, .un]) (et_w (ew_or (tcmp c_ne (el_of (xcall h_span (av (ev 3) (av (ev 6) eak_nil)))) (el_of (ev 6))) (ew_or1 (tcmp c_ne (el_of (xcall h_span (av (ev 3) (av (ee_add (el_of (ee_revT (el_of (ev 6)))) (el_of (ev 4))) eak_nil)))) (el_of (ev 6)))))) (sb_ret ee_bl) (sb_nil (.eq (.eq (.eq (.eq (.eq (.eq (.eq (.eq (.eq (.eq (.eq (.eq (.eq (.eq (.eq (.un (.un Le.nil)))))))))))))))))) fun s746 => (show SB _ [.sh (a438), .sh (z439), .sh (v449), .sh (z450), .sh (z457), .sh (z464), .sh (z471), .sh (z476), .sh (z481), .sh (z488), .sh (z650), .sh (z657), .sh (z698), .sh (z699), .sh (z708), .un, .un] _ _ _ _ from (sb_nil (.eq (.eq (.un (.un (.un (.un (.un (.un (.un (.un (.un (.un (.un (.un (.un (.un (.un Le.nil))))))))))))))))))))))))))) (hs := sw_lc rfl))))))))))))))))))))))))))))))))))))))))))))))))) fun s448 => (show SB _ [.sh (a438), .sh (z439), .un, .un, .un, .un, .un, .un, .un, .un, .un, .un, .un, .un, .un, .un, .un] _ _ _ _ from (sb_ret ee_bl)))))))))
theorem all_mk {l : PySem.W.OpenLaw} {w : World} {K : PySem.W.Frag} {h : Heap} {mg : Str → Option Value} {fa f0 f1 f2 f3 f4 f5 f6 f7 f8 f9 f10 f11 f12 f13 f14 f15 f16 f17 : Addr} (X : K.In h) (G : h.Ns mainGlobals mg) (hfa : mg "law" = some (.ref fa))
    {od0 an0 od1 an1 od2 an2 od3 an3 od4 an4 od5 an5 od6 an6 od7 an7 od8 an8 od9 an9 od10 an10 od11 an11 od12 an12 od13 an13 od14 an14 od15 an15 od16 an16 od17 an17 : Option Addr} {sl0 sl1 sl2 sl3 sl4 sl5 sl6 sl7 sl8 sl9 sl10 sl11 sl12 sl13 sl14 sl15 sl16 sl17 : Array (Option Value)} {oc0 kV0 dc0 pm0 cd0 ct0 oc1 kV1 dc1 pm1 cd1 ct1 oc2 kV2 dc2 pm2 cd2 ct2 oc3 kV3 dc3 pm3 cd3 ct3 oc4 kV4 dc4 pm4 cd4 ct4 oc5 kV5 dc5 pm5 cd5 ct5 oc6 kV6 dc6 pm6 cd6 ct6 oc7 kV7 dc7 pm7 cd7 ct7 oc8 kV8 dc8 pm8 cd8 ct8 oc9 kV9 dc9 pm9 cd9 ct9 oc10 kV10 dc10 pm10 cd10 ct10 oc11 kV11 dc11 pm11 cd11 ct11 oc12 kV12 dc12 pm12 cd12 ct12 oc13 kV13 dc13 pm13 cd13 ct13 oc14 kV14 dc14 pm14 cd14 ct14 oc15 kV15 dc15 pm15 cd15 ct15 oc16 kV16 dc16 pm16 cd16 ct16 oc17 kV17 dc17 pm17 cd17 ct17 : Value} {t_MAX_SHOWN_ROWS t_MAX_WIDTH : Tok}
    (a0 : PySem.W.nsIn K mainGlobals "check_width" = some (some (.ref f0))) (l0 : K.lookup f0 = some ⟨oc0, od0, .func (PySem.W.fnOf "check_width" "check_width" (defArgs s_check_width) (defBody s_check_width) (defScope s_check_width) .none kV0 dc0 pm0 an0 cd0 ct0), sl0⟩) (c0 : PySem.W.codeIn K cd0 "check_width" = true) (k0 : PySem.W.keepIn K (.ref f0) = true)
    (a1 : PySem.W.nsIn K mainGlobals "check_rows" = some (some (.ref f1))) (l1 : K.lookup f1 = some ⟨oc1, od1, .func (PySem.W.fnOf "check_rows" "check_rows" (defArgs s_check_rows) (defBody s_check_rows) (defScope s_check_rows) .none kV1 dc1 pm1 an1 cd1 ct1), sl1⟩) (c1 : PySem.W.codeIn K cd1 "check_rows" = true) (k1 : PySem.W.keepIn K (.ref f1) = true)
    (a2 : PySem.W.nsIn K mainGlobals "top_of" = some (some (.ref f2))) (l2 : K.lookup f2 = some ⟨oc2, od2, .func (PySem.W.fnOf "top_of" "top_of" (defArgs s_top_of) (defBody s_top_of) (defScope s_top_of) .none kV2 dc2 pm2 an2 cd2 ct2), sl2⟩) (c2 : PySem.W.codeIn K cd2 "top_of" = true) (k2 : PySem.W.keepIn K (.ref f2) = true)
    (a3 : PySem.W.nsIn K mainGlobals "left_over" = some (some (.ref f3))) (l3 : K.lookup f3 = some ⟨oc3, od3, .func (PySem.W.fnOf "left_over" "left_over" (defArgs s_left_over) (defBody s_left_over) (defScope s_left_over) .none kV3 dc3 pm3 an3 cd3 ct3), sl3⟩) (c3 : PySem.W.codeIn K cd3 "left_over" = true) (k3 : PySem.W.keepIn K (.ref f3) = true)
    (a4 : PySem.W.nsIn K mainGlobals "basis_of" = some (some (.ref f4))) (l4 : K.lookup f4 = some ⟨oc4, od4, .func (PySem.W.fnOf "basis_of" "basis_of" (defArgs s_basis_of) (defBody s_basis_of) (defScope s_basis_of) .none kV4 dc4 pm4 an4 cd4 ct4), sl4⟩) (c4 : PySem.W.codeIn K cd4 "basis_of" = true) (k4 : PySem.W.keepIn K (.ref f4) = true)
    (a5 : PySem.W.nsIn K mainGlobals "span" = some (some (.ref f5))) (l5 : K.lookup f5 = some ⟨oc5, od5, .func (PySem.W.fnOf "span" "span" (defArgs s_span) (defBody s_span) (defScope s_span) .none kV5 dc5 pm5 an5 cd5 ct5), sl5⟩) (c5 : PySem.W.codeIn K cd5 "span" = true) (k5 : PySem.W.keepIn K (.ref f5) = true)
    (a6 : PySem.W.nsIn K mainGlobals "is_in" = some (some (.ref f6))) (l6 : K.lookup f6 = some ⟨oc6, od6, .func (PySem.W.fnOf "is_in" "is_in" (defArgs s_is_in) (defBody s_is_in) (defScope s_is_in) .none kV6 dc6 pm6 an6 cd6 ct6), sl6⟩) (c6 : PySem.W.codeIn K cd6 "is_in" = true) (k6 : PySem.W.keepIn K (.ref f6) = true)
    (a7 : PySem.W.nsIn K mainGlobals "across" = some (some (.ref f7))) (l7 : K.lookup f7 = some ⟨oc7, od7, .func (PySem.W.fnOf "across" "across" (defArgs s_across) (defBody s_across) (defScope s_across) .none kV7 dc7 pm7 an7 cd7 ct7), sl7⟩) (c7 : PySem.W.codeIn K cd7 "across" = true) (k7 : PySem.W.keepIn K (.ref f7) = true)
    (a8 : PySem.W.nsIn K mainGlobals "in_both" = some (some (.ref f8))) (l8 : K.lookup f8 = some ⟨oc8, od8, .func (PySem.W.fnOf "in_both" "in_both" (defArgs s_in_both) (defBody s_in_both) (defScope s_in_both) .none kV8 dc8 pm8 an8 cd8 ct8), sl8⟩) (c8 : PySem.W.codeIn K cd8 "in_both" = true) (k8 : PySem.W.keepIn K (.ref f8) = true)
    (a9 : PySem.W.nsIn K mainGlobals "in_one" = some (some (.ref f9))) (l9 : K.lookup f9 = some ⟨oc9, od9, .func (PySem.W.fnOf "in_one" "in_one" (defArgs s_in_one) (defBody s_in_one) (defScope s_in_one) .none kV9 dc9 pm9 an9 cd9 ct9), sl9⟩) (c9 : PySem.W.codeIn K cd9 "in_one" = true) (k9 : PySem.W.keepIn K (.ref f9) = true)
    (a10 : PySem.W.nsIn K mainGlobals "_law_stream" = some (some (.ref f10))) (l10 : K.lookup f10 = some ⟨oc10, od10, .func (PySem.W.fnOf "_law_stream" "_law_stream" (defArgs s__law_stream) (defBody s__law_stream) (defScope s__law_stream) .none kV10 dc10 pm10 an10 cd10 ct10), sl10⟩) (c10 : PySem.W.codeIn K cd10 "_law_stream" = true) (k10 : PySem.W.keepIn K (.ref f10) = true)
    (a11 : PySem.W.nsIn K mainGlobals "_law_next" = some (some (.ref f11))) (l11 : K.lookup f11 = some ⟨oc11, od11, .func (PySem.W.fnOf "_law_next" "_law_next" (defArgs s__law_next) (defBody s__law_next) (defScope s__law_next) .none kV11 dc11 pm11 an11 cd11 ct11), sl11⟩) (c11 : PySem.W.codeIn K cd11 "_law_next" = true) (k11 : PySem.W.keepIn K (.ref f11) = true)
    (a12 : PySem.W.nsIn K mainGlobals "_law_span" = some (some (.ref f12))) (l12 : K.lookup f12 = some ⟨oc12, od12, .func (PySem.W.fnOf "_law_span" "_law_span" (defArgs s__law_span) (defBody s__law_span) (defScope s__law_span) .none kV12 dc12 pm12 an12 cd12 ct12), sl12⟩) (c12 : PySem.W.codeIn K cd12 "_law_span" = true) (k12 : PySem.W.keepIn K (.ref f12) = true)
    (a13 : PySem.W.nsIn K mainGlobals "_law_odd" = some (some (.ref f13))) (l13 : K.lookup f13 = some ⟨oc13, od13, .func (PySem.W.fnOf "_law_odd" "_law_odd" (defArgs s__law_odd) (defBody s__law_odd) (defScope s__law_odd) .none kV13 dc13 pm13 an13 cd13 ct13), sl13⟩) (c13 : PySem.W.codeIn K cd13 "_law_odd" = true) (k13 : PySem.W.keepIn K (.ref f13) = true)
    (a14 : PySem.W.nsIn K mainGlobals "_law_some_rows" = some (some (.ref f14))) (l14 : K.lookup f14 = some ⟨oc14, od14, .func (PySem.W.fnOf "_law_some_rows" "_law_some_rows" (defArgs s__law_some_rows) (defBody s__law_some_rows) (defScope s__law_some_rows) .none kV14 dc14 pm14 an14 cd14 ct14), sl14⟩) (c14 : PySem.W.codeIn K cd14 "_law_some_rows" = true) (k14 : PySem.W.keepIn K (.ref f14) = true)
    (a15 : PySem.W.nsIn K mainGlobals "_law_within" = some (some (.ref f15))) (l15 : K.lookup f15 = some ⟨oc15, od15, .func (PySem.W.fnOf "_law_within" "_law_within" (defArgs s__law_within) (defBody s__law_within) (defScope s__law_within) .none kV15 dc15 pm15 an15 cd15 ct15), sl15⟩) (c15 : PySem.W.codeIn K cd15 "_law_within" = true) (k15 : PySem.W.keepIn K (.ref f15) = true)
    (a16 : PySem.W.nsIn K mainGlobals "_law_turned" = some (some (.ref f16))) (l16 : K.lookup f16 = some ⟨oc16, od16, .func (PySem.W.fnOf "_law_turned" "_law_turned" (defArgs s__law_turned) (defBody s__law_turned) (defScope s__law_turned) .none kV16 dc16 pm16 an16 cd16 ct16), sl16⟩) (c16 : PySem.W.codeIn K cd16 "_law_turned" = true) (k16 : PySem.W.keepIn K (.ref f16) = true)
    (a17 : PySem.W.nsIn K mainGlobals "law" = some (some (.ref f17))) (l17 : K.lookup f17 = some ⟨oc17, od17, .func (PySem.W.fnOf "law" "law" (defArgs s_law) (defBody s_law) (defScope s_law) .none kV17 dc17 pm17 an17 cd17 ct17), sl17⟩) (c17 : PySem.W.codeIn K cd17 "law" = true) (k17 : PySem.W.keepIn K (.ref f17) = true)
    (zb_abs : PySem.W.nsIn K mainGlobals "abs" = some none)
    (zb_all : PySem.W.nsIn K mainGlobals "all" = some none)
    (zb_any : PySem.W.nsIn K mainGlobals "any" = some none)
    (zb_int : PySem.W.nsIn K mainGlobals "int" = some none)
    (zb_len : PySem.W.nsIn K mainGlobals "len" = some none)
    (zb_list : PySem.W.nsIn K mainGlobals "list" = some none)
    (zb_range : PySem.W.nsIn K mainGlobals "range" = some none)
    (zb_sorted : PySem.W.nsIn K mainGlobals "sorted" = some none)
    (zb_sum : PySem.W.nsIn K mainGlobals "sum" = some none)
    (zb_tuple : PySem.W.nsIn K mainGlobals "tuple" = some none)
    (zb_zip : PySem.W.nsIn K mainGlobals "zip" = some none)
    (zc_MAX_SHOWN_ROWS : PySem.W.nsIn K mainGlobals "MAX_SHOWN_ROWS" = some (some (.int 60 t_MAX_SHOWN_ROWS)))
    (zc_MAX_WIDTH : PySem.W.nsIn K mainGlobals "MAX_WIDTH" = some (some (.int 16 t_MAX_WIDTH)))
    (ok : LawOk m_law) : ∃ fd : FuncData, (∀ (s : Shared) (u : Value), BindsTo s fd ⟨[u], []⟩ [("script", u)]) ∧ ∀ base : Heap, K.In base → base.Ns mainGlobals mg → FnOk l.prog w K mg base (L2.CX l.prog w) 6 fa fd ["script"] (spLaw K) := by
  cases hfa.symm.trans (PySem.W.mg_of X G a17)
  have F0 := fun_mk (st := s_check_width) l0 c0 k0
  have F1 := fun_mk (st := s_check_rows) l1 c1 k1
  have F2 := fun_mk (st := s_top_of) l2 c2 k2
  have F3 := fun_mk (st := s_left_over) l3 c3 k3
  have F4 := fun_mk (st := s_basis_of) l4 c4 k4
  have F5 := fun_mk (st := s_span) l5 c5 k5
  have F6 := fun_mk (st := s_is_in) l6 c6 k6
  have F7 := fun_mk (st := s_across) l7 c7 k7
  have F8 := fun_mk (st := s_in_both) l8 c8 k8
  have F9 := fun_mk (st := s_in_one) l9 c9 k9
  have F10 := fun_mk (st := s__law_stream) l10 c10 k10
  have F11 := fun_mk (st := s__law_next) l11 c11 k11
  have F12 := fun_mk (st := s__law_span) l12 c12 k12
  have F13 := fun_mk (st := s__law_odd) l13 c13 k13
  have F14 := fun_mk (st := s__law_some_rows) l14 c14 k14
  have F15 := fun_mk (st := s__law_within) l15 c15 k15
  have F16 := fun_mk (st := s__law_turned) l16 c16 k16
  have F17 := fun_mk (st := s_law) l17 c17 k17
  refine ⟨PySem.W.fnOf "law" "law" (defArgs s_law) (defBody s_law) (defScope s_law) .none kV17 dc17 pm17 an17 cd17 ct17, fun s v => .of_eq rfl, fun base _ _ => ?_⟩
  let p : Pg := ⟨l.prog, w, K, mg, base, fun _ => fa⟩
  have T : Txt p := { b_abs := PySem.W.mg_none_of X G zb_abs, b_all := PySem.W.mg_none_of X G zb_all, b_any := PySem.W.mg_none_of X G zb_any, b_int := PySem.W.mg_none_of X G zb_int, b_len := PySem.W.mg_none_of X G zb_len, b_list := PySem.W.mg_none_of X G zb_list, b_range := PySem.W.mg_none_of X G zb_range, b_sorted := PySem.W.mg_none_of X G zb_sorted, b_sum := PySem.W.mg_none_of X G zb_sum, b_tuple := PySem.W.mg_none_of X G zb_tuple, b_zip := PySem.W.mg_none_of X G zb_zip, c_MAX_SHOWN_ROWS := ⟨_, PySem.W.mg_of X G zc_MAX_SHOWN_ROWS⟩, c_MAX_WIDTH := ⟨_, PySem.W.mg_of X G zc_MAX_WIDTH⟩ }
  have h_check_width := fnc_of (p := p) (x := "check_width") (o_check_width (p := p) T F0 ) (PySem.W.mg_of X G a0) k0 (F0.binds (ps := ["width"]) fun _ _ _ _ _ _ us hl => match us, hl with | [_], _ => rfl)
  have h_check_rows := fnc_of (p := p) (x := "check_rows") (o_check_rows (p := p) T F1 h_check_width) (PySem.W.mg_of X G a1) k1 (F1.binds (ps := ["width", "rows"]) fun _ _ _ _ _ _ us hl => match us, hl with | [_, _], _ => rfl)
  have h_top_of := fnc_of (p := p) (x := "top_of") (o_top_of (p := p) T F2 ) (PySem.W.mg_of X G a2) k2 (F2.binds (ps := ["row"]) fun _ _ _ _ _ _ us hl => match us, hl with | [_], _ => rfl)
  have h_left_over := fnc_of (p := p) (x := "left_over") (o_left_over (p := p) T F3 h_top_of) (PySem.W.mg_of X G a3) k3 (F3.binds (ps := ["basis", "row"]) fun _ _ _ _ _ _ us hl => match us, hl with | [_, _], _ => rfl)
  have h_basis_of := fnc_of (p := p) (x := "basis_of") (o_basis_of (p := p) T F4 h_left_over h_top_of) (PySem.W.mg_of X G a4) k4 (F4.binds (ps := ["rows"]) fun _ _ _ _ _ _ us hl => match us, hl with | [_], _ => rfl)
  have h_span := fnc_of (p := p) (x := "span") (o_span (p := p) T F5 h_check_rows h_basis_of) (PySem.W.mg_of X G a5) k5 (F5.binds (ps := ["width", "rows"]) fun _ _ _ _ _ _ us hl => match us, hl with | [_, _], _ => rfl)
  have h_is_in := fnc_of (p := p) (x := "is_in") (o_is_in (p := p) T F6 h_check_rows h_left_over h_basis_of) (PySem.W.mg_of X G a6) k6 (F6.binds (ps := ["width", "rows", "row"]) fun _ _ _ _ _ _ us hl => match us, hl with | [_, _, _], _ => rfl)
  have h_across := fnc_of (p := p) (x := "across") (o_across (p := p) T F7 h_check_rows h_basis_of h_top_of) (PySem.W.mg_of X G a7) k7 (F7.binds (ps := ["width", "rows"]) fun _ _ _ _ _ _ us hl => match us, hl with | [_, _], _ => rfl)
  have h_in_both := fnc_of (p := p) (x := "in_both") (o_in_both (p := p) T F8 h_across) (PySem.W.mg_of X G a8) k8 (F8.binds (ps := ["width", "first", "second"]) fun _ _ _ _ _ _ us hl => match us, hl with | [_, _, _], _ => rfl)
  have h_in_one := fnc_of (p := p) (x := "in_one") (o_in_one (p := p) T F9 h_check_rows h_basis_of) (PySem.W.mg_of X G a9) k9 (F9.binds (ps := ["width", "first", "second"]) fun _ _ _ _ _ _ us hl => match us, hl with | [_, _, _], _ => rfl)
  have h__law_stream := fnc_of (p := p) (x := "_law_stream") (o__law_stream (p := p) T F10 ) (PySem.W.mg_of X G a10) k10 (F10.binds (ps := ["script"]) fun _ _ _ _ _ _ us hl => match us, hl with | [_], _ => rfl)
  have h__law_next := fnc_of (p := p) (x := "_law_next") (o__law_next (p := p) T F11 ) (PySem.W.mg_of X G a11) k11 (F11.binds (ps := ["state", "many"]) fun _ _ _ _ _ _ us hl => match us, hl with | [_, _], _ => rfl)
  have h__law_span := fnc_of (p := p) (x := "_law_span") (o__law_span (p := p) T F12 ) (PySem.W.mg_of X G a12) k12 (F12.binds (ps := ["rows"]) fun _ _ _ _ _ _ us hl => match us, hl with | [_], _ => rfl)
  have h__law_odd := fnc_of (p := p) (x := "_law_odd") (o__law_odd (p := p) T F13 ) (PySem.W.mg_of X G a13) k13 (F13.binds (ps := ["row"]) fun _ _ _ _ _ _ us hl => match us, hl with | [_], _ => rfl)
  have h__law_some_rows := fnc_of (p := p) (x := "_law_some_rows") (o__law_some_rows (p := p) T F14 h__law_next) (PySem.W.mg_of X G a14) k14 (F14.binds (ps := ["state", "width", "most"]) fun _ _ _ _ _ _ us hl => match us, hl with | [_, _, _], _ => rfl)
  have h__law_within := fnc_of (p := p) (x := "_law_within") (o__law_within (p := p) T F15 h_is_in) (PySem.W.mg_of X G a15) k15 (F15.binds (ps := ["width", "first", "second"]) fun _ _ _ _ _ _ us hl => match us, hl with | [_, _, _], _ => rfl)
  have h__law_turned := fnc_of (p := p) (x := "_law_turned") (o__law_turned (p := p) T F16 ) (PySem.W.mg_of X G a16) k16 (F16.binds (ps := ["row", "order"]) fun _ _ _ _ _ _ us hl => match us, hl with | [_, _], _ => rfl)
  exact (o_law (p := p) T F17 h__law_stream h__law_next h__law_some_rows h_span h_in_both h_in_one h__law_span h_across h__law_odd h__law_within h_is_in h__law_turned).imp (law_sp (p := p) ok)
end K95
namespace K95
open DL
/-! ### the drawn numbers of this law -/
theorem next_wp {n : Nat} {rest s : Store} {many : Int} {Q : D → Store → Prop} (d : Drw (n + 1) rest s) (hm : 0 < many) (q : ∀ (r : Int) s', 0 ≤ r → r < many → Drw n rest s' → Q (.int r) s') : Wp (m__law_next [.ref 0, .int many]) s Q := by
  obtain ⟨ns, t, rfl, h0, h1, h2⟩ := d
  have e0 : ∀ u : D, ixD (.ref 0) (.int 0) (.lst [.lst (ns.map .int), u] :: rest) = .ok (.lst (ns.map .int)) (.lst [.lst (ns.map .int), u] :: rest) := fun u => rfl
  have e1 : ∀ u : D, ixD (.ref 0) (.int 1) (.lst [.lst (ns.map .int), u] :: rest) = .ok u (.lst [.lst (ns.map .int), u] :: rest) := fun u => rfl
  have es : ∀ u v : D, cellSet (.ref 0) (.int 1) v (.lst [.lst (ns.map .int), u] :: rest) = .ok () (.lst [.lst (ns.map .int), v] :: rest) := fun u v => rfl
  have hl : (ns.map D.int).length = ns.length := List.length_map _
  have hlp : (0 : Int) < (ns.length : Nat) := by omega
  have hlq : ((ns.length : Nat) : Int) < 1073741824 := by omega
  -- the place
  have hix : ∃ v : Int, ∀ s : Store, ixD (.lst (ns.map .int)) (.int (((t : Nat) + 1 : Int) % (ns.length : Nat))) s = .ok (.int v) s := by
    have a1 : 0 ≤ ((t : Nat) + 1 : Int) % (ns.length : Nat) := Int.emod_nonneg _ (by omega)
    have a2 : ((t : Nat) + 1 : Int) % (ns.length : Nat) < (ns.length : Nat) := Int.emod_lt_of_pos _ hlp
    obtain ⟨k, ek⟩ : ∃ k : Nat, ((t : Nat) + 1 : Int) % (ns.length : Nat) = (k : Int) := ⟨(((t : Nat) + 1 : Int) % (ns.length : Nat)).toNat, by omega⟩
    rw [ek] at a2 ⊢
    have hk : k < ns.length := by omega
    refine ⟨ns[k], fun s => ?_⟩
    show ixL (ns.map .int) (k : Int) s = _
    unfold ixL
    have hg : (ns.map D.int)[k]? = some (.int ns[k]) := by
      rw [List.getElem?_map, List.getElem?_eq_getElem hk]
      rfl
    have : L2.atI (ns.map D.int) (k : Int) = some (.int ns[k]) := L2.atI_nat hg
    rw [this]
    rfl
  obtain ⟨v, hv⟩ := hix
  have hdiv : divD (.int ((t : Nat) + 1)) (.int (ns.length : Nat)) = pure (.int (((t : Nat) + 1 : Int) / (ns.length : Nat))) := div_ii _ _ hlp hlq
  have hmod : modD (.int ((t : Nat) + 1)) (.int (ns.length : Nat)) = pure (.int (((t : Nat) + 1 : Int) % (ns.length : Nat))) := mod_ii _ _ hlp
  have hm1 : ∀ i : Int, mulD (.int i) (.int 389) = pure (.int (i * 389)) := fun i => mul_ii _ _ (.inr ⟨by omega, by omega⟩)
  have hm2 : ∀ i : Int, mulD (.int i) (.int 17) = pure (.int (i * 17)) := fun i => mul_ii _ _ (.inr ⟨by omega, by omega⟩)
  have hm3 : ∀ i : Int, mulD (.int ((t : Nat) + 1)) (.int i) = pure (.int (((t : Nat) + 1 : Int) * i)) := fun i => mul_ii _ _ (.inl ⟨by omega, by omega⟩)
  have hm4 : ∀ i : Int, modD (.int i) (.int many) = pure (.int (i % many)) := fun i => mod_ii _ _ hm
  unfold m__law_next b__law_next
  simp only [p2_ap, pure_bind', bind_assoc', runF_bind, runF_rt]
  refine wp_go (e1 _) ?_
  rw [add_ii, pure_bind']
  refine wp_go (es _ _) (wp_go (e1 _) (wp_go (e0 _) ?_))
  simp only [len_l, pure_bind', hl, hdiv]
  refine wp_go (e0 _) (wp_go (e1 _) (wp_go (e0 _) ?_))
  simp only [len_l, pure_bind', hl, hmod]
  refine wp_go (hv _) ?_
  simp only [hm1, add_ii, pure_bind']
  refine wp_go (e1 _) ?_
  simp only [hm3, hm2, add_ii, int_i, hm4, pure_bind']
  exact wp_pure (q _ _ (Int.emod_nonneg _ (by omega)) (Int.emod_lt_of_pos _ hm) ⟨ns, t + 1, by simp, h0, h1, by omega⟩)
theorem stream_ok (ms : List Int) (hm : ms.length ≤ 63) (s : Store) : ∃ ns : List Int, m__law_stream [.rls (ms.map .int)] s = .ok (.lst (ns.map .int)) s ∧ 0 < ns.length ∧ ns.length ≤ 5000 := by
  have key : Wp (m__law_stream [.rls (ms.map .int)]) s fun d s' => ∃ ns : List Int, d = .lst (ns.map .int) ∧ s' = s ∧ 0 < ns.length ∧ ns.length ≤ 5000 := by
    have hcut : slL none (some 63) (.rls (ms.map .int)) = pure (.lst (ms.map .int)) := by
      show (pure (.lst (cut (ms.map .int) none (some 63))) : M D) = _
      unfold cut
      rw [HT.sIx_none, show HT.sIx (ms.map D.int).length (ms.map D.int).length (some 63) = min 63 (ms.map D.int).length from HT.sIx_nat _ _ 63]
      rw [List.drop_zero, List.length_map, Nat.sub_zero, List.take_of_length_le (by rw [List.length_map]; omega)]
    have hpow : powD (.int 10) (.int 18) = pure (.int (10 ^ 18)) := pow_ii _ _ (by omega) (by omega) (by decide)
    have hmd : ∀ i : Int, modD (.int i) (.int 1009) = pure (.int (i % 1009)) := fun i => mod_ii _ _ (by omega)
    have hdv : ∀ i : Int, divD (.int i) (.int 1009) = pure (.int (i / 1009)) := fun i => div_ii _ _ (by omega) (by omega)
    have hmd2 : ∀ i : Int, modD (.int i) (.int 2147483647) = pure (.int (i % 2147483647)) := fun i => mod_ii _ _ (by omega)
    have hmd3 : ∀ i : Int, modD (.int i) (.int 2147483629) = pure (.int (i % 2147483629)) := fun i => mod_ii _ _ (by omega)
    have hmu : ∀ i : Int, mulD (.int i) (.int 48271) = pure (.int (i * 48271)) := fun i => mul_ii _ _ (.inr ⟨by omega, by omega⟩)
    have hmu2 : ∀ i : Int, mulD (.int 7) (.int i) = pure (.int (7 * i)) := fun i => mul_ii _ _ (.inl ⟨by omega, by omega⟩)
    have hmu3 : ∀ i : Int, mulD (.int i) (.int 69621) = pure (.int (i * 69621)) := fun i => mul_ii _ _ (.inr ⟨by omega, by omega⟩)
    unfold m__law_stream b__law_stream
    simp only [p1_ap, pure_bind', bind_assoc', runF_bind, mkL0, intM_i, hcut, items_l, nm_ap]
    refine wp_bind (wp_for (fun xs z s' => s' = s ∧ ∃ (r ns : List Int), xs = r.map .int ∧ z = .lst (ns.map .int) ∧ ns.length + 60 * r.length ≤ 3780) _ _ _ ⟨rfl, ms, [], rfl, rfl, by simpa using by omega⟩ ?_ ?_)
    · rintro x xs z s' ⟨rfl, r, ns, e, rfl, hl⟩
      cases r with
      | nil => cases e
      | cons i r =>
        rw [List.map_cons] at e
        injection e with e1 e2
        subst e1 e2
        rw [List.length_cons] at hl
        simp only [int_i, abs_i, pure_bind', hpow, ge_ii]
        generalize (if i < 0 then -i else i) = a
        split
        · rw [show range1 (.int 60) = pure (rangeL 0 60) from range1_i 60 (by decide)]
          simp only [pure_bind', bind_assoc']
          refine wp_bind (wp_for (fun xs z s'' => s'' = s' ∧ ∃ (ks : List D) (ns' : List Int) (j : Int), xs = ks ∧ z = (.lst (ns'.map .int), .int j) ∧ ns'.length + ks.length ≤ ns.length + 60) _ _ _ ⟨rfl, _, ns, _, rfl, rfl, by rw [rangeL_len]; exact Nat.le_refl _⟩ ?_ ?_)
          · rintro x xs z s'' ⟨rfl, ks, ns', j, rfl, rfl, hl2⟩
            rw [List.length_cons] at hl2
            have ha : appL (ns'.map .int) (.int (j % 1009)) = pure (.lst ((ns' ++ [j % 1009]).map .int)) := by
              rw [app_ok _ _ (by rw [List.length_map]; omega), List.map_append]
              rfl
            simp only [lst_l, pure_bind', int_i, hmd, ha, hdv, eq_ii]
            split
            · exact ⟨rfl, _, _, rfl, rfl, by rw [List.length_append, List.length_singleton]; omega⟩
            · exact ⟨rfl, _, _, _, rfl, rfl, by rw [List.length_append, List.length_singleton]; omega⟩
          · rintro z s'' ⟨rfl, ks, ns', j, e, rfl, hl2⟩
            exact ⟨rfl, _, _, rfl, rfl, by omega⟩
        · rw [show range1 (.int 10) = pure (rangeL 0 10) from range1_i 10 (by decide)]
          simp only [pure_bind', bind_assoc', int_i, hmd2]
          refine wp_bind (wp_for (fun xs z s'' => s'' = s' ∧ ∃ (ks : List Int) (ns' : List Int) (j : Int), xs = ks.map .int ∧ z = (.lst (ns'.map .int), .int j) ∧ ns'.length + ks.length ≤ ns.length + 10) _ _ _ ⟨rfl, (List.range 10).map fun (i : Nat) => (i : Int), ns, _, by rw [rangeL_eq, List.map_map]; rfl, rfl, by simp⟩ ?_ ?_)
          · rintro x xs z s'' ⟨rfl, ks, ns', j, e, rfl, hl2⟩
            cases ks with
            | nil => cases e
            | cons k ks =>
              rw [List.map_cons] at e
              injection e with e1 e2
              subst e1 e2
              rw [List.length_cons] at hl2
              have ha : ∀ v : Int, appL (ns'.map .int) (.int v) = pure (.lst ((ns' ++ [v]).map .int)) := fun v => by
                rw [app_ok _ _ (by rw [List.length_map]; omega), List.map_append]
                rfl
              simp only [lst_l, pure_bind', int_i, hmd, hmd2, hmd3, hmu, hmu2, hmu3, ha, add_ii]
              exact ⟨rfl, _, _, _, rfl, rfl, by rw [List.length_append, List.length_singleton]; omega⟩
          · rintro z s'' ⟨rfl, ks, ns', j, e, rfl, hl2⟩
            exact ⟨rfl, _, _, rfl, rfl, by omega⟩
    · rintro z s' ⟨rfl, r, ns, e, rfl, hl⟩
      simp only [seqO_nx, len_l, pure_bind', eq_ii, runF_bind, List.length_map]
      split
      · rename_i h
        have : ns = [] := List.length_eq_zero_iff.mp (by simpa using h)
        subst this
        exact ⟨[0], rfl, rfl, by decide, by decide⟩
      · rename_i h
        have : ns.length ≠ 0 := by simpa using h
        exact ⟨ns, rfl, rfl, by omega, by omega⟩
  obtain ⟨_, _, e, ns, rfl, rfl, a, b⟩ := wp_get key
  exact ⟨ns, e, a, b⟩
end K95
namespace K95
open DL Gf
/-! ### what the defs compute -/
theorem isort_en (l : List Nat) : isort (l.map fun (n : Nat) => (n : Int)) = (nsort l).map fun (n : Nat) => (n : Int) := by
  have h1 : ∀ (x : Nat) (l : List Nat), ins (x : Int) (l.map fun (n : Nat) => (n : Int)) = (nins x l).map fun (n : Nat) => (n : Int) := by
    intro x l
    induction l with
    | nil => rfl
    | cons y r ih =>
      rw [List.map_cons]
      unfold ins nins
      by_cases h : x ≤ y
      · rw [if_pos h, if_pos (by omega)]; rfl
      · rw [if_neg h, if_neg (by omega), ih]; rfl
  induction l with
  | nil => rfl
  | cons x r ih =>
    rw [List.map_cons]
    unfold isort nsort
    rw [ih, h1]
theorem sorted_en (l : List Nat) : sortedD (.lst (en l)) = pure (.lst (en (nsort l))) := by
  rw [en_ints, sorted_ints, isort_en, ← en_ints]
theorem sortedRev_en (l : List Nat) : sortedRevD (.lst (en l)) = pure (.lst (en (nsort l).reverse)) := by
  rw [en_ints, sortedRev_ints, isort_en, ← List.map_reverse, ← en_ints]
abbrev Lt (w : Nat) (l : List Nat) : Prop := ∀ r ∈ l, r < 2 ^ w
theorem cw {w : Nat} (h1 : 1 ≤ w) (h2 : w ≤ 16) : m_check_width [ni w] = pure .non := by
  unfold m_check_width b_check_width
  simp only [p1_ap, pure_bind', bind_assoc', runF_bind, chainM]
  rw [show D.int 1 = ni 1 from rfl, show D.int 16 = ni 16 from rfl, le_nn, pure_bind', le_nn, decide_eq_true h1, decide_eq_true h2]
  rfl
theorem cr {w : Nat} {l : List Nat} (h1 : 1 ≤ w) (h2 : w ≤ 16) (hl : l.length ≤ 60) (h : Lt w l) : m_check_rows [ni w, .tup (en l)] = pure .non := by
  have e : lcM (pure (en l)) nm (p1 fun _ => (pure true : M Bool)) (p1 fun v11 => (chainM (pure (D.int 0) : M D) (pure v11 : M D) leB (shlD (D.int 1) (ni w)) ltB >>= fun b14 => (pure (D.bl b14) : M D))) = pure (.lst (l.map fun _ => D.bl true)) := by
    refine lcM_map (to := ni) (xs := l) (fun _ => D.bl true) rfl (by omega) fun x hx => ?_
    rw [nm_ap, pure_bind', p1_ap, pure_bind', if_pos rfl, p1_ap]
    simp only [chainM, pure_bind', bind_assoc']
    rw [show D.int 0 = ni 0 from rfl, show D.int 1 = ni 1 from rfl, le_nn, pure_bind', decide_eq_true (Nat.zero_le x), if_pos rfl, shl_nn _ _ (by decide) (by omega), pure_bind', lt_nn, Nat.one_mul, decide_eq_true (h x hx)]
    rfl
  unfold m_check_rows b_check_rows
  simp only [p2_ap, pure_bind', bind_assoc', runF_bind, cw h1 h2, len_t, items_t, en_len]
  rw [show D.int 60 = ni 60 from rfl, show D.int (l.length : Int) = ni l.length from rfl, gt_nn, pure_bind', decide_eq_false (by omega), if_neg Bool.false_ne_true, e]
  have e2 : l.map (fun _ => D.bl true) = (l.map fun _ => true).map .bl := by rw [List.map_map]; rfl
  rw [pure_bind', e2, all_bools, pure_bind', truth_b, pure_bind']
  have e3 : (l.map fun _ => true).all id = true := by rw [List.all_eq_true]; intro x hx; obtain ⟨_, _, rfl⟩ := List.mem_map.mp hx; rfl
  rw [e3]
  rfl
theorem wh {r : Nat} (h0 : r ≠ 0) (hr : r < 2 ^ 17) : ∀ (fuel k : Nat), 2 ^ k ≤ r → lg r < k + fuel →
    (whileL (fun (s24 : D) => (shlD s24 (D.int 1) >>= fun x27 => leB x27 (ni r))) (fun s24 => (shlD s24 (D.int 1) >>= fun z29 => (pure (.nx z29) : M (Out D D)))) fuel (ni (2 ^ k)) : M (Out D Unit)) = pure (.nx (ni (2 ^ lg r)))
  | 0, k, h, l => by
    have : lg r < k := by omega
    have := (lg_lt h0).mp this
    omega
  | fuel + 1, k, h, l => by
    have hk : k < 17 := by
      refine Classical.byContradiction fun z => ?_
      have : 2 ^ 17 ≤ 2 ^ k := Nat.pow_le_pow_right (by omega) (by omega)
      omega
    have lk : 2 ^ k < 2 ^ 64 := Nat.pow_lt_pow_right (by omega) (by omega)
    unfold whileL
    rw [show D.int 1 = ni 1 from rfl, shl_nn _ _ lk (by omega), pure_bind', le_nn, pure_bind', Nat.pow_one, ← Nat.pow_succ]
    by_cases z : 2 ^ (k + 1) ≤ r
    · rw [decide_eq_true z, if_pos rfl, pure_bind', pure_bind']
      exact wh h0 hr fuel (k + 1) z (by omega)
    · rw [decide_eq_false z, if_neg Bool.false_ne_true]
      have : lg r = k := by
        have h1 : lg r < k + 1 := (lg_lt h0).mpr (by omega)
        have h2 : ¬ lg r < k := fun q => by
          have := (lg_lt h0).mp q
          omega
        omega
      rw [this]
theorem to {r : Nat} (hr : r < 2 ^ 17) : m_top_of [ni r] = pure (ni (top r)) := by
  unfold m_top_of b_top_of
  simp only [p1_ap, pure_bind', bind_assoc', runF_bind]
  by_cases z : r = 0
  · subst z
    rfl
  · have h := wh z hr 1000 0 (by omega) (by have := (lg_lt z).mpr hr; omega)
    rw [show D.int 1 = ni (2 ^ 0) from rfl] at h ⊢
    rw [h, pure_bind', seqO_nx, show D.int 0 = ni 0 from rfl, gt_nn, pure_bind', decide_eq_true (by omega), if_pos rfl, pure_bind']
    unfold top
    rw [if_neg z]
    rfl
/-- a loop over numbers from nought -/
theorem forL_en {Z B : Type} {step : Z → D → M (Out Z Z)} {g : Z → Nat → Z} {P : Z → Prop} : ∀ (ns : List Nat) (z : Z), P z → (∀ z n, P z → n ∈ ns → step z (ni n) = pure (.nx (g z n)) ∧ P (g z n)) → (forL step z (en ns) : M (Out Z B)) = pure (.nx (ns.foldl g z)) ∧ P (ns.foldl g z)
  | [], z, hz, _ => ⟨rfl, hz⟩
  | n :: r, z, hz, h => by
    obtain ⟨h1, h2⟩ := h z n hz List.mem_cons_self
    have ih := forL_en (B := B) r (g z n) h2 fun z y hz hy => h z y hz (List.mem_cons_of_mem _ hy)
    refine ⟨?_, ih.2⟩
    show forL step z (ni n :: en r) = _
    unfold forL
    rw [h1, pure_bind']
    exact ih.1
/-- the same, the state a number -/
theorem forL_nn {B : Type} {step : D → D → M (Out D D)} {g : Nat → Nat → Nat} {P : Nat → Prop} : ∀ (ns : List Nat) (z : Nat), P z → (∀ z n, P z → n ∈ ns → step (ni z) (ni n) = pure (.nx (ni (g z n))) ∧ P (g z n)) → (forL step (ni z) (en ns) : M (Out D B)) = pure (.nx (ni (ns.foldl g z))) ∧ P (ns.foldl g z)
  | [], z, hz, _ => ⟨rfl, hz⟩
  | n :: r, z, hz, h => by
    obtain ⟨h1, h2⟩ := h z n hz List.mem_cons_self
    have ih := forL_nn (B := B) r (g z n) h2 fun z y hz hy => h z y hz (List.mem_cons_of_mem _ hy)
    refine ⟨?_, ih.2⟩
    show forL step (ni z) (ni n :: en r) = _
    unfold forL
    rw [h1, pure_bind']
    exact ih.1
/-- the same, the state a list of numbers -/
theorem forL_ln {B : Type} {step : D → D → M (Out D D)} {g : List Nat → Nat → List Nat} {P : List Nat → Prop} : ∀ (ns : List Nat) (z : List Nat), P z → (∀ z n, P z → n ∈ ns → step (.lst (en z)) (ni n) = pure (.nx (.lst (en (g z n)))) ∧ P (g z n)) → (forL step (.lst (en z)) (en ns) : M (Out D B)) = pure (.nx (.lst (en (ns.foldl g z)))) ∧ P (ns.foldl g z)
  | [], z, hz, _ => ⟨rfl, hz⟩
  | n :: r, z, hz, h => by
    obtain ⟨h1, h2⟩ := h z n hz List.mem_cons_self
    have ih := forL_ln (B := B) r (g z n) h2 fun z y hz hy => h z y hz (List.mem_cons_of_mem _ hy)
    refine ⟨?_, ih.2⟩
    show forL step (.lst (en z)) (ni n :: en r) = _
    unfold forL
    rw [h1, pure_bind']
    exact ih.1
theorem loM {B : List Nat} {r : Nat} (hB : Lt 17 B) (hr : r < 2 ^ 17) (seq : D) (hs : items seq = pure (en B)) : m_left_over [seq, ni r] = pure (ni (lo B r)) := by
  unfold m_left_over b_left_over
  simp only [p2_ap, pure_bind', bind_assoc', runF_bind, hs]
  have h := forL_nn (B := Unit) (g := fun r b => if r &&& top b ≠ 0 then r ^^^ b else r) (P := fun r => r < 2 ^ 17) (step := fun (s38 : D) x53 => nm x53 >>= p1 (fun v39 => (m_top_of [v39] >>= fun x43 => andD s38 x43 >>= fun x44 => neB x44 (D.int 0) >>= fun b50 => (if b50 = true then (xorD s38 v39 >>= fun z47 => (pure (.nx z47)) : M (Out (D) _)) else (pure (.nx s38))) >>= seqO fun s46 => (pure (.nx s46) : M (Out D D))))) B r hr fun z n hz hn => ?_
  · have h1 := h.1
    simp only [bind_assoc'] at h1
    rw [h1, pure_bind', seqO_nx, runF_rt]
    rfl
  · have hn17 := hB n hn
    rw [nm_ap, pure_bind', p1_ap, to hn17, pure_bind', and_nn, pure_bind', show D.int 0 = ni 0 from rfl, ne_nn, pure_bind']
    by_cases q : z &&& top n = 0
    · rw [q]
      refine ⟨?_, ?_⟩
      · simp only [ne_eq, not_true, if_false]
        rfl
      · simp only [ne_eq, q, not_true, if_false]
        exact hz
    · refine ⟨?_, ?_⟩
      · have : (!(z &&& top n == 0)) = true := by rw [Bool.not_eq_true', beq_eq_false_iff_ne]; exact q
        rw [this, if_pos rfl, xor_nn]
        simp only [ne_eq, q, not_false_iff, if_true]
        rfl
      · simp only [ne_eq, q, not_false_iff, if_true]
        exact Nat.xor_lt_two_pow hz hn17
theorem bind_eq {α β : Type} {m m' : M α} {f : α → M β} {r : M β} (h : m = m') (h2 : m' >>= f = r) : m >>= f = r := by rw [h]; exact h2
theorem put_len (B : List Nat) (t : Nat) : (put B t).length = B.length + 1 := by
  unfold put
  rw [List.length_append, List.length_map]
  rfl
theorem step_lt {w : Nat} {B : List Nat} {row : Nat} (hB : Lt w B) (hr : row < 2 ^ w) (nz : RR B) : Lt w (step B row) := fun x hx => by
  have := (step_ok nz row).2.1 x
  exact S_lt (B := row :: B) (fun b hb => by
    rcases List.mem_cons.mp hb with rfl | hb
    · exact hr
    · exact hB b hb) (this.mp (S_mem hx))
theorem mkL_en {l : List Nat} (h : l.length ≤ 2 ^ 24) : mkL (en l) = pure (.lst (en l)) := mkL_ok _ (by rw [en_len]; exact h)
theorem mkT_en {l : List Nat} (h : l.length ≤ 2 ^ 24) : mkT (en l) = pure (.tup (en l)) := mkT_ok _ (by rw [en_len]; exact h)
theorem lo_lt {w : Nat} {B : List Nat} {r : Nat} (hB : Lt w B) (hr : r < 2 ^ w) (nz : ∀ b ∈ B, b ≠ 0) : lo B r < 2 ^ w := by
  have h := S_lt hB (lo_S (r := r) nz)
  have := Nat.xor_lt_two_pow hr h
  rwa [← Nat.xor_assoc, Nat.xor_self, Nat.zero_xor] at this
theorem putM {B : List Nat} {t : Nat} (hB : Lt 17 B) (ht : t < 2 ^ 17) (hl : B.length ≤ 2000) :
    lcM (pure (en B)) nm (p1 fun _ => (pure true : M Bool)) (p1 fun v67 => (m_top_of [ni t] >>= fun x71 => andD v67 x71 >>= fun x72 => neB x72 (D.int 0) >>= fun b76 => if b76 = true then xorD v67 (ni t) else (pure v67 : M D)))
      = pure (.lst (en (B.map fun b => if b &&& top t ≠ 0 then b ^^^ t else b))) := by
  have e := lcM_map (to := ni) (xs := B) (fun b => ni (if b &&& top t ≠ 0 then b ^^^ t else b)) (mi := pure (en B)) (u := nm) (mt := p1 fun _ => (pure true : M Bool))
    (me := p1 fun v67 => (m_top_of [ni t] >>= fun x71 => andD v67 x71 >>= fun x72 => neB x72 (D.int 0) >>= fun b76 => if b76 = true then xorD v67 (ni t) else (pure v67 : M D))) rfl (by omega) fun x hx => by
      rw [nm_ap, pure_bind', p1_ap, pure_bind', if_pos rfl, p1_ap, to ht, pure_bind', and_nn, pure_bind', show D.int 0 = ni 0 from rfl, ne_nn, pure_bind']
      by_cases q : x &&& top t = 0
      · rw [q]
        simp only [ne_eq, not_true, if_false]
        rfl
      · have : (!(x &&& top t == 0)) = true := by rw [Bool.not_eq_true', beq_eq_false_iff_ne]; exact q
        rw [this, if_pos rfl, xor_nn]
        simp only [ne_eq, q, not_false_iff, if_true]
        rfl
  rw [e]
  unfold en
  rw [List.map_map]
  rfl
theorem baM {rows : List Nat} (hB : Lt 17 rows) (hl : rows.length ≤ 1000) (seq : D) (hs : items seq = pure (en rows)) : m_basis_of [seq] = pure (.tup (en (basis rows))) := by
  unfold m_basis_of b_basis_of
  simp only [p1_ap, pure_bind', bind_assoc', runF_bind, hs, mkL0, items_l]
  refine bind_eq (forL_ln (B := Unit) (g := step) (P := fun z => RR z ∧ Lt 17 z) rows [] ⟨.nil, fun _ h => (List.not_mem_nil h).elim⟩ fun z n ⟨hz, hz2⟩ hn => ?_).1 ?_
  · have hn17 := hB n hn
    have hlo : lo z n < 2 ^ 17 := lo_lt hz2 hn17 hz.rd.nz
    refine ⟨?_, (step_ok hz n).1, step_lt hz2 hn17 hz⟩
    have zl : z.length ≤ 17 := by
      have := basis_len hz2
      rwa [basis_self hz] at this
    simp only [nm_ap, pure_bind', p1_ap, items_l, bind_assoc']
    rw [loM hz2 hn17 _ (items_l _), pure_bind', show D.int 0 = ni 0 from rfl, ne_nn, pure_bind']
    unfold step
    by_cases q : lo z n = 0
    · rw [q]
      rfl
    · have : (!(lo z n == 0)) = true := by rw [Bool.not_eq_true', beq_eq_false_iff_ne]; exact q
      rw [this, if_pos rfl, if_neg q, show ni 0 = D.int 0 from rfl, putM hz2 hlo (by omega)]
      simp only [pure_bind', items_l, bind_assoc']
      have e : en (z.map fun b => if b &&& top (lo z n) ≠ 0 then b ^^^ lo z n else b) ++ [ni (lo z n)] = en (put z (lo z n)) := by
        unfold put
        rw [en_app]
        rfl
      rw [e, mkL_en (by rw [put_len]; omega), pure_bind', sortedRev_en]
      rfl
  · rw [pure_bind', seqO_nx, runF_bind, tuple_l]
    rfl
theorem spM {w : Nat} {l : List Nat} (h1 : 1 ≤ w) (h2 : w ≤ 16) (hl : l.length ≤ 60) (h : Lt w l) : m_span [ni w, .tup (en l)] = pure (.tup (en (basis l))) := by
  have h17 : Lt 17 l := fun r hr => Nat.lt_of_lt_of_le (h r hr) (Nat.pow_le_pow_right (by omega) (by omega))
  unfold m_span b_span
  simp only [p2_ap, pure_bind', bind_assoc', runF_bind, cr h1 h2 hl h, baM h17 (by omega) _ (items_t _), runF_rt]
theorem lt17 {w : Nat} (h2 : w ≤ 16) {l : List Nat} (h : Lt w l) : Lt 17 l := fun r hr => Nat.lt_of_lt_of_le (h r hr) (Nat.pow_le_pow_right (by omega) (by omega))
/-- is the row in the span -/
def isin (l : List Nat) (r : Nat) : Bool := lo (basis l) r == 0
theorem isin_iff {l : List Nat} {r : Nat} : isin l r = true ↔ inS l r := by
  unfold isin
  rw [beq_iff_eq, lo_zero (basis_rr l).rd, basis_S l r]
theorem inM {w : Nat} {l : List Nat} {r : Nat} (h1 : 1 ≤ w) (h2 : w ≤ 16) (hl : l.length ≤ 60) (h : Lt w l) (hr : r < 2 ^ w) : m_is_in [ni w, .tup (en l), ni r] = pure (.bl (isin l r)) := by
  have hr17 : r < 2 ^ 17 := Nat.lt_of_lt_of_le hr (Nat.pow_le_pow_right (by omega) (by omega))
  have c2 := cr (l := [r]) h1 h2 (Nat.le_of_ble_eq_true rfl) fun x hx => by rw [List.mem_singleton.mp hx]; exact hr
  have e2 : en [r] = [ni r] := rfl
  rw [e2] at c2
  unfold m_is_in b_is_in
  simp only [p3_ap, pure_bind', bind_assoc', runF_bind, cr h1 h2 hl h, mkT1, c2, baM (lt17 h2 h) (by omega) _ (items_t _), loM (basis_lt (lt17 h2 h)) hr17 _ (items_t _)]
  rw [show D.int 0 = ni 0 from rfl, eq_nn, pure_bind', runF_rt]
  rfl
theorem zipL_en : ∀ (l m : List Nat), zipL (en l) (en m) = (l.zip m).map fun p => .tup [ni p.1, ni p.2]
  | [], m => by cases m <;> rfl
  | x :: l, [] => rfl
  | x :: l, y :: m => by
    show .tup [ni x, ni y] :: zipL (en l) (en m) = _
    rw [zipL_en l m]
    rfl
theorem topsM {B : List Nat} (hl : B.length ≤ 17) (j : Nat) :
    lcM (zip2M (pure (.lst (en (B.map top)))) (pure (.tup (en B)))) (unT (unc nm (unc nm un0))) (p2 fun _ v155 => (andD v155 (ni (2 ^ j)) >>= fun x158 => neB x158 (D.int 0))) (p2 fun v154 _ => (pure v154 : M D)) = pure (.lst (en (tops B j))) := by
  have ez : (B.map top).zip B = B.map fun b => (top b, b) := by
    have : ∀ l : List Nat, (l.map top).zip l = l.map fun b => (top b, b) := by
      intro l
      induction l with
      | nil => rfl
      | cons b l ih => rw [List.map_cons, List.zip_cons_cons, ih, List.map_cons]
    exact this B
  have hi : zip2M (pure (.lst (en (B.map top)))) (pure (.tup (en B))) = pure (B.map fun b => D.tup [ni (top b), ni b]) := by
    unfold zip2M
    simp only [pure_bind', items_l, items_t, zipL_en, ez, List.map_map]
    rfl
  rw [lcM_pure (to := fun b => D.tup [ni (top b), ni b]) (xs := B) (fun b => b.testBit j) (fun b => ni (top b)) hi (by omega) fun b hb => ?_]
  · unfold tops en
    rw [List.map_map]
    rfl
  · simp only [unT_ap, unc_ap, nm_ap, un0_ap, pure_bind', List.cons_append, List.nil_append, p2_ap]
    rw [and_nn, pure_bind', show D.int 0 = ni 0 from rfl, ne_nn, pure_bind']
    have : (!(b &&& 2 ^ j == 0)) = b.testBit j := by
      rw [Bool.eq_iff_iff, Bool.not_eq_true', beq_eq_false_iff_ne]
      have h := and_top (r := b) (b := 2 ^ j) (by have := Nat.two_pow_pos j; omega)
      have e : top (2 ^ j) = 2 ^ j := by
        unfold top
        rw [if_neg (by have := Nat.two_pow_pos j; omega)]
        show 2 ^ (2 ^ j).log2 = _
        rw [Nat.log2_two_pow]
      have e2 : lg (2 ^ j) = j := Nat.log2_two_pow
      rw [e, e2] at h
      exact h
    rw [this]
    cases b.testBit j <;> rfl
theorem lcM_en {xs : List Nat} {mi : M (List D)} {u : D → M (List D)} {mt : List D → M Bool} {me : List D → M D} (c : Nat → Bool) (g : Nat → Nat) (hi : mi = pure (en xs)) (hl : xs.length ≤ 2 ^ 24)
    (h : ∀ x ∈ xs, (u (ni x) >>= fun ds => mt ds >>= fun b => if b = true then me ds >>= fun d => pure (some d) else pure none) = pure (if c x then some (ni (g x)) else none)) : lcM mi u mt me = pure (.lst (en ((xs.filter c).map g))) := by
  rw [lcM_pure (to := ni) c (fun x => ni (g x)) hi hl h]
  unfold en
  rw [List.map_map]
  rfl
theorem lcM_enm {xs : List Nat} {mi : M (List D)} {u : D → M (List D)} {mt : List D → M Bool} {me : List D → M D} (g : Nat → Nat) (hi : mi = pure (en xs)) (hl : xs.length ≤ 2 ^ 24)
    (h : ∀ x ∈ xs, (u (ni x) >>= fun ds => mt ds >>= fun b => if b = true then me ds >>= fun d => pure (some d) else pure none) = pure (some (ni (g x)))) : lcM mi u mt me = pure (.lst (en (xs.map g))) := by
  rw [lcM_map (to := ni) (fun x => ni (g x)) hi hl h]
  unfold en
  rw [List.map_map]
  rfl
theorem foldl_put {α : Type} (c : Nat → Bool) (g : Nat → α) : ∀ (xs : List Nat) (acc : List α), xs.foldl (fun f j => if c j = true then f ++ [g j] else f) acc = acc ++ (xs.filter c).map g
  | [], acc => (List.append_nil acc).symm
  | x :: xs, acc => by
    rw [List.foldl_cons, foldl_put c g xs, List.filter_cons]
    by_cases h : c x = true
    · rw [if_pos h, if_pos h, List.map_cons, List.append_assoc]
      rfl
    · rw [if_neg h, if_neg h]
/-- .. with what is left to walk -/
theorem forL_lr {B : Type} {step : D → D → M (Out D D)} {g : List Nat → Nat → List Nat} {P : List Nat → List Nat → Prop} : ∀ (ns : List Nat) (z : List Nat), P ns z → (∀ z n r, P (n :: r) z → n ∈ ns → step (.lst (en z)) (ni n) = pure (.nx (.lst (en (g z n)))) ∧ P r (g z n)) → (forL step (.lst (en z)) (en ns) : M (Out D B)) = pure (.nx (.lst (en (ns.foldl g z)))) ∧ P [] (ns.foldl g z)
  | [], z, hz, _ => ⟨rfl, hz⟩
  | n :: r, z, hz, h => by
    obtain ⟨h1, h2⟩ := h z n r hz List.mem_cons_self
    have ih := forL_lr (B := B) r (g z n) h2 fun z y r hz hy => h z y r hz (List.mem_cons_of_mem _ hy)
    refine ⟨?_, ih.2⟩
    show forL step (.lst (en z)) (ni n :: en r) = _
    unfold forL
    rw [h1, pure_bind']
    exact ih.1
theorem acM {w : Nat} {l : List Nat} (h1 : 1 ≤ w) (h2 : w ≤ 16) (hl : l.length ≤ 60) (h : Lt w l) : m_across [ni w, .tup (en l)] = pure (.tup (en (acr w l))) := by
  have bl := basis_len h
  have hb17 : Lt 17 (basis l) := lt17 h2 (basis_lt h)
  have et : lcM (pure (en (basis l))) nm (p1 fun _ => (pure true : M Bool)) (p1 fun v142 => m_top_of [v142]) = pure (.lst (en ((basis l).map top))) :=
    lcM_enm (xs := basis l) top rfl (by omega) fun x hx => by rw [nm_ap, pure_bind', p1_ap, pure_bind', if_pos rfl, p1_ap, to (hb17 x hx)]; rfl
  have w62 : w < 2 ^ 62 := Nat.lt_of_le_of_lt h2 (by decide)
  unfold m_across b_across
  simp only [p2_ap, pure_bind', bind_assoc', runF_bind, cr h1 h2 hl h, baM (lt17 h2 h) (by omega) _ (items_t _), items_t, et, mkL0, range1_n w w62]
  refine bind_eq (forL_lr (B := Unit) (g := fun f j => if (!((basis l).map top).contains (2 ^ j)) = true then f ++ [vec (basis l) j] else f) (P := fun r f => f.length + r.length ≤ w) (List.range w) [] (by rw [List.length_range]; exact Nat.le_of_eq (Nat.zero_add w)) fun f j r hf hj => ?_).1 ?_
  · have hjw := List.mem_range.mp hj
    rw [List.length_cons] at hf
    simp only [nm_ap, pure_bind', p1_ap, bind_assoc', lst_l, topsM (B := basis l) (by omega)]
    rw [show D.int 1 = ni 1 from rfl, shl_nn _ _ (by decide) (by omega), pure_bind', Nat.one_mul, nin_l, pure_bind']
    by_cases q : (!((basis l).map top).contains (2 ^ j)) = true
    · rw [if_pos q, if_pos q, topsM (B := basis l) (by omega), pure_bind', sum_en, pure_bind', or_nn, pure_bind', app_ok _ _ (by rw [en_len]; omega), pure_bind', pure_bind', seqO_nx]
      refine ⟨?_, ?_⟩
      · show _ = (pure (.nx (.lst (en (f ++ [vec (basis l) j])))) : M (Out D D))
        rw [en_app]
        rfl
      · rw [List.length_append, List.length_singleton]
        omega
    · rw [if_neg q, if_neg q, pure_bind', seqO_nx]
      exact ⟨rfl, by omega⟩
  · have ef : ((List.range w).filter fun j => !((basis l).map top).contains (2 ^ j)).map (vec (basis l)) = vecs (basis l) w := rfl
    have hv : Lt 17 (vecs (basis l) w) := fun v hv => by
      obtain ⟨j, hj, rfl⟩ := List.mem_map.mp hv
      exact Nat.lt_of_lt_of_le (vec_lt (basis_rr l) (basis_lt h) ((mem_free (basis_rr l)).mp hj).1) (Nat.pow_le_pow_right (by omega) (by omega))
    have hvl : (vecs (basis l) w).length ≤ 1000 := by
      unfold vecs freeJ
      rw [List.length_map]
      have := List.length_filter_le (fun j => !((basis l).map top).contains (2 ^ j)) (List.range w)
      rw [List.length_range] at this
      omega
    rw [foldl_put, List.nil_append, ef, pure_bind', seqO_nx, runF_bind, baM hv hvl _ (items_l _)]
    rfl
theorem ibM {w : Nat} {l m : List Nat} (h1 : 1 ≤ w) (h2 : w ≤ 16) (hl : l.length ≤ 60) (h : Lt w l) (hm : m.length ≤ 60) (k : Lt w m) : m_in_both [ni w, .tup (en l), .tup (en m)] = pure (.tup (en (both w l m))) := by
  have l1 : (acr w l).length ≤ w := by
    have := basis_len (acr_lt h)
    rwa [basis_self (acr_rr w l)] at this
  have l2 : (acr w m).length ≤ w := by
    have := basis_len (acr_lt k)
    rwa [basis_self (acr_rr w m)] at this
  unfold m_in_both b_in_both
  simp only [p3_ap, pure_bind', bind_assoc', runF_bind, acM h1 h2 hl h, acM h1 h2 hm k, items_t, List.append_nil, ← en_app]
  rw [mkT_en (by rw [List.length_append]; omega), pure_bind', acM h1 h2 (by rw [List.length_append]; omega) (app_lt (acr_lt h) (acr_lt k)), pure_bind']
  rfl
theorem ioM {w : Nat} {l m : List Nat} (h1 : 1 ≤ w) (h2 : w ≤ 16) (hl : l.length ≤ 60) (h : Lt w l) (hm : m.length ≤ 60) (k : Lt w m) : m_in_one [ni w, .tup (en l), .tup (en m)] = pure (.tup (en (basis (basis l ++ basis m)))) := by
  have l1 := basis_len h
  have l2 := basis_len k
  unfold m_in_one b_in_one
  simp only [p3_ap, pure_bind', bind_assoc', runF_bind, cr h1 h2 hl h, cr h1 h2 hm k, baM (lt17 h2 h) (by omega) _ (items_t _), baM (lt17 h2 k) (by omega) _ (items_t _), items_t, List.append_nil, ← en_app]
  rw [mkT_en (by rw [List.length_append]; omega), pure_bind', baM (lt17 h2 (app_lt (basis_lt h) (basis_lt k))) (by rw [List.length_append]; omega) _ (items_t _), pure_bind']
  rfl
theorem laM {l : List Nat} (hl : l.length ≤ 16) : m__law_span [.tup (en l)] = pure (.lst (en (lsp l))) := by
  unfold m__law_span b__law_span
  simp only [p1_ap, pure_bind', bind_assoc', runF_bind, items_t, mkL1]
  rw [show D.lst [D.int 0] = D.lst (en [0]) from rfl]
  refine bind_eq (forL_lr (B := Unit) (g := lspF) (P := fun r f => f.length * 2 ^ r.length ≤ 2 ^ 16) l [0] (by
    have : 2 ^ l.length ≤ 2 ^ 16 := Nat.pow_le_pow_right (by omega) hl
    rw [List.length_singleton]
    omega) fun f n r hf hn => ?_).1 ?_
  · rw [List.length_cons, Nat.pow_succ] at hf
    have hp := Nat.two_pow_pos r.length
    have hfl : f.length * 2 ^ r.length * 2 ≤ 2 ^ 16 := by rw [Nat.mul_assoc]; exact hf
    have hf1 : f.length ≤ f.length * 2 ^ r.length := Nat.le_mul_of_pos_right _ hp
    have e : lcM (pure (en f)) nm (p1 fun _ => (pure true : M Bool)) (p1 fun v342 => xorD v342 (ni n)) = pure (.lst (en (f.map fun o => o ^^^ n))) :=
      lcM_enm (xs := f) (fun o => o ^^^ n) rfl (by omega) fun x hx => by rw [nm_ap, pure_bind', p1_ap, pure_bind', if_pos rfl, p1_ap, xor_nn]; rfl
    simp only [nm_ap, pure_bind', p1_ap, bind_assoc', items_l]
    rw [nin_l, pure_bind']
    unfold lspF
    by_cases q : n ∈ f
    · rw [List.contains_iff_mem.mpr q, if_pos rfl]
      exact ⟨rfl, by omega⟩
    · have : f.contains n = false := by rw [← Bool.not_eq_true, List.contains_iff_mem]; exact q
      rw [this, if_neg Bool.false_ne_true]
      rw [show (!false) = true from rfl, if_pos rfl, e, pure_bind', cat_ok _ _ (by rw [en_len, en_len, List.length_map]; omega), pure_bind', pure_bind', seqO_nx, ← en_app]
      refine ⟨rfl, ?_⟩
      rw [List.length_append, List.length_map]
      have : (f.length + f.length) * 2 ^ r.length = f.length * 2 ^ r.length * 2 := by rw [Nat.add_mul]; omega
      omega
  · rw [pure_bind', seqO_nx, runF_bind, sorted_en]
    rfl
/-- the parity of a row's bits -/
def parN (r : Nat) : Nat → Bool
  | 0 => false
  | n + 1 => parN r n ^^ r.testBit n
theorem par_sum (r : Nat) : ∀ n, ((List.range n).map fun k => r / 2 ^ k % 2).sum % 2 = if parN r n then 1 else 0
  | 0 => rfl
  | n + 1 => by
    have ih := par_sum r n
    rw [List.range_succ, List.map_append, List.sum_append, List.map_singleton, List.sum_singleton, bit_eq]
    unfold parN
    cases hp : parN r n <;> rw [hp] at ih <;> cases hb : r.testBit n <;> simp only [Bool.false_eq_true, if_false, if_true, Bool.xor_self, Bool.xor_true, Bool.xor_false, Bool.not_false, Bool.not_true] at ih ⊢ <;> omega
theorem par_dot (x y : Nat) : ∀ n, parN (x &&& y) n = dotN x y n
  | 0 => rfl
  | n + 1 => by
    unfold parN dotN
    rw [par_dot x y n, Nat.testBit_and]
theorem par_up {r w : Nat} (h : r < 2 ^ w) : ∀ n, parN r (w + n) = parN r w
  | 0 => rfl
  | n + 1 => by
    show (parN r (w + n) ^^ r.testBit (w + n)) = _
    rw [par_up h n, Nat.testBit_lt_two_pow (Nat.lt_of_lt_of_le h (Nat.pow_le_pow_right (by omega) (by omega))), Bool.xor_false]
theorem odM (r : Nat) : m__law_odd [ni r] = pure (ni (if parN r 17 then 1 else 0)) := by
  have e : lcM (pure (en (List.range 17))) nm (p1 fun _ => (pure true : M Bool)) (p1 fun v352 => (shrD (ni r) v352 >>= fun x355 => andD x355 (D.int 1))) = pure (.lst (en ((List.range 17).map fun k => r / 2 ^ k % 2))) :=
    lcM_enm (xs := List.range 17) (fun k => r / 2 ^ k % 2) rfl (by decide) fun x hx => by rw [nm_ap, pure_bind', p1_ap, pure_bind', if_pos rfl, p1_ap, shr_nn, pure_bind', show D.int 1 = ni 1 from rfl, and_nn, and_1]; rfl
  unfold m__law_odd b__law_odd
  simp only [p1_ap, pure_bind', bind_assoc', runF_bind]
  rw [show D.int 17 = ni 17 from rfl, range1_n 17 (by decide), e, pure_bind', sum_en, pure_bind', show D.int 1 = ni 1 from rfl, and_nn, pure_bind', and_1, par_sum]
  rfl
theorem tuM {order : List Nat} (ho : ∀ o ∈ order, o < 64) (hl : order.length ≤ 64) (r : Nat) : m__law_turned [ni r, .lst (en order)] = pure (ni (trn order r)) := by
  have e : lcM (pure (en (List.range order.length))) nm (p1 fun v428 => (shrD (ni r) v428 >>= fun x431 => andD x431 (D.int 1) >>= truth)) (p1 fun v428 => (ixD (.lst (en order)) v428 >>= fun x436 => shlD (D.int 1) x436)) = pure (.lst (en (((List.range order.length).filter fun k => r.testBit k).map fun k => 2 ^ order.getD k 0))) :=
    lcM_en (xs := List.range order.length) (fun k => r.testBit k) (fun k => 2 ^ order.getD k 0) rfl (by rw [List.length_range]; omega) fun x hx => by
      have hx := List.mem_range.mp hx
      have hox : order.getD x 0 < 64 := by rw [getD_of hx]; exact ho _ (List.getElem_mem hx)
      rw [nm_ap, pure_bind', p1_ap, shr_nn, pure_bind', show D.int 1 = ni 1 from rfl, and_nn, pure_bind', and_1, bit_eq]
      have et : truth (ni (if r.testBit x = true then 1 else 0)) = pure (r.testBit x) := by
        cases r.testBit x <;> rfl
      rw [et, pure_bind', p1_ap, at_en hx, pure_bind', shl_nn _ _ (by decide) (by omega), Nat.one_mul]
      cases r.testBit x <;> rfl
  unfold m__law_turned b__law_turned
  simp only [p2_ap, pure_bind', bind_assoc', runF_bind, len_l, en_len]
  rw [show D.int (order.length : Int) = ni order.length from rfl, range1_n _ (by omega), e, pure_bind', sum_en]
  rfl
theorem wiM {w : Nat} {l m : List Nat} (h1 : 1 ≤ w) (h2 : w ≤ 16) (hl : l.length ≤ 60) (h : Lt w l) (hm : m.length ≤ 60) (k : Lt w m) : m__law_within [ni w, .tup (en l), .tup (en m)] = pure (.bl (l.all fun r => isin m r)) := by
  have e : lcM (pure (en l)) nm (p1 fun _ => (pure true : M Bool)) (p1 fun v418 => m_is_in [ni w, .tup (en m), v418]) = pure (.lst (l.map fun r => D.bl (isin m r))) :=
    lcM_map (to := ni) (xs := l) (fun r => D.bl (isin m r)) rfl (by omega) fun x hx => by rw [nm_ap, pure_bind', p1_ap, pure_bind', if_pos rfl, p1_ap, inM h1 h2 hm k (h x hx)]; rfl
  unfold m__law_within b__law_within
  simp only [p3_ap, pure_bind', bind_assoc', runF_bind, items_t, e]
  rw [show (l.map fun r => D.bl (isin m r)) = (l.map fun r => isin m r).map .bl by rw [List.map_map]; rfl, all_bools, pure_bind', runF_rt, List.all_map]
  rfl
/-! ### the law -/
theorem wp_comp {f : D → M (Option D)} {J : List D → List D → Store → Prop} : ∀ (xs acc : List D) (s : Store), J xs acc s → (∀ x r acc s, J (x :: r) acc s → Wp (f x) s fun o s' => J r (acc ++ o.toList) s') → Wp (compM f xs) s fun ys s' => J [] (acc ++ ys) s'
  | [], acc, s, j, _ => wp_pure (by rw [List.append_nil]; exact j)
  | x :: r, acc, s, j, h => by
    obtain ⟨o, s', e, j'⟩ := wp_get (h x r acc s j)
    have e2 : noexc (f x) s = .ok o s' := by
      unfold noexc
      rw [e]
    unfold compM
    refine wp_go e2 (wp_bind (wp_imp (wp_comp r (acc ++ o.toList) s' j' h) fun ys s'' q => wp_pure ?_))
    cases o with
    | none => simpa [addO] using q
    | some d => simpa [addO] using q
theorem wp_lc {mi : M (List D)} {u : D → M (List D)} {mt : List D → M Bool} {me : List D → M D} {s : Store} {J : List D → List D → Store → Prop} {Q : D → Store → Prop} (hi : Wp mi s fun xs s' => J xs [] s')
    (h : ∀ x r acc s, J (x :: r) acc s → Wp (u x >>= fun ds => mt ds >>= fun b => if b = true then me ds >>= fun d => pure (some d) else pure none) s fun o s' => J r (acc ++ o.toList) s')
    (he : ∀ ys s', J [] ys s' → ys.length ≤ 2 ^ 24 ∧ Q (.lst ys) s') : Wp (lcM mi u mt me) s Q := by
  unfold lcM
  refine wp_bind (wp_imp hi fun xs s' j => wp_bind (wp_imp (wp_comp xs [] s' j h) fun ys s'' q => ?_))
  rw [List.nil_append] at q
  obtain ⟨h1, h2⟩ := he ys s'' q
  rw [mkL_ok _ h1]
  exact wp_pure h2
theorem pow_le_16 {w : Nat} (h : w ≤ 16) : 2 ^ w ≤ 65536 := Nat.le_trans (Nat.pow_le_pow_right (by omega) h) (by decide)
/-- a drawn number -/
theorem next_n {n : Nat} {rest s : Store} {many : Nat} {Q : D → Store → Prop} (d : Drw (n + 1) rest s) (hm : 0 < many) (q : ∀ (r : Nat) s', r < many → Drw n rest s' → Q (ni r) s') : Wp (m__law_next [.ref 0, ni many]) s Q :=
  next_wp d (by omega) fun r s' h0 h1 hd => by
    obtain ⟨k, rfl⟩ := Int.eq_ofNat_of_zero_le h0
    exact q k s' (by omega) hd
def J3 (n : Nat) (rest : Store) (w k : Nat) (l : List Nat) (acc : List D) (v : Nat) (s3 : Store) : Prop := ∃ l2, acc ++ (some (ni v)).toList = en l2 ∧ l2.length + k ≤ 6 ∧ Lt w l2 ∧ Drw (n + 3 * k) rest s3
theorem someM {n : Nat} {rest s : Store} {w : Nat} {Q : D → Store → Prop} (h1 : 1 ≤ w) (h2 : w ≤ 16) (d : Drw (n + 25) rest s) (q : ∀ l s', l.length ≤ 6 → Lt w l → Drw n rest s' → Q (.tup (en l)) s') : Wp (m__law_some_rows [.ref 0, ni w, ni 6]) s Q := by
  have hp := Nat.two_pow_pos w
  unfold m__law_some_rows b__law_some_rows
  simp only [p3_ap, pure_bind', bind_assoc', runF_bind]
  rw [show D.int 1 = ni 1 from rfl, add_nn, pure_bind', shl_nn _ _ (by decide) (by omega), Nat.one_mul]
  refine wp_bind (wp_lc (J := fun xs acc s => ∃ l, acc = en l ∧ l.length + xs.length ≤ 6 ∧ Lt w l ∧ Drw (n + 3 * xs.length) rest s) (wp_bind (next_n (many := 6 + 1) (d.less (m := n + 18 + 1) (by omega)) (by omega) fun k s' hk hd => ?_)) (fun x r acc s ⟨l, e, hl, hw, hd⟩ => ?_) fun ys s' ⟨l, e, hl, hw, hd⟩ => ⟨?_, ?_⟩)
  · rw [range1_n k (by omega)]
    refine wp_pure ⟨[], rfl, ?_, fun _ h => (List.not_mem_nil h).elim, hd.less ?_⟩
    · rw [en_len, List.length_range]
      exact (by omega : 0 + k ≤ 6)
    · rw [en_len, List.length_range]
      omega
  · rw [List.length_cons] at hl hd
    rw [nm_ap, pure_bind', p1_ap, pure_bind', if_pos rfl, p1_ap]
    simp only [pure_bind', bind_assoc']
    refine wp_bind (next_n (many := 2 ^ w) (hd.less (m := n + 3 * r.length + 2 + 1) (by omega)) hp fun a s1 ha hd1 => ?_)
    refine wp_bind (next_n (many := w) (hd1.less (m := n + 3 * r.length + 1 + 1) (by omega)) (by omega) fun b s2 hb hd2 => ?_)
    rw [shl_nn _ _ (by decide) (by omega), Nat.one_mul, pure_bind', mkL3, pure_bind', mkL5, pure_bind']
    refine wp_bind (next_n (many := 5) (hd2.less (m := n + 3 * r.length + 1) (by omega)) (by omega) fun c s3 hc hd3 => ?_)
    have hb2 : 2 ^ b < 2 ^ w := Nat.pow_lt_pow_right (by omega) hb
    have fin : ∀ v, v < 2 ^ w → J3 n rest w r.length l acc v s3 := fun v hv => ⟨l ++ [v], by rw [e, en_app]; rfl, by rw [List.length_append, List.length_singleton]; omega, fun x hx => by
      rcases List.mem_append.mp hx with h | h
      · exact hw x h
      · rw [List.mem_singleton.mp h]; exact hv, hd3⟩
    have e5 : ixD (.lst [D.int 0, D.int 0, D.int 0, ni 1, D.int 2]) (ni c) = pure (ni (if c = 3 then 1 else if c = 4 then 2 else 0)) := by
      have : c = 0 ∨ c = 1 ∨ c = 2 ∨ c = 3 ∨ c = 4 := by omega
      rcases this with rfl | rfl | rfl | rfl | rfl <;> rfl
    rw [e5, pure_bind']
    have : c = 3 ∨ c = 4 ∨ (c ≠ 3 ∧ c ≠ 4) := by omega
    rcases this with rfl | rfl | ⟨h3, h4⟩
    · exact wp_pure (fin (2 ^ b) hb2)
    · exact wp_pure (fin 0 hp)
    · rw [if_neg h3, if_neg h4]
      exact wp_pure (fin a ha)
  · rw [e, en_len]
    have : (0 : Nat) = ([] : List D).length := rfl
    have : l.length ≤ 6 := by simpa using hl
    omega
  · rw [e, tuple_l, pure_bind']
    exact wp_pure (q l s' (by simpa using hl) hw (by simpa using hd))
/-! the drawn order -/
theorem get_last {α : Type} (rest : List α) (c x : α) : (c :: (rest ++ [x]))[rest.length + 1]? = some x := by
  rw [List.getElem?_cons_succ, List.getElem?_append_right (Nat.le_refl _), Nat.sub_self]
  rfl
theorem set_last {α : Type} (rest : List α) (c x y : α) : (c :: (rest ++ [x])).set (rest.length + 1) y = c :: (rest ++ [y]) := by
  rw [List.set_cons_succ, List.set_append_right _ _ (Nat.le_refl _), Nat.sub_self]
  rfl
theorem cut_perm {l : List Nat} {k : Nat} (h : k < l.length) : (l[k] :: l.eraseIdx k).Perm l := by
  induction l generalizing k with
  | nil => simp at h
  | cons x l ih =>
    cases k with
    | zero => exact .refl _
    | succ k =>
      have := ih (k := k) (by simpa using h)
      simp only [List.getElem_cons_succ, List.eraseIdx_cons_succ]
      exact (List.Perm.swap x _ _).trans (this.cons x)
theorem orderM {n w : Nat} {rest s : Store} {Q : D → Store → Prop} (h2 : w ≤ 16) (d : Drw (n + w) (rest ++ [.lst (en (List.range w))]) s)
    (q : ∀ o s', o.Perm (List.range w) → Drw n (rest ++ [.lst []]) s' → Q (.lst (en o)) s') :
    Wp (lcM (range1 (ni w)) nm (p1 fun _ => (pure true : M Bool)) (p1 fun _ => (celL (.ref (rest.length + 1)) >>= fun _ => lenD (.ref (rest.length + 1)) >>= fun x701 => m__law_next [.ref 0, x701] >>= fun x706 => cellPop (.ref (rest.length + 1)) x706))) s Q := by
  refine wp_lc (J := fun xs acc s => ∃ o lf, acc = en o ∧ (o ++ lf).Perm (List.range w) ∧ lf.length = xs.length ∧ Drw (n + xs.length) (rest ++ [.lst (en lf)]) s) ?_ (fun x r acc s ⟨o, lf, e, hp, hl, hd⟩ => ?_) fun ys s' ⟨o, lf, e, hp, hl, hd⟩ => ?_
  · rw [range1_n w (by omega)]
    exact wp_pure ⟨[], List.range w, rfl, .refl _, by rw [en_len], by rw [en_len, List.length_range]; exact d⟩
  · rw [List.length_cons] at hl hd
    rw [nm_ap, pure_bind', p1_ap, pure_bind', if_pos rfl, p1_ap]
    simp only [bind_assoc']
    obtain ⟨ns, t, es, a1, a2, a3⟩ := id hd
    have hget : s[rest.length + 1]? = some (.lst (en lf)) := by rw [es]; exact get_last _ _ _
    have g1 : celL (.ref (rest.length + 1)) s = .ok (rest.length + 1, en lf) s := by
      show (getC (rest.length + 1) >>= _) s = _
      rw [bind_run]
      unfold getC
      rw [hget]
      rfl
    have g2 : lenD (.ref (rest.length + 1)) s = .ok (ni lf.length) s := by
      show (getC (rest.length + 1) >>= _) s = _
      rw [bind_run]
      unfold getC
      rw [hget]
      show Res.ok (D.int ((en lf).length : Int)) s = _
      rw [en_len]
      rfl
    refine wp_go g1 (wp_go g2 (wp_bind (next_n (hd.less (m := n + r.length + 1) (by omega)) (by omega) fun k s1 hk hd1 => ?_)))
    obtain ⟨ns1, t1, es1, b1, b2, b3⟩ := hd1
    have hget1 : s1[rest.length + 1]? = some (.lst (en lf)) := by rw [es1]; exact get_last _ _ _
    have g3 : cellPop (.ref (rest.length + 1)) (ni k) s1 = .ok (ni lf[k]) (.lst [.lst (ns1.map .int), .int (t1 : Nat)] :: (rest ++ [.lst (en (lf.eraseIdx k))])) := by
      unfold cellPop
      rw [bind_run]
      have : celL (.ref (rest.length + 1)) s1 = .ok (rest.length + 1, en lf) s1 := by
        show (getC (rest.length + 1) >>= _) s1 = _
        rw [bind_run]
        unfold getC
        rw [hget1]
        rfl
      rw [this]
      show ((intG (.int (k : Int))) >>= _) s1 = _
      have hk63 : -(2 ^ 63) ≤ (k : Int) ∧ (k : Int) < 2 ^ 63 := by
        have : lf.length ≤ w := by
          have := hp.length_eq
          rw [List.length_append, List.length_range] at this
          omega
        exact ⟨by omega, by omega⟩
      have hix : PySem.seqIndex? (k : Int) (en lf).length = some k := by
        rw [en_len]
        unfold PySem.seqIndex?
        have c1 : (decide (0 ≤ (k : Int)) && decide ((k : Int) < (lf.length : Nat))) = true := by
          rw [decide_eq_true (show 0 ≤ (k : Int) by omega), decide_eq_true (show (k : Int) < (lf.length : Nat) by omega)]
          rfl
        simp only [show ¬ ((k : Int) < 0) by omega, if_false]
        rw [if_pos c1, Int.toNat_natCast]
      have hgk : (en lf)[k]? = some (ni lf[k]) := by
        unfold en
        rw [List.getElem?_map, List.getElem?_eq_getElem hk]
        rfl
      have her : (en lf).eraseIdx k = en (lf.eraseIdx k) := by
        unfold en
        rw [List.eraseIdx_eq_take_drop_succ, List.eraseIdx_eq_take_drop_succ, List.map_append, List.map_take, List.map_drop]
      rw [intG_i, pure_bind', if_pos hk63]
      simp only [hix, hgk]
      show Res.ok _ (s1.set (rest.length + 1) _) = _
      rw [her, es1, set_last]
    refine wp_go g3 (wp_pure ⟨o ++ [lf[k]], lf.eraseIdx k, by rw [e, en_app]; rfl, ?_, ?_, ⟨ns1, t1, rfl, b1, b2, b3⟩⟩)
    · refine List.Perm.trans ?_ hp
      rw [List.append_assoc]
      exact List.Perm.append_left o (cut_perm hk)
    · rw [List.length_eraseIdx_of_lt hk]
      omega
  · have hlf : lf = [] := List.length_eq_zero_iff.mp (by simpa using hl)
    subst hlf
    rw [List.append_nil] at hp
    have hl2 := hp.length_eq
    rw [List.length_range] at hl2
    rw [e, en_len]
    exact ⟨by omega, q o s' hp hd⟩
theorem len_ten (l : List Nat) : lenD (.tup (en l)) = pure (ni l.length) := by
  rw [len_t, en_len]
  rfl
theorem add_ten {l m : List Nat} (h : l.length + m.length ≤ 2 ^ 24) : addD (.tup (en l)) (.tup (en m)) = pure (.tup (en (l ++ m))) := by
  rw [add_tt _ _ (by rw [en_len, en_len]; exact h), en_app]
theorem dim_rr {B : List Nat} (h : RR B) : dim B = B.length := by
  unfold dim
  rw [basis_self h]
theorem rr_len {w : Nat} {B : List Nat} (h : RR B) (k : Lt w B) : B.length ≤ w := by
  have := basis_len k
  rwa [basis_self h] at this
/-- a loop that runs through -/
theorem forL_thru {B : Type} {step : Unit → D → M (Out Unit Unit)} : ∀ (xs : List D), (∀ x ∈ xs, step () x = pure (.nx ())) → (forL step () xs : M (Out Unit B)) = pure (.nx ())
  | [], _ => rfl
  | x :: r, h => by
    unfold forL
    rw [h x List.mem_cons_self, pure_bind']
    exact forL_thru r fun y hy => h y (List.mem_cons_of_mem _ hy)
theorem all_isin {A B : List Nat} : A.all (fun r => isin B r) = true ↔ ∀ a ∈ A, inS B a := by
  rw [List.all_eq_true]
  exact ⟨fun h a ha => isin_iff.mp (h a ha), fun h a ha => isin_iff.mpr (h a ha)⟩
/-! the facts -/
section
variable {w : Nat} {A B : List Nat}
theorem f_one : basis (basis A ++ basis B) = basis (A ++ B) := basis_eq ((basis_S A).app (basis_S B))
theorem f_len (lA : Lt w A) (lB : Lt w B) : (both w A B).length + (basis (A ++ B)).length = (basis A).length + (basis B).length := by
  have h := dim_sum (U := A) (W := B) (I := both w A B) fun x => both_S lA lB
  have e : dim (A ++ B) = (basis (basis A ++ basis B)).length := by
    rw [dim_eq ((basis_S (basis A ++ basis B)).trans ((basis_S A).app (basis_S B))).symm, dim_rr (basis_rr _)]
  rw [dim_rr (both_rr w A B), e, f_one] at h
  exact h
theorem f_span (lA : Lt w A) (lB : Lt w B) : lsp (both w A B) = (lsp (basis A)).filter fun x => (lsp (basis B)).contains x :=
  both_lsp fun x => (both_S lA lB).trans (and_congr (basis_S A x).symm (basis_S B x).symm)
theorem f_acr1 (lA : Lt w A) (lB : Lt w B) : acr w (basis (A ++ B)) = both w (acr w (basis A)) (acr w (basis B)) := by
  rw [← f_one]
  have l1 := basis_lt lA
  have l2 := basis_lt lB
  refine (acr_rr w _).ext (both_rr w _ _) fun x => ?_
  rw [acr_S (basis_lt (app_lt l1 l2)), both_S (acr_lt l1) (acr_lt l2), acr_S l1, acr_S l2, Perp.eqv (basis_S _), perp_app]
theorem f_acr2 (lA : Lt w A) (lB : Lt w B) : acr w (both w A B) = basis (basis (acr w (basis A)) ++ basis (acr w (basis B))) := by
  have l1 := basis_lt lA
  have l2 := basis_lt lB
  have k1 := acr_lt l1
  have k2 := acr_lt l2
  -- both is across of the two acrosses
  have e1 : acr w (basis A) = acr w A := acr_eq l1 lA (basis_S A)
  have e2 : acr w (basis B) = acr w B := acr_eq l2 lB (basis_S B)
  refine (acr_rr w _).ext (basis_rr _) fun x => ?_
  unfold both
  rw [e1, e2, acr_acr (app_lt (acr_lt lA) (acr_lt lB)) x, basis_S _ x, ((basis_S (acr w A)).app (basis_S (acr w B))) x]
theorem f_dim (lA : Lt w A) : (basis A).length + (acr w A).length = w := by
  have h := acr_dim lA
  rw [dim_rr (acr_rr w A)] at h
  unfold dim at h
  omega
theorem f_back (lA : Lt w A) : acr w (acr w A) = basis A := (acr_rr w _).ext (basis_rr A) fun x => (acr_acr lA x).trans (basis_S A x).symm
theorem f_odd (h2 : w ≤ 16) (lA : Lt w A) {row other : Nat} (hr : row ∈ acr w A) (ho : other ∈ A) : parN (row &&& other) 17 = false := by
  have lt : row &&& other < 2 ^ w := Nat.and_lt_two_pow _ (lA other ho)
  have e : 17 = w + (17 - w) := by omega
  rw [e, par_up lt, par_dot]
  exact ((acr_S lA).mp (S_mem hr)).2 other ho
theorem f_within (lA : Lt w A) (lB : Lt w B) : (basis A).all (fun r => isin (basis B) r) = (acr w (basis B)).all fun r => isin (acr w (basis A)) r := by
  have l1 := basis_lt lA
  have l2 := basis_lt lB
  rw [Bool.eq_iff_iff, all_isin, all_isin]
  constructor
  · intro h x hx
    refine (acr_S l1).mpr ?_
    have hp := (acr_S l2).mp (S_mem hx)
    exact ⟨hp.1, fun b hb => by
      rw [dot_comm]
      exact dot_S (fun c hc => by rw [dot_comm]; exact hp.2 c hc) (h b hb)⟩
  · intro h x hx
    refine (acr_acr l2 x).mp ((acr_S (acr_lt l2)).mpr ?_)
    refine ⟨l1 x hx, fun b hb => ?_⟩
    have hp := (acr_S l1).mp (h b hb)
    rw [dot_comm]
    exact hp.2 x hx
theorem f_within2 : (basis A).all (fun r => isin (basis B) r) = decide (basis (A ++ B) = basis B) := by
  rw [← f_one]
  rw [Bool.eq_iff_iff, all_isin, decide_eq_true_iff]
  constructor
  · intro h
    have : Eqv (basis A ++ basis B) B := .of (fun b hb => by
      rcases List.mem_append.mp hb with q | q
      · exact (basis_S B b).mp (h b q)
      · exact (basis_S B b).mp (S_mem q)) fun b hb => S_app_r _ ((basis_S B b).mpr (S_mem hb))
    exact basis_eq this
  · intro h a ha
    have h2 : inS (basis (basis A ++ basis B)) a := (basis_S _ a).mpr (S_app_l _ (S_mem ha))
    rwa [h] at h2
theorem f_more (r : Nat) : (basis (A ++ [r])).length = (basis A).length + (if (!isin A r) = true then 1 else 0) := by
  have h := dim_snoc A r
  unfold dim at h
  rw [h]
  by_cases z : inS A r
  · rw [if_pos z, isin_iff.mpr z]
    rfl
  · have : isin A r = false := by rw [← Bool.not_eq_true, isin_iff]; exact z
    rw [if_neg z, this]
    rfl
theorem f_isin (r : Nat) : isin A r = (lsp (basis A)).contains r := by
  rw [Bool.eq_iff_iff, isin_iff, List.contains_iff_mem, lsp_mem, basis_S A r]
theorem f_again : basis (basis A) = basis A := basis_self (basis_rr A)
theorem f_rev : basis ((basis A).reverse ++ A) = basis A := by
  refine basis_eq (.of (fun b hb => ?_) fun b hb => S_app_r _ (S_mem hb))
  rcases List.mem_append.mp hb with q | q
  · exact (basis_S A b).mp (S_mem (List.mem_reverse.mp q))
  · exact S_mem q
end
theorem wp_eq {α β : Type} {m m' : M α} {f : α → M β} {s : Store} {Q : β → Store → Prop} (h : m = m') (q : Wp (m' >>= f) s Q) : Wp (m >>= f) s Q := by rw [h]; exact q
theorem int_bn (b : Bool) : intD (.bl b) = pure (ni (if b = true then 1 else 0)) := by cases b <;> rfl
theorem law_ok : LawOk m_law := by
  intro ns hl
  obtain ⟨nums, e, h0, h1⟩ := stream_ok ns hl []
  suffices h : Wp (m_law [.rls (ns.map .int)]) [] fun d _ => d = .bl true from h.run
  unfold m_law b_law
  simp only [p1_ap, pure_bind', bind_assoc', runF_bind]
  refine wp_go e ?_
  rw [mkL2, pure_bind']
  refine wp_go (a := .ref 0) (s' := [.lst [.lst (nums.map .int), .int ((0 : Nat) : Int)]]) rfl ?_
  rw [show D.int 6 = ni 6 from rfl, range1_n 6 (by decide), pure_bind']
  refine wp_bind (wp_for (fun xs _ s => ∃ rest, Drw (xs.length * 100) rest s) _ _ _ ⟨[], nums, 0, rfl, h0, h1, by rw [en_len]; decide⟩ ?_ ?_)
  · rintro x r ⟨⟩ s ⟨rest, hd⟩
    rw [List.length_cons] at hd
    rw [nm_ap, pure_bind', p1_ap]
    -- the width
    refine wp_bind (next_n (many := 8) (hd.less (m := r.length * 100 + 99 + 1) (by omega)) (by omega) fun k s1 hk hd1 => ?_)
    rw [show D.int 1 = ni 1 from rfl, add_nn, pure_bind']
    generalize hw : 1 + k = w
    have w1 : 1 ≤ w := by omega
    have w8 : w ≤ 8 := by omega
    have w2 : w ≤ 16 := by omega
    -- two lists of rows
    refine wp_bind (someM w1 w2 (n := r.length * 100 + 74) (hd1.less (by omega)) fun A s2 hA lA hd2 => ?_)
    refine wp_bind (someM w1 w2 (n := r.length * 100 + 49) (hd2.less (by omega)) fun B s3 hB lB hd3 => ?_)
    have rA := basis_rr A
    have rB := basis_rr B
    have eA : Eqv (basis A) A := basis_S A
    have eB : Eqv (basis B) B := basis_S B
    have lone := basis_lt lA
    have ltwo := basis_lt lB
    have none' := basis_len lA
    have ntwo := basis_len lB
    have labo := both_lt lA lB
    have rbo := both_rr w A B
    have nbo := rr_len rbo labo
    have lei : Lt w (basis (A ++ B)) := basis_lt (app_lt lA lB)
    have rei : RR (basis (A ++ B)) := basis_rr _
    have nei := rr_len rei lei
    have lac1 := acr_lt lone
    have lac2 := acr_lt ltwo
    have nac1 := rr_len (acr_rr w (basis A)) lac1
    have nac2 := rr_len (acr_rr w (basis B)) lac2
    have lacA := acr_lt lA
    have nacA := rr_len (acr_rr w A) lacA
    have nAB : (A ++ B).length ≤ 60 := by rw [List.length_append]; omega
    -- the values
    have v1 := spM w1 w2 (l := A) (by omega) lA
    have v2 := spM w1 w2 (l := B) (by omega) lB
    have v3 := ibM w1 w2 (l := A) (m := B) (by omega) lA (by omega) lB
    have v4 := ioM w1 w2 (l := A) (m := B) (by omega) lA (by omega) lB
    rw [f_one] at v4
    have v5 := spM w1 w2 (l := A ++ B) nAB (app_lt lA lB)
    have v6 := laM (l := both w A B) (by omega)
    have v7 := laM (l := basis A) (by omega)
    have v8 := laM (l := basis B) (by omega)
    have v9 := acM w1 w2 (l := basis (A ++ B)) (by omega) lei
    have v10 := acM w1 w2 (l := basis A) (by omega) lone
    have v11 := acM w1 w2 (l := basis B) (by omega) ltwo
    have v12 := acM w1 w2 (l := both w A B) (by omega) labo
    have v13 := ibM w1 w2 (l := acr w (basis A)) (m := acr w (basis B)) (by omega) lac1 (by omega) lac2
    have v14 := ioM w1 w2 (l := acr w (basis A)) (m := acr w (basis B)) (by omega) lac1 (by omega) lac2
    have v15 := acM w1 w2 (l := A) (by omega) lA
    have v16 := acM w1 w2 (l := acr w A) (by omega) lacA
    have v17 := wiM w1 w2 (l := basis A) (m := basis B) (by omega) lone (by omega) ltwo
    have v18 := wiM w1 w2 (l := acr w (basis B)) (m := acr w (basis A)) (by omega) lac2 (by omega) lac1
    -- the filter of the spans
    have v19 : lcM (pure (en (lsp (basis A)))) nm (p1 fun v516 => (inB false v516 (.lst (en (lsp (basis B)))))) (p1 fun v516 => (pure v516 : M D)) = pure (.lst (en ((lsp (basis A)).filter fun x => (lsp (basis B)).contains x))) := by
      have hle : (lsp (basis A)).length ≤ 2 ^ 24 := by
        unfold lsp
        rw [nsort_len]
        have := (lsp_fold (basis A) (f := [0]) (done := []) (List.nodup_cons.mpr ⟨List.not_mem_nil, List.nodup_nil⟩) fun x => List.mem_singleton).2.2
        have : 2 ^ (basis A).length ≤ 2 ^ 8 := Nat.pow_le_pow_right (by omega) (by omega)
        rw [List.length_singleton] at *
        omega
      refine (lcM_en (xs := lsp (basis A)) (fun x => (lsp (basis B)).contains x) (fun x => x) rfl hle fun x hx => ?_).trans ?_
      · rw [nm_ap, pure_bind', p1_ap, in_l, pure_bind']
        cases (lsp (basis B)).contains x <;> rfl
      · rw [List.map_id']
    have v20 : ∀ row, row ∈ acr w A → lcM (pure (en A)) nm (p1 fun _ => (pure true : M Bool)) (p1 fun v595 => (andD (ni row) v595 >>= fun x607 => m__law_odd [x607] >>= fun x603 => eqB x603 (ni 1) >>= fun b602 => (pure (D.bl b602) : M D))) = pure (.lst (A.map fun _ => D.bl false)) := fun row hrow =>
      lcM_map (to := ni) (xs := A) (fun _ => D.bl false) rfl (by omega) fun x hx => by
        rw [nm_ap, pure_bind', p1_ap, pure_bind', if_pos rfl, p1_ap, and_nn, pure_bind', odM, pure_bind', f_odd w2 lA hrow hx, eq_nn]
        rfl
    have vany : anyD (.lst (A.map fun _ => D.bl false)) = pure (.bl false) := by
      rw [show (A.map fun _ => D.bl false) = (A.map fun _ => false).map .bl by rw [List.map_map]; rfl, any_bools]
      congr 2
      rw [Bool.eq_false_iff, ne_eq, List.any_eq_true]
      rintro ⟨x, hx, h⟩
      obtain ⟨_, _, rfl⟩ := List.mem_map.mp hx
      cases h
    have tst : ∀ b : Bool, (if (!b) = true then (pure (Out.rt (D.bl false)) : M (Out Unit Unit)) else pure (Out.nx ())) = cond b (pure (Out.nx ())) (pure (Out.rt (D.bl false))) := fun b => by cases b <;> rfl
    simp only [n1, v1, v2, v3, v4, pure_bind', bind_assoc', len_ten, add_nn, ne_nn, f_len lA lB, beq_self_eq_true, Bool.not_true, Bool.false_eq_true, if_false, add_ten (l := A) (m := B) (by omega), v5, ne_ten, decide_true, seqO_nx]
    simp only [v6, v7, v8, pure_bind', items_l, v19, ne_len, f_span lA lB, decide_true, Bool.not_true, Bool.false_eq_true, if_false, seqO_nx]
    simp only [v9, v10, v11, v12, v13, v14, v15, v16, pure_bind', ne_ten, f_acr1 lA lB, f_acr2 lA lB, decide_true, Bool.not_true, Bool.false_eq_true, if_false, seqO_nx, len_ten, add_nn, f_dim lA, f_back lA, ne_nn, beq_self_eq_true, items_t]
    -- what lies across has nothing odd
    refine wp_eq (forL_thru (en (acr w A)) fun x hx => ?_) ?_
    · obtain ⟨row, hrow, rfl⟩ := List.mem_map.mp hx
      rw [nm_ap, pure_bind', p1_ap, v20 row hrow, pure_bind', vany, pure_bind', truth_b, pure_bind', if_neg Bool.false_ne_true, pure_bind', seqO_nx]
    simp only [pure_bind', seqO_nx, v17, v18, ne_bb, f_within lA lB, beq_self_eq_true, Bool.not_true, Bool.false_eq_true, if_false, eq_ten]
    rw [← f_within lA lB, f_within2]
    simp only [beq_self_eq_true, Bool.not_true, Bool.false_eq_true, if_false, pure_bind', seqO_nx]
    -- a row more
    rw [shl_nn _ _ (by decide) (by omega), pure_bind', Nat.one_mul]
    refine wp_bind (next_n (many := 2 ^ w) (hd3.less (m := r.length * 100 + 40 + 1) (by omega)) (Nat.two_pow_pos w) fun row s4 hrow hd4 => ?_)
    have lmore : Lt w (A ++ [row]) := app_lt lA fun x hx => by rw [List.mem_singleton.mp hx]; exact hrow
    have v21 : addD (.tup (en A)) (.tup [ni row]) = pure (.tup (en (A ++ [row]))) := add_ten (l := A) (m := [row]) (by rw [List.length_singleton]; omega)
    have v22 := spM w1 w2 (l := A ++ [row]) (by rw [List.length_append, List.length_singleton]; omega) lmore
    have v23 := inM w1 w2 (l := A) (r := row) (by omega) lA hrow
    simp only [mkT1, pure_bind', v21, v22, v23, len_ten, truth_b, int_bn, add_nn, ne_nn, f_more, beq_self_eq_true, Bool.not_true, Bool.false_eq_true, if_false, in_l, ne_bb, ← f_isin, seqO_nx]
    -- bits in another order
    have v24 : (intG (ni w) >>= fun a => rgM 0 a) = pure (.lst (en (List.range w))) := by
      show rgM 0 (w : Int) = _
      unfold rgM
      rw [if_pos ⟨by omega, by omega, by omega, by omega⟩, show ((w : Int) - 0).toNat = w by omega, range_en]
    rw [← bind_assoc', v24, pure_bind']
    obtain ⟨ns4, t4, es4, q1, q2, q3⟩ := hd4
    have v25 : celD (.lst (en (List.range w))) s4 = .ok (.ref (rest.length + 1)) (.lst [.lst (ns4.map .int), .int (t4 : Nat)] :: (rest ++ [.lst (en (List.range w))])) := by
      show Res.ok (D.ref s4.length) (s4 ++ [.lst (en (List.range w))]) = _
      rw [es4, List.length_cons]
      rfl
    refine wp_go v25 ?_
    refine wp_bind (orderM (n := r.length * 100 + 32) (w := w) w2 ⟨ns4, t4, rfl, q1, q2, by omega⟩ fun o s5 ho hd5 => ?_)
    have nd : o.Nodup := ho.nodup_iff.mpr List.nodup_range
    have lo' : o.length = w := by rw [ho.length_eq, List.length_range]
    have lto : ∀ x ∈ o, x < w := fun x hx => List.mem_range.mp (ho.mem_iff.mp hx)
    have tu := fun r => tuM (order := o) (fun x hx => by have := lto x hx; omega) (by omega) r
    have v26 : lcM (pure (en A)) nm (p1 fun _ => (pure true : M Bool)) (p1 fun v709 => m__law_turned [v709, .lst (en o)]) = pure (.lst (en (A.map (trn o)))) :=
      lcM_enm (xs := A) (trn o) rfl (by omega) fun x hx => by rw [nm_ap, pure_bind', p1_ap, pure_bind', if_pos rfl, p1_ap, tu]; rfl
    have lspl : (lsp (basis A)).length ≤ 2 ^ 24 := by
      unfold lsp
      rw [nsort_len]
      have := (lsp_fold (basis A) (f := [0]) (done := []) (List.nodup_cons.mpr ⟨List.not_mem_nil, List.nodup_nil⟩) fun x => List.mem_singleton).2.2
      have : 2 ^ (basis A).length ≤ 2 ^ 8 := Nat.pow_le_pow_right (by omega) (by omega)
      rw [List.length_singleton] at *
      omega
    have v27 : lcM (pure (en (lsp (basis A)))) nm (p1 fun _ => (pure true : M Bool)) (p1 fun v709 => m__law_turned [v709, .lst (en o)]) = pure (.lst (en ((lsp (basis A)).map (trn o)))) :=
      lcM_enm (xs := lsp (basis A)) (trn o) rfl lspl fun x hx => by rw [nm_ap, pure_bind', p1_ap, pure_bind', if_pos rfl, p1_ap, tu]; rfl
    have lturn : Lt w (A.map (trn o)) := fun x hx => by
      obtain ⟨y, _, rfl⟩ := List.mem_map.mp hx
      exact trn_lt nd lto y
    have v28 := spM w1 w2 (l := A.map (trn o)) (by rw [List.length_map]; omega) lturn
    have nturn := basis_len lturn
    have v29 := laM (l := basis (A.map (trn o))) (by omega)
    have t1 : lsp (basis (A.map (trn o))) = nsort ((lsp (basis A)).map (trn o)) := turned_lsp nd (by rw [lo']; exact lA) eA
    have v30 := spM w1 w2 (l := basis A) (by omega) lone
    have lrev : Lt w ((basis A).reverse ++ A) := app_lt (fun x hx => lone x (List.mem_reverse.mp hx)) lA
    have v31 := spM w1 w2 (l := (basis A).reverse ++ A) (by rw [List.length_append, List.length_reverse]; omega) lrev
    have v32 : (en (basis A)).reverse = en (basis A).reverse := List.map_reverse.symm
    have v33 : addD (.tup (en (basis A).reverse)) (.tup (en A)) = pure (.tup (en ((basis A).reverse ++ A))) := add_ten (by rw [List.length_reverse]; omega)
    simp only [v26, pure_bind', tuple_l, v28, v29, v7, items_l, v27, sorted_en, t1, ne_len, decide_true, Bool.not_true, Bool.false_eq_true, if_false, seqO_nx, v30, f_again, ne_ten, rev_t, v32, v33, v31, f_rev]
    exact wp_pure ⟨_, hd5.less (by omega)⟩
  · rintro ⟨⟩ s ⟨rest, hd⟩
    rw [seqO_nx, runF_rt]
    exact wp_pure rfl
end K95
open PySem PySem.W PyProof.Rows
set_option maxHeartbeats 0
theorem PySem.Challenge.cw_askcraft_k95_whole_spans_in_order_holds : PySem.Challenge.rw_askcraft_k95_whole_spans_in_order.Holds := by
  w_on; o_law; k_head; (case hw => w_witness2)
  k_fill
  refine L2.walk_of (l := PySem.Challenge.rw_askcraft_k95_whole_spans_in_order) (n := 63) (k := 6) (x := "script") (CX := fun w => L2.CX PySem.Challenge.rw_askcraft_k95_whole_spans_in_order.prog w) (sp := fun w => DL.spLaw _) rfl (by decide) rfl ⟨rfl, by decide, by decide⟩ (fun w h Y => PySem.W.kIn_of Y) ?F (fun _ _ a ns hl _ hS => ⟨a, ns, rfl, hl, hS, fun _ => rfl⟩) (fun _ _ _ _ _ h => DL.cx_no h)
  case F =>
    intro w mg fa h KX G hmg
    refine' K95.all_mk KX G hmg ?a0 ?l0 ?c0 ?k0 ?a1 ?l1 ?c1 ?k1 ?a2 ?l2 ?c2 ?k2 ?a3 ?l3 ?c3 ?k3 ?a4 ?l4 ?c4 ?k4 ?a5 ?l5 ?c5 ?k5 ?a6 ?l6 ?c6 ?k6 ?a7 ?l7 ?c7 ?k7 ?a8 ?l8 ?c8 ?k8 ?a9 ?l9 ?c9 ?k9 ?a10 ?l10 ?c10 ?k10 ?a11 ?l11 ?c11 ?k11 ?a12 ?l12 ?c12 ?k12 ?a13 ?l13 ?c13 ?k13 ?a14 ?l14 ?c14 ?k14 ?a15 ?l15 ?c15 ?k15 ?a16 ?l16 ?c16 ?k16 ?a17 ?l17 ?c17 ?k17 ?zb_abs ?zb_all ?zb_any ?zb_int ?zb_len ?zb_list ?zb_range ?zb_sorted ?zb_sum ?zb_tuple ?zb_zip ?zc_MAX_SHOWN_ROWS ?zc_MAX_WIDTH K95.law_ok
    (case a0 => k_is); (case l0 => k_is); (case c0 => k_is); (case k0 => k_is); (case a1 => k_is); (case l1 => k_is); (case c1 => k_is); (case k1 => k_is); (case a2 => k_is); (case l2 => k_is); (case c2 => k_is); (case k2 => k_is); (case a3 => k_is); (case l3 => k_is); (case c3 => k_is); (case k3 => k_is); (case a4 => k_is); (case l4 => k_is); (case c4 => k_is); (case k4 => k_is); (case a5 => k_is); (case l5 => k_is); (case c5 => k_is); (case k5 => k_is); (case a6 => k_is); (case l6 => k_is); (case c6 => k_is); (case k6 => k_is); (case a7 => k_is); (case l7 => k_is); (case c7 => k_is); (case k7 => k_is); (case a8 => k_is); (case l8 => k_is); (case c8 => k_is); (case k8 => k_is); (case a9 => k_is); (case l9 => k_is); (case c9 => k_is); (case k9 => k_is); (case a10 => k_is); (case l10 => k_is); (case c10 => k_is); (case k10 => k_is); (case a11 => k_is); (case l11 => k_is); (case c11 => k_is); (case k11 => k_is); (case a12 => k_is); (case l12 => k_is); (case c12 => k_is); (case k12 => k_is); (case a13 => k_is); (case l13 => k_is); (case c13 => k_is); (case k13 => k_is); (case a14 => k_is); (case l14 => k_is); (case c14 => k_is); (case k14 => k_is); (case a15 => k_is); (case l15 => k_is); (case c15 => k_is); (case k15 => k_is); (case a16 => k_is); (case l16 => k_is); (case c16 => k_is); (case k16 => k_is); (case a17 => k_is); (case l17 => k_is); (case c17 => k_is); (case k17 => k_is); (case zb_abs => k_is); (case zb_all => k_is); (case zb_any => k_is); (case zb_int => k_is); (case zb_len => k_is); (case zb_list => k_is); (case zb_range => k_is); (case zb_sorted => k_is); (case zb_sum => k_is); (case zb_tuple => k_is); (case zb_zip => k_is); (case zc_MAX_SHOWN_ROWS => k_is); (case zc_MAX_WIDTH => k_is)
