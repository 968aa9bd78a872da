import PyProof.Rows.All
import KE.RegKIsAll
import KE.RegKTryMore
import Wide.All
import OpenK.AllK
import Wide.FinOn
import HandS.ForMost
import HandS.ForExc
import HandS.Walk
import HandS.SortInts
import HandS.SortKw
import HandS.Zip
import HandS.Conv
import HandS.Flow
import HandS.Style
import HandS.TupAny
import HandS.Deep
import HandS.ExcCtx
import HandS.Star
import HandS.Zip0
import KE.GoesMore
import KE.GoesZip
import KE.KRevSl
import HandS.SetFor
import HandS.Strs
import HandS.TupSets
import HandS.HotCalls
import HandS.ExcIs
import HandS.ExcOwn
import HandS.Dict
import HandS.DictComp
import HandS.Iter
import PyProof.ListNew
import HandS.ListItems
import PyProof.WalksMore
import PySem.Challenge.RW_askcraft_k88_blocks_in_order
set_option Elab.async false
set_option linter.all false
set_option maxRecDepth 100000
namespace DL
open PySem PySem.Spec PyProof.Rows L2
/-! ### pure data, the store, the monad -/
inductive D where
  | non | bl (b : Bool) | int (i : Int) | str (x : Str)
  /-- rls: a list that the program is handed (the script) -/
  | tup (xs : List D) | lst (xs : List D) | dct (kvs : List (Key × D)) | ref (k : Nat) | rls (xs : List D) | dcT (kvs : List (List Key × D)) | rtp (xs : List D)
inductive Cell where
  | lst (xs : List D) | dct (kvs : List (Key × D)) | ins (c : Nat) (fs : List (Str × D)) | dcT (kvs : List (List Key × D))
abbrev Store := List Cell
inductive Res (α : Type) where
  | ok (a : α) (s : Store) | exc (c : Nat) (s : Store) | stuck
def M (α : Type) := Store → Res α
def M.bind' {α β : Type} (m : M α) (f : α → M β) : M β := fun s => match m s with
  | .ok a s' => f a s'
  | .exc c s' => .exc c s'
  | .stuck => .stuck
instance : Monad M where
  pure a := fun s => .ok a s
  bind := M.bind'
theorem pure_run {α : Type} (a : α) (s : Store) : (pure a : M α) s = .ok a s := rfl
theorem bind_run {α β : Type} (m : M α) (f : α → M β) (s : Store) : (m >>= f) s = match m s with
  | .ok a s' => f a s'
  | .exc c s' => .exc c s'
  | .stuck => .stuck := rfl
theorem bind_ok {α β : Type} {m : M α} {f : α → M β} {s s' : Store} {a : α} (h : m s = .ok a s') : (m >>= f) s = f a s' := by
  rw [bind_run, h]
@[simp] theorem pure_bind' {α β : Type} (a : α) (f : α → M β) : ((pure a : M α) >>= f) = f a := Eq.trans rfl rfl
@[simp] theorem bind_pure' {α : Type} (m : M α) : (m >>= fun a => pure a) = m := by
  funext s
  rw [bind_run]
  cases m s <;> rfl
@[simp] theorem bind_assoc' {α β γ : Type} (m : M α) (f : α → M β) (k : β → M γ) : ((m >>= f) >>= k) = (m >>= fun a => f a >>= k) := by
  funext s
  rw [bind_run, bind_run, bind_run]
  cases m s <;> rfl
def stuck {α : Type} : M α := fun _ => .stuck
def raise {α : Type} (c : Nat) : M α := fun s => .exc c s
@[simp] theorem stuck_bind {α β : Type} (f : α → M β) : ((stuck : M α) >>= f) = stuck := Eq.trans rfl rfl
@[simp] theorem raise_bind {α β : Type} (c : Nat) (f : α → M β) : ((raise c : M α) >>= f) = raise c := Eq.trans rfl rfl
def getC (k : Nat) : M Cell := fun s => match s[k]? with
  | some c => .ok c s
  | none => .stuck
def setC (k : Nat) (c : Cell) : M Unit := fun s => .ok () (s.set k c)
def newC (c : Cell) : M Nat := fun s => .ok s.length (s ++ [c])
/-- what holds of a result -/
def Res.Post {α : Type} (r : Res α) (ok : α → Store → Prop) (ex : Nat → Store → Prop) : Prop := match r with
  | .ok a s => ok a s
  | .exc c s => ex c s
  | .stuck => False
theorem Res.Post.imp {α : Type} {r : Res α} {ok ok' : α → Store → Prop} {ex ex' : Nat → Store → Prop} (h : r.Post ok ex) (h1 : ∀ a s, ok a s → ok' a s) (h2 : ∀ c s, ex c s → ex' c s) : r.Post ok' ex' := by
  cases r with
  | ok a s => exact h1 a s h
  | exc c s => exact h2 c s h
  | stuck => exact h
theorem post_bind {α β : Type} {m : M α} {f : α → M β} {s : Store} {ok : β → Store → Prop} {ex : Nat → Store → Prop} (h : ((m >>= f) s).Post ok ex) : (m s).Post (fun a s' => (f a s').Post ok ex) ex := by
  rw [bind_run] at h
  cases e : m s with
  | ok a s' => rw [e] at h; exact h
  | exc c s' => rw [e] at h; exact h
  | stuck => rw [e] at h; exact h
def kD : Key → D
  | .inl i => .int i
  | .inr x => .str x
/-! ### values stand for data: G is the part of the heap that is never written any more, am the addresses of the store's cells -/
section
variable (K : PySem.W.Frag) (G : Hp) (am : List Addr)
mutual
inductive Rp : V → D → Prop
  | non : Rp .non .non
  | bl (b : Bool) : Rp (.bl b) (.bl b)
  | int (i : Int) : Rp (.int i) (.int i)
  | str (x : Str) : Rp (.str x) (.str x)
  | tup {a : Addr} {xs : List V} {ds : List D} : G a = some (.tup xs) → Rps xs ds → Rp (.ref a) (.tup ds)
  | rtp {a : Addr} {xs : List V} {ds : List D} : SqT K G a xs → Rps xs ds → Rp (.ref a) (.rtp ds)
  | lst {a : Addr} {xs : List V} {ds : List D} : G a = some (.lst xs) → Rps xs ds → Rp (.ref a) (.lst ds)
  | rls {a : Addr} {xs : List V} {ds : List D} : SqL K G a xs → Rps xs ds → Rp (.ref a) (.rls ds)
  | dK {a : Addr} {o : Obj} {kvs : List (Key × V)} {es : List (Key × D)} : G a = some (.frz o (.dK kvs)) → RpK kvs es → Rp (.ref a) (.dct es)
  | dT {a : Addr} {o : Obj} {kvs : List (List Key × V)} {es : List (List Key × D)} : G a = some (.frz o (.dT kvs)) → RpT kvs es → Rp (.ref a) (.dcT es)
  | ref {a : Addr} {k : Nat} : am[k]? = some a → Rp (.ref a) (.ref k)
inductive Rps : List V → List D → Prop
  | nil : Rps [] []
  | cons {v : V} {vs : List V} {d : D} {ds : List D} : Rp v d → Rps vs ds → Rps (v :: vs) (d :: ds)
inductive RpK : List (Key × V) → List (Key × D) → Prop
  | nil : RpK [] []
  | cons {k : Key} {v : V} {d : D} {kvs : List (Key × V)} {es : List (Key × D)} : Rp v d → RpK kvs es → RpK ((k, v) :: kvs) ((k, d) :: es)
inductive RpT : List (List Key × V) → List (List Key × D) → Prop
  | nil : RpT [] []
  | cons {k : List Key} {v : V} {d : D} {kvs : List (List Key × V)} {es : List (List Key × D)} : Rp v d → RpT kvs es → RpT ((k, v) :: kvs) ((k, d) :: es)
end
end
section
variable {K : PySem.W.Frag} {G G' : Hp} {am am' : List Addr}
theorem rd_mono (h : ∀ a o, G a = some o → G' a = some o) {a : Addr} {u : HO} (r : Rd G a u) : Rd G' a u := by
  rcases r with r | ⟨o, r⟩
  · exact .inl (h _ _ r)
  · exact .inr ⟨o, h _ _ r⟩
theorem sqL_mono (h : ∀ a o, G a = some o → G' a = some o) {a : Addr} {xs : List V} (r : SqL K G a xs) : SqL K G' a xs := by
  rcases r with r | r
  · exact .inl (rd_mono h r)
  · exact .inr r
theorem sqT_mono (h : ∀ a o, G a = some o → G' a = some o) {a : Addr} {xs : List V} (r : SqT K G a xs) : SqT K G' a xs := by
  rcases r with r | r
  · exact .inl (rd_mono h r)
  · exact .inr r
theorem pre_get (h : am <+: am') {k : Nat} {a : Addr} (e : am[k]? = some a) : am'[k]? = some a := by
  obtain ⟨t, rfl⟩ := h
  have hk : k < am.length := (List.getElem?_eq_some_iff.mp e).1
  rw [List.getElem?_append_left hk]
  exact e
mutual
theorem Rp.mono (h : ∀ a o, G a = some o → G' a = some o) (ha : am <+: am') : ∀ {v : V} {d : D}, Rp K G am v d → Rp K G' am' v d
  | _, _, .non => .non
  | _, _, .bl b => .bl b
  | _, _, .int i => .int i
  | _, _, .str x => .str x
  | _, _, .tup s r => .tup (h _ _ s) (Rps.mono h ha r)
  | _, _, .rtp s r => .rtp (sqT_mono h s) (Rps.mono h ha r)
  | _, _, .lst s r => .lst (h _ _ s) (Rps.mono h ha r)
  | _, _, .rls s r => .rls (sqL_mono h s) (Rps.mono h ha r)
  | _, _, .dK s r => .dK (h _ _ s) (RpK.mono h ha r)
  | _, _, .dT s r => .dT (h _ _ s) (RpT.mono h ha r)
  | _, _, .ref e => .ref (pre_get ha e)
theorem Rps.mono (h : ∀ a o, G a = some o → G' a = some o) (ha : am <+: am') : ∀ {vs : List V} {ds : List D}, Rps K G am vs ds → Rps K G' am' vs ds
  | _, _, .nil => .nil
  | _, _, .cons r t => .cons (Rp.mono h ha r) (Rps.mono h ha t)
theorem RpK.mono (h : ∀ a o, G a = some o → G' a = some o) (ha : am <+: am') : ∀ {vs : List (Key × V)} {ds : List (Key × D)}, RpK K G am vs ds → RpK K G' am' vs ds
  | _, _, .nil => .nil
  | _, _, .cons r t => .cons (Rp.mono h ha r) (RpK.mono h ha t)
theorem RpT.mono (h : ∀ a o, G a = some o → G' a = some o) (ha : am <+: am') : ∀ {vs : List (List Key × V)} {ds : List (List Key × D)}, RpT K G am vs ds → RpT K G' am' vs ds
  | _, _, .nil => .nil
  | _, _, .cons r t => .cons (Rp.mono h ha r) (RpT.mono h ha t)
end
theorem Rps.length : ∀ {vs : List V} {ds : List D}, Rps K G am vs ds → vs.length = ds.length
  | _, _, .nil => rfl
  | _, _, .cons _ t => by rw [List.length_cons, List.length_cons, Rps.length t]
theorem Rps.get : ∀ {vs : List V} {ds : List D} {i : Nat} {d : D}, Rps K G am vs ds → ds[i]? = some d → ∃ v, vs[i]? = some v ∧ Rp K G am v d
  | _, _, i, d, .nil, e => by simp at e
  | _, _, 0, d, .cons r _, e => by
    simp at e; subst e; exact ⟨_, rfl, r⟩
  | _, _, i + 1, d, .cons _ t, e => by
    obtain ⟨v, h1, h2⟩ := Rps.get (i := i) (d := d) t (by simpa using e)
    exact ⟨v, by simpa using h1, h2⟩
theorem Rps.getV : ∀ {vs : List V} {ds : List D} {i : Nat} {v : V}, Rps K G am vs ds → vs[i]? = some v → ∃ d, ds[i]? = some d ∧ Rp K G am v d
  | _, _, i, d, .nil, e => by simp at e
  | _, _, 0, d, .cons r _, e => by
    simp at e; subst e; exact ⟨_, rfl, r⟩
  | _, _, i + 1, d, .cons _ t, e => by
    obtain ⟨v, h1, h2⟩ := Rps.getV (i := i) (v := d) t (by simpa using e)
    exact ⟨v, by simpa using h1, h2⟩
theorem Rps.append : ∀ {vs ws : List V} {ds es : List D}, Rps K G am vs ds → Rps K G am ws es → Rps K G am (vs ++ ws) (ds ++ es)
  | _, _, _, _, .nil, s => s
  | _, _, _, _, .cons r t, s => .cons r (Rps.append t s)
theorem Rps.take : ∀ {vs : List V} {ds : List D} (n : Nat), Rps K G am vs ds → Rps K G am (vs.take n) (ds.take n)
  | _, _, 0, _ => .nil
  | _, _, _ + 1, .nil => .nil
  | _, _, n + 1, .cons r t => .cons r (Rps.take n t)
theorem Rps.drop : ∀ {vs : List V} {ds : List D} (n : Nat), Rps K G am vs ds → Rps K G am (vs.drop n) (ds.drop n)
  | _, _, 0, r => r
  | _, _, _ + 1, .nil => .nil
  | _, _, n + 1, .cons _ t => Rps.drop n t
theorem Rps.reverse : ∀ {vs : List V} {ds : List D}, Rps K G am vs ds → Rps K G am vs.reverse ds.reverse
  | _, _, .nil => .nil
  | _, _, .cons r t => by
    rw [List.reverse_cons, List.reverse_cons]
    exact (Rps.reverse t).append (.cons r .nil)
theorem Rps.set {v : V} {d : D} (r : Rp K G am v d) : ∀ {vs : List V} {ds : List D} (i : Nat), Rps K G am vs ds → Rps K G am (vs.set i v) (ds.set i d)
  | _, _, _, .nil => .nil
  | _, _, 0, .cons _ t => .cons r t
  | _, _, i + 1, .cons q t => .cons q (Rps.set r i t)
theorem Rps.eraseIdx : ∀ {vs : List V} {ds : List D} (i : Nat), Rps K G am vs ds → Rps K G am (vs.eraseIdx i) (ds.eraseIdx i)
  | _, _, _, .nil => .nil
  | _, _, 0, .cons _ t => t
  | _, _, i + 1, .cons q t => .cons q (Rps.eraseIdx i t)
/-- dints -/
def dints : List D → Option (List Int)
  | [] => some []
  | .int i :: r => (dints r).map (i :: ·)
  | _ :: _ => none
def dbools : List D → Option (List Bool)
  | [] => some []
  | .bl i :: r => (dbools r).map (i :: ·)
  | _ :: _ => none
theorem ints_map (ns : List Int) : dints (ns.map D.int) = some ns := by
  induction ns with
  | nil => rfl
  | cons n r ih => rw [List.map_cons, dints, ih]; rfl
theorem bools_map (ns : List Bool) : dbools (ns.map D.bl) = some ns := by
  induction ns with
  | nil => rfl
  | cons n r ih => rw [List.map_cons, dbools, ih]; rfl
theorem ints_eq : ∀ {ds : List D} {ns : List Int}, dints ds = some ns → ds = ns.map D.int
  | [], ns, h => by simp [dints] at h; subst h; rfl
  | .int i :: r, ns, h => by
    simp only [dints] at h
    cases e : dints r with
    | none => rw [e] at h; cases h
    | some q => rw [e] at h; simp at h; subst h; rw [List.map_cons, ← ints_eq e]
  | .non :: _, _, h => by simp [dints] at h
  | .bl _ :: _, _, h => by simp [dints] at h
  | .str _ :: _, _, h => by simp [dints] at h
  | .tup _ :: _, _, h => by simp [dints] at h
  | .lst _ :: _, _, h => by simp [dints] at h
  | .dct _ :: _, _, h => by simp [dints] at h
  | .dcT _ :: _, _, h => by simp [dints] at h
  | .rtp _ :: _, _, h => by simp [dints] at h
  | .ref _ :: _, _, h => by simp [dints] at h
  | .rls _ :: _, _, h => by simp [dints] at h
theorem bools_eq : ∀ {ds : List D} {ns : List Bool}, dbools ds = some ns → ds = ns.map D.bl
  | [], ns, h => by simp [dbools] at h; subst h; rfl
  | .bl i :: r, ns, h => by
    simp only [dbools] at h
    cases e : dbools r with
    | none => rw [e] at h; cases h
    | some q => rw [e] at h; simp at h; subst h; rw [List.map_cons, ← bools_eq e]
  | .non :: _, _, h => by simp [dbools] at h
  | .int _ :: _, _, h => by simp [dbools] at h
  | .str _ :: _, _, h => by simp [dbools] at h
  | .tup _ :: _, _, h => by simp [dbools] at h
  | .lst _ :: _, _, h => by simp [dbools] at h
  | .dct _ :: _, _, h => by simp [dbools] at h
  | .dcT _ :: _, _, h => by simp [dbools] at h
  | .rtp _ :: _, _, h => by simp [dbools] at h
  | .ref _ :: _, _, h => by simp [dbools] at h
  | .rls _ :: _, _, h => by simp [dbools] at h
theorem Rps.toInts : ∀ {vs : List V} {ns : List Int}, Rps K G am vs (ns.map D.int) → vs = ns.map V.int
  | _, [], .nil => rfl
  | _, _ :: r, .cons (.int _) t => by rw [List.map_cons, ← Rps.toInts t]
theorem Rps.ofInts : ∀ (ns : List Int), Rps K G am (ns.map V.int) (ns.map D.int)
  | [] => .nil
  | n :: r => .cons (.int n) (Rps.ofInts r)
theorem Rps.toBools : ∀ {vs : List V} {ns : List Bool}, Rps K G am vs (ns.map D.bl) → vs = ns.map V.bl
  | _, [], .nil => rfl
  | _, _ :: r, .cons (.bl _) t => by rw [List.map_cons, ← Rps.toBools t]
end
def isDict : D → Bool
  | .dct _ => true
  | .dcT _ => true
  | _ => false
/-! ### the ghost state -/
structure Gs where
  G : Hp
  am : List Addr
  st : Store
/-- what the text gives once for all -/
structure Pg where
  P : Program
  w : World
  K : PySem.W.Frag
  mg : Str → Option Value
  base : Heap
  cA : Nat → Addr
abbrev Pg.Rp (p : Pg) (g : Gs) : V → D → Prop := DL.Rp p.K g.G g.am
abbrev Pg.Rps (p : Pg) (g : Gs) : List V → List D → Prop := DL.Rps p.K g.G g.am
/-- a container whose own object may be written -/
def Own (p : Pg) (g : Gs) (H : Hp) (a : Addr) : D → Prop
  | .lst ds => ∃ xs, H a = some (.lst xs) ∧ p.Rps g xs ds
  | .dct es => ∃ kvs, H a = some (.dK kvs) ∧ RpK p.K g.G g.am kvs es
  | .dcT es => ∃ kvs, H a = some (.dT kvs) ∧ RpT p.K g.G g.am kvs es
  | _ => False
def RpF (p : Pg) (g : Gs) : List (Str × V) → List (Str × D) → Prop := Paired fun q r => q.1 = r.1 ∧ p.Rp g q.2 r.2
def CellR (p : Pg) (g : Gs) (H : Hp) (a : Addr) : Cell → Prop
  | .lst ds => Own p g H a (.lst ds)
  | .dct es => Own p g H a (.dct es)
  | .dcT es => Own p g H a (.dcT es)
  | .ins c fs => ∃ dx fvs, H a = some (.ins (p.cA c) dx fvs) ∧ H dx = some (.own a) ∧ RpF p g fvs fs
structure Wf (p : Pg) (g : Gs) (H : Hp) : Prop where
  sub : ∀ a o, g.G a = some o → H a = some o
  amG : ∀ a, a ∈ g.am → g.G a = none
  nd : g.am.Nodup
  len : g.am.length = g.st.length
  cell : ∀ (k : Nat) (a : Addr) (c : Cell), g.am[k]? = some a → g.st[k]? = some c → CellR p g H a c
structure Stp (p : Pg) (g : Gs) (H : Hp) (g' : Gs) (H' : Hp) : Prop where
  gle : ∀ a o, g.G a = some o → g'.G a = some o
  aml : g.am <+: g'.am
  keep : ∀ a o, H a = some o → a ∉ g.am → H' a = some o
  gnew : ∀ a o, g'.G a = some o → g.G a = some o ∨ H a = none ∨ ∃ xs, H a = some (.tup xs)
  amn : ∀ a, a ∈ g'.am → a ∈ g.am ∨ H a = none
  wf : Wf p g' H'
section
variable {p : Pg} {g g' g'' : Gs} {H H' H'' : Hp}
theorem Own.at {a : Addr} {d : D} (h : Own p g H a d) : ∃ o, H a = some o ∧ (∀ xs, o ≠ .tup xs) ∧ Mut (some o) ∧ ∀ y, o ≠ .own y := by
  cases d with
  | lst ds => obtain ⟨xs, e, _⟩ := h; exact ⟨_, e, (fun _ z => by cases z), True.intro, fun _ z => by cases z⟩
  | dct es => obtain ⟨kvs, e, _⟩ := h; exact ⟨_, e, (fun _ z => by cases z), True.intro, fun _ z => by cases z⟩
  | dcT es => obtain ⟨kvs, e, _⟩ := h; exact ⟨_, e, (fun _ z => by cases z), True.intro, fun _ z => by cases z⟩
  | _ => exact h.elim
theorem Own.mono {a : Addr} {d : D} (h : Own p g H a d) (hg : ∀ a o, g.G a = some o → g'.G a = some o) (ha : g.am <+: g'.am) (e : H' a = H a) : Own p g' H' a d := by
  cases d with
  | lst ds => obtain ⟨xs, e1, r⟩ := h; exact ⟨xs, e.trans e1, r.mono hg ha⟩
  | dct es => obtain ⟨kvs, e1, r⟩ := h; exact ⟨kvs, e.trans e1, r.mono hg ha⟩
  | dcT es => obtain ⟨kvs, e1, r⟩ := h; exact ⟨kvs, e.trans e1, r.mono hg ha⟩
  | _ => exact h.elim
theorem RpF.mono (hg : ∀ a o, g.G a = some o → g'.G a = some o) (ha : g.am <+: g'.am) {xs : List (Str × V)} {ys : List (Str × D)} (h : RpF p g xs ys) : RpF p g' xs ys :=
  L2.Paired.mapP h fun _ _ q => ⟨q.1, q.2.mono hg ha⟩
theorem CellR.at {a : Addr} {c : Cell} (h : CellR p g H a c) : ∃ o, H a = some o ∧ (∀ xs, o ≠ .tup xs) ∧ Mut (some o) ∧ ∀ y, o ≠ .own y := by
  cases c with
  | lst ds => exact Own.at (d := .lst ds) h
  | dct es => exact Own.at (d := .dct es) h
  | dcT es => exact Own.at (d := .dcT es) h
  | ins c fs => obtain ⟨dx, fvs, e, _, _⟩ := h; exact ⟨_, e, (fun _ z => by cases z), True.intro, fun _ z => by cases z⟩
theorem CellR.mono {a : Addr} {c : Cell} (h : CellR p g H a c) (hg : ∀ a o, g.G a = some o → g'.G a = some o) (ha : g.am <+: g'.am) (e : H' a = H a) (e2 : ∀ dx, H dx = some (.own a) → H' dx = some (.own a)) : CellR p g' H' a c := by
  cases c with
  | lst ds => exact Own.mono (d := .lst ds) h hg ha e
  | dct es => exact Own.mono (d := .dct es) h hg ha e
  | dcT es => exact Own.mono (d := .dcT es) h hg ha e
  | ins c fs => obtain ⟨dx, fvs, e1, e3, r⟩ := h; exact ⟨dx, fvs, e.trans e1, e2 _ e3, r.mono hg ha⟩
theorem Wf.tracked (w : Wf p g H) {a : Addr} (ha : a ∈ g.am) : ∃ o, H a = some o ∧ (∀ xs, o ≠ .tup xs) ∧ Mut (some o) ∧ ∀ y, o ≠ .own y := by
  obtain ⟨k, hk, e⟩ := List.getElem_of_mem ha
  have hk2 : k < g.st.length := by rw [← w.len]; exact hk
  exact (w.cell k a g.st[k] (by rw [List.getElem?_eq_getElem hk, e]) (List.getElem?_eq_getElem hk2)).at
theorem Wf.freeG (w : Wf p g H) {a : Addr} (n : H a = none) : g.G a = none := by
  cases q : g.G a with
  | none => rfl
  | some u => rw [w.sub a u q] at n; cases n
theorem Wf.freeA (w : Wf p g H) {a : Addr} (n : H a = none) : a ∉ g.am := fun h => by
  obtain ⟨u, e, _⟩ := w.tracked h
  rw [n] at e; cases e
theorem Stp.refl (w : Wf p g H) : Stp p g H g H :=
  ⟨fun _ _ e => e, List.prefix_refl _, fun _ _ e _ => e, fun _ _ e => .inl e, fun _ h => .inl h, w⟩
theorem Stp.none_of (s : Stp p g H g' H') (w : Wf p g H) {a : Addr} (e : H' a = none) : H a = none := by
  cases q : H a with
  | none => rfl
  | some o =>
    by_cases ha : a ∈ g.am
    · obtain ⟨o', e', _⟩ := s.wf.tracked (s.aml.subset ha)
      rw [e] at e'; cases e'
    · have := s.keep a o q ha
      rw [e] at this; cases this
theorem Stp.trans (w : Wf p g H) (s : Stp p g H g' H') (t : Stp p g' H' g'' H'') : Stp p g H g'' H'' := by
  have nam : ∀ a o, H a = some o → a ∉ g.am → a ∉ g'.am := fun a o e n h => by
    rcases s.amn a h with z | z
    · exact n z
    · rw [e] at z; cases z
  refine ⟨fun a o e => t.gle a o (s.gle a o e), s.aml.trans t.aml, fun a o e n => t.keep a o (s.keep a o e n) (nam a o e n), fun a o e => ?_, fun a h => ?_, t.wf⟩
  · rcases t.gnew a o e with z | z | ⟨xs, z⟩
    · exact s.gnew a o z
    · exact .inr (.inl (s.none_of w z))
    · cases q : H a with
      | none => exact .inr (.inl rfl)
      | some u =>
        by_cases ha : a ∈ g.am
        · obtain ⟨o', e', n, _⟩ := s.wf.tracked (s.aml.subset ha)
          rw [z] at e'; cases e'; exact absurd rfl (n xs)
        · have := s.keep a u q ha
          rw [z] at this; cases this
          exact .inr (.inr ⟨xs, rfl⟩)
  · rcases t.amn a h with z | z
    · exact s.amn a z
    · exact .inr (s.none_of w z)
/-- a new object is laid, and held by nobody yet -/
theorem Stp.laid (w : Wf p g H) {a : Addr} {o : HO} (n : H a = none) : Stp p g H g (upd H a o) := by
  have ne : ∀ b u, H b = some u → b ≠ a := fun b u e => ne_of_none e n
  refine ⟨fun _ _ e => e, List.prefix_refl _, fun b u e _ => by rw [upd_ne (ne b u e)]; exact e, fun _ _ e => .inl e, fun _ h => .inl h,
    ⟨fun b u e => by rw [upd_ne (ne b u (w.sub b u e))]; exact w.sub b u e, w.amG, w.nd, w.len, fun k b c e1 e2 => ?_⟩⟩
  have h := w.cell k b c e1 e2
  obtain ⟨u, e, _⟩ := h.at
  exact h.mono (fun _ _ e => e) (List.prefix_refl _) (upd_ne (ne b u e)) fun dx e => by rw [upd_ne (ne dx _ e)]; exact e
/-- what nobody holds is frozen -/
theorem Stp.freeze (w : Wf p g H) {a : Addr} {o : HO} (e : H a = some o) (hG : g.G a = none) (ha : a ∉ g.am) : Wf p { g with G := upd g.G a o } H ∧ (∀ b u, g.G b = some u → upd g.G a o b = some u) := by
  have le : ∀ b u, g.G b = some u → upd g.G a o b = some u := fun b u e => by rw [upd_ne (ne_of_none e hG)]; exact e
  refine ⟨⟨fun b u q => ?_, fun b hb => ?_, w.nd, w.len, fun k b c e1 e2 => ?_⟩, le⟩
  · have q : upd g.G a o b = some u := q
    by_cases z : b = a
    · subst z; rw [upd_same] at q; cases q; exact e
    · rw [upd_ne z] at q; exact w.sub b u q
  · show upd g.G a o b = none
    rw [upd_ne (show b ≠ a from fun z => ha (by rw [← z]; exact hb))]
    exact w.amG b hb
  · exact (w.cell k b c e1 e2).mono le (List.prefix_refl _) rfl fun _ e => e
/-- a new object that is never written: laid and frozen -/
theorem Stp.new (w : Wf p g H) {a : Addr} {o : HO} (n : H a = none) : Stp p g H { g with G := upd g.G a o } (upd H a o) := by
  have gn : g.G a = none := by
    cases q : g.G a with
    | none => rfl
    | some u => rw [w.sub a u q] at n; cases n
  have na : a ∉ g.am := fun h => by
    obtain ⟨u, e, _⟩ := w.tracked h
    rw [n] at e; cases e
  have s := Stp.laid (o := o) w n
  obtain ⟨wf', le⟩ := Stp.freeze s.wf (a := a) (o := o) upd_same gn na
  refine ⟨le, List.prefix_refl _, s.keep, fun b u e => ?_, fun _ h => .inl h, wf'⟩
  have e : upd g.G a o b = some u := e
  by_cases z : b = a
  · subst z; exact .inr (.inl n)
  · rw [upd_ne z] at e; exact .inl e
end
/-! ### what stands in a slot -/
inductive Sl where
  /-- unknown -/
  | un
  /-- a value that is never written -/
  | sh (d : D)
  /-- a list or dict that this name alone holds -/
  | ow (d : D)
  /-- a list or dict that a caller lends: read, not kept -/
  | bo (d : D)
structure Fm where
  g : Gs
  H : Hp
/-- a value that is read now -/
def TopR (p : Pg) (g : Gs) (H : Hp) (v : V) (d : D) : Prop := p.Rp g v d ∨ ∃ a, v = .ref a ∧ a ∉ g.am ∧ Own p g H a d
/-- a fresh container -/
def NewR (p : Pg) (H : Hp) (g : Gs) (H' : Hp) (v : V) (d : D) : Prop := ∃ a : Addr, v = .ref a ∧ Own p g H' a d ∧ g.G a = none ∧ a ∉ g.am ∧ H a = none
def SlV (p : Pg) (F : Fm) (g : Gs) (H : Hp) : Option V → Sl → Prop
  | _, .un => True
  | some v, .sh d => p.Rp g v d
  | some v, .ow d => ∃ a, v = .ref a ∧ Own p g H a d ∧ g.G a = none ∧ a ∉ g.am ∧ F.H a = none
  | some v, .bo d => p.Rp g v d ∨ ∃ a, v = .ref a ∧ a ∉ g.am ∧ Own p g H a d ∧ ∃ o, F.H a = some o
  | none, _ => False
abbrev Ev := List Sl
structure ER (p : Pg) (F : Fm) (ρ : Ev) (σ : L2.St) (g : Gs) (H : Hp) : Prop where
  len : ρ.length = σ.length
  sl : ∀ (i : Nat) (s : Sl), ρ[i]? = some s → SlV p F g H (σ[i]?.join) s
  dist : ∀ (i j : Nat) (d e : D), ρ[i]? = some (.ow d) → ρ[j]? = some (.ow e) → σ[i]? = σ[j]? → i = j
  fr : Stp p F.g F.H g H
  fw : Wf p F.g F.H
section
variable {p : Pg} {F : Fm} {ρ ρ' : Ev} {σ σ' : L2.St} {g g' : Gs} {H H' : Hp}
theorem ER.wf (E : ER p F ρ σ g H) : Wf p g H := E.fr.wf
theorem TopR.step {v : V} {d : D} (w : Wf p g H) (h : TopR p g H v d) (s : Stp p g H g' H') : TopR p g' H' v d := by
  rcases h with h | ⟨a, e, n, o⟩
  · exact .inl (h.mono s.gle s.aml)
  · obtain ⟨u, e1, _⟩ := o.at
    refine .inr ⟨a, e, fun z => ?_, o.mono s.gle s.aml ((s.keep a u e1 n).trans e1.symm)⟩
    rcases s.amn a z with z | z
    · exact n z
    · rw [e1] at z; cases z
theorem ER.step (E : ER p F ρ σ g H) (s : Stp p g H g' H') : ER p F ρ σ g' H' := by
  refine ⟨E.len, fun i q hq => ?_, E.dist, E.fr.trans E.fw s, E.fw⟩
  have h := E.sl i q hq
  cases q with
  | un => cases σ[i]?.join <;> exact True.intro
  | sh d =>
    cases e : σ[i]?.join with
    | none => rw [e] at h; exact h.elim
    | some v => rw [e] at h; exact Rp.mono s.gle s.aml h
  | ow d =>
    cases e : σ[i]?.join with
    | none => rw [e] at h; exact h.elim
    | some v =>
      rw [e] at h
      obtain ⟨a, rfl, o, hG, ha, hF⟩ := h
      obtain ⟨u, e1, nt, _⟩ := o.at
      refine ⟨a, rfl, o.mono s.gle s.aml ((s.keep a u e1 ha).trans e1.symm), ?_, fun z => ?_, hF⟩
      · cases q : g'.G a with
        | none => rfl
        | some x =>
          rcases s.gnew a x q with z | z | ⟨xs, z⟩
          · rw [hG] at z; cases z
          · rw [e1] at z; cases z
          · rw [e1] at z; cases z; exact absurd rfl (nt xs)
      · rcases s.amn a z with z | z
        · exact ha z
        · rw [e1] at z; cases z
  | bo d =>
    cases e : σ[i]?.join with
    | none => rw [e] at h; exact h.elim
    | some v =>
      rw [e] at h
      rcases h with h | ⟨a, rfl, n, o, hF⟩
      · exact .inl (Rp.mono s.gle s.aml h)
      · obtain ⟨u, e1, _⟩ := o.at
        refine .inr ⟨a, rfl, fun z => ?_, o.mono s.gle s.aml ((s.keep a u e1 n).trans e1.symm), hF⟩
        rcases s.amn a z with z | z
        · exact n z
        · rw [e1] at z; cases z
/-- forgetting -/
inductive Le : Ev → Ev → Prop
  | nil : Le [] []
  | un {s : Sl} {r t : Ev} : Le r t → Le (.un :: r) (s :: t)
  | eq {s : Sl} {r t : Ev} : Le r t → Le (s :: r) (s :: t)
theorem Le.refl : ∀ ρ : Ev, Le ρ ρ
  | [] => .nil
  | _ :: r => .eq (Le.refl r)
theorem Le.length (h : Le ρ' ρ) : ρ'.length = ρ.length := by
  induction h with
  | nil => rfl
  | un _ ih => rw [List.length_cons, List.length_cons, ih]
  | eq _ ih => rw [List.length_cons, List.length_cons, ih]
theorem Le.at (h : Le ρ' ρ) : ∀ (i : Nat) (s : Sl), ρ'[i]? = some s → s = .un ∨ ρ[i]? = some s := by
  induction h with
  | nil => intro i s e; simp at e
  | un _ ih =>
    intro i s e
    cases i with
    | zero => simp at e; exact .inl e.symm
    | succ j => exact ih j s (by simpa using e)
  | eq _ ih =>
    intro i s e
    cases i with
    | zero => simp at e; subst e; exact .inr rfl
    | succ j => exact ih j s (by simpa using e)
theorem ER.weak (E : ER p F ρ σ g H) (l : Le ρ' ρ) : ER p F ρ' σ g H := by
  refine ⟨l.length.trans E.len, fun i s e => ?_, fun i j d e h1 h2 h3 => ?_, E.fr, E.fw⟩
  · rcases l.at i s e with rfl | h
    · cases σ[i]?.join <;> exact True.intro
    · exact E.sl i s h
  · rcases l.at i _ h1 with z | z
    · cases z
    · rcases l.at j _ h2 with y | y
      · cases y
      · exact E.dist i j d e z y h3
/-- a slot is stored with a value that is never written -/
theorem ER.set (E : ER p F ρ σ g H) {i : Nat} {v : V} {d : D} (r : p.Rp g v d) : ER p F (ρ.set i (.sh d)) (σ.set i (some v)) g H := by
  refine ⟨by rw [List.length_set, List.length_set, E.len], fun j s e => ?_, fun a b d1 e1 h1 h2 h3 => ?_, E.fr, E.fw⟩
  · by_cases z : i = j
    · subst z
      have hl : i < ρ.length := by
        have := (List.getElem?_eq_some_iff.mp e).1
        rwa [List.length_set] at this
      rw [List.getElem?_set_self hl] at e
      cases e
      rw [List.getElem?_set_self (by rw [← E.len]; exact hl)]
      exact r
    · rw [List.getElem?_set_ne z] at e
      rw [List.getElem?_set_ne z]
      exact E.sl j s e
  · have ne : ∀ {c : Nat} {x : D}, (ρ.set i (.sh d))[c]? = some (.ow x) → i ≠ c ∧ ρ[c]? = some (.ow x) := fun {c x} h => by
      by_cases z : i = c
      · subst z
        have hl : i < ρ.length := by
          have := (List.getElem?_eq_some_iff.mp h).1
          rwa [List.length_set] at this
        rw [List.getElem?_set_self hl] at h; cases h
      · rw [List.getElem?_set_ne z] at h; exact ⟨z, h⟩
    obtain ⟨n1, h1⟩ := ne h1
    obtain ⟨n2, h2⟩ := ne h2
    rw [List.getElem?_set_ne n1, List.getElem?_set_ne n2] at h3
    exact E.dist a b d1 e1 h1 h2 h3
theorem Own.addr_ne {a b : Addr} {d : D} (h : Own p g H a d) (n : H b = none) : a ≠ b := by
  obtain ⟨o, e, _⟩ := h.at
  exact ne_of_none e n
/-- a slot is stored with a fresh container; g0 H0 the state ahead of the making -/
theorem ER.setOwn {g0 : Gs} {H0 : Hp} (E0 : ER p F ρ σ g0 H0) (s : Stp p g0 H0 g H) {i : Nat} {v : V} {d : D} (r : NewR p H0 g H v d) : ER p F (ρ.set i (.ow d)) (σ.set i (some v)) g H := by
  have E := E0.step s
  obtain ⟨a, rfl, o, hG, ha, hn⟩ := r
  have hF : F.H a = none := E0.fr.none_of E0.fw hn
  refine ⟨by rw [List.length_set, List.length_set, E.len], fun j q e => ?_, fun x y d1 e1 h1 h2 h3 => ?_, E.fr, E.fw⟩
  · by_cases z : i = j
    · subst z
      have hl : i < ρ.length := by
        have := (List.getElem?_eq_some_iff.mp e).1
        rwa [List.length_set] at this
      rw [List.getElem?_set_self hl] at e
      cases e
      rw [List.getElem?_set_self (by rw [← E.len]; exact hl)]
      exact ⟨a, rfl, o, hG, ha, hF⟩
    · rw [List.getElem?_set_ne z] at e
      rw [List.getElem?_set_ne z]
      exact E.sl j q e
  · -- other owned slots hold addresses that stood ahead
    have old : ∀ {c : Nat} {x : D}, i ≠ c → (ρ.set i (.ow d))[c]? = some (.ow x) → (σ.set i (some (.ref a)))[c]? = some (some (.ref a)) → False := fun {c x} n h q => by
      rw [List.getElem?_set_ne n] at h q
      have z := E0.sl c _ h
      rw [q] at z
      obtain ⟨b, eb, ob, _⟩ := z
      cases eb
      exact ob.addr_ne hn rfl
    have self : i < ρ.length → (σ.set i (some (.ref a)))[i]? = some (some (V.ref a)) := fun hl => List.getElem?_set_self (by rw [← E.len]; exact hl)
    by_cases zx : i = x
    · by_cases zy : i = y
      · exact zx.symm.trans zy
      · subst zx
        have hl : i < ρ.length := by
          have := (List.getElem?_eq_some_iff.mp h1).1
          rwa [List.length_set] at this
        exact (old zy h2 (h3.symm.trans (self hl))).elim
    · by_cases zy : i = y
      · subst zy
        have hl : i < ρ.length := by
          have := (List.getElem?_eq_some_iff.mp h2).1
          rwa [List.length_set] at this
        exact (old zx h1 (h3.trans (self hl))).elim
      · rw [List.getElem?_set_ne zx] at h1 h3
        rw [List.getElem?_set_ne zy] at h2 h3
        exact E.dist x y d1 e1 h1 h2 h3
end
end DL
namespace DL
open PySem PySem.Spec PyProof.Rows L2
/-! ### contexts: what the text gives of a def (Sta), what a run gives (Dyn) -/
structure Sta where
  pg : Pg
  N : List Str
  sc : Scope
  fn : Str → Bool
  lv : Nat
  /-- a def's body (not a comprehension's block) -/
  dfn : Bool
structure Dyn where
  A : Around
  s0 : Shared
  H0 : Hp
  env : Env
  outer : List Env
  stack : List Env
  ex : List Addr
  pn : List (Addr × Obj)
  xe : Value → Shared → Prop
  W : Value → Option Addr → Hp → Prop
def Sta.cx (S : Sta) (Y : Dyn) : Cx where
  prog := S.pg.P
  w := S.pg.w
  K := S.pg.K
  mg := S.pg.mg
  base := S.pg.base
  A := Y.A
  N := S.N
  s_0 := Y.s0
  H_0 := Y.H0
  env := { Y.env with scope := S.sc }
  outer := Y.outer
  stack := Y.stack
  ex := Y.ex
  fn := S.fn
  calm := true
  pn := Y.pn
  xe := Y.xe
structure OkY (S : Sta) (Y : Dyn) : Prop where
  room : Room S.lv Y.A
  pass : PassesOwn (model S.pg.P S.pg.w) Y.A (S.cx Y).env Y.xe
  takes : L2N.Takes (S.cx Y) fun c d _ H => Y.W c d H
  stk : S.dfn = true → Y.stack = (S.cx Y).env :: Y.outer ∧ (S.cx Y).env.frame = some (S.cx Y).env.locals
theorem takesN {X : Cx} : L2N.Takes X fun _ _ _ _ => False := fun _ _ ⟨_, _, _, _, _, _, _, _, _, _, _, _, _, _, _, _, w⟩ => w.elim
theorem _root_.L2.PE.pre {X : Cx} {e : Expr} {t t' : TE} (h : PE X e t) (k : ∀ σ H Q, t' σ H Q → t σ H Q) : PE X e t' :=
  ⟨fun pins s σ H Q I q => h.run pins s σ H Q I (k σ H Q q)⟩
theorem _root_.L2.PT.pre {X : Cx} {e : Expr} {t t' : TT} (h : PT X e t) (k : ∀ σ H Q, t' σ H Q → t σ H Q) : PT X e t' :=
  ⟨fun pins s σ H Q I q => h.run pins s σ H Q I (k σ H Q q)⟩
theorem _root_.L2.PW.pre {X : Cx} {e : Expr} {t t' : TT} (h : PW X e t) (k : ∀ σ H Q, t' σ H Q → t σ H Q) : PW X e t' :=
  ⟨fun wh pins s σ H Q I q => h.run wh pins s σ H Q I (k σ H Q q)⟩
theorem _root_.L2.PA.pre {X : Cx} {e : List Expr} {t t' : TA} (h : PA X e t) (k : ∀ σ H Q, t' σ H Q → t σ H Q) : PA X e t' :=
  ⟨fun pos pins s σ H Q I q => h.run pos pins s σ H Q I (k σ H Q q)⟩
theorem _root_.L2.PS.pre {X : Cx} {e : Stmt} {t t' : TS} (h : PS X e t) (k : ∀ D σ H, t' D σ H → t D σ H) : PS X e t' :=
  ⟨fun pins s σ H D I q => h.run pins s σ H D I (k D σ H q)⟩
theorem _root_.L2.PSs.pre {X : Cx} {e : List Stmt} {t t' : TS} (h : PSs X e t) (k : ∀ D σ H, t' D σ H → t D σ H) : PSs X e t' :=
  ⟨fun pins s σ H D I q => h.run pins s σ H D I (k D σ H q)⟩
/-! ### the judgements -/
/-- what a value is to be behind an expression -/
abbrev Rel := Hp → Gs → Hp → V → D → Prop
abbrev RE (p : Pg) : Rel := fun _ g _ v d => p.Rp g v d
abbrev RL (p : Pg) : Rel := fun _ g H v d => TopR p g H v d
abbrev RN (p : Pg) : Rel := fun H0 g H v d => NewR p H0 g H v d
/-- it may begin further ahead -/
def Back (p : Pg) (R : Rel) : Prop := ∀ (g : Gs) (H : Hp) (g1 : Gs) (H1 : Hp) (g2 : Gs) (H2 : Hp) (v : V) (d : D), Wf p g H → Stp p g H g1 H1 → R H1 g2 H2 v d → R H g2 H2 v d
theorem back_RE {p : Pg} : Back p (RE p) := fun _ _ _ _ _ _ _ _ _ _ h => h
theorem back_RL {p : Pg} : Back p (RL p) := fun _ _ _ _ _ _ _ _ _ _ h => h
theorem back_RN {p : Pg} : Back p (RN p) := fun _ _ _ _ _ _ _ _ w s ⟨a, e, o, hG, ha, hn⟩ => ⟨a, e, o, hG, ha, s.none_of w hn⟩
/-- what a value operation wants: the value's post -/
def Pv (p : Pg) (R : Rel) (g : Gs) (H : Hp) (Q : VK) (d : D) (st' : Store) : Prop := ∀ v g' H', g'.st = st' → Stp p g H g' H' → R H g' H' v d → Q v H'
def Px (S : Sta) (Y : Dyn) (g : Gs) (H : Hp) (c : Nat) (st' : Store) : Prop := ∀ g' H', g'.st = st' → Stp S.pg g H g' H' → Y.W (.ref (S.pg.cA c)) none H'
def rdX (S : Sta) (Y : Dyn) (ρ : Ev) (R : Rel) (m : M D) : TE := fun σ H Q => ∃ F g, ER S.pg F ρ σ g H ∧ (m g.st).Post (Pv S.pg R g H Q) (Px S Y g H)
def EX (S : Sta) (ρ : Ev) (R : Rel) (e : Expr) (m : M D) : Prop := ∀ Y, OkY S Y → PE (S.cx Y) e (rdX S Y ρ R m)
abbrev EE (S : Sta) (ρ : Ev) (e : Expr) (m : M D) : Prop := EX S ρ (RE S.pg) e m
abbrev EL (S : Sta) (ρ : Ev) (e : Expr) (m : M D) : Prop := EX S ρ (RL S.pg) e m
abbrev EN (S : Sta) (ρ : Ev) (e : Expr) (m : M D) : Prop := EX S ρ (RN S.pg) e m
def rdT (S : Sta) (Y : Dyn) (ρ : Ev) (m : M Bool) : TT := fun σ H Q => ∃ F g, ER S.pg F ρ σ g H ∧ (m g.st).Post (fun b st' => ∀ g' H', g'.st = st' → Stp S.pg g H g' H' → Q b H') (Px S Y g H)
def ET (S : Sta) (ρ : Ev) (e : Expr) (m : M Bool) : Prop := ∀ Y, OkY S Y → PT (S.cx Y) e (rdT S Y ρ m)
def EW (S : Sta) (ρ : Ev) (e : Expr) (m : M Bool) : Prop := ∀ Y, OkY S Y → PW (S.cx Y) e (rdT S Y ρ m)
/-- lists of arguments -/
def rdA (S : Sta) (Y : Dyn) (ρ : Ev) (Rs : Gs → Hp → List V → List D → Prop) (m : M (List D)) : TA := fun σ H Q => ∃ F g, ER S.pg F ρ σ g H ∧ (m g.st).Post (fun ds st' => ∀ vs g' H', g'.st = st' → Stp S.pg g H g' H' → Rs g' H' vs ds → Q vs H') (Px S Y g H)
def EA (S : Sta) (ρ : Ev) (e : List Expr) (m : M (List D)) : Prop := ∀ Y, OkY S Y → PA (S.cx Y) e (rdA S Y ρ (fun g _ => S.pg.Rps g) m)
section
variable {S : Sta} {ρ : Ev} {e a b c : Expr} {m ma mb mc : M D} {R : Rel}
theorem Px.back {Y : Dyn} {g g1 : Gs} {H H1 : Hp} {c : Nat} {st' : Store} (w : Wf S.pg g H) (s : Stp S.pg g H g1 H1) (h : Px S Y g H c st') : Px S Y g1 H1 c st' :=
  fun g' H' e t => h g' H' e (s.trans w t)
theorem Pv.back {p : Pg} {R : Rel} (hR : Back p R) {g g1 : Gs} {H H1 : Hp} {Q : VK} {d : D} {st' : Store} (w : Wf p g H) (s : Stp p g H g1 H1) (h : Pv p R g H Q d st') : Pv p R g1 H1 Q d st' :=
  fun v g' H' e t r => h v g' H' e (s.trans w t) (hR _ _ _ _ _ _ _ _ w s r)
/-- a value that was read ahead stays -/
theorem EX.imp {R' : Rel} (h : EX S ρ R e m) (k : ∀ g H g' H' v d, Wf S.pg g H → Stp S.pg g H g' H' → R H g' H' v d → R' H g' H' v d) : EX S ρ R' e m := fun Y ok => (h Y ok).pre fun σ H Q ⟨F, g, E, q⟩ =>
  ⟨F, g, E, q.imp (fun d st' q v g' H' e s r => q v g' H' e s (k g H g' H' v d E.wf s r)) fun _ _ q => q⟩
theorem el_of (h : EE S ρ e m) : EL S ρ e m := h.imp fun _ _ _ _ _ _ _ _ r => .inl r
theorem el_new (h : EN S ρ e m) : EL S ρ e m := h.imp fun _ _ _ _ _ _ _ _ ⟨a, e, o, _, ha, _⟩ => .inr ⟨a, e, ha, o⟩
/-- freezing -/
theorem Own.frozen {p : Pg} {g : Gs} {H : Hp} {a : Addr} {d : D} (w : Wf p g H) (o : Own p g H a d) (hG : g.G a = none) (ha : a ∉ g.am) (nd : isDict d = false) : ∃ u, H a = some u ∧ Wf p { g with G := upd g.G a u } H ∧ (∀ b x, g.G b = some x → upd g.G a u b = some x) ∧ p.Rp { g with G := upd g.G a u } (.ref a) d := by
  obtain ⟨u, e, _⟩ := o.at
  obtain ⟨wf', le⟩ := Stp.freeze w e hG ha
  refine ⟨u, e, wf', le, ?_⟩
  cases d with
  | lst ds =>
    obtain ⟨xs, e1, r⟩ := o
    rw [e] at e1; cases e1
    exact .lst (upd_same) (r.mono le (List.prefix_refl _))
  | dct es => cases nd
  | dcT es => cases nd
  | _ => exact o.elim
/-- a dict is frozen: from then on its object is locked -/
theorem Own.locked {p : Pg} {g : Gs} {H : Hp} {a : Addr} {d : D} (w : Wf p g H) (o : Own p g H a d) (hG : g.G a = none) (ha : a ∉ g.am) (nd : isDict d = true) :
    ∃ u, H a = some u ∧ Mut (some u) ∧ ∀ od, Wf p { g with G := upd g.G a (.frz od u) } (upd H a (.frz od u)) ∧ (∀ b x, g.G b = some x → upd g.G a (.frz od u) b = some x) ∧ p.Rp { g with G := upd g.G a (.frz od u) } (.ref a) d := by
  obtain ⟨u, e, _, mu, no⟩ := o.at
  refine ⟨u, e, mu, fun od => ?_⟩
  have le : ∀ b x, g.G b = some x → upd g.G a (.frz od u) b = some x := fun b x q => by rw [upd_ne (ne_of_none q hG)]; exact q
  refine ⟨⟨fun b x q => ?_, fun b hb => ?_, w.nd, w.len, fun k b c e1 e2 => ?_⟩, le, ?_⟩
  · have q : upd g.G a (.frz od u) b = some x := q
    by_cases z : b = a
    · subst z; rw [upd_same] at q ⊢; exact q
    · rw [upd_ne z] at q ⊢; exact w.sub b x q
  · show upd g.G a (.frz od u) b = none
    rw [upd_ne (show b ≠ a from fun z => ha (by rw [← z]; exact hb))]
    exact w.amG b hb
  · have hb : b ≠ a := fun z => ha (by rw [← z]; exact List.mem_of_getElem? e1)
    refine (w.cell k b c e1 e2).mono le (List.prefix_refl _) (upd_ne hb) fun dx q => ?_
    rw [upd_ne (ne_of q e fun z => no b z.symm)]
    exact q
  · cases d with
    | dct es =>
      obtain ⟨kvs, e1, r⟩ := o
      rw [e] at e1; cases e1
      exact .dK (upd_same) (r.mono le (List.prefix_refl _))
    | dcT es =>
      obtain ⟨kvs, e1, r⟩ := o
      rw [e] at e1; cases e1
      exact .dT (upd_same) (r.mono le (List.prefix_refl _))
    | _ => cases nd
theorem pe_lockEnd {X : Cx} {e : Expr} {t : TE} (h : PE X e t) : PE X e (fun σ H Q => t σ H fun v H' => Q v H' ∨ ∃ a u, H' a = some u ∧ Mut (some u) ∧ ∀ od, Q v (upd H' a (.frz od u))) := by
  refine ⟨fun pins s σ H Q I hw => thn (h.run pins s σ H _ I hw) fun v s1 ⟨x, H1, I1, r, q⟩ => ?_⟩
  rcases q with q | ⟨a, u, e, mu, q⟩
  · exact ⟨x, H1, I1, r, q⟩
  · obtain ⟨od, I2⟩ := I1.lock e mu
    exact ⟨x, _, I2, r, q od⟩
theorem NewR.frozen {p : Pg} {g g' : Gs} {H H' : Hp} {v : V} {d : D} (w : Wf p g H) (s : Stp p g H g' H') (r : NewR p H g' H' v d) (nd : isDict d = false) : ∃ g2, g2.st = g'.st ∧ Stp p g H g2 H' ∧ p.Rp g2 v d ∧ (∀ b x, g'.G b = some x → g2.G b = some x) ∧ g'.am <+: g2.am := by
  obtain ⟨a, rfl, o, hG, ha, hn⟩ := r
  obtain ⟨u, e, wf', le, r⟩ := o.frozen s.wf hG ha nd
  refine ⟨{ g' with G := upd g'.G a u }, rfl, Stp.mk (fun b x q => le b x (s.gle b x q)) s.aml s.keep (fun b x q => ?_) s.amn wf', r, le, List.prefix_refl _⟩
  have q : upd g'.G a u b = some x := q
  by_cases z : b = a
  · subst z; exact .inr (.inl hn)
  · rw [upd_ne z] at q; exact s.gnew b x q
theorem ee_new (h : EN S ρ e m) : EE S ρ e m := fun Y ok => (pe_lockEnd (h Y ok)).pre fun σ H Q ⟨F, g, E, q⟩ => by
  refine ⟨F, g, E, q.imp (fun d st' q v g' H' e s r => ?_) fun _ _ q => q⟩
  cases nd : isDict d with
  | false =>
    obtain ⟨g2, e2, s2, r2, _⟩ := NewR.frozen E.wf s r nd
    exact .inl (q v g2 H' (e2.trans e) s2 r2)
  | true =>
    obtain ⟨a, rfl, o, hG, ha, hn⟩ := r
    obtain ⟨u, eu, mu, h⟩ := o.locked s.wf hG ha nd
    refine .inr ⟨a, u, eu, mu, fun od => ?_⟩
    obtain ⟨wf', le, r⟩ := h od
    refine q (.ref a) { g' with G := upd g'.G a (.frz od u) } _ e ⟨fun b x q => le b x (s.gle b x q), s.aml, fun b x q n => ?_, fun b x q => ?_, s.amn, wf'⟩ r
    · rw [upd_ne (ne_of_none q hn)]
      exact s.keep b x q n
    · have q : upd g'.G a (.frz od u) b = some x := q
      by_cases z : b = a
      · subst z; exact .inr (.inl hn)
      · rw [upd_ne z] at q; exact s.gnew b x q
/-! ### names and constants -/
theorem ee_var (i : Nat) {x : Str} {d : D} {pos : Pos} (hs : ρ[i]? = some (.sh d)) (hN : S.N[i]? = some x) (hv : Vis S.sc x) (hd : (x == ("__debug__" : Str)) = false := by decide) (hcd : (x == ("__classdict__" : Str)) = false := by decide) :
    EE S ρ (.Name x pos) (pure d) := fun Y ok => (pe_var (X := S.cx Y) (i := i) hN hv hd hcd).pre fun σ H Q ⟨F, g, E, q⟩ => by
  have h := E.sl i _ hs
  cases e : σ[i]? with
  | none => rw [e] at h; exact h.elim
  | some o =>
    rw [e] at h
    cases o with
    | none => exact h.elim
    | some v => exact ⟨v, e, q v g H rfl (.refl E.wf) h⟩
theorem el_ow (i : Nat) {x : Str} {d : D} {pos : Pos} (hs : ρ[i]? = some (.ow d)) (hN : S.N[i]? = some x) (hv : Vis S.sc x) (hd : (x == ("__debug__" : Str)) = false := by decide) (hcd : (x == ("__classdict__" : Str)) = false := by decide) :
    EL S ρ (.Name x pos) (pure d) := fun Y ok => (pe_var (X := S.cx Y) (i := i) hN hv hd hcd).pre fun σ H Q ⟨F, g, E, q⟩ => by
  have h := E.sl i _ hs
  cases e : σ[i]? with
  | none => rw [e] at h; exact h.elim
  | some o =>
    rw [e] at h
    cases o with
    | none => exact h.elim
    | some v =>
      obtain ⟨a, rfl, o, _, ha, _⟩ := h
      exact ⟨_, e, q _ g H rfl (.refl E.wf) (.inr ⟨a, rfl, ha, o⟩)⟩
theorem el_bo (i : Nat) {x : Str} {d : D} {pos : Pos} (hs : ρ[i]? = some (.bo d)) (hN : S.N[i]? = some x) (hv : Vis S.sc x) (hd : (x == ("__debug__" : Str)) = false := by decide) (hcd : (x == ("__classdict__" : Str)) = false := by decide) :
    EL S ρ (.Name x pos) (pure d) := fun Y ok => (pe_var (X := S.cx Y) (i := i) hN hv hd hcd).pre fun σ H Q ⟨F, g, E, q⟩ => by
  have h := E.sl i _ hs
  cases e : σ[i]? with
  | none => rw [e] at h; exact h.elim
  | some o =>
    rw [e] at h
    cases o with
    | none => exact h.elim
    | some v =>
      rcases h with h | ⟨a, rfl, ha, o, _⟩
      · exact ⟨_, e, q _ g H rfl (.refl E.wf) (.inl h)⟩
      · exact ⟨_, e, q _ g H rfl (.refl E.wf) (.inr ⟨a, rfl, ha, o⟩)⟩
/-- a value that asks for nothing -/
theorem ee_tC {v : V} {d : D} (hp : ∀ Y : Dyn, PE (S.cx Y) e (tC v)) (r : ∀ g, S.pg.Rp g v d) : EE S ρ e (pure d) := fun Y _ => (hp Y).pre fun σ H Q ⟨F, g, E, q⟩ =>
  q v g H rfl (.refl E.wf) (r g)
theorem ee_int {i : Int} {j : Nat} {pos : Pos} : EE S ρ (.Constant (.int i) j pos) (pure (.int i)) := ee_tC (fun _ => pe_int) fun _ => .int i
theorem ee_bl {i : Bool} {j : Nat} {pos : Pos} : EE S ρ (.Constant (.bool i) j pos) (pure (.bl i)) := ee_tC (fun _ => pe_bl) fun _ => .bl i
theorem ee_non {j : Nat} {pos : Pos} : EE S ρ (.Constant .none j pos) (pure .non) := ee_tC (fun _ => pe_non) fun _ => .non
theorem ee_str {x : Str} {j : Nat} {pos : Pos} : EE S ρ (.Constant (.str x) j pos) (pure (.str x)) := ee_tC (fun _ => pe_str) fun _ => .str x
/-- a name of the module's -/
theorem ee_glob {x : Str} {u : Value} {v : V} {d : D} {pos : Pos} (hg : S.sc.names.lookup x = some .globalImplicit) (hm : S.pg.mg x = some u) (r : RelV v u) (h : ∀ g, S.pg.Rp g v d) (hd : (x == ("__debug__" : Str)) = false := by decide) :
    EE S ρ (.Name x pos) (pure d) := ee_tC (fun Y => pe_glob (X := S.cx Y) hg hm r hd) h
/-! ### one, two operands -/
theorem rdX.bind {α : Type} {Y : Dyn} {σ : L2.St} {H : Hp} {F : Fm} {g : Gs} {R1 : Rel} {f : D → M α} {ok : α → Store → Prop} {Q : VK}
    (E : ER S.pg F ρ σ g H) (q : ((ma >>= f) g.st).Post ok (Px S Y g H))
    (k : ∀ x v g' H', Stp S.pg g H g' H' → ER S.pg F ρ σ g' H' → R1 H g' H' v x → (f x g'.st).Post ok (Px S Y g H) → Q v H') : rdX S Y ρ R1 ma σ H Q :=
  ⟨F, g, E, (post_bind q).imp (fun x st' q v g' H' e s r => k x v g' H' s (E.step s) r (by rw [e]; exact q)) fun _ _ q => q⟩
theorem rdT.bind {α : Type} {Y : Dyn} {σ : L2.St} {H : Hp} {F : Fm} {g : Gs} {mt : M Bool} {f : Bool → M α} {ok : α → Store → Prop} {Q : Bool → Hp → Prop}
    (E : ER S.pg F ρ σ g H) (q : ((mt >>= f) g.st).Post ok (Px S Y g H))
    (k : ∀ x g' H', Stp S.pg g H g' H' → ER S.pg F ρ σ g' H' → (f x g'.st).Post ok (Px S Y g H) → Q x H') : rdT S Y ρ mt σ H Q :=
  ⟨F, g, E, (post_bind q).imp (fun x st' q g' H' e s => k x g' H' s (E.step s) (by rw [e]; exact q)) fun _ _ q => q⟩
theorem rdA.bind {α : Type} {Y : Dyn} {σ : L2.St} {H : Hp} {F : Fm} {g : Gs} {Rs : Gs → Hp → List V → List D → Prop} {mt : M (List D)} {f : List D → M α} {ok : α → Store → Prop} {Q : List V → Hp → Prop}
    (E : ER S.pg F ρ σ g H) (q : ((mt >>= f) g.st).Post ok (Px S Y g H))
    (k : ∀ x v g' H', Stp S.pg g H g' H' → ER S.pg F ρ σ g' H' → Rs g' H' v x → (f x g'.st).Post ok (Px S Y g H) → Q v H') : rdA S Y ρ Rs mt σ H Q :=
  ⟨F, g, E, (post_bind q).imp (fun x st' q v g' H' e s r => k x v g' H' s (E.step s) r (by rw [e]; exact q)) fun _ _ q => q⟩
/-- a one-place operation on values -/
def Op1 (p : Pg) (r : V → Hp → VK → Prop) (f : D → M D) (R : Rel) : Prop := ∀ (g : Gs) (H : Hp) (x : D) (vx : V) (Q : VK) (E : Nat → Store → Prop), Wf p g H → TopR p g H vx x → (f x g.st).Post (Pv p R g H Q) E → r vx H Q
def Op2 (p : Pg) (r : R2) (f : D → D → M D) (R : Rel) : Prop := ∀ (g : Gs) (H : Hp) (x y : D) (vx vy : V) (Q : VK) (E : Nat → Store → Prop), Wf p g H → TopR p g H vx x → TopR p g H vy y → (f x y g.st).Post (Pv p R g H Q) E → r vx vy H Q
/-- .. that gives a truth -/
def Op2B (p : Pg) (r : R2) (f : D → D → M Bool) : Prop := ∀ (g : Gs) (H : Hp) (x y : D) (vx vy : V) (Q : VK) (E : Nat → Store → Prop), Wf p g H → TopR p g H vx x → TopR p g H vy y → (f x y g.st).Post (fun b st' => st' = g.st → Q (.bl b) H) E → r vx vy H Q
theorem ex_un {r : V → Hp → VK → Prop} {f : D → M D} (hR : Back S.pg R) (ha : EL S ρ a ma) (hp : ∀ Y : Dyn, OkY S Y → ∀ ta, PE (S.cx Y) a ta → PE (S.cx Y) e (tUn r ta)) (ho : Op1 S.pg r f R) :
    EX S ρ R e (ma >>= f) := fun Y ok => (hp Y ok _ (ha Y ok)).pre fun σ H Q ⟨F, g, E, q⟩ =>
  rdX.bind E q fun x v g' H' s E' r q => ho g' H' x v Q _ E'.wf r (q.imp (fun _ _ q => q.back hR E.wf s) fun _ _ q => q)
theorem ex_bin {r : R2} {f : D → D → M D} (hR : Back S.pg R) (ha : EL S ρ a ma) (hb : EL S ρ b mb) (hp : ∀ Y : Dyn, OkY S Y → ∀ ta tb, PE (S.cx Y) a ta → PE (S.cx Y) b tb → PE (S.cx Y) e (tOp r ta tb)) (ho : Op2 S.pg r f R) :
    EX S ρ R e (ma >>= fun x => mb >>= fun y => f x y) := fun Y ok => (hp Y ok _ _ (ha Y ok) (hb Y ok)).pre fun σ H Q ⟨F, g, E, q⟩ =>
  rdX.bind E q fun x v g' H' s E' r q => rdX.bind E' (q.imp (fun _ _ q => q) fun _ _ q => q.back E.wf s) fun y u g2 H2 s2 E2 r2 q =>
    ho g2 H2 x y v u Q _ E2.wf (r.step E'.wf s2) r2 (q.imp (fun _ _ q => q.back hR E.wf (s.trans E.wf s2)) fun _ _ q => q)
theorem ex_binB {r : R2} {f : D → D → M Bool} (ha : EL S ρ a ma) (hb : EL S ρ b mb) (hp : ∀ Y : Dyn, OkY S Y → ∀ ta tb, PE (S.cx Y) a ta → PE (S.cx Y) b tb → PE (S.cx Y) e (tOp r ta tb)) (ho : Op2B S.pg r f) :
    EE S ρ e (ma >>= fun x => mb >>= fun y => f x y >>= fun b => pure (.bl b)) := fun Y ok => (hp Y ok _ _ (ha Y ok) (hb Y ok)).pre fun σ H Q ⟨F, g, E, q⟩ =>
  rdX.bind E q fun x v g' H' s E' r q => rdX.bind E' (q.imp (fun _ _ q => q) fun _ _ q => q.back E.wf s) fun y u g2 H2 s2 E2 r2 q =>
    ho g2 H2 x y v u Q _ E2.wf (r.step E'.wf s2) r2 ((post_bind q).imp (fun b st' q e => q (.bl b) g2 H2 e.symm (s.trans E.wf s2) (.bl b)) fun _ _ q => q)
theorem et_binB {r : R2} {f : D → D → M Bool} (ha : EL S ρ a ma) (hb : EL S ρ b mb) (hp : ∀ Y : Dyn, OkY S Y → ∀ ta tb, PE (S.cx Y) a ta → PE (S.cx Y) b tb → PT (S.cx Y) e (tTest (tOp r ta tb))) (ho : Op2B S.pg r f) :
    ET S ρ e (ma >>= fun x => mb >>= fun y => f x y) := fun Y ok => (hp Y ok _ _ (ha Y ok) (hb Y ok)).pre fun σ H Q ⟨F, g, E, q⟩ =>
  rdX.bind E q fun x v g' H' s E' r q => rdX.bind E' (q.imp (fun _ _ q => q) fun _ _ q => q.back E.wf s) fun y u g2 H2 s2 E2 r2 q =>
    ho g2 H2 x y v u _ _ E2.wf (r.step E'.wf s2) r2 (q.imp (fun b st' q e => ⟨b, rfl, q g2 H2 e.symm (s.trans E.wf s2)⟩) fun _ _ q => q)
end
/-! ### ints -/
section
variable {p : Pg} {g : Gs} {H : Hp} {v : V}
theorem TopR.cases {d : D} (h : TopR p g H v d) (n : ∀ a, Own p g H a d → False) : p.Rp g v d := by
  rcases h with h | ⟨a, _, _, o⟩
  · exact h
  · exact (n a o).elim
theorem TopR.int {i : Int} (h : TopR p g H v (.int i)) : v = .int i := by
  cases h.cases fun _ o => o
  rfl
theorem TopR.bl {i : Bool} (h : TopR p g H v (.bl i)) : v = .bl i := by
  cases h.cases fun _ o => o
  rfl
theorem TopR.str {i : Str} (h : TopR p g H v (.str i)) : v = .str i := by
  cases h.cases fun _ o => o
  rfl
theorem TopR.non (h : TopR p g H v .non) : v = .non := by
  cases h.cases fun _ o => o
  rfl
theorem TopR.tup {ds : List D} (w : Wf p g H) (h : TopR p g H v (.tup ds)) : ∃ a xs, v = .ref a ∧ SqT p.K H a xs ∧ p.Rps g xs ds := by
  have h := h.cases fun _ o => o
  cases h with
  | tup s r => exact ⟨_, _, rfl, .inl (.inl (w.sub _ _ s)), r⟩
theorem TopR.tupH {ds : List D} (w : Wf p g H) (h : TopR p g H v (.tup ds)) : ∃ a xs, v = .ref a ∧ H a = some (.tup xs) ∧ p.Rps g xs ds := by
  have h := h.cases fun _ o => o
  cases h with
  | tup s r => exact ⟨_, _, rfl, w.sub _ _ s, r⟩
theorem TopR.rtp {ds : List D} (w : Wf p g H) (h : TopR p g H v (.rtp ds)) : ∃ a xs, v = .ref a ∧ SqT p.K H a xs ∧ p.Rps g xs ds := by
  have h := h.cases fun _ o => o
  cases h with
  | rtp s r => exact ⟨_, _, rfl, sqT_mono w.sub s, r⟩
theorem TopR.rls {ds : List D} (w : Wf p g H) (h : TopR p g H v (.rls ds)) : ∃ a xs, v = .ref a ∧ SqL p.K H a xs ∧ p.Rps g xs ds := by
  have h := h.cases fun _ o => o
  cases h with
  | rls s r => exact ⟨_, _, rfl, sqL_mono w.sub s, r⟩
theorem TopR.lst {ds : List D} (w : Wf p g H) (h : TopR p g H v (.lst ds)) : ∃ a xs, v = .ref a ∧ H a = some (.lst xs) ∧ p.Rps g xs ds := by
  rcases h with h | ⟨a, rfl, _, xs, e, r⟩
  · cases h with
    | lst s r => exact ⟨_, _, rfl, w.sub _ _ s, r⟩
  · exact ⟨a, xs, rfl, e, r⟩
theorem TopR.ref {k : Nat} (h : TopR p g H v (.ref k)) : ∃ a, v = .ref a ∧ g.am[k]? = some a := by
  have h := h.cases fun _ o => o
  cases h with
  | ref e => exact ⟨_, rfl, e⟩
/-- the cell behind a reference -/
theorem Wf.at_ref {k : Nat} {a : Addr} (w : Wf p g H) (e : g.am[k]? = some a) : ∃ c, g.st[k]? = some c ∧ CellR p g H a c := by
  have hk : k < g.am.length := (List.getElem?_eq_some_iff.mp e).1
  have hk2 : k < g.st.length := by rw [← w.len]; exact hk
  exact ⟨_, List.getElem?_eq_getElem hk2, w.cell k a _ e (List.getElem?_eq_getElem hk2)⟩
end
/-- two ints, and a number -/
def i2 (h : Int → Int → Int) : D → D → M D
  | .int i, .int j => pure (.int (h i j))
  | _, _ => stuck
/-- under a condition -/
def i2c (c : Int → Int → Bool) (h : Int → Int → Int) : D → D → M D
  | .int i, .int j => if c i j then pure (.int (h i j)) else stuck
  | _, _ => stuck
def b2 (h : Int → Int → Bool) : D → D → M Bool
  | .int i, .int j => pure (h i j)
  | _, _ => stuck
section
variable {p : Pg}
theorem post_pure {α : Type} {a : α} {s : Store} {ok : α → Store → Prop} {ex : Nat → Store → Prop} (h : ((pure a : M α) s).Post ok ex) : ok a s := h
theorem post_stuck {α : Type} {s : Store} {ok : α → Store → Prop} {ex : Nat → Store → Prop} (h : ((stuck : M α) s).Post ok ex) : False := h
theorem Pv.now {R : Rel} {g : Gs} {H : Hp} {Q : VK} {d : D} (w : Wf p g H) (h : Pv p R g H Q d g.st) {v : V} (r : R H g H v d) : Q v H := h v g H rfl (.refl w) r
theorem op_i2 {h : Int → Int → Int} {r : R2} (hr : ∀ (i j : Int) (H : Hp) (Q : VK), Q (.int (h i j)) H → r (.int i) (.int j) H Q) : Op2 p r (i2 h) (RE p) := by
  intro g H x y vx vy Q E w hx hy q
  cases x with
  | int i =>
    cases y with
    | int j =>
      obtain rfl := hx.int
      obtain rfl := hy.int
      exact hr i j H Q (Pv.now w (post_pure q) (.int _))
    | _ => exact False.elim q
  | _ => exact False.elim q
theorem op_i2c {c : Int → Int → Bool} {h : Int → Int → Int} {r : R2} (hr : ∀ (i j : Int) (H : Hp) (Q : VK), c i j = true → Q (.int (h i j)) H → r (.int i) (.int j) H Q) : Op2 p r (i2c c h) (RE p) := by
  intro g H x y vx vy Q E w hx hy q
  cases x with
  | int i =>
    cases y with
    | int j =>
      obtain rfl := hx.int
      obtain rfl := hy.int
      unfold i2c at q
      by_cases z : c i j = true
      · simp only [z, if_true] at q
        exact hr i j H Q z (Pv.now w (post_pure q) (.int _))
      · simp only [z] at q
        exact False.elim q
    | _ => exact False.elim q
  | _ => exact False.elim q
theorem op_b2 {h : Int → Int → Bool} {r : R2} (hr : ∀ (i j : Int) (H : Hp) (Q : VK), Q (.bl (h i j)) H → r (.int i) (.int j) H Q) : Op2B p r (b2 h) := by
  intro g H x y vx vy Q E w hx hy q
  cases x with
  | int i =>
    cases y with
    | int j =>
      obtain rfl := hx.int
      obtain rfl := hy.int
      exact hr i j H Q ((post_pure q) rfl)
    | _ => exact False.elim q
  | _ => exact False.elim q
end
end DL
namespace DL
open PySem PySem.Spec PyProof.Rows L2
/-! ### data as the library's data -/
mutual
def toP : D → PyData
  | .non => .none
  | .bl b => .bool b
  | .int i => .int i
  | .str x => .str x
  | .tup xs => .tuple (toPs xs)
  | .lst xs => .list (toPs xs)
  | .rls xs => .list (toPs xs)
  | .rtp xs => .tuple (toPs xs)
  | .dct _ => .dict []
  | .dcT _ => .dict []
  | .ref _ => .dict []
def toPs : List D → List PyData
  | [] => []
  | x :: r => toP x :: toPs r
end
theorem toPs_map : ∀ ds : List D, toPs ds = ds.map toP
  | [] => rfl
  | d :: r => by rw [toPs, List.map_cons, toPs_map r]
section
variable {p : Pg} {g : Gs} {H : Hp}
mutual
theorem Rp.dp (w : ∀ a o, g.G a = some o → H a = some o) : ∀ {v : V} {d : D}, p.Rp g v d → (toP d).canLay0 = true → Dp p.K H v (toP d)
  | _, _, .non, _ => by rw [toP]; exact .non
  | _, _, .bl b, _ => by rw [toP]; exact .bl b
  | _, _, .int i, _ => by rw [toP]; exact .int i
  | _, _, .str x, _ => by rw [toP]; exact .str x
  | _, _, .tup s r, h => by
    rw [toP]
    exact .tup (.inl (.inl (w _ _ s))) (Rps.dp w r (by rw [toP, PyData.canLay0] at h; exact h))
  | _, _, .rtp s r, h => by
    rw [toP]
    exact .tup (sqT_mono w s) (Rps.dp w r (by rw [toP, PyData.canLay0] at h; exact h))
  | _, _, .lst s r, h => by
    rw [toP]
    exact .lst (.inl (.inl (w _ _ s))) (Rps.dp w r (by rw [toP, PyData.canLay0] at h; exact h))
  | _, _, .rls s r, h => by
    rw [toP]
    exact .lst (sqL_mono w s) (Rps.dp w r (by rw [toP, PyData.canLay0] at h; exact h))
  | _, _, .dK _ _, h => by simp [toP, PyData.canLay0] at h
  | _, _, .dT _ _, h => by simp [toP, PyData.canLay0] at h
  | _, _, .ref _, h => by simp [toP, PyData.canLay0] at h
theorem Rps.dp (w : ∀ a o, g.G a = some o → H a = some o) : ∀ {v : List V} {d : List D}, p.Rps g v d → PyData.canLayAll0 (toPs d) = true → DpAll p.K H v (toPs d)
  | _, _, .nil, _ => by rw [toPs]; exact .nil
  | _, _, .cons r t, h => by
    rw [toPs, PyData.canLayAll0, Bool.and_eq_true] at h
    rw [toPs]
    exact .cons (Rp.dp w r h.1) (Rps.dp w t h.2)
end
theorem TopR.dp (w : Wf p g H) {v : V} {d : D} (h : TopR p g H v d) (s : SeqAt.shaped (toP d) = true) : Dp p.K H v (toP d) := by
  have s := SeqAt.canLay_of_shaped s
  rcases h with h | ⟨a, rfl, _, o⟩
  · exact Rp.dp w.sub h s
  · cases d with
    | lst ds =>
      obtain ⟨xs, e, r⟩ := o
      rw [toP] at s ⊢
      exact .lst (.inl (.inl e)) (Rps.dp w.sub r (by rw [PyData.canLay0] at s; exact s))
    | dct es => simp [toP, PyData.canLay0] at s
    | dcT es => simp [toP, PyData.canLay0] at s
    | _ => exact o.elim
end
/-! ### comparisons of data -/
def eqB (x y : D) : M Bool := if SeqAt.shaped (toP x) && SeqAt.shaped (toP y) then pure (PyData.eqv (toP x) (toP y)) else stuck
def neB (x y : D) : M Bool := if SeqAt.shaped (toP x) && SeqAt.shaped (toP y) then pure (!PyData.eqv (toP x) (toP y)) else stuck
def isN : D → Bool
  | .non => true
  | _ => false
def isNoneB (x y : D) : M Bool := if isN y then pure (isN x) else stuck
def notNoneB (x y : D) : M Bool := if isN y then pure (!isN x) else stuck
def inSeq (neg : Bool) (x : D) (ds : List D) : M Bool :=
  if SeqAt.shaped (toP x) && SeqAt.shaped (.list (toPs ds)) then pure (let b := ds.any fun z => PyData.eqv (toP z) (toP x); if neg then !b else b) else stuck
/-- x in ds, x not in ds -/
def inB (neg : Bool) (x y : D) : M Bool := match y with
  | .tup ds => inSeq neg x ds
  | .lst ds => inSeq neg x ds
  | .rls ds => inSeq neg x ds
  | .rtp ds => inSeq neg x ds
  | _ => stuck
theorem any_toPs (ds : List D) (d : PyData) : (toPs ds).any (fun z => PyData.eqv z d) = ds.any fun z => PyData.eqv (toP z) d := by
  rw [toPs_map, List.any_map]
  rfl
section
variable {p : Pg} {X : Cx}
theorem op_eqB : Op2B p (rEqD p.K) eqB := by
  intro g H x y vx vy Q E w hx hy q
  unfold eqB at q
  by_cases z : (SeqAt.shaped (toP x) && SeqAt.shaped (toP y)) = true
  · rw [if_pos z] at q
    rw [Bool.and_eq_true] at z
    exact ⟨_, _, hx.dp w z.1, hy.dp w z.2, z.1, z.2, (post_pure q) rfl⟩
  · rw [if_neg z] at q
    exact False.elim q
theorem op_neB : Op2B p (rNeD p.K) neB := by
  intro g H x y vx vy Q E w hx hy q
  unfold neB at q
  by_cases z : (SeqAt.shaped (toP x) && SeqAt.shaped (toP y)) = true
  · rw [if_pos z] at q
    rw [Bool.and_eq_true] at z
    exact ⟨_, _, hx.dp w z.1, hy.dp w z.2, z.1, z.2, (post_pure q) rfl⟩
  · rw [if_neg z] at q
    exact False.elim q
def rIsN : R2 := fun x y H Q => y = .non ∧ Q (.bl (decide (x = .non))) H
def rNotN : R2 := fun x y H Q => y = .non ∧ Q (.bl (!decide (x = .non))) H
theorem TopR.isNon {g : Gs} {H : Hp} {v : V} {x : D} (h : TopR p g H v x) : decide (v = .non) = isN x := by
  rcases h with h | ⟨a, rfl, _, o⟩
  · cases h <;> rfl
  · cases x with
    | lst ds => rfl
    | dct es => rfl
    | dcT es => rfl
    | _ => exact o.elim
theorem isN_eq {x : D} (h : isN x = true) : x = .non := by
  cases x with
  | non => rfl
  | _ => cases h
theorem op_isNoneB : Op2B p rIsN isNoneB := by
  intro g H x y vx vy Q E w hx hy q
  unfold isNoneB at q
  by_cases z : isN y = true
  · rw [if_pos z] at q
    obtain rfl := isN_eq z
    have q : Q (.bl (isN x)) H := (post_pure q) rfl
    rw [← hx.isNon] at q
    exact ⟨hy.non, q⟩
  · rw [if_neg z] at q
    exact False.elim q
theorem op_notNoneB : Op2B p rNotN notNoneB := by
  intro g H x y vx vy Q E w hx hy q
  unfold notNoneB at q
  by_cases z : isN y = true
  · rw [if_pos z] at q
    obtain rfl := isN_eq z
    have q : Q (.bl (!isN x)) H := (post_pure q) rfl
    rw [← hx.isNon] at q
    exact ⟨hy.non, q⟩
  · rw [if_neg z] at q
    exact False.elim q
/-- membership in a list, in a tuple -/
def rInDT (K : PySem.W.Frag) : R2 := fun x y H Q => ∃ d ds, Dp K H x d ∧ Dp K H y (.tuple ds) ∧ SeqAt.shaped d = true ∧ SeqAt.shaped (.list ds) = true ∧ Q (.bl (ds.any fun z => PyData.eqv z d)) H
def rNotInDT (K : PySem.W.Frag) : R2 := fun x y H Q => ∃ d ds, Dp K H x d ∧ Dp K H y (.tuple ds) ∧ SeqAt.shaped d = true ∧ SeqAt.shaped (.list ds) = true ∧ Q (.bl (!ds.any fun z => PyData.eqv z d)) H
theorem op_inDT (hu : X.A.units + 65 < cLine) : OpR X (compareOp .In) (rInDT X.K) := by
  intro pins s σ H x y v u Q I rx ry h
  obtain ⟨d, ds, hd, he, sd, se, q⟩ := h
  obtain ⟨as, r1⟩ := Dp.reads I d x v hd rx
  obtain ⟨bs, r2⟩ := Dp.reads I (.tuple ds) y u he ry
  exact SeqAt.in_tuple_reads r2 r1 (SeqAt.canLay_of_shaped se) (SeqAt.canLay_of_shaped sd) (room_in_shaped sd hu) ⟨.bl _, H, I, rfl, q⟩
theorem op_notInDT (hu : X.A.units + 65 < cLine) : OpR X (compareOp .NotIn) (rNotInDT X.K) := by
  intro pins s σ H x y v u Q I rx ry h
  obtain ⟨d, ds, hd, he, sd, se, q⟩ := h
  obtain ⟨as, r1⟩ := Dp.reads I d x v hd rx
  obtain ⟨bs, r2⟩ := Dp.reads I (.tuple ds) y u he ry
  exact SeqAt.notIn_tuple_reads r2 r1 (SeqAt.canLay_of_shaped se) (SeqAt.canLay_of_shaped sd) (room_in_shaped sd hu) ⟨.bl _, H, I, rfl, q⟩
theorem tuple_shape {ds : List PyData} : (PyData.tuple ds).canLay0 = (PyData.list ds).canLay0 ∧ (PyData.tuple ds).depth = (PyData.list ds).depth := by
  constructor
  · rw [PyData.canLay0, PyData.canLay0]
  · rw [PyData.depth, PyData.depth]
theorem shaped_tup {ds : List D} : SeqAt.shaped (toP (.tup ds)) = SeqAt.shaped (.list (toPs ds)) := by
  rw [toP, SeqAt.shaped, SeqAt.shaped, tuple_shape.1, tuple_shape.2]
theorem inSeq_post {neg : Bool} {x : D} {ds : List D} {s : Store} {ok : Bool → Store → Prop} {ex : Nat → Store → Prop} (q : (inSeq neg x ds s).Post ok ex) :
    SeqAt.shaped (toP x) = true ∧ SeqAt.shaped (.list (toPs ds)) = true ∧ ok (if neg then !((toPs ds).any fun z => PyData.eqv z (toP x)) else (toPs ds).any fun z => PyData.eqv z (toP x)) s := by
  unfold inSeq at q
  by_cases z : (SeqAt.shaped (toP x) && SeqAt.shaped (.list (toPs ds))) = true
  · rw [if_pos z] at q
    rw [Bool.and_eq_true] at z
    rw [any_toPs]
    exact ⟨z.1, z.2, q⟩
  · rw [if_neg z] at q
    exact False.elim q
def rInA (K : PySem.W.Frag) : R2 := fun x y H Q => rInD K x y H Q ∨ rInDT K x y H Q
def rNotInA (K : PySem.W.Frag) : R2 := fun x y H Q => rNotInD K x y H Q ∨ rNotInDT K x y H Q
theorem op_inB : Op2B p (rInA p.K) (inB false) := by
  intro g H x y vx vy Q E w hx hy q
  cases y with
  | lst ds =>
    obtain ⟨h1, h2, h3⟩ := inSeq_post q
    exact .inl ⟨_, _, hx.dp w h1, by have := hy.dp w (by rw [toP]; exact h2); rwa [toP] at this, h1, h2, h3 rfl⟩
  | rls ds =>
    obtain ⟨h1, h2, h3⟩ := inSeq_post q
    exact .inl ⟨_, _, hx.dp w h1, by have := hy.dp w (by rw [toP]; exact h2); rwa [toP] at this, h1, h2, h3 rfl⟩
  | tup ds =>
    obtain ⟨h1, h2, h3⟩ := inSeq_post q
    exact .inr ⟨_, _, hx.dp w h1, by have := hy.dp w (by rw [shaped_tup]; exact h2); rwa [toP] at this, h1, h2, h3 rfl⟩
  | rtp ds =>
    obtain ⟨h1, h2, h3⟩ := inSeq_post q
    exact .inr ⟨_, _, hx.dp w h1, by have := hy.dp w (by rw [toP, ← shaped_tup, toP] at *; exact h2); rwa [toP] at this, h1, h2, h3 rfl⟩
  | _ => exact False.elim q
theorem op_notInB : Op2B p (rNotInA p.K) (inB true) := by
  intro g H x y vx vy Q E w hx hy q
  cases y with
  | lst ds =>
    obtain ⟨h1, h2, h3⟩ := inSeq_post q
    exact .inl ⟨_, _, hx.dp w h1, by have := hy.dp w (by rw [toP]; exact h2); rwa [toP] at this, h1, h2, h3 rfl⟩
  | rls ds =>
    obtain ⟨h1, h2, h3⟩ := inSeq_post q
    exact .inl ⟨_, _, hx.dp w h1, by have := hy.dp w (by rw [toP]; exact h2); rwa [toP] at this, h1, h2, h3 rfl⟩
  | tup ds =>
    obtain ⟨h1, h2, h3⟩ := inSeq_post q
    exact .inr ⟨_, _, hx.dp w h1, by have := hy.dp w (by rw [shaped_tup]; exact h2); rwa [toP] at this, h1, h2, h3 rfl⟩
  | rtp ds =>
    obtain ⟨h1, h2, h3⟩ := inSeq_post q
    exact .inr ⟨_, _, hx.dp w h1, by have := hy.dp w (by rw [toP, ← shaped_tup, toP] at *; exact h2); rwa [toP] at this, h1, h2, h3 rfl⟩
  | _ => exact False.elim q
end
/-! ### operators -/
def addD : D → D → M D
  | .int i, .int j => pure (.int (i + j))
  | .str x, .str y => if x.length + y.length ≤ sizeLine then pure (.str (x ++ y)) else stuck
  | .tup xs, .tup ys => if xs.length + ys.length ≤ sizeLine then pure (.tup (xs ++ ys)) else stuck
  | _, _ => stuck
def catD : D → D → M D
  | .lst xs, .lst ys => if xs.length + ys.length ≤ sizeLine then pure (.lst (xs ++ ys)) else stuck
  | _, _ => stuck
def repL : D → D → M D
  | .lst xs, .int k => if 0 ≤ k ∧ k < 2 ^ 62 ∧ xs.length * k.toNat ≤ sizeLine then pure (.lst (List.replicate k.toNat xs).flatten) else stuck
  | _, _ => stuck
def subD := i2 (· - ·)
def mulC (i j : Int) : Bool := decide ((-(2 ^ 64) < i ∧ i < 2 ^ 64) ∨ (-(2 ^ 64) < j ∧ j < 2 ^ 64))
def mulD := i2c mulC (· * ·)
def divC (_ j : Int) : Bool := decide (0 < j ∧ j < 1073741824)
def divD := i2c divC (· / ·)
def modC (_ j : Int) : Bool := decide (0 < j)
def modD := i2c modC (· % ·)
def powC (i j : Int) : Bool := decide (0 ≤ j ∧ j ≤ 1000000 ∧ i.natAbs < 2 ^ 64)
def powD := i2c powC fun i j => i ^ j.toNat
def shlD := i2c powC fun i j => i * 2 ^ j.toNat
def shrC (_ j : Int) : Bool := decide (0 ≤ j)
def shrD := i2c shrC fun i j => i / 2 ^ j.toNat
def andD := i2 Builtin.bitAnd
def orD := i2 Builtin.bitOr
def xorD := i2 Builtin.bitXor
def ltB := b2 fun i j => decide (i < j)
def leB := b2 fun i j => decide (i ≤ j)
def gtB := b2 fun i j => decide (j < i)
def geB := b2 fun i j => decide (j ≤ i)
def negD : D → M D
  | .int i => pure (.int (-i))
  | _ => stuck
def invD : D → M D
  | .int i => pure (.int (Builtin.bitNot i))
  | _ => stuck
section
variable {S : Sta} {ρ : Ev} {a b c : Expr} {ma mb mc : M D} {pos : Pos} {R : Rel}
def rAddA (K : PySem.W.Frag) : R2 := fun x y H Q => (rI0 (fun i j => .int (i + j)) x y H Q ∨ (∃ i j, x = .str i ∧ y = .str j ∧ i.length + j.length ≤ sizeLine ∧ Q (.str (i ++ j)) H)) ∨ rCatA K x y H Q
theorem op_addD {p : Pg} : Op2 p (rAddA p.K) addD (RE p) := by
  intro g H x y vx vy Q E w hx hy q
  cases x with
  | int i =>
    cases y with
    | int j =>
      obtain rfl := hx.int
      obtain rfl := hy.int
      exact .inl (.inl ⟨i, j, rfl, rfl, Pv.now w (post_pure q) (.int _)⟩)
    | _ => exact False.elim q
  | str i =>
    cases y with
    | str j =>
      obtain rfl := hx.str
      obtain rfl := hy.str
      unfold addD at q
      by_cases z : i.length + j.length ≤ sizeLine
      · simp only [if_pos z] at q
        exact .inl (.inr ⟨i, j, rfl, rfl, z, Pv.now w (post_pure q) (.str _)⟩)
      · simp only [if_neg z] at q
        exact False.elim q
    | _ => exact False.elim q
  | tup xs =>
    cases y with
    | tup ys =>
      unfold addD at q
      by_cases z : xs.length + ys.length ≤ sizeLine
      · simp only [if_pos z] at q
        have q := post_pure q
        obtain ⟨a, us, rfl, sa, ra⟩ := hx.tup w
        obtain ⟨b, vs, rfl, sb, rb⟩ := hy.tup w
        have hx := hx.cases fun _ o => o
        have hy := hy.cases fun _ o => o
        refine .inr ⟨a, b, us, vs, rfl, rfl, sa, sb, by rw [ra.length, rb.length]; exact z, fun e => ?_, fun _ e => ?_, fun _ _ l hl => ?_⟩
        · subst e
          cases ra
          exact Pv.now w q hy
        · subst e
          cases rb
          refine Pv.now w q ?_
          show p.Rp g _ (.tup (xs ++ []))
          rw [List.append_nil]
          exact hx
        · have s := Stp.new (o := .tup (us ++ vs)) w hl
          exact q _ { g with G := upd g.G l (.tup (us ++ vs)) } _ rfl s (.tup upd_same ((ra.append rb).mono s.gle s.aml))
      · simp only [if_neg z] at q
        exact False.elim q
    | _ => exact False.elim q
  | _ => exact False.elim q
theorem op_catD {p : Pg} : Op2 p rCat catD (RN p) := by
  intro g H x y vx vy Q E w hx hy q
  cases x with
  | lst xs =>
    cases y with
    | lst ys =>
      unfold catD at q
      by_cases z : xs.length + ys.length ≤ sizeLine
      · simp only [if_pos z] at q
        have q := post_pure q
        obtain ⟨a, us, rfl, sa, ra⟩ := hx.lst w
        obtain ⟨b, vs, rfl, sb, rb⟩ := hy.lst w
        refine ⟨a, b, us, vs, rfl, rfl, sa, sb, by rw [ra.length, rb.length]; exact z, fun l hl => ?_⟩
        have s := Stp.laid (o := .lst (us ++ vs)) w hl
        exact q _ _ _ rfl s ⟨l, rfl, ⟨_, upd_same, ra.append rb⟩, w.freeG hl, w.freeA hl, hl⟩
      · simp only [if_neg z] at q
        exact False.elim q
    | _ => exact False.elim q
  | _ => exact False.elim q
theorem mulC_ok {i j : Int} (h : mulC i j = true) : CMul i j := of_decide_eq_true (p := (-(2 ^ 64) < i ∧ i < 2 ^ 64) ∨ (-(2 ^ 64) < j ∧ j < 2 ^ 64)) h
theorem divC_ok {i j : Int} (h : divC i j = true) : CDiv i j := of_decide_eq_true (p := 0 < j ∧ j < 1073741824) h
theorem powC_ok {i j : Int} (h : powC i j = true) : CPow i j := of_decide_eq_true (p := 0 ≤ j ∧ j ≤ 1000000 ∧ i.natAbs < 2 ^ 64) h
/-! the rules -/
theorem ee_add (ha : EL S ρ a ma) (hb : EL S ρ b mb) : EE S ρ (.BinOp a .Add b pos) (ma >>= fun x => mb >>= fun y => addD x y) :=
  ex_bin back_RE ha hb (fun Y ok ta tb h1 h2 => pe_op (OpR.or (OpR.or op_add op_add_str) op_catA) h1 h2) op_addD
theorem en_cat (ha : EL S ρ a ma) (hb : EL S ρ b mb) : EN S ρ (.BinOp a .Add b pos) (ma >>= fun x => mb >>= fun y => catD x y) :=
  ex_bin back_RN ha hb (fun Y ok ta tb h1 h2 => pe_op op_cat h1 h2) op_catD
theorem op_repL {p : Pg} : Op2 p rRep repL (RN p) := by
  intro g H x y vx vy Q E w hx hy q
  cases x with
  | lst xs =>
    cases y with
    | int k =>
      unfold repL at q
      by_cases z : 0 ≤ k ∧ k < 2 ^ 62 ∧ xs.length * k.toNat ≤ sizeLine
      · simp only [if_pos z] at q
        have q := post_pure q
        obtain ⟨a, us, rfl, sa, ra⟩ := hx.lst w
        obtain rfl := hy.int
        refine ⟨a, k, us, rfl, rfl, sa, by omega, by omega, by rw [ra.length]; exact z.2.2, fun l hl => ?_⟩
        have s := Stp.laid (o := .lst (List.replicate k.toNat us).flatten) w hl
        have rr : ∀ n : Nat, p.Rps g (List.replicate n us).flatten (List.replicate n xs).flatten := by
          intro n
          induction n with
          | zero => exact .nil
          | succ n ih => rw [List.replicate_succ, List.replicate_succ, List.flatten_cons, List.flatten_cons]; exact ra.append ih
        exact q _ _ _ rfl s ⟨l, rfl, ⟨_, upd_same, rr _⟩, w.freeG hl, w.freeA hl, hl⟩
      · simp only [if_neg z] at q
        exact False.elim q
    | _ => exact False.elim q
  | _ => exact False.elim q
theorem en_rep (ha : EL S ρ a ma) (hb : EL S ρ b mb) : EN S ρ (.BinOp a .Mult b pos) (ma >>= fun x => mb >>= fun y => repL x y) :=
  ex_bin back_RN ha hb (fun Y ok ta tb h1 h2 => pe_op op_rep h1 h2) op_repL
theorem ee_sub (ha : EL S ρ a ma) (hb : EL S ρ b mb) : EE S ρ (.BinOp a .Sub b pos) (ma >>= fun x => mb >>= fun y => subD x y) :=
  ex_bin back_RE ha hb (fun Y ok ta tb h1 h2 => pe_op op_sub h1 h2) (op_i2 fun i j H Q q => ⟨i, j, rfl, rfl, q⟩)
theorem ee_mul (ha : EL S ρ a ma) (hb : EL S ρ b mb) : EE S ρ (.BinOp a .Mult b pos) (ma >>= fun x => mb >>= fun y => mulD x y) :=
  ex_bin back_RE ha hb (fun Y ok ta tb h1 h2 => pe_op op_mul h1 h2) (op_i2c fun i j H Q c q => ⟨i, j, rfl, rfl, mulC_ok c, q⟩)
theorem ee_div (ha : EL S ρ a ma) (hb : EL S ρ b mb) : EE S ρ (.BinOp a .FloorDiv b pos) (ma >>= fun x => mb >>= fun y => divD x y) :=
  ex_bin back_RE ha hb (fun Y ok ta tb h1 h2 => pe_op op_fdiv h1 h2) (op_i2c fun i j H Q c q => ⟨i, j, rfl, rfl, divC_ok c, q⟩)
theorem ee_mod (ha : EL S ρ a ma) (hb : EL S ρ b mb) : EE S ρ (.BinOp a .Mod b pos) (ma >>= fun x => mb >>= fun y => modD x y) :=
  ex_bin back_RE ha hb (fun Y ok ta tb h1 h2 => pe_op op_mod h1 h2) (op_i2c fun i j H Q c q => ⟨i, j, rfl, rfl, of_decide_eq_true c, q⟩)
theorem ee_pow (ha : EL S ρ a ma) (hb : EL S ρ b mb) : EE S ρ (.BinOp a .Pow b pos) (ma >>= fun x => mb >>= fun y => powD x y) :=
  ex_bin back_RE ha hb (fun Y ok ta tb h1 h2 => pe_op op_pow h1 h2) (op_i2c fun i j H Q c q => ⟨i, j, rfl, rfl, powC_ok c, q⟩)
theorem ee_shl (ha : EL S ρ a ma) (hb : EL S ρ b mb) : EE S ρ (.BinOp a .LShift b pos) (ma >>= fun x => mb >>= fun y => shlD x y) :=
  ex_bin back_RE ha hb (fun Y ok ta tb h1 h2 => pe_op op_shl h1 h2) (op_i2c fun i j H Q c q => ⟨i, j, rfl, rfl, powC_ok c, q⟩)
theorem ee_shr (ha : EL S ρ a ma) (hb : EL S ρ b mb) : EE S ρ (.BinOp a .RShift b pos) (ma >>= fun x => mb >>= fun y => shrD x y) :=
  ex_bin back_RE ha hb (fun Y ok ta tb h1 h2 => pe_op op_shr h1 h2) (op_i2c fun i j H Q c q => ⟨i, j, rfl, rfl, of_decide_eq_true c, q⟩)
theorem ee_and (ha : EL S ρ a ma) (hb : EL S ρ b mb) : EE S ρ (.BinOp a .BitAnd b pos) (ma >>= fun x => mb >>= fun y => andD x y) :=
  ex_bin back_RE ha hb (fun Y ok ta tb h1 h2 => pe_op op_and h1 h2) (op_i2 fun i j H Q q => ⟨i, j, rfl, rfl, q⟩)
theorem ee_or (ha : EL S ρ a ma) (hb : EL S ρ b mb) : EE S ρ (.BinOp a .BitOr b pos) (ma >>= fun x => mb >>= fun y => orD x y) :=
  ex_bin back_RE ha hb (fun Y ok ta tb h1 h2 => pe_op op_or h1 h2) (op_i2 fun i j H Q q => ⟨i, j, rfl, rfl, q⟩)
theorem ee_xor (ha : EL S ρ a ma) (hb : EL S ρ b mb) : EE S ρ (.BinOp a .BitXor b pos) (ma >>= fun x => mb >>= fun y => xorD x y) :=
  ex_bin back_RE ha hb (fun Y ok ta tb h1 h2 => pe_op op_xor h1 h2) (op_i2 fun i j H Q q => ⟨i, j, rfl, rfl, q⟩)
theorem op_negD {p : Pg} : Op1 p (rU fun i => .int (-i)) negD (RE p) := by
  intro g H x vx Q E w hx q
  cases x with
  | int i =>
    obtain rfl := hx.int
    exact ⟨i, rfl, Pv.now w (post_pure q) (.int _)⟩
  | _ => exact False.elim q
theorem op_invD {p : Pg} : Op1 p (rU fun i => .int (Builtin.bitNot i)) invD (RE p) := by
  intro g H x vx Q E w hx q
  cases x with
  | int i =>
    obtain rfl := hx.int
    exact ⟨i, rfl, Pv.now w (post_pure q) (.int _)⟩
  | _ => exact False.elim q
theorem ee_neg (ha : EL S ρ a ma) : EE S ρ (.UnaryOp .USub a pos) (ma >>= negD) := ex_un back_RE ha (fun Y ok ta h => pe_un un_neg h) op_negD
theorem ee_inv (ha : EL S ρ a ma) : EE S ρ (.UnaryOp .Invert a pos) (ma >>= invD) := ex_un back_RE ha (fun Y ok ta h => pe_un un_inv h) op_invD
/-! comparisons: by the operator -/
/-- an operator that gives a truth, in every run of a def -/
structure Cmp (S : Sta) (op : CmpOp) (r : R2) (f : D → D → M Bool) : Prop where
  op : ∀ Y : Dyn, OkY S Y → OpR (S.cx Y) (compareOp op) r
  ok : Op2B S.pg r f
theorem c_lt : Cmp S .Lt (rI0 fun i j => .bl (decide (i < j))) ltB := ⟨fun _ _ => op_lt, op_b2 fun i j H Q q => ⟨i, j, rfl, rfl, q⟩⟩
theorem c_le : Cmp S .LtE (rI0 fun i j => .bl (decide (i ≤ j))) leB := ⟨fun _ _ => op_le, op_b2 fun i j H Q q => ⟨i, j, rfl, rfl, q⟩⟩
theorem c_gt : Cmp S .Gt (rI0 fun i j => .bl (decide (j < i))) gtB := ⟨fun _ _ => op_gt, op_b2 fun i j H Q q => ⟨i, j, rfl, rfl, q⟩⟩
theorem c_ge : Cmp S .GtE (rI0 fun i j => .bl (decide (j ≤ i))) geB := ⟨fun _ _ => op_ge, op_b2 fun i j H Q q => ⟨i, j, rfl, rfl, q⟩⟩
theorem c_eq : Cmp S .Eq (rEqD S.pg.K) eqB := ⟨fun Y ok => op_eqD (X := S.cx Y) ok.room.units, op_eqB⟩
theorem c_ne : Cmp S .NotEq (rNeD S.pg.K) neB := ⟨fun Y ok => op_neD (X := S.cx Y) ok.room.units, op_neB⟩
theorem c_is : Cmp S .Is rIsN isNoneB := ⟨fun _ _ => op_isN, op_isNoneB⟩
theorem c_nis : Cmp S .IsNot rNotN notNoneB := ⟨fun _ _ => op_notN, op_notNoneB⟩
theorem in_room {k : Nat} {A : Around} (r : Room k A) : A.units + 65 < cLine := by
  have := r.un
  omega
theorem c_in : Cmp S .In (rInA S.pg.K) (inB false) := ⟨fun Y ok => OpR.or (op_inD (X := S.cx Y) (in_room ok.room)) (op_inDT (X := S.cx Y) (in_room ok.room)), op_inB⟩
theorem c_nin : Cmp S .NotIn (rNotInA S.pg.K) (inB true) := ⟨fun Y ok => OpR.or (op_notInD (X := S.cx Y) (in_room ok.room)) (op_notInDT (X := S.cx Y) (in_room ok.room)), op_notInB⟩
theorem ee_cmp {op : CmpOp} {r : R2} {f : D → D → M Bool} (h : Cmp S op r f) (ha : EL S ρ a ma) (hb : EL S ρ b mb) (hm : behindInMarks op b = false) :
    EE S ρ (.Compare a [op] [b] pos) (ma >>= fun x => mb >>= fun y => f x y >>= fun b => pure (.bl b)) :=
  ex_binB ha hb (fun Y ok ta tb h1 h2 => pe_cmpR (h.op Y ok) h1 h2 hm) h.ok
theorem et_cmp {op : CmpOp} {r : R2} {f : D → D → M Bool} (h : Cmp S op r f) (ha : EL S ρ a ma) (hb : EL S ρ b mb) (hm : behindInMarks op b = false) :
    ET S ρ (.Compare a [op] [b] pos) (ma >>= fun x => mb >>= fun y => f x y) :=
  et_binB ha hb (fun Y ok ta tb h1 h2 => pt_cmpR (h.op Y ok) h1 h2 hm) h.ok
/-- a op1 b op2 c -/
def chainM (ma mb : M D) (f1 : D → D → M Bool) (mc : M D) (f2 : D → D → M Bool) : M Bool := ma >>= fun x => mb >>= fun y => f1 x y >>= fun k => if k = true then mc >>= fun z => f2 y z else pure false
theorem chain_core {op1 op2 : CmpOp} {r1 r2 : R2} {f1 f2 : D → D → M Bool} (h1 : Cmp S op1 r1 f1) (h2 : Cmp S op2 r2 f2) {Y : Dyn} {σ : L2.St} {H : Hp} {F : Fm} {g : Gs} {Q : VK}
    (E : ER S.pg F ρ σ g H) (q : (chainM ma mb f1 mc f2 g.st).Post (fun b st' => ∀ g' H', g'.st = st' → Stp S.pg g H g' H' → Q (.bl b) H') (Px S Y g H)) :
    tChain r1 r2 (rdX S Y ρ (RL S.pg) ma) (rdX S Y ρ (RL S.pg) mb) (rdX S Y ρ (RL S.pg) mc) σ H Q :=
  rdX.bind E q fun x v g' H' s E' r q => rdX.bind E' (q.imp (fun _ _ q => q) fun _ _ q => q.back E.wf s) fun y u g2 H2 s2 E2 r2 q =>
    h1.ok g2 H2 x y v u _ _ E2.wf (r.step E'.wf s2) r2 ((post_bind q).imp (fun b st' q e => ⟨b, rfl, by
      subst e
      have s3 := s.trans E.wf s2
      by_cases z : b = true
      · rw [if_pos z]
        rw [if_pos z] at q
        exact rdX.bind E2 (q.imp (fun _ _ q => q) fun _ _ q => Px.back E'.wf s2 q) fun w t g4 H4 s4 E4 r4 q =>
          h2.ok g4 H4 y w u t Q _ E4.wf (r2.step E2.wf s4) r4 (q.imp (fun b st' q e => q g4 H4 e.symm (s3.trans E.wf s4)) fun _ _ q => q)
      · rw [if_neg z]
        rw [if_neg z] at q
        have zb : b = false := by cases b with | true => exact absurd rfl z | false => rfl
        exact (post_pure q) g2 H2 rfl s3⟩) fun _ _ q => q)
theorem ee_chain {op1 op2 : CmpOp} {r1 r2 : R2} {f1 f2 : D → D → M Bool} (h1 : Cmp S op1 r1 f1) (h2 : Cmp S op2 r2 f2) (ha : EL S ρ a ma) (hb : EL S ρ b mb) (hc : EL S ρ c mc) (hm : lastMarks [op1, op2] [b, c] = false := by with_unfolding_all rfl) :
    EE S ρ (.Compare a [op1, op2] [b, c] pos) (chainM ma mb f1 mc f2 >>= fun b => pure (.bl b)) := fun Y ok => (pe_chain (h1.op Y ok) (h2.op Y ok) (ha Y ok) (hb Y ok) (hc Y ok) hm).pre fun σ H Q ⟨F, g, E, q⟩ =>
  chain_core h1 h2 E ((post_bind q).imp (fun b st' q g' H' e s => (post_pure q) (.bl b) g' H' e s (.bl b)) fun _ _ q => q)
theorem et_chain {op1 op2 : CmpOp} {r1 r2 : R2} {f1 f2 : D → D → M Bool} (h1 : Cmp S op1 r1 f1) (h2 : Cmp S op2 r2 f2) (ha : EL S ρ a ma) (hb : EL S ρ b mb) (hc : EL S ρ c mc) (hm : lastMarks [op1, op2] [b, c] = false := by with_unfolding_all rfl) :
    ET S ρ (.Compare a [op1, op2] [b, c] pos) (chainM ma mb f1 mc f2) := fun Y ok => (pt_chain (h1.op Y ok) (h2.op Y ok) (ha Y ok) (hb Y ok) (hc Y ok) hm).pre fun σ H Q ⟨F, g, E, q⟩ =>
  chain_core h1 h2 E (q.imp (fun b st' q g' H' e s => ⟨b, rfl, q g' H' e s⟩) fun _ _ q => q)
/-! ### truth, not, and, or, if -/
def truth : D → M Bool
  | .non => pure false
  | .bl b => pure b
  | .int i => pure (i != 0)
  | .str y => if y.length ≤ sizeLine then pure ((y.length : Int) != 0) else stuck
  | .tup xs => pure (!xs.isEmpty)
  | .lst xs => pure (!xs.isEmpty)
  | .rls xs => pure (!xs.isEmpty)
  | .dct _ => stuck
  | .dcT _ => stuck
  | .rtp _ => stuck
  | .ref k => getC k >>= fun c => match c with
    | .lst xs => pure (!xs.isEmpty)
    | _ => stuck
theorem Rps.isEmpty {p : Pg} {g : Gs} {xs : List V} {ds : List D} (r : p.Rps g xs ds) : (!ds.isEmpty) = !xs.isEmpty := by
  cases r <;> rfl
theorem truth_ok {p : Pg} {g : Gs} {H : Hp} {v : V} {x : D} {ok : Bool → Store → Prop} {ex : Nat → Store → Prop} (w : Wf p g H) (hx : TopR p g H v x) (q : (truth x g.st).Post ok ex) : ∃ k, TruV p.K v H k ∧ ok k g.st := by
  cases x with
  | non => obtain rfl := hx.non; exact ⟨_, rfl, post_pure q⟩
  | bl b => obtain rfl := hx.bl; exact ⟨_, rfl, post_pure q⟩
  | int i => obtain rfl := hx.int; exact ⟨_, rfl, post_pure q⟩
  | str y =>
    obtain rfl := hx.str
    unfold truth at q
    by_cases z : y.length ≤ sizeLine
    · simp only [if_pos z] at q
      exact ⟨_, ⟨z, rfl⟩, post_pure q⟩
    · simp only [if_neg z] at q
      exact False.elim q
  | tup xs =>
    obtain ⟨a, us, rfl, s, r⟩ := hx.tup w
    exact ⟨_, .inr (.inl ⟨us, s, r.isEmpty⟩), post_pure q⟩
  | lst xs =>
    obtain ⟨a, us, rfl, s, r⟩ := hx.lst w
    exact ⟨_, .inl ⟨us, SqL.of s, r.isEmpty⟩, post_pure q⟩
  | rls xs =>
    obtain ⟨a, us, rfl, s, r⟩ := hx.rls w
    exact ⟨_, .inl ⟨us, s, r.isEmpty⟩, post_pure q⟩
  | dct es => exact False.elim q
  | dcT es => exact False.elim q
  | rtp es => exact False.elim q
  | ref k =>
    obtain ⟨a, rfl, e⟩ := hx.ref
    obtain ⟨c, e2, r⟩ := w.at_ref e
    have q : ((getC k >>= fun c => match c with
      | .lst xs => pure (!xs.isEmpty)
      | _ => stuck) g.st).Post ok ex := q
    rw [bind_run] at q
    unfold getC at q
    rw [e2] at q
    cases c with
    | lst xs =>
      obtain ⟨us, s, r⟩ := r
      exact ⟨_, .inl ⟨us, SqL.of s, r.isEmpty⟩, post_pure q⟩
    | _ => exact False.elim q
theorem et_truth (ha : EL S ρ a ma) (he : ∀ (env : Env) (whole : Sem Value), isTrue a env whole = (do let v ← whole; standAt a.pos; holding [v] (truthy v))) : ET S ρ a (ma >>= truth) := fun Y ok =>
  (pt_truth (ha Y ok) (he _)).pre fun σ H Q ⟨F, g, E, q⟩ => rdX.bind E q fun x v g' H' s E' r q => by
    obtain ⟨k, t, q⟩ := truth_ok E'.wf r q
    exact ⟨k, t, q g' H' rfl s⟩
theorem ee_not (ha : EL S ρ a ma) : EE S ρ (.UnaryOp .Not a pos) (ma >>= truth >>= fun b => pure (.bl (!b))) := fun Y ok =>
  (pe_notT (ha Y ok)).pre fun σ H Q ⟨F, g, E, q⟩ => by
    rw [bind_assoc'] at q
    exact rdX.bind E q fun x v g' H' s E' r q => by
      obtain ⟨k, t, q⟩ := truth_ok E'.wf r (post_bind q)
      exact ⟨k, t, (post_pure q) (.bl (!k)) g' H' rfl s (.bl _)⟩
theorem et_not {m : M Bool} (ha : ET S ρ a m) : ET S ρ (.UnaryOp .Not a pos) (m >>= fun b => pure (!b)) := fun Y ok =>
  (pt_not (ha Y ok)).pre fun σ H Q ⟨F, g, E, q⟩ => rdT.bind E q fun b g' H' s E' q => (post_pure q) g' H' rfl s
variable {rest : List Expr} {t u : M Bool}
theorem ew_and1 (ha : ET S ρ a t) : EW S ρ (.BoolOp .And [a] pos) t := fun Y ok => pw_and1 (ha Y ok)
theorem ew_or1 (ha : ET S ρ a t) : EW S ρ (.BoolOp .Or [a] pos) t := fun Y ok => pw_or1 (ha Y ok)
theorem ew_and (ha : ET S ρ a t) (hb : EW S ρ (.BoolOp .And (b :: rest) pos) u) : EW S ρ (.BoolOp .And (a :: b :: rest) pos) (t >>= fun k => if k = true then u else pure false) := fun Y ok =>
  (pw_and (ha Y ok) (hb Y ok)).pre fun σ H Q ⟨F, g, E, q⟩ => rdT.bind E q fun b g' H' s E' q => by
    by_cases z : b = true
    · rw [if_pos z]
      rw [if_pos z] at q
      exact ⟨F, g', E', q.imp (fun b st' q g2 H2 e s2 => q g2 H2 e (s.trans E.wf s2)) fun _ _ q => q.back E.wf s⟩
    · rw [if_neg z]
      rw [if_neg z] at q
      exact (post_pure q) g' H' rfl s
theorem ew_or (ha : ET S ρ a t) (hb : EW S ρ (.BoolOp .Or (b :: rest) pos) u) : EW S ρ (.BoolOp .Or (a :: b :: rest) pos) (t >>= fun k => if k = true then pure true else u) := fun Y ok =>
  (pw_or (ha Y ok) (hb Y ok)).pre fun σ H Q ⟨F, g, E, q⟩ => rdT.bind E q fun b g' H' s E' q => by
    by_cases z : b = true
    · rw [if_pos z]
      rw [if_pos z] at q
      exact (post_pure q) g' H' rfl s
    · rw [if_neg z]
      rw [if_neg z] at q
      exact ⟨F, g', E', q.imp (fun b st' q g2 H2 e s2 => q g2 H2 e (s.trans E.wf s2)) fun _ _ q => q.back E.wf s⟩
theorem et_w (h : EW S ρ a t) : ET S ρ a t := fun Y ok => (h Y ok).pt
/-- and, or as values -/
theorem ee_one {op : BoolOp} (h : EX S ρ R a ma) : EX S ρ R (.BoolOp op [a] pos) ma := fun Y ok => pe_one (h Y ok)
theorem ee_and2 (ha : EE S ρ a ma) (hb : EE S ρ (.BoolOp .And (b :: rest) pos) mb) : EE S ρ (.BoolOp .And (a :: b :: rest) pos) (ma >>= fun x => truth x >>= fun k => if k = true then mb else pure x) := fun Y ok =>
  (pe_andT (ha Y ok) (hb Y ok)).pre fun σ H Q ⟨F, g, E, q⟩ => rdX.bind E q fun x v g' H' s E' r q => by
    obtain ⟨k, t, q⟩ := truth_ok E'.wf (.inl r) (post_bind q)
    refine ⟨k, t, ?_⟩
    by_cases z : k = true
    · rw [if_pos z]
      rw [if_pos z] at q
      exact ⟨F, g', E', q.imp (fun _ _ q => q.back back_RE E.wf s) fun _ _ q => q.back E.wf s⟩
    · rw [if_neg z]
      rw [if_neg z] at q
      exact (post_pure q) v g' H' rfl s r
theorem ee_or2 (ha : EE S ρ a ma) (hb : EE S ρ (.BoolOp .Or (b :: rest) pos) mb) : EE S ρ (.BoolOp .Or (a :: b :: rest) pos) (ma >>= fun x => truth x >>= fun k => if k = true then pure x else mb) := fun Y ok =>
  (pe_orT (ha Y ok) (hb Y ok)).pre fun σ H Q ⟨F, g, E, q⟩ => rdX.bind E q fun x v g' H' s E' r q => by
    obtain ⟨k, t, q⟩ := truth_ok E'.wf (.inl r) (post_bind q)
    refine ⟨k, t, ?_⟩
    by_cases z : k = true
    · rw [if_pos z]
      rw [if_pos z] at q
      exact (post_pure q) v g' H' rfl s r
    · rw [if_neg z]
      rw [if_neg z] at q
      exact ⟨F, g', E', q.imp (fun _ _ q => q.back back_RE E.wf s) fun _ _ q => q.back E.wf s⟩
theorem ex_if (hR : Back S.pg R) (hc : ET S ρ c t) (ha : EX S ρ R a ma) (hb : EX S ρ R b mb) : EX S ρ R (.IfExp c a b pos) (t >>= fun k => if k = true then ma else mb) := fun Y ok =>
  (pe_ifExp (hc Y ok) (ha Y ok) (hb Y ok)).pre fun σ H Q ⟨F, g, E, q⟩ => rdT.bind E q fun k g' H' s E' q => by
    by_cases z : k = true
    · rw [if_pos z]
      rw [if_pos z] at q
      exact ⟨F, g', E', q.imp (fun _ _ q => q.back hR E.wf s) fun _ _ q => q.back E.wf s⟩
    · rw [if_neg z]
      rw [if_neg z] at q
      exact ⟨F, g', E', q.imp (fun _ _ q => q.back hR E.wf s) fun _ _ q => q.back E.wf s⟩
/-! ### argument lists, displays -/
def items : D → M (List D)
  | .tup ds => pure ds
  | .lst ds => pure ds
  | .rls ds => pure ds
  | .rtp ds => pure ds
  | _ => stuck
variable {es : List Expr} {e : Expr} {m : M D} {ms : M (List D)} {spos : Pos}
theorem ea_nil : EA S ρ [] (pure []) := fun Y ok => pa_nil.pre fun σ H Q ⟨F, g, E, q⟩ => (post_pure q) [] g H rfl (.refl E.wf) .nil
theorem ea_cons (he : EE S ρ e m) (hr : EA S ρ es ms) (hs : ∀ env : Env, starEach (e :: es) env = (false, eval e env) :: starEach es env := by intro _; rfl) : EA S ρ (e :: es) (m >>= fun d => ms >>= fun ds => pure (d :: ds)) := fun Y ok =>
  (pa_cons (he Y ok) (hr Y ok) (hs _)).pre fun σ H Q ⟨F, g, E, q⟩ => rdX.bind E q fun x v g' H' s E' r q => rdA.bind E' (q.imp (fun _ _ q => q) fun _ _ q => q.back E.wf s) fun xs vs g2 H2 s2 E2 r2 q =>
    (post_pure q) (v :: vs) g2 H2 rfl (s.trans E.wf s2) (.cons (r.mono s2.gle s2.aml) r2)
theorem items_ok {p : Pg} {g : Gs} {H : Hp} {v : V} {x : D} {ok : List D → Store → Prop} {ex : Nat → Store → Prop} (w : Wf p g H) (hx : TopR p g H v x) (q : (items x g.st).Post ok ex) :
    ∃ a xs ds, v = .ref a ∧ (SqT p.K H a xs ∨ SqL p.K H a xs) ∧ p.Rps g xs ds ∧ ok ds g.st := by
  cases x with
  | tup ds => obtain ⟨a, us, rfl, s, r⟩ := hx.tup w; exact ⟨a, us, ds, rfl, .inl s, r, post_pure q⟩
  | lst ds => obtain ⟨a, us, rfl, s, r⟩ := hx.lst w; exact ⟨a, us, ds, rfl, .inr (SqL.of s), r, post_pure q⟩
  | rls ds => obtain ⟨a, us, rfl, s, r⟩ := hx.rls w; exact ⟨a, us, ds, rfl, .inr s, r, post_pure q⟩
  | rtp ds => obtain ⟨a, us, rfl, s, r⟩ := hx.rtp w; exact ⟨a, us, ds, rfl, .inl s, r, post_pure q⟩
  | _ => exact False.elim q
theorem ea_star (he : EL S ρ e m) (hr : EA S ρ es ms) : EA S ρ (.Starred e spos :: es) (m >>= fun d => items d >>= fun xs => ms >>= fun ds => pure (xs ++ ds)) := fun Y ok =>
  (StX.pa_star (X := S.cx Y) (he Y ok) (hr Y ok)).pre fun σ H Q ⟨F, g, E, q⟩ => rdX.bind E q fun x v g' H' s E' r q => by
    obtain ⟨a, us, ds, rfl, hq, rr, q⟩ := items_ok E'.wf r (post_bind q)
    exact ⟨a, us, rfl, hq, rdA.bind E' (q.imp (fun _ _ q => q) fun _ _ q => q.back E.wf s) fun xs vs g2 H2 s2 E2 r2 q =>
      (post_pure q) (us ++ vs) g2 H2 rfl (s.trans E.wf s2) ((rr.mono s2.gle s2.aml).append r2)⟩
def mkT (ds : List D) : M D := if ds.length ≤ sizeLine then pure (.tup ds) else stuck
def mkL (ds : List D) : M D := if ds.length ≤ sizeLine then pure (.lst ds) else stuck
theorem ee_tup {k : Nat} (h : EA S ρ es ms) : EE S ρ (.Tuple es k pos) (ms >>= mkT) := fun Y ok =>
  (pe_tup (h Y ok)).pre fun σ H Q ⟨F, g, E, q⟩ => rdA.bind E q fun ds vs g' H' s E' r q => by
    unfold mkT at q
    by_cases z : ds.length ≤ sizeLine
    · rw [if_pos z] at q
      refine ⟨by rw [r.length]; exact z, fun l hl => ?_⟩
      have s2 := Stp.new (o := .tup vs) E'.wf hl
      exact (post_pure q) _ { g' with G := upd g'.G l (.tup vs) } _ rfl (s.trans E.wf s2) (.tup upd_same (r.mono s2.gle s2.aml))
    · rw [if_neg z] at q
      exact False.elim q
theorem en_lst (h : EA S ρ es ms) : EN S ρ (.List es pos) (ms >>= mkL) := fun Y ok =>
  (pe_lst (h Y ok)).pre fun σ H Q ⟨F, g, E, q⟩ => rdA.bind E q fun ds vs g' H' s E' r q => by
    unfold mkL at q
    by_cases z : ds.length ≤ sizeLine
    · rw [if_pos z] at q
      refine ⟨by rw [r.length]; exact z, fun l hl => ?_⟩
      have s2 := Stp.laid (o := .lst vs) E'.wf hl
      exact (post_pure q) _ g' _ rfl (s.trans E.wf s2) ⟨l, rfl, ⟨_, upd_same, r⟩, E'.wf.freeG hl, E'.wf.freeA hl, s.none_of E.wf hl⟩
    · rw [if_neg z] at q
      exact False.elim q
end
end DL
namespace DL
open PySem PySem.Spec PyProof.Rows L2
/-! sorted of a tuple of ints -/
section
variable {prog : Program} {w : World} {A : Around} {E : Value → Shared → Prop} {s : Shared}
theorem gather_tup {l : Addr} {vs : List Value} {Q : List Value → Shared → Prop} (isT : s.heap.IsTuple l vs.toArray) (few : vs.length ≤ sizeLine)
    (done : Q vs { s with heap := (s.heap.push (seqObj "list" #[] 0)).update s.heap.objs.size (Obj.mapSeq (· ++ vs.toArray)) }) : wpAny (model prog w) A (collect (.ref l)) Q E s := by
  obtain ⟨ob, hob, hcl, n, hdt⟩ := id isT
  have h1 : (s.heap.push (seqObj "list" #[] 0)).get? l = some ob := Heap.get?_push_of_some _ hob
  have h2 : (s.heap.push (seqObj "list" #[] 0)).get? s.heap.objs.size = some (seqObj "list" #[] 0) := Heap.get?_push_size _ rfl
  have h3 : (#[] ++ vs.toArray).size ≤ sizeLine + 1 := by
    simp only [Array.size_append, List.size_toArray, List.length_nil]
    omega
  unfold collect
  refine wpAny_bind (wpAny_runValue (codeAny_builtin entry_proto_collect' ?_))
  change wpAny _ _ (do again (.builtin "list.__iadd__" ⟨[← newList [], .ref l], []⟩)) _ _ s
  refine wpAny_bind (wpAny_newList (wpAny_pure ⟨Code.quiet_builtin _ (by decide +kernel), codeAny_builtin entry_list_iadd' ?_⟩))
  change wpAny _ _ (Builtin.List.listExtendWith (.ref s.heap.objs.size) (.ref l) (.ref s.heap.objs.size)) _ _ { s with heap := s.heap.push (seqObj "list" #[] 0) }
  unfold Builtin.List.listExtendWith
  refine wpAny_bind (wpAny_typeOf (T := "tuple") ⟨ob, h1, hcl⟩ ?_)
  have ht : (Value.type "tuple" == Value.type "tuple") = true := by rfl
  rw [if_pos (by rw [ht]; simp)]
  refine wpAny_bind (listItems_at h1 hdt ?_)
  refine wpAny_bind (listItems_at (xs := #[]) (n := 0) h2 rfl ?_)
  rw [if_neg (by simp)]
  refine wpAny_bind (listUpdate_at (xs := #[]) (n := 0) h2 rfl (wpAny_pure ?_) (Nat.zero_le _) h3)
  change wpAny (model prog w) A (do
      let o ← load s.heap.objs.size
      match o.data with
      | .seq xs _ => pure xs.toList
      | _ => unsupported "internal:collect") Q E { s with heap := (s.heap.push (seqObj "list" #[] 0)).update s.heap.objs.size (Obj.mapSeq (· ++ vs.toArray)) }
  refine wpAny_bind (wpAny_load (get?_update_seq h2 _) ?_)
  have e : ((#[] : Array Value) ++ vs.toArray).toList = vs := by simp
  change wpAny _ _ (pure ((#[] : Array Value) ++ vs.toArray).toList) Q E _
  rw [e]
  exact wpAny_pure done
theorem sort_tup {l : Addr} {vs : List Value} {ns : List Int} {Q : Value → Shared → Prop} (isT : s.heap.IsTuple l vs.toArray) (hI : IntsAre vs ns) (few : vs.length ≤ sizeLine)
    (done : ∀ out : List Value, IntsAre out (out.map SrtO.iv) → (out.map SrtO.iv).Perm ns → (out.map SrtO.iv).Pairwise (· ≤ ·) → Q (.ref (s.heap.objs.size + 1)) { s with heap := sortedAll s.heap vs out.toArray }) :
    wpAny (model prog w) A (call (.builtin "sorted") [.ref l]) Q E s := by
  have e1 : ((s.heap.push (seqObj "list" #[] 0)).update s.heap.objs.size (Obj.mapSeq (· ++ vs.toArray))).objs.size = s.heap.objs.size + 1 := by
    rw [Heap.size_update, size_push']
  have e2 : (((s.heap.push (seqObj "list" #[] 0)).update s.heap.objs.size (Obj.mapSeq (· ++ vs.toArray))).push (seqObj "list" vs.toArray 0)).get? (s.heap.objs.size + 1) = some (seqObj "list" vs.toArray 0) := by
    rw [← e1]
    exact Heap.get?_push_size _ rfl
  refine Calls.call_function_entry kind_sorted plain_sorted entry_sorted (args_sorted1 _) ?_
  unfold Builtin.«sorted»
  refine wpAny_bind (m := checkCount "sorted" 1 1 _) (wpAny_pure (wpAny_bind (gather_tup isT few (wpAny_bind (wpAny_newList ?_ few)))))
  change wpAny _ _ _ _ _ { s with heap := ((s.heap.push (seqObj "list" #[] 0)).update s.heap.objs.size (Obj.mapSeq (· ++ vs.toArray))).push (seqObj "list" vs.toArray 0) }
  rw [e1]
  refine wpAny_bind (wpAny_holding (wpAny_call_entry slot_list_sort ⟨_, e2, rfl⟩ entry_list_sort
    (SrtO.list_sort_ord SrtO.swo_int (s := { s with heap := ((s.heap.push (seqObj "list" #[] 0)).update s.heap.objs.size (Obj.mapSeq (· ++ vs.toArray))).push (seqObj "list" vs.toArray 0) }) e2 few (fun h2 => SrtO.ints_sortable hI h2) fun out h1 h2 => ⟨_, rfl, ?_⟩) (args_list_sort _)))
  obtain ⟨k1, k2, k3⟩ := SrtO.ints_out hI h1 h2
  exact wpAny_pure ⟨_, rfl, done out k1 k2 k3⟩
end
/-- sorted of ints, of a list or of a tuple -/
def rSortA (K : PySem.W.Frag) : List V → Hp → VK → Prop := fun vs H Q => ∃ (a : Addr) (ns : List Int), vs = [V.ref a] ∧ (SqL K H a (ns.map V.int) ∨ SqT K H a (ns.map V.int)) ∧
  ∀ (ns' : List Int) (p : Addr), ns'.Perm ns → ns'.Pairwise (· ≤ ·) → H p = none → Q (.ref p) (upd H p (.lst (ns'.map V.int)))
section
variable {X : Cx}
theorem cr_sortA : CallR X (.builtin "sorted") (rSortA X.K) := by
  intro pins s σ H vs us Q I r h
  obtain ⟨a, ns, rfl, hs | hs, q⟩ := h
  · exact cr_sortedI pins s σ H [V.ref a] us Q I r ⟨a, ns, rfl, hs, q⟩
  · obtain ⟨its, rv, pl, few⟩ := I.tuple hs
    rw [Vals.ref1 r]
    have hi := rv.ints
    refine sort_tup pl hi (by rw [← rv.length]; exact few) fun out k1 k2 k3 => ?_
    obtain ⟨c, hc⟩ := PyProof.Rows.sortedAll_at s.heap its out.toArray
    have len : ((out.map SrtO.iv).map V.int).length ≤ sizeLine := by
      rw [List.length_map, k2.length_eq]
      rw [List.length_map] at few
      exact few
    exact ⟨.ref _, upd H (s.heap.objs.size + 1) (.lst ((out.map SrtO.iv).map V.int)), I.laid (t' := s.toks) (fun _ _ => PyProof.Rows.sortedAll_old) (Nat.le_succ _) ⟨len, out, c, vals_of_ints k1, hc⟩, rfl, q _ _ k2 k3 (I.hok.fresh (Nat.le_succ _))⟩
end
/-! ### subscripts -/
def ixL (ds : List D) (i : Int) : M D := match atI ds i with
  | some d => pure d
  | none => stuck
def ixD : D → D → M D
  | .tup ds, .int i => ixL ds i
  | .lst ds, .int i => ixL ds i
  | .rls ds, .int i => ixL ds i
  | .rtp ds, .int i => ixL ds i
  | .ref k, .int i => getC k >>= fun c => match c with
    | .lst ds => ixL ds i
    | _ => stuck
  | _, _ => stuck
theorem Rps.atI {K : PySem.W.Frag} {G : Hp} {am : List Addr} {vs : List V} {ds : List D} {i : Int} {d : D} (r : DL.Rps K G am vs ds) (h : L2.atI ds i = some d) : ∃ v, L2.atI vs i = some v ∧ DL.Rp K G am v d := by
  unfold L2.atI at h ⊢
  rw [r.length]
  cases e : ixN ds.length i with
  | none => rw [e] at h; cases h
  | some j =>
    rw [e] at h
    exact r.get h
section
variable {S : Sta} {ρ : Ev} {a b c : Expr} {ma mb mc : M D} {pos : Pos} {R : Rel}
theorem ixL_post {ds : List D} {i : Int} {s : Store} {ok : D → Store → Prop} {ex : Nat → Store → Prop} (q : (ixL ds i s).Post ok ex) : ∃ d, L2.atI ds i = some d ∧ ok d s := by
  unfold ixL at q
  cases e : L2.atI ds i with
  | none => rw [e] at q; exact False.elim q
  | some d => rw [e] at q; exact ⟨d, rfl, q⟩
def rIxA (K : PySem.W.Frag) : R2 := fun x y H Q => rIxL K x y H Q ∨ rIxT K x y H Q
theorem op_ixD {p : Pg} : Op2 p (rIxA p.K) ixD (RE p) := by
  intro g H x y vx vy Q E w hx hy q
  cases y with
  | int i =>
    obtain rfl := hy.int
    cases x with
    | tup ds =>
      obtain ⟨a, us, rfl, s, r⟩ := hx.tup w
      obtain ⟨d, e, q⟩ := ixL_post q
      obtain ⟨v, ev, rv⟩ := r.atI e
      exact .inr ⟨a, us, i, v, rfl, rfl, s, ev, Pv.now w q rv⟩
    | rtp ds =>
      obtain ⟨a, us, rfl, s, r⟩ := hx.rtp w
      obtain ⟨d, e, q⟩ := ixL_post q
      obtain ⟨v, ev, rv⟩ := r.atI e
      exact .inr ⟨a, us, i, v, rfl, rfl, s, ev, Pv.now w q rv⟩
    | lst ds =>
      obtain ⟨a, us, rfl, s, r⟩ := hx.lst w
      obtain ⟨d, e, q⟩ := ixL_post q
      obtain ⟨v, ev, rv⟩ := r.atI e
      exact .inl ⟨a, us, i, v, rfl, rfl, SqL.of s, ev, Pv.now w q rv⟩
    | rls ds =>
      obtain ⟨a, us, rfl, s, r⟩ := hx.rls w
      obtain ⟨d, e, q⟩ := ixL_post q
      obtain ⟨v, ev, rv⟩ := r.atI e
      exact .inl ⟨a, us, i, v, rfl, rfl, s, ev, Pv.now w q rv⟩
    | ref k =>
      obtain ⟨a, rfl, e⟩ := hx.ref
      obtain ⟨c, e2, r⟩ := w.at_ref e
      have q : ((getC k >>= fun c => match c with
        | .lst ds => ixL ds i
        | _ => stuck) g.st).Post (Pv p (RE p) g H Q) E := q
      rw [bind_run] at q
      unfold getC at q
      rw [e2] at q
      cases c with
      | lst ds =>
        obtain ⟨us, s, r⟩ := r
        obtain ⟨d, e, q⟩ := ixL_post q
        obtain ⟨v, ev, rv⟩ := r.atI e
        exact .inl ⟨a, us, i, v, rfl, rfl, SqL.of s, ev, Pv.now w q rv⟩
      | _ => exact False.elim q
    | _ => exact False.elim q
  | _ => cases x <;> exact False.elim q
theorem ee_ix (ha : EL S ρ a ma) (hb : EL S ρ b mb) (hs : PlainIx b) : EE S ρ (.Subscript a b pos) (ma >>= fun x => mb >>= fun y => ixD x y) :=
  ex_bin back_RE ha hb (fun Y ok ta tb h1 h2 => pe_ix (IxR.or ix_list ix_tup) h1 h2 hs) op_ixD
/-! ### slices -/
/-- a slice's part -/
def EO (S : Sta) (ρ : Ev) (e : Option Expr) (m : M (Option Int)) : Prop := ∀ Y, OkY S Y → PO (S.cx Y) e (fun σ H Q => ∃ F g, ER S.pg F ρ σ g H ∧ (m g.st).Post (fun o st' => ∀ g' H', g'.st = st' → Stp S.pg g H g' H' → Q o H') (Px S Y g H))
def intM : D → M (Option Int)
  | .int i => pure (some i)
  | _ => stuck
theorem PO_pre {X : Cx} {e : Option Expr} {t t' : TO} (h : PO X e t) (k : ∀ σ H Q, t' σ H Q → t σ H Q) : PO X e t' :=
  ⟨fun pins s σ H Q I q => h.run pins s σ H Q I (k σ H Q q)⟩
theorem eo_none : EO S ρ none (pure none) := fun Y ok => PO_pre po_none fun σ H Q ⟨F, g, E, q⟩ => (post_pure q) g H rfl (.refl E.wf)
theorem eo_some (ha : EL S ρ a ma) : EO S ρ (some a) (ma >>= intM) := fun Y ok => PO_pre (po_some (ha Y ok)) fun σ H Q ⟨F, g, E, q⟩ => rdX.bind E q fun x v g' H' s E' r q => by
  cases x with
  | int i =>
    obtain rfl := r.int
    exact ⟨i, rfl, (post_pure q) g' H' rfl s⟩
  | _ => exact False.elim q
/-- the items of xs[lo:hi] -/
def cut {α : Type} (xs : List α) (lo hi : Option Int) : List α := (xs.drop (HT.sIx xs.length 0 lo)).take (HT.sIx xs.length xs.length hi - HT.sIx xs.length 0 lo)
def slT (lo hi : Option Int) : D → M D
  | .tup ds => pure (.tup (cut ds lo hi))
  | _ => stuck
def slL (lo hi : Option Int) : D → M D
  | .lst ds => pure (.lst (cut ds lo hi))
  | .rls ds => pure (.lst (cut ds lo hi))
  | _ => stuck
theorem Rps.cut {K : PySem.W.Frag} {G : Hp} {am : List Addr} {vs : List V} {ds : List D} (r : DL.Rps K G am vs ds) (lo hi : Option Int) : DL.Rps K G am (cutV vs lo hi) (DL.cut ds lo hi) := by
  unfold cutV DL.cut
  rw [r.length]
  exact (r.drop _).take _
variable {lo hi : Option Expr} {ml mh : M (Option Int)} {p2 : Pos}
theorem sl_core {r : V → Option Int → Option Int → Hp → VK → Prop} {f : Option Int → Option Int → D → M D} (hR : Back S.pg R) (ha : EL S ρ a ma) (hl : EO S ρ lo ml) (hh : EO S ρ hi mh) (hr : ∀ Y : Dyn, SlR (S.cx Y) r)
    (ho : ∀ (g : Gs) (H : Hp) (x : D) (vx : V) (l h : Option Int) (Q : VK) (E : Nat → Store → Prop), Wf S.pg g H → TopR S.pg g H vx x → (f l h x g.st).Post (Pv S.pg R g H Q) E → r vx l h H Q) :
    EX S ρ R (.Subscript a (.Slice lo hi none p2) pos) (ma >>= fun x => ml >>= fun l => mh >>= fun h => f l h x) := fun Y ok =>
  (pe_slice (hr Y) (ha Y ok) (hl Y ok) (hh Y ok)).pre fun σ H Q ⟨F, g, E, q⟩ => rdX.bind E q fun x v g' H' s E' r q =>
    ⟨F, g', E', (post_bind q).imp (fun l st' q g2 H2 e s2 => by
      subst e
      have E2 := E'.step s2
      exact ⟨F, g2, E2, (post_bind q).imp (fun h st' q g3 H3 e s3 => by
        subst e
        have s5 := (s.trans E.wf s2).trans E.wf s3
        exact ho g3 H3 x v l h Q _ (E2.step s3).wf ((r.step E'.wf s2).step E2.wf s3) (q.imp (fun _ _ q => q.back hR E.wf s5) fun _ _ q => q)) fun _ _ q => q.back E.wf (s.trans E.wf s2)⟩) fun _ _ q => q.back E.wf s⟩
theorem ee_slT (ha : EL S ρ a ma) (hl : EO S ρ lo ml) (hh : EO S ρ hi mh) : EE S ρ (.Subscript a (.Slice lo hi none p2) pos) (ma >>= fun x => ml >>= fun l => mh >>= fun h => slT l h x) :=
  sl_core (r := rSlA S.pg.K) back_RE ha hl hh (fun Y => sl_tupA (X := S.cx Y)) fun g H x vx l h Q E w hx q => by
    cases x with
    | tup ds =>
      have q := post_pure q
      have hx2 := hx.cases fun _ o => o
      obtain ⟨a, us, rfl, s, r⟩ := hx.tup w
      have hlen := r.length
      refine ⟨a, us, rfl, s, fun z => Pv.now w q ?_, fun z l2 hl => ?_⟩
      · have e : cut ds l h = ds := by
          unfold cut
          rw [← hlen, z.1, z.2, List.drop_zero, Nat.sub_zero, hlen, List.take_length]
        rw [e]
        exact hx2
      · have s2 := Stp.new (o := .tup (cutV us l h)) w hl
        exact q _ { g with G := upd g.G l2 (.tup (cutV us l h)) } _ rfl s2 (.tup upd_same ((r.cut l h).mono s2.gle s2.aml))
    | _ => exact False.elim q
theorem en_slL (ha : EL S ρ a ma) (hl : EO S ρ lo ml) (hh : EO S ρ hi mh) : EN S ρ (.Subscript a (.Slice lo hi none p2) pos) (ma >>= fun x => ml >>= fun l => mh >>= fun h => slL l h x) :=
  sl_core (r := rSlL S.pg.K) back_RN ha hl hh (fun Y => sl_list (X := S.cx Y)) fun g H x vx l h Q E w hx q => by
    have core : ∀ (a : Addr) (us : List V) (ds : List D), SqL S.pg.K H a us → S.pg.Rps g us ds → Pv S.pg (RN S.pg) g H Q (.lst (cut ds l h)) g.st → rSlL S.pg.K (.ref a) l h H Q := fun a us ds s r q =>
      ⟨a, us, rfl, s, fun l2 hl => q _ g _ rfl (Stp.laid w hl) ⟨l2, rfl, ⟨_, upd_same, r.cut l h⟩, w.freeG hl, w.freeA hl, hl⟩⟩
    cases x with
    | lst ds =>
      obtain ⟨a, us, rfl, s, r⟩ := hx.lst w
      exact core a us ds (SqL.of s) r (post_pure q)
    | rls ds =>
      obtain ⟨a, us, rfl, s, r⟩ := hx.rls w
      exact core a us ds s r (post_pure q)
    | _ => exact False.elim q
/-! ### calls of built-ins -/
/-- a call with one value -/
def Op1C (p : Pg) (r : List V → Hp → VK → Prop) (f : D → M D) (R : Rel) : Prop := ∀ (g : Gs) (H : Hp) (x : D) (vx : V) (Q : VK) (E : Nat → Store → Prop), Wf p g H → TopR p g H vx x → (f x g.st).Post (Pv p R g H Q) E → r [vx] H Q
def Op2C (p : Pg) (r : List V → Hp → VK → Prop) (f : D → D → M D) (R : Rel) : Prop := ∀ (g : Gs) (H : Hp) (x y : D) (vx vy : V) (Q : VK) (E : Nat → Store → Prop), Wf p g H → TopR p g H vx x → TopR p g H vy y → (f x y g.st).Post (Pv p R g H Q) E → r [vx, vy] H Q
/-- a built-in, found by its name -/
structure Blt (S : Sta) (x : Str) (u : Value) : Prop where
  gl : S.sc.names.lookup x = some .globalImplicit
  mg : S.pg.mg x = none
  boot : bootBuiltins x = some u
  n1 : x ≠ "__name__"
  n2 : (x == ("__debug__" : Str)) = false
theorem Blt.mk' {x : Str} {u : Value} (gl : S.sc.names.lookup x = some .globalImplicit) (mg : S.pg.mg x = none) (boot : bootBuiltins x = some u) (n1 : x ≠ "__name__" := by decide) (n2 : (x == ("__debug__" : Str)) = false := by decide) : Blt S x u := ⟨gl, mg, boot, n1, n2⟩
def NoStar (es : List Expr) : Prop := ∀ env : Env, starEach es env = es.map fun e => (false, eval e env)
variable {x : Str} {bid T : String} {p : Pos}
theorem ex_b1 {r : List V → Hp → VK → Prop} {f : D → M D} (hR : Back S.pg R) (hc : ∀ Y : Dyn, OkY S Y → CallR (S.cx Y) (.builtin bid) r) (ho : Op1C S.pg r f R) (B : Blt S x (.builtin bid)) (ha : EL S ρ a ma) (hs : NoStar [a] := by intro _; rfl) :
    EX S ρ R (.Call (.Name x p) [a] [] pos) (ma >>= f) := fun Y ok =>
  (pe_callB (X := S.cx Y) (hc Y ok) B.gl B.mg B.boot (pa_cons (ha Y ok) pa_nil (hs _)) B.n1 B.n2 (hs _) rfl).pre fun σ H Q ⟨F, g, E, q⟩ =>
    rdX.bind E q fun x v g' H' s E' r q => ho g' H' x v Q _ E'.wf r (q.imp (fun _ _ q => q.back hR E.wf s) fun _ _ q => q)
theorem ex_t1 {r : List V → Hp → VK → Prop} {f : D → M D} (hR : Back S.pg R) (hc : ∀ Y : Dyn, OkY S Y → CallR (S.cx Y) (.type T) r) (ho : Op1C S.pg r f R) (B : Blt S x (.type T)) (ha : EL S ρ a ma) (hs : NoStar [a] := by intro _; rfl) :
    EX S ρ R (.Call (.Name x p) [a] [] pos) (ma >>= f) := fun Y ok =>
  (pe_callTy (X := S.cx Y) (hc Y ok) B.gl B.mg B.boot (pa_cons (ha Y ok) pa_nil (hs _)) B.n1 B.n2 (hs _) rfl).pre fun σ H Q ⟨F, g, E, q⟩ =>
    rdX.bind E q fun x v g' H' s E' r q => ho g' H' x v Q _ E'.wf r (q.imp (fun _ _ q => q.back hR E.wf s) fun _ _ q => q)
theorem ex_b2 {r : List V → Hp → VK → Prop} {f : D → D → M D} (hR : Back S.pg R) (hc : ∀ Y : Dyn, OkY S Y → CallR (S.cx Y) (.builtin bid) r) (ho : Op2C S.pg r f R) (B : Blt S x (.builtin bid)) (ha : EL S ρ a ma) (hb : EL S ρ b mb)
    (hs : NoStar [a, b] := by intro _; rfl) (hs2 : NoStar [b] := by intro _; rfl) : EX S ρ R (.Call (.Name x p) [a, b] [] pos) (ma >>= fun x => mb >>= fun y => f x y) := fun Y ok =>
  (pe_callB (X := S.cx Y) (hc Y ok) B.gl B.mg B.boot (pa_cons (ha Y ok) (pa_cons (hb Y ok) pa_nil (hs2 _)) (by rw [hs2 _]; exact hs _)) B.n1 B.n2 (by rw [hs2 _]; exact hs _) (by rw [hs2 _]; rfl)).pre fun σ H Q ⟨F, g, E, q⟩ =>
    rdX.bind E q fun x v g' H' s E' r q => rdX.bind E' (q.imp (fun _ _ q => q) fun _ _ q => q.back E.wf s) fun y u g2 H2 s2 E2 r2 q =>
      ho g2 H2 x y v u Q _ E2.wf (r.step E'.wf s2) r2 (q.imp (fun _ _ q => q.back hR E.wf (s.trans E.wf s2)) fun _ _ q => q)
/-! len -/
def lenD : D → M D
  | .tup ds => pure (.int ds.length)
  | .rtp ds => pure (.int ds.length)
  | .lst ds => pure (.int ds.length)
  | .rls ds => pure (.int ds.length)
  | .ref k => getC k >>= fun c => match c with
    | .lst ds => pure (.int ds.length)
    | _ => stuck
  | _ => stuck
theorem op_lenD {p : Pg} : Op1C p (fun xs H Q => ∃ q ys, xs = [.ref q] ∧ (SqL p.K H q ys ∨ SqT p.K H q ys) ∧ Q (.int ys.length) H) lenD (RE p) := by
  intro g H x vx Q E w hx q
  have fin : ∀ {us : List V} {ds : List D}, p.Rps g us ds → Pv p (RE p) g H Q (.int ds.length) g.st → Q (.int us.length) H := fun {us ds} r q => Pv.now w q (by rw [← r.length]; exact .int _)
  cases x with
  | tup ds =>
    obtain ⟨a, us, rfl, s, r⟩ := hx.tup w
    exact ⟨a, us, rfl, .inr s, fin r (post_pure q)⟩
  | rtp ds =>
    obtain ⟨a, us, rfl, s, r⟩ := hx.rtp w
    exact ⟨a, us, rfl, .inr s, fin r (post_pure q)⟩
  | lst ds =>
    obtain ⟨a, us, rfl, s, r⟩ := hx.lst w
    exact ⟨a, us, rfl, .inl (SqL.of s), fin r (post_pure q)⟩
  | rls ds =>
    obtain ⟨a, us, rfl, s, r⟩ := hx.rls w
    exact ⟨a, us, rfl, .inl s, fin r (post_pure q)⟩
  | ref k =>
    obtain ⟨a, rfl, e⟩ := hx.ref
    obtain ⟨c, e2, r⟩ := w.at_ref e
    have q : ((getC k >>= fun c => match c with
      | .lst ds => pure (.int ds.length)
      | _ => stuck) g.st).Post (Pv p (RE p) g H Q) E := q
    rw [bind_run] at q
    unfold getC at q
    rw [e2] at q
    cases c with
    | lst ds =>
      obtain ⟨us, s, r⟩ := r
      exact ⟨a, us, rfl, .inl (SqL.of s), fin r (post_pure q)⟩
    | _ => exact False.elim q
  | _ => exact False.elim q
theorem ee_len (B : Blt S "len" (.builtin "len")) (ha : EL S ρ a ma) (hs : NoStar [a] := by intro _; rfl) : EE S ρ (.Call (.Name "len" p) [a] [] pos) (ma >>= lenD) :=
  ex_b1 back_RE (fun Y _ => call_len_seq) op_lenD B ha hs
/-! sum, any, all, max, min, sorted of lists of ints, of truths -/
def sumD : D → M D
  | .lst ds => match dints ds with
    | some ns => pure (.int ns.sum)
    | none => stuck
  | _ => stuck
def anyD : D → M D
  | .lst ds => match dbools ds with
    | some bs => pure (.bl (bs.any id))
    | none => stuck
  | _ => stuck
def allD : D → M D
  | .lst ds => match dbools ds with
    | some bs => pure (.bl (bs.all id))
    | none => stuck
  | _ => stuck
def maxI : List Int → Int
  | [] => 0
  | [x] => x
  | x :: r => max x (maxI r)
def minI : List Int → Int
  | [] => 0
  | [x] => x
  | x :: r => min x (minI r)
def maxD : D → M D
  | .lst ds => match dints ds with
    | some ns => if ns.isEmpty then stuck else pure (.int (maxI ns))
    | none => stuck
  | _ => stuck
def minD : D → M D
  | .lst ds => match dints ds with
    | some ns => if ns.isEmpty then stuck else pure (.int (minI ns))
    | none => stuck
  | _ => stuck
theorem maxI_cons (x y : Int) (r : List Int) : maxI (x :: y :: r) = max x (maxI (y :: r)) := rfl
theorem minI_cons (x y : Int) (r : List Int) : minI (x :: y :: r) = min x (minI (y :: r)) := rfl
theorem maxI_mem : ∀ {ns : List Int}, ns ≠ [] → maxI ns ∈ ns
  | [], h => absurd rfl h
  | [x], _ => List.mem_cons_self
  | x :: y :: r, _ => by
    have ih := maxI_mem (ns := y :: r) (List.cons_ne_nil _ _)
    rw [maxI_cons]
    by_cases h : x ≤ maxI (y :: r)
    · rw [Int.max_eq_right h]; exact List.mem_cons_of_mem _ ih
    · rw [Int.max_eq_left (by omega)]; exact List.mem_cons_self
theorem maxI_ge : ∀ {ns : List Int} {a : Int}, a ∈ ns → a ≤ maxI ns
  | [x], a, h => by rw [List.mem_singleton.mp h]; exact Int.le_refl _
  | x :: y :: r, a, h => by
    rw [maxI_cons]
    rcases List.mem_cons.mp h with e | h
    · rw [e]; omega
    · have := maxI_ge h; omega
theorem minI_mem : ∀ {ns : List Int}, ns ≠ [] → minI ns ∈ ns
  | [], h => absurd rfl h
  | [x], _ => List.mem_cons_self
  | x :: y :: r, _ => by
    have ih := minI_mem (ns := y :: r) (List.cons_ne_nil _ _)
    rw [minI_cons]
    by_cases h : x ≤ minI (y :: r)
    · rw [Int.min_eq_left h]; exact List.mem_cons_self
    · rw [Int.min_eq_right (by omega)]; exact List.mem_cons_of_mem _ ih
theorem minI_le : ∀ {ns : List Int} {a : Int}, a ∈ ns → minI ns ≤ a
  | [x], a, h => by rw [List.mem_singleton.mp h]; exact Int.le_refl _
  | x :: y :: r, a, h => by
    rw [minI_cons]
    rcases List.mem_cons.mp h with e | h
    · rw [e]; omega
    · have := minI_le h; omega
/-- a list of ints, read -/
theorem lst_ints {p : Pg} {g : Gs} {H : Hp} {v : V} {ds : List D} {ns : List Int} (w : Wf p g H) (hx : TopR p g H v (.lst ds)) (e : dints ds = some ns) : ∃ a, v = .ref a ∧ SqL p.K H a (ns.map V.int) ∧ H a = some (.lst (ns.map V.int)) := by
  obtain ⟨a, us, rfl, s, r⟩ := hx.lst w
  rw [ints_eq e] at r
  have := r.toInts
  subst this
  exact ⟨a, rfl, SqL.of s, s⟩
theorem lst_bools {p : Pg} {g : Gs} {H : Hp} {v : V} {ds : List D} {ns : List Bool} (w : Wf p g H) (hx : TopR p g H v (.lst ds)) (e : dbools ds = some ns) : ∃ a, v = .ref a ∧ SqL p.K H a (ns.map V.bl) := by
  obtain ⟨a, us, rfl, s, r⟩ := hx.lst w
  rw [bools_eq e] at r
  have := r.toBools
  subst this
  exact ⟨a, rfl, SqL.of s⟩
theorem op_sumD {p : Pg} : Op1C p (rSum p.K) sumD (RE p) := by
  intro g H x vx Q E w hx q
  cases x with
  | lst ds =>
    unfold sumD at q
    cases e : dints ds with
    | none => simp only [e] at q; exact False.elim q
    | some ns =>
      simp only [e] at q
      obtain ⟨a, rfl, s, _⟩ := lst_ints w hx e
      exact ⟨a, ns, rfl, s, Pv.now w (post_pure q) (.int _)⟩
  | _ => exact False.elim q
theorem op_anyD {p : Pg} : Op1C p (rAny p.K) anyD (RE p) := by
  intro g H x vx Q E w hx q
  cases x with
  | lst ds =>
    unfold anyD at q
    cases e : dbools ds with
    | none => simp only [e] at q; exact False.elim q
    | some ns =>
      simp only [e] at q
      obtain ⟨a, rfl, s⟩ := lst_bools w hx e
      exact ⟨a, ns, rfl, s, Pv.now w (post_pure q) (.bl _)⟩
  | _ => exact False.elim q
theorem op_allD {p : Pg} : Op1C p (rAll p.K) allD (RE p) := by
  intro g H x vx Q E w hx q
  cases x with
  | lst ds =>
    unfold allD at q
    cases e : dbools ds with
    | none => simp only [e] at q; exact False.elim q
    | some ns =>
      simp only [e] at q
      obtain ⟨a, rfl, s⟩ := lst_bools w hx e
      exact ⟨a, ns, rfl, s, Pv.now w (post_pure q) (.bl _)⟩
  | _ => exact False.elim q
theorem op_maxD {p : Pg} : Op1C p (rMax p.K) maxD (RE p) := by
  intro g H x vx Q E w hx q
  cases x with
  | lst ds =>
    unfold maxD at q
    cases e : dints ds with
    | none => simp only [e] at q; exact False.elim q
    | some ns =>
      simp only [e] at q
      cases ns with
      | nil => exact False.elim q
      | cons n r =>
        obtain ⟨a, rfl, s, _⟩ := lst_ints w hx e
        refine ⟨a, n :: r, rfl, s, Nat.succ_pos _, fun m hm hle => ?_⟩
        have e2 : m = maxI (n :: r) := Int.le_antisymm (maxI_ge hm) (hle _ (maxI_mem (List.cons_ne_nil _ _)))
        rw [e2]
        exact Pv.now w (post_pure q) (.int _)
  | _ => exact False.elim q
theorem op_minD {p : Pg} : Op1C p (rMin p.K) minD (RE p) := by
  intro g H x vx Q E w hx q
  cases x with
  | lst ds =>
    unfold minD at q
    cases e : dints ds with
    | none => simp only [e] at q; exact False.elim q
    | some ns =>
      simp only [e] at q
      cases ns with
      | nil => exact False.elim q
      | cons n r =>
        obtain ⟨a, rfl, s, _⟩ := lst_ints w hx e
        refine ⟨a, n :: r, rfl, s, Nat.succ_pos _, fun m hm hle => ?_⟩
        have e2 : m = minI (n :: r) := Int.le_antisymm (hle _ (minI_mem (List.cons_ne_nil _ _))) (minI_le hm)
        rw [e2]
        exact Pv.now w (post_pure q) (.int _)
  | _ => exact False.elim q
theorem ee_sum (B : Blt S "sum" (.builtin "sum")) (ha : EL S ρ a ma) (hs : NoStar [a] := by intro _; rfl) : EE S ρ (.Call (.Name "sum" p) [a] [] pos) (ma >>= sumD) := ex_b1 back_RE (fun Y _ => cr_sum rfl) op_sumD B ha hs
theorem ee_any (B : Blt S "any" (.builtin "any")) (ha : EL S ρ a ma) (hs : NoStar [a] := by intro _; rfl) : EE S ρ (.Call (.Name "any" p) [a] [] pos) (ma >>= anyD) := ex_b1 back_RE (fun Y _ => cr_any rfl) op_anyD B ha hs
theorem ee_all (B : Blt S "all" (.builtin "all")) (ha : EL S ρ a ma) (hs : NoStar [a] := by intro _; rfl) : EE S ρ (.Call (.Name "all" p) [a] [] pos) (ma >>= allD) := ex_b1 back_RE (fun Y _ => cr_all rfl) op_allD B ha hs
theorem ee_max (B : Blt S "max" (.builtin "max")) (ha : EL S ρ a ma) (hs : NoStar [a] := by intro _; rfl) : EE S ρ (.Call (.Name "max" p) [a] [] pos) (ma >>= maxD) := ex_b1 back_RE (fun Y _ => cr_max rfl) op_maxD B ha hs
theorem ee_min (B : Blt S "min" (.builtin "min")) (ha : EL S ρ a ma) (hs : NoStar [a] := by intro _; rfl) : EE S ρ (.Call (.Name "min" p) [a] [] pos) (ma >>= minD) := ex_b1 back_RE (fun Y _ => cr_min rfl) op_minD B ha hs
def max2D := i2 fun i j => if j > i then j else i
def min2D := i2 fun i j => if j < i then j else i
theorem op_i2C {h : Int → Int → Int} {r : List V → Hp → VK → Prop} {p : Pg} (hr : ∀ (i j : Int) (H : Hp) (Q : VK), Q (.int (h i j)) H → r [.int i, .int j] H Q) : Op2C p r (i2 h) (RE p) := by
  intro g H x y vx vy Q E w hx hy q
  cases x with
  | int i =>
    cases y with
    | int j =>
      obtain rfl := hx.int
      obtain rfl := hy.int
      exact hr i j H Q (Pv.now w (post_pure q) (.int _))
    | _ => exact False.elim q
  | _ => exact False.elim q
theorem ee_max2 (B : Blt S "max" (.builtin "max")) (ha : EL S ρ a ma) (hb : EL S ρ b mb) (hs : NoStar [a, b] := by intro _; rfl) (hs2 : NoStar [b] := by intro _; rfl) : EE S ρ (.Call (.Name "max" p) [a, b] [] pos) (ma >>= fun x => mb >>= fun y => max2D x y) :=
  ex_b2 back_RE (fun Y _ => call_max2 rfl) (op_i2C fun i j H Q q => ⟨i, j, rfl, q⟩) B ha hb hs hs2
theorem ee_min2 (B : Blt S "min" (.builtin "min")) (ha : EL S ρ a ma) (hb : EL S ρ b mb) (hs : NoStar [a, b] := by intro _; rfl) (hs2 : NoStar [b] := by intro _; rfl) : EE S ρ (.Call (.Name "min" p) [a, b] [] pos) (ma >>= fun x => mb >>= fun y => min2D x y) :=
  ex_b2 back_RE (fun Y _ => call_min2 rfl) (op_i2C fun i j H Q q => ⟨i, j, rfl, q⟩) B ha hb hs hs2
/-! int, abs -/
def intD : D → M D
  | .int i => pure (.int i)
  | .bl k => pure (.int (if k then 1 else 0))
  | _ => stuck
def absD : D → M D
  | .int i => pure (.int (if i < 0 then -i else i))
  | _ => stuck
theorem ee_intc (B : Blt S "int" (.type "int")) (ha : EL S ρ a ma) (hs : NoStar [a] := by intro _; rfl) : EE S ρ (.Call (.Name "int" p) [a] [] pos) (ma >>= intD) := ex_t1 back_RE (fun Y _ => call_int1) (fun g H x vx Q E w hx q => by
  cases x with
  | int i => obtain rfl := hx.int; exact .inl ⟨i, rfl, Pv.now w (post_pure q) (.int _)⟩
  | bl k => obtain rfl := hx.bl; exact .inr ⟨k, rfl, Pv.now w (post_pure q) (.int _)⟩
  | _ => exact False.elim q) B ha hs
theorem ee_abs (B : Blt S "abs" (.builtin "abs")) (ha : EL S ρ a ma) (hs : NoStar [a] := by intro _; rfl) : EE S ρ (.Call (.Name "abs" p) [a] [] pos) (ma >>= absD) := ex_b1 back_RE (fun Y _ => call_abs) (fun g H x vx Q E w hx q => by
  cases x with
  | int i => obtain rfl := hx.int; exact ⟨i, rfl, Pv.now w (post_pure q) (.int _)⟩
  | _ => exact False.elim q) B ha hs
/-! tuple, list -/
def tupleD : D → M D
  | .tup ds => pure (.tup ds)
  | .lst ds => pure (.tup ds)
  | .rls ds => pure (.tup ds)
  | .ref k => getC k >>= fun c => match c with
    | .lst ds => pure (.tup ds)
    | _ => stuck
  | _ => stuck
def listD : D → M D
  | .tup ds => pure (.lst ds)
  | .rtp ds => pure (.lst ds)
  | .lst ds => pure (.lst ds)
  | .rls ds => pure (.lst ds)
  | _ => stuck
theorem op_tupleD {p : Pg} : Op1C p (fun xs H Q => ∃ q ys, xs = [.ref q] ∧ ((SqL p.K H q ys ∧ ∀ l, H l = none → Q (.ref l) (upd H l (.tup ys))) ∨ (SqT p.K H q ys ∧ Q (.ref q) H))) tupleD (RE p) := by
  intro g H x vx Q E w hx q
  have fin : ∀ {us : List V} {ds : List D}, p.Rps g us ds → Pv p (RE p) g H Q (.tup ds) g.st → ∀ l, H l = none → Q (.ref l) (upd H l (.tup us)) := fun {us ds} r q l hl => by
    have s2 := Stp.new (o := .tup us) w hl
    exact q _ { g with G := upd g.G l (.tup us) } _ rfl s2 (.tup upd_same (r.mono s2.gle s2.aml))
  cases x with
  | tup ds =>
    have hx2 := hx.cases fun _ o => o
    obtain ⟨a, us, rfl, s, r⟩ := hx.tup w
    exact ⟨a, us, rfl, .inr ⟨s, Pv.now w (post_pure q) hx2⟩⟩
  | lst ds =>
    obtain ⟨a, us, rfl, s, r⟩ := hx.lst w
    exact ⟨a, us, rfl, .inl ⟨SqL.of s, fin r (post_pure q)⟩⟩
  | rls ds =>
    obtain ⟨a, us, rfl, s, r⟩ := hx.rls w
    exact ⟨a, us, rfl, .inl ⟨s, fin r (post_pure q)⟩⟩
  | ref k =>
    obtain ⟨a, rfl, e⟩ := hx.ref
    obtain ⟨c, e2, r⟩ := w.at_ref e
    have q : ((getC k >>= fun c => match c with
      | .lst ds => pure (.tup ds)
      | _ => stuck) g.st).Post (Pv p (RE p) g H Q) E := q
    rw [bind_run] at q
    unfold getC at q
    rw [e2] at q
    cases c with
    | lst ds =>
      obtain ⟨us, s, r⟩ := r
      exact ⟨a, us, rfl, .inl ⟨SqL.of s, fin r (post_pure q)⟩⟩
    | _ => exact False.elim q
  | _ => exact False.elim q
theorem op_listD {p : Pg} : Op1C p (fun xs H Q => ∃ q ys, xs = [.ref q] ∧ (SqL p.K H q ys ∨ SqT p.K H q ys) ∧ ∀ l, H l = none → Q (.ref l) (upd H l (.lst ys))) listD (RN p) := by
  intro g H x vx Q E w hx q
  have fin : ∀ {us : List V} {ds : List D}, p.Rps g us ds → Pv p (RN p) g H Q (.lst ds) g.st → ∀ l, H l = none → Q (.ref l) (upd H l (.lst us)) := fun {us ds} r q l hl =>
    q _ g _ rfl (Stp.laid w hl) ⟨l, rfl, ⟨_, upd_same, r⟩, w.freeG hl, w.freeA hl, hl⟩
  cases x with
  | tup ds =>
    obtain ⟨a, us, rfl, s, r⟩ := hx.tup w
    exact ⟨a, us, rfl, .inr s, fin r (post_pure q)⟩
  | rtp ds =>
    obtain ⟨a, us, rfl, s, r⟩ := hx.rtp w
    exact ⟨a, us, rfl, .inr s, fin r (post_pure q)⟩
  | lst ds =>
    obtain ⟨a, us, rfl, s, r⟩ := hx.lst w
    exact ⟨a, us, rfl, .inl (SqL.of s), fin r (post_pure q)⟩
  | rls ds =>
    obtain ⟨a, us, rfl, s, r⟩ := hx.rls w
    exact ⟨a, us, rfl, .inl s, fin r (post_pure q)⟩
  | _ => exact False.elim q
theorem ee_tuplec (B : Blt S "tuple" (.type "tuple")) (ha : EL S ρ a ma) (hs : NoStar [a] := by intro _; rfl) : EE S ρ (.Call (.Name "tuple" p) [a] [] pos) (ma >>= tupleD) := ex_t1 back_RE (fun Y _ => call_tuple_of) op_tupleD B ha hs
theorem en_listc (B : Blt S "list" (.type "list")) (ha : EL S ρ a ma) (hs : NoStar [a] := by intro _; rfl) : EN S ρ (.Call (.Name "list" p) [a] [] pos) (ma >>= listD) := ex_t1 back_RN (fun Y _ => call_list_of) op_listD B ha hs
/-! sorted of ints -/
def ins (x : Int) : List Int → List Int
  | [] => [x]
  | y :: r => if x ≤ y then x :: y :: r else y :: ins x r
def isort : List Int → List Int
  | [] => []
  | x :: r => ins x (isort r)
theorem ins_perm (x : Int) : ∀ l : List Int, (ins x l).Perm (x :: l)
  | [] => .refl _
  | y :: r => by
    unfold ins
    by_cases h : x ≤ y
    · rw [if_pos h]
    · rw [if_neg h]
      exact ((ins_perm x r).cons y).trans (.swap x y r)
theorem isort_perm : ∀ l : List Int, (isort l).Perm l
  | [] => .refl _
  | x :: r => (ins_perm x (isort r)).trans ((isort_perm r).cons x)
theorem ins_sorted (x : Int) : ∀ {l : List Int}, l.Pairwise (· ≤ ·) → (ins x l).Pairwise (· ≤ ·)
  | [], _ => List.pairwise_singleton _ _
  | y :: r, h => by
    unfold ins
    by_cases hxy : x ≤ y
    · rw [if_pos hxy]
      refine List.Pairwise.cons (fun z hz => ?_) h
      rcases List.mem_cons.mp hz with rfl | hz
      · exact hxy
      · exact Int.le_trans hxy ((List.pairwise_cons.mp h).1 z hz)
    · rw [if_neg hxy]
      refine List.Pairwise.cons (fun z hz => ?_) (ins_sorted x (List.pairwise_cons.mp h).2)
      rcases List.mem_cons.mp ((ins_perm x r).mem_iff.mp hz) with rfl | hz
      · omega
      · exact (List.pairwise_cons.mp h).1 z hz
theorem isort_sorted : ∀ l : List Int, (isort l).Pairwise (· ≤ ·)
  | [] => .nil
  | x :: r => ins_sorted x (isort_sorted r)
theorem sorted_uniq : ∀ {a b : List Int}, a.Perm b → a.Pairwise (· ≤ ·) → b.Pairwise (· ≤ ·) → a = b
  | [], b, p, _, _ => by rw [List.nil_perm.mp p]
  | x :: r, [], p, _, _ => absurd (List.perm_nil.mp p) (List.cons_ne_nil _ _)
  | x :: r, y :: t, p, ha, hb => by
    have hx : x ≤ y := by
      rcases List.mem_cons.mp (p.mem_iff.mpr (List.mem_cons_self : y ∈ y :: t)) with h | h
      · omega
      · exact (List.pairwise_cons.mp ha).1 y h
    have hy : y ≤ x := by
      rcases List.mem_cons.mp (p.mem_iff.mp (List.mem_cons_self : x ∈ x :: r)) with h | h
      · omega
      · exact (List.pairwise_cons.mp hb).1 x h
    have e : x = y := Int.le_antisymm hx hy
    subst e
    rw [sorted_uniq (List.Perm.cons_inv p) (List.pairwise_cons.mp ha).2 (List.pairwise_cons.mp hb).2]
def sortI : D → M D
  | .lst ds => match dints ds with
    | some ns => pure (.lst ((isort ns).map D.int))
    | none => stuck
  | .tup ds => match dints ds with
    | some ns => pure (.lst ((isort ns).map D.int))
    | none => stuck
  | _ => stuck
def sortedRevD : D → M D
  | .lst ds => match dints ds with
    | some ns => pure (.lst ((isort ns).reverse.map D.int))
    | none => stuck
  | _ => stuck
theorem op_sortI {p : Pg} : Op1C p (rSortA p.K) sortI (RN p) := by
  intro g H x vx Q E w hx q
  cases x with
  | lst ds =>
    unfold sortI at q
    cases e : dints ds with
    | none => simp only [e] at q; exact False.elim q
    | some ns =>
      simp only [e] at q
      obtain ⟨a, rfl, s, _⟩ := lst_ints w hx e
      refine ⟨a, ns, rfl, .inl s, fun ns' l hp ho hl => ?_⟩
      have e2 : ns' = isort ns := sorted_uniq (hp.trans (isort_perm ns).symm) ho (isort_sorted ns)
      rw [e2]
      exact (post_pure q) _ g _ rfl (Stp.laid w hl) ⟨l, rfl, ⟨_, upd_same, .ofInts _⟩, w.freeG hl, w.freeA hl, hl⟩
  | tup ds =>
    unfold sortI at q
    cases e : dints ds with
    | none => simp only [e] at q; exact False.elim q
    | some ns =>
      simp only [e] at q
      obtain ⟨a, us, rfl, s, r⟩ := hx.tup w
      rw [ints_eq e] at r
      have := r.toInts
      subst this
      refine ⟨a, ns, rfl, .inr s, fun ns' l hp ho hl => ?_⟩
      have e2 : ns' = isort ns := sorted_uniq (hp.trans (isort_perm ns).symm) ho (isort_sorted ns)
      rw [e2]
      exact (post_pure q) _ g _ rfl (Stp.laid w hl) ⟨l, rfl, ⟨_, upd_same, .ofInts _⟩, w.freeG hl, w.freeA hl, hl⟩
  | _ => exact False.elim q
theorem en_sortI (B : Blt S "sorted" (.builtin "sorted")) (ha : EL S ρ a ma) (hs : NoStar [a] := by intro _; rfl) : EN S ρ (.Call (.Name "sorted" p) [a] [] pos) (ma >>= sortI) := ex_b1 back_RN (fun Y _ => cr_sortA) op_sortI B ha hs
theorem en_sortedRev {kpos : Pos} {j : Nat} {cpos : Pos} (B : Blt S "sorted" (.builtin "sorted")) (ha : EL S ρ a ma) (hs : NoStar [a] := by intro _; rfl)
    (hk1 : ∀ env : Env, ((backToKw pos (keywordEach [⟨some "reverse", .Constant (.bool true) j cpos, kpos⟩] env)).all (·.1.isSome)) = true := by intro _; rfl) :
    EN S ρ (.Call (.Name "sorted" p) [a] [⟨some "reverse", .Constant (.bool true) j cpos, kpos⟩] pos) (ma >>= sortedRevD) := fun Y ok =>
  (pe_callBK (X := S.cx Y) (cr_sortedRev (b := true)) B.gl B.mg B.boot (pa_cons (ha Y ok) pa_nil (hs _)) (pk_cons pe_bl pk_nil) B.n1 B.n2 (he := by rw [hs _]; rfl) (hpl := by rw [hs _]; rfl)).pre fun σ H Q ⟨F, g, E, q⟩ =>
    rdX.bind E q fun x v g' H' s E' r q => by
      cases x with
      | lst ds =>
        unfold sortedRevD at q
        cases e : dints ds with
        | none => simp only [e] at q; exact False.elim q
        | some ns =>
          simp only [e] at q
          obtain ⟨a, rfl, s3, _⟩ := lst_ints E'.wf r e
          refine ⟨a, ns, rfl, rfl, s3, fun ns' l hp ho hl => ?_⟩
          have ho : ns'.Pairwise (· ≥ ·) := ho
          have e2 : ns'.reverse = isort ns := sorted_uniq ((List.reverse_perm _).trans (hp.trans (isort_perm ns).symm)) (List.pairwise_reverse.mpr ho) (isort_sorted ns)
          have e3 : ns' = (isort ns).reverse := by rw [← e2, List.reverse_reverse]
          rw [e3]
          exact (post_pure q) _ g' _ rfl (s.trans E.wf (Stp.laid E'.wf hl)) ⟨l, rfl, ⟨_, upd_same, .ofInts _⟩, E'.wf.freeG hl, E'.wf.freeA hl, s.none_of E.wf hl⟩
      | _ => exact False.elim q
end
end DL
namespace DL
open PySem PySem.Spec PyProof.Rows L2
/-! ### what is walked -/
/-- later: what was frozen is there -/
structure Ltr (p : Pg) (g1 g : Gs) : Prop where
  gle : ∀ a o, g1.G a = some o → g.G a = some o
  aml : g1.am <+: g.am
theorem Stp.ltr {p : Pg} {g g' : Gs} {H H' : Hp} (s : Stp p g H g' H') : Ltr p g g' := ⟨s.gle, s.aml⟩
theorem Ltr.refl {p : Pg} (g : Gs) : Ltr p g g := ⟨fun _ _ e => e, List.prefix_refl _⟩
theorem Ltr.trans {p : Pg} {g g' g'' : Gs} (a : Ltr p g g') (b : Ltr p g' g'') : Ltr p g g'' := ⟨fun x o e => b.gle x o (a.gle x o e), a.aml.trans b.aml⟩
abbrev Tm := Gs → Hp → Prop
structure Wk (p : Pg) (T : Tm) (J : It) (ds : List D) : Prop where
  goes : ∀ i g H, i < ds.length → Wf p g H → T g H → J.go i H
  stops : ∀ g H, Wf p g H → T g H → J.stop ds.length H
  yields : ∀ i g H x H', i < ds.length → Wf p g H → T g H → J.yld i H x H' → ∃ g' d, g'.st = g.st ∧ Stp p g H g' H' ∧ ds[i]? = some d ∧ p.Rp g' x d
def rdI (S : Sta) (Y : Dyn) (ρ : Ev) (T : Gs → Hp → Tm) (m : M (List D)) : TI := fun σ H R => ∃ F g, ER S.pg F ρ σ g H ∧
  (m g.st).Post (fun ds st' => ∀ J g' H', g'.st = st' → Stp S.pg g H g' H' → Wk S.pg (T g' H') J ds → R J H') (Px S Y g H)
def EI (S : Sta) (ρ : Ev) (T : Gs → Hp → Tm) (tg it : Expr) (m : M (List D)) : Prop := ∀ Y, OkY S Y → PI (S.cx Y) tg it (rdI S Y ρ T m)
/-- as long as nothing is written -/
abbrev TS' (p : Pg) : Gs → Hp → Tm := fun g H g2 H2 => Stp p g H g2 H2
/-- as long as nothing frozen is written: always -/
abbrev TL (p : Pg) : Gs → Hp → Tm := fun g _ g2 _ => Ltr p g g2
theorem _root_.L2.PI.pre {X : Cx} {tg it : Expr} {t t' : TI} (h : PI X tg it t) (k : ∀ σ H R, t' σ H R → t σ H R) : PI X tg it t' :=
  ⟨fun pins s σ H R I q => h.run pins s σ H R I (k σ H R q)⟩
theorem _root_.L2.PI.or {X : Cx} {tg it : Expr} {t t' : TI} (h : PI X tg it t) (h' : PI X tg it t') : PI X tg it (fun σ H R => t σ H R ∨ t' σ H R) :=
  ⟨fun pins s σ H R I q => q.elim (h.run pins s σ H R I) (h'.run pins s σ H R I)⟩
theorem Wk.weak {p : Pg} {T T' : Tm} {J : It} {ds : List D} (w : Wk p T J ds) (h : ∀ g H, T' g H → T g H) : Wk p T' J ds :=
  ⟨fun i g H a b c => w.goes i g H a b (h g H c), fun g H b c => w.stops g H b (h g H c), fun i g H x H' a b c d => w.yields i g H x H' a b (h g H c) d⟩
section
variable {S : Sta} {ρ : Ev} {a b c tg it e : Expr} {ma mb mc m : M D} {mi : M (List D)} {pos p : Pos}
/-- a walk that always goes goes as long as nothing is written -/
theorem ei_weak (h : EI S ρ (TL S.pg) tg it mi) : EI S ρ (TS' S.pg) tg it mi := fun Y ok => (h Y ok).pre fun σ H R ⟨F, g, E, q⟩ =>
  ⟨F, g, E, q.imp (fun ds st' q J g' H' e s w => q J g' H' e s (w.weak fun _ _ h => h.ltr)) fun _ _ q => q⟩
/-- a sequence that stands as long as T -/
def SqK (p : Pg) (T : Tm) (v : V) : D → Prop
  | .tup es => ∃ a us, v = .ref a ∧ ∀ g H, Wf p g H → T g H → SqT p.K H a us ∧ p.Rps g us es
  | .lst es => ∃ a us, v = .ref a ∧ ∀ g H, Wf p g H → T g H → SqL p.K H a us ∧ p.Rps g us es
  | .rls es => ∃ a us, v = .ref a ∧ ∀ g H, Wf p g H → T g H → SqL p.K H a us ∧ p.Rps g us es
  | .rtp es => ∃ a us, v = .ref a ∧ ∀ g H, Wf p g H → T g H → SqT p.K H a us ∧ p.Rps g us es
  | _ => True
theorem sq_strong {p : Pg} {g : Gs} {H : Hp} {v : V} {d : D} (r : p.Rp g v d) : SqK p (TL p g H) v d := by
  cases r with
  | tup s r => exact ⟨_, _, rfl, fun g2 H2 w l => ⟨.inl (.inl (w.sub _ _ (l.gle _ _ s))), r.mono l.gle l.aml⟩⟩
  | rtp s r => exact ⟨_, _, rfl, fun g2 H2 w l => ⟨sqT_mono (fun x o h => w.sub x o (l.gle x o h)) s, r.mono l.gle l.aml⟩⟩
  | lst s r => exact ⟨_, _, rfl, fun g2 H2 w l => ⟨.inl (.inl (w.sub _ _ (l.gle _ _ s))), r.mono l.gle l.aml⟩⟩
  | rls s r => exact ⟨_, _, rfl, fun g2 H2 w l => ⟨sqL_mono (fun x o h => w.sub x o (l.gle x o h)) s, r.mono l.gle l.aml⟩⟩
  | _ => exact True.intro
theorem SqK.weak {p : Pg} {T T' : Tm} {v : V} {d : D} (h : SqK p T v d) (k : ∀ g H, T' g H → T g H) : SqK p T' v d := by
  cases d with
  | tup es => obtain ⟨a, us, e, h⟩ := h; exact ⟨a, us, e, fun g H w t => h g H w (k g H t)⟩
  | lst es => obtain ⟨a, us, e, h⟩ := h; exact ⟨a, us, e, fun g H w t => h g H w (k g H t)⟩
  | rls es => obtain ⟨a, us, e, h⟩ := h; exact ⟨a, us, e, fun g H w t => h g H w (k g H t)⟩
  | rtp es => obtain ⟨a, us, e, h⟩ := h; exact ⟨a, us, e, fun g H w t => h g H w (k g H t)⟩
  | _ => exact True.intro
theorem sq_weak {p : Pg} {g : Gs} {H : Hp} {v : V} {d : D} (w0 : Wf p g H) (r : TopR p g H v d) : SqK p (TS' p g H) v d := by
  rcases r with r | ⟨a, rfl, n, o⟩
  · exact (sq_strong (H := H) r).weak fun _ _ l => l.ltr
  · cases d with
    | lst es =>
      obtain ⟨us, eu, ru⟩ := o
      exact ⟨_, _, rfl, fun g2 H2 w l => ⟨.inl (.inl (l.keep a _ eu n)), ru.mono l.gle l.aml⟩⟩
    | dct es => exact True.intro
    | dcT es => exact True.intro
    | _ => exact o.elim
theorem wk_tup {p : Pg} {T : Tm} {a : Addr} {us : List V} {ds : List D} (h : ∀ g H, Wf p g H → T g H → SqT p.K H a us ∧ p.Rps g us ds) : Wk p T (Itt p.K a) ds := by
  refine ⟨fun i g H hi w t => ?_, fun g H w t => ?_, fun i g H x H' hi w t y => ?_⟩
  · obtain ⟨s, r⟩ := h g H w t
    have hl : i < us.length := by rw [r.length]; exact hi
    exact walk_tup.goes i H hl s
  · obtain ⟨s, r⟩ := h g H w t
    rw [← r.length]
    exact walk_tup.stops H s
  · obtain ⟨s, r⟩ := h g H w t
    have hl : i < us.length := by rw [r.length]; exact hi
    obtain ⟨e1, e2⟩ := walk_tup.yields i H x H' hl s y
    subst e1
    obtain ⟨d, h1, h2⟩ := r.getV e2
    exact ⟨g, d, rfl, .refl w, h1, h2⟩
theorem wk_lst {p : Pg} {T : Tm} {a : Addr} {us : List V} {ds : List D} (h : ∀ g H, Wf p g H → T g H → SqL p.K H a us ∧ p.Rps g us ds) : Wk p T (Itl p.K a) ds := by
  refine ⟨fun i g H hi w t => ?_, fun g H w t => ?_, fun i g H x H' hi w t y => ?_⟩
  · obtain ⟨s, r⟩ := h g H w t
    have hl : i < us.length := by rw [r.length]; exact hi
    exact walk_list.goes i H hl s
  · obtain ⟨s, r⟩ := h g H w t
    rw [← r.length]
    exact walk_list.stops H s
  · obtain ⟨s, r⟩ := h g H w t
    have hl : i < us.length := by rw [r.length]; exact hi
    obtain ⟨e1, e2⟩ := walk_list.yields i H x H' hl s y
    subst e1
    obtain ⟨d, h1, h2⟩ := r.getV e2
    exact ⟨g, d, rfl, .refl w, h1, h2⟩
theorem ei_core {T : Gs → Hp → Tm} {R : Rel} (hT : ∀ (g : Gs) (H : Hp) (g' : Gs) (H' : Hp) (v : V) (d : D), Stp S.pg g H g' H' → R H g' H' v d → SqK S.pg (T g' H') v d) (hT0 : ∀ (g : Gs) (H : Hp), Wf S.pg g H → T g H g H)
    (ha : EX S ρ R a ma) : EI S ρ T tg a (ma >>= items) := fun Y ok =>
  (PI.or (pi_tup (ha Y ok)) (pi_list (ha Y ok))).pre fun σ H Q ⟨F, g, E, q⟩ => by
    have q := post_bind q
    -- which of both: by the value that comes
    cases e : ma g.st with
    | stuck => rw [e] at q; exact False.elim q
    | exc c st' =>
      refine .inl ⟨F, g, E, ?_⟩
      rw [e] at q ⊢
      exact q
    | ok d st' =>
      rw [e] at q
      cases d with
      | tup es =>
        refine .inl ⟨F, g, E, ?_⟩
        rw [e]
        intro v g' H' e1 s r
        obtain ⟨a, us, rfl, h⟩ := hT g H g' H' v _ s r
        exact ⟨a, rfl, ⟨us, (h g' H' s.wf (hT0 g' H' s.wf)).1⟩, (post_pure q) _ g' H' e1 s (wk_tup h)⟩
      | rtp es =>
        refine .inl ⟨F, g, E, ?_⟩
        rw [e]
        intro v g' H' e1 s r
        obtain ⟨a, us, rfl, h⟩ := hT g H g' H' v _ s r
        exact ⟨a, rfl, ⟨us, (h g' H' s.wf (hT0 g' H' s.wf)).1⟩, (post_pure q) _ g' H' e1 s (wk_tup h)⟩
      | lst es =>
        refine .inr ⟨F, g, E, ?_⟩
        rw [e]
        intro v g' H' e1 s r
        obtain ⟨a, us, rfl, h⟩ := hT g H g' H' v _ s r
        exact ⟨a, rfl, ⟨us, (h g' H' s.wf (hT0 g' H' s.wf)).1⟩, (post_pure q) _ g' H' e1 s (wk_lst h)⟩
      | rls es =>
        refine .inr ⟨F, g, E, ?_⟩
        rw [e]
        intro v g' H' e1 s r
        obtain ⟨a, us, rfl, h⟩ := hT g H g' H' v _ s r
        exact ⟨a, rfl, ⟨us, (h g' H' s.wf (hT0 g' H' s.wf)).1⟩, (post_pure q) _ g' H' e1 s (wk_lst h)⟩
      | _ => exact False.elim q
/-- a value's items: a value that is never written (in any loop), one that is read now (in a comprehension) -/
theorem ei_seq (ha : EE S ρ a ma) : EI S ρ (TL S.pg) tg a (ma >>= items) := ei_core (fun _ _ _ _ _ _ _ r => sq_strong r) (fun g _ _ => .refl g) ha
theorem ei_read (ha : EL S ρ a ma) : EI S ρ (TS' S.pg) tg a (ma >>= items) := ei_core (fun _ _ _ _ _ _ s r => sq_weak s.wf r) (fun g _ w => .refl w) ha
/-- a name that is not the def's own -/
abbrev Glb (S : Sta) (x : Str) : Prop := S.sc.names.lookup x = some .globalImplicit
/-! range -/
def rangeL (lo : Int) (n : Nat) : List D := (List.range n).map fun i => .int (lo + (i : Nat))
theorem rangeL_len (lo : Int) (n : Nat) : (rangeL lo n).length = n := by unfold rangeL; rw [List.length_map, List.length_range]
theorem wk_range {p : Pg} {T : Tm} {lo : Int} {n : Nat} : Wk p T (Itr lo n) (rangeL lo n) := by
  refine ⟨fun i g H hi w t => ?_, fun g H w t => ?_, fun i g H x H' hi w t y => ?_⟩
  · rw [rangeL_len] at hi; exact hi
  · rw [rangeL_len]; exact Nat.le_refl _
  · rw [rangeL_len] at hi
    obtain ⟨e1, e2⟩ := y
    subst e1
    refine ⟨g, .int (lo + (i : Nat)), rfl, .refl w, ?_, ?_⟩
    · unfold rangeL
      rw [List.getElem?_map, List.getElem?_range hi]
      rfl
    · rw [e2]; exact .int _
def bnd (i : Int) : Bool := decide (-(2 ^ 62) ≤ i ∧ i < 2 ^ 62)
def range1 : D → M (List D)
  | .int j => if bnd j then pure (rangeL 0 j.toNat) else stuck
  | _ => stuck
def range2 : D → D → M (List D)
  | .int i, .int j => if bnd i && bnd j then pure (rangeL i (j - i).toNat) else stuck
  | _, _ => stuck
theorem bnd_ok {i : Int} (h : bnd i = true) : -(2 ^ 62) ≤ i ∧ i < 2 ^ 62 := of_decide_eq_true (p := -(2 ^ 62) ≤ i ∧ i < 2 ^ 62) h
theorem ei_range1 {T : Gs → Hp → Tm} (hg : Glb S "range") (hm : S.pg.mg "range" = none) (ha : EL S ρ a ma) (hs : NoStar [a] := by intro _; rfl) : EI S ρ T tg (.Call (.Name "range" p) [a] [] pos) (ma >>= range1) := fun Y ok =>
  (pi_range1 (X := S.cx Y) hg hm (pa_cons (ha Y ok) pa_nil (hs _)) (hs _)).pre fun σ H Q ⟨F, g, E, q⟩ => rdX.bind E q fun x v g' H' s E' r q => by
    cases x with
    | int j =>
      unfold range1 at q
      by_cases z : bnd j = true
      · simp only [z, if_true] at q
        obtain rfl := r.int
        exact ⟨j, rfl, (bnd_ok z).1, (bnd_ok z).2, (post_pure q) _ g' H' rfl s wk_range⟩
      · simp only [z] at q
        exact False.elim q
    | _ => exact False.elim q
theorem ei_range2 {T : Gs → Hp → Tm} (hg : Glb S "range") (hm : S.pg.mg "range" = none) (ha : EL S ρ a ma) (hb : EL S ρ b mb) (hs : NoStar [a, b] := by intro _; rfl) (hs2 : NoStar [b] := by intro _; rfl) :
    EI S ρ T tg (.Call (.Name "range" p) [a, b] [] pos) (ma >>= fun x => mb >>= fun y => range2 x y) := fun Y ok =>
  (pi_range2 (X := S.cx Y) hg hm (pa_cons (ha Y ok) (pa_cons (hb Y ok) pa_nil (hs2 _)) (by rw [hs2 _]; exact hs _)) (hs _) (hs2 _)).pre fun σ H Q ⟨F, g, E, q⟩ => rdX.bind E q fun x v g' H' s E' r q =>
    rdX.bind E' (q.imp (fun _ _ q => q) fun _ _ q => q.back E.wf s) fun y u g2 H2 s2 E2 r2 q => by
      cases x with
      | int i =>
        cases y with
        | int j =>
          unfold range2 at q
          by_cases z : (bnd i && bnd j) = true
          · simp only [z, if_true] at q
            rw [Bool.and_eq_true] at z
            obtain rfl := r.int
            obtain rfl := r2.int
            exact ⟨i, j, rfl, ⟨(bnd_ok z.1).1, (bnd_ok z.1).2, (bnd_ok z.2).1, (bnd_ok z.2).2⟩, (post_pure q) _ g2 H2 rfl (s.trans E.wf s2) wk_range⟩
          · simp only [z] at q
            exact False.elim q
        | _ => exact False.elim q
      | _ => exact False.elim q
/-! zip, enumerate: new pairs -/
def zipL : List D → List D → List D
  | x :: xs, y :: ys => .tup [x, y] :: zipL xs ys
  | _, _ => []
def enumL (i : Nat) : List D → List D
  | [] => []
  | x :: xs => .tup [.int (i : Nat), x] :: enumL (i + 1) xs
theorem zipL_get : ∀ {xs ys : List D} {i : Nat} {x y : D}, xs[i]? = some x → ys[i]? = some y → (zipL xs ys)[i]? = some (.tup [x, y])
  | [], _, i, x, y, h, _ => by simp at h
  | _ :: _, [], i, x, y, _, h => by simp at h
  | a :: r, b :: t, 0, x, y, h, k => by simp at h k; subst h; subst k; rfl
  | a :: r, b :: t, i + 1, x, y, h, k => by
    rw [zipL, List.getElem?_cons_succ]
    exact zipL_get (by simpa using h) (by simpa using k)
theorem zipL_len : ∀ (xs ys : List D), (zipL xs ys).length = min xs.length ys.length
  | [], ys => by cases ys <;> simp [zipL]
  | _ :: _, [] => by simp [zipL]
  | a :: r, b :: t => by
    rw [zipL, List.length_cons, List.length_cons, List.length_cons, zipL_len r t]
    omega
theorem enumL_len : ∀ (k : Nat) (xs : List D), (enumL k xs).length = xs.length
  | _, [] => rfl
  | k, _ :: r => by rw [enumL, List.length_cons, List.length_cons, enumL_len]
theorem enumL_get : ∀ {k : Nat} {xs : List D} {i : Nat} {x : D}, xs[i]? = some x → (enumL k xs)[i]? = some (.tup [.int ((k + i : Nat) : Int), x])
  | _, [], i, x, h => by simp at h
  | k, a :: r, 0, x, h => by simp at h; subst h; rfl
  | k, a :: r, i + 1, x, h => by
    rw [enumL, List.getElem?_cons_succ, enumL_get (k := k + 1) (by simpa using h)]
    have : k + 1 + i = k + (i + 1) := by omega
    rw [this]
end
end DL
namespace DL
open PySem PySem.Spec PyProof.Rows L2
/-! ### targets -/
def setS : L2.St → List Nat → List V → L2.St
  | σ, i :: ix, w :: ws => setS (σ.set i (some w)) ix ws
  | σ, _, _ => σ
def setE : Ev → List Nat → List D → Ev
  | ρ, i :: ix, d :: ds => setE (ρ.set i (.sh d)) ix ds
  | ρ, _, _ => ρ
theorem ER.setMany {p : Pg} {F : Fm} {g : Gs} {H : Hp} : ∀ (ix : List Nat) {ws : List V} {ds : List D} {ρ : Ev} {σ : L2.St}, ER p F ρ σ g H → p.Rps g ws ds → ER p F (setE ρ ix ds) (setS σ ix ws) g H
  | [], _, _, _, _, E, _ => by unfold setE setS; exact E
  | i :: ix, _, _, _, _, E, .nil => by unfold setE setS; exact E
  | i :: ix, _, _, _, _, E, .cons r t => by
    unfold setE setS
    exact ER.setMany ix (E.set r) t
/-- a target takes a value apart: u gives the parts, ix are their slots -/
def TG (S : Sta) (tg : Expr) (u : D → M (List D)) (ix : List Nat) : Prop := ∀ Y, OkY S Y → PG (S.cx Y) tg (fun v σ H Q => ∃ g d, Wf S.pg g H ∧ S.pg.Rp g v d ∧ (u d g.st).Post (fun ds st' => st' = g.st → ∀ ws, S.pg.Rps g ws ds → Q (setS σ ix ws) H) fun _ _ => False)
def TGs (S : Sta) (tgs : List Expr) (u : List D → M (List D)) (ix : List Nat) : Prop := ∀ Y, OkY S Y → PGs (S.cx Y) tgs (fun vs σ H Q => ∃ g ds, Wf S.pg g H ∧ S.pg.Rps g vs ds ∧ (u ds g.st).Post (fun ds st' => st' = g.st → ∀ ws, S.pg.Rps g ws ds → Q (setS σ ix ws) H) fun _ _ => False)
/-- a part that never touches the store -/
structure Pure1 {α β : Type} (u : α → M β) : Prop where
  st : ∀ d s b s', u d s = .ok b s' → s' = s
  nx : ∀ d s c s', u d s ≠ .exc c s'
def nm : D → M (List D) := fun d => pure [d]
def un0 : List D → M (List D)
  | [] => pure []
  | _ => stuck
def unc (u : D → M (List D)) (us : List D → M (List D)) : List D → M (List D)
  | d :: ds => u d >>= fun a => us ds >>= fun b => pure (a ++ b)
  | _ => stuck
def unT (us : List D → M (List D)) : D → M (List D)
  | .tup ds => us ds
  | _ => stuck
theorem _root_.L2.PG.pre {X : Cx} {tg : Expr} {t t' : L2.TG} (h : PG X tg t) (k : ∀ v σ H Q, t' v σ H Q → t v σ H Q) : PG X tg t' :=
  ⟨fun pins s σ H v u Q I r q => h.run pins s σ H v u Q I r (k v σ H Q q)⟩
theorem _root_.L2.PGs.pre {X : Cx} {tg : List Expr} {t t' : L2.TGs} (h : PGs X tg t) (k : ∀ v σ H Q, t' v σ H Q → t v σ H Q) : PGs X tg t' :=
  ⟨fun pins s σ H v u Q I r q => h.run pins s σ H v u Q I r (k v σ H Q q)⟩
theorem setS_append : ∀ (ix jx : List Nat) (σ : L2.St) (ws zs : List V), ws.length = ix.length → setS σ (ix ++ jx) (ws ++ zs) = setS (setS σ ix ws) jx zs
  | [], jx, σ, [], zs, _ => by
    rw [List.nil_append, List.nil_append]
    conv => rhs; arg 1; unfold setS
  | [], jx, σ, _ :: _, zs, h => by simp at h
  | i :: ix, jx, σ, [], zs, h => by simp at h
  | i :: ix, jx, σ, w :: ws, zs, h => by
    rw [List.cons_append, List.cons_append]
    conv => lhs; unfold setS
    conv => rhs; arg 1; unfold setS
    exact setS_append ix jx _ ws zs (by simpa using h)
section
variable {S : Sta} {ρ : Ev} {a b c tg it e elt : Expr} {tgs : List Expr} {ma mb mc m : M D} {mi : M (List D)} {pos p : Pos}
theorem tg_name (i : Nat) {x : Str} (hnd : S.N.Nodup) (hN : S.N[i]? = some x) (hx : Loc S.sc x) (hf : S.fn x = true ∨ S.sc.names.lookup x = some .local) : TG S (.Name x pos) nm [i] := fun Y ok =>
  (pg_name (X := S.cx Y) (i := i) hnd hN hx hf).pre fun v σ H Q ⟨g, d, w, r, q⟩ => (post_pure q) rfl [v] (.cons r .nil)
theorem tgs_nil : TGs S [] un0 [] := fun Y ok => pgs_nil.pre fun vs σ H Q ⟨g, ds, w, r, q⟩ => by
  cases r with
  | nil => exact ⟨rfl, (post_pure q) rfl [] .nil⟩
  | cons _ _ => exact False.elim q
theorem tgs_cons {u : D → M (List D)} {us : List D → M (List D)} {ix jx : List Nat} (pu : Pure1 u) (pus : Pure1 us) (hlen : ∀ d s ds s', u d s = .ok ds s' → ds.length = ix.length) (h1 : TG S tg u ix) (h2 : TGs S tgs us jx)
    (hs : ∀ env : Env, (assignEach (tg :: tgs) env).map (·.2) = assign tg env :: (assignEach tgs env).map (·.2)) : TGs S (tg :: tgs) (unc u us) (ix ++ jx) := fun Y ok =>
  (pgs_cons (h1 Y ok) (h2 Y ok) (hs _)).pre fun vs σ H Q ⟨g, ds, w, r, q⟩ => by
    cases r with
    | nil => exact False.elim q
    | @cons v0 vr d ds r rr =>
      refine ⟨_, _, rfl, g, _, w, r, ?_⟩
      have q := post_bind (m := u d) q
      cases e1 : u d g.st with
      | stuck => rw [e1] at q; exact q
      | exc c s => rw [e1] at q; exact q
      | ok as s1 =>
        rw [e1] at q
        have es := pu.st _ _ _ _ e1
        have el := hlen _ _ _ _ e1
        intro _ ws rw1
        refine ⟨g, _, w, rr, ?_⟩
        subst es
        have q := post_bind q
        refine q.imp (fun bs s2 q e2 zs rz => ?_) fun _ _ q => q
        have q := (post_pure q) e2 (ws ++ zs) (rw1.append rz)
        rw [setS_append _ _ _ _ _ (by rw [rw1.length, el])] at q
        exact q
theorem tg_tup {us : List D → M (List D)} {ix : List Nat} {n : Nat} {k : Nat} (h : TGs S tgs us ix) (hn : ∀ env : Env, (assignEach tgs env).length = n) (hl : ∀ ds s r s', us ds s = .ok r s' → ds.length = n) (hst : ∀ env : Env, (assignEach tgs env).findIdx? (·.1) = none) : TG S (.Tuple tgs k pos) (unT us) ix := fun Y ok =>
  (pg_tup (X := S.cx Y) (n := n) rfl (h Y ok) (hn _) (hst _)).pre fun v σ H Q ⟨g, d, w, r, q⟩ => by
    cases d with
    | tup ds =>
      cases r with
      | tup s r =>
        refine ⟨_, _, rfl, .inl (.inl (w.sub _ _ s)), ?_, g, ds, w, r, q⟩
        rw [r.length]
        cases e : us ds g.st with
        | ok a s' => exact hl _ _ _ _ e
        | exc c s' => have q : (us ds g.st).Post _ _ := q; rw [e] at q; exact q.elim
        | stuck => have q : (us ds g.st).Post _ _ := q; rw [e] at q; exact q.elim
    | _ => exact False.elim q
/-! the parts' lemmas -/
theorem nm_pure : Pure1 nm where
  st d s b s' h := by
    injection h with _ h
    exact h.symm
  nx d s c s' h := by cases h
theorem un0_pure : Pure1 un0 where
  st d s b s' h := by
    cases d with
    | nil => injection h with _ h; exact h.symm
    | cons _ _ => cases h
  nx d s c s' h := by cases d <;> cases h
theorem unc_pure {u : D → M (List D)} {us : List D → M (List D)} (pu : Pure1 u) (pus : Pure1 us) : Pure1 (unc u us) where
  st d s b s' h := by
    cases d with
    | nil => cases h
    | cons x r =>
      have h : (u x >>= fun a => us r >>= fun b => pure (a ++ b)) s = .ok b s' := h
      rw [bind_run] at h
      cases e : u x s with
      | stuck => rw [e] at h; cases h
      | exc c t => rw [e] at h; cases h
      | ok a t =>
        rw [e] at h
        have h : (us r >>= fun b => pure (a ++ b)) t = .ok b s' := h
        rw [bind_run] at h
        cases e2 : us r t with
        | stuck => rw [e2] at h; cases h
        | exc c t => rw [e2] at h; cases h
        | ok a2 t2 =>
          rw [e2] at h
          injection h with _ h
          rw [← h, pus.st _ _ _ _ e2, pu.st _ _ _ _ e]
  nx d s c s' h := by
    cases d with
    | nil => cases h
    | cons x r =>
      have h : (u x >>= fun a => us r >>= fun b => pure (a ++ b)) s = .exc c s' := h
      rw [bind_run] at h
      cases e : u x s with
      | stuck => rw [e] at h; cases h
      | exc c t => exact pu.nx _ _ _ _ e
      | ok a t =>
        rw [e] at h
        have h : (us r >>= fun b => pure (a ++ b)) t = .exc c s' := h
        rw [bind_run] at h
        cases e2 : us r t with
        | stuck => rw [e2] at h; cases h
        | exc c t => exact pus.nx _ _ _ _ e2
        | ok a2 t2 => rw [e2] at h; cases h
theorem unT_pure {us : List D → M (List D)} (pus : Pure1 us) : Pure1 (unT us) where
  st d s b s' h := by
    cases d with
    | tup ds => exact pus.st _ _ _ _ h
    | _ => cases h
  nx d s c s' h := by
    cases d with
    | tup ds => exact pus.nx _ _ _ _ h
    | _ => cases h
/-! lengths of the parts -/
def Len1 (u : D → M (List D)) (n : Nat) : Prop := ∀ d s ds s', u d s = .ok ds s' → ds.length = n
def LenS (us : List D → M (List D)) (k n : Nat) : Prop := ∀ d s ds s', us d s = .ok ds s' → d.length = k ∧ ds.length = n
theorem nm_len : Len1 nm 1 := fun d s b s' h => by injection h with h _; rw [← h]; rfl
theorem un0_len : LenS un0 0 0 := fun d s b s' h => by
  cases d with
  | nil => injection h with h _; rw [← h]; exact ⟨rfl, rfl⟩
  | cons _ _ => cases h
theorem unc_len {u : D → M (List D)} {us : List D → M (List D)} {k n l : Nat} (pu : Len1 u n) (pus : LenS us k l) : LenS (unc u us) (k + 1) (n + l) := fun d s b s' h => by
  cases d with
  | nil => cases h
  | cons x r =>
    have h : (u x >>= fun a => us r >>= fun b => pure (a ++ b)) s = .ok b s' := h
    rw [bind_run] at h
    cases e : u x s with
    | stuck => rw [e] at h; cases h
    | exc c t => rw [e] at h; cases h
    | ok a t =>
      rw [e] at h
      have h : (us r >>= fun b => pure (a ++ b)) t = .ok b s' := h
      rw [bind_run] at h
      cases e2 : us r t with
      | stuck => rw [e2] at h; cases h
      | exc c t => rw [e2] at h; cases h
      | ok a2 t2 =>
        rw [e2] at h
        injection h with h _
        obtain ⟨h1, h2⟩ := pus _ _ _ _ e2
        rw [← h, List.length_cons, List.length_append, h1, h2, pu _ _ _ _ e]
        exact ⟨rfl, rfl⟩
theorem unT_len {us : List D → M (List D)} {k n : Nat} (pus : LenS us k n) : Len1 (unT us) n := fun d s b s' h => by
  cases d with
  | tup ds => exact (pus _ _ _ _ h).2
  | _ => cases h
/-! ### comprehensions -/
def noexc {α : Type} (m : M α) : M α := fun s => match m s with
  | .ok a s' => .ok a s'
  | _ => .stuck
def addO : Option D → List D → List D
  | some d, t => d :: t
  | none, t => t
def compM (f : D → M (Option D)) : List D → M (List D)
  | [] => pure []
  | x :: r => noexc (f x) >>= fun o => compM f r >>= fun t => pure (addO o t)
theorem noexc_post {α β : Type} {m : M α} {k : α → M β} {s : Store} {ok : β → Store → Prop} {ex : Nat → Store → Prop} (q : ((noexc m >>= k) s).Post ok ex) : (m s).Post (fun a s' => (k a s').Post ok ex) fun _ _ => False := by
  rw [bind_run] at q
  unfold noexc at q
  cases e : m s with
  | ok a s' => rw [e] at q; exact q
  | exc c s' => rw [e] at q; exact q
  | stuck => rw [e] at q; exact q
theorem compM_noexc (f : D → M (Option D)) : ∀ (xs : List D) (s : Store) (c : Nat) (s' : Store), compM f xs s ≠ .exc c s'
  | [], s, c, s', h => by cases h
  | x :: r, s, c, s', h => by
    unfold compM at h
    rw [bind_run] at h
    unfold noexc at h
    cases e : f x s with
    | exc c t => rw [e] at h; cases h
    | stuck => rw [e] at h; cases h
    | ok o t =>
      rw [e] at h
      have h : (compM f r >>= fun t => pure (addO o t)) t = .exc c s' := h
      rw [bind_run] at h
      cases e2 : compM f r t with
      | exc c t2 => exact compM_noexc f r _ _ _ e2
      | stuck => rw [e2] at h; cases h
      | ok o t2 => rw [e2] at h; cases h
def wipeE : Ev → List Nat → Ev
  | ρ, [] => ρ
  | ρ, v :: vs => (wipeE ρ vs).set v .un
theorem wipeE_len (ρ : Ev) : ∀ vs : List Nat, (wipeE ρ vs).length = ρ.length
  | [] => rfl
  | _ :: vs => by unfold wipeE; rw [List.length_set, wipeE_len ρ vs]
theorem ER.unset {p : Pg} {F : Fm} {ρ : Ev} {σ : L2.St} {g : Gs} {H : Hp} (E : ER p F ρ σ g H) (i : Nat) (o : Option V) : ER p F (ρ.set i .un) (σ.set i o) g H := by
  refine ⟨by rw [List.length_set, List.length_set, E.len], fun j s e => ?_, fun x y d1 e1 h1 h2 h3 => ?_, E.fr, E.fw⟩
  · by_cases z : i = j
    · subst z
      have hl : i < ρ.length := by
        have := (List.getElem?_eq_some_iff.mp e).1
        rwa [List.length_set] at this
      rw [List.getElem?_set_self hl] at e
      cases e
      cases (σ.set i o)[i]?.join <;> exact True.intro
    · rw [List.getElem?_set_ne z] at e
      rw [List.getElem?_set_ne z]
      exact E.sl j s e
  · have ne : ∀ {c : Nat} {x : D}, (ρ.set i .un)[c]? = some (.ow x) → i ≠ c ∧ ρ[c]? = some (.ow x) := fun {c x} h => by
      by_cases z : i = c
      · subst z
        have hl : i < ρ.length := by
          have := (List.getElem?_eq_some_iff.mp h).1
          rwa [List.length_set] at this
        rw [List.getElem?_set_self hl] at h; cases h
      · rw [List.getElem?_set_ne z] at h; exact ⟨z, h⟩
    obtain ⟨n1, h1⟩ := ne h1
    obtain ⟨n2, h2⟩ := ne h2
    rw [List.getElem?_set_ne n1, List.getElem?_set_ne n2] at h3
    exact E.dist x y d1 e1 h1 h2 h3
theorem ER.wipe {p : Pg} {F : Fm} {ρ : Ev} {σ : L2.St} {g : Gs} {H : Hp} (E : ER p F ρ σ g H) : ∀ vs : List Nat, ER p F (wipeE ρ vs) (L2.wipe σ vs) g H
  | [] => E
  | v :: vs => (E.wipe vs).unset v none
theorem wipe_get (σ : L2.St) : ∀ (vs : List Nat) (j : Nat), (L2.wipe σ vs)[j]? = if j ∈ vs then σ[j]?.map (fun _ => none) else σ[j]?
  | [], j => by simp [L2.wipe]
  | v :: vs, j => by
    unfold L2.wipe
    by_cases z : v = j
    · subst z
      by_cases hl : v < σ.length
      · rw [List.getElem?_set_self (by rw [wipe_length]; exact hl), if_pos List.mem_cons_self, List.getElem?_eq_getElem hl]
        rfl
      · rw [List.getElem?_eq_none (by rw [List.length_set, wipe_length]; omega), if_pos List.mem_cons_self, List.getElem?_eq_none (by omega)]
        rfl
    · rw [List.getElem?_set_ne z, wipe_get σ vs j]
      have : (j ∈ v :: vs) = (j ∈ vs) := by
        rw [List.mem_cons]
        exact propext ⟨fun h => h.elim (fun e => absurd e.symm z) id, .inr⟩
      simp only [this]
theorem setS_len : ∀ (ix : List Nat) (ws : List V) (σ : L2.St), (setS σ ix ws).length = σ.length
  | [], _, _ => by unfold setS; rfl
  | _ :: _, [], _ => by unfold setS; rfl
  | i :: ix, w :: ws, σ => by unfold setS; rw [setS_len ix ws, List.length_set]
theorem setS_ne : ∀ (ix : List Nat) (ws : List V) (σ : L2.St) (j : Nat), j ∉ ix → (setS σ ix ws)[j]? = σ[j]?
  | [], _, _, _, _ => by unfold setS; rfl
  | _ :: _, [], _, _, _ => by unfold setS; rfl
  | i :: ix, w :: ws, σ, j, h => by
    unfold setS
    rw [setS_ne ix ws _ j (fun z => h (List.mem_cons_of_mem _ z)), List.getElem?_set_ne (fun z => h (by rw [z]; exact List.mem_cons_self))]
theorem wipe_setS (σ : L2.St) (vs ix : List Nat) (ws : List V) (h : ∀ i ∈ ix, i ∈ vs) : L2.wipe (setS (L2.wipe σ vs) ix ws) vs = L2.wipe σ vs := by
  refine List.ext_getElem? fun j => ?_
  rw [wipe_get, wipe_get]
  by_cases z : j ∈ vs
  · rw [if_pos z, if_pos z]
    have hl : (setS (L2.wipe σ vs) ix ws).length = σ.length := by rw [setS_len, wipe_length]
    by_cases hj : j < σ.length
    · rw [List.getElem?_eq_getElem (by rw [hl]; exact hj), List.getElem?_eq_getElem hj]
      rfl
    · rw [List.getElem?_eq_none (by rw [hl]; omega), List.getElem?_eq_none (by omega)]
  · rw [if_neg z, if_neg z, setS_ne _ _ _ _ (fun q => z (h j q)), wipe_get, if_neg z]
/-- the block of a comprehension -/
def Sta.blk (S : Sta) (scope : Scope) : Sta := { S with sc := relS scope S.sc, fn := fun x => scope.names.lookup x == some .cell, dfn := false }
def Dyn.blk (Y : Dyn) (S : Sta) (s : Shared) (H : Hp) (scope : Scope) (C : Addr) (cl : List (Str × Addr)) (fp : List Addr) : Dyn where
  A := Y.A
  s0 := s
  H0 := H
  env := compEnvC scope cl C (S.cx Y).env
  outer := Y.stack
  stack := Y.stack
  ex := fp
  pn := []
  xe := fun _ _ => False
  W := fun _ _ _ => False
theorem blk_eq {Y : Dyn} {s : Shared} {H : Hp} {scope : Scope} {C : Addr} {cl : List (Str × Addr)} {fp : List Addr} : (S.blk scope).cx (Y.blk S s H scope C cl fp) = (S.cx Y).blk s H scope (compEnvC scope cl C (S.cx Y).env) fp := rfl
theorem blk_ok {Y : Dyn} (ok : OkY S Y) {s : Shared} {H : Hp} {scope : Scope} {C : Addr} {cl : List (Str × Addr)} {fp : List Addr} : OkY (S.blk scope) (Y.blk S s H scope C cl fp) :=
  ⟨ok.room, PassesOwn.never, takesN, fun z => Bool.noConfusion z⟩
/-- the tests of a clause -/
def ETs (S : Sta) (ρ : Ev) (ifs : List Expr) (m : M Bool) : Prop := ∀ Y, OkY S Y → PTs (S.cx Y) ifs (rdT S Y ρ m)
theorem ets_nil : ETs S ρ [] (pure true) := fun Y ok => ⟨fun pins s σ H Q I ⟨F, g, E, q⟩ => (pts_nil (X := S.cx Y)).run pins s σ H Q I ((post_pure q) g H rfl (.refl E.wf))⟩
theorem ets_one {m : M Bool} (h : ET S ρ c m) : ETs S ρ [c] m := fun Y ok => ⟨fun pins s σ H Q I q => (pts_one (h Y ok)).run pins s σ H Q I q⟩
/-- an expression that may stand right of name = .. too -/
def CompE (S : Sta) (ρ : Ev) (e : Expr) (m : M D) : Prop := ∃ t : Dyn → TE, (∀ Y, OkY S Y → PE (S.cx Y) e (t Y)) ∧ (∀ Y, OkY S Y → ∀ σ H Q, rdX S Y ρ (RN S.pg) m σ H Q → t Y σ H Q) ∧
  ∀ Y, OkY S Y → ∀ (i : Nat) (y : Str) (py spos : Pos), S.N[i]? = some y → S.sc.names.lookup y = some .local → (∀ env : Env, env.scope = S.sc → swapsWith e (some (.Name y py)) spos.line env = pure true) →
    PS (S.cx Y) (.Assign [.Name y py] e spos) (tAsg (t Y) (gName i))
/-- it makes no dict -/
def NoDict (m : M D) : Prop := ∀ s d s', m s = .ok d s' → isDict d = false
theorem en_comp (h : CompE S ρ e m) : EN S ρ e m := fun Y ok => by
  obtain ⟨t, h1, h2, _⟩ := h
  exact (h1 Y ok).pre (h2 Y ok)
theorem upd_new {p : Pg} {g1 g2 : Gs} {H1 H2 : Hp} {a : Addr} {o : HO} (s : Stp p g1 H1 g2 H2) (hn : H1 a = none) (hG : g2.G a = none) (ha : a ∉ g2.am) (hm : ∃ xs, H2 a = some (.lst xs)) : Stp p g1 H1 g2 (upd H2 a o) := by
  refine ⟨s.gle, s.aml, fun b u e n => ?_, s.gnew, s.amn, ⟨fun b u e => ?_, s.wf.amG, s.wf.nd, s.wf.len, fun k b c e1 e2 => ?_⟩⟩
  · rw [upd_ne (ne_of_none e hn)]
    exact s.keep b u e n
  · rw [upd_ne (ne_of_none e hG)]
    exact s.wf.sub b u e
  · have hb : b ≠ a := fun z => ha (by rw [← z]; exact List.mem_of_getElem? e1)
    have h := s.wf.cell k b c e1 e2
    obtain ⟨xs, hm⟩ := hm
    refine h.mono (fun _ _ e => e) (List.prefix_refl _) (upd_ne hb) fun dx e => ?_
    rw [upd_ne (ne_of e hm (by intro z; cases z))]
    exact e
/-- a list comprehension with one clause -/
def lcM (mi : M (List D)) (u : D → M (List D)) (mt : List D → M Bool) (me : List D → M D) : M D :=
  mi >>= fun xs => compM (fun x => u x >>= fun ds => mt ds >>= fun b => if b = true then me ds >>= fun d => pure (some d) else pure none) xs >>= mkL
theorem NoDict.bind {α : Type} {m : M α} {f : α → M D} (h : ∀ a, NoDict (f a)) : NoDict (m >>= f) := fun s d s' e => by
  rw [bind_run] at e
  cases em : m s with
  | ok a t => rw [em] at e; exact h a t d s' e
  | exc c t => rw [em] at e; cases e
  | stuck => rw [em] at e; cases e
theorem mkL_nodict (ds : List D) : NoDict (mkL ds) := fun s d s' h => by
  unfold mkL at h
  by_cases z : ds.length ≤ sizeLine
  · rw [if_pos z] at h
    injection h with h _
    rw [← h]
    rfl
  · rw [if_neg z] at h; cases h
theorem lcM_nodict (mi : M (List D)) (u : D → M (List D)) (mt : List D → M Bool) (me : List D → M D) : NoDict (lcM mi u mt me) := by
  unfold lcM
  exact .bind fun xs => .bind mkL_nodict
theorem lc_read {own : List (Str × Nat)} {u : D → M (List D)} {ix : List Nat} {mt : List D → M Bool} {me : List D → M D} {tt : Dyn → TT} {te : Dyn → TE} {tgt : L2.TG}
    (pu : Pure1 u) (hlen : Len1 u ix.length) (hix : ∀ i ∈ ix, i ∈ own.map (·.2)) {Y : Dyn} (ok : OkY S Y)
    {σ : L2.St} {H : Hp} {Q : VK} (q : rdX S Y ρ (RN S.pg) (lcM mi u mt me) σ H Q)
    (hg : ∀ v σ H Q, (∃ g d, Wf S.pg g H ∧ S.pg.Rp g v d ∧ (u d g.st).Post (fun ds st' => st' = g.st → ∀ ws, S.pg.Rps g ws ds → Q (setS σ ix ws) H) fun _ _ => False) → tgt v σ H Q)
    (ht : ∀ ds σ H Q, ds.length = ix.length → (∃ F g, ER S.pg F (setE (wipeE ρ (own.map (·.2))) ix ds) σ g H ∧ (mt ds g.st).Post (fun b st' => ∀ g' H', g'.st = st' → Stp S.pg g H g' H' → Q b H') fun _ _ => False) → tt Y σ H Q)
    (he : ∀ ds σ H Q, ds.length = ix.length → (∃ F g, ER S.pg F (setE (wipeE ρ (own.map (·.2))) ix ds) σ g H ∧ (me ds g.st).Post (Pv S.pg (RE S.pg) g H Q) fun _ _ => False) → te Y σ H Q) :
    tLc (rdI S Y ρ (TS' S.pg) mi) tgt (tt Y) (te Y) (own.map (·.2)) σ H Q := by
  obtain ⟨F, g, E, q⟩ := q
  refine ⟨F, g, E, (post_bind q).imp (fun xs st' q J g1 H1 e1 s1 wk A hA => ?_) fun _ _ q => q⟩
  subst e1
  -- what is made so far, and what the rest makes
  refine ⟨fun i m H2 => i ≤ xs.length ∧ m = xs.length - i ∧ ∃ g2 vs acc, Stp S.pg g1 H1 g2 H2 ∧ H2 A = some (.lst vs) ∧ S.pg.Rps g2 vs acc ∧ g2.G A = none ∧ A ∉ g2.am ∧
    ((compM (fun x => u x >>= fun ds => mt ds >>= fun b => if b = true then me ds >>= fun d => pure (some d) else pure none) (xs.drop i) >>= fun r => mkL (acc ++ r)) g2.st).Post (Pv S.pg (RN S.pg) g H Q) (Px S Y g H),
    ⟨xs.length, Nat.zero_le _, rfl, g1, [], [], Stp.laid s1.wf hA, upd_same, .nil, s1.wf.freeG hA, s1.wf.freeA hA, q⟩, ?_⟩
  rintro i m H2 ⟨hi, rfl, g2, vs, acc, s2, hD, rv, hG, ha, q⟩
  have sg2 := s1.trans E.wf s2
  by_cases hlt : i < xs.length
  · refine .inr ⟨wk.goes i g2 H2 hlt s2.wf s2, fun H' => i + 1 ≤ xs.length ∧ ∃ g2 vs acc, Stp S.pg g1 H1 g2 H' ∧ H' A = some (.lst vs) ∧ S.pg.Rps g2 vs acc ∧ g2.G A = none ∧ A ∉ g2.am ∧
      ((compM (fun x => u x >>= fun ds => mt ds >>= fun b => if b = true then me ds >>= fun d => pure (some d) else pure none) (xs.drop (i + 1)) >>= fun r => mkL (acc ++ r)) g2.st).Post (Pv S.pg (RN S.pg) g H Q) (Px S Y g H),
      fun H' h => ⟨xs.length - (i + 1), by omega, h.1, rfl, h.2⟩, fun x H' hy => ?_⟩
    obtain ⟨g3, d, e3, s3, hd, rx⟩ := wk.yields i g2 H2 x H' hlt s2.wf s2 hy
    have s23 := s2.trans s1.wf s3
    have sg3 := s1.trans E.wf s23
    have keepD : ∀ {gg : Gs} {HH : Hp}, Stp S.pg g2 H2 gg HH → HH A = some (.lst vs) := fun {gg HH} s => s.keep A _ hD ha
    have keepG : ∀ {gg : Gs} {HH : Hp}, Stp S.pg g2 H2 gg HH → gg.G A = none := fun {gg HH} s => by
      cases z : gg.G A with
      | none => rfl
      | some o =>
        rcases s.gnew A o z with y | y | ⟨ys, y⟩
        · rw [hG] at y; cases y
        · rw [hD] at y; cases y
        · rw [hD] at y; cases y
    have keepA : ∀ {gg : Gs} {HH : Hp}, Stp S.pg g2 H2 gg HH → A ∉ gg.am := fun {gg HH} s h => by
      rcases s.amn A h with y | y
      · exact ha y
      · rw [hD] at y; cases y
    have ed : xs.drop i = d :: xs.drop (i + 1) := by
      rw [List.drop_eq_getElem_cons hlt]
      rw [List.getElem?_eq_getElem hlt] at hd
      cases hd; rfl
    rw [ed, compM, bind_assoc'] at q
    have q := noexc_post q
    rw [← e3] at q
    refine hg x _ H' _ ⟨g3, d, s23.wf, rx, ?_⟩
    have q := post_bind q
    cases eu : u d g3.st with
    | stuck => rw [eu] at q; exact q
    | exc c s => rw [eu] at q; exact q
    | ok ds st4 =>
      rw [eu] at q
      intro es ws rws
      subst es
      have hl := hlen _ _ _ _ eu
      refine ⟨wipe_setS σ _ _ ws hix, ?_⟩
      have E4 := ((E.step sg3).wipe (own.map (·.2))).setMany ix rws
      refine ht ds _ _ _ hl ⟨F, g3, E4, (post_bind q).imp (fun b st5 q g5 H5 e5 s5 => ?_) fun _ _ q => q⟩
      subst e5
      have s25 := s3.trans s2.wf s5
      by_cases hb : b = true
      · rw [if_pos hb]
        rw [if_pos hb] at q
        refine he ds _ _ _ hl ⟨F, g5, E4.step s5, (post_bind q).imp (fun y st6 q v6 g6 H6 e6 s6 r6 => ?_) fun _ _ q => q⟩
        subst e6
        have s26 := s25.trans s2.wf s6
        have q : ((compM (fun x => u x >>= fun ds => mt ds >>= fun b => if b = true then me ds >>= fun d => pure (some d) else pure none) (xs.drop (i + 1)) >>= fun t => mkL (acc ++ y :: t)) g6.st).Post (Pv S.pg (RN S.pg) g H Q) (Px S Y g H) := by
          have q := post_pure q
          rw [bind_assoc'] at q
          exact q
        refine ⟨vs, keepD s26, ?_, hlt, g6, vs ++ [v6], acc ++ [y], upd_new (s2.trans s1.wf s26) hA (keepG s26) (keepA s26) ⟨vs, keepD s26⟩, upd_same, (rv.mono s26.gle s26.aml).append (.cons r6 .nil), keepG s26, keepA s26, ?_⟩
        · rw [rv.length]
          rw [bind_run] at q
          cases er : compM (fun x => u x >>= fun ds => mt ds >>= fun b => if b = true then me ds >>= fun d => pure (some d) else pure none) (xs.drop (i + 1)) g6.st with
          | stuck => rw [er] at q; exact q.elim
          | exc c s => exact (compM_noexc _ _ _ _ _ er).elim
          | ok t s =>
            rw [er] at q
            have q : (mkL (acc ++ y :: t) s).Post _ _ := q
            unfold mkL at q
            by_cases z : (acc ++ y :: t).length ≤ sizeLine
            · rw [List.length_append, List.length_cons] at z
              omega
            · rw [if_neg z] at q
              exact False.elim q
        · have fe : (fun t => mkL (acc ++ y :: t)) = fun t => mkL (acc ++ [y] ++ t) := by
            funext t
            rw [List.append_assoc]
            rfl
          rw [fe] at q
          exact q
      · rw [if_neg hb]
        rw [if_neg hb] at q
        have q : ((compM (fun x => u x >>= fun ds => mt ds >>= fun b => if b = true then me ds >>= fun d => pure (some d) else pure none) (xs.drop (i + 1)) >>= fun t => mkL (acc ++ t)) g5.st).Post (Pv S.pg (RN S.pg) g H Q) (Px S Y g H) := by
          have q := post_pure q
          rw [bind_assoc'] at q
          exact q
        exact ⟨hlt, g5, vs, acc, s2.trans s1.wf s25, keepD s25, rv.mono s25.gle s25.aml, keepG s25, keepA s25, q⟩
  · have ei : i = xs.length := by omega
    subst ei
    rw [List.drop_length, compM] at q
    have q : (mkL (acc ++ []) g2.st).Post (Pv S.pg (RN S.pg) g H Q) (Px S Y g H) := q
    rw [List.append_nil] at q
    unfold mkL at q
    by_cases z : acc.length ≤ sizeLine
    · rw [if_pos z] at q
      exact .inl ⟨wk.stops g2 H2 s2.wf s2, (post_pure q) (.ref A) g2 H2 rfl sg2 ⟨A, rfl, ⟨vs, hD, rv⟩, hG, ha, s1.none_of E.wf hA⟩⟩
    · rw [if_neg z] at q
      exact False.elim q
theorem comp1 {ifs : List Expr} {scope : Scope} {own : List (Str × Nat)} {u : D → M (List D)} {ix : List Nat} {mt : List D → M Bool} {me : List D → M D}
    (hN : S.N.Nodup) (hok : BlkOk S.N S.sc scope own) (hi : EI S ρ (TS' S.pg) tg it mi) (hg : TG (S.blk scope) tg u ix) (pu : Pure1 u) (hlen : Len1 u ix.length) (hix : ∀ i ∈ ix, i ∈ own.map (·.2))
    (ht : ∀ ds, ds.length = ix.length → ETs (S.blk scope) (setE (wipeE ρ (own.map (·.2))) ix ds) ifs (mt ds))
    (he : ∀ ds, ds.length = ix.length → EE (S.blk scope) (setE (wipeE ρ (own.map (·.2))) ix ds) elt (me ds))
    (hs : ∀ (env : Env) (x : Value), foldedSetIterable it env x = pure x) :
    CompE S ρ (.ListComp elt [⟨tg, it, ifs, 0⟩] scope pos) (lcM mi u mt me) := by
  have hT : ∀ Y, OkY S Y → ∀ (s : Shared) (H : Hp) (C : Addr) (cl : List (Str × Addr)) (fp : List Addr), PTs ((S.cx Y).blk s H scope (compEnvC scope cl C (S.cx Y).env) fp) ifs
      (fun σ H Q => ∃ ds, ds.length = ix.length ∧ ∃ F g, ER S.pg F (setE (wipeE ρ (own.map (·.2))) ix ds) σ g H ∧ (mt ds g.st).Post (fun b st' => ∀ g' H', g'.st = st' → Stp S.pg g H g' H' → Q b H') fun _ _ => False) := fun Y ok s H C cl fp =>
    ⟨fun pins s2 σ H2 Q I ⟨ds, hl, F, g, E, q⟩ => (ht ds hl (Y.blk S s H scope C cl fp) (blk_ok ok)).run pins s2 σ H2 Q I ⟨F, g, E, q.imp (fun _ _ q => q) fun _ _ q => q.elim⟩⟩
  have hE : ∀ Y, OkY S Y → ∀ (s : Shared) (H : Hp) (C : Addr) (cl : List (Str × Addr)) (fp : List Addr), PE ((S.cx Y).blk s H scope (compEnvC scope cl C (S.cx Y).env) fp) elt
      (fun σ H Q => ∃ ds, ds.length = ix.length ∧ ∃ F g, ER S.pg F (setE (wipeE ρ (own.map (·.2))) ix ds) σ g H ∧ (me ds g.st).Post (Pv S.pg (RE S.pg) g H Q) fun _ _ => False) := fun Y ok s H C cl fp =>
    ⟨fun pins s2 σ H2 Q I ⟨ds, hl, F, g, E, q⟩ => (he ds hl (Y.blk S s H scope C cl fp) (blk_ok ok)).run pins s2 σ H2 Q I ⟨F, g, E, q.imp (fun _ _ q => q) fun _ _ q => q.elim⟩⟩
  refine ⟨fun Y => tLc (rdI S Y ρ (TS' S.pg) mi) _ _ _ (own.map (·.2)), fun Y ok => pe_lc (X := S.cx Y) rfl hN (hi Y ok) hok (fun s H C cl fp => hg (Y.blk S s H scope C cl fp) (blk_ok ok)) (hT Y ok) (hE Y ok) (hs _), fun Y ok σ H Q q => ?_, fun Y ok i y py spos hy hyl hsw => ?_⟩
  · exact lc_read (tt := fun _ => _) (te := fun _ => _) pu hlen hix ok q (fun v σ H Q h => h) (fun ds σ H Q hl h => ⟨ds, hl, h⟩) fun ds σ H Q hl h => ⟨ds, hl, h⟩
  · exact ps_setLc (X := S.cx Y) rfl hN hy hyl (hsw _ rfl) (hi Y ok) hok (fun s H C cl fp => hg (Y.blk S s H scope C cl fp) (blk_ok ok)) (hT Y ok) (hE Y ok) (hs _)
end
end DL
namespace DL
open PySem PySem.Spec PyProof.Rows L2
/-! ### statements -/
inductive Out (N B : Type) where
  | nx (n : N) | rt (d : D) | bk (b : B) | ct (b : B)
def seqO {N N' B : Type} (k : N → M (Out N' B)) : Out N B → M (Out N' B)
  | .nx n => k n
  | .rt d => pure (.rt d)
  | .bk b => pure (.bk b)
  | .ct b => pure (.ct b)
@[simp] theorem seqO_nx {N N' B : Type} (k : N → M (Out N' B)) (n : N) : seqO k (.nx n) = k n := Eq.trans rfl rfl
@[simp] theorem seqO_rt {N N' B : Type} (k : N → M (Out N' B)) (d : D) : seqO k (.rt d) = pure (.rt d) := Eq.trans rfl rfl
@[simp] theorem seqO_bk {N N' B : Type} (k : N → M (Out N' B)) (d : B) : seqO k (.bk d) = pure (.bk d) := Eq.trans rfl rfl
@[simp] theorem seqO_ct {N N' B : Type} (k : N → M (Out N' B)) (d : B) : seqO k (.ct d) = pure (.ct d) := Eq.trans rfl rfl
/-- what is wanted behind statements -/
def PoO {N B : Type} (p : Pg) (F : Fm) (g : Gs) (shN : N → Ev) (shB : B → Ev) (Dd : Ends) : Out N B → Store → Prop
  | .nx n, st' => ∀ σ' g' H', g'.st = st' → Ltr p g g' → ER p F (shN n) σ' g' H' → Dd.nx σ' H'
  | .rt d, st' => ∀ v g' H', g'.st = st' → Stp p F.g F.H g' H' → p.Rp g' v d → Dd.rt v H'
  | .bk b, st' => ∀ σ' g' H', g'.st = st' → Ltr p g g' → ER p F (shB b) σ' g' H' → Dd.bk σ' H'
  | .ct b, st' => ∀ σ' g' H', g'.st = st' → Ltr p g g' → ER p F (shB b) σ' g' H' → Dd.ct σ' H'
def PxO (S : Sta) (Y : Dyn) (F : Fm) (c : Nat) (st' : Store) : Prop := ∀ g' H', g'.st = st' → Stp S.pg F.g F.H g' H' → Y.W (.ref (S.pg.cA c)) none H'
def rdS {N B : Type} (S : Sta) (Y : Dyn) (ρ : Ev) (m : M (Out N B)) (shN : N → Ev) (shB : B → Ev) : TS := fun Dd σ H => ∃ F g, ER S.pg F ρ σ g H ∧ (m g.st).Post (PoO S.pg F g shN shB Dd) (PxO S Y F)
def SB {N B : Type} (S : Sta) (ρ : Ev) (sts : List Stmt) (m : M (Out N B)) (shN : N → Ev) (shB : B → Ev) : Prop := ∀ Y, OkY S Y → PSs (S.cx Y) sts (rdS S Y ρ m shN shB)
theorem PoO.back {N B : Type} {p : Pg} {F : Fm} {g g1 : Gs} {shN : N → Ev} {shB : B → Ev} {Dd : Ends} {o : Out N B} {st' : Store} (l : Ltr p g g1) (h : PoO p F g shN shB Dd o st') : PoO p F g1 shN shB Dd o st' := by
  cases o with
  | nx n => exact fun σ' g' H' e l2 E => h σ' g' H' e (l.trans l2) E
  | rt d => exact h
  | bk b => exact fun σ' g' H' e l2 E => h σ' g' H' e (l.trans l2) E
  | ct b => exact fun σ' g' H' e l2 E => h σ' g' H' e (l.trans l2) E
section
variable {S : Sta} {ρ ρ' : Ev} {a b c tg it e elt : Expr} {st : Stmt} {body rest ta tb : List Stmt} {tgs : List Expr} {ma mb mc m : M D} {mi : M (List D)} {pos p p2 : Pos} {N B : Type} {shN : N → Ev} {shB : B → Ev}
/-- an expression in a statement: its exceptions are the statement's -/
theorem PxO.of {Y : Dyn} {F : Fm} {σ : L2.St} {g : Gs} {H : Hp} {c : Nat} {st' : Store} (E : ER S.pg F ρ σ g H) (h : PxO S Y F c st') : Px S Y g H c st' :=
  fun g' H' e s => h g' H' e (E.fr.trans E.fw s)
theorem rdS.expr {Y : Dyn} {F : Fm} {σ : L2.St} {g : Gs} {H : Hp} {R : Rel} {N' B' : Type} {k : D → M (Out N' B')} {shN : N' → Ev} {shB : B' → Ev} {Dd : Ends} {Q : VK} (E : ER S.pg F ρ σ g H) (q : ((m >>= k) g.st).Post (PoO S.pg F g shN shB Dd) (PxO S Y F))
    (h : ∀ d v g' H', Stp S.pg g H g' H' → ER S.pg F ρ σ g' H' → R H g' H' v d → (k d g'.st).Post (PoO S.pg F g' shN shB Dd) (PxO S Y F) → Q v H') : rdX S Y ρ R m σ H Q :=
  ⟨F, g, E, (post_bind q).imp (fun d st' q v g' H' e s r => h d v g' H' s (E.step s) r (by rw [e]; exact q.imp (fun _ _ q => q.back s.ltr) fun _ _ q => q)) fun _ _ q => PxO.of E q⟩
theorem rdS.test {Y : Dyn} {F : Fm} {σ : L2.St} {g : Gs} {H : Hp} {N' B' : Type} {t : M Bool} {k : Bool → M (Out N' B')} {shN : N' → Ev} {shB : B' → Ev} {Dd : Ends} {Q : Bool → Hp → Prop} (E : ER S.pg F ρ σ g H) (q : ((t >>= k) g.st).Post (PoO S.pg F g shN shB Dd) (PxO S Y F))
    (h : ∀ d g' H', Stp S.pg g H g' H' → ER S.pg F ρ σ g' H' → (k d g'.st).Post (PoO S.pg F g' shN shB Dd) (PxO S Y F) → Q d H') : rdT S Y ρ t σ H Q :=
  ⟨F, g, E, (post_bind q).imp (fun d st' q g' H' e s => h d g' H' s (E.step s) (by rw [e]; exact q.imp (fun _ _ q => q.back s.ltr) fun _ _ q => q)) fun _ _ q => PxO.of E q⟩
theorem sb_pre {m : M (Out N B)} (h : SB S ρ' rest m shN shB) (l : Le ρ' ρ) : SB S ρ rest m shN shB := fun Y ok => (h Y ok).pre fun Dd σ H ⟨F, g, E, q⟩ => ⟨F, g, E.weak l, q⟩
theorem sb_nil {n : N} (l : Le (shN n) ρ) : SB S ρ [] (pure (.nx n)) shN shB := fun Y ok => pss_nil.pre fun Dd σ H ⟨F, g, E, q⟩ => (post_pure q) σ g H rfl (.refl g) (E.weak l)
/-- name = e -/
theorem sb_asg (i : Nat) {x : Str} {k : D → M (Out N B)} (hnd : S.N.Nodup) (hN : S.N[i]? = some x) (hx : Loc S.sc x) (he : EE S ρ e m) (hr : ∀ d, SB S (ρ.set i (.sh d)) rest (k d) shN shB) (hs : ∀ env : Env, env.scope = S.sc → swapsWith e (some (.Name x p2)) pos.line env = pure false) (hf : S.fn x = true ∨ S.sc.names.lookup x = some .local) :
    SB S ρ (.Assign [.Name x p2] e pos :: rest) (m >>= k) shN shB := fun Y ok => by
  have hR : PSs (S.cx Y) rest (fun Dd σ H => ∃ d, rdS S Y (ρ.set i (.sh d)) (k d) shN shB Dd σ H) := ⟨fun pins s σ H Dd I ⟨d, q⟩ => (hr d Y ok).run pins s σ H Dd I q⟩
  refine (pss_cons (ps_set (X := S.cx Y) (i := i) hnd hN hx (he Y ok) (hs _ rfl) hf) hR).pre fun Dd σ H ⟨F, g, E, q⟩ => ?_
  exact rdS.expr E q fun d v g' H' s E' r q => ⟨d, F, g', E'.set r, q⟩
/-- .. a fresh list or dict, that the name alone holds -/
theorem sb_asgN (i : Nat) {x : Str} {k : D → M (Out N B)} (hnd : S.N.Nodup) (hN : S.N[i]? = some x) (hx : Loc S.sc x) (he : EN S ρ e m) (hr : ∀ d, SB S (ρ.set i (.ow d)) rest (k d) shN shB) (hs : ∀ env : Env, env.scope = S.sc → swapsWith e (some (.Name x p2)) pos.line env = pure false) (hf : S.fn x = true ∨ S.sc.names.lookup x = some .local) :
    SB S ρ (.Assign [.Name x p2] e pos :: rest) (m >>= k) shN shB := fun Y ok => by
  have hR : PSs (S.cx Y) rest (fun Dd σ H => ∃ d, rdS S Y (ρ.set i (.ow d)) (k d) shN shB Dd σ H) := ⟨fun pins s σ H Dd I ⟨d, q⟩ => (hr d Y ok).run pins s σ H Dd I q⟩
  refine (pss_cons (ps_set (X := S.cx Y) (i := i) hnd hN hx (he Y ok) (hs _ rfl) hf) hR).pre fun Dd σ H ⟨F, g, E, q⟩ => ?_
  exact rdS.expr E q fun d v g' H' s E' r q => ⟨d, F, g', E.setOwn s r, q⟩
/-- .. a comprehension, its list not written later -/
theorem sb_asgC (i : Nat) {x : Str} {k : D → M (Out N B)} (hnd : S.N.Nodup) (hN : S.N[i]? = some x) (hx : S.sc.names.lookup x = some .local) (he : CompE S ρ e m) (nd : NoDict m) (hr : ∀ d, SB S (ρ.set i (.sh d)) rest (k d) shN shB) (hs : ∀ env : Env, env.scope = S.sc → swapsWith e (some (.Name x p2)) pos.line env = pure true) :
    SB S ρ (.Assign [.Name x p2] e pos :: rest) (m >>= k) shN shB := fun Y ok => by
  have hR : PSs (S.cx Y) rest (fun Dd σ H => ∃ d, rdS S Y (ρ.set i (.sh d)) (k d) shN shB Dd σ H) := ⟨fun pins s σ H Dd I ⟨d, q⟩ => (hr d Y ok).run pins s σ H Dd I q⟩
  obtain ⟨t, h1, h2, h3⟩ := he
  refine (pss_cons (h3 Y ok i x p2 pos hN hx hs) hR).pre fun Dd σ H ⟨F, g, E, q⟩ => h2 Y ok σ H _ ?_
  have em : (m >>= k) g.st = (m >>= fun d => if isDict d = true then stuck else k d) g.st := by
    rw [bind_run, bind_run]
    cases em : m g.st with
    | ok d s' => simp only [nd _ _ _ em, if_neg Bool.false_ne_true]
    | _ => rfl
  rw [em] at q
  refine rdS.expr E q fun d v g' H' s E' r q => ?_
  have ndd : isDict d = false := by
    cases z : isDict d with
    | false => rfl
    | true => simp only [z, if_true] at q; exact q.elim
  simp only [ndd, if_neg Bool.false_ne_true] at q
  obtain ⟨g2, e2, s2, r2, l1, l2⟩ := NewR.frozen E.wf s r ndd
  refine ⟨d, F, g2, (E.step s2).set r2, ?_⟩
  rw [e2]
  exact q.imp (fun o st' q => q.back ⟨l1, l2⟩) fun _ _ q => q
/-- .. written later -/
theorem sb_asgCN (i : Nat) {x : Str} {k : D → M (Out N B)} (hnd : S.N.Nodup) (hN : S.N[i]? = some x) (hx : S.sc.names.lookup x = some .local) (he : CompE S ρ e m) (hr : ∀ d, SB S (ρ.set i (.ow d)) rest (k d) shN shB) (hs : ∀ env : Env, env.scope = S.sc → swapsWith e (some (.Name x p2)) pos.line env = pure true) :
    SB S ρ (.Assign [.Name x p2] e pos :: rest) (m >>= k) shN shB := fun Y ok => by
  have hR : PSs (S.cx Y) rest (fun Dd σ H => ∃ d, rdS S Y (ρ.set i (.ow d)) (k d) shN shB Dd σ H) := ⟨fun pins s σ H Dd I ⟨d, q⟩ => (hr d Y ok).run pins s σ H Dd I q⟩
  obtain ⟨t, h1, h2, h3⟩ := he
  refine (pss_cons (h3 Y ok i x p2 pos hN hx hs) hR).pre fun Dd σ H ⟨F, g, E, q⟩ => h2 Y ok σ H _ ?_
  exact rdS.expr E q fun d v g' H' s E' r q => ⟨d, F, g', E.setOwn s r, q⟩
/-- a slot is frozen -/
theorem ER.freeze {p : Pg} {F : Fm} {σ : L2.St} {g : Gs} {H : Hp} (E : ER p F ρ σ g H) {i : Nat} {d : D} (hi : ρ[i]? = some (.ow d)) (nd : isDict d = false) : ∃ g', g'.st = g.st ∧ Ltr p g g' ∧ ER p F (ρ.set i (.sh d)) σ g' H := by
  have h := E.sl i _ hi
  cases es : σ[i]? with
  | none => rw [es] at h; exact h.elim
  | some o =>
    rw [es] at h
    cases o with
    | none => exact h.elim
    | some v =>
      obtain ⟨a, rfl, o, hG, ha, hF⟩ := h
      obtain ⟨u, e, wf', le, r⟩ := o.frozen E.wf hG ha nd
      refine ⟨{ g with G := upd g.G a u }, rfl, ⟨le, List.prefix_refl _⟩, ⟨by rw [List.length_set]; exact E.len, fun j s hj => ?_, fun x y d1 e1 h1 h2 h3 => ?_, ⟨fun b x q => le b x (E.fr.gle b x q), E.fr.aml, E.fr.keep, fun b x q => ?_, E.fr.amn, wf'⟩, E.fw⟩⟩
      · by_cases z : i = j
        · subst z
          have hl : i < ρ.length := (List.getElem?_eq_some_iff.mp hi).1
          rw [List.getElem?_set_self hl] at hj
          cases hj
          rw [es]
          exact r
        · rw [List.getElem?_set_ne z] at hj
          have h := E.sl j s hj
          cases s with
          | un => cases σ[j]?.join <;> exact True.intro
          | sh d2 =>
            cases e3 : σ[j]?.join with
            | none => rw [e3] at h; exact h.elim
            | some v => rw [e3] at h; exact Rp.mono le (List.prefix_refl _) h
          | ow d2 =>
            cases e3 : σ[j]?.join with
            | none => rw [e3] at h; exact h.elim
            | some v =>
              rw [e3] at h
              obtain ⟨b, rfl, o2, hG2, ha2, hF2⟩ := h
              have hab : b ≠ a := fun z2 => by
                subst z2
                refine z (E.dist i j d d2 hi hj ?_)
                rw [es]
                cases e4 : σ[j]? with
                | none => rw [e4] at e3; cases e3
                | some w =>
                  rw [e4] at e3
                  cases w with
                  | none => cases e3
                  | some w => cases e3; rfl
              refine ⟨b, rfl, o2.mono le (List.prefix_refl _) rfl, ?_, ha2, hF2⟩
              show upd g.G a u b = none
              rw [upd_ne hab]
              exact hG2
          | bo d2 =>
            cases e3 : σ[j]?.join with
            | none => rw [e3] at h; exact h.elim
            | some v =>
              rw [e3] at h
              rcases h with h | ⟨b, rfl, n, o2, hF2⟩
              · exact .inl (Rp.mono le (List.prefix_refl _) h)
              · exact .inr ⟨b, rfl, n, o2.mono le (List.prefix_refl _) rfl, hF2⟩
      · have ne : ∀ {c : Nat} {x : D}, (ρ.set i (.sh d))[c]? = some (.ow x) → ρ[c]? = some (.ow x) := fun {c x} h => by
          by_cases z : i = c
          · subst z
            have hl : i < ρ.length := (List.getElem?_eq_some_iff.mp hi).1
            rw [List.getElem?_set_self hl] at h; cases h
          · rw [List.getElem?_set_ne z] at h; exact h
        exact E.dist x y d1 e1 (ne h1) (ne h2) h3
      · have q : upd g.G a u b = some x := q
        by_cases z : b = a
        · subst z; exact .inr (.inl hF)
        · rw [upd_ne z] at q; exact E.fr.gnew b x q
theorem ER.freezeD {p : Pg} {F : Fm} {σ : L2.St} {g : Gs} {H : Hp} (E : ER p F ρ σ g H) {i : Nat} {d : D} (hi : ρ[i]? = some (.ow d)) (nd : isDict d = true) :
    ∃ a u, H a = some u ∧ Mut (some u) ∧ ∀ od, ∃ g', g'.st = g.st ∧ Ltr p g g' ∧ ER p F (ρ.set i (.sh d)) σ g' (upd H a (.frz od u)) := by
  have h := E.sl i _ hi
  cases es : σ[i]? with
  | none => rw [es] at h; exact h.elim
  | some o =>
    rw [es] at h
    cases o with
    | none => exact h.elim
    | some v =>
      obtain ⟨a, rfl, o, hG, ha, hF⟩ := h
      obtain ⟨u, e, mu, hh⟩ := o.locked E.wf hG ha nd
      refine ⟨a, u, e, mu, fun od => ?_⟩
      obtain ⟨wf', le, r⟩ := hh od
      refine ⟨{ g with G := upd g.G a (.frz od u) }, rfl, ⟨le, List.prefix_refl _⟩, ⟨by rw [List.length_set]; exact E.len, fun j s hj => ?_, fun x y d1 e1 h1 h2 h3 => ?_, ⟨fun b x q => le b x (E.fr.gle b x q), E.fr.aml, fun b x q n => ?_, fun b x q => ?_, E.fr.amn, wf'⟩, E.fw⟩⟩
      · by_cases z : i = j
        · subst z
          have hl : i < ρ.length := (List.getElem?_eq_some_iff.mp hi).1
          rw [List.getElem?_set_self hl] at hj
          cases hj
          rw [es]
          exact r
        · rw [List.getElem?_set_ne z] at hj
          have h := E.sl j s hj
          cases s with
          | un => cases σ[j]?.join <;> exact True.intro
          | sh d2 =>
            cases e3 : σ[j]?.join with
            | none => rw [e3] at h; exact h.elim
            | some v => rw [e3] at h; exact Rp.mono le (List.prefix_refl _) h
          | ow d2 =>
            cases e3 : σ[j]?.join with
            | none => rw [e3] at h; exact h.elim
            | some v =>
              rw [e3] at h
              obtain ⟨b, rfl, o2, hG2, ha2, hF2⟩ := h
              have hab : b ≠ a := fun z2 => by
                subst z2
                refine z (E.dist i j d d2 hi hj ?_)
                rw [es]
                cases e4 : σ[j]? with
                | none => rw [e4] at e3; cases e3
                | some w =>
                  rw [e4] at e3
                  cases w with
                  | none => cases e3
                  | some w => cases e3; rfl
              refine ⟨b, rfl, o2.mono le (List.prefix_refl _) (upd_ne hab), ?_, ha2, hF2⟩
              show upd g.G a _ b = none
              rw [upd_ne hab]
              exact hG2
          | bo d2 =>
            cases e3 : σ[j]?.join with
            | none => rw [e3] at h; exact h.elim
            | some v =>
              rw [e3] at h
              rcases h with h | ⟨b, rfl, n, o2, o3, hF2⟩
              · exact .inl (Rp.mono le (List.prefix_refl _) h)
              · exact .inr ⟨b, rfl, n, o2.mono le (List.prefix_refl _) (upd_ne (ne_of_none hF2 hF)), o3, hF2⟩
      · have ne : ∀ {c : Nat} {x : D}, (ρ.set i (.sh d))[c]? = some (.ow x) → ρ[c]? = some (.ow x) := fun {c x} h => by
          by_cases z : i = c
          · subst z
            have hl : i < ρ.length := (List.getElem?_eq_some_iff.mp hi).1
            rw [List.getElem?_set_self hl] at h; cases h
          · rw [List.getElem?_set_ne z] at h; exact h
        exact E.dist x y d1 e1 (ne h1) (ne h2) h3
      · rw [upd_ne (ne_of_none q hF)]
        exact E.fr.keep b x q n
      · have q : upd g.G a (.frz od u) b = some x := q
        by_cases z : b = a
        · subst z; exact .inr (.inl hF)
        · rw [upd_ne z] at q; exact E.fr.gnew b x q
theorem sb_freeze (i : Nat) {d : D} {m : M (Out N B)} (hi : ρ[i]? = some (.ow d)) (h : SB S (ρ.set i (.sh d)) rest m shN shB) : SB S ρ rest m shN shB := fun Y ok => ⟨fun pins s σ H Dd I ⟨F, g, E, q⟩ => by
  have fin : ∀ g' : Gs, g'.st = g.st → Ltr S.pg g g' → (m g'.st).Post (PoO S.pg F g' shN shB Dd) (PxO S Y F) := fun g' e l => by
    rw [e]
    exact q.imp (fun _ _ q => q.back l) fun _ _ q => q
  cases nd : isDict d with
  | false =>
    obtain ⟨g', e, l, E'⟩ := E.freeze hi nd
    exact (h Y ok).run pins s σ H Dd I ⟨F, g', E', fin g' e l⟩
  | true =>
    obtain ⟨a, u, eu, mu, hh⟩ := E.freezeD hi nd
    obtain ⟨od, I2⟩ := I.lock eu mu
    obtain ⟨g', e, l, E'⟩ := hh od
    exact (h Y ok).run pins s σ _ Dd I2 ⟨F, g', E', fin g' e l⟩⟩
/-- a, b = e -/
theorem sb_asgT {u : D → M (List D)} {ix : List Nat} {k : List D → M (Out N B)} (he : EE S ρ e m) (hg : TG S tg u ix) (pu : Pure1 u) (hlen : Len1 u ix.length) (hr : ∀ ds, ds.length = ix.length → SB S (setE ρ ix ds) rest (k ds) shN shB)
    (hs : ∀ env : Env, env.scope = S.sc → swapsWithSole [tg] e pos.line env = pure false) (hw : ∀ env : Env, env.scope = S.sc → swappedStores [tg] e env = pure none) (h1 : ∀ env : Env, (assignEach [tg] env).map (·.2) = [assign tg env]) :
    SB S ρ (.Assign [tg] e pos :: rest) (m >>= fun d => u d >>= k) shN shB := fun Y ok => by
  have hR : PSs (S.cx Y) rest (fun Dd σ H => ∃ ds, ds.length = ix.length ∧ rdS S Y (setE ρ ix ds) (k ds) shN shB Dd σ H) := ⟨fun pins s σ H Dd I ⟨d, hl, q⟩ => (hr d hl Y ok).run pins s σ H Dd I q⟩
  refine (pss_cons (ps_asg (X := S.cx Y) (he Y ok) (hg Y ok) (hs _ rfl) (hw _ rfl) (h1 _)) hR).pre fun Dd σ H ⟨F, g, E, q⟩ => ?_
  refine rdS.expr E q fun d v g' H' s E' r q => ⟨g', d, E'.wf, r, ?_⟩
  have q := post_bind q
  cases e1 : u d g'.st with
  | stuck => rw [e1] at q; exact q
  | exc c s => exact (pu.nx _ _ _ _ e1).elim
  | ok ds s1 =>
    rw [e1] at q
    intro es ws rw1
    subst es
    exact ⟨ds, hlen _ _ _ _ e1, F, g', E'.setMany ix rw1, q⟩
/-- an expression whose value is dropped -/
theorem sb_expr {k : M (Out N B)} (he : EL S ρ e m) (hr : SB S ρ rest k shN shB) (hs : ∀ env : Env, swapsWith e none pos.line env = pure false) : SB S ρ (.Expr e pos :: rest) (m >>= fun _ => k) shN shB := fun Y ok =>
  (pss_cons (ps_expr (he Y ok) (hs _)) (hr Y ok)).pre fun Dd σ H ⟨F, g, E, q⟩ => rdS.expr E q fun d v g' H' s E' r q => ⟨F, g', E', q⟩
theorem sb_pass {m : M (Out N B)} (hr : SB S ρ rest m shN shB) : SB S ρ (.Pass pos :: rest) m shN shB := fun Y ok => (pss_cons ps_pass (hr Y ok)).pre fun Dd σ H q => q
/-- return -/
theorem sb_ret (he : EE S ρ e m) : SB S ρ (.Return (some e) pos :: rest) (m >>= fun d => pure (.rt d)) shN shB := fun Y ok =>
  (pss_cons (ps_ret (he Y ok)) pss_never).pre fun Dd σ H ⟨F, g, E, q⟩ => rdS.expr E q fun d v g' H' s E' r q => (post_pure q) v g' H' rfl E'.fr r
theorem sb_retN : SB S ρ (.Return none pos :: rest) (pure (.rt .non)) shN shB := fun Y ok =>
  (pss_cons ps_retN pss_never).pre fun Dd σ H ⟨F, g, E, q⟩ => (post_pure q) .non g H rfl E.fr .non
theorem sb_break {n : B} (l : Le (shB n) ρ) : SB S ρ (.Break pos :: rest) (pure (.bk n)) shN shB := fun Y ok =>
  (pss_cons ps_break pss_never).pre fun Dd σ H ⟨F, g, E, q⟩ => (post_pure q) σ g H rfl (.refl g) (E.weak l)
theorem sb_cont {n : B} (l : Le (shB n) ρ) : SB S ρ (.Continue pos :: rest) (pure (.ct n)) shN shB := fun Y ok =>
  (pss_cons ps_continue pss_never).pre fun Dd σ H ⟨F, g, E, q⟩ => (post_pure q) σ g H rfl (.refl g) (E.weak l)
/-- if -/
theorem sb_if {J : Type} {shJ : J → Ev} {t : M Bool} {mA mB : M (Out J B)} {k : J → M (Out N B)} (hc : ET S ρ c t) (hA : SB S ρ ta mA shJ shB) (hB : SB S ρ tb mB shJ shB) (hr : ∀ j, SB S (shJ j) rest (k j) shN shB) :
    SB S ρ (.If c ta tb pos :: rest) (t >>= fun b => (if b = true then mA else mB) >>= seqO k) shN shB := fun Y ok => by
  have hR : PSs (S.cx Y) rest (fun Dd σ H => ∃ j, rdS S Y (shJ j) (k j) shN shB Dd σ H) := ⟨fun pins s σ H Dd I ⟨d, q⟩ => (hr d Y ok).run pins s σ H Dd I q⟩
  refine (pss_cons (ps_if (hc Y ok) (hA Y ok) (hB Y ok)) hR).pre fun Dd σ H ⟨F, g, E, q⟩ => ?_
  refine rdS.test E q fun b g' H' s E' q => ?_
  have core : ∀ mX : M (Out J B), ((mX >>= seqO k) g'.st).Post (PoO S.pg F g' shN shB Dd) (PxO S Y F) → rdS S Y ρ mX shJ shB { Dd with nx := fun σ H => ∃ j, rdS S Y (shJ j) (k j) shN shB Dd σ H } σ H' := fun mX q =>
    ⟨F, g', E', (post_bind q).imp (fun o st' q => by
      cases o with
      | nx j => exact fun σ2 g2 H2 e l E2 => ⟨j, F, g2, E2, by rw [e]; exact q.imp (fun _ _ q => q.back l) fun _ _ q => q⟩
      | rt d => exact q
      | bk b => exact q
      | ct b => exact q) fun _ _ q => q⟩
  by_cases z : b = true
  · rw [if_pos z] at q ⊢
    exact core mA q
  · rw [if_neg z] at q ⊢
    exact core mB q
/-! loops -/
def forL {Z B : Type} (step : Z → D → M (Out Z Z)) : Z → List D → M (Out Z B)
  | s, [] => pure (.nx s)
  | s, d :: r => step s d >>= fun o => match o with
    | .nx s' => forL step s' r
    | .ct s' => forL step s' r
    | .bk s' => pure (.nx s')
    | .rt v => pure (.rt v)
def whileL {Z B : Type} (t : Z → M Bool) (step : Z → M (Out Z Z)) : Nat → Z → M (Out Z B)
  | 0, _ => stuck
  | n + 1, s => t s >>= fun b => if b = true then step s >>= fun o => match o with
    | .nx s' => whileL t step n s'
    | .ct s' => whileL t step n s'
    | .bk s' => pure (.nx s')
    | .rt v => pure (.rt v) else pure (.nx s)
theorem sb_for {Z : Type} {sh : Z → Ev} {s0 : Z} {u : D → M (List D)} {ix : List Nat} {step : Z → List D → M (Out Z Z)} {k : Z → M (Out N B)} (hi : EI S ρ (TL S.pg) tg it mi) (hg : TG S tg u ix) (pu : Pure1 u) (hlen : Len1 u ix.length) (h0 : Le (sh s0) ρ)
    (hb : ∀ s ds, ds.length = ix.length → SB S (setE (sh s) ix ds) body (step s ds) sh sh) (hr : ∀ s, SB S (sh s) rest (k s) shN shB) (hs : ∀ (env : Env) (x : Value), foldedSetIterable it env x = pure x) :
    SB S ρ (.For tg it body [] pos :: rest) (mi >>= fun xs => forL (fun s x => u x >>= step s) s0 xs >>= seqO k) shN shB := fun Y ok => by
  have hR : PSs (S.cx Y) rest (fun Dd σ H => ∃ j, rdS S Y (sh j) (k j) shN shB Dd σ H) := ⟨fun pins s σ H Dd I ⟨d, q⟩ => (hr d Y ok).run pins s σ H Dd I q⟩
  have hB : PSs (S.cx Y) body (fun Dd σ H => ∃ s ds, ds.length = ix.length ∧ rdS S Y (setE (sh s) ix ds) (step s ds) sh sh Dd σ H) := ⟨fun pins s σ H Dd I ⟨z, d, hl, q⟩ => (hb z d hl Y ok).run pins s σ H Dd I q⟩
  refine (pss_cons (ps_for (X := S.cx Y) ok.pass rfl (hi Y ok) (hg Y ok) hB (hs _)) hR).pre fun Dd σ H ⟨F, g, E, q⟩ => ?_
  refine ⟨F, g, E, (post_bind q).imp (fun xs st' q J g1 H1 e1 s1 wk => ?_) fun _ _ q => PxO.of E q⟩
  subst e1
  have E1 := E.step s1
  refine ⟨fun i m σ H => i ≤ xs.length ∧ m = xs.length - i ∧ ∃ g2 s, ER S.pg F (sh s) σ g2 H ∧ Ltr S.pg g1 g2 ∧ ((forL (fun s x => u x >>= step s) s (xs.drop i) >>= seqO k) g2.st).Post (PoO S.pg F g shN shB Dd) (PxO S Y F),
    ⟨xs.length, Nat.zero_le _, rfl, g1, s0, E1.weak h0, .refl g1, q⟩, ?_⟩
  rintro i m σ2 H2 ⟨hi, rfl, g2, s, E2, l2, q⟩
  have lg : Ltr S.pg g g2 := s1.ltr.trans l2
  by_cases hlt : i < xs.length
  · refine .inr ⟨wk.goes i g2 H2 hlt E2.wf l2, fun σ' H' => i + 1 ≤ xs.length ∧ ∃ g2 s, ER S.pg F (sh s) σ' g2 H' ∧ Ltr S.pg g1 g2 ∧ ((forL (fun s x => u x >>= step s) s (xs.drop (i + 1)) >>= seqO k) g2.st).Post (PoO S.pg F g shN shB Dd) (PxO S Y F),
      fun σ' H' h => ⟨xs.length - (i + 1), by omega, h.1, rfl, h.2⟩, fun x H' hy => ?_⟩
    obtain ⟨g3, d, e3, s3, hd, rx⟩ := wk.yields i g2 H2 x H' hlt E2.wf l2 hy
    have ed : xs.drop i = d :: xs.drop (i + 1) := by
      rw [List.drop_eq_getElem_cons hlt]
      rw [List.getElem?_eq_getElem hlt] at hd
      cases hd; rfl
    rw [ed, forL, bind_assoc', bind_assoc'] at q
    refine ⟨g3, d, s3.wf, rx, ?_⟩
    rw [← e3] at q
    have q := post_bind q
    cases eu : u d g3.st with
    | stuck => rw [eu] at q; exact q
    | exc c s => exact (pu.nx _ _ _ _ eu).elim
    | ok ds st4 =>
      rw [eu] at q
      intro es ws rws
      subst es
      refine ⟨s, ds, hlen _ _ _ _ eu, F, g3, (E2.step s3).setMany ix rws, (post_bind q).imp (fun o st5 q => ?_) fun _ _ q => q⟩
      cases o with
      | nx z => exact fun σ5 g5 H5 e5 l5 E5 => ⟨hlt, g5, z, E5, (l2.trans s3.ltr).trans l5, by rw [e5]; exact q⟩
      | ct z => exact fun σ5 g5 H5 e5 l5 E5 => ⟨hlt, g5, z, E5, (l2.trans s3.ltr).trans l5, by rw [e5]; exact q⟩
      | bk z => exact fun σ5 g5 H5 e5 l5 E5 => ⟨z, F, g5, E5, by rw [e5]; exact q.imp (fun _ _ q => q.back ((lg.trans s3.ltr).trans l5)) fun _ _ q => q⟩
      | rt v => exact q
  · have ei : i = xs.length := by omega
    subst ei
    rw [List.drop_length, forL] at q
    exact .inl ⟨wk.stops g2 H2 E2.wf l2, s, F, g2, E2, q.imp (fun _ _ q => q.back lg) fun _ _ q => q⟩
theorem sb_while {Z : Type} {sh : Z → Ev} {s0 : Z} {t : Z → M Bool} {step : Z → M (Out Z Z)} {k : Z → M (Out N B)} {fuel : Nat} (hc : ∀ s, ET S (sh s) c (t s)) (h0 : Le (sh s0) ρ)
    (hb : ∀ s, SB S (sh s) body (step s) sh sh) (hr : ∀ s, SB S (sh s) rest (k s) shN shB) : SB S ρ (.While c body [] pos :: rest) (whileL t step fuel s0 >>= seqO k) shN shB := fun Y ok => by
  have hR : PSs (S.cx Y) rest (fun Dd σ H => ∃ j, rdS S Y (sh j) (k j) shN shB Dd σ H) := ⟨fun pins s σ H Dd I ⟨d, q⟩ => (hr d Y ok).run pins s σ H Dd I q⟩
  have hB : PSs (S.cx Y) body (fun Dd σ H => ∃ s, rdS S Y (sh s) (step s) sh sh Dd σ H) := ⟨fun pins s σ H Dd I ⟨z, q⟩ => (hb z Y ok).run pins s σ H Dd I q⟩
  have hC : PT (S.cx Y) c (fun σ H Q => ∃ s, rdT S Y (sh s) (t s) σ H Q) := ⟨fun pins st σ H Q I ⟨z, q⟩ => (hc z Y ok).run pins st σ H Q I q⟩
  refine (pss_cons (ps_while (X := S.cx Y) ok.pass hC hB) hR).pre fun Dd σ H ⟨F, g, E, q⟩ => ?_
  refine ⟨fun m σ H => ∃ g2 s, ER S.pg F (sh s) σ g2 H ∧ Ltr S.pg g g2 ∧ ((whileL t step m s >>= seqO k) g2.st).Post (PoO S.pg F g shN shB Dd) (PxO S Y F), ⟨fuel, g, s0, E.weak h0, .refl g, q⟩, ?_⟩
  rintro m σ2 H2 ⟨g2, s, E2, l2, q⟩
  cases m with
  | zero => exact False.elim q
  | succ n =>
    rw [whileL, bind_assoc'] at q
    refine ⟨s, F, g2, E2, (post_bind q).imp (fun b st' q g3 H3 e3 s3 => ?_) fun _ _ q => PxO.of E2 q⟩
    subst e3
    have E3 := E2.step s3
    have l3 := l2.trans s3.ltr
    by_cases z : b = true
    · rw [if_pos z] at q ⊢
      rw [bind_assoc'] at q
      refine ⟨fun σ' H' => ∃ g2 s, ER S.pg F (sh s) σ' g2 H' ∧ Ltr S.pg g g2 ∧ ((whileL t step n s >>= seqO k) g2.st).Post (PoO S.pg F g shN shB Dd) (PxO S Y F), fun σ' H' h => ⟨n, Nat.lt_succ_self n, h⟩, s, F, g3, E3, (post_bind q).imp (fun o st5 q => ?_) fun _ _ q => q⟩
      cases o with
      | nx z => exact fun σ5 g5 H5 e5 l5 E5 => ⟨g5, z, E5, l3.trans l5, by rw [e5]; exact q⟩
      | ct z => exact fun σ5 g5 H5 e5 l5 E5 => ⟨g5, z, E5, l3.trans l5, by rw [e5]; exact q⟩
      | bk z => exact fun σ5 g5 H5 e5 l5 E5 => ⟨z, F, g5, E5, by rw [e5]; exact q.imp (fun _ _ q => q.back (l3.trans l5)) fun _ _ q => q⟩
      | rt v => exact q
    · rw [if_neg z] at q ⊢
      exact ⟨s, F, g3, E3, q.imp (fun _ _ q => q.back l3) fun _ _ q => q⟩
end
end DL
namespace DL
open PySem PySem.Spec PyProof.Rows L2
/-! ### a list or dict that a name alone holds is written -/
section
variable {p : Pg} {F : Fm} {ρ : Ev} {σ : L2.St} {g : Gs} {H : Hp}
theorem ER.updOwn (E : ER p F ρ σ g H) {i : Nat} {d d' : D} (hi : ρ[i]? = some (.ow d)) {a : Addr} (hv : σ[i]? = some (some (.ref a))) {o : HO} (h' : Own p g (upd H a o) a d') : ER p F (ρ.set i (.ow d')) σ g (upd H a o) := by
  have h := E.sl i _ hi
  rw [hv] at h
  obtain ⟨a', e, o0, hG, ha, hF⟩ := h
  cases e
  obtain ⟨u, hu, nt, mu, no⟩ := o0.at
  have wf' : Wf p g (upd H a o) := by
    refine ⟨fun b x e => ?_, E.wf.amG, E.wf.nd, E.wf.len, fun k b c e1 e2 => ?_⟩
    · rw [upd_ne (ne_of_none e hG)]
      exact E.wf.sub b x e
    · have hb : b ≠ a := fun z => ha (by rw [← z]; exact List.mem_of_getElem? e1)
      refine (E.wf.cell k b c e1 e2).mono (fun _ _ e => e) (List.prefix_refl _) (upd_ne hb) fun dx e => ?_
      rw [upd_ne (ne_of e hu fun z => no b z.symm)]
      exact e
  refine ⟨by rw [List.length_set]; exact E.len, fun j s hj => ?_, fun x y d1 e1 h1 h2 h3 => ?_, ⟨E.fr.gle, E.fr.aml, fun b x e n => ?_, E.fr.gnew, E.fr.amn, wf'⟩, E.fw⟩
  · by_cases z : i = j
    · subst z
      have hl : i < ρ.length := (List.getElem?_eq_some_iff.mp hi).1
      rw [List.getElem?_set_self hl] at hj
      cases hj
      rw [hv]
      exact ⟨a, rfl, h', hG, ha, hF⟩
    · rw [List.getElem?_set_ne z] at hj
      have h := E.sl j s hj
      cases s with
      | un => cases σ[j]?.join <;> exact True.intro
      | sh d2 =>
        cases e3 : σ[j]?.join with
        | none => rw [e3] at h; exact h.elim
        | some v => rw [e3] at h; exact h
      | ow d2 =>
        cases e3 : σ[j]?.join with
        | none => rw [e3] at h; exact h.elim
        | some v =>
          rw [e3] at h
          obtain ⟨b, rfl, o2, hG2, ha2, hF2⟩ := h
          have hab : b ≠ a := fun z2 => by
            subst z2
            refine z (E.dist i j d d2 hi hj ?_)
            rw [hv]
            cases e4 : σ[j]? with
            | none => rw [e4] at e3; cases e3
            | some w =>
              rw [e4] at e3
              cases w with
              | none => cases e3
              | some w => cases e3; rfl
          exact ⟨b, rfl, o2.mono (fun _ _ e => e) (List.prefix_refl _) (upd_ne hab), hG2, ha2, hF2⟩
      | bo d2 =>
        cases e3 : σ[j]?.join with
        | none => rw [e3] at h; exact h.elim
        | some v =>
          rw [e3] at h
          rcases h with h | ⟨b, rfl, n, o2, o3, hF2⟩
          · exact .inl h
          · have hab : b ≠ a := ne_of_none hF2 hF
            exact .inr ⟨b, rfl, n, o2.mono (fun _ _ e => e) (List.prefix_refl _) (upd_ne hab), o3, hF2⟩
  · have ne : ∀ {c : Nat} {x : D}, (ρ.set i (.ow d'))[c]? = some (.ow x) → ∃ x', ρ[c]? = some (.ow x') := fun {c x} h => by
      by_cases z : i = c
      · subst z; exact ⟨d, hi⟩
      · rw [List.getElem?_set_ne z] at h; exact ⟨x, h⟩
    obtain ⟨d2, h1⟩ := ne h1
    obtain ⟨e2, h2⟩ := ne h2
    exact E.dist x y d2 e2 h1 h2 h3
  · rw [upd_ne (ne_of_none e hF)]
    exact E.fr.keep b x e n
/-- the address in a slot that holds a container of its own -/
theorem ER.own_at (E : ER p F ρ σ g H) {i : Nat} {d : D} (hi : ρ[i]? = some (.ow d)) : ∃ a, σ[i]? = some (some (.ref a)) ∧ Own p g H a d ∧ a ∉ g.am := by
  have h := E.sl i _ hi
  cases es : σ[i]? with
  | none => rw [es] at h; exact h.elim
  | some o =>
    rw [es] at h
    cases o with
    | none => exact h.elim
    | some v =>
      obtain ⟨a, rfl, o, hG, ha, hF⟩ := h
      exact ⟨a, rfl, o, ha⟩
end
def lstD : D → M (List D)
  | .lst ds => pure ds
  | _ => stuck
def appL (ds : List D) (d : D) : M D := if ds.length < sizeLine then pure (.lst (ds ++ [d])) else stuck
def extL (ds : List D) : D → M D
  | .lst es => if ds.length + es.length ≤ sizeLine then pure (.lst (ds ++ es)) else stuck
  | _ => stuck
def setL (ds : List D) (i : Int) (d : D) : M (List D) := match ixN ds.length i with
  | some j => pure (ds.set j d)
  | none => stuck
theorem lstD_post {d : D} {s : Store} {ok : List D → Store → Prop} {ex : Nat → Store → Prop} (q : (lstD d s).Post ok ex) : ∃ ds, d = .lst ds ∧ ok ds s := by
  cases d with
  | lst ds => exact ⟨ds, rfl, q⟩
  | _ => exact False.elim q
section
variable {S : Sta} {ρ ρ' : Ev} {a b c tg it e elt : Expr} {st : Stmt} {body rest ta tb : List Stmt} {ma mb mc m : M D} {mi : M (List D)} {pos p p2 apos cpos : Pos} {N B : Type} {shN : N → Ev} {shB : B → Ev}
/-- x.append(e) -/
theorem sb_append (i : Nat) {x : Str} {d : D} {k : D → M (Out N B)} (hi : ρ[i]? = some (.ow d)) (hN : S.N[i]? = some x) (hv : Vis S.sc x) (he : EE S ρ e m) (hr : ∀ d, SB S (ρ.set i (.ow d)) rest (k d) shN shB) (hs : NoStar [e]) (hline : (apos.endLine == cpos.line) = true)
    (hsw : ∀ env : Env, swapsWith (.Call (.Attribute (.Name x p) "append" apos) [e] [] cpos) none pos.line env = pure false) (hba : ∀ env : Env, attributeBase (.Name x p) "append" env (eval (.Name x p) env) = eval (.Name x p) env)
    (hd : (x == ("__debug__" : Str)) = false := by decide) (hcd : (x == ("__classdict__" : Str)) = false := by decide) :
    SB S ρ (.Expr (.Call (.Attribute (.Name x p) "append" apos) [e] [] cpos) pos :: rest) (lstD d >>= fun ds => m >>= fun y => appL ds y >>= k) shN shB := fun Y ok => by
  have hR : PSs (S.cx Y) rest (fun Dd σ H => ∃ d, rdS S Y (ρ.set i (.ow d)) (k d) shN shB Dd σ H) := ⟨fun pins s σ H Dd I ⟨d, q⟩ => (hr d Y ok).run pins s σ H Dd I q⟩
  have hP := pe_bm (X := S.cx Y) (cpos := cpos) (apos := apos) PySem.F.plainAttrs_list PySem.F.slot_list_append PySem.F.type_list_append mt_append (pe_var (X := S.cx Y) (i := i) (pos := p) hN hv hd hcd) (pa_cons (he Y ok) pa_nil (hs _))
    (hba _) (by rw [hs _]; rfl) hline (hs _) (by rfl)
  refine (pss_cons (ps_expr hP (hsw _)) hR).pre fun Dd σ H ⟨F, g, E, q⟩ => ?_
  obtain ⟨l, hl, o, ha⟩ := E.own_at hi
  obtain ⟨ds, rfl, q⟩ := lstD_post (post_bind q)
  obtain ⟨xs, ex, rx⟩ := o
  refine ⟨.ref l, hl, .inl ⟨rfl, xs, SqL.of ex⟩, rdS.expr E q fun y v g' H' s E' r q => ?_⟩
  have ex' := s.keep l _ ex ha
  have rx' := rx.mono s.gle s.aml
  have q := post_bind q
  unfold appL at q
  by_cases z : ds.length < sizeLine
  · rw [if_pos z] at q
    have o2 : Own S.pg g' (upd H' l (.lst (xs ++ [v]))) l (.lst (ds ++ [y])) := ⟨_, upd_same, rx'.append (.cons r .nil)⟩
    exact ⟨l, xs, v, rfl, rfl, ex', by rw [rx.length]; exact z, .lst (ds ++ [y]), F, g', E'.updOwn hi hl o2, post_pure q⟩
  · rw [if_neg z] at q
    exact False.elim q
/-- x.extend(e) -/
theorem sb_extend (i : Nat) {x : Str} {d : D} {k : D → M (Out N B)} (hi : ρ[i]? = some (.ow d)) (hN : S.N[i]? = some x) (hv : Vis S.sc x) (he : EL S ρ e m) (hr : ∀ d, SB S (ρ.set i (.ow d)) rest (k d) shN shB) (hs : NoStar [e]) (hline : (apos.endLine == cpos.line) = true)
    (hsw : ∀ env : Env, swapsWith (.Call (.Attribute (.Name x p) "extend" apos) [e] [] cpos) none pos.line env = pure false) (hba : ∀ env : Env, attributeBase (.Name x p) "extend" env (eval (.Name x p) env) = eval (.Name x p) env)
    (hd : (x == ("__debug__" : Str)) = false := by decide) (hcd : (x == ("__classdict__" : Str)) = false := by decide) :
    SB S ρ (.Expr (.Call (.Attribute (.Name x p) "extend" apos) [e] [] cpos) pos :: rest) (lstD d >>= fun ds => m >>= fun y => extL ds y >>= k) shN shB := fun Y ok => by
  have hR : PSs (S.cx Y) rest (fun Dd σ H => ∃ d, rdS S Y (ρ.set i (.ow d)) (k d) shN shB Dd σ H) := ⟨fun pins s σ H Dd I ⟨d, q⟩ => (hr d Y ok).run pins s σ H Dd I q⟩
  have hP := pe_bm (X := S.cx Y) (cpos := cpos) (apos := apos) PySem.F.plainAttrs_list PySem.F.slot_list_extend PySem.F.type_list_extend mt_extend (pe_var (X := S.cx Y) (i := i) (pos := p) hN hv hd hcd) (pa_cons (he Y ok) pa_nil (hs _))
    (hba _) (by rw [hs _]; rfl) hline (hs _) (by rfl)
  refine (pss_cons (ps_expr hP (hsw _)) hR).pre fun Dd σ H ⟨F, g, E, q⟩ => ?_
  obtain ⟨l, hl, o, ha⟩ := E.own_at hi
  obtain ⟨ds, rfl, q⟩ := lstD_post (post_bind q)
  obtain ⟨xs, ex, rx⟩ := o
  refine ⟨.ref l, hl, .inl ⟨rfl, xs, SqL.of ex⟩, rdS.expr E q fun y v g' H' s E' r q => ?_⟩
  have ex' := s.keep l _ ex ha
  have rx' := rx.mono s.gle s.aml
  have q := post_bind q
  cases y with
  | lst es =>
    obtain ⟨b, ys, rfl, sb, rb⟩ := TopR.lst E'.wf r
    unfold extL at q
    by_cases z : ds.length + es.length ≤ sizeLine
    · simp only [if_pos z] at q
      have o2 : Own S.pg g' (upd H' l (.lst (xs ++ ys))) l (.lst (ds ++ es)) := ⟨_, upd_same, rx'.append rb⟩
      exact ⟨l, b, xs, ys, rfl, rfl, ex', sb, by rw [rx.length, rb.length]; exact z, .lst (ds ++ es), F, g', E'.updOwn hi hl o2, post_pure q⟩
    · simp only [if_neg z] at q
      exact False.elim q
  | _ => exact False.elim q
theorem setL_post {ds : List D} {i : Int} {d : D} {s : Store} {ok : List D → Store → Prop} {ex : Nat → Store → Prop} (q : (setL ds i d s).Post ok ex) : ∃ j, ixN ds.length i = some j ∧ ok (ds.set j d) s := by
  unfold setL at q
  cases e : ixN ds.length i with
  | none => rw [e] at q; exact False.elim q
  | some j => rw [e] at q; exact ⟨j, rfl, q⟩
/-- x[i] = e -/
def setO (ds : List D) : D → D → M D
  | .int i, d => setL ds i d >>= fun r => pure (.lst r)
  | _, _ => stuck
theorem sb_setitem (i : Nat) {x : Str} {d : D} {k : D → M (Out N B)} {spos : Pos} (hi : ρ[i]? = some (.ow d)) (hN : S.N[i]? = some x) (hv : Vis S.sc x) (he : EE S ρ e m) (hb : EE S ρ b mb) (hr : ∀ d, SB S (ρ.set i (.ow d)) rest (k d) shN shB)
    (hsw : ∀ env : Env, swapsWithSole [.Subscript (.Name x p) b spos] e pos.line env = pure false) (hw : ∀ env : Env, swappedStores [.Subscript (.Name x p) b spos] e env = pure none)
    (h1 : ∀ env : Env, (assignEach [.Subscript (.Name x p) b spos] env).map (·.2) = [assign (.Subscript (.Name x p) b spos) env])
    (ha2 : ∀ (env : Env) v, assign (.Subscript (.Name x p) b spos) env v = (do
      let ov ← holding [v] (eval (.Name x p) env)
      let iv ← holding [v, ov] (eval b env)
      standAt spos
      holding [v, ov, iv] (setItem ov iv v)
      release [v, ov, iv] []))
    (hd : (x == ("__debug__" : Str)) = false := by decide) (hcd : (x == ("__classdict__" : Str)) = false := by decide) :
    SB S ρ (.Assign [.Subscript (.Name x p) b spos] e pos :: rest) (lstD d >>= fun ds => m >>= fun y => mb >>= fun j => setO ds j y >>= k) shN shB := fun Y ok => by
  have hR : PSs (S.cx Y) rest (fun Dd σ H => ∃ d, rdS S Y (ρ.set i (.ow d)) (k d) shN shB Dd σ H) := ⟨fun pins s σ H Dd I ⟨d, q⟩ => (hr d Y ok).run pins s σ H Dd I q⟩
  have hG : PG (S.cx Y) (.Subscript (.Name x p) b spos) _ := pg_sub (X := S.cx Y) (pe_var (X := S.cx Y) (i := i) (pos := p) hN hv hd hcd) (hb Y ok) set_list (ha2 _)
  refine (pss_cons (ps_asg (X := S.cx Y) (he Y ok) hG (hsw _) (hw _) (h1 _)) hR).pre fun Dd σ H ⟨F, g, E, q⟩ => ?_
  obtain ⟨l, hl, o, ha⟩ := E.own_at hi
  obtain ⟨ds, rfl, q⟩ := lstD_post (post_bind q)
  obtain ⟨xs, ex, rx⟩ := o
  refine rdS.expr E q fun y v g' H' s E' r q => ⟨.ref l, hl, rdS.expr E' q fun j w g2 H2 s2 E2 r2 q => ?_⟩
  have s12 := s.trans E.wf s2
  have ex' := s12.keep l _ ex ha
  have rx' := rx.mono s12.gle s12.aml
  cases j with
  | int n =>
    cases r2
    have q : ((setL ds n y >>= fun r => (pure (D.lst r) : M D)) g2.st).Post _ _ := post_bind q
    obtain ⟨j, ej, q⟩ := setL_post (post_bind q)
    have o2 : Own S.pg g2 (upd H2 l (.lst (xs.set j v))) l (.lst (ds.set j y)) := ⟨_, upd_same, rx'.set (r.mono s2.gle s2.aml) j⟩
    exact ⟨l, xs, n, j, rfl, rfl, ex', by rw [rx.length]; exact ej, .lst (ds.set j y), F, g2, E2.updOwn hi hl o2, post_pure q⟩
  | _ => exact False.elim q
/-! ### calls of defs -/
/-- how an argument is handed: a value that is never written; a list or dict that is lent -/
inductive AK where
  | v | b
def ArgR (p : Pg) (g : Gs) (H : Hp) : List AK → List V → List D → Prop
  | [], [], [] => True
  | .v :: ks, v :: vs, d :: ds => p.Rp g v d ∧ ArgR p g H ks vs ds
  | .b :: ks, v :: vs, d :: ds => TopR p g H v d ∧ ArgR p g H ks vs ds
  | _, _, _ => False
theorem ArgR.step {p : Pg} {g g' : Gs} {H H' : Hp} (w : Wf p g H) (s : Stp p g H g' H') : ∀ {ks : List AK} {vs : List V} {ds : List D}, ArgR p g H ks vs ds → ArgR p g' H' ks vs ds
  | [], [], [], _ => True.intro
  | .v :: _, _ :: _, _ :: _, h => ⟨h.1.mono s.gle s.aml, ArgR.step w s h.2⟩
  | .b :: _, _ :: _, _ :: _, h => ⟨h.1.step w s, ArgR.step w s h.2⟩
theorem ArgR.len {p : Pg} {g : Gs} {H : Hp} : ∀ {ks : List AK} {vs : List V} {ds : List D}, ArgR p g H ks vs ds → vs.length = ks.length ∧ ds.length = ks.length
  | [], [], [], _ => ⟨rfl, rfl⟩
  | .v :: _, _ :: _, _ :: _, h => by
    obtain ⟨a, b⟩ := ArgR.len h.2
    exact ⟨by rw [List.length_cons, List.length_cons, a], by rw [List.length_cons, List.length_cons, b]⟩
  | .b :: _, _ :: _, _ :: _, h => by
    obtain ⟨a, b⟩ := ArgR.len h.2
    exact ⟨by rw [List.length_cons, List.length_cons, a], by rw [List.length_cons, List.length_cons, b]⟩
/-- what a def promises: it does what F does -/
def spD (p : Pg) (ks : List AK) (F : List D → M D) : Sp := fun vs H Q E => ∃ g ds, Wf p g H ∧ ArgR p g H ks vs ds ∧ (F ds g.st).Post (Pv p (RE p) g H Q) fun c st' => ∀ g' H', g'.st = st' → Stp p g H g' H' → E (.ref (p.cA c)) none H'
structure Fnc (p : Pg) (k : Nat) (x : Str) (ks : List AK) (F : List D → M D) : Prop where
  ex : ∃ f fd ps, FnOk p.P p.w p.K p.mg p.base (L2N.CX p.P p.w) k f fd ps (spD p ks F) ∧ p.mg x = some (.ref f) ∧ PySem.W.keepIn p.K (.ref f) = true ∧ Binds p.K fd ps []
/-- arguments by their kinds -/
def EAk (S : Sta) (ρ : Ev) (ks : List AK) (es : List Expr) (m : M (List D)) : Prop := ∀ Y, OkY S Y → PA (S.cx Y) es (rdA S Y ρ (fun g H => ArgR S.pg g H ks) m)
variable {es : List Expr} {ms : M (List D)} {ks : List AK}
theorem eak_nil : EAk S ρ [] [] (pure []) := fun Y ok => pa_nil.pre fun σ H Q ⟨F, g, E, q⟩ => (post_pure q) [] g H rfl (.refl E.wf) True.intro
theorem eak_v (he : EE S ρ e m) (hr : EAk S ρ ks es ms) (hs : ∀ env : Env, starEach (e :: es) env = (false, eval e env) :: starEach es env) : EAk S ρ (.v :: ks) (e :: es) (m >>= fun d => ms >>= fun ds => pure (d :: ds)) := fun Y ok =>
  (pa_cons (he Y ok) (hr Y ok) (hs _)).pre fun σ H Q ⟨F, g, E, q⟩ => rdX.bind E q fun x v g' H' s E' r q => rdA.bind E' (q.imp (fun _ _ q => q) fun _ _ q => q.back E.wf s) fun xs vs g2 H2 s2 E2 r2 q =>
    (post_pure q) (v :: vs) g2 H2 rfl (s.trans E.wf s2) ⟨r.mono s2.gle s2.aml, r2⟩
theorem eak_b (he : EL S ρ e m) (hr : EAk S ρ ks es ms) (hs : ∀ env : Env, starEach (e :: es) env = (false, eval e env) :: starEach es env) : EAk S ρ (.b :: ks) (e :: es) (m >>= fun d => ms >>= fun ds => pure (d :: ds)) := fun Y ok =>
  (pa_cons (he Y ok) (hr Y ok) (hs _)).pre fun σ H Q ⟨F, g, E, q⟩ => rdX.bind E q fun x v g' H' s E' r q => rdA.bind E' (q.imp (fun _ _ q => q) fun _ _ q => q.back E.wf s) fun xs vs g2 H2 s2 E2 r2 q =>
    (post_pure q) (v :: vs) g2 H2 rfl (s.trans E.wf s2) ⟨r.step E'.wf s2, r2⟩
theorem ee_call {x : Str} {k : Nat} {F : List D → M D} (fn : Fnc S.pg k x ks F) (hk : k ≤ S.lv) (hg : Glb S x) (ha : EAk S ρ ks (e :: es) ms) (hs : ∀ env : Env, starEach (e :: es) env = (false, eval e env) :: starEach es env) (hpl : ∀ env : Env, (backTo pos (starEach es env)).any (·.1) = false)
    (hdb : (x == ("__debug__" : Str)) = false := by decide) : EE S ρ (.Call (.Name x p) (e :: es) [] pos) (ms >>= F) := fun Y ok => by
  obtain ⟨f, fd, ps, FO, hm, hkp, hb⟩ := fn.ex
  refine (pe_call (X := S.cx Y) (E := fun cls d H' => Y.W cls d H') FO (ok.room.mono hk) hg hm hkp hb .nil (L2N.passes_call ok.takes fun _ _ _ _ h => h) (ha Y ok) hdb (hs _) (hpl _)).pre fun σ H Q ⟨Fm, g, E, q⟩ => ?_
  refine rdA.bind E q fun ds vs g' H' s E' r q => ?_
  rw [List.append_nil]
  exact ⟨g', ds, E'.wf, r, q.imp (fun _ _ q => q.back back_RE E.wf s) fun _ _ q => Px.back E.wf s q⟩
theorem ee_call0 {x : Str} {k : Nat} {F : List D → M D} (fn : Fnc S.pg k x [] F) (hk : k ≤ S.lv) (hg : Glb S x) (hdb : (x == ("__debug__" : Str)) = false := by decide) : EE S ρ (.Call (.Name x p) [] [] pos) (F []) := fun Y ok => by
  obtain ⟨f, fd, ps, FO, hm, hkp, hb⟩ := fn.ex
  refine (pe_call0 (X := S.cx Y) (E := fun cls d H' => Y.W cls d H') FO (ok.room.mono hk) hg hm hkp hb .nil (L2N.passes_call ok.takes fun _ _ _ _ h => h) hdb).pre fun σ H Q ⟨Fm, g, E, q⟩ => ?_
  exact ⟨g, [], E.wf, True.intro, q.imp (fun _ _ q => q) fun _ _ q => q⟩
/-! by the number of arguments -/
theorem ee_call1 {x : Str} {k : Nat} {F : List D → M D} (fn : Fnc S.pg k x [.v] F) (hk : k ≤ S.lv) (hg : Glb S x) (ha : EE S ρ a ma) (hs : NoStar [a] := by intro _; rfl) (hdb : (x == ("__debug__" : Str)) = false := by decide) :
    EE S ρ (.Call (.Name x p) [a] [] pos) (ma >>= fun a => F [a]) := by
  have h := ee_call (pos := pos) (p := p) fn hk hg (eak_v ha eak_nil (hs)) (hs) (fun _ => rfl) hdb
  simpa using h
end
/-! ### a def from its body -/
def runF {N B : Type} (m : M (Out N B)) : M D := m >>= fun o => match o with
  | .rt d => pure d
  | .nx _ => pure .non
  | _ => stuck
def argE : List AK → List D → Ev
  | .v :: ks, d :: ds => .sh d :: argE ks ds
  | .b :: ks, d :: ds => .bo d :: argE ks ds
  | _, _ => []
theorem argE_len : ∀ (ks : List AK) (ds : List D), ds.length = ks.length → (argE ks ds).length = ks.length
  | [], ds, _ => by unfold argE; rfl
  | .v :: ks, d :: ds, h => by
    unfold argE
    rw [List.length_cons, List.length_cons, argE_len ks ds (by simpa using h)]
  | .b :: ks, d :: ds, h => by
    unfold argE
    rw [List.length_cons, List.length_cons, argE_len ks ds (by simpa using h)]
  | .v :: _, [], h => by simp at h
  | .b :: _, [], h => by simp at h
theorem argE_at {p : Pg} {g : Gs} {H : Hp} (w : Wf p g H) : ∀ {ks : List AK} {vs : List V} {ds : List D}, ArgR p g H ks vs ds → ∀ (i : Nat) (s : Sl), (argE ks ds)[i]? = some s → ∃ v, vs[i]? = some v ∧ SlV p ⟨g, H⟩ g H (some v) s ∧ ∀ d, s ≠ .ow d
  | [], [], [], _, i, s, e => by simp [argE] at e
  | .v :: ks, v :: vs, d :: ds, h, 0, s, e => by
    simp [argE] at e
    subst e
    exact ⟨v, rfl, h.1, fun _ z => by cases z⟩
  | .b :: ks, v :: vs, d :: ds, h, 0, s, e => by
    simp [argE] at e
    subst e
    refine ⟨v, rfl, ?_, fun _ z => by cases z⟩
    rcases h.1 with r | ⟨a, e, n, o⟩
    · exact .inl r
    · obtain ⟨u, hu, _⟩ := o.at
      exact .inr ⟨a, e, n, o, u, hu⟩
  | .v :: ks, v :: vs, d :: ds, h, i + 1, s, e => by
    simp only [argE, List.getElem?_cons_succ] at e
    exact argE_at w h.2 i s e
  | .b :: ks, v :: vs, d :: ds, h, i + 1, s, e => by
    simp only [argE, List.getElem?_cons_succ] at e
    exact argE_at w h.2 i s e
/-- a def that may raise, exceptions without a context -/
theorem okN {p : Pg} {x qual : Str} {st : Stmt} {f : Addr} {fd : FuncData} {N ps : List Str} {k : Nat} {sp : Sp} (Fn : Fun p.K x qual st f fd) (Sc : FnScope N ps (defScope st)) (hl : ∀ vs H Q E, sp vs H Q E → vs.length = ps.length)
    (h : ∀ (cdv : Value) (A : Around) (outer : List Env) (s : Shared) (H : Hp) (vs : List V) (Q : VK) (E : XK), Room k (A.deeper (envOfC qual (defScope st) s.heap.objs.size f cdv)) → sp vs H Q E →
      ∃ t, PSs (cxOf (L2N.CX p.P p.w) p.P p.w p.K p.mg p.base N qual (defScope st) f cdv A outer s H E) (defBody st) t ∧ t { nx := fun _ H' => Q .non H', rt := Q } (L2.start N vs) H) : FnOk p.P p.w p.K p.mg p.base (L2N.CX p.P p.w) (k + 1) f fd ps sp := by
  obtain ⟨_, _, _, _, _, _, cdv, _, _, rfl, lk, hcd⟩ := Fn.ex
  exact fn_of lk hcd Sc hl fun A outer s H vs Q E hr q => h cdv A outer s H vs Q E hr q
/-- a def -/
theorem fnok_of {p : Pg} {k : Nat} {x qual : Str} {st : Stmt} {f : Addr} {fd : FuncData} {N ps : List Str} {ks : List AK} {Nn B : Type} {shN : Nn → Ev} {shB : B → Ev} {body : List D → M (Out Nn B)}
    (Fn : Fun p.K x qual st f fd) (Sc : FnScope N ps (defScope st)) (hks : ks.length = ps.length)
    (h : ∀ ds, ds.length = ks.length → SB ⟨p, N, defScope st, fun _ => true, k, true⟩ (argE ks ds ++ List.replicate (N.length - ks.length) .un) (defBody st) (body ds) shN shB) : FnOk p.P p.w p.K p.mg p.base (L2N.CX p.P p.w) (k + 1) f fd ps (spD p ks fun ds => runF (body ds)) := by
  refine okN Fn Sc (fun vs H Q E ⟨g, ds, w, r, q⟩ => ?_) (fun cdv A outer s H vs Q E hr ⟨g, ds, w, r, q⟩ => ?_)
  · rw [r.len.1, hks]
  · have hl := r.len
    have hok : OkY ⟨p, N, defScope st, fun _ => true, k, true⟩ ⟨A.deeper (envOfC qual (defScope st) s.heap.objs.size f cdv), s, H, envOfC qual (defScope st) s.heap.objs.size f cdv, outer, envOfC qual (defScope st) s.heap.objs.size f cdv :: outer, [], [],
        (cxOf (L2N.CX p.P p.w) p.P p.w p.K p.mg p.base N qual (defScope st) f cdv A outer s H E).xe, fun cls d H' => E cls d H'⟩ :=
      ⟨hr, passes_of (X := cxOf (L2N.CX p.P p.w) p.P p.w p.K p.mg p.base N qual (defScope st) f cdv A outer s H E) rfl, L2N.takes_of (X := cxOf (L2N.CX p.P p.w) p.P p.w p.K p.mg p.base N qual (defScope st) f cdv A outer s H E) rfl rfl rfl rfl, fun _ => ⟨rfl, rfl⟩⟩
    refine ⟨_, h ds hl.2 _ hok, ⟨⟨g, H⟩, g, ?_, ?_⟩⟩
    · -- the slots at the entry
      have hpl : ps.length ≤ N.length := by have := congrArg List.length Sc.pre; rw [List.length_take] at this; omega
      have hstart : ∀ i v, vs[i]? = some v → (L2.start N vs)[i]? = some (some v) := fun i v e => by
        unfold L2.start
        have hi : i < vs.length := (List.getElem?_eq_some_iff.mp e).1
        rw [List.getElem?_append_left (by rw [List.length_map]; exact hi), List.getElem?_map, e]
        rfl
      have hE := argE_len ks ds hl.2
      have cases_at : ∀ (i : Nat) (s : Sl), (argE ks ds ++ List.replicate (N.length - ks.length) .un)[i]? = some s → s = .un ∨ (argE ks ds)[i]? = some s := fun i s e => by
        by_cases hi : i < (argE ks ds).length
        · rw [List.getElem?_append_left hi] at e
          exact .inr e
        · rw [List.getElem?_append_right (by omega), List.getElem?_replicate] at e
          split at e
          · cases e; exact .inl rfl
          · cases e
      refine ⟨?_, fun i s e => ?_, fun i j d1 d2 h1 h2 _ => ?_, .refl w, w⟩
      · unfold L2.start
        rw [List.length_append, List.length_append, List.length_replicate, List.length_replicate, List.length_map, hE, hl.1]
      · rcases cases_at i s e with rfl | e
        · cases (L2.start N vs)[i]?.join <;> exact True.intro
        · obtain ⟨v, hv, r2, _⟩ := argE_at w r i s e
          rw [hstart i v hv]
          exact r2
      · rcases cases_at i _ h1 with z | z
        · cases z
        · obtain ⟨_, _, _, n⟩ := argE_at w r i _ z
          exact absurd rfl (n d1)
    · refine (post_bind q).imp (fun o st' q => ?_) fun _ _ q => q
      cases o with
      | nx n => exact fun σ' g' H' e l E' => (post_pure q) .non g' H' e E'.fr .non
      | rt d => exact fun v g' H' e s r => (post_pure q) v g' H' e s r
      | bk b => exact False.elim q
      | ct b => exact False.elim q
theorem fnc_of {p : Pg} {k : Nat} {x : Str} {f : Addr} {fd : FuncData} {ps : List Str} {ks : List AK} {F : List D → M D} (h : FnOk p.P p.w p.K p.mg p.base (L2N.CX p.P p.w) k f fd ps (spD p ks F)) (hm : p.mg x = some (.ref f)) (kp : PySem.W.keepIn p.K (.ref f) = true) (hb : Binds p.K fd ps []) : Fnc p k x ks F :=
  ⟨f, fd, ps, h, hm, kp, hb⟩
end DL
namespace DL
open PySem PySem.Spec PyProof.Rows L2
/-! ### zip of two sequences of any kinds: k says list (true) or tuple -/
def SqG (k : Bool) (K : PySem.W.Frag) (H : Hp) (a : Addr) (xs : List V) : Prop := if k = true then SqL K H a xs else SqT K H a xs
def ItG (k : Bool) (h : Heap) (it a : Addr) (i : Nat) : Prop := if k = true then h.IsListIter it a i else h.IsTupleIter it a i
def AsG (k : Bool) (h : Heap) (a : Addr) (xs : Array Value) : Prop := if k = true then h.IsList a xs else h.IsTuple a xs
def obG (k : Bool) (a : Addr) : Obj := if k = true then { cls := .type "list_iterator", data := .fields #[.ref a, .int 0 0] } else { cls := .type "tuple_iterator", data := .fields #[.ref a, .int 0 0] }
theorem draws_G {P : Program} {w : World} {A : Around} (k : Bool) (hh : A.handled = none) (it a : Addr) (hne : a ≠ it) (xs : Array Value) : Draws P w A it [it, a] xs.size (fun i v => xs[i]? = some v) (fun i h => ItG k h it a i ∧ AsG k h a xs) := by
  cases k
  · exact Draws.tuple hh it a hne xs
  · exact Draws.list hh it a hne xs
theorem begins_G (k : Bool) (a : Addr) (xs : Array Value) : Begins (.ref a) (obG k a) fun h => AsG k h a xs := by
  cases k
  · exact begins_tuple a xs
  · exact begins_list a xs
section
variable {X : Cx} {pins : List (Addr × Obj)} {σ : L2.St} {H : Hp} {s : Shared}
theorem SqG.heap {k : Bool} {a : Addr} {xs : List V} (I : Inv X pins σ H s) (h : SqG k X.K H a xs) : ∃ its : List Value, Vals xs its ∧ AsG k s.heap a its.toArray ∧ a < s.heap.objs.size := by
  cases k
  · obtain ⟨its, rv, p, _⟩ := I.tuple h
    obtain ⟨o, ho, _⟩ := id p
    exact ⟨its, rv, p, Heap.lt_size ho⟩
  · obtain ⟨its, rv, p, _⟩ := I.list h
    exact ⟨its, rv, p.isList, p.lt⟩
theorem SqG.inj {k : Bool} {a : Addr} {xs ys : List V} (I : Inv X pins σ H s) (h : SqG k X.K H a xs) (g : SqG k X.K H a ys) : xs = ys := by
  cases k
  · exact I.tuple_inj h g
  · exact I.list_inj h g
end
theorem ItG.live {k : Bool} {h : Heap} {it a : Addr} {i : Nat} (x : ItG k h it a i) : ∃ o, h.get? it = some o ∧ ∀ v, o.data ≠ .cell v := by
  cases k
  · obtain ⟨o, e, _, d⟩ := x
    exact ⟨o, e, fun v q => by rw [d] at q; cases q⟩
  · obtain ⟨o, e, _, d⟩ := x
    exact ⟨o, e, fun v q => by rw [d] at q; cases q⟩
theorem ItG.moved {k : Bool} {h h' : Heap} {it a : Addr} {i : Nat} (x : ItG k h it a i) (e : ∀ o, h.get? it = some o → h'.get? it = some o) : ItG k h' it a i := by
  cases k
  · exact Heap.IsTupleIter.at x e
  · exact Heap.IsListIter.at x e
theorem obG_it {k : Bool} {h : Heap} {it a : Addr} (e : h.get? it = some (obG k a)) : ItG k h it a 0 := by
  cases k
  · exact ⟨_, e, rfl, rfl⟩
  · exact ⟨_, e, rfl, rfl⟩
/-- the walk of zip -/
def ItzG (k1 k2 : Bool) (K : PySem.W.Frag) (a b : Addr) : It :=
  ⟨fun i H => ∃ (xs ys : List V), SqG k1 K H a xs ∧ SqG k2 K H b ys ∧ i < xs.length ∧ i < ys.length,
    fun i H v H' => ∃ T x y, v = .ref T ∧ H T = none ∧ H' = upd H T (.tup [x, y]) ∧ (∀ xs, SqG k1 K H a xs → xs[i]? = some x) ∧ ∀ ys, SqG k2 K H b ys → ys[i]? = some y,
    fun i H => ∃ xs ys : List V, SqG k1 K H a xs ∧ SqG k2 K H b ys ∧ i ≤ xs.length ∧ i ≤ ys.length ∧ (i = xs.length ∨ i = ys.length)⟩
theorem sep_G {z TI TO i1 i2 a b : Addr} (D : ZipApart z TI TO i1 i2 a b) : ZipSep2 z TI TO i1 i2 [i1, a] [i2, b] where
  TIz := D.TIz
  TOz := D.TOz
  TITO := D.TITO
  TIi1 := D.TIi1
  mem1 := by simp
  zf1 := by simpa using ⟨D.i1z.symm, D.l1z.symm⟩
  Tf1 := by simpa using ⟨D.TOi1, D.l1TO.symm⟩
  TIi2 := D.TIi2
  mem2 := by simp
  zf2 := by simpa using ⟨D.i2z.symm, D.l2z.symm⟩
  Tf2 := by simpa using ⟨D.TOi2, D.l2TO.symm⟩
  sep1_2 := by simpa using ⟨D.i12, D.l2i1.symm⟩
  sep2_1 := by simpa using ⟨D.i12.symm, D.l1i2.symm⟩
theorem five {c z TI TO i1 i2 : Addr} {α : Prop} (h : c ∈ [z, TI, TO, i1, i2]) (f1 : c = z → α) (f2 : c = TI → α) (f3 : c = TO → α) (f4 : c = i1 → α) (f5 : c = i2 → α) : α := by
  simp only [List.mem_cons, List.not_mem_nil, or_false] at h
  rcases h with q | q | q | q | q
  · exact f1 q
  · exact f2 q
  · exact f3 q
  · exact f4 q
  · exact f5 q
theorem turn_zipG {P : Program} {w : World} {K : PySem.W.Frag} {elts : List Expr} {kk : Nat} {tpos : Pos} {k1 k2 : Bool} {a b z TI TO i1 i2 : Addr} (D : ZipApart z TI TO i1 i2 a b) :
    Turn P w K (.Tuple elts kk tpos) (ItzG k1 k2 K a b) [z, TI, TO, i1, i2] z (fun i h => IsZip h z TI TO .none ∧ IsTupOf2 h TI (.ref i1) (.ref i2) ∧ (∃ x y, IsTupOf2 h TO x y) ∧ ItG k1 h i1 a i ∧ ItG k2 h i2 b i) where
  mem := by simp
  obj := by
    rintro i h ⟨hz, hTI, ⟨x, y, hTO⟩, h1, h2⟩ c hc
    refine five hc (fun q => ?_) (fun q => ?_) (fun q => ?_) (fun q => ?_) fun q => ?_
    · subst q; exact ⟨_, hz, fun v q => by cases q⟩
    · subst q; exact ⟨_, hTI, fun v q => by cases q⟩
    · subst q; exact ⟨_, hTO, fun v q => by cases q⟩
    · subst q; exact h1.live
    · subst q; exact h2.live
  keep := by
    rintro i h h' ⟨hz, hTI, ⟨x, y, hTO⟩, h1, h2⟩ k
    exact ⟨k z (by simp) _ hz, k TI (by simp) _ hTI, ⟨x, y, k TO (by simp) _ hTO⟩, h1.moved (k i1 (by simp)), h2.moved (k i2 (by simp))⟩
  item := by
    intro X hP hw hK hc i pins s σ H E I hf st hg
    subst hP hw hK
    obtain ⟨hz, hTI, ⟨x0, y0, hTO⟩, h1, h2⟩ := st
    obtain ⟨xs, ys, sx, sy, hx, hy⟩ := hg
    obtain ⟨us, ru, p1, _⟩ := sx.heap I
    obtain ⟨vs, rv, p2, _⟩ := sy.heap I
    have lu : us.toArray.size = xs.length := by rw [List.size_toArray, ru.length]
    have lv : vs.toArray.size = ys.length := by rw [List.size_toArray, rv.length]
    obtain ⟨x, ex⟩ : ∃ x, xs[i]? = some x := ⟨_, List.getElem?_eq_getElem hx⟩
    obtain ⟨y, ey⟩ : ∃ y, ys[i]? = some y := ⟨_, List.getElem?_eq_getElem hy⟩
    obtain ⟨u, eu, rxu⟩ := ru.get ex
    obtain ⟨v, ev, ryv⟩ := rv.get ey
    have hzl : z < s.heap.objs.size := Heap.lt_size hz
    refine wpAny_pyNext_zipD2_item (sep_G D) (draws_G (A := X.A.in1) k1 (I.ok.hd hc) i1 a D.l1i1 us.toArray) (draws_G (A := X.A.in1) k2 (I.ok.hd hc) i2 b D.l2i2 vs.toArray) hz hTI hTO ⟨h1, p1⟩ ⟨h2, p2⟩ (by rw [lu]; exact hx) (by rw [lv]; exact hy)
      fun x1 x2 h' tk g1 g2 z' TO' t1 t2 hT hsz hk => ?_
    have e1 : x1 = u := by
      have : us[i]? = some x1 := by simpa using g1
      rw [eu] at this; cases this; rfl
    have e2 : x2 = v := by
      have : vs[i]? = some x2 := by simpa using g2
      rw [ev] at this; cases this; rfl
    subst e1 e2
    refine ⟨_, rfl, wpAny_letOwnedTupleGo_zip (s := { s with heap := h', toks := tk }) z' fun h'' z'' sb => ?_⟩
    have keep : ∀ c o, c ≠ z → h'.get? c = some o → h''.get? c = some o := fun c o n e => (sb.2 c n).trans e
    have hT2 : IsTupOf2 h'' s.heap.objs.size x1 x2 := keep _ _ (Nat.ne_of_gt hzl) hT
    have new : ObjOk X.prog X.w (upd H s.heap.objs.size (.tup [x, y])) h'' s.heap.objs.size (.tup [x, y]) :=
      ⟨by show 2 ≤ sizeLine; decide, [x1, x2], .cons rxu (.cons ryv .nil), ⟨_, hT2, rfl, _, rfl⟩⟩
    have I1 : Inv X pins σ (upd H s.heap.objs.size (.tup [x, y])) { s with heap := h'', toks := tk } :=
      I.turnedNew (ch := [z, TI, TO, i1, i2]) (fun c o hb q => by
        simp only [List.mem_cons, List.not_mem_nil, or_false, not_or] at hb
        exact keep c o hb.1 (hk c o hb.1 hb.2.2.1 hb.2.2.2.1 hb.2.2.2.2 q)) hf (Nat.le_refl _) new
    refine ⟨.ref s.heap.objs.size, _, I1, rfl, ⟨_, x, y, rfl, I.hok.fresh (Nat.le_refl _), rfl, fun l hl => by rw [hl.inj I sx]; exact ex, fun l hl => by rw [hl.inj I sy]; exact ey⟩, ⟨z'', ?_, ⟨x1, x2, keep _ _ D.TOz TO'⟩, ?_, ?_⟩, fun c hcm => ?_⟩
    · exact keep _ _ D.TIz (hk _ _ D.TIz D.TITO D.TIi1 D.TIi2 hTI)
    · exact t1.1.moved fun o q => keep _ o D.i1z q
    · exact t2.1.moved fun o q => keep _ o D.i2z q
    · have hlt : c < s.heap.objs.size := five hcm (fun q => by rw [q]; exact hzl) (fun q => by rw [q]; exact Heap.lt_size hTI) (fun q => by rw [q]; exact Heap.lt_size hTO)
        (fun q => by rw [q]; obtain ⟨_, e, _⟩ := h1.live; exact Heap.lt_size e) fun q => by rw [q]; obtain ⟨_, e, _⟩ := h2.live; exact Heap.lt_size e
      rw [upd_ne (Nat.ne_of_lt hlt)]
      exact (hf c hcm).1
  done := by
    intro X hP hw hK hc i pins s σ H E I hf st hg
    subst hP hw hK
    obtain ⟨hz, hTI, ⟨x0, y0, hTO⟩, h1, h2⟩ := st
    obtain ⟨xs, ys, sx, sy, hx, hy, hend⟩ := hg
    obtain ⟨us, ru, p1, _⟩ := sx.heap I
    obtain ⟨vs, rv, p2, _⟩ := sy.heap I
    have lu : us.toArray.size = xs.length := by rw [List.size_toArray, ru.length]
    have lv : vs.toArray.size = ys.length := by rw [List.size_toArray, rv.length]
    refine wpAny_pyNext_zipD2_end (sep_G D) (draws_G (A := X.A.in1) k1 (I.ok.hd hc) i1 a D.l1i1 us.toArray) (draws_G (A := X.A.in1) k2 (I.ok.hd hc) i2 b D.l2i2 vs.toArray) hz hTI hTO ⟨h1, p1⟩ ⟨h2, p2⟩ (by rw [lu]; exact hx) (by rw [lv]; exact hy) (by rw [lu, lv]; exact hend)
      fun h' tk hk => ⟨rfl, I.turnedL (ch := [z, TI, TO, i1, i2]) (fun c o hb q => ?_) hf⟩
    simp only [List.mem_cons, List.not_mem_nil, or_false, not_or] at hb
    exact hk c o hb.1 hb.2.2.1 hb.2.2.2.1 hb.2.2.2.2 q
  self := fun A i s Q E st h => wpAny_pyIter_zip st.1 h
def iZipG (K : PySem.W.Frag) (ta : TA) : TI := fun σ H R => ta σ H fun vs H1 => ∃ a b xs ys k1 k2, vs = [.ref a, .ref b] ∧ SqG k1 K H1 a xs ∧ SqG k2 K H1 b ys ∧ R (ItzG k1 k2 K a b) H1
theorem pi_zipG {X : Cx} {e e2 : Expr} {ta : TA} {p pos tpos : Pos} {elts : List Expr} {kk : Nat} (hg : Gl X "zip") (hm : X.mg "zip" = none) (ha : PA X [e, e2] ta)
    (hs : starEach [e, e2] X.env = (false, eval e X.env) :: starEach [e2] X.env) (hpl : (backTo pos (starEach [e2] X.env)).any (·.1) = false) :
    PI X (.Tuple elts kk tpos) (.Call (.Name "zip" p) [e, e2] [] pos) (iZipG X.K ta) := by
  refine ⟨fun pins s σ H R I h => Call_ (ld_blt I hg hm PyProof.Rows.boot_zip (PyProof.Rows.callWith_type1 (thn (ha.run pos pins s σ H _ I h) fun us s1 q0 => ?_) hs hpl))⟩
  obtain ⟨vs, H1, I1, r1, a, b, xs, ys, k1, k2, ex, sx, sy, q⟩ := q0
  subst ex
  cases r1 with
  | cons r rr =>
    cases rr with
    | cons r' rr =>
      cases rr
      cases r
      cases r'
      obtain ⟨its, rv, p1, la⟩ := sx.heap I1
      obtain ⟨its2, rv2, p2, lb⟩ := sy.heap I1
      refine zip_begins2 (begins_G k1 a its.toArray) (begins_G k2 b its2.toArray) p1 p2 fun h' hz hTI hTO h1 h2 hsz hk => wpAny_pyIter_zip hz ?_
      have I2 : Inv X pins σ H1 { s1 with heap := h' } := I1.kept (t' := s1.toks) hk
      refine ⟨s1.heap.objs.size + 4, [s1.heap.objs.size + 4, s1.heap.objs.size + 2, s1.heap.objs.size + 3, s1.heap.objs.size, s1.heap.objs.size + 1], _, _, H1, rfl, I2, turn_zipG (PySem.W.ktu_apart s1.heap.objs.size a b la lb), ⟨hz, hTI, ⟨_, _, hTO⟩, obG_it h1, obG_it h2⟩, fun c hcm => ?_, q⟩
      have hle : s1.heap.objs.size ≤ c := five hcm (fun q => by rw [q]; exact Nat.le_add_right _ _) (fun q => by rw [q]; exact Nat.le_add_right _ _) (fun q => by rw [q]; exact Nat.le_add_right _ _) (fun q => by rw [q]; exact Nat.le_refl _) fun q => by rw [q]; exact Nat.le_add_right _ _
      exact I1.fpOk hle (I1.hok.fresh hle)
end DL
namespace DL
open PySem PySem.Spec PyProof.Rows L2
/-! ### sequences of any kind -/
/-- k: list or tuple; stands as long as T -/
def SqW (p : Pg) (T : Tm) (k : Bool) (a : Addr) (us : List V) (es : List D) : Prop := ∀ g H, Wf p g H → T g H → SqG k p.K H a us ∧ p.Rps g us es
theorem items_K {p : Pg} {T : Tm} {v : V} {d : D} (h : SqK p T v d) {s : Store} {ok : List D → Store → Prop} {ex : Nat → Store → Prop} (q : (items d s).Post ok ex) : ∃ k a us es, v = .ref a ∧ SqW p T k a us es ∧ ok es s := by
  cases d with
  | tup es => obtain ⟨a, us, e, h⟩ := h; exact ⟨false, a, us, es, e, h, post_pure q⟩
  | lst es => obtain ⟨a, us, e, h⟩ := h; exact ⟨true, a, us, es, e, h, post_pure q⟩
  | rls es => obtain ⟨a, us, e, h⟩ := h; exact ⟨true, a, us, es, e, h, post_pure q⟩
  | rtp es => obtain ⟨a, us, e, h⟩ := h; exact ⟨false, a, us, es, e, h, post_pure q⟩
  | _ => exact False.elim q
/-- a new pair is frozen at once -/
theorem pair_new {p : Pg} {g : Gs} {H : Hp} {T : Addr} {x y : V} {d e : D} (w : Wf p g H) (hT : H T = none) (r1 : p.Rp g x d) (r2 : p.Rp g y e) :
    ∃ g', g'.st = g.st ∧ Stp p g H g' (upd H T (.tup [x, y])) ∧ p.Rp g' (.ref T) (.tup [d, e]) := by
  have s := Stp.new (o := .tup [x, y]) w hT
  exact ⟨{ g with G := upd g.G T (.tup [x, y]) }, rfl, s, .tup upd_same (.cons (r1.mono s.gle s.aml) (.cons (r2.mono s.gle s.aml) .nil))⟩
theorem wk_zip {p : Pg} {T : Tm} {k1 k2 : Bool} {a b : Addr} {us vs : List V} {ds es : List D} (h1 : SqW p T k1 a us ds) (h2 : SqW p T k2 b vs es) : Wk p T (ItzG k1 k2 p.K a b) (zipL ds es) := by
  refine ⟨fun i g H hi w t => ?_, fun g H w t => ?_, fun i g H x H' hi w t y => ?_⟩
  · obtain ⟨s1, r1⟩ := h1 g H w t
    obtain ⟨s2, r2⟩ := h2 g H w t
    rw [zipL_len] at hi
    exact ⟨us, vs, s1, s2, by rw [r1.length]; omega, by rw [r2.length]; omega⟩
  · obtain ⟨s1, r1⟩ := h1 g H w t
    obtain ⟨s2, r2⟩ := h2 g H w t
    rw [zipL_len]
    exact ⟨us, vs, s1, s2, by rw [r1.length]; omega, by rw [r2.length]; omega, by rw [r1.length, r2.length]; omega⟩
  · obtain ⟨s1, r1⟩ := h1 g H w t
    obtain ⟨s2, r2⟩ := h2 g H w t
    obtain ⟨T, x', y', rfl, hT, rfl, f1, f2⟩ := y
    obtain ⟨d, hd, rd⟩ := r1.getV (f1 us s1)
    obtain ⟨e, he, re⟩ := r2.getV (f2 vs s2)
    obtain ⟨g', e1, st, r⟩ := pair_new w hT rd re
    exact ⟨g', _, e1, st, zipL_get hd he, r⟩
theorem wk_enum {p : Pg} {T : Tm} {a : Addr} {us : List V} {ds : List D} (h1 : SqW p T true a us ds) : Wk p T (Ite p.K a) (enumL 0 ds) := by
  refine ⟨fun i g H hi w t => ?_, fun g H w t => ?_, fun i g H x H' hi w t y => ?_⟩
  · obtain ⟨s1, r1⟩ := h1 g H w t
    rw [enumL_len] at hi
    exact ⟨us, _, s1, List.getElem?_eq_getElem (by rw [r1.length]; exact hi)⟩
  · obtain ⟨s1, r1⟩ := h1 g H w t
    rw [enumL_len]
    exact ⟨us, s1, by rw [r1.length]; exact Nat.le_refl _⟩
  · obtain ⟨s1, r1⟩ := h1 g H w t
    obtain ⟨T, x', rfl, hT, rfl, f1⟩ := y
    obtain ⟨d, hd, rd⟩ := r1.getV (f1 us s1)
    obtain ⟨g', e1, st, r⟩ := pair_new w hT (.int (i : Nat)) rd
    exact ⟨g', _, e1, st, by rw [enumL_get hd, Nat.zero_add], r⟩
section
variable {S : Sta} {ρ : Ev} {a b c tg it e : Expr} {ma mb mc m : M D} {mi : M (List D)} {pos p tpos : Pos} {elts : List Expr} {kk : Nat}
def zip2M (ma mb : M D) : M (List D) := ma >>= fun x => mb >>= fun y => items x >>= fun xs => items y >>= fun ys => pure (zipL xs ys)
theorem ei_zip_core {T : Gs → Hp → Tm} {R : Rel} (hT : ∀ (g : Gs) (H : Hp) (g' : Gs) (H' : Hp) (v : V) (d : D), Stp S.pg g H g' H' → R H g' H' v d → SqK S.pg (T g' H') v d) (hT0 : ∀ (g : Gs) (H : Hp), Wf S.pg g H → T g H g H)
    (hTl : ∀ (g : Gs) (H : Hp) (g' : Gs) (H' : Hp), Stp S.pg g H g' H' → ∀ g2 H2, T g' H' g2 H2 → T g H g2 H2) (wR : ∀ (g : Gs) (H : Hp), Wf S.pg g H → True)
    (hg : Glb S "zip") (hm : S.pg.mg "zip" = none) (ha : EX S ρ R a ma) (hb : EX S ρ R b mb) (hs : NoStar [a, b]) (hs2 : NoStar [b]) : EI S ρ T (.Tuple elts kk tpos) (.Call (.Name "zip" p) [a, b] [] pos) (zip2M ma mb) := fun Y ok =>
  (pi_zipG (X := S.cx Y) hg hm (pa_cons (ha Y ok) (pa_cons (hb Y ok) pa_nil (hs2 _)) (by rw [hs2 _]; exact hs _)) (by rw [hs2 _]; exact hs _) (by rw [hs2 _]; rfl)).pre fun σ H Q ⟨F, g, E, q⟩ =>
    rdX.bind E q fun x v g' H' s E' r q => rdX.bind E' (q.imp (fun _ _ q => q) fun _ _ q => q.back E.wf s) fun y u g2 H2 s2 E2 r2 q => by
      obtain ⟨k1, a1, us, ds, e1, w1, q⟩ := items_K (hT g H g' H' v x s r) (post_bind q)
      obtain ⟨k2, b1, vs, es, e2, w2, q⟩ := items_K (hT g' H' g2 H2 u y s2 r2) (post_bind q)
      subst e1 e2
      have w1' : SqW S.pg (T g2 H2) k1 a1 us ds := fun g H w t => w1 g H w (hTl _ _ _ _ s2 _ _ t)
      exact ⟨a1, b1, us, vs, k1, k2, rfl, (w1' g2 H2 E2.wf (hT0 g2 H2 E2.wf)).1, (w2 g2 H2 E2.wf (hT0 g2 H2 E2.wf)).1, (post_pure q) _ g2 H2 rfl (s.trans E.wf s2) (wk_zip w1' w2)⟩
theorem ei_zip (hg : Glb S "zip") (hm : S.pg.mg "zip" = none) (ha : EE S ρ a ma) (hb : EE S ρ b mb) (hs : NoStar [a, b] := by intro _; rfl) (hs2 : NoStar [b] := by intro _; rfl) : EI S ρ (TL S.pg) (.Tuple elts kk tpos) (.Call (.Name "zip" p) [a, b] [] pos) (zip2M ma mb) :=
  ei_zip_core (fun _ _ _ _ _ _ _ r => sq_strong r) (fun g _ _ => .refl g) (fun _ _ _ _ s _ _ t => s.ltr.trans t) (fun _ _ _ => True.intro) hg hm ha hb hs hs2
/-- enumerate of a list -/
def lstO : D → M (List D)
  | .lst ds => pure ds
  | _ => stuck
def enumM (ma : M D) : M (List D) := ma >>= fun x => lstO x >>= fun xs => pure (enumL 0 xs)
theorem ei_enum_core {T : Gs → Hp → Tm} {R : Rel} (hT : ∀ (g : Gs) (H : Hp) (g' : Gs) (H' : Hp) (v : V) (d : D), Stp S.pg g H g' H' → R H g' H' v d → SqK S.pg (T g' H') v d) (hT0 : ∀ (g : Gs) (H : Hp), Wf S.pg g H → T g H g H)
    (hg : Glb S "enumerate") (hm : S.pg.mg "enumerate" = none) (ha : EX S ρ R a ma) (hs : NoStar [a]) : EI S ρ T (.Tuple elts kk tpos) (.Call (.Name "enumerate" p) [a] [] pos) (enumM ma) := fun Y ok =>
  (pi_enum (X := S.cx Y) hg hm (pa_cons (ha Y ok) pa_nil (hs _)) (hs _)).pre fun σ H Q ⟨F, g, E, q⟩ =>
    rdX.bind E q fun x v g' H' s E' r q => by
      cases x with
      | lst ds =>
        obtain ⟨a1, us, e1, w1⟩ := hT g H g' H' v _ s r
        subst e1
        have q := post_bind q
        exact ⟨a1, us, rfl, (w1 g' H' E'.wf (hT0 g' H' E'.wf)).1, (post_pure q) _ g' H' rfl s (wk_enum w1)⟩
      | _ => exact False.elim q
theorem ei_enum (hg : Glb S "enumerate") (hm : S.pg.mg "enumerate" = none) (ha : EE S ρ a ma) (hs : NoStar [a] := by intro _; rfl) : EI S ρ (TL S.pg) (.Tuple elts kk tpos) (.Call (.Name "enumerate" p) [a] [] pos) (enumM ma) :=
  ei_enum_core (fun _ _ _ _ _ _ _ r => sq_strong r) (fun g _ _ => .refl g) hg hm ha hs
theorem ei_enumR (hg : Glb S "enumerate") (hm : S.pg.mg "enumerate" = none) (ha : EL S ρ a ma) (hs : NoStar [a] := by intro _; rfl) : EI S ρ (TS' S.pg) (.Tuple elts kk tpos) (.Call (.Name "enumerate" p) [a] [] pos) (enumM ma) :=
  ei_enum_core (fun _ _ _ _ _ _ s r => sq_weak s.wf r) (fun g _ w => .refl w) hg hm ha hs
end
/-! ### list(range(..)) -/
section
variable {S : Sta} {ρ : Ev} {a b c : Expr} {ma mb mc m : M D} {pos p p2 rpos : Pos}
def rgM (lo hi : Int) : M D := if 0 ≤ lo ∧ lo ≤ 16777216 ∧ 0 ≤ hi ∧ hi ≤ 16777216 then pure (.lst (rangeL lo (hi - lo).toNat)) else stuck
def intG : D → M Int
  | .int i => pure i
  | _ => stuck
theorem rps_range {K : PySem.W.Frag} {G : Hp} {am : List Addr} (lo hi : Int) : Rps K G am (rgV lo hi) (rangeL lo (hi - lo).toNat) := by
  have : ∀ l : List Nat, Rps K G am (l.map fun i => V.int (lo + (i : Nat))) (l.map fun i => D.int (lo + (i : Nat))) := by
    intro l
    induction l with
    | nil => exact .nil
    | cons x r ih => exact .cons (.int _) ih
  exact this _
theorem intG_post {d : D} {s : Store} {ok : Int → Store → Prop} {ex : Nat → Store → Prop} (q : (intG d s).Post ok ex) : ∃ i, d = .int i ∧ ok i s := by
  cases d with
  | int i => exact ⟨i, rfl, q⟩
  | _ => exact False.elim q
theorem rgM_ok {S : Sta} {g g0 : Gs} {H H0 : Hp} {Q : VK} {lo hi : Int} {E : Nat → Store → Prop} (w0 : Wf S.pg g0 H0) (s : Stp S.pg g0 H0 g H) (w : Wf S.pg g H) (q : (rgM lo hi g.st).Post (Pv S.pg (RN S.pg) g0 H0 Q) E) : RgOk lo hi ∧ ∀ q, H q = none → Q (.ref q) (upd H q (.lst (rgV lo hi))) := by
  unfold rgM at q
  by_cases z : 0 ≤ lo ∧ lo ≤ 16777216 ∧ 0 ≤ hi ∧ hi ≤ 16777216
  · rw [if_pos z] at q
    exact ⟨RgOk.of_le z.1 z.2.2.2 z.2.1 z.2.2.1, fun l hl => (post_pure q) _ g _ rfl (s.trans w0 (Stp.laid w hl)) ⟨l, rfl, ⟨_, upd_same, rps_range lo hi⟩, w.freeG hl, w.freeA hl, s.none_of w0 hl⟩⟩
  · rw [if_neg z] at q
    exact False.elim q
theorem en_listRg1 (hg : Glb S "list") (hm : S.pg.mg "list" = none) (hg2 : Glb S "range") (hm2 : S.pg.mg "range" = none) (ha : EL S ρ a ma) (hs : NoStar [a] := by intro _; rfl) (hs2 : NoStar [.Call (.Name "range" p2) [a] [] rpos] := by intro _; rfl) :
    EN S ρ (.Call (.Name "list" p) [.Call (.Name "range" p2) [a] [] rpos] [] pos) (ma >>= intG >>= rgM 0) := fun Y ok =>
  (pe_listRg (X := S.cx Y) rfl hg hm (prg_1 (X := S.cx Y) hg2 hm2 (ha Y ok) (hs _)) (hs2 _)).pre fun σ H Q ⟨F, g, E, q⟩ => by
    rw [bind_assoc'] at q
    exact rdX.bind E q fun x v g' H' s E' r q => by
      obtain ⟨i, rfl, q⟩ := intG_post (post_bind q)
      exact ⟨i, r.int, rgM_ok E.wf s E'.wf q⟩
end
/-! ### cells -/
section
variable {p : Pg} {g g' : Gs} {H H' : Hp}
/-- a container with a cell of its own -/
def celD : D → M D
  | .lst ds => newC (.lst ds) >>= fun k => pure (.ref k)
  | .dct ds => newC (.dct ds) >>= fun k => pure (.ref k)
  | .dcT ds => newC (.dcT ds) >>= fun k => pure (.ref k)
  | _ => stuck
/-- a new cell -/
def Gs.cell (g : Gs) (a : Addr) (c : Cell) : Gs := ⟨g.G, g.am ++ [a], g.st ++ [c]⟩
theorem Stp.cell {a : Addr} {c : Cell} (w : Wf p g H) (hG : g.G a = none) (ha : a ∉ g.am) (hc : CellR p g H a c) : Wf p (g.cell a c) H ∧ g.am <+: (g.cell a c).am := by
  have pre : g.am <+: g.am ++ [a] := List.prefix_append _ _
  refine ⟨⟨w.sub, fun b hb => ?_, ?_, ?_, fun k b d e1 e2 => ?_⟩, pre⟩
  · rcases List.mem_append.mp hb with h | h
    · exact w.amG b h
    · rw [List.mem_singleton.mp h]; exact hG
  · refine List.nodup_append.mpr ⟨w.nd, List.nodup_cons.mpr ⟨List.not_mem_nil, List.nodup_nil⟩, fun x hx y hy e => ?_⟩
    rw [List.mem_singleton.mp hy] at e
    exact ha (e ▸ hx)
  · show (g.am ++ [a]).length = (g.st ++ [c]).length
    rw [List.length_append, List.length_append, w.len]
    rfl
  · have e1 : (g.am ++ [a])[k]? = some b := e1
    have e2 : (g.st ++ [c])[k]? = some d := e2
    by_cases hk : k < g.am.length
    · rw [List.getElem?_append_left hk] at e1
      rw [List.getElem?_append_left (by rw [← w.len]; exact hk)] at e2
      exact (w.cell k b d e1 e2).mono (g' := g.cell a c) (fun _ _ e => e) pre rfl fun _ e => e
    · rw [List.getElem?_append_right (by omega)] at e1
      rw [List.getElem?_append_right (by rw [← w.len]; omega)] at e2
      rw [← w.len] at e2
      have hk0 : k - g.am.length = 0 := by
        have := (List.getElem?_eq_some_iff.mp e1).1
        rw [List.length_singleton] at this
        omega
      rw [hk0] at e1 e2
      cases e1
      cases e2
      exact hc.mono (g' := g.cell a c) (fun _ _ e => e) pre rfl fun _ e => e
theorem NewR.cell {v : V} {d : D} {Q : VK} {E : Nat → Store → Prop} (w : Wf p g H) (s : Stp p g H g' H') (r : NewR p H g' H' v d) (q : (celD d g'.st).Post (Pv p (RE p) g H Q) E) : Q v H' := by
  obtain ⟨a, rfl, o, hG, ha, hn⟩ := r
  have core : ∀ c, CellR p g' H' a c → ((newC c >>= fun k => pure (D.ref k)) g'.st).Post (Pv p (RE p) g H Q) E → Q (.ref a) H' := fun c hc q => by
    obtain ⟨wf', pre⟩ := Stp.cell s.wf hG ha hc
    have q : Pv p (RE p) g H Q (.ref g'.st.length) (g'.st ++ [c]) := q
    refine q (.ref a) (g'.cell a c) H' rfl ⟨s.gle, s.aml.trans pre, s.keep, s.gnew, fun b hb => ?_, wf'⟩ (.ref ?_)
    · rcases List.mem_append.mp hb with h | h
      · exact s.amn b h
      · rw [List.mem_singleton.mp h]; exact .inr hn
    · show (g'.am ++ [a])[g'.st.length]? = some a
      rw [← s.wf.len, List.getElem?_append_right (Nat.le_refl _), Nat.sub_self]
      rfl
  cases d with
  | lst ds => exact core (.lst ds) o q
  | dct es => exact core (.dct es) o q
  | dcT es => exact core (.dcT es) o q
  | _ => exact o.elim
theorem nodup_ix : ∀ {l : List Addr} {i j : Nat} {a : Addr}, l.Nodup → l[i]? = some a → l[j]? = some a → i = j
  | [], i, j, a, _, h, _ => by simp at h
  | x :: r, 0, 0, a, _, _, _ => rfl
  | x :: r, 0, j + 1, a, n, h, k => by
    simp at h k
    subst h
    exact absurd (List.mem_of_getElem? k) (List.nodup_cons.mp n).1
  | x :: r, i + 1, 0, a, n, h, k => by
    simp at h k
    subst k
    exact absurd (List.mem_of_getElem? h) (List.nodup_cons.mp n).1
  | x :: r, i + 1, j + 1, a, n, h, k => by
    simp at h k
    rw [nodup_ix (List.nodup_cons.mp n).2 h k]
/-- a cell's container is written -/
theorem Stp.wrt {a : Addr} {k : Nat} {c : Cell} {o u : HO} (w : Wf p g H) (hk : g.am[k]? = some a) (e : H a = some u) (nu : ∀ y, u ≠ .own y) (nt : ∀ xs, u ≠ .tup xs) (hc : CellR p { g with st := g.st.set k c } (upd H a o) a c) : Stp p g H { g with st := g.st.set k c } (upd H a o) := by
  have ham : a ∈ g.am := List.mem_of_getElem? hk
  have hG := w.amG a ham
  refine ⟨fun _ _ e => e, List.prefix_refl _, fun b x eb hb => ?_, fun b x e => .inl e, fun b h => .inl h, ⟨fun b x e => ?_, w.amG, w.nd, by show g.am.length = (g.st.set k c).length; rw [List.length_set, w.len], fun j b d e1 e2 => ?_⟩⟩
  · rw [upd_ne (fun z => hb (by rw [z]; exact ham))]; exact eb
  · have e : g.G b = some x := e
    rw [upd_ne (ne_of_none e hG)]
    exact w.sub b x e
  · have e1 : g.am[j]? = some b := e1
    have e2 : (g.st.set k c)[j]? = some d := e2
    by_cases z : k = j
    · subst z
      rw [hk] at e1
      cases e1
      have hl : k < g.st.length := by rw [← w.len]; exact (List.getElem?_eq_some_iff.mp hk).1
      rw [List.getElem?_set_self hl] at e2
      cases e2
      exact hc
    · rw [List.getElem?_set_ne z] at e2
      have hb : b ≠ a := fun h => by
        subst h
        have l1 := (List.getElem?_eq_some_iff.mp hk).1
        have l2 := (List.getElem?_eq_some_iff.mp e1).1
        have h1 := (List.getElem?_eq_some_iff.mp hk).2
        have h2 := (List.getElem?_eq_some_iff.mp e1).2
        exact z (nodup_ix w.nd e1 hk).symm
      have h := w.cell j b d e1 e2
      cases d with
      | lst ds =>
        obtain ⟨xs, e1, r⟩ := h
        exact ⟨xs, by rw [upd_ne hb]; exact e1, r⟩
      | dct es =>
        obtain ⟨kvs, e1, r⟩ := h
        exact ⟨kvs, by rw [upd_ne hb]; exact e1, r⟩
      | dcT es =>
        obtain ⟨kvs, e1, r⟩ := h
        exact ⟨kvs, by rw [upd_ne hb]; exact e1, r⟩
      | ins c fs =>
        obtain ⟨dx, fvs, e1, e2, r⟩ := h
        exact ⟨dx, fvs, by rw [upd_ne hb]; exact e1, by rw [upd_ne (ne_of e2 e fun z => nu b z.symm)]; exact e2, r⟩
end
def celL : D → M (Nat × List D)
  | .ref k => getC k >>= fun c => match c with
    | .lst ds => pure (k, ds)
    | _ => stuck
  | _ => stuck
theorem celL_post {p : Pg} {g : Gs} {H : Hp} {v : V} {d : D} {ok : Nat × List D → Store → Prop} {ex : Nat → Store → Prop} (w : Wf p g H) (r : p.Rp g v d) (q : (celL d g.st).Post ok ex) :
    ∃ k a xs ds, v = .ref a ∧ g.am[k]? = some a ∧ H a = some (.lst xs) ∧ p.Rps g xs ds ∧ ok (k, ds) g.st := by
  cases d with
  | ref k =>
    obtain ⟨a, rfl, e⟩ := TopR.ref (H := H) (.inl r)
    obtain ⟨c, e2, r⟩ := w.at_ref e
    have q : ((getC k >>= fun c => match c with
      | .lst ds => pure (k, ds)
      | _ => stuck) g.st).Post ok ex := q
    rw [bind_run] at q
    unfold getC at q
    rw [e2] at q
    cases c with
    | lst ds =>
      obtain ⟨xs, ex, rx⟩ := r
      exact ⟨k, a, xs, ds, rfl, e, ex, rx, q⟩
    | _ => exact False.elim q
  | _ => exact False.elim q
theorem post_setC {α : Type} {k : Nat} {c : Cell} {f : Unit → M α} {s : Store} {ok : α → Store → Prop} {ex : Nat → Store → Prop} (q : ((setC k c >>= f) s).Post ok ex) : (f () (s.set k c)).Post ok ex := q
section
variable {S : Sta} {ρ : Ev} {a b c o e ie : Expr} {ma mb mc m mo : M D} {pos p apos cpos spos : Pos} {N B : Type} {shN : N → Ev} {shB : B → Ev} {rest : List Stmt}
theorem ee_cell (h : EN S ρ e m) : EE S ρ e (m >>= celD) := fun Y ok => (h Y ok).pre fun σ H Q ⟨F, g, E, q⟩ =>
  ⟨F, g, E, (post_bind q).imp (fun d st' q v g' H' e s r => by
    rw [← e] at q
    exact NewR.cell E.wf s r q) fun _ _ q => q⟩
/-- o[i] = e, o a list with a cell -/
def cellSet (x i y : D) : M Unit := celL x >>= fun kd => intG i >>= fun n => setL kd.2 n y >>= fun ds => setC kd.1 (.lst ds)
theorem sb_cset {k : M (Out N B)} (he : EE S ρ e m) (ho : EE S ρ o mo) (hb : EE S ρ b mb) (hr : SB S ρ rest k shN shB)
    (hsw : ∀ env : Env, swapsWithSole [.Subscript o b spos] e pos.line env = pure false) (hw : ∀ env : Env, swappedStores [.Subscript o b spos] e env = pure none)
    (h1 : ∀ env : Env, (assignEach [.Subscript o b spos] env).map (·.2) = [assign (.Subscript o b spos) env])
    (ha2 : ∀ (env : Env) v, assign (.Subscript o b spos) env v = (do
      let ov ← holding [v] (eval o env)
      let iv ← holding [v, ov] (eval b env)
      standAt spos
      holding [v, ov, iv] (setItem ov iv v)
      release [v, ov, iv] [])) :
    SB S ρ (.Assign [.Subscript o b spos] e pos :: rest) (m >>= fun y => mo >>= fun x => mb >>= fun i => cellSet x i y >>= fun _ => k) shN shB := fun Y ok => by
  have hG : PG (S.cx Y) (.Subscript o b spos) _ := pg_sub (X := S.cx Y) (ho Y ok) (hb Y ok) set_list (ha2 _)
  refine (pss_cons (ps_asg (X := S.cx Y) (he Y ok) hG (hsw _) (hw _) (h1 _)) (hr Y ok)).pre fun Dd σ H ⟨F, g, E, q⟩ => ?_
  refine rdS.expr E q fun y v g1 H1 s1 E1 r1 q => rdS.expr E1 q fun x u g2 H2 s2 E2 r2 q => rdS.expr E2 q fun i w g3 H3 s3 E3 r3 q => ?_
  unfold cellSet at q
  simp only [bind_assoc'] at q
  obtain ⟨kk, a, xs, ds, rfl, hk, hx, rx, q⟩ := celL_post E3.wf (r2.mono s3.gle s3.aml) (post_bind q)
  obtain ⟨n, rfl, q⟩ := intG_post (post_bind q)
  obtain rfl := TopR.int (H := H3) (.inl r3)
  obtain ⟨j, ej, q⟩ := setL_post (post_bind q)
  have q := post_setC q
  have ry := (r1.mono s2.gle s2.aml).mono s3.gle s3.aml
  have st : Stp S.pg g3 H3 { g3 with st := g3.st.set kk (.lst (ds.set j y)) } (upd H3 a (.lst (xs.set j v))) :=
    Stp.wrt E3.wf hk hx (fun _ z => by cases z) (fun _ z => by cases z) ⟨_, upd_same, rx.set ry j⟩
  exact ⟨a, xs, n, j, rfl, rfl, hx, by rw [rx.length]; exact ej, F, _, E3.step st, q.imp (fun _ _ q => q.back st.ltr) fun _ _ q => q⟩
/-- o.pop(i) of a list with a cell -/
def cellPop (x i : D) : M D := celL x >>= fun kd => intG i >>= fun n =>
  if -(2 ^ 63) ≤ n ∧ n < 2 ^ 63 then (match seqIndex? n kd.2.length with
    | some j => (match kd.2[j]? with
      | some y => setC kd.1 (.lst (kd.2.eraseIdx j)) >>= fun _ => pure y
      | none => stuck)
    | none => stuck) else stuck
theorem ee_cpop (ho : EE S ρ o mo) (hb : EE S ρ b mb) (hs : NoStar [b] := by intro _; rfl) (hline : (apos.endLine == cpos.line) = true := by rfl) (hba : ∀ env : Env, attributeBase o "pop" env (eval o env) = eval o env := by intro _; rfl) :
    EE S ρ (.Call (.Attribute o "pop" apos) [b] [] cpos) (mo >>= fun x => celL x >>= fun _ => mb >>= fun i => cellPop x i) := fun Y ok => by
  refine (pe_bm (X := S.cx Y) (cpos := cpos) (apos := apos) PySem.F.plainAttrs_list PySem.F.slot_list_pop PySem.F.type_list_pop mt_popAt (ho Y ok) (pa_cons (hb Y ok) pa_nil (hs _)) (hba _) (by rw [hs _]; rfl) hline (hs _) (by rfl)).pre fun σ H Q ⟨F, g, E, q⟩ => ?_
  refine rdX.bind E q fun x v g1 H1 s1 E1 r1 q => ?_
  obtain ⟨k0, a, us, ds0, rfl, hk0, hx0, rx0, q⟩ := celL_post E1.wf r1 (post_bind q)
  refine ⟨.inl ⟨rfl, us, SqL.of hx0⟩, rdX.bind E1 (q.imp (fun _ _ q => q) fun _ _ q => q.back E.wf s1) fun i w g2 H2 s2 E2 r2 q => ?_⟩
  unfold cellPop at q
  obtain ⟨k, a2, xs, ds, e2, hk, hx, rx, q⟩ := celL_post E2.wf (r1.mono s2.gle s2.aml) (post_bind q)
  cases e2
  obtain ⟨n, ei, q5⟩ := intG_post (post_bind q)
  subst ei
  obtain rfl := TopR.int (H := H2) (.inl r2)
  by_cases z : -(2 ^ 63) ≤ n ∧ n < 2 ^ 63
  · simp only [if_pos z] at q5
    cases ej : seqIndex? n ds.length with
    | none => simp only [ej] at q5; exact False.elim q5
    | some j =>
      simp only [ej] at q5
      cases ed : ds[j]? with
      | none => simp only [ed] at q5; exact False.elim q5
      | some y =>
        simp only [ed] at q5
        have q := post_setC q5
        obtain ⟨vy, hy, ry⟩ := rx.get ed
        have st : Stp S.pg g2 H2 { g2 with st := g2.st.set k (.lst (ds.eraseIdx j)) } (upd H2 a (.lst (xs.eraseIdx j))) :=
          Stp.wrt E2.wf hk hx (fun _ z => by cases z) (fun _ z => by cases z) ⟨_, upd_same, rx.eraseIdx j⟩
        exact ⟨a, xs, n, j, vy, rfl, rfl, hx, z.1, z.2, by rw [rx.length]; exact ej, hy, (post_pure q) vy _ _ rfl (s1.trans E.wf (s2.trans E1.wf st)) ry⟩
  · simp only [if_neg z] at q5
    exact False.elim q5
end
end DL
namespace DL
open PySem PySem.Spec PyProof.Rows L2
/-! ### t[::-1] of a tuple -/
section
variable {prog : Program} {w : World} {A : Around} {E : Value → Shared → Prop} {s : Shared}
theorem adjust_rev (n : Nat) : Builtin.Slice.sliceAdjust none none (-1) (n : Int) = ((n : Int) - 1, -1) := by
  unfold Builtin.Slice.sliceAdjust
  have h1 : ((-1 : Int) < 0) := by omega
  simp only [h1, if_true]
theorem places_rev (n : Nat) : Builtin.Slice.slicePlaces ((n : Int) - 1) (-1) (-1) = n := by
  unfold Builtin.Slice.slicePlaces
  have h1 : ¬ ((-1 : Int) > 0) := by omega
  have e : (- -1 : Int) = 1 := by omega
  simp only [h1, if_false, e, Int.ediv_one]
  split <;> omega
theorem fm_congr {α β : Type} {f g : α → Option β} : ∀ {l : List α}, (∀ k ∈ l, f k = g k) → l.filterMap f = l.filterMap g
  | [], _ => rfl
  | x :: r, h => by
    rw [List.filterMap_cons, List.filterMap_cons, h x List.mem_cons_self, fm_congr fun k hk => h k (List.mem_cons_of_mem _ hk)]
theorem pick_rev (its : List Value) : ((List.range its.length).filterMap fun (k : Nat) => its.toArray[(((its.length : Int) - 1) + (k : Int) * (-1)).toNat]?) = its.reverse := by
  refine List.ext_getElem? fun i => ?_
  have : (List.range its.length).filterMap (fun (k : Nat) => its.toArray[(((its.length : Int) - 1) + (k : Int) * (-1)).toNat]?) = (List.range its.length).filterMap fun k => its.reverse[k]? := by
    refine fm_congr fun k hk => ?_
    have hk := List.mem_range.mp hk
    have e : (((its.length : Int) - 1) + (k : Int) * (-1)).toNat = its.length - 1 - k := by omega
    rw [e, List.getElem?_reverse hk]
    try simp
  rw [this]
  have h2 := PySem.W.krv_all its.reverse.toArray
  have h3 : (List.range its.length).filterMap (fun k => its.reverse[k]?) = its.reverse := by
    have e : its.reverse.toArray.size = its.length := by simp
    rw [e] at h2
    simpa using h2
  rw [h3]
theorem getItem_tuple_rev {t sl : Addr} {its : List Value} {vs : Value} {Q : Value → Shared → Prop} (ht : IsTup s.heap t its.toArray) (hs : s.heap.IsSliceOf sl .none .none vs) (ps : IsPart vs (some (-1)))
    (h : Q (.ref s.heap.objs.size) { s with heap := s.heap.push { cls := .type "tuple", data := .seq its.reverse.toArray } }) (hsz : its.length ≤ sizeLine) : wpAny (model prog w) A (getItem (.ref t) (.ref sl)) Q E s := by
  have htake : sizeOk (.seq its.reverse.toArray) := by
    show its.reverse.toArray.size ≤ sizeLine
    rw [List.size_toArray, List.length_reverse]
    exact hsz
  obtain ⟨os, hos, hcs, hds⟩ := id hs
  have hTs : s.TypeIs (.ref sl) "slice" := ⟨os, hos, hcs⟩
  have hap : ∀ {A' : Around} {E' : Value → Shared → Prop} {Q : Int × Int × Nat → Shared → Prop}, Q ((its.length : Int) - 1, -1, its.length) s → wpAny (model prog w) A' (Builtin.Slice.sliceApplied (.ref sl) (pure (its.toArray.size : Int))) Q E' s := by
    intro A' E' Q q
    unfold Builtin.Slice.sliceApplied Builtin.Slice.sliceFields
    refine wpAny_bind (wpAny_bind (wpAny_field hos hds (x := .none) rfl (wpAny_bind (wpAny_field hos hds (x := .none) rfl (wpAny_bind (wpAny_field hos hds (x := vs) rfl (wpAny_pure ?_)))))))
    refine wpAny_bind (HT.slicePart_ ps ?_)
    show wpAny _ _ (if ((-1 : Int) == 0) = true then _ else _) _ _ s
    rw [if_neg (by decide)]
    refine wpAny_bind (HT.slicePart_ .none (wpAny_bind (HT.slicePart_ .none (wpAny_bind (wpAny_pure ?_)))))
    show wpAny _ _ (match Builtin.Slice.sliceAdjust none none (-1) (its.toArray.size : Int) with | (lo, hi) => pure (lo, (-1 : Int), Builtin.Slice.slicePlaces lo hi (-1))) _ _ s
    rw [List.size_toArray, adjust_rev]
    show wpAny _ _ (pure ((its.length : Int) - 1, (-1 : Int), Builtin.Slice.slicePlaces ((its.length : Int) - 1) (-1) (-1))) _ _ s
    rw [places_rev]
    exact wpAny_pure q
  unfold getItem
  try with_reducible refine wpAny_holding ?_
  first | refine wpAny_bind (wpAny_pure ?_) | skip
  refine wpAny_bind (wpAny_sequenceKey ht.typeIs (by decide) ?_)
  refine wpAny_bind (wpAny_callSpecial?_slot (name := Str.ofString "__getitem__") ht.typeIs PyProof.Rows.slot_tuple_getitem
    (wpAny_call_entry PyProof.Rows.slot_tuple_getitem ht.typeIs entry_tuple_getitem ?_ (args_tuple_getitem _ _)))
  show wpAny _ _ (Builtin.Tuple.tupleItemsOf (.ref t) >>= _) _ _ s
  refine wpAny_bind (tupleItemsOf_ ht (wpAny_bind (wpAny_typeOf hTs ?_)))
  rw [if_pos (by decide)]
  refine wpAny_bind (hap ?_)
  have hno : ¬ ((((its.length : Int) - 1) == 0 && (-1 : Int) == 1 && its.length == its.toArray.size) = true) := by
    have : ((-1 : Int) == 1) = false := by decide
    rw [this, Bool.and_false, Bool.false_and]
    exact Bool.false_ne_true
  show wpAny _ _ (if (((its.length : Int) - 1) == 0 && (-1 : Int) == 1 && its.length == its.toArray.size) = true then _ else _) _ _ s
  rw [if_neg hno, pick_rev]
  first
    | exact wpAny_bind (m := Builtin.Tuple.tupleExact _) (wpAny_newObj_type (wpAny_pure ⟨_, rfl, wpAny_pure h⟩) htake)
    | exact wpAny_bind (m := Builtin.Tuple.tupleExact _) (wpAny_newObj_type (wpAny_bind (wpAny_pure (wpAny_pure ⟨_, rfl, wpAny_pure h⟩))) htake)
    | exact wpAny_bind (wpAny_bind (m := Builtin.Tuple.tupleExact _) (wpAny_newObj_type (wpAny_pure (wpAny_pure ⟨_, rfl, wpAny_pure h⟩)) htake))
    | exact wpAny_bind (wpAny_bind (m := Builtin.Tuple.tupleExact _) (wpAny_newObj_type (wpAny_pure ⟨_, rfl, wpAny_pure h⟩) htake))
end
def tRevT (K : PySem.W.Frag) (te : TE) : TE := fun σ H Q => te σ H fun x H1 => ∃ a xs, x = .ref a ∧ SqT K H1 a xs ∧ ∀ p, H1 p = none → Q (.ref p) (upd H1 p (.tup xs.reverse))
theorem pe_revT {X : Cx} {e : Expr} {te : TE} {k : Nat} {p1 p2 p3 pos : Pos} (he : PE X e te) : PE X (.Subscript e (.Slice none none (some (.UnaryOp .USub (.Constant (.int 1) k p1) p2)) p3) pos) (tRevT X.K te) := by
  refine ⟨fun pins s σ H Q I h => Subscript_ (thn (he.run pins s σ H _ I h) fun v s1 q0 => ?_)⟩
  obtain ⟨x, H1, I1, r1, a, xs, ex, hx, q⟩ := q0
  subst ex
  cases r1
  have hst : PO X (some (.UnaryOp .USub (.Constant (.int 1) k p1) p2)) (tPart (tUn (rU fun i => .int (-i)) (tC (.int 1)))) := po_some (pe_un un_neg pe_int)
  have e0 : ∀ {v : Value}, IsPart v none → v = .none := fun p => by cases p; rfl
  refine wpAny_Slice (thn (po_none.run pins s1 σ H1 (fun o H2 => o = none ∧ H2 = H1) I1 ⟨rfl, rfl⟩) fun vl s2 q0 => ?_)
  obtain ⟨l, H2, I2, pl, el, e2⟩ := q0
  subst el e2
  refine thn (po_none.run pins s2 σ H2 (fun o H3 => o = none ∧ H3 = H2) I2 ⟨rfl, rfl⟩) fun vu s3 q0 => ?_
  obtain ⟨u, H3, I3, pu, eu, e3⟩ := q0
  subst eu e3
  refine thn (hst.run pins s3 σ H3 (fun o H4 => o = some (-1) ∧ H4 = H3) I3 ⟨1, rfl, -1, rfl, rfl, rfl⟩) fun vs s4 q0 => ?_
  obtain ⟨o, H4, I4, ps, eo, e4⟩ := q0
  subst eo e4
  have z1 := e0 pl
  have z2 := e0 pu
  subst z1 z2
  have I5 : Inv X pins σ H4 { s4 with heap := s4.heap.push { cls := .type "slice", data := .fields #[.none, .none, vs] } } := I4.kept (t' := s4.toks) fun b ob q => Heap.get?_push_of_some _ q
  obtain ⟨its, r, ht, hz⟩ := I5.tuple hx
  have hlen := r.length
  refine tail_any (s := { s4 with heap := s4.heap.push { cls := .type "slice", data := .fields #[.none, .none, vs] } }) (ops := [.ref a, .ref s4.heap.objs.size]) ht.typeIs (PyProof.Rows.slot_tuple_getitem.lookup) ?_ (by with_unfolding_all rfl)
  refine getItem_tuple_rev ht (Heap.IsSliceOf.new _ _ _ vs) ps ?_ (by rw [← hlen]; exact hz)
  refine ⟨.ref _, _, I5.laid (t' := s4.toks) (o := .tup xs.reverse) (fun b ob q => Heap.get?_push_of_some _ q) (Nat.le_refl _) ?_, rfl, q _ (I5.hok.fresh (Nat.le_refl _))⟩
  exact ⟨by rw [List.length_reverse]; exact hz, _, r.reverse, IsTup.new _ _⟩
def revD : D → M D
  | .tup ds => pure (.tup ds.reverse)
  | _ => stuck
def revL : D → M D
  | .lst ds => pure (.lst ds.reverse)
  | .rls ds => pure (.lst ds.reverse)
  | _ => stuck
section
variable {S : Sta} {ρ : Ev} {a : Expr} {ma : M D} {k : Nat} {p1 p2 p3 pos : Pos}
theorem ee_revT (ha : EL S ρ a ma) : EE S ρ (.Subscript a (.Slice none none (some (.UnaryOp .USub (.Constant (.int 1) k p1) p2)) p3) pos) (ma >>= revD) := fun Y ok =>
  (pe_revT (X := S.cx Y) (ha Y ok)).pre fun σ H Q ⟨F, g, E, q⟩ => rdX.bind E q fun x v g' H' s E' r q => by
    cases x with
    | tup ds =>
      obtain ⟨a, us, rfl, sq, ru⟩ := r.tup E'.wf
      refine ⟨a, us, rfl, sq, fun l hl => ?_⟩
      have s2 := Stp.new (o := .tup us.reverse) E'.wf hl
      exact (post_pure q) _ { g' with G := upd g'.G l (.tup us.reverse) } _ rfl (s.trans E.wf s2) (.tup upd_same (ru.reverse.mono s2.gle s2.aml))
    | _ => exact False.elim q
theorem en_revL (ha : EL S ρ a ma) : EN S ρ (.Subscript a (.Slice none none (some (.UnaryOp .USub (.Constant (.int 1) k p1) p2)) p3) pos) (ma >>= revL) := fun Y ok =>
  (pe_revL (X := S.cx Y) (ha Y ok)).pre fun σ H Q ⟨F, g, E, q⟩ => rdX.bind E q fun x v g' H' s E' r q => by
    have core : ∀ (a : Addr) (us : List V) (ds : List D), SqL S.pg.K H' a us → S.pg.Rps g' us ds → Pv S.pg (RN S.pg) g H Q (.lst ds.reverse) g'.st → ∃ a xs, V.ref a = .ref a ∧ SqL S.pg.K H' a xs ∧ ∀ p, H' p = none → Q (.ref p) (upd H' p (.lst xs.reverse)) := fun a us ds sq r q =>
      ⟨a, us, rfl, sq, fun l hl => q _ g' _ rfl (s.trans E.wf (Stp.laid E'.wf hl)) ⟨l, rfl, ⟨_, upd_same, r.reverse⟩, E'.wf.freeG hl, E'.wf.freeA hl, s.none_of E.wf hl⟩⟩
    cases x with
    | lst ds =>
      obtain ⟨a, us, rfl, sq, ru⟩ := r.lst E'.wf
      exact ⟨a, us, rfl, SqL.of sq, fun l hl => (post_pure q) _ g' _ rfl (s.trans E.wf (Stp.laid E'.wf hl)) ⟨l, rfl, ⟨_, upd_same, ru.reverse⟩, E'.wf.freeG hl, E'.wf.freeA hl, s.none_of E.wf hl⟩⟩
    | rls ds =>
      obtain ⟨a, us, rfl, sq, ru⟩ := r.rls E'.wf
      exact ⟨a, us, rfl, sq, fun l hl => (post_pure q) _ g' _ rfl (s.trans E.wf (Stp.laid E'.wf hl)) ⟨l, rfl, ⟨_, upd_same, ru.reverse⟩, E'.wf.freeG hl, E'.wf.freeA hl, s.none_of E.wf hl⟩⟩
    | _ => exact False.elim q
/-! ### a statement that is never met -/
variable {st : Stmt} {N B : Type} {shN : N → Ev} {shB : B → Ev} {rest : List Stmt}
theorem sb_never : SB S ρ (st :: rest) (stuck : M (Out N B)) shN shB := fun Y ok => pss_never.pre fun Dd σ H ⟨F, g, E, q⟩ => False.elim q
end
end DL
namespace DL
open PySem PySem.Spec PyProof.Rows L2
/-! ### by the number of arguments -/
def p1 {α : Type} (f : D → M α) : List D → M α
  | [a] => f a
  | _ => stuck
def p2 {α : Type} (f : D → D → M α) : List D → M α
  | [a, b] => f a b
  | _ => stuck
def p3 {α : Type} (f : D → D → D → M α) : List D → M α
  | [a, b, c] => f a b c
  | _ => stuck
def p4 {α : Type} (f : D → D → D → D → M α) : List D → M α
  | [a, b, c, d] => f a b c d
  | _ => stuck
def p5 {α : Type} (f : D → D → D → D → D → M α) : List D → M α
  | [a, b, c, d, e] => f a b c d e
  | _ => stuck
def p6 {α : Type} (f : D → D → D → D → D → D → M α) : List D → M α
  | [a, b, c, d, e, g] => f a b c d e g
  | _ => stuck
def p0 {α : Type} (f : M α) : List D → M α
  | [] => f
  | _ => stuck
section
variable {α : Type} {P : List D → M α → Prop}
theorem q0 {f : M α} (h : P [] f) : ∀ ds : List D, ds.length = 0 → P ds (p0 f ds)
  | [], _ => h
theorem q1 {f : D → M α} (h : ∀ a, P [a] (f a)) : ∀ ds : List D, ds.length = 1 → P ds (p1 f ds)
  | [a], _ => h a
theorem q2 {f : D → D → M α} (h : ∀ a b, P [a, b] (f a b)) : ∀ ds : List D, ds.length = 2 → P ds (p2 f ds)
  | [a, b], _ => h a b
theorem q3 {f : D → D → D → M α} (h : ∀ a b c, P [a, b, c] (f a b c)) : ∀ ds : List D, ds.length = 3 → P ds (p3 f ds)
  | [a, b, c], _ => h a b c
theorem q4 {f : D → D → D → D → M α} (h : ∀ a b c d, P [a, b, c, d] (f a b c d)) : ∀ ds : List D, ds.length = 4 → P ds (p4 f ds)
  | [a, b, c, d], _ => h a b c d
theorem q5 {f : D → D → D → D → D → M α} (h : ∀ a b c d e, P [a, b, c, d, e] (f a b c d e)) : ∀ ds : List D, ds.length = 5 → P ds (p5 f ds)
  | [a, b, c, d, e], _ => h a b c d e
theorem q6 {f : D → D → D → D → D → D → M α} (h : ∀ a b c d e g, P [a, b, c, d, e, g] (f a b c d e g)) : ∀ ds : List D, ds.length = 6 → P ds (p6 f ds)
  | [a, b, c, d, e, g], _ => h a b c d e g
end
/-! ### swaps -/
def swC (sc scope : Scope) (x : Str) (p1 p2 : Pos) : Bool := (if sc.kind.isAnnotationScope then ScopeKind.function else sc.kind) == .function && sc.names.lookup x == some .local && p1.line == p2.line && !(scope.names.any fun (n, k) => n == x && (k == .local || k == .cell))
theorem sw_lc {elt : Expr} {gs : List Comprehension} {sc scope : Scope} {x : Str} {p1 p2 : Pos} {l : Nat} {b : Bool} (h : swC sc scope x p1 p2 = b) : ∀ env : Env, env.scope = sc → swapsWith (.ListComp elt gs scope p2) (some (.Name x p1)) l env = pure b := by
  rintro env rfl
  rw [← h]
  rfl
/-! ### the law's end -/
/-- the law's promise -/
def spLaw (K : PySem.W.Frag) : Sp := fun vs H Q _ => ∃ (a : Addr) (ns : List Int), vs = [.ref a] ∧ ns.length ≤ 63 ∧ SqL K H a (ns.map V.int) ∧ ∀ H', Q (.bl true) H'
/-- the law holds of its mirror -/
def LawOk (F : List D → M D) : Prop := ∀ ns : List Int, ns.length ≤ 63 → (F [.rls (ns.map D.int)] []).Post (fun d _ => d = .bl true) fun _ _ => False
theorem law_sp {p : Pg} {F : List D → M D} (h : LawOk F) (vs : List V) (H : Hp) (Q : VK) (E : XK) (q : spLaw p.K vs H Q E) : spD p [.v] F vs H Q E := by
  obtain ⟨a, ns, rfl, hl, hs, q⟩ := q
  refine ⟨⟨H, [], []⟩, [.rls (ns.map D.int)], ⟨fun _ _ e => e, fun _ h => (List.not_mem_nil h).elim, List.nodup_nil, rfl, fun k b c e => by simp at e⟩, ⟨.rls hs (.ofInts ns), True.intro⟩, (h ns hl).imp (fun d st e => ?_) fun _ _ e => e.elim⟩
  subst e
  intro v g' H' _ s r
  cases r
  exact q H'
theorem cx_no {P : Program} {w : World} {H : Hp} {s s' : Shared} {e : Value} (h : L2N.CX P w [] H s (fun _ _ _ => False) e s') : False := by
  obtain ⟨_, _, _, _, _, _, _, _, _, _, _, _, h⟩ := h
  exact h
end DL
namespace DL
open PySem PySem.Spec PyProof.Rows L2
/-! ### the built-ins by name -/
section
variable {S : Sta}
theorem b_len (m : S.pg.mg "len" = none) (g : Glb S "len" := by rfl) : Blt S "len" (.builtin "len") := .mk' g m PySem.boot_len
theorem b_sum (m : S.pg.mg "sum" = none) (g : Glb S "sum" := by rfl) : Blt S "sum" (.builtin "sum") := .mk' g m PyProof.Rows.boot_sum
theorem b_any (m : S.pg.mg "any" = none) (g : Glb S "any" := by rfl) : Blt S "any" (.builtin "any") := .mk' g m PyProof.Rows.boot_any
theorem b_all (m : S.pg.mg "all" = none) (g : Glb S "all" := by rfl) : Blt S "all" (.builtin "all") := .mk' g m PyProof.Rows.boot_all
theorem b_max (m : S.pg.mg "max" = none) (g : Glb S "max" := by rfl) : Blt S "max" (.builtin "max") := .mk' g m PyProof.Rows.boot_max
theorem b_min (m : S.pg.mg "min" = none) (g : Glb S "min" := by rfl) : Blt S "min" (.builtin "min") := .mk' g m PyProof.Rows.boot_min
theorem b_abs (m : S.pg.mg "abs" = none) (g : Glb S "abs" := by rfl) : Blt S "abs" (.builtin "abs") := .mk' g m PyProof.Rows.boot_abs
theorem b_sorted (m : S.pg.mg "sorted" = none) (g : Glb S "sorted" := by rfl) : Blt S "sorted" (.builtin "sorted") := .mk' g m PyProof.Rows.boot_sorted
theorem b_int (m : S.pg.mg "int" = none) (g : Glb S "int" := by rfl) : Blt S "int" (.type "int") := .mk' g m PyProof.Rows.boot_int
theorem b_tuple (m : S.pg.mg "tuple" = none) (g : Glb S "tuple" := by rfl) : Blt S "tuple" (.type "tuple") := .mk' g m PyProof.Rows.boot_tuple
theorem b_list (m : S.pg.mg "list" = none) (g : Glb S "list" := by rfl) : Blt S "list" (.type "list") := .mk' g m PyProof.Rows.boot_list
end
/-! ### rules with their small print filled in -/
section
variable {S : Sta} {ρ : Ev} {a b c e : Expr} {ma mb mc m : M D} {pos p p2 : Pos} {R : Rel}
theorem ev (i : Nat) {x : Str} {d : D} (hs : ρ[i]? = some (.sh d) := by rfl) (hN : S.N[i]? = some x := by rfl) (hv : Vis S.sc x := by first | exact Or.inl rfl | exact Or.inr (Or.inl rfl) | exact Or.inr (Or.inr rfl))
    (hd : (x == ("__debug__" : Str)) = false := by decide) (hcd : (x == ("__classdict__" : Str)) = false := by decide) : EE S ρ (.Name x pos) (pure d) := ee_var i hs hN hv hd hcd
theorem evo (i : Nat) {x : Str} {d : D} (hs : ρ[i]? = some (.ow d) := by rfl) (hN : S.N[i]? = some x := by rfl) (hv : Vis S.sc x := by first | exact Or.inl rfl | exact Or.inr (Or.inl rfl) | exact Or.inr (Or.inr rfl))
    (hd : (x == ("__debug__" : Str)) = false := by decide) (hcd : (x == ("__classdict__" : Str)) = false := by decide) : EL S ρ (.Name x pos) (pure d) := el_ow i hs hN hv hd hcd
theorem evb (i : Nat) {x : Str} {d : D} (hs : ρ[i]? = some (.bo d) := by rfl) (hN : S.N[i]? = some x := by rfl) (hv : Vis S.sc x := by first | exact Or.inl rfl | exact Or.inr (Or.inl rfl) | exact Or.inr (Or.inr rfl))
    (hd : (x == ("__debug__" : Str)) = false := by decide) (hcd : (x == ("__classdict__" : Str)) = false := by decide) : EL S ρ (.Name x pos) (pure d) := el_bo i hs hN hv hd hcd
theorem eg {x : Str} {i : Int} (h : ∃ t, S.pg.mg x = some (.int i t)) (hg : S.sc.names.lookup x = some .globalImplicit := by rfl) (hd : (x == ("__debug__" : Str)) = false := by decide) : EE S ρ (.Name x pos) (pure (.int i)) := by
  obtain ⟨t, h⟩ := h
  exact ee_glob (v := .int i) hg h ⟨t, rfl⟩ (fun _ => .int i) hd
theorem xcmp {op : CmpOp} {r : R2} {f : D → D → M Bool} (h : Cmp S op r f) (ha : EL S ρ a ma) (hb : EL S ρ b mb) (hm : behindInMarks op b = false := by rfl) : EE S ρ (.Compare a [op] [b] pos) (ma >>= fun x => mb >>= fun y => f x y >>= fun b => pure (.bl b)) := ee_cmp h ha hb hm
theorem tcmp {op : CmpOp} {r : R2} {f : D → D → M Bool} (h : Cmp S op r f) (ha : EL S ρ a ma) (hb : EL S ρ b mb) (hm : behindInMarks op b = false := by rfl) : ET S ρ (.Compare a [op] [b] pos) (ma >>= fun x => mb >>= fun y => f x y) := et_cmp h ha hb hm
theorem xix (ha : EL S ρ a ma) (hb : EL S ρ b mb) (hs : PlainIx b := by exact fun _ _ => rfl) : EE S ρ (.Subscript a b pos) (ma >>= fun x => mb >>= fun y => ixD x y) := ee_ix ha hb hs
theorem ttr (ha : EL S ρ a ma) (he : ∀ (env : Env) (whole : Sem Value), isTrue a env whole = (do let v ← whole; standAt a.pos; holding [v] (truthy v)) := by exact fun _ _ => rfl) : ET S ρ a (ma >>= truth) := et_truth ha he
theorem xcall {x : Str} {k : Nat} {F : List D → M D} {es : List Expr} {ks : List AK} {ms : M (List D)} (fn : Fnc S.pg k x ks F) (ha : EAk S ρ ks (e :: es) ms) (hk : k ≤ S.lv := by exact Nat.le_of_ble_eq_true rfl) (hg : Glb S x := by rfl) (hs : ∀ env : Env, starEach (e :: es) env = (false, eval e env) :: starEach es env := by exact fun _ => rfl)
    (hpl : ∀ env : Env, (backTo pos (starEach es env)).any (·.1) = false := by exact fun _ => rfl) (hdb : (x == ("__debug__" : Str)) = false := by decide) : EE S ρ (.Call (.Name x p) (e :: es) [] pos) (ms >>= F) := ee_call fn hk hg ha hs hpl hdb
theorem xcall0 {x : Str} {k : Nat} {F : List D → M D} (fn : Fnc S.pg k x [] F) (hk : k ≤ S.lv := by exact Nat.le_of_ble_eq_true rfl) (hg : Glb S x := by rfl) (hdb : (x == ("__debug__" : Str)) = false := by decide) : EE S ρ (.Call (.Name x p) [] [] pos) (F []) := ee_call0 fn hk hg hdb
theorem av {es : List Expr} {ks : List AK} {ms : M (List D)} (he : EE S ρ e m) (hr : EAk S ρ ks es ms) (hs : ∀ env : Env, starEach (e :: es) env = (false, eval e env) :: starEach es env := by exact fun _ => rfl) : EAk S ρ (.v :: ks) (e :: es) (m >>= fun d => ms >>= fun ds => pure (d :: ds)) := eak_v he hr hs
theorem ab {es : List Expr} {ks : List AK} {ms : M (List D)} (he : EL S ρ e m) (hr : EAk S ρ ks es ms) (hs : ∀ env : Env, starEach (e :: es) env = (false, eval e env) :: starEach es env := by exact fun _ => rfl) : EAk S ρ (.b :: ks) (e :: es) (m >>= fun d => ms >>= fun ds => pure (d :: ds)) := eak_b he hr hs
/-! targets -/
theorem tn (i : Nat) {x : Str} (hnd : S.N.Nodup) (hN : S.N[i]? = some x := by rfl) (hx : Loc S.sc x := by first | exact Or.inl rfl | exact Or.inr rfl) (hf : S.fn x = true ∨ S.sc.names.lookup x = some .local := by first | exact Or.inl rfl | exact Or.inr rfl) : TG S (.Name x pos) nm [i] := tg_name i hnd hN hx hf
theorem tc {tg : Expr} {tgs : List Expr} {u : D → M (List D)} {us : List D → M (List D)} {ix jx : List Nat} (pu : Pure1 u) (pus : Pure1 us) (hlen : Len1 u ix.length) (h1 : TG S tg u ix) (h2 : TGs S tgs us jx)
    (hs : ∀ env : Env, (assignEach (tg :: tgs) env).map (·.2) = assign tg env :: (assignEach tgs env).map (·.2) := by exact fun _ => rfl) : TGs S (tg :: tgs) (unc u us) (ix ++ jx) := tgs_cons pu pus hlen h1 h2 hs
theorem tt {tgs : List Expr} {us : List D → M (List D)} {ix : List Nat} {n k l : Nat} (h : TGs S tgs us ix) (hl : LenS us n l) (hn : ∀ env : Env, (assignEach tgs env).length = n := by exact fun _ => rfl) (hst : ∀ env : Env, (assignEach tgs env).findIdx? (·.1) = none := by exact fun _ => rfl) :
    TG S (.Tuple tgs k pos) (unT us) ix := tg_tup h hn (fun ds s r s' e => (hl ds s r s' e).1) hst
/-! statements -/
variable {rest body : List Stmt} {N B : Type} {shN : N → Ev} {shB : B → Ev} {apos cpos spos : Pos} {tg it : Expr} {mi : M (List D)} {o : Expr} {mo : M D}
theorem s_set (i : Nat) {x : Str} {k : D → M (Out N B)} (hnd : S.N.Nodup) (he : EE S ρ e m) (hr : ∀ d, SB S (ρ.set i (.sh d)) rest (k d) shN shB) (hs : ∀ env : Env, env.scope = S.sc → swapsWith e (some (.Name x p2)) pos.line env = pure false := by exact fun _ _ => rfl)
    (hN : S.N[i]? = some x := by rfl) (hx : Loc S.sc x := by first | exact Or.inl rfl | exact Or.inr rfl) (hf : S.fn x = true ∨ S.sc.names.lookup x = some .local := by first | exact Or.inl rfl | exact Or.inr rfl) :
    SB S ρ (.Assign [.Name x p2] e pos :: rest) (m >>= k) shN shB := sb_asg i hnd hN hx he hr hs hf
theorem s_setN (i : Nat) {x : Str} {k : D → M (Out N B)} (hnd : S.N.Nodup) (he : EN S ρ e m) (hr : ∀ d, SB S (ρ.set i (.ow d)) rest (k d) shN shB) (hs : ∀ env : Env, env.scope = S.sc → swapsWith e (some (.Name x p2)) pos.line env = pure false := by exact fun _ _ => rfl)
    (hN : S.N[i]? = some x := by rfl) (hx : Loc S.sc x := by first | exact Or.inl rfl | exact Or.inr rfl) (hf : S.fn x = true ∨ S.sc.names.lookup x = some .local := by first | exact Or.inl rfl | exact Or.inr rfl) :
    SB S ρ (.Assign [.Name x p2] e pos :: rest) (m >>= k) shN shB := sb_asgN i hnd hN hx he hr hs hf
theorem s_setC (i : Nat) {x : Str} {k : D → M (Out N B)} (hnd : S.N.Nodup) (he : CompE S ρ e m) (nd : NoDict m) (hr : ∀ d, SB S (ρ.set i (.sh d)) rest (k d) shN shB) (hs : ∀ env : Env, env.scope = S.sc → swapsWith e (some (.Name x p2)) pos.line env = pure true)
    (hN : S.N[i]? = some x := by rfl) (hx : S.sc.names.lookup x = some .local := by rfl) : SB S ρ (.Assign [.Name x p2] e pos :: rest) (m >>= k) shN shB := sb_asgC i hnd hN hx he nd hr hs
theorem s_setCN (i : Nat) {x : Str} {k : D → M (Out N B)} (hnd : S.N.Nodup) (he : CompE S ρ e m) (hr : ∀ d, SB S (ρ.set i (.ow d)) rest (k d) shN shB) (hs : ∀ env : Env, env.scope = S.sc → swapsWith e (some (.Name x p2)) pos.line env = pure true)
    (hN : S.N[i]? = some x := by rfl) (hx : S.sc.names.lookup x = some .local := by rfl) : SB S ρ (.Assign [.Name x p2] e pos :: rest) (m >>= k) shN shB := sb_asgCN i hnd hN hx he hr hs
theorem s_append (i : Nat) {x : Str} {d : D} {k : D → M (Out N B)} (he : EE S ρ e m) (hr : ∀ d, SB S (ρ.set i (.ow d)) rest (k d) shN shB) (hi : ρ[i]? = some (.ow d) := by rfl) (hN : S.N[i]? = some x := by rfl)
    (hv : Vis S.sc x := by first | exact Or.inl rfl | exact Or.inr (Or.inl rfl) | exact Or.inr (Or.inr rfl)) (hs : NoStar [e] := by exact fun _ => rfl) (hline : (apos.endLine == cpos.line) = true := by rfl)
    (hsw : ∀ env : Env, swapsWith (.Call (.Attribute (.Name x p) "append" apos) [e] [] cpos) none pos.line env = pure false := by exact fun _ => rfl) (hba : ∀ env : Env, attributeBase (.Name x p) "append" env (eval (.Name x p) env) = eval (.Name x p) env := by exact fun _ => rfl)
    (hd : (x == ("__debug__" : Str)) = false := by decide) (hcd : (x == ("__classdict__" : Str)) = false := by decide) :
    SB S ρ (.Expr (.Call (.Attribute (.Name x p) "append" apos) [e] [] cpos) pos :: rest) (lstD d >>= fun ds => m >>= fun y => appL ds y >>= k) shN shB := sb_append i hi hN hv he hr hs hline hsw hba hd hcd
theorem s_expr {k : M (Out N B)} (he : EL S ρ e m) (hr : SB S ρ rest k shN shB) (hs : ∀ env : Env, swapsWith e none pos.line env = pure false := by exact fun _ => rfl) : SB S ρ (.Expr e pos :: rest) (m >>= fun _ => k) shN shB := sb_expr he hr hs
theorem s_for {Z : Type} {sh : Z → Ev} {s0 : Z} {u : D → M (List D)} {ix : List Nat} {step : Z → List D → M (Out Z Z)} {k : Z → M (Out N B)} (hi : EI S ρ (TL S.pg) tg it mi) (hg : TG S tg u ix) (pu : Pure1 u) (hlen : Len1 u ix.length) (h0 : Le (sh s0) ρ)
    (hb : ∀ s ds, ds.length = ix.length → SB S (setE (sh s) ix ds) body (step s ds) sh sh) (hr : ∀ s, SB S (sh s) rest (k s) shN shB) (hs : ∀ (env : Env) (x : Value), foldedSetIterable it env x = pure x := by exact fun _ _ => rfl) :
    SB S ρ (.For tg it body [] pos :: rest) (mi >>= fun xs => forL (fun s x => u x >>= step s) s0 xs >>= seqO k) shN shB := sb_for hi hg pu hlen h0 hb hr hs
theorem s_cset {k : M (Out N B)} (he : EE S ρ e m) (ho : EE S ρ o mo) (hb : EE S ρ b mb) (hr : SB S ρ rest k shN shB)
    (hsw : ∀ env : Env, swapsWithSole [.Subscript o b spos] e pos.line env = pure false := by exact fun _ => rfl) (hw : ∀ env : Env, swappedStores [.Subscript o b spos] e env = pure none := by exact fun _ => rfl)
    (h1 : ∀ env : Env, (assignEach [.Subscript o b spos] env).map (·.2) = [assign (.Subscript o b spos) env] := by exact fun _ => rfl)
    (ha2 : ∀ (env : Env) v, assign (.Subscript o b spos) env v = (do
      let ov ← holding [v] (eval o env)
      let iv ← holding [v, ov] (eval b env)
      standAt spos
      holding [v, ov, iv] (setItem ov iv v)
      release [v, ov, iv] []) := by exact fun _ _ => rfl) :
    SB S ρ (.Assign [.Subscript o b spos] e pos :: rest) (m >>= fun y => mo >>= fun x => mb >>= fun i => cellSet x i y >>= fun _ => k) shN shB := sb_cset he ho hb hr hsw hw h1 ha2
theorem c_lc {ifs : List Expr} {scope : Scope} {elt : Expr} {u : D → M (List D)} {ix : List Nat} {mt : List D → M Bool} {me : List D → M D}
    (hN : S.N.Nodup) (own' : List (Str × Nat)) (hi : EI S ρ (TS' S.pg) tg it mi) (hg : TG (S.blk scope) tg u ix) (pu : Pure1 u) (hlen : Len1 u ix.length)
    (ht : ∀ ds, ds.length = ix.length → ETs (S.blk scope) (setE (wipeE ρ (own'.map (·.2))) ix ds) ifs (mt ds))
    (he : ∀ ds, ds.length = ix.length → EE (S.blk scope) (setE (wipeE ρ (own'.map (·.2))) ix ds) elt (me ds))
    (hok : blkC S.N S.sc scope own' = true := by kernel_rfl) (hix : ∀ i ∈ ix, i ∈ own'.map (·.2) := by decide)
    (hs : ∀ (env : Env) (x : Value), foldedSetIterable it env x = pure x := by exact fun _ _ => rfl) :
    CompE S ρ (.ListComp elt [⟨tg, it, ifs, 0⟩] scope pos) (lcM mi u mt me) := comp1 hN (blkOk_by hok) hi hg pu hlen hix ht he hs
end
end DL
namespace DL
open PySem PySem.Spec PyProof.Rows L2
/-! ### sorted(set(..)) of ints, any number of them -/
/-- the new set, as it is laid -/
abbrev newSet (w : World) : Obj := { cls := .type "set", dict := none, data := .set #[] 0 (.fresh 0 0 (!w.params.followText "set-order")) }
abbrev memI (ns : List Int) : Int → Bool := fun j => decide (j ∈ ns)
section
variable {P : Program} {w : World} {A : Around} {E : Value → Shared → Prop} {s : Shared}
set_option maxHeartbeats 4000000 in
theorem set_of_list {l : Addr} {its : Array Value} (ns : List Int) {Q : Value → Shared → Prop} (nh : A.handled = none) (isl : s.heap.IsList l its) (hI : IntsAre its.toList ns) (few : ns.length + 1 < scanBound)
    (done : ∀ (hp : Heap) (tk n : Nat), SetR w hp s.heap.objs.size (memI ns) n → n ≤ ns.length → (∀ b o, s.heap.get? b = some o → hp.get? b = some o) → Q (.ref s.heap.objs.size) { s with heap := hp, toks := tk }) :
    wpAny (model P w) A (call (.type "set") [.ref l]) Q E s := by
  have hsize : its.size = ns.length := by
    have z := IntsAre.length hI
    rwa [Array.length_toList] at z
  obtain ⟨cm, tlm, hmro⟩ := F.called_set.mro
  have hmd := F.called_set.made
  have hsb := F.called_set.sub
  have hnt := F.called_set.notType
  have hcc := F.called_set.canCreate
  have htc := F.typeCall_set_1 (.ref l)
  refine wpAny_call (codeAny_of_tree ?_)
  show wpAny _ _ (callAny (.type "set") _) _ _ _
  refine wpAny_pure ⟨Code.quiet_builtin _ (by decide +kernel), codeAny_builtin F.entry_type_call ?_⟩
  rw [Around.under_plain (weight_type_call_type "set" [.ref l] []) rfl]
  repeat (any_goals (first | assumption | wp_step))
  refine codeAny_mono (code_set_led1 (.ref l) (E := E) (Q₁ := fun v s1 => v = .ref s.heap.objs.size ∧ s1 = { s with heap := s.heap.push (newSet w) }) ⟨rfl, rfl⟩) fun r s1 hr => ?_
  cases r with
  | error e => exact hr
  | ok fl =>
    cases fl with
    | next => exact hr.elim
    | brk => exact hr.elim
    | cont => exact hr.elim
    | ret v =>
      obtain ⟨rfl, rfl⟩ := hr
      have hset : (s.heap.push (newSet w)).get? s.heap.objs.size = some (newSet w) := Heap.get?_push_size _ rfl
      have hty : Shared.TypeIs { s with heap := s.heap.push (newSet w) } (.ref s.heap.objs.size) "set" := ⟨_, hset, rfl⟩
      have hlk := F.called_set.init.lookup
      have hbd := F.called_set.init.bind (.ref s.heap.objs.size)
      repeat (any_goals (first | assumption | wp_step))
      refine codeAny_mono (codeAny_call_builtin (R := wants (fun r s2 => r = .none ∧ ∃ hp tk n, s2 = { s with heap := hp, toks := tk } ∧ SetR w hp s.heap.objs.size (memI ns) n ∧ n ≤ ns.length ∧ ∀ b o, s.heap.get? b = some o → hp.get? b = some o) E)
        F.called_set.init.plain F.entry_set_init (check_set_init_1 hty ?_)) fun r2 s2 hr2 => ?_
      · obtain ⟨⟨oc, od, odt, osl⟩, hol, hcl, nl, hdl⟩ := isl
        simp only at hcl hdl
        subst hcl hdl
        have hol' : (s.heap.push (newSet w)).get? l = some { cls := .type "list", dict := od, data := .seq its nl, slots := osl } := Heap.get?_push_of_some _ hol
        have n1 := F.sub_list_set
        have n2 := F.sub_list_frozenset
        have n3 : (Value.type "list" == Value.type "dict") = false := by decide
        have isl1 : (s.heap.push (newSet w)).IsList l its := ⟨_, hol', rfl, nl, rfl⟩
        unfold Builtin.«set.__init__» noKeywords Builtin.Frozenset.updateFrom
        generalize hPI : pyIter = PI
        wp_walk
        subst hPI
        refine wpAny_pyIter_list isl1 (wpAny_bind (wpAny_runValue ?_))
        have lS : l < s.heap.objs.size := Heap.lt_size hol
        have nh3 : A.in1.in1.in1.handled = none := by simp [nh]
        have zz : (s.heap.push (newSet w)).objs.size = s.heap.objs.size + 1 := Heap.size_push ..
        have neI : l ≠ (s.heap.push (newSet w)).objs.size := by
          rw [zz]
          exact Nat.ne_of_lt (Nat.lt_succ_of_lt lS)
        have nS : s.heap.objs.size ∉ [(s.heap.push (newSet w)).objs.size, l] := by
          rw [zz]
          simp only [List.mem_cons, List.not_mem_nil, or_false, not_or]
          exact ⟨Nat.ne_of_lt (Nat.lt_succ_self _), Nat.ne_of_gt lS⟩
        have val : ∀ (i : Nat) (v : Value), its[i]? = some v → ∃ k t, ns[i]? = some k ∧ v = .int k t := fun i v hv => by
          have hi : i < ns.length := by rw [← hsize]; exact (Array.getElem?_eq_some_iff.mp hv).1
          obtain ⟨t, e⟩ := PyProof.Rows.IntsAre.int_at hI i v (by rw [Array.getElem?_toList]; exact hv)
          refine ⟨ns[i], t, List.getElem?_eq_getElem hi, ?_⟩
          rw [e, List.getD_eq_getElem?_getD, List.getElem?_eq_getElem hi]
          rfl
        refine set_update_ints ((Walks.list nh3 _ l neI its).toS) s.heap.objs.size nS ns hsize few val (its.size - 0) 0 _ (by omega) (Nat.zero_le _) ⟨⟨_, Heap.get?_push_size _ rfl, rfl, rfl⟩, (isl1.push _)⟩ ⟨0, Nat.le_refl 0, setR_new_at (Heap.get?_push_of_some _ hset)⟩ ?_
        rintro ⟨hp, g2, d2, tk2, os2⟩ n hm hn hS
        have e1 : g2 = s.gens := hm.gens
        have e2 : d2 = s.drawn := hm.drawn
        have e3 : os2 = s.os := hm.os
        subst e1 e2 e3
        show wpAny _ _ _ _ _ _
        refine wpAny_pure ?_
        show wpAny _ _ (ret Value.none) _ _ _
        rw [hsize] at hn
        refine wpAny_pure ⟨rfl, hp, tk2, n, rfl, hS, hn, fun b o e => ?_⟩
        have b0 : b < s.heap.objs.size := Heap.lt_size e
        refine hm.heap b o ?_ (Heap.get?_push_of_some _ (Heap.get?_push_of_some _ e))
        simp only [List.mem_cons, List.not_mem_nil, or_false, not_or]
        exact ⟨Nat.ne_of_lt b0, by rw [zz]; exact Nat.ne_of_lt (Nat.lt_succ_of_lt b0)⟩
      · cases r2 with
        | error e => exact hr2
        | ok fl2 =>
          cases fl2 with
          | next => exact hr2.elim
          | brk => exact hr2.elim
          | cont => exact hr2.elim
          | ret r =>
            obtain ⟨rfl, hp, tk, n, rfl, hS, hn, hk⟩ := hr2
            repeat (any_goals (first | assumption | wp_step))
            exact done _ _ _ hS hn hk
theorem sort_of_set {a : Addr} {S : Int → Bool} {n : Nat} {Q : Value → Shared → Prop} (R : SetR w s.heap a S n) (nh : A.handled = none) (few : n ≤ sizeLine)
    (done : ∀ s2 p (out : Array Value) (c : Nat) (ns : List Int), (∀ b o, s.heap.get? b = some o → s2.heap.get? b = some o) → s2.gens = s.gens → s2.os = s.os → s.heap.objs.size ≤ p →
      s2.heap.get? p = some (seqObj "list" out c) → IntsAre out.toList ns → ns.Pairwise (· < ·) → (∀ k, k ∈ ns ↔ S k = true) → Q (.ref p) s2) : wpAny (model P w) A (call (.builtin "sorted") [.ref a]) Q E s := by
  obtain ⟨ob, es, ep, tb, hob, hex, hdt, good, nd, hmem, hsc, hfit, hn, hris, hled⟩ := R
  refine Calls.call_function_entry kind_sorted plain_sorted entry_sorted (args_sorted1 _) ?_
  unfold Builtin.«sorted»
  refine wpAny_bind (m := checkCount "sorted" 1 1 _) (wpAny_pure ?_)
  refine wpAny_bind (collect_set (A := A.in1) nh ⟨ob, hob, hex.1, hdt⟩ hfit hsc hris hled fun s1 vs k1 z1 g1 o1 pm => ?_)
  have lv : vs.length = n := by rw [pm.length_eq, List.length_map, Array.length_toList]; exact hn
  have hI : IntsAre vs (vs.map Builtin.Re.reRawOf) := ints_of vs fun v hv => by
    obtain ⟨e, he, q⟩ := List.mem_map.mp (pm.mem_iff.mp hv)
    obtain ⟨k, tk, h1, _⟩ := good e he
    exact ⟨k, tk, by rw [← q]; exact h1⟩
  have pk : (vs.map Builtin.Re.reRawOf).Perm (es.toList.map keyOf) := by
    have q := pm.map Builtin.Re.reRawOf
    rwa [List.map_map] at q
  have hz : vs.length ≤ sizeLine := by rw [lv]; exact few
  refine wpAny_bind (wpAny_newList ?_ hz)
  have hL : (s1.heap.push (seqObj "list" vs.toArray 0)).get? s1.heap.objs.size = some (seqObj "list" vs.toArray 0) := Heap.get?_push_size _ rfl
  refine wpAny_bind (wpAny_holding (wpAny_call_entry slot_list_sort ⟨_, hL, rfl⟩ entry_list_sort
    (SrtO.list_sort_ord SrtO.swo_int (s := { s1 with heap := s1.heap.push (seqObj "list" vs.toArray 0) }) hL hz (fun h2 => SrtO.ints_sortable hI h2) fun out h1 h2 => ⟨_, rfl, ?_⟩) (args_list_sort _)))
  obtain ⟨k1', k2, k3⟩ := SrtO.ints_out hI h1 h2
  obtain ⟨c, hc⟩ := sortedHeap_at (vs := vs) (out := out.toArray) hL
  have pn : (out.map SrtO.iv).Perm (es.toList.map keyOf) := k2.trans pk
  refine wpAny_pure ⟨_, rfl, done _ s1.heap.objs.size out.toArray c (out.map SrtO.iv) (fun b u e => ?_) g1 o1 z1 hc k1' (lt_of_le_nodup _ k3 (pn.nodup_iff.mpr nd)) fun k => by rw [pn.mem_iff, ← hmem k]⟩
  have q := k1 b u e
  have lt := Heap.lt_size q
  show (sortedHeap (s1.heap.push (seqObj "list" vs.toArray 0)) s1.heap.objs.size vs out.toArray).get? b = some u
  rw [sortedHeap_old (Nat.ne_of_lt lt) (by rw [size_push']; exact Nat.lt_succ_of_lt lt)]
  exact Heap.get?_push_of_some _ q
end
/-- what sorted(set(..)) makes of a list -/
def uniqI : List Int → List Int
  | [] => []
  | x :: r => if r.contains x then uniqI r else x :: uniqI r
theorem uniqI_mem {x : Int} : ∀ {l : List Int}, x ∈ uniqI l ↔ x ∈ l
  | [] => Iff.rfl
  | y :: r => by
    unfold uniqI
    by_cases h : r.contains y = true
    · rw [if_pos h, uniqI_mem, List.mem_cons]
      refine ⟨.inr, fun q => q.elim (fun e => ?_) id⟩
      rw [e]
      exact List.contains_iff_mem.mp h
    · rw [if_neg h, List.mem_cons, List.mem_cons, uniqI_mem]
theorem uniqI_nodup : ∀ l : List Int, (uniqI l).Nodup
  | [] => List.nodup_nil
  | y :: r => by
    unfold uniqI
    by_cases h : r.contains y = true
    · rw [if_pos h]; exact uniqI_nodup r
    · rw [if_neg h]
      exact List.nodup_cons.mpr ⟨fun q => h (List.contains_iff_mem.mpr (uniqI_mem.mp q)), uniqI_nodup r⟩
def ssort (l : List Int) : List Int := isort (uniqI l)
theorem ssort_lt (l : List Int) : (ssort l).Pairwise (· < ·) := by
  have h1 : (ssort l).Nodup := (isort_perm _).nodup_iff.mpr (uniqI_nodup l)
  refine ((List.nodup_iff_pairwise_ne.mp h1).and (isort_sorted _)).imp fun h => ?_
  have h1 := h.1
  have h2 := h.2
  omega
theorem ssort_mem {l : List Int} {x : Int} : x ∈ ssort l ↔ x ∈ l := (isort_perm _).mem_iff.trans uniqI_mem
theorem lt_unique : ∀ {a b : List Int}, a.Pairwise (· < ·) → b.Pairwise (· < ·) → (∀ x, x ∈ a ↔ x ∈ b) → a = b := by
  intro a b ha hb h
  refine sorted_uniq ((List.perm_ext_iff_of_nodup ?_ ?_).mpr h) (ha.imp fun h => Int.le_of_lt h) (hb.imp fun h => Int.le_of_lt h)
  · exact List.nodup_iff_pairwise_ne.mpr (ha.imp fun h => Int.ne_of_lt h)
  · exact List.nodup_iff_pairwise_ne.mpr (hb.imp fun h => Int.ne_of_lt h)
def ssortI : D → M D
  | .lst ds => match dints ds with
    | some ns => if ns.length ≤ 4000 then pure (.lst ((ssort ns).map D.int)) else stuck
    | none => stuck
  | .tup ds => match dints ds with
    | some ns => if ns.length ≤ 4000 then pure (.lst ((ssort ns).map D.int)) else stuck
    | none => stuck
  | .rls ds => match dints ds with
    | some ns => if ns.length ≤ 4000 then pure (.lst ((ssort ns).map D.int)) else stuck
    | none => stuck
  | _ => stuck
def rSetAny (K : PySem.W.Frag) (w : World) : List V → Hp → VK → Prop := fun xs H Q => ∃ (l : Addr) (ns : List Int), xs = [.ref l] ∧ (SqL K H l (ns.map V.int) ∨ SqT K H l (ns.map V.int)) ∧ ns.length ≤ 4000 ∧
  ∀ (p : Addr) (n : Nat), H p = none → n ≤ ns.length → Q (.ref p) (upd H p (SetO w p (memI ns) n))
section
variable {X : Cx}
theorem cr_setAny (hc : X.calm = true) : CallR X (.type "set") (rSetAny X.K X.w) := by
  intro pins s σ H xs us Q I r h
  obtain ⟨l, ns, rfl, hs, hl, q⟩ := h
  rw [Vals.ref1 r]
  have fr : H s.heap.objs.size = none := I.hok.fresh (Nat.le_refl _)
  have few : ns.length + 1 < scanBound := by unfold scanBound; omega
  have fin : ∀ (hp : Heap) (tk n : Nat), SetR X.w hp s.heap.objs.size (memI ns) n → n ≤ ns.length → (∀ b o, s.heap.get? b = some o → hp.get? b = some o) → EP X pins σ Q (.ref s.heap.objs.size) { s with heap := hp, toks := tk } := fun hp tk n R hn hk =>
    ⟨.ref s.heap.objs.size, upd H s.heap.objs.size (SetO X.w s.heap.objs.size (memI ns) n), I.laid (t' := tk) hk (Nat.le_refl _) (setO_new R), rfl, q _ n fr hn⟩
  rcases hs with hs | hs
  · obtain ⟨its, rv, pl, _⟩ := I.list hs
    exact set_of_list ns (I.ok.hd hc) pl.isList (by simpa using rv.ints) few fin
  · obtain ⟨its, rv, pl, _⟩ := I.tuple hs
    exact call_set_tupI ns (I.ok.hd hc) pl (by simpa using rv.ints) few fin
def rSortSet (w : World) : List V → Hp → VK → Prop := fun vs H Q => ∃ (a : Addr) (S : Int → Bool) (n : Nat), vs = [V.ref a] ∧ H a = some (SetO w a S n) ∧ n ≤ 4000 ∧
  ∀ (ns : List Int) (p : Addr), ns.Pairwise (· < ·) → (∀ k : Int, k ∈ ns ↔ S k = true) → H p = none → Q (.ref p) (upd H p (.lst (ns.map V.int)))
theorem cr_sortSet (hc : X.calm = true) : CallR X (.builtin "sorted") (rSortSet X.w) := by
  intro pins s σ H vs us Q I r h
  obtain ⟨a, S, n, rfl, ha, few, q⟩ := h
  have R := setO_get I ha
  rw [Vals.ref1 r]
  have few' : n ≤ sizeLine := Nat.le_trans few (by decide)
  refine sort_of_set R (I.ok.hd hc) few' fun s2 p out c ns k g o hp hg hi hs hm => ?_
  have fr : H p = none := I.hok.fresh hp
  have hlen : (ns.map V.int).length ≤ sizeLine := by
    have := I.hok a _ ha
    obtain ⟨ob, es, ep, tb, _, _, _, _, nd, hmem, hsc, _, hn, _⟩ := R
    have : ns.Perm (es.toList.map keyOf) := (List.perm_ext_iff_of_nodup (List.nodup_iff_pairwise_ne.mpr (hs.imp fun h => Int.ne_of_lt h)) nd).mpr fun x => by rw [hm, hmem]
    rw [List.length_map, this.length_eq, List.length_map, Array.length_toList, hn]
    exact few'
  have J : Inv X pins σ (upd H p (.lst (ns.map V.int))) { s with heap := s2.heap, gens := s2.gens, drawn := s2.drawn, toks := s2.toks } :=
    I.call (ch := []) (Un.laid k hp fr) (I.hok.laid k hp ⟨hlen, out.toList, c, vals_of_ints hi, hg⟩) (by rw [g]; exact I.bare) (fun _ z => nomatch z)
  have e : s2 = { s with heap := s2.heap, gens := s2.gens, drawn := s2.drawn, toks := s2.toks } := by
    cases s2
    cases s
    cases o
    rfl
  rw [e]
  exact ⟨.ref p, _, J, rfl, q ns p hs hm fr⟩
end
section
variable {S : Sta} {ρ : Ev} {a : Expr} {ma : M D} {pos p p2 q : Pos}
theorem ssort_read {ns : List Int} {us : List Int} (h1 : us.Pairwise (· < ·)) (h2 : ∀ k : Int, k ∈ us ↔ memI ns k = true) : us = ssort ns :=
  lt_unique h1 (ssort_lt ns) fun x => by rw [h2, ssort_mem]; exact decide_eq_true_iff
theorem seq_ints {g : Gs} {H : Hp} {v : V} {x : D} {ok : D → Store → Prop} {ex : Nat → Store → Prop} (w : Wf S.pg g H) (hx : TopR S.pg g H v x) (q : (ssortI x g.st).Post ok ex) :
    ∃ a ns, v = .ref a ∧ (SqL S.pg.K H a (ns.map V.int) ∨ SqT S.pg.K H a (ns.map V.int)) ∧ ns.length ≤ 4000 ∧ ok (.lst ((ssort ns).map D.int)) g.st := by
  have core : ∀ (ds : List D), ((match dints ds with
    | some ns => if ns.length ≤ 4000 then (pure (.lst ((ssort ns).map D.int)) : M D) else stuck
    | none => stuck) g.st).Post ok ex → ∃ ns, ds = ns.map D.int ∧ ns.length ≤ 4000 ∧ ok (.lst ((ssort ns).map D.int)) g.st := fun ds q => by
    cases e : dints ds with
    | none => rw [e] at q; exact False.elim q
    | some ns =>
      rw [e] at q
      by_cases z : ns.length ≤ 4000
      · simp only [if_pos z] at q
        exact ⟨ns, ints_eq e, z, q⟩
      · simp only [if_neg z] at q
        exact False.elim q
  cases x with
  | lst ds =>
    obtain ⟨a, us, rfl, s, r⟩ := hx.lst w
    obtain ⟨ns, rfl, hl, q⟩ := core ds q
    have := r.toInts
    subst this
    exact ⟨a, ns, rfl, .inl (SqL.of s), hl, q⟩
  | tup ds =>
    obtain ⟨a, us, rfl, s, r⟩ := hx.tup w
    obtain ⟨ns, rfl, hl, q⟩ := core ds q
    have := r.toInts
    subst this
    exact ⟨a, ns, rfl, .inr s, hl, q⟩
  | rls ds =>
    obtain ⟨a, us, rfl, s, r⟩ := hx.rls w
    obtain ⟨ns, rfl, hl, q⟩ := core ds q
    have := r.toInts
    subst this
    exact ⟨a, ns, rfl, .inl s, hl, q⟩
  | _ => exact False.elim q
theorem en_ssetI (B : Blt S "sorted" (.builtin "sorted")) (B2 : Blt S "set" (.type "set")) (ha : EL S ρ a ma) (hs : NoStar [a] := by exact fun _ => rfl) (hs2 : NoStar [.Call (.Name "set" p2) [a] [] q] := by exact fun _ => rfl) :
    EN S ρ (.Call (.Name "sorted" p) [.Call (.Name "set" p2) [a] [] q] [] pos) (ma >>= ssortI) := fun Y ok => by
  have h1 := pe_callTy (X := S.cx Y) (pos := q) (p := p2) (cr_setAny rfl) B2.gl B2.mg B2.boot (pa_cons (ha Y ok) pa_nil (hs _)) B2.n1 B2.n2 (hs _) rfl
  refine (pe_callB (X := S.cx Y) (pos := pos) (p := p) (cr_sortSet rfl) B.gl B.mg B.boot (pa_cons h1 pa_nil (hs2 _)) B.n1 B.n2 (hs2 _) rfl).pre fun σ H Q ⟨F, g, E, q⟩ => ?_
  refine rdX.bind E q fun x v g' H' s E' r q => ?_
  obtain ⟨l, ns, rfl, hq, hl, q⟩ := seq_ints E'.wf r q
  refine ⟨l, ns, rfl, hq, hl, fun p1 n hp hn => ⟨p1, memI ns, n, rfl, upd_same, by omega, fun us p2 hlt hm hp2 => ?_⟩⟩
  have e := ssort_read hlt hm
  subst e
  have s1 := Stp.laid (o := SetO S.pg.w p1 (memI ns) n) E'.wf hp
  have hp2' : H' p2 = none := by
    by_cases z : p2 = p1
    · subst z; rw [upd_same] at hp2; cases hp2
    · rwa [upd_ne z] at hp2
  have s2 := Stp.laid (o := .lst ((ssort ns).map V.int)) s1.wf hp2
  exact q _ g' _ rfl (s.trans E.wf (s1.trans E'.wf s2)) ⟨p2, rfl, ⟨_, upd_same, .ofInts _⟩, E'.wf.freeG hp2', E'.wf.freeA hp2', s.none_of E.wf hp2'⟩
theorem b_set (m : S.pg.mg "set" = none) (g : Glb S "set" := by rfl) : Blt S "set" (.type "set") := .mk' g m PyProof.Rows.boot_set
end
end DL
namespace DL
open PySem PySem.Spec PyProof.Rows L2
/-! ### objects: cells of the kind ins -/
def putD (f : Str) (d : D) : List (Str × D) → List (Str × D)
  | [] => [(f, d)]
  | (h, x) :: r => if h = f then (h, d) :: r else (h, x) :: putD f d r
section
variable {p : Pg} {g : Gs}
theorem RpF.look {f : Str} : ∀ {fvs : List (Str × V)} {fs : List (Str × D)} {d : D}, RpF p g fvs fs → fs.lookup f = some d → ∃ v, fvs.lookup f = some v ∧ p.Rp g v d
  | _, [], d, _, e => by cases e
  | _, (h, x) :: r, d, .cons (a := (h', v)) hr t, e => by
    obtain ⟨e1, r1⟩ := hr
    have e1 : h' = h := e1
    subst e1
    by_cases z : (f == h') = true
    · simp only [List.lookup, z] at e ⊢
      cases e
      exact ⟨v, rfl, r1⟩
    · rw [Bool.not_eq_true] at z
      simp only [List.lookup, z] at e ⊢
      exact RpF.look t e
theorem RpF.lookN {f : Str} : ∀ {fvs : List (Str × V)} {fs : List (Str × D)}, RpF p g fvs fs → fs.lookup f = none → fvs.lookup f = none
  | _, [], .nil, _ => rfl
  | _, (h, x) :: r, .cons (a := (h', v)) hr t, e => by
    obtain ⟨e1, r1⟩ := hr
    have e1 : h' = h := e1
    subst e1
    by_cases z : (f == h') = true
    · simp only [List.lookup, z] at e
      cases e
    · rw [Bool.not_eq_true] at z
      simp only [List.lookup, z] at e ⊢
      exact RpF.lookN t e
theorem RpF.put {f : Str} {v : V} {d : D} (r : p.Rp g v d) : ∀ {fvs : List (Str × V)} {fs : List (Str × D)}, RpF p g fvs fs → RpF p g (putF f v fvs) (putD f d fs)
  | _, [], .nil => .cons ⟨rfl, r⟩ .nil
  | _, (h, x) :: fs, .cons (a := (h', u)) hr t => by
    obtain ⟨e1, r1⟩ := hr
    have e1 : h' = h := e1
    subst e1
    unfold putF putD
    by_cases z : h' = f
    · rw [if_pos z, if_pos z]
      exact .cons ⟨rfl, r⟩ t
    · rw [if_neg z, if_neg z]
      exact .cons ⟨rfl, r1⟩ (RpF.put r t)
theorem RpF.len : ∀ {fvs : List (Str × V)} {fs : List (Str × D)}, RpF p g fvs fs → fvs.length = fs.length
  | _, [], .nil => rfl
  | _, _ :: _, .cons _ t => by rw [List.length_cons, List.length_cons, RpF.len t]
end
/-- the fields of an object of the class c -/
def insD (c : Nat) : D → M (Nat × List (Str × D))
  | .ref k => getC k >>= fun z => match z with
    | .ins c' fs => if c' = c then pure (k, fs) else stuck
    | _ => stuck
  | _ => stuck
theorem insD_post {p : Pg} {g : Gs} {H : Hp} {v : V} {d : D} {c : Nat} {ok : Nat × List (Str × D) → Store → Prop} {ex : Nat → Store → Prop} (w : Wf p g H) (r : TopR p g H v d) (q : (insD c d g.st).Post ok ex) :
    ∃ k a dx fvs fs, d = .ref k ∧ v = .ref a ∧ g.am[k]? = some a ∧ H a = some (.ins (p.cA c) dx fvs) ∧ H dx = some (.own a) ∧ RpF p g fvs fs ∧ ok (k, fs) g.st := by
  cases d with
  | ref k =>
    obtain ⟨a, rfl, e⟩ := TopR.ref r
    obtain ⟨z, e2, r⟩ := w.at_ref e
    have q : ((getC k >>= fun z => match z with
      | .ins c' fs => if c' = c then pure (k, fs) else stuck
      | _ => stuck) g.st).Post ok ex := q
    rw [bind_run] at q
    unfold getC at q
    rw [e2] at q
    cases z with
    | ins c' fs =>
      obtain ⟨dx, fvs, h1, h2, h3⟩ := r
      by_cases z : c' = c
      · subst z
        simp only [if_true] at q
        exact ⟨k, a, dx, fvs, fs, rfl, rfl, e, h1, h2, h3, q⟩
      · simp only [if_neg z] at q
        exact False.elim q
    | _ => exact False.elim q
  | _ => exact False.elim q
def lookM (f : Str) (fs : List (Str × D)) : M D := match fs.lookup f with
  | some d => pure d
  | none => stuck
theorem lookM_post {f : Str} {fs : List (Str × D)} {s : Store} {ok : D → Store → Prop} {ex : Nat → Store → Prop} (q : (lookM f fs s).Post ok ex) : ∃ d, fs.lookup f = some d ∧ ok d s := by
  unfold lookM at q
  cases e : fs.lookup f with
  | none => rw [e] at q; exact False.elim q
  | some d => rw [e] at q; exact ⟨d, rfl, q⟩
/-- o.f -/
def fldD (c : Nat) (f : Str) (o : D) : M D := insD c o >>= fun kf => lookM f kf.2
/-- o.f = d -/
def setF (c : Nat) (f : Str) (o d : D) : M Unit := insD c o >>= fun kf => if kf.2.length < 1000 then setC kf.1 (.ins c (putD f d kf.2)) else stuck
/-- no field has the name m -/
def noF (m : Str) (fs : List (Str × D)) : M Unit := match fs.lookup m with
  | none => pure ()
  | some _ => stuck
theorem noF_post {f : Str} {fs : List (Str × D)} {s : Store} {ok : Unit → Store → Prop} {ex : Nat → Store → Prop} (q : (noF f fs s).Post ok ex) : fs.lookup f = none ∧ ok () s := by
  unfold noF at q
  cases e : fs.lookup f with
  | none => rw [e] at q; exact ⟨rfl, q⟩
  | some d => rw [e] at q; exact False.elim q
/-- what is known of a class -/
structure ClsD (p : Pg) (c : Nat) (fs : List Str) : Prop where
  cls : Cls p.K (p.cA c)
  no : ∀ f ∈ fs, NoAttr p.K (p.cA c) f
structure Mtd (p : Pg) (c : Nat) (k : Nat) (m : Str) (ks : List AK) (F : List D → M D) : Prop where
  ex : ∃ f fd ps, FnOk p.P p.w p.K p.mg p.base (L2N.CX p.P p.w) k f fd ps (spD p ks F) ∧ Meth p.K (p.cA c) m f ∧ Binds p.K fd ps []
structure Mkr (p : Pg) (c : Nat) (k : Nat) (x : Str) (ks : List AK) (F : List D → M D) : Prop where
  ex : ∃ f fd ps, FnOk p.P p.w p.K p.mg p.base (L2N.CX p.P p.w) k f fd ps (spD p ks F) ∧ Mk p.K (p.cA c) f ∧ Binds p.K fd ps [] ∧ p.mg x = some (.ref (p.cA c))
theorem Stp.wrtI {p : Pg} {g : Gs} {H : Hp} {a dx : Addr} {k c : Nat} {fvs fvs' : List (Str × V)} {fs : List (Str × D)} (w : Wf p g H) (hk : g.am[k]? = some a) (e : H a = some (.ins (p.cA c) dx fvs)) (ed : H dx = some (.own a))
    (r : RpF p { g with st := g.st.set k (.ins c fs) } fvs' fs) : Stp p g H { g with st := g.st.set k (.ins c fs) } (upd H a (.ins (p.cA c) dx fvs')) :=
  Stp.wrt w hk e (fun _ z => by cases z) (fun _ z => by cases z) ⟨dx, fvs', upd_same, by rw [upd_ne (ne_of ed e fun z => by cases z)]; exact ed, r⟩
section
variable {S : Sta} {ρ : Ev} {a b c o e ie : Expr} {ma mb mc m mo mv : M D} {pos p apos cpos spos pos' tpos : Pos} {N B : Type} {shN : N → Ev} {shB : B → Ev} {rest : List Stmt} {f : Str} {ci : Nat} {fl : List Str}
theorem ee_fld (hc : ClsD S.pg ci fl) (hf : f ∈ fl) (ho : EE S ρ o mo) (hba : ∀ env : Env, attributeBase o f env (eval o env) = eval o env) : EE S ρ (.Attribute o f pos) (mo >>= fldD ci f) := fun Y ok =>
  (pe_fld (X := S.cx Y) (ho Y ok) (hba _)).pre fun σ H Q ⟨F, g, E, q⟩ => rdX.bind E q fun x v g' H' s E' r q => by
    obtain ⟨k, a, dx, fvs, fs, rfl, rfl, hk, h1, h2, h3, q⟩ := insD_post E'.wf (.inl r) (post_bind q)
    obtain ⟨d, hd, q⟩ := lookM_post q
    obtain ⟨v, hv, rv⟩ := h3.look hd
    exact ⟨a, _, dx, fvs, v, rfl, h1, hc.cls, hc.no f hf, hv, q v g' H' rfl s rv⟩
theorem sb_fset {k : M (Out N B)} (hc : ClsD S.pg ci fl) (hf : f ∈ fl) (hv : EE S ρ e mv) (ho : EE S ρ o mo) (hr : SB S ρ rest k shN shB) (hs : ∀ env : Env, env.scope = S.sc → swapsWith e (some (.Attribute o f pos')) pos.line env = pure false) :
    SB S ρ (.Assign [.Attribute o f pos'] e pos :: rest) (mv >>= fun y => mo >>= fun x => setF ci f x y >>= fun _ => k) shN shB := fun Y ok => by
  refine (pss_cons (ps_fld (X := S.cx Y) (ho Y ok) (hv Y ok) (hs _ rfl)) (hr Y ok)).pre fun Dd σ H ⟨F, g, E, q⟩ => ?_
  refine rdS.expr E q fun y v g1 H1 s1 E1 r1 q => rdS.expr E1 q fun x u g2 H2 s2 E2 r2 q => ?_
  have q := post_bind q
  unfold setF at q
  obtain ⟨kk, a, dx, fvs, fs, rfl, rfl, hk, h1, h2, h3, q⟩ := insD_post E2.wf (.inl r2) (post_bind q)
  by_cases z : fs.length < 1000
  · simp only [if_pos z] at q
    have st := Stp.wrtI (fs := putD f y fs) E2.wf hk h1 h2 (RpF.put (f := f) (p := S.pg) (g := { g2 with st := g2.st.set kk (.ins ci (putD f y fs)) }) (r1.mono s2.gle s2.aml) h3)
    refine ⟨a, _, dx, fvs, rfl, h1, hc.cls, hc.no f hf, by rw [h3.len]; exact z, F, _, E2.step st, ?_⟩
    have q : (k (g2.st.set kk (.ins ci (putD f y fs)))).Post _ _ := q
    exact q.imp (fun _ _ q => q.back st.ltr) fun _ _ q => q
  · simp only [if_neg z] at q
    exact False.elim q
/-- o.f += e, numbers -/
def addI : D → D → M D
  | .int i, .int j => pure (.int (i + j))
  | _, _ => stuck
def subI : D → D → M D
  | .int i, .int j => pure (.int (i - j))
  | _, _ => stuck
theorem addI_post {x y : D} {s : Store} {ok : D → Store → Prop} {ex : Nat → Store → Prop} (q : (addI x y s).Post ok ex) : ∃ i j, x = .int i ∧ y = .int j ∧ ok (.int (i + j)) s := by
  cases x with
  | int i =>
    cases y with
    | int j => exact ⟨i, j, rfl, rfl, q⟩
    | _ => exact False.elim q
  | _ => exact False.elim q
theorem subI_post {x y : D} {s : Store} {ok : D → Store → Prop} {ex : Nat → Store → Prop} (q : (subI x y s).Post ok ex) : ∃ i j, x = .int i ∧ y = .int j ∧ ok (.int (i - j)) s := by
  cases x with
  | int i =>
    cases y with
    | int j => exact ⟨i, j, rfl, rfl, q⟩
    | _ => exact False.elim q
  | _ => exact False.elim q
theorem sb_faug {k : M (Out N B)} (hc : ClsD S.pg ci fl) (hf : f ∈ fl) (ho : EE S ρ o mo) (hv : EE S ρ e mv) (hr : SB S ρ rest k shN shB) :
    SB S ρ (.AugAssign (.Attribute o f tpos) .Add e pos :: rest) (mo >>= fun x => fldD ci f x >>= fun u => mv >>= fun y => addI u y >>= fun z => setF ci f x z >>= fun _ => k) shN shB := fun Y ok => by
  refine (pss_cons (ps_fldaug (X := S.cx Y) (ho Y ok) (hv Y ok) in_add) (hr Y ok)).pre fun Dd σ H ⟨F, g, E, q⟩ => ?_
  refine rdS.expr E q fun x v g1 H1 s1 E1 r1 q => ?_
  have q := post_bind q
  unfold fldD at q
  obtain ⟨kk, a, dx, fvs, fs, rfl, rfl, hk, h1, h2, h3, q⟩ := insD_post E1.wf (.inl r1) (post_bind q)
  obtain ⟨d, hd, q⟩ := lookM_post q
  obtain ⟨u, hu, ru⟩ := h3.look hd
  refine ⟨a, _, dx, fvs, u, rfl, h1, hc.cls, hc.no f hf, hu, rdS.expr E1 q fun y v2 g2 H2 s2 E2 r2 q => ?_⟩
  obtain ⟨i, j, ed, ey, q5⟩ := addI_post (post_bind q)
  subst ed ey
  have eu := TopR.int (H := H1) (.inl ru)
  have ev := TopR.int (H := H2) (.inl r2)
  subst eu ev
  have q6 := post_bind q5
  unfold setF at q6
  obtain ⟨k2, a2, dx2, fvs2, fs2, e1, e2, hk2, g1', g2', g3, q7⟩ := insD_post E2.wf (.inl (r1.mono s2.gle s2.aml)) (post_bind q6)
  cases e1
  cases e2
  by_cases z : fs2.length < 1000
  · simp only [if_pos z] at q7
    have st := Stp.wrtI (fs := putD f (.int (i + j)) fs2) E2.wf hk2 g1' g2' (RpF.put (f := f) (p := S.pg) (g := { g2 with st := g2.st.set kk (.ins ci (putD f (.int (i + j)) fs2)) }) (.int (i + j)) g3)
    refine ⟨i, j, rfl, rfl, dx2, fvs2, g1', by rw [g3.len]; exact z, F, _, E2.step st, ?_⟩
    have q : (k (g2.st.set kk (.ins ci (putD f (.int (i + j)) fs2)))).Post _ _ := q7
    exact q.imp (fun _ _ q => q.back st.ltr) fun _ _ q => q
  · simp only [if_neg z] at q7
    exact False.elim q7
/-- x += e, x -= e: numbers -/
theorem sb_aug (i : Nat) {x : Str} {d : D} {k : D → M (Out N B)} (hnd : S.N.Nodup) (hi : ρ[i]? = some (.sh d)) (hN : S.N[i]? = some x) (hx : Loc S.sc x) (he : EE S ρ e m) (hr : ∀ d, SB S (ρ.set i (.sh d)) rest (k d) shN shB) (hf : S.fn x = true ∨ S.sc.names.lookup x = some .local) :
    SB S ρ (.AugAssign (.Name x pos') .Add e pos :: rest) (m >>= fun y => addI d y >>= k) shN shB := fun Y ok => by
  have hR : PSs (S.cx Y) rest (fun Dd σ H => ∃ d, rdS S Y (ρ.set i (.sh d)) (k d) shN shB Dd σ H) := ⟨fun pins s σ H Dd I ⟨d, q⟩ => (hr d Y ok).run pins s σ H Dd I q⟩
  refine (pss_cons (ps_aug (X := S.cx Y) (i := i) hnd hN hx (he Y ok) ip_add hf) hR).pre fun Dd σ H ⟨F, g, E, q⟩ => ?_
  have h := E.sl i _ hi
  cases es : σ[i]? with
  | none => rw [es] at h; exact h.elim
  | some o =>
    rw [es] at h
    cases o with
    | none => exact h.elim
    | some v =>
      refine ⟨v, es, rdS.expr E q fun y u g1 H1 s1 E1 r1 q => ?_⟩
      obtain ⟨n1, n2, rfl, rfl, q⟩ := addI_post (post_bind q)
      have h : S.pg.Rp g v (.int n1) := h
      have e1 := TopR.int (H := H) (.inl h)
      have e2 := TopR.int (H := H1) (.inl r1)
      subst e1 e2
      exact ⟨n1, n2, rfl, rfl, _, F, g1, E1.set (.int (n1 + n2)), q⟩
theorem sb_augS (i : Nat) {x : Str} {d : D} {k : D → M (Out N B)} (hnd : S.N.Nodup) (hi : ρ[i]? = some (.sh d)) (hN : S.N[i]? = some x) (hx : Loc S.sc x) (he : EE S ρ e m) (hr : ∀ d, SB S (ρ.set i (.sh d)) rest (k d) shN shB) (hf : S.fn x = true ∨ S.sc.names.lookup x = some .local) :
    SB S ρ (.AugAssign (.Name x pos') .Sub e pos :: rest) (m >>= fun y => subI d y >>= k) shN shB := fun Y ok => by
  have hR : PSs (S.cx Y) rest (fun Dd σ H => ∃ d, rdS S Y (ρ.set i (.sh d)) (k d) shN shB Dd σ H) := ⟨fun pins s σ H Dd I ⟨d, q⟩ => (hr d Y ok).run pins s σ H Dd I q⟩
  refine (pss_cons (ps_aug (X := S.cx Y) (i := i) hnd hN hx (he Y ok) ip_sub hf) hR).pre fun Dd σ H ⟨F, g, E, q⟩ => ?_
  have h := E.sl i _ hi
  cases es : σ[i]? with
  | none => rw [es] at h; exact h.elim
  | some o =>
    rw [es] at h
    cases o with
    | none => exact h.elim
    | some v =>
      refine ⟨v, es, rdS.expr E q fun y u g1 H1 s1 E1 r1 q => ?_⟩
      obtain ⟨n1, n2, rfl, rfl, q⟩ := subI_post (post_bind q)
      have h : S.pg.Rp g v (.int n1) := h
      have e1 := TopR.int (H := H) (.inl h)
      have e2 := TopR.int (H := H1) (.inl r1)
      subst e1 e2
      exact ⟨n1, n2, rfl, rfl, _, F, g1, E1.set (.int (n1 - n2)), q⟩
/-! calls of methods -/
variable {es : List Expr} {ms : M (List D)} {ks : List AK} {fm : Str} {k : Nat} {FM : List D → M D}
def mthM (ci : Nat) (fm : Str) (mo : M D) (ms : M (List D)) (FM : List D → M D) : M D := mo >>= fun x => insD ci x >>= fun kf => noF fm kf.2 >>= fun _ => ms >>= fun vs => FM (x :: vs)
theorem ee_meth (hc : ClsD S.pg ci fl) (mt : Mtd S.pg ci k fm (.v :: ks) FM) (hk : k ≤ S.lv) (ho : EE S ρ o mo) (ha : EAk S ρ ks (e :: es) ms) (hs : ∀ env : Env, starEach (e :: es) env = (false, eval e env) :: starEach es env) (hpl : ∀ env : Env, (backTo pos (starEach es env)).any (·.1) = false)
    (ht : ∀ env : Env, eval (.Call (.Attribute o fm apos) (e :: es) [] pos) env = (do
      let ov ← eval o env
      standAt apos.atName
      let (f, first) ← holding [ov] (getMethod ov fm (do return (← importBound o env).getD true))
      callWith pos f first (backTo pos (starEach (e :: es) env)) (backToKw pos (keywordEach [] env)))) : EE S ρ (.Call (.Attribute o fm apos) (e :: es) [] pos) (mthM ci fm mo ms FM) := fun Y ok => by
  obtain ⟨fA, fd, ps, FO, hm, hb⟩ := mt.ex
  refine (pe_meth (X := S.cx Y) (E := fun cls d H' => Y.W cls d H') (ho Y ok) hc.cls hm FO (ok.room.mono hk) hb .nil (L2N.passes_call ok.takes fun _ _ _ _ h => h) (ha Y ok) (hs _) (hpl _) (ht _)).pre fun σ H Q ⟨F, g, E, q⟩ => ?_
  refine rdX.bind E q fun x v g1 H1 s1 E1 r1 q => ?_
  obtain ⟨kk, a, dx, fvs, fs, rfl, rfl, hk1, h1, h2, h3, q⟩ := insD_post E1.wf (.inl r1) (post_bind q)
  obtain ⟨hn, q⟩ := noF_post (post_bind q)
  refine ⟨a, dx, fvs, rfl, h1, h3.lookN hn, rdA.bind E1 (q.imp (fun _ _ q => q) fun _ _ q => q.back E.wf s1) fun ds vs g2 H2 s2 E2 r2 q => ?_⟩
  rw [List.append_nil]
  exact ⟨g2, .ref kk :: ds, E2.wf, ⟨r1.mono s2.gle s2.aml, r2⟩, q.imp (fun _ _ q => q.back back_RE E.wf (s1.trans E.wf s2)) fun _ _ q => Px.back E1.wf s2 q⟩
theorem ee_meth0 (hc : ClsD S.pg ci fl) (mt : Mtd S.pg ci k fm [.v] FM) (hk : k ≤ S.lv) (ho : EE S ρ o mo)
    (ht : ∀ env : Env, eval (.Call (.Attribute o fm apos) [] [] pos) env = (do
      let ov ← eval o env
      standAt apos.atName
      let (f, first) ← holding [ov] (getMethod ov fm (do return (← importBound o env).getD true))
      callWith pos f first (backTo pos (starEach [] env)) (backToKw pos (keywordEach [] env)))) : EE S ρ (.Call (.Attribute o fm apos) [] [] pos) (mthM ci fm mo (pure []) FM) := fun Y ok => by
  obtain ⟨fA, fd, ps, FO, hm, hb⟩ := mt.ex
  refine (pe_meth0 (X := S.cx Y) (E := fun cls d H' => Y.W cls d H') (ho Y ok) hc.cls hm FO (ok.room.mono hk) hb .nil (L2N.passes_call ok.takes fun _ _ _ _ h => h) (ht _)).pre fun σ H Q ⟨F, g, E, q⟩ => ?_
  refine rdX.bind E q fun x v g1 H1 s1 E1 r1 q => ?_
  obtain ⟨kk, a, dx, fvs, fs, rfl, rfl, hk1, h1, h2, h3, q⟩ := insD_post E1.wf (.inl r1) (post_bind q)
  obtain ⟨hn, q⟩ := noF_post (post_bind q)
  refine ⟨a, dx, fvs, rfl, h1, h3.lookN hn, ?_⟩
  exact ⟨g1, [.ref kk], E1.wf, ⟨r1, True.intro⟩, q.imp (fun _ _ q => q.back back_RE E.wf s1) fun _ _ q => q.back E.wf s1⟩
/-! making -/
def mkM (ci : Nat) (ms : M (List D)) (FM : List D → M D) : M D := ms >>= fun vs => newC (.ins ci []) >>= fun k => FM (.ref k :: vs) >>= fun r => match r with
  | .non => pure (.ref k)
  | _ => stuck
theorem Stp.ins {p : Pg} {g : Gs} {H : Hp} {x dx : Addr} {c : Nat} (w : Wf p g H) (hx : H x = none) (hd : H dx = none) (ne : dx ≠ x) : Stp p g H (g.cell x (.ins c [])) (upd (upd H dx (.own x)) x (.ins (p.cA c) dx [])) ∧ (g.cell x (.ins c [])).am[g.st.length]? = some x := by
  have s1 := Stp.laid (o := .own x) w hd
  have hx1 : upd H dx (.own x) x = none := by rw [upd_ne (fun z => ne z.symm)]; exact hx
  have s2 := Stp.laid (o := .ins (p.cA c) dx []) s1.wf hx1
  have s := s1.trans w s2
  obtain ⟨wf', pre⟩ := Stp.cell (c := .ins c []) s.wf (w.freeG hx) (w.freeA hx) ⟨dx, [], upd_same, by rw [upd_ne ne, upd_same], .nil⟩
  refine ⟨⟨s.gle, pre, s.keep, s.gnew, fun b hb => ?_, wf'⟩, ?_⟩
  · rcases List.mem_append.mp hb with h | h
    · exact .inl h
    · rw [List.mem_singleton.mp h]; exact .inr hx
  · show (g.am ++ [x])[g.st.length]? = some x
    rw [← w.len, List.getElem?_append_right (Nat.le_refl _), Nat.sub_self]
    rfl
theorem make_core {p : Pg} {g0 g : Gs} {H0 H : Hp} {ds : List D} {vs : List V} {ks : List AK} {Q : VK} {ci : Nat} {FM : List D → M D} {EX : XK} (w0 : Wf p g0 H0) (s0 : Stp p g0 H0 g H) (hE : ∀ c st', (∀ g' H', g'.st = st' → Stp p g0 H0 g' H' → EX (.ref (p.cA c)) none H') → ∀ g' H', g'.st = st' → Stp p g H g' H' → EX (.ref (p.cA c)) none H')
    (r : ArgR p g H ks vs ds) (q : ((newC (.ins ci []) >>= fun k => FM (.ref k :: ds) >>= fun r => match r with
      | .non => pure (.ref k)
      | _ => stuck) g.st).Post (Pv p (RE p) g0 H0 Q) fun c st' => ∀ g' H', g'.st = st' → Stp p g0 H0 g' H' → EX (.ref (p.cA c)) none H') (x dx : Addr) (hx : H x = none) (hd : H dx = none) (ne : dx ≠ x) :
    spD p (.v :: ks) FM (.ref x :: vs) (upd (upd H dx (.own x)) x (.ins (p.cA ci) dx [])) (fun v H2 => v = .non ∧ Q (.ref x) H2) EX := by
  obtain ⟨s1, hk⟩ := Stp.ins (c := ci) s0.wf hx hd ne
  have sa := s0.trans w0 s1
  have q : ((FM (.ref g.st.length :: ds) >>= fun r => match r with
      | .non => pure (.ref g.st.length)
      | _ => stuck) (g.cell x (.ins ci [])).st).Post (Pv p (RE p) g0 H0 Q) _ := q
  refine ⟨g.cell x (.ins ci []), .ref g.st.length :: ds, s1.wf, ⟨.ref hk, r.step s0.wf s1⟩, (post_bind q).imp (fun d st' q => ?_) fun c st' q g' H' e s => q g' H' e (sa.trans w0 s)⟩
  cases d with
  | non =>
    intro v g' H' e s rv
    cases rv
    refine ⟨rfl, (post_pure q) (.ref x) g' H' e (sa.trans w0 s) (.ref (pre_get s.aml hk))⟩
  | _ => exact False.elim q
theorem ee_make {x : Str} (mk : Mkr S.pg ci k x (.v :: ks) FM) (hk : k + 1 ≤ S.lv) (hg : Glb S x) (ha : EAk S ρ ks (e :: es) ms) (hs : ∀ env : Env, starEach (e :: es) env = (false, eval e env) :: starEach es env) (hpl : ∀ env : Env, (backTo pos (starEach es env)).any (·.1) = false)
    (hdb : (x == ("__debug__" : Str)) = false) : EE S ρ (.Call (.Name x p) (e :: es) [] pos) (mkM ci ms FM) := fun Y ok => by
  obtain ⟨fA, fd, ps, FO, hm, hb, hx⟩ := mk.ex
  refine (pe_make (X := S.cx Y) (E := fun cls d H' => Y.W cls d H') hm FO (ok.room.mono hk) hg hx hb .nil (L2N.passes_call ok.takes fun _ _ _ _ h => h) (ha Y ok) hdb (hs _) (hpl _)).pre fun σ H Q ⟨F, g, E, q⟩ => ?_
  refine rdA.bind E q fun ds vs g1 H1 s1 E1 r1 q => fun x dx hx hd ne => ?_
  rw [List.append_nil]
  exact make_core E.wf s1 (fun c st' h g' H' e s => h g' H' e (s1.trans E.wf s)) r1 q x dx hx hd ne
theorem ee_make0 {x : Str} (mk : Mkr S.pg ci k x [.v] FM) (hk : k + 1 ≤ S.lv) (hg : Glb S x) (hdb : (x == ("__debug__" : Str)) = false) : EE S ρ (.Call (.Name x p) [] [] pos) (mkM ci (pure []) FM) := fun Y ok => by
  obtain ⟨fA, fd, ps, FO, hm, hb, hx⟩ := mk.ex
  refine (pe_make0 (X := S.cx Y) (E := fun cls d H' => Y.W cls d H') hm FO (ok.room.mono hk) hg hx hb .nil (L2N.passes_call ok.takes fun _ _ _ _ h => h) hdb).pre fun σ H Q ⟨F, g, E, q⟩ => ?_
  intro x dx hx hd ne
  exact make_core (ks := []) (vs := []) (ds := []) E.wf (.refl E.wf) (fun c st' h => h) True.intro q x dx hx hd ne
end
end DL
namespace DL
open PySem PySem.Spec PyProof.Rows L2
section
variable {S : Sta} {ρ : Ev} {a b c o e ie : Expr} {ma mb mc m mo mv : M D} {pos p p2 q apos cpos spos pos' tpos : Pos} {N B : Type} {shN : N → Ev} {shB : B → Ev} {rest : List Stmt} {f : Str} {ci : Nat} {fl : List Str}
variable {es : List Expr} {ms : M (List D)} {ks : List AK} {fm : Str} {k : Nat} {FM : List D → M D}
theorem xfld (hc : ClsD S.pg ci fl) (hf : f ∈ fl) (ho : EE S ρ o mo) (hba : ∀ env : Env, attributeBase o f env (eval o env) = eval o env := by exact fun _ => rfl) : EE S ρ (.Attribute o f pos) (mo >>= fldD ci f) := ee_fld hc hf ho hba
theorem s_fset {k : M (Out N B)} (hc : ClsD S.pg ci fl) (hf : f ∈ fl) (hv : EE S ρ e mv) (ho : EE S ρ o mo) (hr : SB S ρ rest k shN shB) (hs : ∀ env : Env, env.scope = S.sc → swapsWith e (some (.Attribute o f pos')) pos.line env = pure false := by exact fun _ _ => rfl) :
    SB S ρ (.Assign [.Attribute o f pos'] e pos :: rest) (mv >>= fun y => mo >>= fun x => setF ci f x y >>= fun _ => k) shN shB := sb_fset hc hf hv ho hr hs
theorem s_faug {k : M (Out N B)} (hc : ClsD S.pg ci fl) (hf : f ∈ fl) (ho : EE S ρ o mo) (hv : EE S ρ e mv) (hr : SB S ρ rest k shN shB) :
    SB S ρ (.AugAssign (.Attribute o f tpos) .Add e pos :: rest) (mo >>= fun x => fldD ci f x >>= fun u => mv >>= fun y => addI u y >>= fun z => setF ci f x z >>= fun _ => k) shN shB := sb_faug hc hf ho hv hr
theorem s_aug (i : Nat) {x : Str} {d : D} {k : D → M (Out N B)} (hnd : S.N.Nodup) (he : EE S ρ e m) (hr : ∀ d, SB S (ρ.set i (.sh d)) rest (k d) shN shB) (hi : ρ[i]? = some (.sh d) := by rfl) (hN : S.N[i]? = some x := by rfl)
    (hx : Loc S.sc x := by first | exact Or.inl rfl | exact Or.inr rfl) (hf : S.fn x = true ∨ S.sc.names.lookup x = some .local := by first | exact Or.inl rfl | exact Or.inr rfl) :
    SB S ρ (.AugAssign (.Name x pos') .Add e pos :: rest) (m >>= fun y => addI d y >>= k) shN shB := sb_aug i hnd hi hN hx he hr hf
theorem s_augS (i : Nat) {x : Str} {d : D} {k : D → M (Out N B)} (hnd : S.N.Nodup) (he : EE S ρ e m) (hr : ∀ d, SB S (ρ.set i (.sh d)) rest (k d) shN shB) (hi : ρ[i]? = some (.sh d) := by rfl) (hN : S.N[i]? = some x := by rfl)
    (hx : Loc S.sc x := by first | exact Or.inl rfl | exact Or.inr rfl) (hf : S.fn x = true ∨ S.sc.names.lookup x = some .local := by first | exact Or.inl rfl | exact Or.inr rfl) :
    SB S ρ (.AugAssign (.Name x pos') .Sub e pos :: rest) (m >>= fun y => subI d y >>= k) shN shB := sb_augS i hnd hi hN hx he hr hf
theorem s_extend (i : Nat) {x : Str} {d : D} {k : D → M (Out N B)} (he : EL S ρ e m) (hr : ∀ d, SB S (ρ.set i (.ow d)) rest (k d) shN shB) (hi : ρ[i]? = some (.ow d) := by rfl) (hN : S.N[i]? = some x := by rfl)
    (hv : Vis S.sc x := by first | exact Or.inl rfl | exact Or.inr (Or.inl rfl) | exact Or.inr (Or.inr rfl)) (hs : NoStar [e] := by exact fun _ => rfl) (hline : (apos.endLine == cpos.line) = true := by rfl)
    (hsw : ∀ env : Env, swapsWith (.Call (.Attribute (.Name x p) "extend" apos) [e] [] cpos) none pos.line env = pure false := by exact fun _ => rfl) (hba : ∀ env : Env, attributeBase (.Name x p) "extend" env (eval (.Name x p) env) = eval (.Name x p) env := by exact fun _ => rfl)
    (hd : (x == ("__debug__" : Str)) = false := by decide) (hcd : (x == ("__classdict__" : Str)) = false := by decide) :
    SB S ρ (.Expr (.Call (.Attribute (.Name x p) "extend" apos) [e] [] cpos) pos :: rest) (lstD d >>= fun ds => m >>= fun y => extL ds y >>= k) shN shB := sb_extend i hi hN hv he hr hs hline hsw hba hd hcd
theorem s_item (i : Nat) {x : Str} {d : D} {k : D → M (Out N B)} (he : EE S ρ e m) (hb : EE S ρ b mb) (hr : ∀ d, SB S (ρ.set i (.ow d)) rest (k d) shN shB) (hi : ρ[i]? = some (.ow d) := by rfl) (hN : S.N[i]? = some x := by rfl)
    (hv : Vis S.sc x := by first | exact Or.inl rfl | exact Or.inr (Or.inl rfl) | exact Or.inr (Or.inr rfl))
    (hsw : ∀ env : Env, swapsWithSole [.Subscript (.Name x p) b spos] e pos.line env = pure false := by exact fun _ => rfl) (hw : ∀ env : Env, swappedStores [.Subscript (.Name x p) b spos] e env = pure none := by exact fun _ => rfl)
    (h1 : ∀ env : Env, (assignEach [.Subscript (.Name x p) b spos] env).map (·.2) = [assign (.Subscript (.Name x p) b spos) env] := by exact fun _ => rfl)
    (ha2 : ∀ (env : Env) v, assign (.Subscript (.Name x p) b spos) env v = (do
      let ov ← holding [v] (eval (.Name x p) env)
      let iv ← holding [v, ov] (eval b env)
      standAt spos
      holding [v, ov, iv] (setItem ov iv v)
      release [v, ov, iv] []) := by exact fun _ _ => rfl) (hd : (x == ("__debug__" : Str)) = false := by decide) (hcd : (x == ("__classdict__" : Str)) = false := by decide) :
    SB S ρ (.Assign [.Subscript (.Name x p) b spos] e pos :: rest) (lstD d >>= fun ds => m >>= fun y => mb >>= fun j => setO ds j y >>= k) shN shB := sb_setitem i hi hN hv he hb hr hsw hw h1 ha2 hd hcd
theorem xmeth (hc : ClsD S.pg ci fl) (mt : Mtd S.pg ci k fm (.v :: ks) FM) (ho : EE S ρ o mo) (ha : EAk S ρ ks (e :: es) ms) (hk : k ≤ S.lv := by exact Nat.le_of_ble_eq_true rfl) (hs : ∀ env : Env, starEach (e :: es) env = (false, eval e env) :: starEach es env := by exact fun _ => rfl)
    (hpl : ∀ env : Env, (backTo pos (starEach es env)).any (·.1) = false := by exact fun _ => rfl)
    (ht : ∀ env : Env, eval (.Call (.Attribute o fm apos) (e :: es) [] pos) env = (do
      let ov ← eval o env
      standAt apos.atName
      let (f, first) ← holding [ov] (getMethod ov fm (do return (← importBound o env).getD true))
      callWith pos f first (backTo pos (starEach (e :: es) env)) (backToKw pos (keywordEach [] env))) := by exact fun _ => rfl) : EE S ρ (.Call (.Attribute o fm apos) (e :: es) [] pos) (mthM ci fm mo ms FM) := ee_meth hc mt hk ho ha hs hpl ht
theorem xmeth0 (hc : ClsD S.pg ci fl) (mt : Mtd S.pg ci k fm [.v] FM) (ho : EE S ρ o mo) (hk : k ≤ S.lv := by exact Nat.le_of_ble_eq_true rfl)
    (ht : ∀ env : Env, eval (.Call (.Attribute o fm apos) [] [] pos) env = (do
      let ov ← eval o env
      standAt apos.atName
      let (f, first) ← holding [ov] (getMethod ov fm (do return (← importBound o env).getD true))
      callWith pos f first (backTo pos (starEach [] env)) (backToKw pos (keywordEach [] env))) := by exact fun _ => rfl) : EE S ρ (.Call (.Attribute o fm apos) [] [] pos) (mthM ci fm mo (pure []) FM) := ee_meth0 hc mt hk ho ht
theorem xmake {x : Str} (mk : Mkr S.pg ci k x (.v :: ks) FM) (ha : EAk S ρ ks (e :: es) ms) (hk : k + 1 ≤ S.lv := by exact Nat.le_of_ble_eq_true rfl) (hg : Glb S x := by rfl) (hs : ∀ env : Env, starEach (e :: es) env = (false, eval e env) :: starEach es env := by exact fun _ => rfl)
    (hpl : ∀ env : Env, (backTo pos (starEach es env)).any (·.1) = false := by exact fun _ => rfl) (hdb : (x == ("__debug__" : Str)) = false := by decide) : EE S ρ (.Call (.Name x p) (e :: es) [] pos) (mkM ci ms FM) := ee_make mk hk hg ha hs hpl hdb
theorem xmake0 {x : Str} (mk : Mkr S.pg ci k x [.v] FM) (hk : k + 1 ≤ S.lv := by exact Nat.le_of_ble_eq_true rfl) (hg : Glb S x := by rfl) (hdb : (x == ("__debug__" : Str)) = false := by decide) : EE S ρ (.Call (.Name x p) [] [] pos) (mkM ci (pure []) FM) := ee_make0 mk hk hg hdb
end
theorem mtd_of {p : Pg} {c k : Nat} {m : Str} {f : Addr} {fd : FuncData} {ps : List Str} {ks : List AK} {F : List D → M D} (h : FnOk p.P p.w p.K p.mg p.base (L2N.CX p.P p.w) k f fd ps (spD p ks F)) (hm : Meth p.K (p.cA c) m f) (hb : Binds p.K fd ps []) : Mtd p c k m ks F := ⟨f, fd, ps, h, hm, hb⟩
theorem mkr_of {p : Pg} {c k : Nat} {x : Str} {f : Addr} {fd : FuncData} {ps : List Str} {ks : List AK} {F : List D → M D} (h : FnOk p.P p.w p.K p.mg p.base (L2N.CX p.P p.w) k f fd ps (spD p ks F)) (hm : Mk p.K (p.cA c) f) (hb : Binds p.K fd ps []) (hx : p.mg x = some (.ref (p.cA c))) : Mkr p c k x ks F := ⟨f, fd, ps, h, hm, hb, hx⟩
end DL
namespace DL
open PySem PySem.Spec PyProof.Rows L2
/-! ### tuples of ints: sets of them, sorted ones -/
def tD (ns : List Int) : D := .tup (ns.map .int)
def tints : List D → Option (List (List Int))
  | [] => some []
  | .tup ds :: r => match dints ds with
    | some ns => (tints r).map (ns :: ·)
    | none => none
  | _ :: _ => none
theorem tints_map : ∀ L : List (List Int), tints (L.map tD) = some L
  | [] => rfl
  | ns :: L => by
    show tints (.tup (ns.map .int) :: L.map tD) = _
    rw [tints, ints_map, tints_map L]
    rfl
theorem tints_eq : ∀ {ds : List D} {L : List (List Int)}, tints ds = some L → ds = L.map tD
  | [], L, h => by
    rw [tints] at h
    cases h
    rfl
  | .tup es :: r, L, h => by
    rw [tints] at h
    cases e : dints es with
    | none => rw [e] at h; cases h
    | some ns =>
      rw [e] at h
      cases e2 : tints r with
      | none => rw [e2] at h; cases h
      | some q =>
        rw [e2] at h
        cases h
        rw [List.map_cons, ← tints_eq e2, ints_eq e]
        rfl
  | .non :: _, _, h => by rw [tints] at h; cases h; all_goals (intros; contradiction)
  | .bl _ :: _, _, h => by rw [tints] at h; cases h; all_goals (intros; contradiction)
  | .int _ :: _, _, h => by rw [tints] at h; cases h; all_goals (intros; contradiction)
  | .str _ :: _, _, h => by rw [tints] at h; cases h; all_goals (intros; contradiction)
  | .lst _ :: _, _, h => by rw [tints] at h; cases h; all_goals (intros; contradiction)
  | .dct _ :: _, _, h => by rw [tints] at h; cases h; all_goals (intros; contradiction)
  | .dcT _ :: _, _, h => by rw [tints] at h; cases h; all_goals (intros; contradiction)
  | .rtp _ :: _, _, h => by rw [tints] at h; cases h; all_goals (intros; contradiction)
  | .ref _ :: _, _, h => by rw [tints] at h; cases h; all_goals (intros; contradiction)
  | .rls _ :: _, _, h => by rw [tints] at h; cases h; all_goals (intros; contradiction)
def tcode (ns : List Int) : Int := TS.code 1000 ns
def tins (x : List Int) : List (List Int) → List (List Int)
  | [] => [x]
  | y :: r => if tcode x ≤ tcode y then x :: y :: r else y :: tins x r
def tsort : List (List Int) → List (List Int)
  | [] => []
  | x :: r => tins x (tsort r)
def tuq : List (List Int) → List (List Int)
  | [] => []
  | x :: r => if r.contains x then tuq r else x :: tuq r
/-- alike in length, the ints from 0 to 999 -/
def okT (d : Nat) (L : List (List Int)) : Bool := decide (1 ≤ d) && decide (L.length < 64) && L.all fun ns => ns.length == d && ns.all fun i => decide (0 ≤ i ∧ i < 1000)
def dimT : List (List Int) → Nat
  | [] => 1
  | x :: _ => x.length
theorem okT_iff {d : Nat} {L : List (List Int)} : okT d L = true ↔ 1 ≤ d ∧ L.length < 64 ∧ ∀ ns ∈ L, ns.length = d ∧ TS.Bd 1000 ns := by
  unfold okT TS.Bd
  simp only [Bool.and_eq_true, decide_eq_true_iff, List.all_eq_true, beq_iff_eq, and_assoc]
theorem tins_perm (x : List Int) : ∀ l, (tins x l).Perm (x :: l)
  | [] => List.Perm.refl _
  | y :: r => by
    unfold tins
    split
    · exact List.Perm.refl _
    · exact ((tins_perm x r).cons y).trans (List.Perm.swap x y r)
theorem tsort_perm : ∀ l, (tsort l).Perm l
  | [] => List.Perm.refl _
  | x :: r => (tins_perm x (tsort r)).trans ((tsort_perm r).cons x)
theorem tins_le (x : List Int) : ∀ {l : List (List Int)}, l.Pairwise (fun a b => tcode a ≤ tcode b) → (tins x l).Pairwise fun a b => tcode a ≤ tcode b
  | [], _ => List.pairwise_singleton _ _
  | y :: r, h => by
    unfold tins
    by_cases z : tcode x ≤ tcode y
    · rw [if_pos z]
      refine List.Pairwise.cons (fun a ha => ?_) h
      rcases List.mem_cons.mp ha with rfl | ha
      · exact z
      · exact Int.le_trans z ((List.pairwise_cons.mp h).1 a ha)
    · rw [if_neg z]
      refine List.Pairwise.cons (fun a ha => ?_) (tins_le x (List.pairwise_cons.mp h).2)
      rcases List.mem_cons.mp ((tins_perm x r).mem_iff.mp ha) with rfl | ha
      · omega
      · exact (List.pairwise_cons.mp h).1 a ha
theorem tsort_le : ∀ l, (tsort l).Pairwise fun a b => tcode a ≤ tcode b
  | [] => .nil
  | x :: r => tins_le x (tsort_le r)
theorem tuq_mem {x : List Int} : ∀ {l : List (List Int)}, x ∈ tuq l ↔ x ∈ l
  | [] => Iff.rfl
  | y :: r => by
    unfold tuq
    by_cases h : r.contains y = true
    · rw [if_pos h, tuq_mem, List.mem_cons]
      exact ⟨.inr, fun q => q.elim (fun e => by rw [e]; exact List.contains_iff_mem.mp h) id⟩
    · rw [if_neg h, List.mem_cons, List.mem_cons, tuq_mem]
theorem tuq_nodup : ∀ l : List (List Int), (tuq l).Nodup
  | [] => List.nodup_nil
  | y :: r => by
    unfold tuq
    by_cases h : r.contains y = true
    · rw [if_pos h]; exact tuq_nodup r
    · rw [if_neg h]
      exact List.nodup_cons.mpr ⟨fun q => h (List.contains_iff_mem.mpr (tuq_mem.mp q)), tuq_nodup r⟩
theorem tc_inj : ∀ {x y : List Int}, x.length = y.length → TS.Bd 1000 x → TS.Bd 1000 y → tcode x = tcode y → x = y
  | [], [], _, _, _, _ => rfl
  | [], _ :: _, h, _, _, _ => by simp at h
  | _ :: _, [], h, _, _, _ => by simp at h
  | a :: r, b :: q, h, hx, hy, e => by
    have hl : r.length = q.length := by simpa using h
    have hr : TS.Bd 1000 r := fun m hm => hx m (List.mem_cons_of_mem _ hm)
    have hq : TS.Bd 1000 q := fun m hm => hy m (List.mem_cons_of_mem _ hm)
    unfold tcode at e
    have ab : a = b := by
      refine Classical.byContradiction fun z => ?_
      rcases (by omega : a < b ∨ b < a) with k | k
      · have := TS.code_lt hl hr hq k
        omega
      · have := TS.code_lt hl.symm hq hr k
        omega
    subst ab
    have e2 : tcode r = tcode q := by
      have k1 := TS.code_same (B := 1000) (d := a) hl
      have k2 := TS.code_same (B := 1000) (d := a) hl.symm
      unfold tcode
      refine Classical.byContradiction fun z => ?_
      rcases (by omega : TS.code 1000 r < TS.code 1000 q ∨ TS.code 1000 q < TS.code 1000 r) with k | k
      · have := k1.mpr k
        omega
      · have := k2.mpr k
        omega
    rw [tc_inj hl hr hq e2]
theorem tsort_uniq {d : Nat} : ∀ {a b : List (List Int)}, a.Perm b → a.Pairwise (fun x y => tcode x ≤ tcode y) → b.Pairwise (fun x y => tcode x ≤ tcode y) → (∀ x ∈ b, x.length = d ∧ TS.Bd 1000 x) → a = b
  | [], b, p, _, _, _ => by rw [List.nil_perm.mp p]
  | x :: r, [], p, _, _, _ => absurd (List.perm_nil.mp p) (List.cons_ne_nil _ _)
  | x :: r, y :: t, p, ha, hb, k => by
    have xm := p.mem_iff.mp (List.mem_cons_self : x ∈ x :: r)
    have ym := p.mem_iff.mpr (List.mem_cons_self : y ∈ y :: t)
    have hx : tcode x ≤ tcode y := by
      rcases List.mem_cons.mp ym with h | h
      · rw [h]; omega
      · exact (List.pairwise_cons.mp ha).1 y h
    have hy : tcode y ≤ tcode x := by
      rcases List.mem_cons.mp xm with h | h
      · rw [h]; omega
      · exact (List.pairwise_cons.mp hb).1 x h
    have kx := k x xm
    have ky := k y List.mem_cons_self
    have e : x = y := tc_inj (kx.1.trans ky.1.symm) kx.2 ky.2 (Int.le_antisymm hx hy)
    subst e
    rw [tsort_uniq (List.Perm.cons_inv p) (List.pairwise_cons.mp ha).2 (List.pairwise_cons.mp hb).2 fun z hz => k z (List.mem_cons_of_mem _ hz)]
/-! sorted of a tuple of such tuples -/
section
variable {prog : Program} {w : World} {A : Around} {E : Value → Shared → Prop} {s : Shared}
theorem sort_tupU {l : Addr} {vs : List Value} {d : Nat} {B : Int} {Q : Value → Shared → Prop} (isT : s.heap.IsTuple l vs.toArray) (few : vs.length < 64) (d1 : 1 ≤ d) (ok : TS.TupsOk s.heap d B vs)
    (done : ∀ out : Array Value, out.toList.Perm vs → out.toList.Pairwise (fun u v => TS.code B (TS.intsOf s.heap u) ≤ TS.code B (TS.intsOf s.heap v)) → Q (.ref (s.heap.objs.size + 1)) { s with heap := sortedAll s.heap vs out }) :
    wpAny (model prog w) A (call (.builtin "sorted") [.ref l]) Q E s := by
  have le : vs.length ≤ sizeLine := by rw [sizeLine_eq]; omega
  have e1 : ((s.heap.push (seqObj "list" #[] 0)).update s.heap.objs.size (Obj.mapSeq (· ++ vs.toArray))).objs.size = s.heap.objs.size + 1 := by
    rw [Heap.size_update, size_push']
  have e2 : (((s.heap.push (seqObj "list" #[] 0)).update s.heap.objs.size (Obj.mapSeq (· ++ vs.toArray))).push (seqObj "list" vs.toArray 0)).get? (s.heap.objs.size + 1) = some (seqObj "list" vs.toArray 0) := by
    rw [← e1]
    exact Heap.get?_push_size _ rfl
  have kp : ∀ b o, s.heap.get? b = some o → o.cls = .type "tuple" → (((s.heap.push (seqObj "list" #[] 0)).update s.heap.objs.size (Obj.mapSeq (· ++ vs.toArray))).push (seqObj "list" vs.toArray 0)).get? b = some o := fun b o q _ => by
    have lt : b < s.heap.objs.size := Heap.lt_size q
    have ne : b ≠ s.heap.objs.size := Nat.ne_of_lt lt
    rw [Heap.get?_push_ne _ _ _ (e1.symm ▸ Nat.ne_of_lt (Nat.lt_succ_of_lt lt)), Heap.get?_update_ne _ _ _ _ ne, Heap.get?_push_ne _ _ _ ne]
    exact q
  refine Calls.call_function_entry kind_sorted plain_sorted entry_sorted (args_sorted1 _) ?_
  unfold Builtin.«sorted»
  refine wpAny_bind (m := checkCount "sorted" 1 1 _) (wpAny_pure (wpAny_bind (gather_tup isT le (wpAny_bind (wpAny_newList ?_ le)))))
  change wpAny _ _ _ _ _ { s with heap := ((s.heap.push (seqObj "list" #[] 0)).update s.heap.objs.size (Obj.mapSeq (· ++ vs.toArray))).push (seqObj "list" vs.toArray 0) }
  rw [e1]
  refine wpAny_bind (wpAny_holding (wpAny_call_entry slot_list_sort ⟨_, e2, rfl⟩ entry_list_sort
    (TS.sort_tups e2 few d1 (ok.keeps kp) (fun v => TS.code B (TS.intsOf s.heap v)) (fun v hv ns t => ?_) fun out a1 a2 => ⟨_, rfl, ?_⟩) (args_list_sort _)))
  · obtain ⟨ns0, t0, _⟩ := ok v hv
    have e : ns = ns0 := t.ints.symm.trans (t0.keeps kp).ints
    rw [e]
    change TS.code B (TS.intsOf s.heap v) = _
    rw [t0.ints]
  · exact wpAny_pure ⟨_, rfl, done out a1 a2⟩
end
section
variable {X : Cx} {pins : List (Addr × Obj)} {σ : L2.St} {H : Hp} {s : Shared}
/-- sorted(xs), xs a list or a tuple of tuples of d ints -/
def rSortV (K : PySem.W.Frag) (d : Nat) (B : Int) : List V → Hp → VK → Prop := fun vs H Q => ∃ (a : Addr) (xs : List V), vs = [V.ref a] ∧ (SqL K H a xs ∨ SqT K H a xs) ∧ xs.length < 64 ∧ (∀ x ∈ xs, ∃ ns, TupI K H x ns ∧ ns.length = d ∧ TS.Bd B ns) ∧
  ∀ (ys : List V) (p : Addr), ys.Perm xs → ys.Pairwise (fun x y => ∀ n m, TupI K H x n → TupI K H y m → TS.code B n ≤ TS.code B m) → H p = none → Q (.ref p) (upd H p (.lst ys))
theorem cr_sortV {d : Nat} {B : Int} (d1 : 1 ≤ d) : CallR X (.builtin "sorted") (rSortV X.K d B) := by
  intro pins s σ H vs us Q I r h
  obtain ⟨a, xs, rfl, hs | hs, few, hx, q⟩ := h
  · exact cr_sortT d1 pins s σ H [V.ref a] us Q I r ⟨a, xs, rfl, hs, few, hx, q⟩
  · obtain ⟨its, rv, pl, le⟩ := I.tuple hs
    rw [Vals.ref1 r]
    obtain ⟨f1, f2⟩ := bkV_refs rv fun x m => by
      obtain ⟨ns, ⟨t, e, _⟩, _⟩ := hx x m
      exact ⟨t, e⟩
    refine sort_tupU (d := d) (B := B) pl (by rw [← rv.length]; exact few) d1 (fun v hv => ?_) fun out g1 g2 => ?_
    · obtain ⟨t, rfl⟩ := f2 v hv
      obtain ⟨ns, ⟨t', e, ht⟩, hn, hb⟩ := hx (V.ref t) (by rw [f1]; exact List.mem_map.mpr ⟨_, hv, rfl⟩)
      cases e
      exact ⟨ns, tupI_raw I ht, hn, hb⟩
    · obtain ⟨c, hc⟩ := PyProof.Rows.sortedAll_at s.heap its out
      have g3 : ∀ u ∈ out.toList, ∃ a, u = Value.ref a := fun u hu => f2 u (g1.mem_iff.mp hu)
      have pm : (out.toList.map bkV).Perm xs := by
        rw [f1]
        exact g1.map bkV
      have len : (out.toList.map bkV).length ≤ sizeLine := by
        rw [pm.length_eq]
        exact le
      refine ⟨.ref _, upd H (s.heap.objs.size + 1) (.lst (out.toList.map bkV)), I.laid (t' := s.toks) (fun _ _ => PyProof.Rows.sortedAll_old) (Nat.le_succ _) ⟨len, out.toList, c, bkV_vals g3, hc⟩, rfl, q _ _ pm ?_ (I.hok.fresh (Nat.le_succ _))⟩
      rw [List.pairwise_map]
      refine g2.imp fun {u v} huv n m hn hm => ?_
      obtain ⟨t, et, ht⟩ := hn
      obtain ⟨t', et', ht'⟩ := hm
      have eu := bkV_ref et
      have ev := bkV_ref et'
      subst eu ev
      rw [← (tupI_raw I ht).ints, ← (tupI_raw I ht').ints]
      exact huv
end
/-! the mirror -/
theorem perm_lift {α β : Type} {f : α → β} {ys xs : List β} (h : ys.Perm xs) : ∀ ks : List α, xs = ks.map f → ∃ ks' : List α, ks'.Perm ks ∧ ys = ks'.map f := by
  induction h with
  | nil =>
    intro ks e
    exact ⟨ks, List.Perm.refl _, e⟩
  | cons x _ ih =>
    intro ks e
    cases ks with
    | nil => cases e
    | cons k ks =>
      rw [List.map_cons] at e
      injection e with e1 e2
      obtain ⟨ks', p, e3⟩ := ih ks e2
      exact ⟨k :: ks', p.cons k, by rw [List.map_cons, e1, e3]⟩
  | swap x y l =>
    intro ks e
    match ks, e with
    | a :: b :: ks, e =>
      rw [List.map_cons, List.map_cons] at e
      injection e with e1 e2
      injection e2 with e2 e3
      exact ⟨b :: a :: ks, List.Perm.swap a b ks, by rw [List.map_cons, List.map_cons, e1, e2, e3]⟩
    | [], e => cases e
    | [a], e => cases e
  | trans _ _ ih1 ih2 =>
    intro ks e
    obtain ⟨k1, p1, e1⟩ := ih2 ks e
    obtain ⟨k2, p2, e2⟩ := ih1 k1 e1
    exact ⟨k2, p2.trans p1, e2⟩
section
variable {p : Pg} {g : Gs} {H : Hp}
theorem rps_ks : ∀ {xs : List V} {L : List (List Int)}, p.Rps g xs (L.map tD) → ∃ ks : List (Addr × List Int), xs = ks.map (fun q => V.ref q.1) ∧ ks.map (·.2) = L ∧ ∀ q ∈ ks, p.Rp g (.ref q.1) (tD q.2)
  | _, [], .nil => ⟨[], rfl, rfl, fun q h => (by cases h)⟩
  | _, ns :: L, .cons r t => by
    obtain ⟨ks, e1, e2, h⟩ := rps_ks t
    cases r with
    | @tup a us ds s r =>
      refine ⟨(a, ns) :: ks, by rw [e1]; rfl, by rw [← e2]; rfl, fun q hq => ?_⟩
      rcases List.mem_cons.mp hq with rfl | hq
      · exact .tup s r
      · exact h q hq
theorem ks_rps : ∀ {ks : List (Addr × List Int)}, (∀ q ∈ ks, p.Rp g (.ref q.1) (tD q.2)) → p.Rps g (ks.map fun q => V.ref q.1) ((ks.map (·.2)).map tD)
  | [], _ => .nil
  | q :: ks, h => .cons (h q List.mem_cons_self) (ks_rps fun r hr => h r (List.mem_cons_of_mem _ hr))
theorem rp_tupI (w : Wf p g H) {a : Addr} {ns : List Int} (r : p.Rp g (.ref a) (tD ns)) : TupI p.K H (.ref a) ns := by
  cases r with
  | @tup a us ds s r =>
    have := r.toInts
    subst this
    exact ⟨a, rfl, .inl (.inl (w.sub _ _ s))⟩
end
def sortV : D → M D
  | .lst ds => match tints ds with
    | some L => if okT (dimT L) L = true then pure (.lst ((tsort L).map tD)) else stuck
    | none => stuck
  | .tup ds => match tints ds with
    | some L => if okT (dimT L) L = true then pure (.lst ((tsort L).map tD)) else stuck
    | none => stuck
  | _ => stuck
theorem sortV_core {p : Pg} {g : Gs} {H : Hp} {xs : List V} {L : List (List Int)} {Q : VK} (w : Wf p g H) (r : p.Rps g xs (L.map tD)) (ok : okT (dimT L) L = true) (q : Pv p (RN p) g H Q (.lst ((tsort L).map tD)) g.st) :
    xs.length < 64 ∧ (∀ x ∈ xs, ∃ ns, TupI p.K H x ns ∧ ns.length = dimT L ∧ TS.Bd 1000 ns) ∧
    ∀ (ys : List V) (a : Addr), ys.Perm xs → ys.Pairwise (fun x y => ∀ n m, TupI p.K H x n → TupI p.K H y m → TS.code 1000 n ≤ TS.code 1000 m) → H a = none → Q (.ref a) (upd H a (.lst ys)) := by
  obtain ⟨d1, few, all⟩ := okT_iff.mp ok
  obtain ⟨ks, e1, e2, h⟩ := rps_ks r
  refine ⟨?_, fun x hx => ?_, fun ys a pm pw hn => ?_⟩
  · rw [e1, List.length_map, ← List.length_map (f := (·.2)) (as := ks), e2]
    exact few
  · rw [e1] at hx
    obtain ⟨k, hk, rfl⟩ := List.mem_map.mp hx
    have := all k.2 (by rw [← e2]; exact List.mem_map.mpr ⟨k, hk, rfl⟩)
    exact ⟨k.2, rp_tupI w (h k hk), this.1, this.2⟩
  · obtain ⟨ks', pk, e3⟩ := perm_lift pm ks e1
    have h' : ∀ k ∈ ks', p.Rp g (.ref k.1) (tD k.2) := fun k hk => h k (pk.mem_iff.mp hk)
    have e4 : ks'.map (·.2) = tsort L := by
      refine tsort_uniq (d := dimT L) ((pk.map _).trans (by rw [e2]; exact (tsort_perm L).symm)) ?_ (tsort_le L) fun x hx => all x ((tsort_perm L).mem_iff.mp hx)
      rw [List.pairwise_map]
      rw [e3, List.pairwise_map] at pw
      exact List.Pairwise.imp_of_mem (fun {u v} hu hv z => z u.2 v.2 (rp_tupI w (h' u hu)) (rp_tupI w (h' v hv))) pw
    have r' := ks_rps h'
    rw [e4, ← e3] at r'
    exact q _ g _ rfl (Stp.laid w hn) ⟨a, rfl, ⟨_, upd_same, r'⟩, w.freeG hn, w.freeA hn, hn⟩
def rSortW (K : PySem.W.Frag) : List V → Hp → VK → Prop := fun vs H Q => ∃ d, 1 ≤ d ∧ rSortV K d 1000 vs H Q
theorem op_sortV {p : Pg} : Op1C p (rSortW p.K) sortV (RN p) := by
  intro g H x vx Q E w hx q
  have core : ∀ (ds : List D) (xs : List V) (a : Addr), p.Rps g xs ds → (SqL p.K H a xs ∨ SqT p.K H a xs) → ((match tints ds with
    | some L => if okT (dimT L) L = true then (pure (.lst ((tsort L).map tD)) : M D) else stuck
    | none => stuck) g.st).Post (Pv p (RN p) g H Q) E → rSortW p.K [.ref a] H Q := fun ds xs a r s q => by
    cases e : tints ds with
    | none => rw [e] at q; exact False.elim q
    | some L =>
      rw [e] at q
      by_cases z : okT (dimT L) L = true
      · simp only [if_pos z] at q
        have ed := tints_eq e
        subst ed
        obtain ⟨h1, h2, h3⟩ := sortV_core w r z (post_pure q)
        exact ⟨dimT L, (okT_iff.mp z).1, a, xs, rfl, s, h1, h2, h3⟩
      · simp only [if_neg z] at q
        exact False.elim q
  cases x with
  | lst ds =>
    obtain ⟨a, xs, rfl, s, r⟩ := hx.lst w
    exact core ds xs a r (.inl (SqL.of s)) q
  | tup ds =>
    obtain ⟨a, xs, rfl, s, r⟩ := hx.tup w
    exact core ds xs a r (.inr s) q
  | _ => exact False.elim q
def seqOf : D → Option (List D)
  | .lst ds => some ds
  | .tup ds => some ds
  | _ => none
/-- sorted: ints, or tuples of ints -/
def sortedD (x : D) : M D := match seqOf x with
  | some ds => if (dints ds).isSome = true then sortI x else sortV x
  | none => stuck
def rSortAll (K : PySem.W.Frag) : List V → Hp → VK → Prop := fun vs H Q => rSortA K vs H Q ∨ rSortW K vs H Q
theorem cr_sortAll {X : Cx} : CallR X (.builtin "sorted") (rSortAll X.K) := by
  intro pins s σ H vs us Q I r h
  rcases h with h | ⟨d, d1, h⟩
  · exact cr_sortA pins s σ H vs us Q I r h
  · exact cr_sortV d1 pins s σ H vs us Q I r h
theorem op_sortedD {p : Pg} : Op1C p (rSortAll p.K) sortedD (RN p) := by
  intro g H x vx Q E w hx q
  unfold sortedD at q
  cases e : seqOf x with
  | none => rw [e] at q; exact False.elim q
  | some ds =>
    rw [e] at q
    by_cases z : (dints ds).isSome = true
    · simp only [if_pos z] at q
      exact .inl (op_sortI g H x vx Q E w hx q)
    · simp only [if_neg z] at q
      exact .inr (op_sortV g H x vx Q E w hx q)
section
variable {S : Sta} {ρ : Ev} {a : Expr} {ma : M D} {pos p : Pos}
theorem en_sorted (B : Blt S "sorted" (.builtin "sorted")) (ha : EL S ρ a ma) (hs : NoStar [a] := by intro _; rfl) : EN S ρ (.Call (.Name "sorted" p) [a] [] pos) (ma >>= sortedD) := ex_b1 back_RN (fun Y _ => cr_sortAll) op_sortedD B ha hs
end
theorem sorted_li (ns : List Int) : sortedD (.lst (ns.map .int)) = pure (.lst ((isort ns).map .int)) := by
  unfold sortedD seqOf
  simp only [ints_map, Option.isSome_some, if_true, sortI]
theorem sorted_ti (ns : List Int) : sortedD (.tup (ns.map .int)) = pure (.lst ((isort ns).map .int)) := by
  unfold sortedD seqOf
  simp only [ints_map, Option.isSome_some, if_true, sortI]
theorem dints_tD (ns : List Int) (L : List (List Int)) : dints ((ns :: L).map tD) = none := rfl
theorem sorted_lt {L : List (List Int)} {d : Nat} (h : okT d L = true) (e : L ≠ [] → dimT L = d) : sortedD (.lst (L.map tD)) = pure (.lst ((tsort L).map tD)) := by
  cases L with
  | nil => rfl
  | cons ns L =>
    have e := e (List.cons_ne_nil _ _)
    unfold sortedD seqOf
    simp only [dints_tD, Option.isSome_none, if_neg Bool.false_ne_true, sortV, tints_map, e, h, if_true]
theorem sorted_tt {L : List (List Int)} {d : Nat} (h : okT d L = true) (e : L ≠ [] → dimT L = d) : sortedD (.tup (L.map tD)) = pure (.lst ((tsort L).map tD)) := by
  cases L with
  | nil => rfl
  | cons ns L =>
    have e := e (List.cons_ne_nil _ _)
    unfold sortedD seqOf
    simp only [dints_tD, Option.isSome_none, if_neg Bool.false_ne_true, sortV, tints_map, e, h, if_true]
end DL
namespace DL
open PySem PySem.Spec PyProof.Rows L2
/-! ### sorted(set(..)) of tuples of ints -/
section
variable {P : Program} {w : World} {A : Around} {E : Value → Shared → Prop} {s : Shared}
set_option maxHeartbeats 4000000 in
theorem set_of_tupT {l : Addr} {its : Array Value} (ks : List (Addr × List Int)) {Q : Value → Shared → Prop} (nh : A.handled = none) (isl : s.heap.IsTuple l its) (hit : its.toList = ks.map fun p => Value.ref p.1)
    (hk : ∀ p ∈ ks, IsT P w s.heap p.2 p.1) (few : ks.length < 64) (un : A.units + 3 < cLine)
    (done : ∀ (hp : Heap) (tk : Nat) L es ep t, SetTR P w hp s.heap.objs.size L es ep t → Got ks ks.length L → (∀ b o, s.heap.get? b = some o → hp.get? b = some o) → Q (.ref s.heap.objs.size) { s with heap := hp, toks := tk }) :
    wpAny (model P w) A (call (.type "set") [.ref l]) Q E s := by
  have hsize : its.size = ks.length := by
    have z := congrArg List.length hit
    rwa [Array.length_toList, List.length_map] at z
  obtain ⟨cm, tlm, hmro⟩ := F.called_set.mro
  have hmd := F.called_set.made
  have hsb := F.called_set.sub
  have hnt := F.called_set.notType
  have hcc := F.called_set.canCreate
  have htc := F.typeCall_set_1 (.ref l)
  refine wpAny_call (codeAny_of_tree ?_)
  show wpAny _ _ (callAny (.type "set") _) _ _ _
  refine wpAny_pure ⟨Code.quiet_builtin _ (by decide +kernel), codeAny_builtin F.entry_type_call ?_⟩
  rw [Around.under_plain (weight_type_call_type "set" [.ref l] []) rfl]
  repeat (any_goals (first | assumption | wp_step))
  refine codeAny_mono (code_set_led1 (.ref l) (E := E) (Q₁ := fun v s1 => v = .ref s.heap.objs.size ∧ s1 = { s with heap := s.heap.push (newSet w) }) ⟨rfl, rfl⟩) fun r s1 hr => ?_
  cases r with
  | error e => exact hr
  | ok fl =>
    cases fl with
    | next => exact hr.elim
    | brk => exact hr.elim
    | cont => exact hr.elim
    | ret v =>
      obtain ⟨rfl, rfl⟩ := hr
      have hset : (s.heap.push (newSet w)).get? s.heap.objs.size = some (newSet w) := Heap.get?_push_size _ rfl
      have hty : Shared.TypeIs { s with heap := s.heap.push (newSet w) } (.ref s.heap.objs.size) "set" := ⟨_, hset, rfl⟩
      have hlk := F.called_set.init.lookup
      have hbd := F.called_set.init.bind (.ref s.heap.objs.size)
      repeat (any_goals (first | assumption | wp_step))
      refine codeAny_mono (codeAny_call_builtin (R := wants (fun r s2 => r = .none ∧ ∃ hp tk L es ep t, s2 = { s with heap := hp, toks := tk } ∧ SetTR P w hp s.heap.objs.size L es ep t ∧ Got ks ks.length L ∧ ∀ b o, s.heap.get? b = some o → hp.get? b = some o) E)
        F.called_set.init.plain F.entry_set_init (check_set_init_1 hty ?_)) fun r2 s2 hr2 => ?_
      · obtain ⟨⟨oc, od, odt, osl⟩, hol, hcl, nl, hdl⟩ := isl
        simp only at hcl hdl
        subst hcl hdl
        have hol' : (s.heap.push (newSet w)).get? l = some { cls := .type "tuple", dict := od, data := .seq its nl, slots := osl } := Heap.get?_push_of_some _ hol
        have n1 := F.sub_tuple_set
        have n2 := F.sub_tuple_frozenset
        have n3 : (Value.type "tuple" == Value.type "dict") = false := by decide
        have isl1 : (s.heap.push (newSet w)).IsTuple l its := ⟨_, hol', rfl, nl, rfl⟩
        unfold Builtin.«set.__init__» noKeywords Builtin.Frozenset.updateFrom
        generalize hPI : pyIter = PI
        wp_walk
        subst hPI
        refine wpAny_pyIter_tuple isl1 (wpAny_bind (wpAny_runValue ?_))
        have lS : l < s.heap.objs.size := Heap.lt_size hol
        have nh3 : A.in1.in1.in1.handled = none := by simp [nh]
        have zz : (s.heap.push (newSet w)).objs.size = s.heap.objs.size + 1 := Heap.size_push ..
        have neI : l ≠ (s.heap.push (newSet w)).objs.size := by
          rw [zz]
          exact Nat.ne_of_lt (Nat.lt_succ_of_lt lS)
        have nS : s.heap.objs.size ∉ [(s.heap.push (newSet w)).objs.size, l] := by
          rw [zz]
          simp only [List.mem_cons, List.not_mem_nil, or_false, not_or]
          exact ⟨Nat.ne_of_lt (Nat.lt_succ_self _), Nat.ne_of_gt lS⟩
        have val : ∀ (i : Nat) (v : Value), its[i]? = some v → ∃ p, ks[i]? = some p ∧ v = .ref p.1 := fun i v hv => by
          have q : its.toList[i]? = some v := by rw [Array.getElem?_toList]; exact hv
          rw [hit, List.getElem?_map] at q
          cases hq : ks[i]? with
          | none => rw [hq] at q; cases q
          | some p =>
            rw [hq] at q
            exact ⟨p, rfl, (Option.some.inj q).symm⟩
        have nof : ∀ b, s.heap.objs.size ≤ b → s.heap.get? b = none := fun b hb => by
          cases q : s.heap.get? b with
          | none => rfl
          | some o => exact absurd (Nat.lt_of_lt_of_le (Heap.lt_size q) hb) (Nat.lt_irrefl _)
        refine set_update_tups ((Walks.tuple nh3 _ l neI its).toS) s.heap.objs.size nS ks hsize few val s.heap hk (nof _ (Nat.le_refl _)) (fun b hb => nof b (by
            rw [List.mem_singleton.mp hb, zz]
            exact Nat.le_succ _)) un (its.size - 0) 0 _ (by omega) (Nat.zero_le _) ⟨⟨_, Heap.get?_push_size _ rfl, rfl, rfl⟩, (isl1.push _)⟩ (fun b o e => Heap.get?_push_of_some _ (Heap.get?_push_of_some _ e))
          ⟨[], #[], 0, _, setTR_fresh (Heap.get?_push_of_some _ hset), Got.zero ks⟩ ?_
        rintro ⟨hp, g2, d2, tk2, os2⟩ L es ep t hm hS hg hkp
        have e1 : g2 = s.gens := hm.gens
        have e2 : d2 = s.drawn := hm.drawn
        have e3 : os2 = s.os := hm.os
        subst e1 e2 e3
        show wpAny _ _ _ _ _ _
        refine wpAny_pure ?_
        show wpAny _ _ (ret Value.none) _ _ _
        rw [hsize] at hg
        exact wpAny_pure ⟨rfl, hp, tk2, L, es, ep, t, rfl, hS, hg, hkp⟩
      · cases r2 with
        | error e => exact hr2
        | ok fl2 =>
          cases fl2 with
          | next => exact hr2.elim
          | brk => exact hr2.elim
          | cont => exact hr2.elim
          | ret r =>
            obtain ⟨rfl, hp, tk, L, es, ep, t, rfl, hS, hg, hkp⟩ := hr2
            repeat (any_goals (first | assumption | wp_step))
            exact done _ _ _ _ _ _ hS hg hkp
end
/-- set(xs), xs a list or a tuple of tuples of ints -/
def rSetV (K : PySem.W.Frag) (P : Program) (w : World) : List V → Hp → VK → Prop := fun xs H Q => ∃ (l : Addr) (ks : List (Addr × List Int)), xs = [V.ref l] ∧ (SqL K H l (ks.map fun p => V.ref p.1) ∨ SqT K H l (ks.map fun p => V.ref p.1)) ∧ (∀ p ∈ ks, SqT K H p.1 (p.2.map V.int)) ∧ ks.length < 64 ∧
  ∀ a L, H a = none → (∀ p ∈ L, p ∈ ks) → (∀ p ∈ ks, p.2 ∈ L.map (·.2)) → Q (.ref a) (upd H a (SetTO P w a L))
theorem cr_setV {X : Cx} (hc : X.calm = true) (hu : X.A.units + 64 < cLine) : CallR X (.type "set") (rSetV X.K X.prog X.w) := by
  intro pins s σ H xs us Q I r h
  obtain ⟨l, ks, rfl, hl | hl, hk, few, q⟩ := h
  · exact cr_setOfT hc hu pins s σ H [V.ref l] us Q I r ⟨l, ks, rfl, hl, hk, few, q⟩
  · rw [Vals.ref1 r]
    obtain ⟨its, rv, pl, _⟩ := I.tuple hl
    have fr : H s.heap.objs.size = none := I.hok.fresh (Nat.le_refl _)
    refine set_of_tupT ks (I.ok.hd hc) pl (by simpa using refs_of_vals rv) (fun p hp => I.isT (hk p hp)) few (by omega) fun hp tk L es ep t R g k => ?_
    refine ⟨.ref s.heap.objs.size, upd H s.heap.objs.size (SetTO X.prog X.w s.heap.objs.size L), I.laid (t' := tk) k (Nat.le_refl _) (setTO_new R.t0), rfl, q _ L fr (fun p hp => ?_) fun p hp => ?_⟩
    · exact List.mem_of_mem_take (g.sub p hp)
    · exact g.all p (by rw [List.take_length]; exact hp)
def ssortV : D → M D
  | .lst ds => match tints ds with
    | some L => if okT (dimT L) L = true then pure (.lst ((tsort (tuq L)).map tD)) else stuck
    | none => stuck
  | .tup ds => match tints ds with
    | some L => if okT (dimT L) L = true then pure (.lst ((tsort (tuq L)).map tD)) else stuck
    | none => stuck
  | _ => stuck
/-- sorted(set(..)): ints, or tuples of ints -/
def ssortD (x : D) : M D := match seqOf x with
  | some ds => if (dints ds).isSome = true then ssortI x else ssortV x
  | none => ssortI x
theorem seq_tups {p : Pg} {g : Gs} {H : Hp} {v : V} {x : D} {ok : D → Store → Prop} {ex : Nat → Store → Prop} (w : Wf p g H) (hx : TopR p g H v x) (q : (ssortV x g.st).Post ok ex) :
    ∃ (a : Addr) (ks : List (Addr × List Int)), v = .ref a ∧ (SqL p.K H a (ks.map fun q => V.ref q.1) ∨ SqT p.K H a (ks.map fun q => V.ref q.1)) ∧ (∀ q ∈ ks, p.Rp g (.ref q.1) (tD q.2)) ∧ okT (dimT (ks.map (·.2))) (ks.map (·.2)) = true ∧ ok (.lst ((tsort (tuq (ks.map (·.2)))).map tD)) g.st := by
  have core : ∀ (ds : List D) (xs : List V), p.Rps g xs ds → ((match tints ds with
    | some L => if okT (dimT L) L = true then (pure (.lst ((tsort (tuq L)).map tD)) : M D) else stuck
    | none => stuck) g.st).Post ok ex → ∃ ks : List (Addr × List Int), xs = ks.map (fun q => V.ref q.1) ∧ (∀ q ∈ ks, p.Rp g (.ref q.1) (tD q.2)) ∧ okT (dimT (ks.map (·.2))) (ks.map (·.2)) = true ∧ ok (.lst ((tsort (tuq (ks.map (·.2)))).map tD)) g.st := fun ds xs r q => by
    cases e : tints ds with
    | none => rw [e] at q; exact False.elim q
    | some L =>
      rw [e] at q
      by_cases z : okT (dimT L) L = true
      · simp only [if_pos z] at q
        have ed := tints_eq e
        subst ed
        obtain ⟨ks, e1, e2, h⟩ := rps_ks r
        subst e2
        exact ⟨ks, e1, h, z, post_pure q⟩
      · simp only [if_neg z] at q
        exact False.elim q
  cases x with
  | lst ds =>
    obtain ⟨a, xs, rfl, s, r⟩ := hx.lst w
    obtain ⟨ks, rfl, h1, h2, h3⟩ := core ds xs r q
    exact ⟨a, ks, rfl, .inl (SqL.of s), h1, h2, h3⟩
  | tup ds =>
    obtain ⟨a, xs, rfl, s, r⟩ := hx.tup w
    obtain ⟨ks, rfl, h1, h2, h3⟩ := core ds xs r q
    exact ⟨a, ks, rfl, .inr s, h1, h2, h3⟩
  | _ => exact False.elim q
end DL
set_option maxHeartbeats 1000000
namespace DL
open PySem PySem.Spec PyProof.Rows L2
open HotX L2H
/-! ### lists walked within an except suite -/
section
variable {prog : Program} {w : World} {A : Around} {E : Value → Shared → Prop} {s : Shared}
theorem list_end_hot {it l x1 : Addr} {i : Nat} {items : Array Value} {Q : Option Value → Shared → Prop} (hot : HotAt A x1 s.heap) (hne : x1 ≠ it)
    (hit : s.heap.IsListIter it l i) (hl : s.heap.IsList l items) (hx : items[i]? = none)
    (hQ : ∀ h', Heap.ExtBut it s.heap h' → Q none { s with heap := h' }) : wpAny (model prog w) A (pyNext (.ref it)) Q E s := by
  obtain ⟨o, ho, hc, hd⟩ := id hit
  obtain ⟨ol, hol, _, nl, hdl⟩ := hl
  obtain ⟨hh, o1, vs1, h1, d1, c1⟩ := hot
  unfold pyNext
  refine wpAny_bind (wpAny_attempt (wpAny_callSpecial?_slot (name := Str.ofString "__next__") hit.typeIs slot_listiter_next
    (wpAny_call_entry slot_listiter_next hit.typeIs entry_listiter_next ?_ (args_listiter_next _))))
  show wpAny _ _ (field (.ref it) 0 >>= _) _ _ s
  refine wpAny_bind (wpAny_field ho hd (x := .ref l) rfl ?_)
  show wpAny _ _ (if (Value.ref l == Value.none) = true then _ else _) _ _ s
  rw [if_neg (show ¬ ((Value.ref l == Value.none) = true) from Bool.false_ne_true)]
  show wpAny _ _ (field (.ref it) 1 >>= _) _ _ s
  refine wpAny_bind (wpAny_field ho hd (x := .int i 0) rfl ?_)
  show wpAny _ _ (seqItems? (.ref l) >>= _) _ _ s
  refine wpAny_bind (wpAny_seqItems hol hdl ?_)
  simp only [Int.toNat_natCast, hx]
  refine wpAny_bind (wpAny_rule (wpAny_bind (wpAny_setField ho hd (by simp) ?_)))
  show wpAny _ _ (newExc (.type "StopIteration") [] >>= _) _ _ _
  refine wpAny_bind ?_
  simp only [newExc, newTuple]
  refine wpAny_bind (wpAny_newObj_type ?_ (by size_fits))
  refine wpAny_bind (m := firstArgMember _ _) (wpAny_of_eq (a := Value.none) (by first | rfl | (simp only [firstArgMember]; rfl)) ?_)
  refine wpAny_newObj_type ?_ (by size_fits)
  have k1 := fun (f : Obj → Obj) => (Heap.get?_update_other (h := s.heap) f hne.symm).trans h1
  refine raiseNew_hot ⟨hh, o1, vs1, Heap.get?_push_of_some _ (Heap.get?_push_of_some _ (k1 _)), d1, c1⟩ (Nat.ne_of_lt (Heap.lt_size (Heap.get?_push_of_some _ (k1 _)))) (Heap.get?_push_size _ rfl) rfl (by first | (simp; done) | (simp; omega) | (simp only [Array.size_append]; simp; omega)) ?_
  refine wpAny_bind (wpAny_isInstance (T := "StopIteration") (b := true) ⟨_, Heap.get?_update_self _ (Heap.get?_push_size _ rfl) rfl, rfl⟩ isSubtype_stop ?_)
  refine wpAny_pure (hQ _ fun b o hb e => ?_)
  have e1 := (Heap.get?_update_other (h := s.heap) (Obj.mapFields (·.setIfInBounds 0 Value.none)) (Ne.symm hb)).trans e
  have e2 := Heap.get?_push_of_some { cls := .type "tuple", data := .seq ([] : List Value).toArray } e1
  rw [Heap.get?_update_other _ _ (Nat.ne_of_gt (Heap.lt_size e2))]
  exact Heap.get?_push_of_some _ e2
theorem HotAt.kept {x1 : Addr} {h h' : Heap} (hot : HotAt A x1 h) (k : ∀ o, h.get? x1 = some o → h'.get? x1 = some o) : HotAt A x1 h' := by
  obtain ⟨hh, o, vs, e, d, c⟩ := hot
  exact ⟨hh, o, vs, k o e, d, c⟩
theorem walks_hot {x1 : Addr} (I ax : Addr) (hne : ax ≠ I) (hx : x1 ≠ I) (items : Array Value) :
    Walks prog w A I [I, ax, x1] [I] items.size (fun i v => items[i]? = some v) (fun i h => h.IsListIter I ax i ∧ h.IsList ax items ∧ HotAt A x1 h) where
  sub := fun b hb => by simp at hb; simp [hb]
  frame := fun _ _ _ st hk => ⟨st.1.at fun o e => hk I (by simp) o e, st.2.1.at fun o e => hk ax (by simp) o e, HotAt.kept st.2.2 fun o e => hk x1 (by simp) o e⟩
  item := fun i s Q E hi st hQ => by
    refine wpAny_pyNext_list_item st.1 st.2.1 (x := items[i]) (by simp [hi]) fun h' hit' hs' => ?_
    exact hQ _ h' s.toks (by simp [hi]) ⟨hit', st.2.1.extBut hs'.extBut hne, HotAt.kept st.2.2 fun o e => hs'.extBut x1 o hx e⟩ fun b o hb e => hs'.extBut b o (fun h => hb (by simp [h])) e
  done := fun s Q E st hQ => list_end_hot st.2.2 hx st.1 st.2.1 (by simp) fun h' he' => hQ h' s.toks fun b o hb e => he' b o (fun h => hb (by simp [h])) e
  self := fun _ _ _ _ st hQ => wpAny_pyIter_listiter st.1 hQ
theorem sum_hot {l x1 : Addr} {its : List Value} {ns : List Int} {Q : Value → Shared → Prop} (hot : HotAt A x1 s.heap) (hl : s.heap.IsList l its.toArray) (hi : IntsAre its ns)
    (h : ∀ h' tk t', (∀ b o, s.heap.get? b = some o → h'.get? b = some o) → Q (.int ns.sum t') { s with heap := h', toks := tk }) : wpAny (model prog w) A (call (.builtin "sum") [.ref l]) Q E s := by
  obtain ⟨xs, e⟩ := hi.allInts.items
  have hn : numsOf (intItems xs).toList = ns := by rw [← e]; exact hi.numsOf
  rw [nums_intItems] at hn
  rw [e] at hl
  have hlt : x1 < s.heap.objs.size := by
    obtain ⟨_, o, vs, e, _⟩ := hot
    exact Heap.lt_size e
  refine call_sum_walkG (iter_intList hl fun s2 e st hfp hlI => ?_)
  subst e
  refine ⟨_, _, _, _, _, _, numAt xs, rfl, walks_hot (A := A.in1) _ l hlI (Nat.ne_of_lt hlt) (intItems xs), ⟨st.1, st.2, HotAt.kept (A := A.in1) hot fun o e => Heap.get?_push_of_some _ e⟩, fun b hb => ?_, fun _ _ => intItems_at, fun h' tk t' hk => ?_⟩
  · simp only [List.mem_cons, List.not_mem_nil, or_false] at hb
    rcases hb with rfl | rfl | rfl
    · exact hfp _ (by simp)
    · exact hfp _ (by simp)
    · show _ < (s.heap.push _).objs.size
      rw [Heap.size_push]
      exact Nat.lt_succ_of_lt hlt
  · have z := h h' tk t' (old_kept hk)
    rw [preSum_eq, List.take_of_length_le (by simp [intItems]), hn]
    exact z
end
section
variable {X : Cx}
theorem cr_sumH (hc : HotC X) : CallR X (.builtin "sum") (rSum X.K) := by
  intro pins s σ H vs us Q I r h
  obtain ⟨a, ns, rfl, hs, q⟩ := h
  obtain ⟨its, rv, hl, _⟩ := I.list hs
  obtain ⟨x1, hot⟩ := hc.at I
  rw [Vals.ref1 r]
  exact sum_hot hot hl.isList rv.ints fun h' tk t' hk => ⟨.int _, H, I.kept hk, ⟨_, rfl⟩, q⟩
/-- [e for x in a list], the list not written meanwhile: ys is what is made -/
def tLcH (K : PySem.W.Frag) (tl te : TE) (j : Nat) : TE := fun σ H Q => tl σ H fun v H1 => ∃ a xs ys, v = .ref a ∧ SqL K H1 a xs ∧ ys.length = xs.length ∧ xs.length ≤ sizeLine ∧
  (∀ (i : Nat) (x y : V), xs[i]? = some x → ys[i]? = some y → ∀ (σ' : L2.St) (H' : Hp) (Q' : VK), σ'[j]? = some (some x) → Q' y H' → te σ' H' Q') ∧ ∀ D, H1 D = none → Q (.ref D) (upd H1 D (.lst ys))
theorem pe_lcH {elt l : Expr} {x : Str} {xp : Pos} {scope : Scope} {pos : Pos} {tl te : TE} {j : Nat} (hc : HotC X) (hN : X.N.Nodup) (hl : PE X l tl) (ok : BlkOk X.N X.env.scope scope [(x, j)]) (hj : j < X.N.length)
    (hg : ∀ (s : Shared) (H : Hp) (C : Addr) (cl : List (Str × Addr)) (fp : List Addr), PG (X.blk s H scope (compEnvC scope cl C X.env) fp) (.Name x xp) (gName j))
    (he : ∀ (s : Shared) (H : Hp) (C : Addr) (cl : List (Str × Addr)) (fp : List Addr), PE (X.blk s H scope (compEnvC scope cl C X.env) fp) elt te) (hs : ∀ x, foldedSetIterable l X.env x = pure x := by intro _; rfl) :
    PE X (.ListComp elt [⟨.Name x xp, l, [], 0⟩] scope pos) (tLcH X.K tl te j) := by
  refine ⟨fun pins s σ H Q I h => ?_⟩
  rw [eval_ListComp]
  have hfree : ∀ y ∈ scope.names, y.2 = .free → ∃ c, X.env.cells.lookup y.1 = some c := fun y hy e => (ok.free y hy e).elim (fun k => I.ok.has _ (.inl k)) fun k => I.ok.has _ (.inr k)
  refine wpAny_comprehension_free (use := none) rfl hs (closure_ok hfree) ok.kind (fun y hy e => by rw [ok.uniq y hy, e]) (thn (hl.run pins s σ H _ I h) fun v s1 hv => ?_)
  obtain ⟨v1, H1, I1, r1, a, xs, ys, ev, sq, hlen, hsz, hel, q⟩ := hv
  subst ev
  cases r1
  obtain ⟨its, rv, plain, _⟩ := I1.list sq
  refine wpAny_pyIter_list plain.isList ?_
  -- the iterator
  generalize hitA : s1.heap.objs.size = it
  generalize hs2 : ({ s1 with heap := s1.heap.push { cls := .type "list_iterator", data := .fields #[.ref a, .int 0 0] } } : Shared) = s2
  have k12 : ∀ b o, s1.heap.get? b = some o → s2.heap.get? b = some o := fun b o e => by rw [← hs2]; exact Heap.get?_push_of_some _ e
  have I2 : Inv X pins σ H1 s2 := by rw [← hs2]; exact I1.kept (t' := s1.toks) fun b o e => Heap.get?_push_of_some _ e
  have st2 : s2.heap.IsListIter it a 0 := by rw [← hs2, ← hitA]; exact ⟨_, Heap.get?_push_size _ rfl, rfl, rfl⟩
  have f2 : FpOk X pins H1 it := by rw [← hitA]; exact I1.fpOk (Nat.le_refl _) (I1.hok.fresh (Nat.le_refl _))
  refine wpAny_newObj_type (newEnv_comp ?_) (by show 0 ≤ sizeLine; decide)
  generalize hD : s2.heap.objs.size = D
  have hDn : H1 D = none := I2.hok.fresh (Nat.le_of_eq hD)
  generalize hs3 : ({ s2 with heap := s2.heap.push { cls := .type "list", data := .seq ([] : List Value).toArray } } : Shared) = s3
  have I3 : Inv X pins σ (upd H1 D (.lst [])) s3 := by
    rw [← hs3]
    refine I2.laid (t' := s2.toks) (fun b o e => Heap.get?_push_of_some _ e) (Nat.le_of_eq hD) ⟨Nat.zero_le _, [], 0, .nil, ?_⟩
    rw [← hD]
    exact Heap.get?_push_size _ rfl
  have k23 : ∀ b o, s2.heap.get? b = some o → s3.heap.get? b = some o := fun b o e => by rw [← hs3]; exact Heap.get?_push_of_some _ e
  have it2 : it < s2.heap.objs.size := by
    obtain ⟨o, e, _⟩ := st2
    exact Heap.lt_size e
  have nitD : it ≠ D := by rw [← hD]; exact Nat.ne_of_lt it2
  have f3 : ∀ b ∈ [it], FpOk X pins (upd H1 D (.lst [])) b ∧ b < s3.heap.objs.size := fun b hb => by
    have e : b = it := by simpa using hb
    subst e
    obtain ⟨o, e, _⟩ := st2
    exact ⟨⟨by rw [upd_ne nitD]; exact f2.1, f2.2⟩, Heap.lt_size (k23 _ _ e)⟩
  have I4 := block_start I3 ok hN f3
  have pg := hg s3 (upd H1 D (.lst [])) s3.heap.objs.size (cellsFrom (s3.heap.objs.size + 1) scope.names (cloFrom X.env.cells scope.names [])) [it]
  have pe := he s3 (upd H1 D (.lst [])) s3.heap.objs.size (cellsFrom (s3.heap.objs.size + 1) scope.names (cloFrom X.env.cells scope.names [])) [it]
  show codeAny _ _ (.compStart (.ListComp elt [⟨.Name x xp, l, [], 0⟩] scope pos) 0 (.ref it) (.ref D) (compEnvC scope (cellsFrom (s3.heap.objs.size + 1) scope.names (cloFrom X.env.cells scope.names [])) s3.heap.objs.size X.env)) (compPost (model X.prog X.w) X.A X.xe none (EP X pins σ Q) (.ref D) s3.heap.objs.size) { s3 with heap := pushCells (s3.heap.push { cls := .type "dict", data := .dict #[] }) scope.names }
  generalize hce : compEnvC scope (cellsFrom (s3.heap.objs.size + 1) scope.names (cloFrom X.env.cells scope.names [])) s3.heap.objs.size X.env = ce at I4 pg pe ⊢
  have cL : ce.locals = s3.heap.objs.size := by subst hce; rfl
  generalize hH3 : upd H1 D (.lst []) = H3 at I3 I4 pg pe f3
  generalize hs4 : ({ s3 with heap := pushCells (s3.heap.push { cls := .type "dict", data := .dict #[] }) scope.names } : Shared) = s4 at I4 ⊢
  have k34 : ∀ b o, s3.heap.get? b = some o → s4.heap.get? b = some o := fun b o e => by rw [← hs4]; exact pushCells_keeps _ _ _ _ (Heap.get?_push_of_some _ e)
  have st4 : s4.heap.IsListIter it a 0 := st2.at fun o e => k34 _ _ (k23 _ _ e)
  -- the handled exception
  obtain ⟨p, ⟨hh, v1, e1, c1⟩, hp⟩ := hc
  obtain ⟨pget, pfree, ploc, pfs, _⟩ := I3.pin p (List.mem_append_left _ hp)
  have pst : p.1 ∉ frs X.stack := fun hm => (List.mem_cons.mp (I3.stkSub p.1 hm)).elim ploc pfs
  have pit : p.1 ≠ it := f2.2.2.2.2.2 p (List.mem_append_left _ hp)
  have hot : ∀ {σ' : L2.St} {H' : Hp} {s' : Shared}, Inv (X.blk s3 H3 scope ce [it]) [] σ' H' s' → HotAt X.A p.1 s'.heap := fun {σ' H' s'} I' =>
    ⟨hh, p.2, v1, I'.base.keep p.1 p.2 pget pfree pst (by simpa using pit), e1, c1⟩
  have stat : ∀ {σ' : L2.St} {H' : Hp} {s' : Shared}, Inv (X.blk s3 H3 scope ce [it]) [] σ' H' s' → H' it = none → FpOk (X.blk s3 H3 scope ce [it]) [] H' it := fun {σ' H' s'} I' hn =>
    ⟨hn, (I'.ok.exf it (by exact List.mem_cons_self)).1, I'.ok.exfs it (by exact List.mem_cons_self), .inl (by exact List.mem_cons_self), fun x c e => (I'.ok.exf it (by exact List.mem_cons_self)).2 x c e, fun p hp => absurd (show p ∈ ([] : List (Addr × Obj)) ++ [] from hp) (by simp)⟩
  have sqK : ∀ {H' : Hp}, (∃ acc : List V, H' = upd H1 D (.lst acc)) → SqL X.K H' a xs := by
    rintro H' ⟨acc, rfl⟩
    rcases sq with (e | ⟨o, e⟩) | e
    · exact .inl (.inl (by rw [upd_ne (ne_of_none e hDn)]; exact e))
    · exact .inl (.inr ⟨o, by rw [upd_ne (ne_of_none e hDn)]; exact e⟩)
    · exact .inr e
  have loop : codeAny (model X.prog X.w) X.A (.compLoop (.ListComp elt [⟨.Name x xp, l, [], 0⟩] scope pos) 0 (.ref it) (.ref D) ce) (compPost (model X.prog X.w) X.A X.xe none (EP X pins σ Q) (.ref D) s3.heap.objs.size) s4 := by
    refine compLoop_any (fun n s' => ∃ i H', n = xs.length - i ∧ i ≤ xs.length ∧ H' = upd H1 D (.lst (ys.take i)) ∧ Inv (X.blk s3 H3 scope ce [it]) [] (L2.wipe σ [j]) H' s' ∧ s'.heap.IsListIter it a i ∧ H' it = none) ?_ xs.length
      ⟨0, H3, rfl, Nat.zero_le _, by rw [← hH3, List.take_zero], I4, st4, (f3 it (by simp)).1.1⟩
    rintro n s5 ⟨i, H5, rfl, hi, eH, I5, st5, n5⟩
    have sq5 : SqL X.K H5 a xs := sqK ⟨_, eH⟩
    obtain ⟨its5, rv5, pl5, _⟩ := I5.list sq5
    obtain ⟨f0, f1, f2', f3', f4, f5⟩ := stat I5 n5
    by_cases hlt : i < xs.length
    · have hx : xs[i]? = some xs[i] := List.getElem?_eq_getElem hlt
      obtain ⟨u, hu, ru⟩ := rv5.get hx
      have hy : ys[i]? = some ys[i] := List.getElem?_eq_getElem (by omega)
      refine thnF (wpAny_pyNext_list_item (E := fun _ _ => False) (Q := fun r s' => r = some u ∧ ∃ h', s' = { s5 with heap := h' } ∧ h'.IsListIter it a (i + 1) ∧ Heap.SameBut it s5.heap h') st5 pl5.isList (x := u) (by simpa using hu) fun h' st' sb => ⟨rfl, h', rfl, st', sb⟩) fun r s6 ⟨hr, h', es, st', sb⟩ => ?_
      subst hr es
      have I6 : Inv (X.blk s3 H3 scope ce [it]) [] (L2.wipe σ [j]) H5 { s5 with heap := h' } := I5.turned (t' := s5.toks) (fun b o hb e => (sb.2 b hb).trans e) f0 f1 f3' f4 f5
      obtain ⟨oi, ei, ci, di⟩ := id st'
      refine go_of (s := { s5 with heap := h' }) ei ci di (by decide) ?_
      have I6' := I6.pinned (fp := [it]) (fun b hb => by
        have e : b = it := by simpa using hb
        subst e
        exact stat I6 n5) (fun b hb => by
        have e : b = it := by simpa using hb
        subst e
        exact ⟨oi, ei, fun v z => by rw [di] at z; cases z⟩)
      refine thnF (pg.run _ { s5 with heap := h' } _ H5 xs[i] u (fun σ8 H8 => σ8 = (L2.wipe σ [j]).set j (some xs[i]) ∧ H5 = H8) I6' ru ⟨rfl, rfl⟩) fun _ s8 ⟨σ8, H8, I8, e8, eH8⟩ => ?_
      subst e8 eH8
      have hjl : j < (L2.wipe σ [j]).length := by rw [wipe_length, I.len]; exact hj
      refine wpAny_tests_nil ?_
      rw [if_pos rfl]
      refine thnF (pe.run _ s8 _ H5 (fun y' H' => y' = ys[i] ∧ H5 = H') I8 (hel i xs[i] ys[i] hx hy _ _ _ (List.getElem?_set_self hjl) ⟨rfl, rfl⟩)) fun z s10 ⟨yv, H10, I10, r10, ey, eH10⟩ => ?_
      subst ey eH10
      have hD5 : H5 D = some (.lst (ys.take i)) := by rw [eH]; exact upd_same
      refine app_ok (X := X.blk s3 H3 scope ce [it]) I10 hD5 (by rw [List.length_take]; omega) r10 fun s11 I11 => ⟨xs.length - (i + 1), by omega, i + 1, _, rfl, hlt, ?_, (I11.unpinned (pins := [])).weak (by rw [List.length_set]) (fun jj v e => ?_), ?_, ?_⟩
      · rw [eH]
        rw [List.take_succ, hy]
        funext b
        unfold upd
        by_cases zb : b = D
        · simp [zb]
        · simp [zb]
      · by_cases zj : j = jj
        · subst zj
          exfalso
          have e : (L2.wipe σ [j])[j]? = some (some v) := e
          unfold L2.wipe L2.wipe at e
          rw [List.getElem?_set_self (by rw [wipe_length] at hjl; exact hjl)] at e
          cases e
        · rw [List.getElem?_set_ne zj]
          exact e
      · have z := I11.pin (it, oi) (List.mem_append_right _ (List.mem_append_right _ (mem_pinsAt (by simp) ei)))
        exact st'.at fun o e => by
          rw [ei] at e
          cases e
          exact z.1
      · rw [upd_ne nitD]
        exact n5
    · have ei : i = xs.length := by omega
      subst ei
      refine list_end_hot (hot I5) pit st5 pl5.isList (by simp; have := rv5.length; omega) fun h' eb => ?_
      have I6 : Inv (X.blk s3 H3 scope ce [it]) [] (L2.wipe σ [j]) H5 { s5 with heap := h' } := I5.turned (t' := s5.toks) (fun b o hb e => eb b o hb e) f0 f1 f3' f4 f5
      have I7 : Inv X pins σ H5 { s5 with heap := h' } := I3.call' (ch := [it]) I6.os I6.base I6.hok I6.bare fun b hb => ⟨(f3 b hb).1.2.2.2.1, (f3 b hb).1.2.1, (f3 b hb).1.2.2.2.2.1, (f3 b hb).1.2.2.2.2.2⟩
      obtain ⟨m, hn, _⟩ := I6.loc
      have hn : Heap.Ns h' ce.locals m := hn
      rw [cL] at hn
      have nC : H5 s3.heap.objs.size = none := by
        have z : H5 ce.locals = none := I6.free
        rw [cL] at z
        exact z
      obtain ⟨g0, g1, g2, g3, g4, g5⟩ := I3.fpOk (H' := H5) (Nat.le_refl _) nC
      have qq : Q (.ref D) H5 := by
        rw [eH, ← hlen, List.take_length]
        exact q D hDn
      exact ⟨m, hn, fun h'' sb => ⟨.ref D, H5, I7.turned (t' := s5.toks) (fun b o hb e => (sb.2 b hb).trans e) g0 g1 g3 g4 g5, rfl, qq⟩⟩
  exact codeAny_compStart_list loop (wpAny_pyIter_listiter st4 loop)
end
end DL
set_option maxHeartbeats 1000000
namespace DL
open PySem PySem.Spec PyProof.Rows L2
open HotX L2H
/-! ### the errors' classes: 100 the base of all, 101 NotAllowed, 102 Missing, 103 Wrong, 104 BadForm, 105 Alike -/
def errT : Nat → Option Str
  | 101 => some "refused"
  | 102 => some "missing"
  | 103 => some "wrong"
  | 104 => some "form"
  | 105 => some "alike"
  | _ => none
abbrev bmVE : List Value := [.type "ValueError", .type "Exception", .type "BaseException", .type "object"]
/-- a class of errors that is raised -/
structure ExD (p : Pg) (c : Nat) (x : Str) : Prop where
  g : p.mg x = some (.ref (p.cA c))
  kp : PySem.W.keepIn p.K (.ref (p.cA c)) = true
  xi : PySem.W.excIn p.K (p.cA c) bmVE "ValueError.__new__" = true
  sb : PySem.W.subIn p.K (.ref (p.cA c)) (.type "BaseException") = some true
  ty : PySem.W.typeIn p.K (.ref (p.cA c)) = some (.type "type")
section
variable {S : Sta} {ρ : Ev} {pos q p2 rpos : Pos} {j : Nat} {N B : Type} {shN : N → Ev} {shB : B → Ev} {rest : List Stmt}
theorem sb_raise {c : Nat} {x m : Str} (h : ExD S.pg c x) (hg : Glb S x) (hdb : (x == ("__debug__" : Str)) = false) :
    SB S ρ (.Raise (some (.Call (.Name x q) [.Constant (.str m) j p2] [] pos)) none rpos :: rest) (raise c : M (Out N B)) shN shB := fun Y ok => by
  refine (pss_cons (L2N.ps_raise (X := S.cx Y) rfl ok.takes (L2N.pmk_own (X := S.cx Y) PySem.F.excBase_ValueError h.xi h.g h.kp (raises_own h.sb h.ty) hg hdb)) pss_never).pre fun Dd σ H ⟨F, g, E, q⟩ => ?_
  exact q g H rfl E.fr
end
/-! ### isinstance(e, C), e the error that is handled -/
theorem call_isEX {X : Cx} {a D : Addr} {oe : Obj} (C : ExcC X.K D) (hz : Zc (.ref D) none oe) (hf : ∃ vs, oe.data = .fields vs) (hp : (a, oe) ∈ X.pn) : CallR X (.builtin "isinstance") (rIsE X.K D a) := by
  intro pins s σ H xs us Q I r h
  obtain ⟨c, cv, b, rfl, hcv, e, q⟩ := h
  cases r with
  | cons rx rr =>
    cases rr with
    | cons rt rr =>
      cases rr
      cases rx
      have ec := hcv _ rt
      subst ec
      obtain ⟨hget, _⟩ := I.pin (a, oe) (List.mem_append.mpr (.inl hp))
      obtain ⟨vs, hv⟩ := hf
      have J : PySem.W.InstAt s.heap a oe D none := by
        obtain ⟨oc, od, oda, osl⟩ := oe
        obtain ⟨h1, h2⟩ := hz
        dsimp only at h1 h2 hv
        subst h1 h2 hv
        exact ⟨hget, rfl, rfl, trivial⟩
      exact PySem.W.kia_one (PySem.W.handS_kitx_exc C.hg C.hk C.hs C.hd C.ha C.hn C.ht C.hm) I.kIn J e (fun z => nomatch z) fun tk => ⟨.bl b, H, I.kept (t' := tk) fun _ _ z => z, rfl, q⟩
/-- what the five names stand for, and what is known of the classes cs that are raised -/
structure ErrFacts (K : PySem.W.Frag) (mg : Str → Option Value) (cA : Nat → Addr) (cs : List Nat) : Prop where
  n1 : mg "NotAllowed" = some (.ref (cA 101))
  n2 : mg "Missing" = some (.ref (cA 102))
  n3 : mg "Wrong" = some (.ref (cA 103))
  n4 : mg "BadForm" = some (.ref (cA 104))
  n5 : mg "Alike" = some (.ref (cA 105))
  bs : mg "sum" = none
  bi : mg "int" = none
  bx : mg "isinstance" = none
  ec : ∀ c ∈ cs, ExcC K (cA c)
  kt : ∀ c ∈ cs, ∀ k ∈ [101, 102, 103, 104, 105], PySem.W.kitOne K (.ref (cA c)) (.ref (cA k)) = some (decide (c = k))
/-- the text's row, by the class -/
def errB (c : Nat) : List Bool := [decide (c = 101), decide (c = 102), decide (c = 103), decide (c = 104), decide (c = 105)]
theorem boot_isinst : bootBuiltins "isinstance" = some (.builtin "isinstance") := by decide +kernel
section
variable {X : Cx} {cA : Nat → Addr} {cs : List Nat} {a : Addr} {oe : Obj} {c : Nat} {t : Str}
variable {p1 p2 p3 p4 p5 p6 p7 p8 p9 p10 p11 p12 p13 p14 p15 p16 p17 p18 p19 p20 p21 p22 p23 p24 p25 p26 p27 p28 p29 p30 p31 p32 p33 p34 p35 p36 p37 p38 p39 p40 p41 p42 p43 p44 p45 p46 p47 p48 p49 apos cpos : Pos} {j1 j2 j3 j4 j5 j6 j7 j8 j9 : Nat} {scope : Scope}
theorem pe_isX {q1 q2 q3 q4 : Pos} {x : Str} {k : Nat} (hm0 : (X.mg "isinstance") = none) (C : ExcC X.K (cA c)) (hz : Zc (.ref (cA c)) none oe) (hf : ∃ vs, oe.data = .fields vs) (hp : (a, oe) ∈ X.pn) (hx : X.mg x = some (.ref (cA k))) (hN : X.N[0]? = some ("e" : Str)) (hv : Vis X.env.scope "e") (hgl : Gl X "isinstance") (hgx : Gl X x) (hd : (x == ("__debug__" : Str)) = false) :
    PE X (.Call (.Name "isinstance" q1) [.Name "e" q2, .Name x q3] [] q4) (tCB (rIsE X.K (cA c) a) (tCons (tVar 0) (tCons (tC (.ref (cA k))) tNil))) :=
  pe_callB (call_isEX C hz hf hp) hgl hm0 boot_isinst (pa_cons (pe_var hN hv) (pa_cons (pe_glob hgx hx rfl hd) pa_nil))
/-- what the row of the five answers and its reading give -/
def tErr (cA : Nat → Addr) (cs : List Nat) (a : Addr) : TS := fun D σ H => ∃ c t, errT c = some t ∧ c ∈ cs ∧ σ[0]? = some (some (.ref a)) ∧ 3 ≤ σ.length ∧ ∀ l1 l2 l3, ∀ vs1 vs2 vs3, H l1 = none → upd H l1 (.lst vs1) l2 = none → upd (upd H l1 (.lst vs1)) l2 (.lst vs2) l3 = none → D.rt (.str t) (upd (upd (upd H l1 (.lst vs1)) l2 (.lst vs2)) l3 (.lst vs3))
theorem err_block (hX : ErrFacts X.K X.mg cA cs) (hc : HotC X) (hu : X.A.units + 65 < cLine) (hz : Zc (.ref (cA c)) none oe) (hcs : c ∈ cs) (hf : ∃ vs, oe.data = .fields vs) (hp : (a, oe) ∈ X.pn)
    (hN : X.N = (["e", "names", "one"] : List Str)) (hfn : X.fn = fun _ => true) (hv0 : X.env.scope.names.lookup ("e" : Str) = some .local) (hv1 : X.env.scope.names.lookup ("names" : Str) = some .local)
    (g0 : Gl X "isinstance") (g1 : Gl X "NotAllowed") (g2 : Gl X "Missing") (g3 : Gl X "Wrong") (g4 : Gl X "BadForm") (g5 : Gl X "Alike") (g6 : Gl X "sum")
    (hb : BlkOk X.N X.env.scope scope [("one", 2)]) (hgi : (relS scope X.env.scope).names.lookup ("int" : Str) = some .globalImplicit) (hgo : (relS scope X.env.scope).names.lookup ("one" : Str) = some .local) (hline : (apos.endLine == cpos.line) = true) :
    PSs X [.Assign [.Name "names" p1] (.List [.Call (.Name "isinstance" p2) [.Name "e" p3, .Name "NotAllowed" p4] [] p5, .Call (.Name "isinstance" p6) [.Name "e" p7, .Name "Missing" p8] [] p9, .Call (.Name "isinstance" p10) [.Name "e" p11, .Name "Wrong" p12] [] p13,
        .Call (.Name "isinstance" p14) [.Name "e" p15, .Name "BadForm" p16] [] p17, .Call (.Name "isinstance" p18) [.Name "e" p19, .Name "Alike" p20] [] p21] p22) p23,
      .If (.Compare (.Call (.Name "sum" p24) [.ListComp (.Call (.Name "int" p25) [.Name "one" p26] [] p27) [⟨.Name "one" p28, .Name "names" p29, [], 0⟩] scope p30] [] p31) [.NotEq] [.Constant (.int 1) j1 p32] p33) [.Return (some (.Constant (.str "odd") j2 p34)) p35] [] p36,
      .Return (some (.Subscript (.List [.Constant (.str "refused") j3 p37, .Constant (.str "missing") j4 p38, .Constant (.str "wrong") j5 p39, .Constant (.str "form") j6 p40, .Constant (.str "alike") j7 p41] p42) (.Call (.Attribute (.Name "names" p43) "index" apos) [.Constant (.bool true) j8 p44] [] cpos) p45)) p46]
      (fun D σ H => errT c ≠ none ∧ tErr cA [c] a D σ H) := by
  have e0 : X.N[0]? = some ("e" : Str) := by rw [hN]; rfl
  have e1 : X.N[1]? = some ("names" : Str) := by rw [hN]; rfl
  have e2 : X.N[2]? = some ("one" : Str) := by rw [hN]; rfl
  have nd : X.N.Nodup := by rw [hN]; decide
  have C := hX.ec c hcs
  have i1 := pe_isX (q1 := p2) (q2 := p3) (q3 := p4) (q4 := p5) hX.bx C hz hf hp hX.n1 e0 (.inl hv0) g0 g1 (by decide)
  have i2 := pe_isX (q1 := p6) (q2 := p7) (q3 := p8) (q4 := p9) hX.bx C hz hf hp hX.n2 e0 (.inl hv0) g0 g2 (by decide)
  have i3 := pe_isX (q1 := p10) (q2 := p11) (q3 := p12) (q4 := p13) hX.bx C hz hf hp hX.n3 e0 (.inl hv0) g0 g3 (by decide)
  have i4 := pe_isX (q1 := p14) (q2 := p15) (q3 := p16) (q4 := p17) hX.bx C hz hf hp hX.n4 e0 (.inl hv0) g0 g4 (by decide)
  have i5 := pe_isX (q1 := p18) (q2 := p19) (q3 := p20) (q4 := p21) hX.bx C hz hf hp hX.n5 e0 (.inl hv0) g0 g5 (by decide)
  have nm : ∀ {p : Pos}, PE X (.Name "names" p) (tVar 1) := fun {p} => pe_var e1 (.inl hv1)
  have lc : PE X (.ListComp (.Call (.Name "int" p25) [.Name "one" p26] [] p27) [⟨.Name "one" p28, .Name "names" p29, [], 0⟩] scope p30) (tLcH X.K (tVar 1) _ 2) :=
    pe_lcH hc nd nm hb (by rw [hN]; decide) (fun s H C cl fp => pg_name (X := X.blk s H scope (compEnvC scope cl C X.env) fp) nd e2 (.inl hgo) (.inr hgo))
      (fun s H C cl fp => pe_callTy (X := X.blk s H scope (compEnvC scope cl C X.env) fp) call_int1 hgi hX.bi PyProof.Rows.boot_int (pa_cons (pe_var (X := X.blk s H scope (compEnvC scope cl C X.env) fp) e2 (.inl hgo)) pa_nil))
  refine (pss_cons (ps_set nd e1 (.inl hv1) (pe_lst (pa_cons i1 (pa_cons i2 (pa_cons i3 (pa_cons i4 (pa_cons i5 pa_nil)))))) (hf := .inr hv1))
    (pss_cons (ps_if (pt_cmpR op_ne (pe_callB (cr_sumH hc) g6 hX.bs PyProof.Rows.boot_sum (pa_cons lc pa_nil)) pe_int (nomark _)) (pss_one (ps_ret pe_str)) pss_nil)
      (pss_one (ps_ret (pe_ix ix_list (pe_lst (pa_cons pe_str (pa_cons pe_str (pa_cons pe_str (pa_cons pe_str (pa_cons pe_str pa_nil))))))
        (pe_bm PySem.F.plainAttrs_list PySem.F.slot_list_index PySem.F.type_list_index (mt_indexD hu) nm (pa_cons pe_bl pa_nil) (hline := hline)) (fun _ _ => rfl)))))).pre fun D σ H ⟨hne, c', t, ht, hc', h0, hlen, q⟩ => ?_
  obtain rfl : c' = c := by simpa using hc'
  -- which one it is
  obtain ⟨j, hj1, hj2, hj3, hj4⟩ : ∃ j : Nat, ((errB c').map fun k => if k = true then (1 : Int) else 0).sum = 1 ∧ (errB c')[j]? = some true ∧ (∀ m, m < j → (errB c')[m]? = some false) ∧ atI ([V.str "refused", V.str "missing", V.str "wrong", V.str "form", V.str "alike"] : List V) ((j : Nat) : Int) = some (.str t) := by
    unfold errT at ht
    split at ht
    · cases ht; exact ⟨0, by decide, by decide, by decide, rfl⟩
    · cases ht; exact ⟨1, by decide, by decide, by decide, rfl⟩
    · cases ht; exact ⟨2, by decide, by decide, by decide, rfl⟩
    · cases ht; exact ⟨3, by decide, by decide, by decide, rfl⟩
    · cases ht; exact ⟨4, by decide, by decide, by decide, rfl⟩
    · cases ht
  have kt := hX.kt c' hcs
  have hr : ∀ (u : Value) (k : Addr), RelV (V.ref k) u → u = .ref k := fun u k r => r
  have sl5 : 5 ≤ sizeLine := by decide
  refine ⟨.ref a, h0, .ref (cA 101), .ref (cA 101), _, rfl, fun u r => hr u _ r, kt 101 (by decide), .ref a, h0, .ref (cA 102), .ref (cA 102), _, rfl, fun u r => hr u _ r, kt 102 (by decide), .ref a, h0, .ref (cA 103), .ref (cA 103), _, rfl, fun u r => hr u _ r, kt 103 (by decide),
    .ref a, h0, .ref (cA 104), .ref (cA 104), _, rfl, fun u r => hr u _ r, kt 104 (by decide), .ref a, h0, .ref (cA 105), .ref (cA 105), _, rfl, fun u r => hr u _ r, kt 105 (by decide), sl5, fun l1 hl1 => ?_⟩
  have hs1 : (σ.set 1 (some (V.ref l1)))[1]? = some (some (.ref l1)) := List.getElem?_set_self (by omega)
  have sq1 : SqL X.K (upd H l1 (.lst ((errB c').map V.bl))) l1 ((errB c').map V.bl) := .inl (.inl upd_same)
  refine ⟨.ref l1, hs1, l1, (errB c').map V.bl, ((errB c').map fun k => if k = true then (1 : Int) else 0).map V.int, rfl, sq1, rfl, sl5, fun i x y hx hy σ' H' Q' hσ hq => ?_, fun l2 hl2 => ?_⟩
  · rw [List.getElem?_map] at hx
    rw [List.getElem?_map, List.getElem?_map] at hy
    cases eb : (errB c')[i]? with
    | none => rw [eb] at hx; cases hx
    | some k =>
      rw [eb] at hx hy
      cases hx
      cases hy
      exact ⟨_, hσ, .inr ⟨k, rfl, hq⟩⟩
  refine ⟨l2, _, rfl, .inl (.inl upd_same), rfl, _, rfl, ?_⟩
  rw [hj1]
  have ne2 : l1 ≠ l2 := ne_of_none (by exact upd_same) hl2
  have sq2 : SqL X.K (upd (upd H l1 (.lst ((errB c').map V.bl))) l2 (.lst (((errB c').map fun k => if k = true then (1 : Int) else 0).map V.int))) l1 ((errB c').map V.bl) := .inl (.inl (by rw [upd_ne ne2]; exact upd_same))
  refine ⟨sl5, fun l3 hl3 => ?_⟩
  have ne3 : l1 ≠ l3 := ne_of_none (by rw [upd_ne ne2]; exact upd_same) hl3
  have sq3 : ∀ o, SqL X.K (upd (upd (upd H l1 (.lst ((errB c').map V.bl))) l2 (.lst (((errB c').map fun k => if k = true then (1 : Int) else 0).map V.int))) l3 o) l1 ((errB c').map V.bl) := fun o => .inl (.inl (by rw [upd_ne ne3, upd_ne ne2]; exact upd_same))
  have dpa : ∀ (HH : Hp) (bs : List Bool), DpAll X.K HH (bs.map V.bl) (bs.map PyData.bool) := fun HH bs => by
    induction bs with
    | nil => exact .nil
    | cons b r ih => exact .cons (.bl b) ih
  refine ⟨.ref l1, hs1, .inl ⟨rfl, _, sq3 _⟩, l1, .bl true, .bool true, (errB c').map PyData.bool, j, .bool true, rfl, rfl, .lst (sq3 _) (dpa _ _), .bl true, rfl, rfl, ?_, rfl, fun m z' hm hz' => ?_, ?_⟩
  · rw [List.getElem?_map, hj2]; rfl
  · rw [List.getElem?_map, hj3 m hm] at hz'
    cases hz'
    rfl
  · refine ⟨l3, _, j, .str t, rfl, rfl, .inl (.inl upd_same), hj4, q l1 l2 l3 _ _ _ hl1 hl2 hl3⟩
end
/-! ### the def that tells an error's class, called within an except suite -/
structure ErrFn (p : Pg) (cs : List Nat) : Prop where
  ex : ∃ f fd, p.mg "_law_error" = some (.ref f) ∧ PySem.W.keepIn p.K (.ref f) = true ∧ Binds p.K fd ["e"] [] ∧
    ∀ (A : Around) (outer : List Env) (s : Shared) (H : Hp) (args : Args) (us : List Value) (pin : Addr × Obj) (c : Nat) (t : Str) (Q : VK), c ∈ cs → errT c = some t → RoomH 1 A → Hot1 A pin → PinOk outer H s pin → Zc (.ref (p.cA c)) none pin.2 → (∃ vs, pin.2.data = .fields vs) → Env0 p.P p.w p.K p.mg p.base A outer s H →
      BindsTo s fd args ((["e"] : List Str).zip us) → Vals [V.ref pin.1] us → (∀ H', (∀ g, Wf p g H → Stp p g H g H') → Q (.str t) H') →
      codeAny (model p.P p.w) A (.call (.ref f) args) (CR (L2N.CX p.P p.w) outer p.P p.w H s Q fun _ _ _ => False) s
/-- the def's text -/
structure ErrSc (st : Stmt) : Prop where
  sc : FnScope ["e", "names", "one"] ["e"] (defScope st)
  v0 : (defScope st).names.lookup ("e" : Str) = some .local
  v1 : (defScope st).names.lookup ("names" : Str) = some .local
  gs : ∀ x ∈ (["isinstance", "NotAllowed", "Missing", "Wrong", "BadForm", "Alike", "sum"] : List Str), (defScope st).names.lookup x = some .globalImplicit
theorem err_fn {p : Pg} {cs : List Nat} {st : Stmt} {f : Addr} {fd : FuncData} (F : Fun p.K "_law_error" "_law_error" st f fd) (Sc : ErrSc st) (hm : p.mg "_law_error" = some (.ref f)) (hb : Binds p.K fd ["e"] [])
    (h : ∀ (X : Cx) (a : Addr) (oe : Obj) (c : Nat), X.K = p.K → X.mg = p.mg → X.env.scope = defScope st → HotC X → X.A.units + 65 < cLine → Zc (.ref (p.cA c)) none oe → c ∈ cs → (∃ vs, oe.data = .fields vs) → (a, oe) ∈ X.pn → X.N = (["e", "names", "one"] : List Str) → X.fn = (fun _ => true) →
      PSs X (defBody st) fun D σ H => errT c ≠ none ∧ tErr p.cA [c] a D σ H) : ErrFn p cs := by
  obtain ⟨oc, od, kV, doc, pm, an, cdv, ct, osl, rfl, lk, hcd⟩ := F.ex
  refine ⟨f, _, hm, F.kp, hb, fun A outer s H args us pin c t Q hcs ht hr hot hpin hz hf e0 hbd r hq => ?_⟩
  have KX : p.K.In s.heap := e0.mod.kin.keeps fun b o e => (e0.bs b o e).1
  have lim : s.heap.NoLimit := e0.mod.nolimit.keeps fun b o e => (e0.bs b o e).1
  have hus : us.length = 1 := by rw [← r.length]; rfl
  have hkind : ∀ y ∈ (["e"] : List Str).zip us, (defScope st).names.lookup y.1 = some .local ∨ ((defScope st).names.lookup y.1 = some .cell ∧ ((cellsFrom (s.heap.objs.size + 1) (defScope st).names []).lookup y.1).isSome = true) := fun ⟨n, v⟩ hy => by
    have z := (List.of_mem_zip hy).1
    have z : n = ("e" : Str) := by simpa using z
    subst z
    exact .inl Sc.v0
  refine codeAny_call_function hr.depth (KX _ _ lk) rfl Sc.sc.co Sc.sc.gen rfl (PySem.W.codeRec_of KX hcd) (hbd _ _ _ _ ?_)
  refine wpAny_newFunctionEnv_cells Sc.sc.kind hkind fun env he s1 x => ?_
  subst he
  refine ⟨lim.keeps x.toInCall.keep, codeAny_func ?_⟩
  have I : Inv (cxH (L2N.CX p.P p.w) p.P p.w p.K p.mg p.base ["e", "names", "one"] "_law_error" (defScope st) f cdv A outer s H (fun _ _ _ => False) pin) [] (L2.start ["e", "names", "one"] [V.ref pin.1]) H s1 := inv_startH Sc.sc hpin e0 (by rfl) r x
  have hdeep : Hot1 (A.deeper (envOfC "_law_error" (defScope st) s.heap.objs.size f cdv)) pin := hot
  have hun : (A.deeper (envOfC "_law_error" (defScope st) s.heap.objs.size f cdv)).units + 65 < cLine := by
    have := hr.un
    show A.units + 3 + 65 < cLine
    omega
  have ps := h (cxH (L2N.CX p.P p.w) p.P p.w p.K p.mg p.base ["e", "names", "one"] "_law_error" (defScope st) f cdv A outer s H (fun _ _ _ => False) pin) pin.1 pin.2 c rfl rfl rfl ⟨pin, hdeep, List.mem_singleton.mpr rfl⟩ hun hz hcs hf (List.mem_singleton.mpr rfl) rfl rfl
  refine wpAny_mono (ps.run [] s1 _ H { nx := fun _ H' => Q .non H', rt := Q } I ⟨by rw [ht]; simp, c, t, ht, by simp, rfl, Nat.le_refl 3, fun l1 l2 l3 vs1 vs2 vs3 n1 n2 n3 => hq _ fun g w => ?_⟩) (fun fl s' hs => ?_) fun e s' hs => hs
  · have s1 := Stp.laid (o := .lst vs1) w n1
    have s2 := Stp.laid (o := .lst vs2) s1.wf n2
    have s3 := Stp.laid (o := .lst vs3) s2.wf n3
    exact (s1.trans w s2).trans w s3
  · have fin : ∀ {σ' : L2.St} {H' : Hp} {v : V} {u : Value}, Inv (cxH (L2N.CX p.P p.w) p.P p.w p.K p.mg p.base ["e", "names", "one"] "_law_error" (defScope st) f cdv A outer s H (fun _ _ _ => False) pin) [] σ' H' s' → RelV v u → Q v H' → CE outer p.P p.w H s Q u s' :=
      fun {σ' H' v u} J rv q => ⟨v, H', J.os, J.bare, J.base, J.hok, rv, q⟩
    cases fl with
    | ret u =>
      obtain ⟨v, σ', H', J, rv, q⟩ := hs
      exact fin J rv q
    | next =>
      obtain ⟨σ', H', J, q⟩ := hs
      exact fin (v := V.non) (u := Value.none) J rfl q
    | brk =>
      obtain ⟨_, _, _, q⟩ := hs
      exact False.elim q
    | cont =>
      obtain ⟨_, _, _, q⟩ := hs
      exact False.elim q
/-! ### try: .. except MaieuticError as e: return _law_error(e) -/
def tryE {N B : Type} (cs : List Nat) (m : M (Out N B)) : M (Out N B) := fun s => match m s with
  | .ok o s' => .ok o s'
  | .exc c s' => if cs.contains c = true then match errT c with
    | some t => .ok (.rt (.str t)) s'
    | none => .stuck else .stuck
  | .stuck => .stuck
/-- the clause's class takes them all -/
structure ErrCls (p : Pg) (cs : List Nat) : Prop where
  g : p.mg "MaieuticError" = some (.ref (p.cA 100))
  m : ∀ c ∈ cs, PySem.W.exmOne p.K (.ref (p.cA c)) (.ref (p.cA 100)) = some true
theorem takes_len {X : Cx} {W : WX} (t : L2N.Takes X W) : L2N.Takes X fun c d _ H => ∀ σ, σ.length = X.N.length → W c d σ H := fun u s' ⟨a, B, sI, pins, σ, H, cls, d, e, I, nb, up, sky, na, os, ag, w⟩ =>
  t u s' ⟨a, B, sI, pins, σ, H, cls, d, e, I, nb, up, sky, na, os, ag, w σ I.len⟩
section
variable {X : Cx}
/-- the call, in the suite -/
theorem pe_callE {p : Pg} {cs : List Nat} {a : Addr} {oe : Obj} {c i : Nat} {t : Str} {n : Str} {q q2 cpos : Pos} (FN : ErrFn p cs) (hP : X.prog = p.P) (hw : X.w = p.w) (hK : X.K = p.K) (hmg : X.mg = p.mg) (hba : X.base = p.base) (hr : RoomH 1 X.A) (hot : Hot1 X.A (a, oe)) (hp : (a, oe) ∈ X.pn)
    (hz : Zc (.ref (p.cA c)) none oe) (hf : ∃ vs, oe.data = .fields vs) (hcs : c ∈ cs) (ht : errT c = some t) (hg : Gl X "_law_error") (hN : X.N[i]? = some n) (hv : Vis X.env.scope n) (hd : (n == ("__debug__" : Str)) = false) (hcd : (n == ("__classdict__" : Str)) = false) :
    PE X (.Call (.Name "_law_error" q) [.Name n q2] [] cpos) (fun σ H Q => σ[i]? = some (some (.ref a)) ∧ ∀ H', (∀ g, Wf p g H → Stp p g H g H') → Q (.str t) H') := by
  obtain ⟨P, w, K, mg, base, cA⟩ := p
  dsimp only at hP hw hK hmg hba
  subst hP hw hK hmg hba
  obtain ⟨f, fd, hm, kp, hb, run⟩ := FN.ex
  refine ⟨fun pins s σ H Q I ⟨hσ, h⟩ => ?_⟩
  refine wpAny_Call_Name_kw (ld_glob I hg hm ?_ (by decide))
  refine PySem.W.callWith_K (h₀ := X.base) I.ok.mod.kin kp (thn ((pa_cons (pe_var hN hv hd hcd) pa_nil).run cpos pins s σ H (fun vs H1 => vs = [V.ref a] ∧ H = H1) I ⟨_, hσ, rfl, rfl⟩) fun us s1 ⟨vs, H1, I1, r, ev, eH⟩ => ⟨I1.kIn, ?_⟩)
  subst ev
  subst eH
  have P1 := I1.pin (a, oe) (List.mem_append_left _ hp)
  have hpin : PinOk X.stack H s1 (a, oe) := ⟨P1.1, P1.2.1, fun hm => (List.mem_cons.mp (I1.stkSub a hm)).elim P1.2.2.1 P1.2.2.2.1, P1.2.2.2.2⟩
  have hl : us.length = 1 := by rw [← r.length]; rfl
  have b := hb s1 us I1.kIn (by rw [List.append_nil]; exact hl)
  rw [List.append_nil] at b
  refine wpAny_call (codeAny_mono (run X.A X.stack s1 H ⟨us, []⟩ us (a, oe) c t Q hcs ht hr hot hpin hz hf I1.env0 b r h) fun rr s' hq => ?_)
  cases rr with
  | error e =>
    obtain ⟨_, _, _, _, _, _, _, _, _, _, _, _, z⟩ := hq
    exact False.elim z
  | ok fl =>
    cases fl with
    | ret u => exact I1.after hq
    | next => exact False.elim hq
    | brk => exact False.elim hq
    | cont => exact False.elim hq
end
section
variable {S : Sta} {ρ : Ev} {pos q q2 np hpos rpos cpos : Pos} {N B J : Type} {shN : N → Ev} {shB : B → Ev} {shJ : J → Ev} {rest body : List Stmt}
theorem sb_try {cs : List Nat} {n : Str} {i : Nat} {m : M (Out J B)} {k : J → M (Out N B)} (hS : S.dfn = true) (FN : ErrFn S.pg cs) (C : ErrCls S.pg cs) (hlv : 1 ≤ S.lv) (hnd : S.N.Nodup) (hN : S.N[i]? = some n) (hln : S.sc.names.lookup n = some .local) (hgM : Glb S "MaieuticError") (hgE : Glb S "_law_error")
    (hd : (n == ("__debug__" : Str)) = false) (hcd : (n == ("__classdict__" : Str)) = false) (hb : SB S ρ body m shJ shB) (hr : ∀ j, SB S (shJ j) rest (k j) shN shB) :
    SB S ρ (.Try body [.ExceptHandler (some (.Name "MaieuticError" np)) (some n) [.Return (some (.Call (.Name "_law_error" q) [.Name n q2] [] cpos)) rpos] hpos] [] [] pos :: rest) (tryE cs m >>= seqO k) shN shB := fun Y ok => by
  have hR : PSs (S.cx Y) rest (fun Dd σ H => ∃ j, rdS S Y (shJ j) (k j) shN shB Dd σ H) := ⟨fun pins s σ H Dd I ⟨d, q⟩ => (hr d Y ok).run pins s σ H Dd I q⟩
  obtain ⟨hs, hfr⟩ := ok.stk hS
  -- the suite
  have hsu : ∀ (a : Addr) (oe : Obj) (cls : Value) (d : Option Addr) (pn : List (Addr × Obj)), L2N.Zn cls d oe → (∃ vs, oe.data = .fields vs) → PSs ((S.cx Y).suite a ((a, oe) :: pn)) [.Return (some (.Call (.Name "_law_error" q) [.Name n q2] [] cpos)) rpos]
      (fun D σ H => ∃ c t, cls = .ref (S.pg.cA c) ∧ d = none ∧ c ∈ cs ∧ errT c = some t ∧ σ[i]? = some (some (.ref a)) ∧ ∀ H', (∀ g, Wf S.pg g H → Stp S.pg g H g H') → D.rt (.str t) H') := fun a oe cls d pn hz hf => by
    refine ⟨fun pins s σ H D I ⟨c, t, ec, ed, hcs, ht, hσ, h⟩ => ?_⟩
    subst ec ed
    obtain ⟨vs, hvs⟩ := hf
    have hot : Hot1 ((S.cx Y).suite a ((a, oe) :: pn)).A (a, oe) := ⟨rfl, vs, hvs, hz.2.2 vs hvs⟩
    have hroom : RoomH 1 ((S.cx Y).suite a ((a, oe) :: pn)).A := ⟨(roomH_of (ok.room.mono hlv)).dp, (roomH_of (ok.room.mono hlv)).un⟩
    exact (pss_one (ps_ret (pe_callE (X := (S.cx Y).suite a ((a, oe) :: pn)) FN rfl rfl rfl rfl rfl hroom hot List.mem_cons_self hz.zc ⟨vs, hvs⟩ hcs ht hgE hN (.inl hln) hd hcd))).run pins s σ H D I ⟨hσ, h⟩
  -- the body
  have hB : ∀ (W : WX) (pn : List (Addr × Obj)) (xe : Value → Shared → Prop), L2N.Takes ((S.cx Y).tr pn xe) W → PassesOwn (model (S.cx Y).prog (S.cx Y).w) (S.cx Y).A (S.cx Y).env xe → PSs ((S.cx Y).tr pn xe) body
      (rdS S { Y with W := fun c d H => ∀ σ, σ.length = S.N.length → W c d σ H } ρ m shJ shB) := fun W pn xe tk po =>
    hb { Y with pn := pn, xe := xe, W := fun c d H => ∀ σ, σ.length = S.N.length → W c d σ H } ⟨ok.room, po, takes_len tk, fun _ => ⟨hs, hfr⟩⟩
  refine (pss_cons (L2N.ps_try_as (X := S.cx Y) (c := .ref (S.pg.cA 100)) hs hfr hnd hN hln ⟨hgM, by decide, .inl C.g⟩ ok.takes hB hsu) hR).pre fun Dd σ H ⟨F, g, E, q⟩ => ?_
  refine ⟨F, g, E, ?_⟩
  have q := post_bind q
  unfold tryE at q
  cases e : m g.st with
  | stuck => rw [e] at q; exact q
  | ok o st' =>
    rw [e] at q
    have q : (seqO k o st').Post (PoO S.pg F g shN shB Dd) (PxO S Y F) := q
    cases o with
    | nx j => exact fun σ2 g2 H2 e l E2 => ⟨j, F, g2, E2, by rw [e]; exact q.imp (fun _ _ q => q.back l) fun _ _ q => q⟩
    | rt d => exact q
    | bk b => exact q
    | ct b => exact q
  | exc c st' =>
    rw [e] at q
    by_cases z : cs.contains c = true
    · simp only [if_pos z] at q
      have hcs : c ∈ cs := List.contains_iff_mem.mp z
      cases ht : errT c with
      | none => rw [ht] at q; exact False.elim q
      | some t =>
        rw [ht] at q
        have q : ((seqO k (.rt (.str t)) : M (Out N B)) st').Post (PoO S.pg F g shN shB Dd) (PxO S Y F) := q
        intro g' H' es s σ' hσ'
        refine ⟨true, C.m c hcs, fun _ a ha => ⟨c, t, rfl, rfl, hcs, ht, ?_, fun H2 h2 => ?_⟩, fun z => Bool.noConfusion z⟩
        · exact List.getElem?_set_self (by rw [hσ']; exact (List.getElem?_eq_some_iff.mp hN).1)
        · exact (post_pure q) (.str t) g' H2 es (s.trans E.fw (h2 g' s.wf)) (.str t)
    · simp only [if_neg z] at q
      exact False.elim q
end
end DL
set_option maxHeartbeats 1000000
namespace DL
open PySem PySem.Spec PyProof.Rows L2
/-! ### comprehensions with two clauses -/
def compMM (f : D → M (List D)) : List D → M (List D)
  | [] => pure []
  | x :: r => noexc (f x) >>= fun o => compMM f r >>= fun t => pure (o ++ t)
theorem compMM_noexc (f : D → M (List D)) : ∀ (xs : List D) (s : Store) (c : Nat) (s' : Store), compMM f xs s ≠ .exc c s'
  | [], s, c, s', h => by cases h
  | x :: r, s, c, s', h => by
    unfold compMM at h
    rw [bind_run] at h
    unfold noexc at h
    cases e : f x s with
    | exc c t => rw [e] at h; cases h
    | stuck => rw [e] at h; cases h
    | ok o t =>
      rw [e] at h
      have h : (compMM f r >>= fun t => pure (o ++ t)) t = .exc c s' := h
      rw [bind_run] at h
      cases e2 : compMM f r t with
      | exc c t2 => exact compMM_noexc f r _ _ _ e2
      | stuck => rw [e2] at h; cases h
      | ok o t2 => rw [e2] at h; cases h
/-- one item's step -/
def stepM (u : D → M (List D)) (mt : List D → M Bool) (me : List D → M D) : D → M (Option D) := fun x => u x >>= fun ds => mt ds >>= fun b => if b = true then me ds >>= fun d => pure (some d) else pure none
/-- an outer item's step -/
def stepMM (u : D → M (List D)) (mt : List D → M Bool) (mi : List D → M (List D)) (u1 : D → M (List D)) (mt1 : List D → List D → M Bool) (me : List D → List D → M D) : D → M (List D) := fun x =>
  u x >>= fun ds => mt ds >>= fun b => if b = true then mi ds >>= fun ys => compM (stepM u1 (mt1 ds) (me ds)) ys else pure []
def lc2M (mi : M (List D)) (u : D → M (List D)) (mt : List D → M Bool) (mi1 : List D → M (List D)) (u1 : D → M (List D)) (mt1 : List D → List D → M Bool) (me : List D → List D → M D) : M D :=
  mi >>= fun xs => compMM (stepMM u mt mi1 u1 mt1 me) xs >>= mkL
theorem lc2M_nodict (mi : M (List D)) (u : D → M (List D)) (mt : List D → M Bool) (mi1 : List D → M (List D)) (u1 : D → M (List D)) (mt1 : List D → List D → M Bool) (me : List D → List D → M D) : NoDict (lc2M mi u mt mi1 u1 mt1 me) := by
  unfold lc2M
  exact .bind fun xs => .bind mkL_nodict
section
variable {S : Sta} {ρ : Ev} {a b c tg it tg1 it1 e elt : Expr} {mi : M (List D)} {pos p : Pos}
/-- the place of the new list, later -/
structure AtL (p : Pg) (g1 : Gs) (H1 : Hp) (A : Addr) (g2 : Gs) (H2 : Hp) (acc : List D) : Prop where
  st : Stp p g1 H1 g2 H2
  at_ : ∃ vs, H2 A = some (.lst vs) ∧ p.Rps g2 vs acc
  fG : g2.G A = none
  fA : A ∉ g2.am
theorem AtL.step {p : Pg} {g1 g2 g3 : Gs} {H1 H2 H3 : Hp} {A : Addr} {acc : List D} (w : Wf p g1 H1) (h : AtL p g1 H1 A g2 H2 acc) (s : Stp p g2 H2 g3 H3) : AtL p g1 H1 A g3 H3 acc := by
  obtain ⟨st, ⟨vs, hD, rv⟩, hG, ha⟩ := h
  refine ⟨st.trans w s, ⟨vs, s.keep A _ hD ha, rv.mono s.gle s.aml⟩, ?_, fun h => ?_⟩
  · cases z : g3.G A with
    | none => rfl
    | some o =>
      rcases s.gnew A o z with y | y | ⟨ys, y⟩
      · rw [hG] at y; cases y
      · rw [hD] at y; cases y
      · rw [hD] at y; cases y
  · rcases s.amn A h with y | y
    · exact ha y
    · rw [hD] at y; cases y
theorem AtL.app {p : Pg} {g1 g2 : Gs} {H1 H2 : Hp} {A : Addr} {acc : List D} (hA : H1 A = none) (h : AtL p g1 H1 A g2 H2 acc) {v : V} {d : D} (r : p.Rp g2 v d) :
    ∃ vs, H2 A = some (.lst vs) ∧ vs.length = acc.length ∧ AtL p g1 H1 A g2 (upd H2 A (.lst (vs ++ [v]))) (acc ++ [d]) := by
  obtain ⟨st, ⟨vs, hD, rv⟩, hG, ha⟩ := h
  exact ⟨vs, hD, rv.length, upd_new st hA hG ha ⟨vs, hD⟩, ⟨_, upd_same, rv.append (.cons r .nil)⟩, hG, ha⟩
theorem mkL_len {ds : List D} {s : Store} {ok : D → Store → Prop} {ex : Nat → Store → Prop} (q : (mkL ds s).Post ok ex) : ds.length ≤ sizeLine := by
  unfold mkL at q
  by_cases z : ds.length ≤ sizeLine
  · exact z
  · rw [if_neg z] at q; exact False.elim q
theorem lc2_read {own : List (Str × Nat)} {u u1 : D → M (List D)} {ix ix1 : List Nat} {mt : List D → M Bool} {mi1 : List D → M (List D)} {mt1 : List D → List D → M Bool} {me : List D → List D → M D} {tt tt1 : TT} {te : TE} {tgt tgt1 : L2.TG} {wi1 : TI}
    (pu : Pure1 u) (hlen : Len1 u ix.length) (hix : ∀ i ∈ ix, i ∈ own.map (·.2)) (pu1 : Pure1 u1) (hlen1 : Len1 u1 ix1.length) {Y : Dyn} (ok : OkY S Y)
    {σ : L2.St} {H : Hp} {Q : VK} (q : rdX S Y ρ (RN S.pg) (lc2M mi u mt mi1 u1 mt1 me) σ H Q)
    (hg : ∀ v σ H Q, (∃ g d, Wf S.pg g H ∧ S.pg.Rp g v d ∧ (u d g.st).Post (fun ds st' => st' = g.st → ∀ ws, S.pg.Rps g ws ds → Q (setS σ ix ws) H) fun _ _ => False) → tgt v σ H Q)
    (hg1 : ∀ v σ H Q, (∃ g d, Wf S.pg g H ∧ S.pg.Rp g v d ∧ (u1 d g.st).Post (fun ds st' => st' = g.st → ∀ ws, S.pg.Rps g ws ds → Q (setS σ ix1 ws) H) fun _ _ => False) → tgt1 v σ H Q)
    (ht : ∀ ds σ H Q, ds.length = ix.length → (∃ F g, ER S.pg F (setE (wipeE ρ (own.map (·.2))) ix ds) σ g H ∧ (mt ds g.st).Post (fun b st' => ∀ g' H', g'.st = st' → Stp S.pg g H g' H' → Q b H') fun _ _ => False) → tt σ H Q)
    (hi1 : ∀ ds σ H R, ds.length = ix.length → (∃ F g, ER S.pg F (setE (wipeE ρ (own.map (·.2))) ix ds) σ g H ∧ (mi1 ds g.st).Post (fun ys st' => ∀ J g' H', g'.st = st' → Stp S.pg g H g' H' → Wk S.pg (TL S.pg g' H') J ys → R J H') fun _ _ => False) → wi1 σ H R)
    (ht1 : ∀ ds es σ H Q, ds.length = ix.length → es.length = ix1.length → (∃ F g, ER S.pg F (setE (wipeE (setE (wipeE ρ (own.map (·.2))) ix ds) ix1) ix1 es) σ g H ∧ (mt1 ds es g.st).Post (fun b st' => ∀ g' H', g'.st = st' → Stp S.pg g H g' H' → Q b H') fun _ _ => False) → tt1 σ H Q)
    (he : ∀ ds es σ H Q, ds.length = ix.length → es.length = ix1.length → (∃ F g, ER S.pg F (setE (wipeE (setE (wipeE ρ (own.map (·.2))) ix ds) ix1) ix1 es) σ g H ∧ (me ds es g.st).Post (Pv S.pg (RE S.pg) g H Q) fun _ _ => False) → te σ H Q) :
    tLc2 (rdI S Y ρ (TS' S.pg) mi) tgt tt wi1 tgt1 tt1 te (own.map (·.2)) ix1 σ H Q := by
  obtain ⟨F, g, E, q⟩ := q
  refine ⟨F, g, E, (post_bind q).imp (fun xs st' q J g1 H1 e1 s1 wk A hA => ?_) fun _ _ q => q⟩
  subst e1
  generalize hf : stepMM u mt mi1 u1 mt1 me = f at q
  refine ⟨fun i m H2 => i ≤ xs.length ∧ m = xs.length - i ∧ ∃ g2 acc, AtL S.pg g1 H1 A g2 H2 acc ∧ ((compMM f (xs.drop i) >>= fun r => mkL (acc ++ r)) g2.st).Post (Pv S.pg (RN S.pg) g H Q) (Px S Y g H),
    ⟨xs.length, Nat.zero_le _, rfl, g1, [], ⟨Stp.laid s1.wf hA, ⟨[], upd_same, .nil⟩, s1.wf.freeG hA, s1.wf.freeA hA⟩, q⟩, ?_⟩
  rintro i m H2 ⟨hi, rfl, g2, acc, A2, q⟩
  have sg2 := s1.trans E.wf A2.st
  by_cases hlt : i < xs.length
  · refine .inr ⟨wk.goes i g2 H2 hlt A2.st.wf A2.st, fun H' => i + 1 ≤ xs.length ∧ ∃ g2 acc, AtL S.pg g1 H1 A g2 H' acc ∧ ((compMM f (xs.drop (i + 1)) >>= fun r => mkL (acc ++ r)) g2.st).Post (Pv S.pg (RN S.pg) g H Q) (Px S Y g H),
      fun H' h => ⟨xs.length - (i + 1), by omega, h.1, rfl, h.2⟩, fun x H' hy => ?_⟩
    obtain ⟨g3, d, e3, s3, hd, rx⟩ := wk.yields i g2 H2 x H' hlt A2.st.wf A2.st hy
    have A3 := A2.step s1.wf s3
    have ed : xs.drop i = d :: xs.drop (i + 1) := by
      rw [List.drop_eq_getElem_cons hlt]
      rw [List.getElem?_eq_getElem hlt] at hd
      cases hd; rfl
    rw [ed, compMM, bind_assoc'] at q
    have q := noexc_post q
    have hfd : f d = (u d >>= fun ds => mt ds >>= fun b => if b = true then mi1 ds >>= fun ys => compM (stepM u1 (mt1 ds) (me ds)) ys else pure []) := by rw [← hf]; rfl
    rw [← e3, hfd] at q
    refine hg x _ H' _ ⟨g3, d, s3.wf, rx, ?_⟩
    have q := post_bind q
    cases eu : u d g3.st with
    | stuck => rw [eu] at q; exact q
    | exc c s => rw [eu] at q; exact q
    | ok ds st4 =>
      rw [eu] at q
      intro es ws rws
      subst es
      have hl := hlen _ _ _ _ eu
      refine ⟨wipe_setS σ _ _ ws hix, ?_⟩
      have sg3 := s1.trans E.wf A3.st
      have E4 : ER S.pg F (setE (wipeE ρ (own.map (·.2))) ix ds) (setS (L2.wipe σ (own.map (·.2))) ix ws) g3 H' := ((E.step sg3).wipe (own.map (·.2))).setMany ix rws
      refine ht ds _ _ _ hl ⟨F, g3, E4, (post_bind q).imp (fun b st5 q g5 H5 e5 s5 => ?_) fun _ _ q => q⟩
      subst e5
      have A5 := A3.step s1.wf s5
      by_cases hb : b = true
      · rw [if_pos hb]
        rw [if_pos hb] at q
        refine hi1 ds _ _ _ hl ⟨F, g5, E4.step s5, (post_bind q).imp (fun ys st6 q J1 g6 H6 e6 s6 wk1 => ?_) fun _ _ q => q⟩
        subst e6
        have A6 := A5.step s1.wf s6
        -- the inner loop
        have q : ((compM (stepM u1 (mt1 ds) (me ds)) ys >>= fun o => compMM f (xs.drop (i + 1)) >>= fun t => mkL (acc ++ (o ++ t))) g6.st).Post (Pv S.pg (RN S.pg) g H Q) (Px S Y g H) := by
          rw [bind_run]
          cases ec : compM (stepM u1 (mt1 ds) (me ds)) ys g6.st with
          | stuck => rw [ec] at q; exact q
          | exc c s => rw [ec] at q; exact q.elim
          | ok o s =>
            rw [ec] at q
            have q : (((compMM f (xs.drop (i + 1)) >>= fun t => pure (o ++ t)) >>= fun r => mkL (acc ++ r)) s).Post (Pv S.pg (RN S.pg) g H Q) (Px S Y g H) := q
            rw [bind_assoc'] at q
            exact q
        refine ⟨fun j k H7 => j ≤ ys.length ∧ k = ys.length - j ∧ ∃ g7 acc, AtL S.pg g1 H1 A g7 H7 acc ∧ Ltr S.pg g6 g7 ∧ ((compM (stepM u1 (mt1 ds) (me ds)) (ys.drop j) >>= fun o => compMM f (xs.drop (i + 1)) >>= fun t => mkL (acc ++ (o ++ t))) g7.st).Post (Pv S.pg (RN S.pg) g H Q) (Px S Y g H),
          ⟨ys.length, Nat.zero_le _, rfl, g6, acc, A6, .refl g6, q⟩, ?_⟩
        rintro j k H7 ⟨hj, rfl, g7, acc, A7, l7, q⟩
        by_cases hlt1 : j < ys.length
        · refine .inr ⟨wk1.goes j g7 H7 hlt1 A7.st.wf l7, fun H' => j + 1 ≤ ys.length ∧ ∃ g7 acc, AtL S.pg g1 H1 A g7 H' acc ∧ Ltr S.pg g6 g7 ∧ ((compM (stepM u1 (mt1 ds) (me ds)) (ys.drop (j + 1)) >>= fun o => compMM f (xs.drop (i + 1)) >>= fun t => mkL (acc ++ (o ++ t))) g7.st).Post (Pv S.pg (RN S.pg) g H Q) (Px S Y g H),
            fun H' h => ⟨ys.length - (j + 1), by omega, h.1, rfl, h.2⟩, fun x1 H8 hy1 => ?_⟩
          obtain ⟨g8, d1, e8, s8, hd1, rx1⟩ := wk1.yields j g7 H7 x1 H8 hlt1 A7.st.wf l7 hy1
          have A8 := A7.step s1.wf s8
          have l8 := l7.trans s8.ltr
          have ed1 : ys.drop j = d1 :: ys.drop (j + 1) := by
            rw [List.drop_eq_getElem_cons hlt1]
            rw [List.getElem?_eq_getElem hlt1] at hd1
            cases hd1; rfl
          rw [ed1, compM, bind_assoc'] at q
          have q := noexc_post q
          have hsd : stepM u1 (mt1 ds) (me ds) d1 = (u1 d1 >>= fun es => mt1 ds es >>= fun b => if b = true then me ds es >>= fun d => pure (some d) else pure none) := rfl
          rw [← e8, hsd] at q
          refine hg1 x1 _ H8 _ ⟨g8, d1, s8.wf, rx1, ?_⟩
          have q := post_bind q
          cases eu1 : u1 d1 g8.st with
          | stuck => rw [eu1] at q; exact q
          | exc c s => rw [eu1] at q; exact q
          | ok es1 st9 =>
            rw [eu1] at q
            intro e9 ws1 rws1
            subst e9
            have hl1 := hlen1 _ _ _ _ eu1
            refine ⟨wipe_setS _ _ _ ws1 (fun i h => h), ?_⟩
            have sg8 := s1.trans E.wf A8.st
            have l38 : Ltr S.pg g3 g8 := (s5.ltr.trans s6.ltr).trans l8
            have E9 : ER S.pg F (setE (wipeE (setE (wipeE ρ (own.map (·.2))) ix ds) ix1) ix1 es1) (setS (L2.wipe (setS (L2.wipe σ (own.map (·.2))) ix ws) ix1) ix1 ws1) g8 H8 :=
              ((((E.step sg8).wipe (own.map (·.2))).setMany ix (rws.mono l38.gle l38.aml)).wipe ix1).setMany ix1 rws1
            refine ht1 ds es1 _ _ _ hl hl1 ⟨F, g8, E9, (post_bind q).imp (fun b1 st10 q g10 H10 e10 s10 => ?_) fun _ _ q => q⟩
            subst e10
            have A10 := A8.step s1.wf s10
            by_cases hb1 : b1 = true
            · rw [if_pos hb1]
              rw [if_pos hb1] at q
              refine he ds es1 _ _ _ hl hl1 ⟨F, g10, E9.step s10, (post_bind q).imp (fun y st11 q v11 g11 H11 e11 s11 r11 => ?_) fun _ _ q => q⟩
              subst e11
              have A11 := A10.step s1.wf s11
              have q := post_pure q
              obtain ⟨vs, hvs, hvl, A12⟩ := A11.app hA r11
              have q : ((compM (stepM u1 (mt1 ds) (me ds)) (ys.drop (j + 1)) >>= fun o => compMM f (xs.drop (i + 1)) >>= fun t => mkL (acc ++ (y :: o ++ t))) g11.st).Post (Pv S.pg (RN S.pg) g H Q) (Px S Y g H) := by
                rw [bind_assoc'] at q
                exact q
              refine ⟨vs, hvs, ?_, hlt1, g11, acc ++ [y], A12, (l8.trans s10.ltr).trans s11.ltr, ?_⟩
              · rw [hvl]
                rw [bind_run] at q
                cases er : compM (stepM u1 (mt1 ds) (me ds)) (ys.drop (j + 1)) g11.st with
                | stuck => rw [er] at q; exact q.elim
                | exc c s => exact (compM_noexc _ _ _ _ _ er).elim
                | ok t s =>
                  rw [er] at q
                  have q : ((compMM f (xs.drop (i + 1)) >>= fun t_1 => mkL (acc ++ (y :: t ++ t_1))) s).Post _ _ := q
                  rw [bind_run] at q
                  cases er2 : compMM f (xs.drop (i + 1)) s with
                  | stuck => rw [er2] at q; exact q.elim
                  | exc c s => exact (compMM_noexc _ _ _ _ _ er2).elim
                  | ok t2 s2 =>
                    rw [er2] at q
                    have z := mkL_len q
                    rw [List.length_append, List.cons_append, List.length_cons] at z
                    omega
              · have fe : (fun o : List D => compMM f (xs.drop (i + 1)) >>= fun t => mkL (acc ++ (y :: o ++ t))) = fun o => compMM f (xs.drop (i + 1)) >>= fun t => mkL (acc ++ [y] ++ (o ++ t)) := by
                  funext o
                  congr 1
                  funext t
                  rw [List.append_assoc]
                  rfl
                rw [fe] at q
                exact q
            · rw [if_neg hb1]
              rw [if_neg hb1] at q
              have q := post_pure q
              rw [bind_assoc'] at q
              exact ⟨hlt1, g10, acc, A10, l8.trans s10.ltr, q⟩
        · have ej : j = ys.length := by omega
          subst ej
          rw [List.drop_length, compM] at q
          exact .inl ⟨wk1.stops g7 H7 A7.st.wf l7, hlt, g7, acc, A7, q⟩
      · rw [if_neg hb]
        rw [if_neg hb] at q
        have q := post_pure q
        rw [bind_assoc'] at q
        exact ⟨hlt, g5, acc, A5, q⟩
  · have ei : i = xs.length := by omega
    subst ei
    rw [List.drop_length, compMM] at q
    have q : (mkL (acc ++ []) g2.st).Post (Pv S.pg (RN S.pg) g H Q) (Px S Y g H) := q
    rw [List.append_nil] at q
    unfold mkL at q
    by_cases z : acc.length ≤ sizeLine
    · rw [if_pos z] at q
      obtain ⟨vs, hD, rv⟩ := A2.at_
      exact .inl ⟨wk.stops g2 H2 A2.st.wf A2.st, (post_pure q) (.ref A) g2 H2 rfl sg2 ⟨A, rfl, ⟨vs, hD, rv⟩, A2.fG, A2.fA, s1.none_of E.wf hA⟩⟩
    · rw [if_neg z] at q
      exact False.elim q
theorem comp2 {ifs ifs1 : List Expr} {scope : Scope} {own : List (Str × Nat)} {u u1 : D → M (List D)} {ix ix1 : List Nat} {mt : List D → M Bool} {mi1 : List D → M (List D)} {mt1 : List D → List D → M Bool} {me : List D → List D → M D}
    (hN : S.N.Nodup) (hok : BlkOk S.N S.sc scope own) (hi : EI S ρ (TS' S.pg) tg it mi) (hg : TG (S.blk scope) tg u ix) (pu : Pure1 u) (hlen : Len1 u ix.length) (hix : ∀ i ∈ ix, i ∈ own.map (·.2))
    (ht : ∀ ds, ds.length = ix.length → ETs (S.blk scope) (setE (wipeE ρ (own.map (·.2))) ix ds) ifs (mt ds))
    (hi1 : ∀ ds, ds.length = ix.length → EI (S.blk scope) (setE (wipeE ρ (own.map (·.2))) ix ds) (TL S.pg) tg1 it1 (mi1 ds)) (hg1 : TG (S.blk scope) tg1 u1 ix1) (pu1 : Pure1 u1) (hlen1 : Len1 u1 ix1.length) (hix1 : ∀ i ∈ ix1, i ∈ own.map (·.2))
    (ht1 : ∀ ds, ds.length = ix.length → ∀ es, es.length = ix1.length → ETs (S.blk scope) (setE (wipeE (setE (wipeE ρ (own.map (·.2))) ix ds) ix1) ix1 es) ifs1 (mt1 ds es))
    (he : ∀ ds, ds.length = ix.length → ∀ es, es.length = ix1.length → EE (S.blk scope) (setE (wipeE (setE (wipeE ρ (own.map (·.2))) ix ds) ix1) ix1 es) elt (me ds es))
    (hs : ∀ (env : Env) (x : Value), foldedSetIterable it env x = pure x) (hs1 : ∀ (env : Env) (x : Value), foldedSetIterable it1 env x = pure x) :
    CompE S ρ (.ListComp elt [⟨tg, it, ifs, 0⟩, ⟨tg1, it1, ifs1, 0⟩] scope pos) (lc2M mi u mt mi1 u1 mt1 me) := by
  have hT : ∀ Y, OkY S Y → ∀ (s : Shared) (H : Hp) (C : Addr) (cl : List (Str × Addr)) (fp : List Addr), PTs ((S.cx Y).blk s H scope (compEnvC scope cl C (S.cx Y).env) fp) ifs
      (fun σ H Q => ∃ ds, ds.length = ix.length ∧ ∃ F g, ER S.pg F (setE (wipeE ρ (own.map (·.2))) ix ds) σ g H ∧ (mt ds g.st).Post (fun b st' => ∀ g' H', g'.st = st' → Stp S.pg g H g' H' → Q b H') fun _ _ => False) := fun Y ok s H C cl fp =>
    ⟨fun pins s2 σ H2 Q I ⟨ds, hl, F, g, E, q⟩ => (ht ds hl (Y.blk S s H scope C cl fp) (blk_ok ok)).run pins s2 σ H2 Q I ⟨F, g, E, q.imp (fun _ _ q => q) fun _ _ q => q.elim⟩⟩
  have hI1 : ∀ Y, OkY S Y → ∀ (s : Shared) (H : Hp) (C : Addr) (cl : List (Str × Addr)) (fp : List Addr), PI ((S.cx Y).blk s H scope (compEnvC scope cl C (S.cx Y).env) fp) tg1 it1
      (fun σ H R => ∃ ds, ds.length = ix.length ∧ ∃ F g, ER S.pg F (setE (wipeE ρ (own.map (·.2))) ix ds) σ g H ∧ (mi1 ds g.st).Post (fun ys st' => ∀ J g' H', g'.st = st' → Stp S.pg g H g' H' → Wk S.pg (TL S.pg g' H') J ys → R J H') fun _ _ => False) := fun Y ok s H C cl fp =>
    ⟨fun pins s2 σ H2 R I ⟨ds, hl, F, g, E, q⟩ => (hi1 ds hl (Y.blk S s H scope C cl fp) (blk_ok ok)).run pins s2 σ H2 R I ⟨F, g, E, q.imp (fun _ _ q => q) fun _ _ q => q.elim⟩⟩
  have hT1 : ∀ Y, OkY S Y → ∀ (s : Shared) (H : Hp) (C : Addr) (cl : List (Str × Addr)) (fp : List Addr), PTs ((S.cx Y).blk s H scope (compEnvC scope cl C (S.cx Y).env) fp) ifs1
      (fun σ H Q => ∃ ds es, ds.length = ix.length ∧ es.length = ix1.length ∧ ∃ F g, ER S.pg F (setE (wipeE (setE (wipeE ρ (own.map (·.2))) ix ds) ix1) ix1 es) σ g H ∧ (mt1 ds es g.st).Post (fun b st' => ∀ g' H', g'.st = st' → Stp S.pg g H g' H' → Q b H') fun _ _ => False) := fun Y ok s H C cl fp =>
    ⟨fun pins s2 σ H2 Q I ⟨ds, es, hl, hl1, F, g, E, q⟩ => (ht1 ds hl es hl1 (Y.blk S s H scope C cl fp) (blk_ok ok)).run pins s2 σ H2 Q I ⟨F, g, E, q.imp (fun _ _ q => q) fun _ _ q => q.elim⟩⟩
  have hE : ∀ Y, OkY S Y → ∀ (s : Shared) (H : Hp) (C : Addr) (cl : List (Str × Addr)) (fp : List Addr), PE ((S.cx Y).blk s H scope (compEnvC scope cl C (S.cx Y).env) fp) elt
      (fun σ H Q => ∃ ds es, ds.length = ix.length ∧ es.length = ix1.length ∧ ∃ F g, ER S.pg F (setE (wipeE (setE (wipeE ρ (own.map (·.2))) ix ds) ix1) ix1 es) σ g H ∧ (me ds es g.st).Post (Pv S.pg (RE S.pg) g H Q) fun _ _ => False) := fun Y ok s H C cl fp =>
    ⟨fun pins s2 σ H2 Q I ⟨ds, es, hl, hl1, F, g, E, q⟩ => (he ds hl es hl1 (Y.blk S s H scope C cl fp) (blk_ok ok)).run pins s2 σ H2 Q I ⟨F, g, E, q.imp (fun _ _ q => q) fun _ _ q => q.elim⟩⟩
  refine ⟨fun Y => tLc2 (rdI S Y ρ (TS' S.pg) mi) _ _ _ _ _ _ (own.map (·.2)) ix1, fun Y ok => pe_lc2 (X := S.cx Y) rfl hN (hi Y ok) hok hix1 (fun s H C cl fp => hg (Y.blk S s H scope C cl fp) (blk_ok ok)) (hT Y ok) (hI1 Y ok) (fun s H C cl fp => hg1 (Y.blk S s H scope C cl fp) (blk_ok ok)) (hT1 Y ok) (hE Y ok) (hs _) hs1, fun Y ok σ H Q q => ?_, fun Y ok i y py spos hy hyl hsw => ?_⟩
  · exact lc2_read pu hlen hix pu1 hlen1 ok q (fun v σ H Q h => h) (fun v σ H Q h => h) (fun ds σ H Q hl h => ⟨ds, hl, h⟩) (fun ds σ H R hl h => ⟨ds, hl, h⟩) (fun ds es σ H Q hl hl1 h => ⟨ds, es, hl, hl1, h⟩) fun ds es σ H Q hl hl1 h => ⟨ds, es, hl, hl1, h⟩
  · exact ps_setLc2 (X := S.cx Y) rfl hN hy hyl (hsw _ rfl) (hi Y ok) hok hix1 (fun s H C cl fp => hg (Y.blk S s H scope C cl fp) (blk_ok ok)) (hT Y ok) (hI1 Y ok) (fun s H C cl fp => hg1 (Y.blk S s H scope C cl fp) (blk_ok ok)) (hT1 Y ok) (hE Y ok) (hs _) hs1
theorem c_lc2 {ifs ifs1 : List Expr} {scope : Scope} {u u1 : D → M (List D)} {ix ix1 : List Nat} {mt : List D → M Bool} {mi1 : List D → M (List D)} {mt1 : List D → List D → M Bool} {me : List D → List D → M D}
    (hN : S.N.Nodup) (own' : List (Str × Nat)) (hi : EI S ρ (TS' S.pg) tg it mi) (hg : TG (S.blk scope) tg u ix) (pu : Pure1 u) (hlen : Len1 u ix.length)
    (ht : ∀ ds, ds.length = ix.length → ETs (S.blk scope) (setE (wipeE ρ (own'.map (·.2))) ix ds) ifs (mt ds))
    (hi1 : ∀ ds, ds.length = ix.length → EI (S.blk scope) (setE (wipeE ρ (own'.map (·.2))) ix ds) (TL S.pg) tg1 it1 (mi1 ds)) (hg1 : TG (S.blk scope) tg1 u1 ix1) (pu1 : Pure1 u1) (hlen1 : Len1 u1 ix1.length)
    (ht1 : ∀ ds, ds.length = ix.length → ∀ es, es.length = ix1.length → ETs (S.blk scope) (setE (wipeE (setE (wipeE ρ (own'.map (·.2))) ix ds) ix1) ix1 es) ifs1 (mt1 ds es))
    (he : ∀ ds, ds.length = ix.length → ∀ es, es.length = ix1.length → EE (S.blk scope) (setE (wipeE (setE (wipeE ρ (own'.map (·.2))) ix ds) ix1) ix1 es) elt (me ds es))
    (hok : blkC S.N S.sc scope own' = true := by kernel_rfl) (hix : ∀ i ∈ ix, i ∈ own'.map (·.2) := by decide) (hix1 : ∀ i ∈ ix1, i ∈ own'.map (·.2) := by decide)
    (hs : ∀ (env : Env) (x : Value), foldedSetIterable it env x = pure x := by exact fun _ _ => rfl) (hs1 : ∀ (env : Env) (x : Value), foldedSetIterable it1 env x = pure x := by exact fun _ _ => rfl) :
    CompE S ρ (.ListComp elt [⟨tg, it, ifs, 0⟩, ⟨tg1, it1, ifs1, 0⟩] scope pos) (lc2M mi u mt mi1 u1 mt1 me) := comp2 hN (blkOk_by hok) hi hg pu hlen hix ht hi1 hg1 pu1 hlen1 hix1 ht1 he hs hs1
end
end DL
set_option maxHeartbeats 1000000
namespace DL
open PySem PySem.Spec PyProof.Rows L2
/-! ### dicts -/
section
variable {κ : Type} [DecidableEq κ]
def getE (es : List (κ × D)) (k : κ) : Option D := (es.find? fun e => decide (e.1 = k)).map (·.2)
def putE (es : List (κ × D)) (k : κ) (d : D) : List (κ × D) :=
  if (es.any fun e => decide (e.1 = k)) = true then es.map (fun e => if e.1 = k then (e.1, d) else e) else es ++ [(k, d)]
end
def keyD : D → Option Key
  | .int i => some (.inl i)
  | .str x => some (.inr x)
  | _ => none
def keysD : List D → Option (List Key)
  | [] => some []
  | d :: r => match keyD d, keysD r with
    | some k, some ks => some (k :: ks)
    | _, _ => none
section
variable {p : Pg} {g : Gs} {H : Hp}
theorem RpK.get (k : Key) : ∀ {kvs : List (Key × V)} {es : List (Key × D)}, RpK p.K g.G g.am kvs es → (∀ d, getE es k = some d → ∃ v, valV kvs k = some v ∧ p.Rp g v d) ∧ (getE es k = none → valV kvs k = none)
  | _, _, .nil => by
    constructor
    · intro d h; cases h
    · intro _; rfl
  | (k', v) :: kvs, (_, d) :: es, .cons r t => by
    obtain ⟨h1, h2⟩ := RpK.get k t
    by_cases z : k' = k
    · have e1 : getE ((k', d) :: es) k = some d := by simp [getE, List.find?_cons, z]
      have e2 : valV ((k', v) :: kvs) k = some v := by simp [valV, List.find?_cons, z]
      rw [e1, e2]
      exact ⟨fun d' h => by cases h; exact ⟨v, rfl, r⟩, fun h => by cases h⟩
    · have e1 : getE ((k', d) :: es) k = getE es k := by simp [getE, List.find?_cons, z]
      have e2 : valV ((k', v) :: kvs) k = valV kvs k := by simp [valV, List.find?_cons, z]
      rw [e1, e2]
      exact ⟨h1, h2⟩
theorem RpT.get (k : List Key) : ∀ {kvs : List (List Key × V)} {es : List (List Key × D)}, RpT p.K g.G g.am kvs es → (∀ d, getE es k = some d → ∃ v, valV kvs k = some v ∧ p.Rp g v d) ∧ (getE es k = none → valV kvs k = none)
  | _, _, .nil => by
    constructor
    · intro d h; cases h
    · intro _; rfl
  | (k', v) :: kvs, (_, d) :: es, .cons r t => by
    obtain ⟨h1, h2⟩ := RpT.get k t
    by_cases z : k' = k
    · have e1 : getE ((k', d) :: es) k = some d := by simp [getE, List.find?_cons, z]
      have e2 : valV ((k', v) :: kvs) k = some v := by simp [valV, List.find?_cons, z]
      rw [e1, e2]
      exact ⟨fun d' h => by cases h; exact ⟨v, rfl, r⟩, fun h => by cases h⟩
    · have e1 : getE ((k', d) :: es) k = getE es k := by simp [getE, List.find?_cons, z]
      have e2 : valV ((k', v) :: kvs) k = valV kvs k := by simp [valV, List.find?_cons, z]
      rw [e1, e2]
      exact ⟨h1, h2⟩
theorem RpK.keys : ∀ {kvs : List (Key × V)} {es : List (Key × D)}, RpK p.K g.G g.am kvs es → kvs.map (·.1) = es.map (·.1)
  | _, _, .nil => rfl
  | _, _, .cons r t => by rw [List.map_cons, List.map_cons, RpK.keys t]
theorem RpT.keys : ∀ {kvs : List (List Key × V)} {es : List (List Key × D)}, RpT p.K g.G g.am kvs es → kvs.map (·.1) = es.map (·.1)
  | _, _, .nil => rfl
  | _, _, .cons r t => by rw [List.map_cons, List.map_cons, RpT.keys t]
theorem any_keys {κ α : Type} [DecidableEq κ] (k : κ) (l : List (κ × α)) : (l.any fun e => decide (e.1 = k)) = (l.map (·.1)).any fun x => decide (x = k) := by
  rw [List.any_map]; rfl
theorem RpK.map {k : Key} {v : V} {d : D} (r : p.Rp g v d) : ∀ {kvs : List (Key × V)} {es : List (Key × D)}, RpK p.K g.G g.am kvs es → RpK p.K g.G g.am (kvs.map fun kv => if kv.1 = k then (kv.1, v) else kv) (es.map fun e => if e.1 = k then (e.1, d) else e)
  | _, _, .nil => .nil
  | (k', u) :: kvs, (_, e) :: es, .cons q t => by
    rw [List.map_cons, List.map_cons]
    by_cases z : k' = k
    · simp only [z, if_true]
      exact .cons r (RpK.map r t)
    · simp only [if_neg z]
      exact .cons q (RpK.map r t)
theorem RpT.map {k : List Key} {v : V} {d : D} (r : p.Rp g v d) : ∀ {kvs : List (List Key × V)} {es : List (List Key × D)}, RpT p.K g.G g.am kvs es → RpT p.K g.G g.am (kvs.map fun kv => if kv.1 = k then (kv.1, v) else kv) (es.map fun e => if e.1 = k then (e.1, d) else e)
  | _, _, .nil => .nil
  | (k', u) :: kvs, (_, e) :: es, .cons q t => by
    rw [List.map_cons, List.map_cons]
    by_cases z : k' = k
    · simp only [z, if_true]
      exact .cons r (RpT.map r t)
    · simp only [if_neg z]
      exact .cons q (RpT.map r t)
theorem RpK.snoc {k : Key} {v : V} {d : D} (r : p.Rp g v d) : ∀ {kvs : List (Key × V)} {es : List (Key × D)}, RpK p.K g.G g.am kvs es → RpK p.K g.G g.am (kvs ++ [(k, v)]) (es ++ [(k, d)])
  | _, _, .nil => .cons r .nil
  | _, _, .cons q t => .cons q (RpK.snoc r t)
theorem RpT.snoc {k : List Key} {v : V} {d : D} (r : p.Rp g v d) : ∀ {kvs : List (List Key × V)} {es : List (List Key × D)}, RpT p.K g.G g.am kvs es → RpT p.K g.G g.am (kvs ++ [(k, v)]) (es ++ [(k, d)])
  | _, _, .nil => .cons r .nil
  | _, _, .cons q t => .cons q (RpT.snoc r t)
theorem RpK.put {k : Key} {v : V} {d : D} {kvs : List (Key × V)} {es : List (Key × D)} (h : RpK p.K g.G g.am kvs es) (r : p.Rp g v d) : RpK p.K g.G g.am (putK kvs k v) (putE es k d) := by
  unfold putK putE
  rw [any_keys k kvs, any_keys k es, h.keys]
  by_cases z : ((es.map (·.1)).any fun x => decide (x = k)) = true
  · rw [if_pos z, if_pos z]
    exact RpK.map r h
  · rw [if_neg z, if_neg z]
    exact RpK.snoc r h
theorem RpT.put {k : List Key} {v : V} {d : D} {kvs : List (List Key × V)} {es : List (List Key × D)} (h : RpT p.K g.G g.am kvs es) (r : p.Rp g v d) : RpT p.K g.G g.am (putK kvs k v) (putE es k d) := by
  unfold putK putE
  rw [any_keys k kvs, any_keys k es, h.keys]
  by_cases z : ((es.map (·.1)).any fun x => decide (x = k)) = true
  · rw [if_pos z, if_pos z]
    exact RpT.map r h
  · rw [if_neg z, if_neg z]
    exact RpT.snoc r h
theorem RpK.length {kvs : List (Key × V)} {es : List (Key × D)} (h : RpK p.K g.G g.am kvs es) : kvs.length = es.length := by
  have := congrArg List.length h.keys
  rwa [List.length_map, List.length_map] at this
theorem RpT.length {kvs : List (List Key × V)} {es : List (List Key × D)} (h : RpT p.K g.G g.am kvs es) : kvs.length = es.length := by
  have := congrArg List.length h.keys
  rwa [List.length_map, List.length_map] at this
/-! keys -/
theorem TopR.key {v : V} {x : D} {k : Key} (h : TopR p g H v x) (e : keyD x = some k) : v = kV k := by
  cases x with
  | int i => cases e; exact h.int
  | str s => cases e; exact h.str
  | _ => cases e
theorem Rp.key {v : V} {x : D} {k : Key} (h : p.Rp g v x) (e : keyD x = some k) : v = kV k := TopR.key (H := fun _ => none) (.inl h) e
theorem Rps.keys : ∀ {vs : List V} {ds : List D} {ks : List Key}, p.Rps g vs ds → keysD ds = some ks → vs = ks.map kV
  | _, [], ks, .nil, e => by cases e; rfl
  | _, d :: ds, ks, .cons r t, e => by
    unfold keysD at e
    cases e1 : keyD d with
    | none => rw [e1] at e; cases e
    | some k =>
      cases e2 : keysD ds with
      | none => rw [e1, e2] at e; cases e
      | some ks' =>
        rw [e1, e2] at e
        cases e
        rw [List.map_cons, Rps.keys t e2, Rp.key r e1]
theorem TopR.dct {v : V} {es : List (Key × D)} (w : Wf p g H) (h : TopR p g H v (.dct es)) : ∃ a kvs, v = .ref a ∧ Rd H a (.dK kvs) ∧ RpK p.K g.G g.am kvs es := by
  rcases h with h | ⟨a, rfl, _, kvs, e, r⟩
  · cases h with
    | dK s r => exact ⟨_, _, rfl, .inr ⟨_, w.sub _ _ s⟩, r⟩
  · exact ⟨a, kvs, rfl, .inl e, r⟩
theorem TopR.dcT {v : V} {es : List (List Key × D)} (w : Wf p g H) (h : TopR p g H v (.dcT es)) : ∃ a kvs, v = .ref a ∧ Rd H a (.dT kvs) ∧ RpT p.K g.G g.am kvs es := by
  rcases h with h | ⟨a, rfl, _, kvs, e, r⟩
  · cases h with
    | dT s r => exact ⟨_, _, rfl, .inr ⟨_, w.sub _ _ s⟩, r⟩
  · exact ⟨a, kvs, rfl, .inl e, r⟩
end
/-- what a dict holds at a key; none: no dict, or no key of its kind -/
def lookD : D → D → Option (Option D)
  | .dct es, k => (keyD k).map (getE es)
  | .dcT es, .tup ks => (keysD ks).map (getE es)
  | _, _ => none
/-- a cell's container -/
def conD : D → M D
  | .ref k => getC k >>= fun c => match c with
    | .lst ds => pure (.lst ds)
    | .dct es => pure (.dct es)
    | .dcT es => pure (.dcT es)
    | _ => stuck
  | d => pure d
theorem conD_post {p : Pg} {g : Gs} {H : Hp} {v : V} {d : D} {ok : D → Store → Prop} {ex : Nat → Store → Prop} (w : Wf p g H) (h : TopR p g H v d) (q : (conD d g.st).Post ok ex) :
    (∃ c, ok c g.st ∧ (TopR p g H v c ∨ ∃ a, v = .ref a ∧ Own p g H a c)) := by
  cases d with
  | ref k =>
    obtain ⟨a, rfl, e⟩ := h.ref
    obtain ⟨c, e2, r⟩ := w.at_ref e
    have q : ((getC k >>= fun c => match c with
      | .lst ds => pure (.lst ds)
      | .dct es => pure (.dct es)
      | .dcT es => pure (.dcT es)
      | _ => stuck) g.st).Post ok ex := q
    rw [bind_run] at q
    unfold getC at q
    rw [e2] at q
    cases c with
    | lst ds => exact ⟨.lst ds, q, .inr ⟨a, rfl, r⟩⟩
    | dct es => exact ⟨.dct es, q, .inr ⟨a, rfl, r⟩⟩
    | dcT es => exact ⟨.dcT es, q, .inr ⟨a, rfl, r⟩⟩
    | ins _ _ => exact False.elim q
  | _ => exact ⟨_, q, .inl h⟩
/-- .. it is read -/
theorem look_ok {p : Pg} {g : Gs} {H : Hp} {v vk : V} {c k : D} {o : Option D} (w : Wf p g H) (h : TopR p g H v c ∨ ∃ a, v = .ref a ∧ Own p g H a c) (hk : TopR p g H vk k) (e : lookD c k = some o) :
    ∃ a ov, v = .ref a ∧ IsD H a ∧ DGet H a vk ov ∧ (∀ d, o = some d → ∃ u, ov = some u ∧ p.Rp g u d) ∧ (o = none → ov = none) := by
  cases c with
  | dct es =>
    have e : (keyD k).map (getE es) = some o := by cases k <;> exact e
    obtain ⟨κ, ek, eo⟩ := Option.map_eq_some_iff.mp e
    obtain ⟨a, kvs, rfl, rd, r⟩ : ∃ a kvs, v = .ref a ∧ Rd H a (.dK kvs) ∧ RpK p.K g.G g.am kvs es := by
      rcases h with h | ⟨a, rfl, kvs, e, r⟩
      · exact h.dct w
      · exact ⟨a, kvs, rfl, .inl e, r⟩
    obtain ⟨h1, h2⟩ := r.get κ
    rw [hk.key ek]
    exact ⟨a, valV kvs κ, rfl, .inl ⟨kvs, rd⟩, .inl ⟨kvs, κ, rd, rfl, rfl⟩, fun d ed => h1 d (eo.trans ed), fun ed => h2 (eo.trans ed)⟩
  | dcT es =>
    cases k with
    | tup ks =>
      have e : (keysD ks).map (getE es) = some o := e
      obtain ⟨κ, ek, eo⟩ := Option.map_eq_some_iff.mp e
      obtain ⟨a, kvs, rfl, rd, r⟩ : ∃ a kvs, v = .ref a ∧ Rd H a (.dT kvs) ∧ RpT p.K g.G g.am kvs es := by
        rcases h with h | ⟨a, rfl, kvs, e, r⟩
        · exact h.dcT w
        · exact ⟨a, kvs, rfl, .inl e, r⟩
      obtain ⟨h1, h2⟩ := r.get κ
      obtain ⟨b, xs, rfl, eb, rx⟩ := hk.tupH w
      have ex := Rps.keys rx ek
      subst ex
      exact ⟨a, valV kvs κ, rfl, .inr ⟨kvs, rd⟩, .inr ⟨kvs, κ, b, rd, rfl, eb, rfl⟩, fun d ed => h1 d (eo.trans ed), fun ed => h2 (eo.trans ed)⟩
    | _ => cases e
  | _ => cases e
def dgetM (d k : D) : M D := conD d >>= fun c => match lookD c k with
  | some (some x) => pure x
  | _ => stuck
def dinM (neg : Bool) (k d : D) : M Bool := conD d >>= fun c => match lookD c k with
  | some o => pure (if neg then !o.isSome else o.isSome)
  | none => stuck
def dget2M (d k x : D) : M D := conD d >>= fun c => match lookD c k with
  | some o => pure (o.getD x)
  | none => stuck
section
variable {S : Sta} {ρ : Ev} {a b c e o : Expr} {ma mb mc m mo : M D} {pos p apos cpos spos : Pos} {R : Rel}
theorem hu1 {Y : Dyn} (ok : OkY S Y) : (S.cx Y).A.units + 1 < cLine := hu_of ok.room
theorem op_dget {p : Pg} : Op2 p (fun x y H Q => ∃ a v, x = .ref a ∧ DGet H a y (some v) ∧ Q v H) dgetM (RE p) := by
  intro g H x y vx vy Q E w hx hy q
  obtain ⟨c, q, h⟩ := conD_post w hx (post_bind q)
  cases e : lookD c y with
  | none => rw [e] at q; exact False.elim q
  | some o =>
    cases o with
    | none => rw [e] at q; exact False.elim q
    | some d =>
      rw [e] at q
      obtain ⟨a, ov, rfl, _, dg, h1, _⟩ := look_ok w h hy e
      obtain ⟨u, rfl, r⟩ := h1 d rfl
      exact ⟨a, u, rfl, dg, Pv.now w (post_pure q) r⟩
theorem ee_dget (ha : EL S ρ a ma) (hb : EL S ρ b mb) (hs : NoSl b := by exact fun _ _ => rfl) : EE S ρ (.Subscript a b pos) (ma >>= fun x => mb >>= fun y => dgetM x y) :=
  ex_bin back_RE ha hb (fun Y ok ta tb h1 h2 => pe_dget (hu1 ok) h1 h2 hs) op_dget
def rDin (neg : Bool) : R2 := fun y x H Q => ∃ a o, x = .ref a ∧ DGet H a y o ∧ Q (.bl (if neg then !o.isSome else o.isSome)) H
theorem op_din {p : Pg} (neg : Bool) : Op2B p (rDin neg) (dinM neg) := by
  intro g H y x vy vx Q E w hy hx q
  obtain ⟨c, q, h⟩ := conD_post w hx (post_bind q)
  cases e : lookD c y with
  | none => rw [e] at q; exact False.elim q
  | some o =>
    rw [e] at q
    obtain ⟨a, ov, rfl, _, dg, h1, h2⟩ := look_ok w h hy e
    have eo : ov.isSome = o.isSome := by
      cases o with
      | none => rw [h2 rfl]; rfl
      | some d => obtain ⟨u, rfl, _⟩ := h1 d rfl; rfl
    refine ⟨a, ov, rfl, dg, ?_⟩
    rw [eo]
    exact (post_pure q) rfl
theorem ee_din (ha : EL S ρ a ma) (hb : EL S ρ b mb) (hm : behindInMarks .In b = false := by first | exact nobehind _ (by decide) (by decide) | rfl) : EE S ρ (.Compare a [.In] [b] pos) (ma >>= fun x => mb >>= fun y => dinM false x y >>= fun b => pure (.bl b)) :=
  ex_binB ha hb (fun Y ok ta tb h1 h2 => pe_cmp (pc_din (hu1 ok) h1 h2) (hm)) (op_din false)
theorem ee_dnin (ha : EL S ρ a ma) (hb : EL S ρ b mb) (hm : behindInMarks .NotIn b = false := by first | exact nobehind _ (by decide) (by decide) | rfl) : EE S ρ (.Compare a [.NotIn] [b] pos) (ma >>= fun x => mb >>= fun y => dinM true x y >>= fun b => pure (.bl b)) :=
  ex_binB ha hb (fun Y ok ta tb h1 h2 => pe_cmp (pc_dnotin (hu1 ok) h1 h2) (hm)) (op_din true)
theorem et_din (ha : EL S ρ a ma) (hb : EL S ρ b mb) (hm : behindInMarks .In b = false := by first | exact nobehind _ (by decide) (by decide) | rfl) : ET S ρ (.Compare a [.In] [b] pos) (ma >>= fun x => mb >>= fun y => dinM false x y) :=
  et_binB ha hb (fun Y ok ta tb h1 h2 => pt_cmp (pc_din (hu1 ok) h1 h2) hm) (op_din false)
theorem et_dnin (ha : EL S ρ a ma) (hb : EL S ρ b mb) (hm : behindInMarks .NotIn b = false := by first | exact nobehind _ (by decide) (by decide) | rfl) : ET S ρ (.Compare a [.NotIn] [b] pos) (ma >>= fun x => mb >>= fun y => dinM true x y) :=
  et_binB ha hb (fun Y ok ta tb h1 h2 => pt_cmp (pc_dnotin (hu1 ok) h1 h2) hm) (op_din true)
end
end DL
set_option maxHeartbeats 1000000
namespace DL
open PySem PySem.Spec PyProof.Rows L2
/-! ### targets that write to cells: a field, an item, and tuples of these -/
theorem pg_attr {X : Cx} {o : Expr} {f : Str} {pos : Pos} {to : TE} (ho : PE X o to) : PG X (.Attribute o f pos) (fun v σ H Q => to σ H fun x H1 => ∃ a C dx fs, x = .ref a ∧ H1 a = some (.ins C dx fs) ∧ Cls X.K C ∧ NoAttr X.K C f ∧ fs.length < 1000 ∧ Q σ (upd H1 a (.ins C dx (putF f v fs)))) := by
  refine ⟨fun pins s σ H v u Q I r h => ?_⟩
  rw [assign_Attribute]
  refine wpAny_bind (wpAny_holding (thn (ho.run pins s σ H _ I h) fun ov s1 ⟨x, H1, I1, rx, a, C, dx, fs, ex, ea, c, n, l, q⟩ => ?_))
  subst ex
  obtain rfl : ov = Value.ref a := rx
  exact wpAny_bind (wpAny_standAt (wpAny_bind (wpAny_holding (setattr_ok I1 ea c n l r fun s3 I3 => wpAny_release ⟨σ, _, I3, q⟩))))
def TW (S : Sta) (ρ : Ev) (tg : Expr) (w : D → M Unit) : Prop := ∀ Y, OkY S Y → PG (S.cx Y) tg (fun v σ H Q => ∃ F g d, ER S.pg F ρ σ g H ∧ S.pg.Rp g v d ∧ (w d g.st).Post (fun _ st' => ∀ g' H', g'.st = st' → Stp S.pg g H g' H' → Q σ H') (Px S Y g H))
def TWs (S : Sta) (ρ : Ev) (tgs : List Expr) (w : List D → M Unit) : Prop := ∀ Y, OkY S Y → PGs (S.cx Y) tgs (fun vs σ H Q => ∃ F g ds, ER S.pg F ρ σ g H ∧ S.pg.Rps g vs ds ∧ (w ds g.st).Post (fun _ st' => ∀ g' H', g'.st = st' → Stp S.pg g H g' H' → Q σ H') (Px S Y g H))
def wnil : List D → M Unit
  | [] => pure ()
  | _ => stuck
def wcons (w : D → M Unit) (ws : List D → M Unit) : List D → M Unit
  | d :: ds => w d >>= fun _ => ws ds
  | [] => stuck
def wtup (n : Nat) (ws : List D → M Unit) : D → M Unit
  | .tup ds => if ds.length = n then ws ds else stuck
  | _ => stuck
section
variable {S : Sta} {ρ : Ev} {a b c o e ie tg : Expr} {tgs : List Expr} {ma mb mc m mo mv : M D} {pos p apos cpos spos tpos : Pos} {N B : Type} {shN : N → Ev} {shB : B → Ev} {rest : List Stmt} {f : Str} {ci : Nat} {fl : List Str}
theorem tw_fld (hc : ClsD S.pg ci fl) (hf : f ∈ fl) (ho : EE S ρ o mo) : TW S ρ (.Attribute o f pos) (fun d => mo >>= fun x => setF ci f x d) := fun Y ok =>
  (pg_attr (X := S.cx Y) (ho Y ok)).pre fun v σ H Q ⟨F, g, y, E, r, q⟩ => rdX.bind E q fun x u g2 H2 s2 E2 r2 q => by
    unfold setF at q
    obtain ⟨kk, a, dx, fvs, fs, rfl, rfl, hk, h1, h2, h3, q⟩ := insD_post E2.wf (.inl r2) (post_bind q)
    by_cases z : fs.length < 1000
    · simp only [if_pos z] at q
      have st := Stp.wrtI (fs := putD f y fs) E2.wf hk h1 h2 (RpF.put (f := f) (p := S.pg) (g := { g2 with st := g2.st.set kk (.ins ci (putD f y fs)) }) (r.mono s2.gle s2.aml) h3)
      exact ⟨a, _, dx, fvs, rfl, h1, hc.cls, hc.no f hf, by rw [h3.len]; exact z, q _ _ rfl (s2.trans E.wf st)⟩
    · simp only [if_neg z] at q
      exact False.elim q
theorem tw_cset (ho : EE S ρ o mo) (hb : EE S ρ b mb)
    (ha2 : ∀ (env : Env) v, assign (.Subscript o b spos) env v = (do
      let ov ← holding [v] (eval o env)
      let iv ← holding [v, ov] (eval b env)
      standAt spos
      holding [v, ov, iv] (setItem ov iv v)
      release [v, ov, iv] [])) : TW S ρ (.Subscript o b spos) (fun d => mo >>= fun x => mb >>= fun i => cellSet x i d) := fun Y ok =>
  (pg_sub (X := S.cx Y) (ho Y ok) (hb Y ok) set_list (ha2 _)).pre fun v σ H Q ⟨F, g, y, E, r, q⟩ => rdX.bind E q fun x u g2 H2 s2 E2 r2 q => rdX.bind E2 (q.imp (fun _ _ q => q) fun _ _ q => q.back E.wf s2) fun i w g3 H3 s3 E3 r3 q => by
    unfold cellSet at q
    obtain ⟨kk, a, xs, ds, rfl, hk, hx, rx, q⟩ := celL_post E3.wf (r2.mono s3.gle s3.aml) (post_bind q)
    obtain ⟨n, rfl, q⟩ := intG_post (post_bind q)
    obtain rfl := TopR.int (H := H3) (.inl r3)
    obtain ⟨j, ej, q⟩ := setL_post (post_bind q)
    have ry := (r.mono s2.gle s2.aml).mono s3.gle s3.aml
    have st : Stp S.pg g3 H3 { g3 with st := g3.st.set kk (.lst (ds.set j y)) } (upd H3 a (.lst (xs.set j v))) :=
      Stp.wrt E3.wf hk hx (fun _ z => by cases z) (fun _ z => by cases z) ⟨_, upd_same, rx.set ry j⟩
    exact ⟨a, xs, n, j, rfl, rfl, hx, by rw [rx.length]; exact ej, q _ _ rfl ((s2.trans E.wf s3).trans E.wf st)⟩
theorem tws_nil : TWs S ρ [] wnil := fun Y ok => pgs_nil.pre fun vs σ H Q ⟨F, g, ds, E, r, q⟩ => by
  cases r with
  | nil => exact ⟨rfl, q g H rfl (.refl E.wf)⟩
  | cons _ _ => exact False.elim q
theorem tws_cons {w : D → M Unit} {ws : List D → M Unit} (h1 : TW S ρ tg w) (h2 : TWs S ρ tgs ws) (hs : ∀ env : Env, (assignEach (tg :: tgs) env).map (·.2) = assign tg env :: (assignEach tgs env).map (·.2)) : TWs S ρ (tg :: tgs) (wcons w ws) := fun Y ok =>
  (pgs_cons (h1 Y ok) (h2 Y ok) (hs _)).pre fun vs σ H Q ⟨F, g, ds, E, r, q⟩ => by
    cases r with
    | nil => exact False.elim q
    | @cons v0 vr d ds r rr =>
      refine ⟨_, _, rfl, F, g, d, E, r, (post_bind (m := w d) q).imp (fun _ st' q g1 H1 e s1 => ?_) fun _ _ q => q⟩
      subst e
      exact ⟨F, g1, ds, E.step s1, rr.mono s1.gle s1.aml, q.imp (fun _ st' q g2 H2 e s2 => q g2 H2 e (s1.trans E.wf s2)) fun _ _ q => q.back E.wf s1⟩
theorem tw_tup {ws : List D → M Unit} {n k : Nat} (h : TWs S ρ tgs ws) (hn : ∀ env : Env, (assignEach tgs env).length = n) (hst : ∀ env : Env, (assignEach tgs env).findIdx? (·.1) = none) : TW S ρ (.Tuple tgs k pos) (wtup n ws) := fun Y ok =>
  (pg_tup (X := S.cx Y) (n := n) rfl (h Y ok) (hn _) (hst _)).pre fun v σ H Q ⟨F, g, d, E, r, q⟩ => by
    cases d with
    | tup ds =>
      obtain ⟨a, us, rfl, s, r⟩ := TopR.tup (H := H) E.wf (.inl r)
      have q : ((if ds.length = n then ws ds else stuck) g.st).Post _ _ := q
      by_cases z : ds.length = n
      · rw [if_pos z] at q
        exact ⟨a, us, rfl, s, by rw [r.length]; exact z, F, g, ds, E, r, q⟩
      · rw [if_neg z] at q
        exact False.elim q
    | _ => exact False.elim q
theorem sb_asgW {w : D → M Unit} {k : M (Out N B)} (he : EE S ρ e m) (hg : TW S ρ tg w) (hr : SB S ρ rest k shN shB)
    (hs : ∀ env : Env, env.scope = S.sc → swapsWithSole [tg] e pos.line env = pure false) (hw : ∀ env : Env, env.scope = S.sc → swappedStores [tg] e env = pure none) (h1 : ∀ env : Env, (assignEach [tg] env).map (·.2) = [assign tg env]) :
    SB S ρ (.Assign [tg] e pos :: rest) (m >>= fun y => w y >>= fun _ => k) shN shB := fun Y ok => by
  refine (pss_cons (ps_asg (X := S.cx Y) (he Y ok) (hg Y ok) (hs _ rfl) (hw _ rfl) (h1 _)) (hr Y ok)).pre fun Dd σ H ⟨F, g, E, q⟩ => ?_
  refine rdS.expr E q fun y v g1 H1 s1 E1 r1 q => ⟨F, g1, y, E1, r1, (post_bind q).imp (fun _ st' q g2 H2 e s2 => ?_) fun _ _ q => PxO.of E1 q⟩
  subst e
  exact ⟨F, g2, E1.step s2, q.imp (fun _ _ q => q.back s2.ltr) fun _ _ q => q⟩
/-! ### o.append(e), o a list with a cell -/
def cellApp (x y : D) : M Unit := celL x >>= fun kd => if kd.2.length < sizeLine then setC kd.1 (.lst (kd.2 ++ [y])) else stuck
theorem ee_capp (ho : EE S ρ o mo) (he : EE S ρ e m) (hs : NoStar [e] := by intro _; rfl) (hline : (apos.endLine == cpos.line) = true := by rfl) (hba : ∀ env : Env, attributeBase o "append" env (eval o env) = eval o env := by intro _; rfl) :
    EE S ρ (.Call (.Attribute o "append" apos) [e] [] cpos) (mo >>= fun x => celL x >>= fun _ => m >>= fun y => cellApp x y >>= fun _ => pure .non) := fun Y ok => by
  refine (pe_bm (X := S.cx Y) (cpos := cpos) (apos := apos) PySem.F.plainAttrs_list PySem.F.slot_list_append PySem.F.type_list_append mt_append (ho Y ok) (pa_cons (he Y ok) pa_nil (hs _)) (hba _) (by rw [hs _]; rfl) hline (hs _) (by rfl)).pre fun σ H Q ⟨F, g, E, q⟩ => ?_
  refine rdX.bind E q fun x v g1 H1 s1 E1 r1 q => ?_
  obtain ⟨k0, a, us, ds0, rfl, hk0, hx0, rx0, q⟩ := celL_post E1.wf r1 (post_bind q)
  refine ⟨.inl ⟨rfl, us, SqL.of hx0⟩, rdX.bind E1 (q.imp (fun _ _ q => q) fun _ _ q => q.back E.wf s1) fun y w g2 H2 s2 E2 r2 q => ?_⟩
  unfold cellApp at q
  rw [bind_assoc'] at q
  obtain ⟨k, a2, xs, ds, e2, hk, hx, rx, q⟩ := celL_post E2.wf (r1.mono s2.gle s2.aml) (post_bind q)
  cases e2
  by_cases z : ds.length < sizeLine
  · simp only [if_pos z] at q
    have q := post_setC q
    have st : Stp S.pg g2 H2 { g2 with st := g2.st.set k (.lst (ds ++ [y])) } (upd H2 a (.lst (xs ++ [w]))) :=
      Stp.wrt E2.wf hk hx (fun _ z => by cases z) (fun _ z => by cases z) ⟨_, upd_same, rx.append (.cons r2 .nil)⟩
    exact ⟨a, xs, w, rfl, rfl, hx, by rw [rx.length]; exact z, (post_pure q) _ _ _ rfl (s1.trans E.wf (s2.trans E1.wf st)) .non⟩
  · simp only [if_neg z] at q
    exact False.elim q
end
/-! ### xs[i::k] -/
def stepV {α : Type} (xs : List α) (lo : Option Int) (st : Int) : List α := (sliceRange (sliceBounds lo none (some st) xs.length).1 (sliceBounds lo none (some st) xs.length).2.1 (sliceBounds lo none (some st) xs.length).2.2).filterMap (xs[·]?)
theorem vals_pick {xs : List V} {us : List Value} (r : Vals xs us) : ∀ l : List Nat, Vals (l.filterMap (xs[·]?)) (l.filterMap (us[·]?))
  | [] => .nil
  | i :: l => by
    rw [List.filterMap_cons, List.filterMap_cons]
    cases e : xs[i]? with
    | none =>
      have : us[i]? = none := by
        rw [List.getElem?_eq_none_iff] at e ⊢
        have := r.length
        omega
      rw [this]
      exact vals_pick r l
    | some x =>
      obtain ⟨u, eu, ru⟩ := r.get e
      rw [eu]
      exact .cons ru (vals_pick r l)
theorem rps_pick {p : Pg} {g : Gs} {xs : List V} {us : List D} (r : p.Rps g xs us) : ∀ l : List Nat, p.Rps g (l.filterMap (xs[·]?)) (l.filterMap (us[·]?))
  | [] => .nil
  | i :: l => by
    rw [List.filterMap_cons, List.filterMap_cons]
    cases e : xs[i]? with
    | none =>
      have : us[i]? = none := by
        rw [List.getElem?_eq_none_iff] at e ⊢
        have := r.length
        omega
      rw [this]
      exact rps_pick r l
    | some x =>
      obtain ⟨u, eu, ru⟩ := r.getV e
      rw [eu]
      exact .cons ru (rps_pick r l)
theorem stepV_le {α : Type} (xs : List α) (lo : Option Int) (st : Int) : (stepV xs lo st).length ≤ xs.length := by
  unfold stepV
  refine Nat.le_trans (List.length_filterMap_le _ _) (sliceRange_length_le _ _ _ _ (fun hc => ?_) fun hc => ?_)
  · simp only [sliceBounds] at hc ⊢
    simp only [hc, if_true]
    constructor
    · cases lo with
      | none => simp
      | some i => dsimp only; omega
    · simp
  · simp only [sliceBounds] at hc ⊢
    simp only [hc, if_false]
    constructor
    · cases lo with
      | none => simp
      | some i => dsimp only; omega
    · simp
def tStepL (K : PySem.W.Frag) (te : TE) (tl : TO) (st : Int) : TE := fun σ H Q => te σ H fun x H1 => tl σ H1 fun lo H2 => ∃ a xs, x = .ref a ∧ SqL K H2 a xs ∧ ∀ p, H2 p = none → Q (.ref p) (upd H2 p (.lst (stepV xs lo st)))
theorem pe_stepL {X : Cx} {e : Expr} {lo : Option Expr} {te : TE} {tl : TO} {st : Int} {k : Nat} {p1 p3 pos : Pos} (he : PE X e te) (hl : PO X lo tl) (h0 : st ≠ 0) : PE X (.Subscript e (.Slice lo none (some (.Constant (.int st) k p1)) p3) pos) (tStepL X.K te tl st) := by
  refine ⟨fun pins s σ H Q I h => ?_⟩
  refine Subscript_ (thn (he.run pins s σ H _ I h) fun v s1 ⟨x, H1, I1, r1, q1⟩ => ?_)
  refine wpAny_Slice (thn (hl.run pins s1 σ H1 _ I1 q1) fun vl s2 ⟨l, H2, I2, pl, a, xs, ex, hx, q⟩ => ?_)
  subst ex
  cases r1
  refine thn (po_none.run pins s2 σ H2 (fun o H3 => o = none ∧ H3 = H2) I2 ⟨rfl, rfl⟩) fun vu s3 ⟨u, H3, I3, pu, eu, e3⟩ => ?_
  subst eu e3
  refine thn ((po_some pe_int : PO X (some (.Constant (.int st) k p1)) (tPart (tC (.int st)))).run pins s3 σ H3 (fun o H4 => o = some st ∧ H4 = H3) I3 ⟨st, rfl, rfl, rfl⟩) fun vs s4 ⟨o, H4, I4, ps, eo, e4⟩ => ?_
  subst eo e4
  have I5 : Inv X pins σ H4 { s4 with heap := s4.heap.push { cls := .type "slice", data := .fields #[vl, vu, vs] } } := I4.kept (t' := s4.toks) fun b ob q => Heap.get?_push_of_some _ q
  obtain ⟨its, r, ht, hz⟩ := I5.list hx
  have hlen := r.length
  show wpAny (model X.prog X.w) X.A (subscriptTail e (.Slice lo none (some (.Constant (.int st) k p1)) p3) (.ref a) (.ref s4.heap.objs.size)) (EP X pins σ Q) X.xe { s4 with heap := s4.heap.push { cls := .type "slice", data := .fields #[vl, vu, vs] } }
  refine tail_any (ops := [.ref a, .ref s4.heap.objs.size]) ht.isList.typeIs (PySem.slot_list_getitem.lookup) ?_ (by with_unfolding_all rfl)
  refine wpAny_getItem_list_slice ht.isList (Heap.IsSliceOf.new _ vl vu vs) pl pu ps (by intro z; cases z; exact h0 rfl) ?_ (by rw [List.size_toArray]; omega)
  refine ⟨.ref _, _, I5.laid (t' := s4.toks) (o := .lst (stepV xs l st)) (fun b ob q => Heap.get?_push_of_some _ q) (Nat.le_refl _) ?_, rfl, q _ (I5.hok.fresh (Nat.le_refl _))⟩
  refine ⟨Nat.le_trans (stepV_le xs l st) hz, _, 0, ?_, Heap.get?_push_size _ rfl⟩
  have := vals_pick r (sliceRange (sliceBounds l none (some st) xs.length).1 (sliceBounds l none (some st) xs.length).2.1 (sliceBounds l none (some st) xs.length).2.2)
  rw [hlen] at this
  unfold stepV
  rw [hlen]
  simpa using this
/-- a list, or a list with a cell -/
def lstC : D → M (List D)
  | .lst ds => pure ds
  | .rls ds => pure ds
  | .ref k => getC k >>= fun c => match c with
    | .lst ds => pure ds
    | _ => stuck
  | _ => stuck
theorem lstC_post {p : Pg} {g : Gs} {H : Hp} {v : V} {d : D} {ok : List D → Store → Prop} {ex : Nat → Store → Prop} (w : Wf p g H) (h : TopR p g H v d) (q : (lstC d g.st).Post ok ex) :
    ∃ a us ds, v = .ref a ∧ SqL p.K H a us ∧ p.Rps g us ds ∧ ok ds g.st := by
  cases d with
  | lst ds =>
    obtain ⟨a, us, rfl, s, r⟩ := h.lst w
    exact ⟨a, us, ds, rfl, SqL.of s, r, q⟩
  | rls ds =>
    obtain ⟨a, us, rfl, s, r⟩ := h.rls w
    exact ⟨a, us, ds, rfl, s, r, q⟩
  | ref k =>
    obtain ⟨a, rfl, e⟩ := h.ref
    obtain ⟨c, e2, r⟩ := w.at_ref e
    have q : ((getC k >>= fun c => match c with
      | .lst ds => pure ds
      | _ => stuck) g.st).Post ok ex := q
    rw [bind_run] at q
    unfold getC at q
    rw [e2] at q
    cases c with
    | lst ds =>
      obtain ⟨xs, ex, rx⟩ := r
      exact ⟨a, xs, ds, rfl, SqL.of ex, rx, q⟩
    | _ => exact False.elim q
  | _ => exact False.elim q
section
variable {S : Sta} {ρ : Ev} {a : Expr} {lo : Option Expr} {ma : M D} {ml : M (Option Int)} {pos p1 p3 : Pos} {k : Nat} {st : Int}
theorem en_stepL (ha : EL S ρ a ma) (hl : EO S ρ lo ml) (h0 : st ≠ 0 := by decide) : EN S ρ (.Subscript a (.Slice lo none (some (.Constant (.int st) k p1)) p3) pos) (ma >>= fun x => ml >>= fun l => lstC x >>= fun ds => pure (.lst (stepV ds l st))) := fun Y ok =>
  (pe_stepL (X := S.cx Y) (ha Y ok) (hl Y ok) h0).pre fun σ H Q ⟨F, g, E, q⟩ => rdX.bind E q fun x v g' H' s E' r q =>
    ⟨F, g', E', (post_bind q).imp (fun l st' q g2 H2 e s2 => by
      subst e
      have E2 := E'.step s2
      obtain ⟨a, us, ds, rfl, sq, rr, q⟩ := lstC_post E2.wf (r.step E'.wf s2) (post_bind q)
      refine ⟨a, us, rfl, sq, fun l2 hl => (post_pure q) _ g2 _ rfl ((s.trans E.wf s2).trans E.wf (Stp.laid E2.wf hl)) ⟨l2, rfl, ⟨_, upd_same, ?_⟩, E2.wf.freeG hl, E2.wf.freeA hl, (s.trans E.wf s2).none_of E.wf hl⟩⟩
      have := rps_pick rr (sliceRange (sliceBounds l none (some st) us.length).1 (sliceBounds l none (some st) us.length).2.1 (sliceBounds l none (some st) us.length).2.2)
      unfold stepV
      rw [← rr.length]
      exact this) fun _ _ q => q.back E.wf s⟩
end
end DL
set_option maxHeartbeats 1000000
namespace DL
open PySem PySem.Spec PyProof.Rows L2
/-! ### zip of any number of lists and tuples -/
theorem forIn_yields {α β : Type} {M : Model} {A : Around} {E : Value → Shared → Prop} {f : α → β → Sem (ForInStep β)} {Q : β → Shared → Prop} (P : Nat → β → Shared → Prop) :
    ∀ (xs : List α) (i : Nat) (b : β) (s : Shared), (∀ j x b s, xs[j]? = some x → P (i + j) b s → wpAny M A (f x b) (fun r s' => ∃ b', r = .yield b' ∧ P (i + j + 1) b' s') E s) → (∀ b s, P (i + xs.length) b s → Q b s) → P i b s → wpAny M A (forIn xs b f) Q E s
  | [], i, b, s, _, hq, p => by
    rw [List.forIn_nil]
    exact wpAny_pure (hq b s p)
  | x :: xs, i, b, s, h, hq, p => by
    rw [List.forIn_cons]
    refine wpAny_bind (wpAny_mono (h 0 x b s rfl p) (fun r s' h' => ?_) fun _ _ e => e)
    obtain ⟨b', rfl, p'⟩ := h'
    refine forIn_yields P xs (i + 1) b' s' (fun j y b s hy p => ?_) (fun b s p => hq b s ?_) p'
    · have := h (j + 1) y b s hy (by rw [show i + (j + 1) = i + 1 + j from by omega]; exact p)
      rw [show i + (j + 1) = i + 1 + j from by omega] at this
      exact this
    · rw [List.length_cons, show i + (xs.length + 1) = i + 1 + xs.length from by omega]
      exact p
abbrev ZAs := List (Bool × Nat)
/-- what the sources hold -/
def ZSrc (h : Heap) (as : ZAs) (xss : List (Array Value)) : Prop := as.length = xss.length ∧ ∀ (j : Nat) a xs, as[j]? = some a → xss[j]? = some xs → AsG a.1 h a.2 xs
structure ZSt (h : Heap) (b : Nat) (as : ZAs) (own : Value) (t : Nat) : Prop where
  z : IsZip h (b + as.length + 2) (b + as.length) (b + as.length + 1) own
  ti : h.get? (b + as.length) = some { cls := .type "tuple", data := .seq ((List.range as.length).map fun j => Value.ref (b + j)).toArray }
  to : ∃ ys : Array Value, ys.size = as.length ∧ h.get? (b + as.length + 1) = some { cls := .type "tuple", data := .seq ys }
  it : ∀ (j : Nat) a, as[j]? = some a → ItG a.1 h (b + j) a.2 t
theorem AsG.moved {k : Bool} {h h' : Heap} {a : Addr} {xs : Array Value} (x : AsG k h a xs) (e : ∀ o, h.get? a = some o → h'.get? a = some o) : AsG k h' a xs := by
  cases k
  · exact Heap.IsTuple.at x e
  · exact Heap.IsList.at x e
theorem ZSrc.moved {h h' : Heap} {as : ZAs} {xss : List (Array Value)} (x : ZSrc h as xss) (e : ∀ a ∈ as, ∀ o, h.get? a.2 = some o → h'.get? a.2 = some o) : ZSrc h' as xss :=
  ⟨x.1, fun j a xs h1 h2 => (x.2 j a xs h1 h2).moved (e a (List.mem_of_getElem? h1))⟩
/-- within the loop of a turn: i of the iterators are moved -/
structure ZLp (h0 h : Heap) (b : Nat) (as : ZAs) (xss : List (Array Value)) (t i : Nat) (ys : Array Value) : Prop where
  z : IsZip h (b + as.length + 2) (b + as.length) (b + as.length + 1) .ellipsis
  ti : h.get? (b + as.length) = some { cls := .type "tuple", data := .seq ((List.range as.length).map fun j => Value.ref (b + j)).toArray }
  to : h.get? (b + as.length + 1) = some { cls := .type "tuple", data := .seq ys }
  sz : ys.size = as.length
  it : ∀ (j : Nat) a, as[j]? = some a → ItG a.1 h (b + j) a.2 (if j < i then t + 1 else t)
  src : ZSrc h as xss
  ys : ∀ (j : Nat) xs, j < i → xss[j]? = some xs → ys[j]? = xs[t]?
  hs : h.objs.size = h0.objs.size
  fr : ∀ c o, c < b ∨ b + as.length + 3 ≤ c → h0.get? c = some o → h.get? c = some o
section
variable {prog : Program} {w : World} {A : Around} {E : Value → Shared → Prop} {s : Shared} {b : Nat} {as : ZAs} {xss : List (Array Value)} {t : Nat}
theorem zipIdx_refs {n i : Nat} {x : Value × Nat} (h : ((List.range n).map fun j => Value.ref (b + j)).zipIdx[i]? = some x) : i < n ∧ x = (.ref (b + i), i) := by
  rw [List.getElem?_zipIdx, List.getElem?_map] at h
  by_cases z : i < n
  · rw [List.getElem?_range z] at h
    simp at h
    exact ⟨z, h.symm⟩
  · rw [List.getElem?_eq_none (by rw [List.length_range]; omega)] at h
    cases h
theorem ZLp.step {h0 h h' : Heap} {i : Nat} {ys : Array Value} {a : Bool × Nat} {xs : Array Value} {x : Value} (L : ZLp h0 h b as xss t i ys) (hb : ∀ a ∈ as, a.2 < b) (ha : as[i]? = some a) (hx : xss[i]? = some xs) (hxt : xs[t]? = some x)
    (st' : ItG a.1 h' (b + i) a.2 (t + 1)) (sb : Heap.SameBut (b + i) h h') : ∀ h'', h''.get? (b + as.length + 1) = some { cls := .type "tuple", data := .seq (ys.setIfInBounds i x) } → Heap.SameBut (b + as.length + 1) h' h'' → ZLp h0 h'' b as xss t (i + 1) (ys.setIfInBounds i x) := by
  intro h'' hT sb2
  have hi : i < as.length := (List.getElem?_eq_some_iff.mp ha).1
  have up : ∀ c o, c ≠ b + i → c ≠ b + as.length + 1 → h.get? c = some o → h''.get? c = some o := fun c o c1 c2 e => sb2.extBut _ _ c2 (sb.extBut _ _ c1 e)
  have hlt : ∀ a ∈ as, a.2 ≠ b + i ∧ a.2 ≠ b + as.length + 1 := fun a ha => by have := hb a ha; omega
  refine ⟨up _ _ (by (first | omega | (show @Ne Nat _ _; omega))) (by (first | omega | (show @Ne Nat _ _; omega))) L.z, up _ _ (by (first | omega | (show @Ne Nat _ _; omega))) (by (first | omega | (show @Ne Nat _ _; omega))) L.ti, hT, by rw [Array.size_setIfInBounds]; exact L.sz, fun j a' hj => ?_, L.src.moved fun a ha o e => up _ o (hlt a ha).1 (hlt a ha).2 e, fun j zs hj hz => ?_, by rw [sb2.1, sb.1]; exact L.hs, fun c o hc e => up c o (by (first | omega | (show @Ne Nat _ _; omega))) (by (first | omega | (show @Ne Nat _ _; omega))) (L.fr c o hc e)⟩
  · have hjl : j < as.length := (List.getElem?_eq_some_iff.mp hj).1
    by_cases z : j = i
    · subst z
      rw [if_pos (by (first | omega | (show @Ne Nat _ _; omega)))]
      rw [ha] at hj
      cases hj
      exact st'.moved fun o e => sb2.extBut _ _ (by (first | omega | (show @Ne Nat _ _; omega))) e
    · have := (L.it j a' hj).moved (h' := h'') fun o e => up _ o (by (first | omega | (show @Ne Nat _ _; omega))) (by (first | omega | (show @Ne Nat _ _; omega))) e
      by_cases z2 : j < i
      · rw [if_pos z2] at this
        rw [if_pos (by (first | omega | (show @Ne Nat _ _; omega)))]
        exact this
      · rw [if_neg z2] at this
        rw [if_neg (by (first | omega | (show @Ne Nat _ _; omega)))]
        exact this
  · by_cases z : j = i
    · subst z
      rw [hx] at hz
      cases hz
      rw [hxt, Array.getElem?_setIfInBounds_self, if_pos (by rw [L.sz]; exact hi)]
    · rw [Array.getElem?_setIfInBounds_ne (by (first | omega | (show @Ne Nat _ _; omega)))]
      exact L.ys j zs (by (first | omega | (show @Ne Nat _ _; omega))) hz
theorem zipN_item {Q : Value → Shared → Prop} (hh : A.handled = none) (hn : 0 < as.length) (hl : as.length ≤ 8) (st : ZSt s.heap b as .none t) (src : ZSrc s.heap as xss) (hb : ∀ a ∈ as, a.2 < b) (hlt : ∀ xs ∈ xss, t < xs.size)
    (hQ : ∀ h' tk (ys : Array Value), ys.size = as.length → (∀ (j : Nat) xs, xss[j]? = some xs → ys[j]? = xs[t]?) → ZSt h' b as (rawInt s.heap.objs.size) (t + 1) → h'.get? s.heap.objs.size = some { cls := .type "tuple", data := .seq ys } → h'.objs.size = s.heap.objs.size + 1 →
      (∀ c o, c < b ∨ b + as.length + 3 ≤ c → s.heap.get? c = some o → h'.get? c = some o) → Q (.ref s.heap.objs.size) { s with heap := h', toks := tk }) :
    wpAny (model prog w) A (Builtin.«zip.__next__» ⟨[.ref (b + as.length + 2)], []⟩) (fun fin s' => ∃ v, fin = .done (.ret v) ∧ Q v s') E s := by
  obtain ⟨hp, g, d, tk0, os⟩ := s
  obtain ⟨ys0, hys, hto⟩ := st.to
  show wpAny _ _ (field (.ref (b + as.length + 2)) 2 >>= _) _ _ _
  refine wpAny_bind (wpAny_field st.z rfl (x := .bool false) rfl ?_)
  show wpAny _ _ (field (.ref (b + as.length + 2)) 3 >>= _) _ _ _
  refine wpAny_bind (wpAny_field st.z rfl (x := .ref (b + as.length)) rfl ?_)
  refine wpAny_bind (wpAny_seqItems st.ti rfl ?_)
  have hne : ((List.range as.length).map fun j => Value.ref (b + j)).toArray.isEmpty = false := by
    cases h : as.length with
    | zero => omega
    | succ n => simp [List.range_succ_eq_map]
  simp only [hne, Bool.false_eq_true, if_false]
  show wpAny _ _ (Builtin.SmallTypes.ownedTupleIsFree (.ref (b + as.length + 2)) >>= _) _ _ _
  refine wpAny_bind ?_
  unfold Builtin.SmallTypes.ownedTupleIsFree
  refine wpAny_bind (wpAny_field st.z rfl (x := .none) rfl (wpAny_pure ?_))
  simp only [if_true]
  refine wpAny_bind (wpAny_rule ?_)
  refine wpAny_bind (wpAny_field st.z rfl (x := .ref (b + as.length + 1)) rfl ?_)
  refine wpAny_bind (wpAny_setField_rec st.z (by simp) fun g0 hz0 hs0 => ?_)
  replace hz0 : IsZip g0 (b + as.length + 2) (b + as.length) (b + as.length + 1) .ellipsis := hz0
  replace hs0 : Heap.SameBut (b + as.length + 2) hp g0 := hs0
  have lt2 : ∀ a ∈ as, a.2 ≠ b + as.length + 2 := fun a ha => by have := hb a ha; omega
  have L0 : ZLp hp g0 b as xss t 0 ys0 := ⟨hz0, hs0.extBut _ _ (by (first | omega | (show @Ne Nat _ _; omega))) st.ti, hs0.extBut _ _ (by (first | omega | (show @Ne Nat _ _; omega))) hto, hys, fun j a hj => (st.it j a hj).moved fun o e => hs0.extBut _ _ (by have := (List.getElem?_eq_some_iff.mp hj).1; (first | omega | (show @Ne Nat _ _; omega))) e,
    src.moved fun a ha o e => hs0.extBut _ _ (lt2 a ha) e, fun j xs hj => absurd hj (Nat.not_lt_zero _), hs0.1, fun c o hc e => hs0.extBut _ _ (by (first | omega | (show @Ne Nat _ _; omega))) e⟩
  refine wpAny_bind ?_
  refine forIn_yields (fun i r s' => r = ⟨none, PUnit.unit⟩ ∧ ∃ h tk ys, s' = ⟨h, g, d, tk, os⟩ ∧ ZLp hp h b as xss t i ys) _ 0 _ _ (fun j x r s' hx ⟨hr, h, tk, ys, es, L⟩ => ?_) (fun r s' ⟨hr, h, tk, ys, es, L⟩ => ?_) ⟨rfl, g0, tk0, ys0, rfl, L0⟩
  · subst hr es
    rw [Nat.zero_add] at L ⊢
    obtain ⟨hj, rfl⟩ := zipIdx_refs hx
    obtain ⟨a, ha⟩ : ∃ a, as[j]? = some a := ⟨_, List.getElem?_eq_getElem hj⟩
    obtain ⟨xs, hxs⟩ : ∃ xs, xss[j]? = some xs := ⟨_, List.getElem?_eq_getElem (by rw [← src.1]; exact hj)⟩
    have hax := hb a (List.mem_of_getElem? ha)
    refine wpAny_bind (wpAny_onRaise ?_)
    show wpAny _ _ (Builtin.SmallTypes.nextOf (.ref (b + j)) >>= _) _ _ ⟨h, g, d, tk, os⟩
    have it0 := L.it j a ha
    rw [if_neg (Nat.lt_irrefl j)] at it0
    refine wpAny_bind ((draws_G (P := prog) (w := w) (A := A) a.1 hh (b + j) a.2 (by (first | omega | (show @Ne Nat _ _; omega))) xs).item t _ _ _ (hlt xs (List.mem_of_getElem? hxs)) ⟨it0, L.src.2 j a xs ha hxs⟩ fun x1 h1 tk1 hx1 sn1 sb1 => wpAny_pure ?_)
    replace sb1 : Heap.SameBut (b + j) h h1 := sb1
    have hU : h1.get? (b + as.length + 1) = some { cls := .type "tuple", data := .seq ys } := sb1.extBut _ _ (by (first | omega | (show @Ne Nat _ _; omega))) L.to
    refine wpAny_bind (wpAny_seqItems (s := ⟨h1, g, d, tk1, os⟩) hU rfl ?_)
    refine wpAny_bind (wpAny_updateSeq (s := ⟨h1, g, d, tk1, os⟩) hU rfl ?_ (by rw [L.sz, sizeLine_eq]; omega) (by rw [Array.size_setIfInBounds, L.sz, sizeLine_eq]; omega))
    refine wpAny_bind (wpAny_letGo (wpAny_pure ?_))
    exact ⟨_, rfl, rfl, _, tk1, _, rfl, L.step hb ha hxs hx1 sn1.1 sb1 _ (by rw [Heap.get?_update_self _ hU rfl]; simp [Obj.mapSeq]) (Heap.SameBut.update ..)⟩
  · subst hr es
    rw [Nat.zero_add, List.length_zipIdx, List.length_map, List.length_range] at L
    refine wpAny_bind (wpAny_seqItems (s := ⟨h, g, d, tk, os⟩) L.to rfl ?_)
    refine wpAny_bind (wpAny_newTuple ?_ (by rw [Array.length_toList, L.sz, sizeLine_eq]; omega))
    have hsz : h.objs.size = hp.objs.size := L.hs
    have hzlt : b + as.length + 2 < h.objs.size := Heap.lt_size L.z
    have eT : ys.toList.toArray = ys := by simp
    rw [eT]
    show wpAny _ _ (Builtin.SmallTypes.ownedTupleHandOut (.ref (b + as.length + 2)) (.ref h.objs.size) >>= _) _ _ ⟨h.push { cls := .type "tuple", data := .seq ys }, g, d, tk, os⟩
    refine wpAny_bind ?_
    unfold Builtin.SmallTypes.ownedTupleHandOut
    have hz₆ : IsZip (h.push { cls := .type "tuple", data := .seq ys }) (b + as.length + 2) (b + as.length) (b + as.length + 1) .ellipsis := Heap.get?_push_of_some _ L.z
    refine wpAny_bind (wpAny_setField_rec hz₆ (by simp) fun h₇ hz₇ hs₇ => ?_)
    replace hz₇ : IsZip h₇ (b + as.length + 2) (b + as.length) (b + as.length + 1) (rawInt h.objs.size) := hz₇
    refine wpAny_setField_rec hz₇ (by simp) fun h₈ hz₈ hs₈ => ?_
    replace hz₈ : IsZip h₈ (b + as.length + 2) (b + as.length) (b + as.length + 1) (rawInt h.objs.size) := hz₈
    replace hs₇ : Heap.SameBut (b + as.length + 2) (h.push { cls := .type "tuple", data := .seq ys }) h₇ := hs₇
    replace hs₈ : Heap.SameBut (b + as.length + 2) h₇ h₈ := hs₈
    have up : ∀ c o, c ≠ b + as.length + 2 → h.get? c = some o → h₈.get? c = some o := fun c o c1 e => hs₈.extBut _ _ c1 (hs₇.extBut _ _ c1 (Heap.get?_push_of_some _ e))
    have hT₈ : h₈.get? h.objs.size = some { cls := .type "tuple", data := .seq ys } := hs₈.extBut _ _ (Nat.ne_of_gt hzlt) (hs₇.extBut _ _ (Nat.ne_of_gt hzlt) (Heap.get?_push_size _ rfl))
    have hz8 : h₈.objs.size = h.objs.size + 1 := by rw [hs₈.1, hs₇.1, Heap.size_push]
    rw [hsz] at hz₈ hT₈ hz8
    refine wpAny_pure ⟨_, rfl, ?_⟩
    show Q (.ref h.objs.size) ⟨h₈, g, d, tk, os⟩
    rw [hsz]
    refine hQ h₈ tk ys L.sz (fun j xs hx => L.ys j xs (by have := (List.getElem?_eq_some_iff.mp hx).1; rw [src.1]; exact this) hx) ⟨hz₈, up _ _ (by (first | omega | (show @Ne Nat _ _; omega))) L.ti, ⟨ys, L.sz, up _ _ (by (first | omega | (show @Ne Nat _ _; omega))) L.to⟩, fun j a hj => ?_⟩ hT₈ hz8 fun c o hc e => up c o (by (first | omega | (show @Ne Nat _ _; omega))) (L.fr c o hc e)
    have hjl := (List.getElem?_eq_some_iff.mp hj).1
    have := L.it j a hj
    rw [if_pos hjl] at this
    exact this.moved fun o e => up _ o (by (first | omega | (show @Ne Nat _ _; omega))) e
theorem zipN_end {Q : Fin → Shared → Prop} (hh : A.handled = none) (hn : 0 < as.length) (hl : as.length ≤ 8) (st : ZSt s.heap b as .none t) (src : ZSrc s.heap as xss) (hb : ∀ a ∈ as, a.2 < b) {j0 : Nat} {xs0 : Array Value} (hj0 : xss[j0]? = some xs0) (h0 : xs0.size = t) (hlt : ∀ (j : Nat) xs, j < j0 → xss[j]? = some xs → t < xs.size)
    (hE : ∀ h' tk e, (∀ c o, c < b ∨ b + as.length + 3 ≤ c → s.heap.get? c = some o → h'.get? c = some o) → (∃ o, h'.get? e = some o ∧ o.cls = .type "StopIteration") → E (.ref e) { s with heap := h', toks := tk }) :
    wpAny (model prog w) A (Builtin.«zip.__next__» ⟨[.ref (b + as.length + 2)], []⟩) Q E s := by
  obtain ⟨hp, g, d, tk0, os⟩ := s
  obtain ⟨ys0, hys, hto⟩ := st.to
  show wpAny _ _ (field (.ref (b + as.length + 2)) 2 >>= _) _ _ _
  refine wpAny_bind (wpAny_field st.z rfl (x := .bool false) rfl ?_)
  show wpAny _ _ (field (.ref (b + as.length + 2)) 3 >>= _) _ _ _
  refine wpAny_bind (wpAny_field st.z rfl (x := .ref (b + as.length)) rfl ?_)
  refine wpAny_bind (wpAny_seqItems st.ti rfl ?_)
  have hne : ((List.range as.length).map fun j => Value.ref (b + j)).toArray.isEmpty = false := by
    cases h : as.length with
    | zero => omega
    | succ n => simp [List.range_succ_eq_map]
  simp only [hne, Bool.false_eq_true, if_false]
  show wpAny _ _ (Builtin.SmallTypes.ownedTupleIsFree (.ref (b + as.length + 2)) >>= _) _ _ _
  refine wpAny_bind ?_
  unfold Builtin.SmallTypes.ownedTupleIsFree
  refine wpAny_bind (wpAny_field st.z rfl (x := .none) rfl (wpAny_pure ?_))
  simp only [if_true]
  refine wpAny_bind (wpAny_rule ?_)
  refine wpAny_bind (wpAny_field st.z rfl (x := .ref (b + as.length + 1)) rfl ?_)
  refine wpAny_bind (wpAny_setField_rec st.z (by simp) fun g0 hz0 hs0 => ?_)
  replace hz0 : IsZip g0 (b + as.length + 2) (b + as.length) (b + as.length + 1) .ellipsis := hz0
  replace hs0 : Heap.SameBut (b + as.length + 2) hp g0 := hs0
  have lt2 : ∀ a ∈ as, a.2 ≠ b + as.length + 2 := fun a ha => by have := hb a ha; omega
  have L0 : ZLp hp g0 b as xss t 0 ys0 := ⟨hz0, hs0.extBut _ _ (by (first | omega | (show @Ne Nat _ _; omega))) st.ti, hs0.extBut _ _ (by (first | omega | (show @Ne Nat _ _; omega))) hto, hys, fun j a hj => (st.it j a hj).moved fun o e => hs0.extBut _ _ (by have := (List.getElem?_eq_some_iff.mp hj).1; (first | omega | (show @Ne Nat _ _; omega))) e,
    src.moved fun a ha o e => hs0.extBut _ _ (lt2 a ha) e, fun j xs hj => absurd hj (Nat.not_lt_zero _), hs0.1, fun c o hc e => hs0.extBut _ _ (by (first | omega | (show @Ne Nat _ _; omega))) e⟩
  have hj0l : j0 < as.length := by rw [src.1]; exact (List.getElem?_eq_some_iff.mp hj0).1
  refine wpAny_bind ?_
  refine forIn_yields (fun i r s' => i ≤ j0 ∧ r = ⟨none, PUnit.unit⟩ ∧ ∃ h tk ys, s' = ⟨h, g, d, tk, os⟩ ∧ ZLp hp h b as xss t i ys) _ 0 _ _ (fun j x r s' hx ⟨hle, hr, h, tk, ys, es, L⟩ => ?_) (fun r s' ⟨hle, hr, h, tk, ys, es, L⟩ => ?_) ⟨Nat.zero_le _, rfl, g0, tk0, ys0, rfl, L0⟩
  · subst hr es
    rw [Nat.zero_add] at L hle ⊢
    obtain ⟨hj, rfl⟩ := zipIdx_refs hx
    obtain ⟨a, ha⟩ : ∃ a, as[j]? = some a := ⟨_, List.getElem?_eq_getElem hj⟩
    obtain ⟨xs, hxs⟩ : ∃ xs, xss[j]? = some xs := ⟨_, List.getElem?_eq_getElem (by rw [← src.1]; exact hj)⟩
    have hax := hb a (List.mem_of_getElem? ha)
    refine wpAny_bind (wpAny_onRaise ?_)
    show wpAny _ _ (Builtin.SmallTypes.nextOf (.ref (b + j)) >>= _) _ _ ⟨h, g, d, tk, os⟩
    have it0 := L.it j a ha
    rw [if_neg (Nat.lt_irrefl j)] at it0
    by_cases z : j = j0
    · subst z
      rw [hj0] at hxs
      cases hxs
      subst h0
      refine wpAny_bind ((draws_G (P := prog) (w := w) (A := A) a.1 hh (b + j) a.2 (by (first | omega | (show @Ne Nat _ _; omega))) xs0).done ⟨h, g, d, tk, os⟩ _ _ ⟨it0, L.src.2 j a xs0 ha hj0⟩ fun q e hq he => ?_)
      replace hq : Heap.ExtBut (b + j) h q := hq
      obtain ⟨oe, hoe, hce⟩ := he
      replace hoe : q.get? e = some oe := hoe
      have hzq : IsZip q (b + as.length + 2) (b + as.length) (b + as.length + 1) .ellipsis := hq _ _ (by (first | omega | (show @Ne Nat _ _; omega))) L.z
      have hez : e ≠ b + as.length + 2 := fun x => by subst x; rw [hzq] at hoe; cases hoe; simp at hce
      refine wpAny_setField_rec (s := ⟨q, g, d, tk, os⟩) hzq (by simp) fun q' _ hq' => ?_
      replace hq' : Heap.SameBut (b + as.length + 2) q q' := hq'
      exact hE q' tk e (fun c o hc x => hq'.extBut _ _ (by (first | omega | (show @Ne Nat _ _; omega))) (hq _ _ (by (first | omega | (show @Ne Nat _ _; omega))) (L.fr c o hc x))) ⟨oe, hq'.extBut _ _ hez hoe, hce⟩
    · refine wpAny_bind ((draws_G (P := prog) (w := w) (A := A) a.1 hh (b + j) a.2 (by (first | omega | (show @Ne Nat _ _; omega))) xs).item t _ _ _ (hlt j xs (by omega) hxs) ⟨it0, L.src.2 j a xs ha hxs⟩ fun x1 h1 tk1 hx1 sn1 sb1 => wpAny_pure ?_)
      replace sb1 : Heap.SameBut (b + j) h h1 := sb1
      have hU : h1.get? (b + as.length + 1) = some { cls := .type "tuple", data := .seq ys } := sb1.extBut _ _ (by (first | omega | (show @Ne Nat _ _; omega))) L.to
      refine wpAny_bind (wpAny_seqItems (s := ⟨h1, g, d, tk1, os⟩) hU rfl ?_)
      refine wpAny_bind (wpAny_updateSeq (s := ⟨h1, g, d, tk1, os⟩) hU rfl ?_ (by rw [L.sz, sizeLine_eq]; omega) (by rw [Array.size_setIfInBounds, L.sz, sizeLine_eq]; omega))
      refine wpAny_bind (wpAny_letGo (wpAny_pure ?_))
      exact ⟨_, rfl, by omega, rfl, _, tk1, _, rfl, L.step hb ha hxs hx1 sn1.1 sb1 _ (by rw [Heap.get?_update_self _ hU rfl]; simp [Obj.mapSeq]) (Heap.SameBut.update ..)⟩
  · rw [Nat.zero_add, List.length_zipIdx, List.length_map, List.length_range] at hle
    omega
theorem pyNext_zipN_item {Q : Option Value → Shared → Prop} (hh : A.handled = none) (hn : 0 < as.length) (hl : as.length ≤ 8) (st : ZSt s.heap b as .none t) (src : ZSrc s.heap as xss) (hb : ∀ a ∈ as, a.2 < b) (hlt : ∀ xs ∈ xss, t < xs.size)
    (hQ : ∀ h' tk (ys : Array Value), ys.size = as.length → (∀ (j : Nat) xs, xss[j]? = some xs → ys[j]? = xs[t]?) → ZSt h' b as (rawInt s.heap.objs.size) (t + 1) → h'.get? s.heap.objs.size = some { cls := .type "tuple", data := .seq ys } → h'.objs.size = s.heap.objs.size + 1 →
      (∀ c o, c < b ∨ b + as.length + 3 ≤ c → s.heap.get? c = some o → h'.get? c = some o) → Q (some (.ref s.heap.objs.size)) { s with heap := h', toks := tk }) :
    wpAny (model prog w) A (pyNext (.ref (b + as.length + 2))) Q E s := by
  have hT : s.TypeIs (.ref (b + as.length + 2)) "zip" := ⟨_, st.z, rfl⟩
  unfold pyNext
  exact wpAny_bind (wpAny_attempt (wpAny_callSpecial?_slot (name := Str.ofString "__next__") hT F.slot_zip_next
    (wpAny_call_entry F.slot_zip_next hT F.entry_zip_next
      (zipN_item hh hn hl st src hb hlt fun h' tk ys y1 y2 b1 b2 b3 b4 => wpAny_pure (hQ h' tk ys y1 y2 b1 b2 b3 b4)) (F.args_zip_next_1 _))))
theorem pyNext_zipN_end {Q : Option Value → Shared → Prop} (hh : A.handled = none) (hn : 0 < as.length) (hl : as.length ≤ 8) (st : ZSt s.heap b as .none t) (src : ZSrc s.heap as xss) (hb : ∀ a ∈ as, a.2 < b) {j0 : Nat} {xs0 : Array Value} (hj0 : xss[j0]? = some xs0) (h0 : xs0.size = t) (hlt : ∀ (j : Nat) xs, j < j0 → xss[j]? = some xs → t < xs.size)
    (hQ : ∀ h' tk, (∀ c o, c < b ∨ b + as.length + 3 ≤ c → s.heap.get? c = some o → h'.get? c = some o) → Q none { s with heap := h', toks := tk }) : wpAny (model prog w) A (pyNext (.ref (b + as.length + 2))) Q E s := by
  have hT : s.TypeIs (.ref (b + as.length + 2)) "zip" := ⟨_, st.z, rfl⟩
  unfold pyNext
  refine wpAny_bind (wpAny_attempt (wpAny_callSpecial?_slot (name := Str.ofString "__next__") hT F.slot_zip_next
    (wpAny_call_entry F.slot_zip_next hT F.entry_zip_next (zipN_end hh hn hl st src hb hj0 h0 hlt fun h' tk e hk he => ?_) (F.args_zip_next_1 _))))
  obtain ⟨o, ho, hc⟩ := he
  refine wpAny_bind (wpAny_isInstance (T := "StopIteration") (b := true) ⟨o, ho, hc⟩ isSubtype_stop ?_)
  exact wpAny_pure (hQ _ _ hk)
/-! its beginning -/
theorem typeCall_zipN : ∀ args : List Value, args.length ≤ 8 → checkTypeCall "zip" ⟨args, []⟩ = pure ()
  | [], _ => by kernel_rfl
  | [_], _ => by kernel_rfl
  | [_, _], _ => by kernel_rfl
  | [_, _, _], _ => by kernel_rfl
  | [_, _, _, _], _ => by kernel_rfl
  | [_, _, _, _, _], _ => by kernel_rfl
  | [_, _, _, _, _, _], _ => by kernel_rfl
  | [_, _, _, _, _, _, _], _ => by kernel_rfl
  | [_, _, _, _, _, _, _, _], _ => by kernel_rfl
  | _ :: _ :: _ :: _ :: _ :: _ :: _ :: _ :: _ :: _, h => by simp at h
theorem newCall_zipN : ∀ args : List Value, args.length ≤ 8 → checkBuiltinCall "zip.__new__" ⟨.type "zip" :: args, []⟩ = pure ()
  | [], _ => by kernel_rfl
  | [_], _ => by kernel_rfl
  | [_, _], _ => by kernel_rfl
  | [_, _, _], _ => by kernel_rfl
  | [_, _, _, _], _ => by kernel_rfl
  | [_, _, _, _, _], _ => by kernel_rfl
  | [_, _, _, _, _, _], _ => by kernel_rfl
  | [_, _, _, _, _, _, _], _ => by kernel_rfl
  | [_, _, _, _, _, _, _, _], _ => by kernel_rfl
  | _ :: _ :: _ :: _ :: _ :: _ :: _ :: _ :: _ :: _, h => by simp at h
theorem args_object_initN (obj : Value) : ∀ args : List Value, args.length ≤ 8 → argsOk "object.__init__" ⟨obj :: args, []⟩
  | [], _ => by unfold argsOk; kernel_rfl
  | [_], _ => by unfold argsOk; kernel_rfl
  | [_, _], _ => by unfold argsOk; kernel_rfl
  | [_, _, _], _ => by unfold argsOk; kernel_rfl
  | [_, _, _, _], _ => by unfold argsOk; kernel_rfl
  | [_, _, _, _, _], _ => by unfold argsOk; kernel_rfl
  | [_, _, _, _, _, _], _ => by unfold argsOk; kernel_rfl
  | [_, _, _, _, _, _, _], _ => by unfold argsOk; kernel_rfl
  | [_, _, _, _, _, _, _, _], _ => by unfold argsOk; kernel_rfl
  | _ :: _ :: _ :: _ :: _ :: _ :: _ :: _ :: _ :: _, h => by simp at h
theorem newClass_zip (args : List Value) : Builtin.SmallTypes.newClass "zip" ⟨.type "zip" :: args, []⟩ = pure (.type "zip", args) := by
  unfold Builtin.SmallTypes.newClass
  simp only [isType, sub_zip, pure_bind, Bool.not_true, Bool.false_eq_true, if_false]
/-- the heap once i of the iterators are made -/
structure ZBg (h0 h : Heap) (as : ZAs) (i : Nat) : Prop where
  sz : h.objs.size = h0.objs.size + i
  it : ∀ (j : Nat) a, j < i → as[j]? = some a → h.get? (h0.objs.size + j) = some (obG a.1 a.2)
  fr : ∀ c o, h0.get? c = some o → h.get? c = some o
theorem obG_free (k : Bool) (a : Addr) : (obG k a).isFreed = false := by cases k <;> rfl
section
variable {prog : Program} {w : World} {A : Around} {E : Value → Shared → Prop} {s : Shared} {as : ZAs} {xss : List (Array Value)}
theorem ZBg.iterAll {Q : List Value → Shared → Prop} (src : ZSrc s.heap as xss) (hQ : ∀ h', ZBg s.heap h' as as.length → Q ((List.range as.length).map fun j => Value.ref (s.heap.objs.size + j)) { s with heap := h' }) :
    wpAny (model prog w) A (Builtin.SmallTypes.iterAll (as.map fun a => Value.ref a.2)) Q E s := by
  obtain ⟨hp, g, d, tk, os⟩ := s
  unfold Builtin.SmallTypes.iterAll
  refine wpAny_bind ?_
  refine forIn_yields (fun i r s' => i ≤ as.length ∧ r.toList = ((List.range i).map fun j => Value.ref (hp.objs.size + j)) ∧ ∃ h, s' = ⟨h, g, d, tk, os⟩ ∧ ZBg hp h as i) _ 0 _ _ (fun j x r s' hx ⟨hle, hr, h, es, Z⟩ => ?_) (fun r s' ⟨hle, hr, h, es, Z⟩ => ?_) ⟨Nat.zero_le _, rfl, hp, rfl, rfl, fun j a hj => absurd hj (Nat.not_lt_zero _), fun c o e => e⟩
  · subst es
    rw [Nat.zero_add] at Z hr hle ⊢
    rw [List.getElem?_map] at hx
    cases ha : as[j]? with
    | none => rw [ha] at hx; cases hx
    | some a =>
      rw [ha] at hx
      cases hx
      have hj : j < as.length := (List.getElem?_eq_some_iff.mp ha).1
      obtain ⟨xs, hxs⟩ : ∃ xs, xss[j]? = some xs := ⟨_, List.getElem?_eq_getElem (by rw [← src.1]; exact hj)⟩
      refine wpAny_bind (wpAny_holding ((begins_G a.1 a.2 xs).iter prog w A E ⟨h, g, d, tk, os⟩ _ ((src.2 j a xs ha hxs).moved fun o e => Z.fr _ o e) ?_))
      refine wpAny_pure ⟨_, rfl, by omega, ?_, _, rfl, by rw [Heap.size_push, Z.sz]; omega, fun k a' hk ha' => ?_, fun c o e => Heap.get?_push_of_some _ (Z.fr c o e)⟩
      · rw [Array.toList_push, hr, List.range_succ, List.map_append]
        show _ = _ ++ [Value.ref (hp.objs.size + j)]
        rw [← Z.sz]
      · by_cases z : k = j
        · subst z
          rw [ha] at ha'
          cases ha'
          have := Heap.get?_push_size (h := h) (o := obG a.1 a.2) (obG_free a.1 a.2)
          rw [Z.sz] at this
          exact this
        · exact Heap.get?_push_of_some _ (Z.it k a' (by omega) ha')
  · subst es
    rw [Nat.zero_add, List.length_map] at Z hr
    refine wpAny_pure ?_
    show Q r.toList _
    rw [hr]
    exact hQ h Z
theorem zipN_new {Q : Value → Shared → Prop} (hl : as.length ≤ 8) (src : ZSrc s.heap as xss)
    (hQ : ∀ h', ZSt h' s.heap.objs.size as .none 0 → h'.objs.size = s.heap.objs.size + as.length + 3 → (∀ c o, s.heap.get? c = some o → h'.get? c = some o) → Q (.ref (s.heap.objs.size + as.length + 2)) { s with heap := h' }) :
    wpAny (model prog w) A (Builtin.«zip.__new__» ⟨.type "zip" :: as.map fun a => Value.ref a.2, []⟩) (fun fin s' => ∃ v, fin = .done (.ret v) ∧ Q v s') E s := by
  unfold Builtin.«zip.__new__»
  refine wpAny_bind (wpAny_of_eq (newClass_zip _) ?_)
  dsimp only [List.length_nil]
  rw [if_neg (by decide)]
  refine wpAny_bind (ZBg.iterAll src fun h Z => ?_)
  obtain ⟨hp, g, d, tk, os⟩ := s
  have sl : as.length ≤ sizeLine := by rw [sizeLine_eq]; omega
  refine wpAny_bind (wpAny_newTuple ?_ (by rw [List.length_map, List.length_range]; exact sl))
  refine wpAny_bind (wpAny_newTuple ?_ (by rw [List.length_map, List.length_map, List.length_range]; exact sl))
  have eN : (((List.range as.length).map fun j => Value.ref (hp.objs.size + j)).map fun _ => Value.none).toArray.size = as.length := by rw [List.size_toArray, List.length_map, List.length_map, List.length_range]
  refine wpAny_bind ?_
  unfold Builtin.SmallTypes.newRecord
  have hz := Z.sz
  replace hz : h.objs.size = hp.objs.size + as.length := hz
  have hQ' : ∀ h', ZSt h' hp.objs.size as .none 0 → h'.objs.size = hp.objs.size + as.length + 3 → (∀ c o, hp.get? c = some o → h'.get? c = some o) → Q (.ref (hp.objs.size + as.length + 2)) ⟨h', g, d, tk, os⟩ := hQ
  generalize hT : ((List.range as.length).map fun j => Value.ref (hp.objs.size + j)) = refs
  have lr : refs.length = as.length := by rw [← hT, List.length_map, List.length_range]
  generalize hT2 : (refs.map fun _ => Value.none) = nons
  have ln : nons.length = as.length := by rw [← hT2, List.length_map, lr]
  refine wpAny_newObj_type ?_ (by show (5 : Nat) ≤ sizeLine + 2; decide)
  refine wpAny_pure ⟨_, rfl, ?_⟩
  have e1 : (h.push { cls := .type "tuple", data := .seq refs.toArray }).objs.size = hp.objs.size + as.length + 1 := by rw [Heap.size_push, hz]
  have e2 : ((h.push { cls := .type "tuple", data := .seq refs.toArray }).push { cls := .type "tuple", data := .seq nons.toArray }).objs.size = hp.objs.size + as.length + 2 := by rw [Heap.size_push, e1]
  show Q (.ref ((h.push { cls := .type "tuple", data := .seq refs.toArray }).push { cls := .type "tuple", data := .seq nons.toArray }).objs.size) _
  rw [e2]
  refine hQ' _ ⟨?_, ?_, ⟨nons.toArray, by rw [List.size_toArray, ln], ?_⟩, fun j a hj => ?_⟩ (by rw [Heap.size_push, e2]) fun c o e => Heap.get?_push_of_some _ (Heap.get?_push_of_some _ (Heap.get?_push_of_some _ (Z.fr c o e)))
  · have := Heap.get?_push_size (h := (h.push { cls := .type "tuple", data := .seq refs.toArray }).push { cls := .type "tuple", data := .seq nons.toArray }) (o := { cls := .type "zip", data := .fields #[.none, .bool false, .bool false, .ref h.objs.size, .ref (h.push { cls := .type "tuple", data := .seq refs.toArray }).objs.size] }) rfl
    rw [e2] at this
    exact this.trans (by rw [e1, hz])
  · rw [hT]
    have := Heap.get?_push_size (h := h) (o := { cls := .type "tuple", data := .seq refs.toArray }) rfl
    rw [hz] at this
    exact Heap.get?_push_of_some _ (Heap.get?_push_of_some _ this)
  · have := Heap.get?_push_size (h := h.push { cls := .type "tuple", data := .seq refs.toArray }) (o := { cls := .type "tuple", data := .seq nons.toArray }) rfl
    rw [e1] at this
    exact Heap.get?_push_of_some _ this
  · have hjl := (List.getElem?_eq_some_iff.mp hj).1
    exact obG_it (Heap.get?_push_of_some _ (Heap.get?_push_of_some _ (Heap.get?_push_of_some _ (Z.it j a hjl hj))))
theorem zipN_begins {Q : Value → Shared → Prop} (hl : as.length ≤ 8) (src : ZSrc s.heap as xss)
    (hQ : ∀ h', ZSt h' s.heap.objs.size as .none 0 → h'.objs.size = s.heap.objs.size + as.length + 3 → (∀ c o, s.heap.get? c = some o → h'.get? c = some o) → Q (.ref (s.heap.objs.size + as.length + 2)) { s with heap := h' }) :
    wpAny (model prog w) A (call (.type "zip") (as.map fun a => Value.ref a.2)) Q E s := by
  have ll : (as.map fun a => Value.ref a.2).length ≤ 8 := by rw [List.length_map]; exact hl
  refine callType_new (S := fun _ R s' => s' = s ∧ ∀ h', ZSt h' s.heap.objs.size as .none 0 → h'.objs.size = s.heap.objs.size + as.length + 3 → (∀ c o, s.heap.get? c = some o → h'.get? c = some o) → R (.ok (.ret (.ref (s.heap.objs.size + as.length + 2)))) { s with heap := h' })
    F.called_zip (by decide) (typeCall_zipN _ ll) (newCall_zipN _ ll) (fun obj => args_object_initN obj _ ll) F.entry_zip_new (fun prog' w' A' R s' ⟨es, h⟩ => ?_) ⟨rfl, fun h' st hs hk => ⟨⟨_, st.z, rfl⟩, hQ h' st hs hk⟩⟩
  subst es
  exact wpAny_mono (zipN_new (Q := fun v s' => R (.ok (.ret v)) s') (E := fun e s' => R (.error e) s') hl src fun h' st hs hk => h h' st hs hk) (fun fin s' ⟨v, e, q⟩ => by subst e; exact q) fun _ _ e => e
end
end
/-! the turns once a tuple that was handed out lives on -/
structure ZS2 (h : Heap) (b : Nat) (as : ZAs) (t : Nat) : Prop where
  z : ∃ (a : Nat) (f : Bool) (oa : Obj), h.get? (b + as.length + 2) = some { cls := .type "zip", data := .fields #[rawInt a, .bool f, .bool false, .ref (b + as.length), .ref (b + as.length + 1)] } ∧ h.get? a = some oa ∧ b + as.length + 3 ≤ a
  ti : h.get? (b + as.length) = some { cls := .type "tuple", data := .seq ((List.range as.length).map fun j => Value.ref (b + j)).toArray }
  it : ∀ (j : Nat) a, as[j]? = some a → ItG a.1 h (b + j) a.2 t
/-- within the loop of such a turn -/
structure ZL2 (h0 h : Heap) (b : Nat) (as : ZAs) (xss : List (Array Value)) (t i : Nat) (ys : Array Value) : Prop where
  z : ∃ (a : Nat) (f : Bool) (oa : Obj), h.get? (b + as.length + 2) = some { cls := .type "zip", data := .fields #[rawInt a, .bool f, .bool false, .ref (b + as.length), .ref (b + as.length + 1)] } ∧ h.get? a = some oa ∧ b + as.length + 3 ≤ a
  ti : h.get? (b + as.length) = some { cls := .type "tuple", data := .seq ((List.range as.length).map fun j => Value.ref (b + j)).toArray }
  sz : ys.size = i
  it : ∀ (j : Nat) a, as[j]? = some a → ItG a.1 h (b + j) a.2 (if j < i then t + 1 else t)
  src : ZSrc h as xss
  ys : ∀ (j : Nat) xs, j < i → xss[j]? = some xs → ys[j]? = xs[t]?
  hs : h.objs.size = h0.objs.size
  fr : ∀ c o, c < b ∨ b + as.length + 3 ≤ c → h0.get? c = some o → h.get? c = some o
section
variable {prog : Program} {w : World} {A : Around} {E : Value → Shared → Prop} {s : Shared} {b : Nat} {as : ZAs} {xss : List (Array Value)} {t : Nat}
theorem ZL2.step {h0 h h' : Heap} {i : Nat} {ys : Array Value} {a : Bool × Nat} {xs : Array Value} {x : Value} (L : ZL2 h0 h b as xss t i ys) (hb : ∀ a ∈ as, a.2 < b) (ha : as[i]? = some a) (hx : xss[i]? = some xs) (hxt : xs[t]? = some x)
    (st' : ItG a.1 h' (b + i) a.2 (t + 1)) (sb : Heap.SameBut (b + i) h h') : ZL2 h0 h' b as xss t (i + 1) (ys.push x) := by
  have hi : i < as.length := (List.getElem?_eq_some_iff.mp ha).1
  have up : ∀ c o, c ≠ b + i → h.get? c = some o → h'.get? c = some o := fun c o c1 e => sb.extBut _ _ c1 e
  have hlt : ∀ a ∈ as, a.2 ≠ b + i := fun a ha => by have := hb a ha; omega
  obtain ⟨az, f, oa, z1, z2, z3⟩ := L.z
  refine ⟨⟨az, f, oa, up _ _ (by (first | omega | (show @Ne Nat _ _; omega))) z1, up _ _ (by (first | omega | (show @Ne Nat _ _; omega))) z2, z3⟩, up _ _ (by (first | omega | (show @Ne Nat _ _; omega))) L.ti, by rw [Array.size_push, L.sz], fun j a' hj => ?_, L.src.moved fun a ha o e => up _ o (hlt a ha) e, fun j zs hj hz => ?_, by rw [sb.1]; exact L.hs, fun c o hc e => up c o (by (first | omega | (show @Ne Nat _ _; omega))) (L.fr c o hc e)⟩
  · by_cases z : j = i
    · subst z
      rw [if_pos (by (first | omega | (show @Ne Nat _ _; omega)))]
      rw [ha] at hj
      cases hj
      exact st'
    · have := (L.it j a' hj).moved (h' := h') fun o e => up _ o (by (first | omega | (show @Ne Nat _ _; omega))) e
      by_cases z2 : j < i
      · rw [if_pos z2] at this
        rw [if_pos (by (first | omega | (show @Ne Nat _ _; omega)))]
        exact this
      · rw [if_neg z2] at this
        rw [if_neg (by (first | omega | (show @Ne Nat _ _; omega)))]
        exact this
  · by_cases z : j = i
    · subst z
      rw [hx] at hz
      cases hz
      rw [hxt, ← L.sz, Array.getElem?_push_size]
    · rw [Array.getElem?_push, if_neg (by rw [L.sz]; exact z)]
      exact L.ys j zs (by (first | omega | (show @Ne Nat _ _; omega))) hz
theorem loadIfAlive_some {a : Addr} {o : Obj} {Q : Option Obj → Shared → Prop} (ho : s.heap.get? a = some o) (h : Q (some o) s) : wpAny (model prog w) A (loadIfAlive a) Q E s := by
  have h' : Q (s.heap.get? a) s := by rw [ho]; exact h
  exact fun _ _ _ => h'
theorem zipN_item2 {Q : Value → Shared → Prop} (hh : A.handled = none) (hn : 0 < as.length) (hl : as.length ≤ 8) (st : ZS2 s.heap b as t) (src : ZSrc s.heap as xss) (hb : ∀ a ∈ as, a.2 < b) (hlt : ∀ xs ∈ xss, t < xs.size)
    (hQ : ∀ h' tk (ys : Array Value), ys.size = as.length → (∀ (j : Nat) xs, xss[j]? = some xs → ys[j]? = xs[t]?) → ZS2 h' b as (t + 1) → h'.get? s.heap.objs.size = some { cls := .type "tuple", data := .seq ys } → h'.objs.size = s.heap.objs.size + 1 →
      (∀ c o, c < b ∨ b + as.length + 3 ≤ c → s.heap.get? c = some o → h'.get? c = some o) → Q (.ref s.heap.objs.size) { s with heap := h', toks := tk }) :
    wpAny (model prog w) A (Builtin.«zip.__next__» ⟨[.ref (b + as.length + 2)], []⟩) (fun fin s' => ∃ v, fin = .done (.ret v) ∧ Q v s') E s := by
  obtain ⟨hp, g, d, tk0, os⟩ := s
  obtain ⟨az, f, oa, z1, z2, z3⟩ := st.z
  show wpAny _ _ (field (.ref (b + as.length + 2)) 2 >>= _) _ _ _
  refine wpAny_bind (wpAny_field z1 rfl (x := .bool false) rfl ?_)
  show wpAny _ _ (field (.ref (b + as.length + 2)) 3 >>= _) _ _ _
  refine wpAny_bind (wpAny_field z1 rfl (x := .ref (b + as.length)) rfl ?_)
  refine wpAny_bind (wpAny_seqItems st.ti rfl ?_)
  have hne : ((List.range as.length).map fun j => Value.ref (b + j)).toArray.isEmpty = false := by
    cases h : as.length with
    | zero => omega
    | succ n => simp [List.range_succ_eq_map]
  simp only [hne, Bool.false_eq_true, if_false]
  show wpAny _ _ (Builtin.SmallTypes.ownedTupleIsFree (.ref (b + as.length + 2)) >>= _) _ _ _
  refine wpAny_bind ?_
  unfold Builtin.SmallTypes.ownedTupleIsFree
  refine wpAny_bind (wpAny_field z1 rfl (x := rawInt az) rfl ?_)
  show wpAny _ _ (loadIfAlive ((az : Int).toNat) >>= _) _ _ _
  rw [Int.toNat_natCast]
  refine wpAny_bind (loadIfAlive_some z2 ?_)
  simp only [Option.isNone_some, Bool.false_eq_true, if_false]
  refine wpAny_bind (wpAny_field z1 rfl (x := .bool f) rfl ?_)
  have lt2 : ∀ a ∈ as, a.2 ≠ b + as.length + 2 := fun a ha => by have := hb a ha; omega
  have L00 : ZL2 hp hp b as xss t 0 #[] := ⟨⟨az, f, oa, z1, z2, z3⟩, st.ti, rfl, st.it, src, fun j xs hj => absurd hj (Nat.not_lt_zero _), rfl, fun c o _ e => e⟩
  have flag : wpAny (model prog w) A (if (Value.bool f != Value.bool true) = true then do
      setField (.ref (b + as.length + 2)) 1 (.bool true)
      pure false
    else pure false) (fun r s' => r = false ∧ ∃ g0, s' = ⟨g0, g, d, tk0, os⟩ ∧ ZL2 hp g0 b as xss t 0 #[]) E ⟨hp, g, d, tk0, os⟩ := by
    cases f with
    | true =>
      rw [if_neg (show ¬ ((Value.bool true != Value.bool true) = true) from Bool.false_ne_true)]
      exact wpAny_pure ⟨rfl, hp, rfl, L00⟩
    | false =>
      rw [if_pos (show (Value.bool false != Value.bool true) = true from rfl)]
      refine wpAny_bind (wpAny_setField_rec z1 (by simp) fun h₃ he₃ hs₃ => wpAny_pure ⟨rfl, h₃, rfl, ?_⟩)
      replace hs₃ : Heap.SameBut (b + as.length + 2) hp h₃ := hs₃
      exact ⟨⟨az, true, oa, he₃, hs₃.extBut _ _ (by (first | omega | (show @Ne Nat _ _; omega))) z2, z3⟩, hs₃.extBut _ _ (by (first | omega | (show @Ne Nat _ _; omega))) st.ti, rfl, fun j a hj => (st.it j a hj).moved fun o e => hs₃.extBut _ _ (by have := (List.getElem?_eq_some_iff.mp hj).1; (first | omega | (show @Ne Nat _ _; omega))) e,
        src.moved fun a ha o e => hs₃.extBut _ _ (lt2 a ha) e, fun j xs hj => absurd hj (Nat.not_lt_zero _), hs₃.1, fun c o hc e => hs₃.extBut _ _ (by (first | omega | (show @Ne Nat _ _; omega))) e⟩
  refine wpAny_mono flag (fun r s' ⟨hr, g0, es, L0⟩ => ?_) fun _ _ e => e
  subst hr es
  simp only [Bool.false_eq_true, if_false]
  refine wpAny_bind ?_
  rw [List.forIn_toArray]
  refine forIn_yields (fun i r s' => ∃ h tk ys, r = ⟨none, ys⟩ ∧ s' = ⟨h, g, d, tk, os⟩ ∧ ZL2 hp h b as xss t i ys) _ 0 _ _ (fun j x r s' hx ⟨h, tk, ys, hr, es, L⟩ => ?_) (fun r s' ⟨h, tk, ys, hr, es, L⟩ => ?_) ⟨g0, tk0, #[], rfl, rfl, L0⟩
  · subst hr es
    rw [Nat.zero_add] at L ⊢
    obtain ⟨hj, rfl⟩ : j < as.length ∧ x = .ref (b + j) := by
      rw [List.getElem?_map] at hx
      by_cases z : j < as.length
      · rw [List.getElem?_range z] at hx
        exact ⟨z, (Option.some.inj hx).symm⟩
      · rw [List.getElem?_eq_none (by rw [List.length_range]; omega)] at hx
        cases hx
    obtain ⟨a, ha⟩ : ∃ a, as[j]? = some a := ⟨_, List.getElem?_eq_getElem hj⟩
    obtain ⟨xs, hxs⟩ : ∃ xs, xss[j]? = some xs := ⟨_, List.getElem?_eq_getElem (by rw [← src.1]; exact hj)⟩
    have hax := hb a (List.mem_of_getElem? ha)
    refine wpAny_bind (wpAny_holding ?_)
    show wpAny _ _ (Builtin.SmallTypes.nextOf (.ref (b + j)) >>= _) _ _ ⟨h, g, d, tk, os⟩
    have it0 := L.it j a ha
    rw [if_neg (Nat.lt_irrefl j)] at it0
    refine wpAny_bind ((draws_G (P := prog) (w := w) (A := A) a.1 hh (b + j) a.2 (by (first | omega | (show @Ne Nat _ _; omega))) xs).item t _ _ _ (hlt xs (List.mem_of_getElem? hxs)) ⟨it0, L.src.2 j a xs ha hxs⟩ fun x1 h1 tk1 hx1 sn1 sb1 => wpAny_pure ?_)
    exact wpAny_pure ⟨_, rfl, h1, tk1, _, rfl, rfl, L.step hb ha hxs hx1 sn1.1 sb1⟩
  · subst hr es
    rw [Nat.zero_add, List.length_map, List.length_range] at L
    refine wpAny_bind (wpAny_newTuple ?_ (by rw [Array.length_toList, L.sz, sizeLine_eq]; omega))
    have hsz : h.objs.size = hp.objs.size := L.hs
    have eT : ys.toList.toArray = ys := by simp
    rw [eT]
    refine wpAny_pure ⟨_, rfl, ?_⟩
    show Q (.ref h.objs.size) ⟨h.push { cls := .type "tuple", data := .seq ys }, g, d, tk, os⟩
    have up : ∀ c o, h.get? c = some o → (h.push { cls := .type "tuple", data := .seq ys }).get? c = some o := fun c o e => Heap.get?_push_of_some _ e
    have hT := Heap.get?_push_size (h := h) (o := { cls := .type "tuple", data := .seq ys }) rfl
    have hs2 : (h.push { cls := .type "tuple", data := .seq ys }).objs.size = h.objs.size + 1 := Heap.size_push ..
    rw [hsz] at hT hs2 ⊢
    obtain ⟨az, f, oa, z1, z2, z3⟩ := L.z
    refine hQ _ tk ys L.sz (fun j xs hx => L.ys j xs (by have := (List.getElem?_eq_some_iff.mp hx).1; rw [src.1]; exact this) hx) ⟨⟨az, f, oa, up _ _ z1, up _ _ z2, z3⟩, up _ _ L.ti, fun j a hj => ?_⟩ hT hs2 fun c o hc e => up c o (L.fr c o hc e)
    have hjl := (List.getElem?_eq_some_iff.mp hj).1
    have := L.it j a hj
    rw [if_pos hjl] at this
    exact this.moved fun o e => up _ o e
theorem zipN_end2 {Q : Fin → Shared → Prop} (hh : A.handled = none) (hn : 0 < as.length) (hl : as.length ≤ 8) (st : ZS2 s.heap b as t) (src : ZSrc s.heap as xss) (hb : ∀ a ∈ as, a.2 < b) {j0 : Nat} {xs0 : Array Value} (hj0 : xss[j0]? = some xs0) (h0 : xs0.size = t) (hlt : ∀ (j : Nat) xs, j < j0 → xss[j]? = some xs → t < xs.size)
    (hE : ∀ h' tk e, (∀ c o, c < b ∨ b + as.length + 3 ≤ c → s.heap.get? c = some o → h'.get? c = some o) → (∃ o, h'.get? e = some o ∧ o.cls = .type "StopIteration") → E (.ref e) { s with heap := h', toks := tk }) :
    wpAny (model prog w) A (Builtin.«zip.__next__» ⟨[.ref (b + as.length + 2)], []⟩) Q E s := by
  obtain ⟨hp, g, d, tk0, os⟩ := s
  obtain ⟨az, f, oa, z1, z2, z3⟩ := st.z
  show wpAny _ _ (field (.ref (b + as.length + 2)) 2 >>= _) _ _ _
  refine wpAny_bind (wpAny_field z1 rfl (x := .bool false) rfl ?_)
  show wpAny _ _ (field (.ref (b + as.length + 2)) 3 >>= _) _ _ _
  refine wpAny_bind (wpAny_field z1 rfl (x := .ref (b + as.length)) rfl ?_)
  refine wpAny_bind (wpAny_seqItems st.ti rfl ?_)
  have hne : ((List.range as.length).map fun j => Value.ref (b + j)).toArray.isEmpty = false := by
    cases h : as.length with
    | zero => omega
    | succ n => simp [List.range_succ_eq_map]
  simp only [hne, Bool.false_eq_true, if_false]
  show wpAny _ _ (Builtin.SmallTypes.ownedTupleIsFree (.ref (b + as.length + 2)) >>= _) _ _ _
  refine wpAny_bind ?_
  unfold Builtin.SmallTypes.ownedTupleIsFree
  refine wpAny_bind (wpAny_field z1 rfl (x := rawInt az) rfl ?_)
  show wpAny _ _ (loadIfAlive ((az : Int).toNat) >>= _) _ _ _
  rw [Int.toNat_natCast]
  refine wpAny_bind (loadIfAlive_some z2 ?_)
  simp only [Option.isNone_some, Bool.false_eq_true, if_false]
  refine wpAny_bind (wpAny_field z1 rfl (x := .bool f) rfl ?_)
  have lt2 : ∀ a ∈ as, a.2 ≠ b + as.length + 2 := fun a ha => by have := hb a ha; omega
  have L00 : ZL2 hp hp b as xss t 0 #[] := ⟨⟨az, f, oa, z1, z2, z3⟩, st.ti, rfl, st.it, src, fun j xs hj => absurd hj (Nat.not_lt_zero _), rfl, fun c o _ e => e⟩
  have flag : wpAny (model prog w) A (if (Value.bool f != Value.bool true) = true then do
      setField (.ref (b + as.length + 2)) 1 (.bool true)
      pure false
    else pure false) (fun r s' => r = false ∧ ∃ g0, s' = ⟨g0, g, d, tk0, os⟩ ∧ ZL2 hp g0 b as xss t 0 #[]) E ⟨hp, g, d, tk0, os⟩ := by
    cases f with
    | true =>
      rw [if_neg (show ¬ ((Value.bool true != Value.bool true) = true) from Bool.false_ne_true)]
      exact wpAny_pure ⟨rfl, hp, rfl, L00⟩
    | false =>
      rw [if_pos (show (Value.bool false != Value.bool true) = true from rfl)]
      refine wpAny_bind (wpAny_setField_rec z1 (by simp) fun h₃ he₃ hs₃ => wpAny_pure ⟨rfl, h₃, rfl, ?_⟩)
      replace hs₃ : Heap.SameBut (b + as.length + 2) hp h₃ := hs₃
      exact ⟨⟨az, true, oa, he₃, hs₃.extBut _ _ (by (first | omega | (show @Ne Nat _ _; omega))) z2, z3⟩, hs₃.extBut _ _ (by (first | omega | (show @Ne Nat _ _; omega))) st.ti, rfl, fun j a hj => (st.it j a hj).moved fun o e => hs₃.extBut _ _ (by have := (List.getElem?_eq_some_iff.mp hj).1; (first | omega | (show @Ne Nat _ _; omega))) e,
        src.moved fun a ha o e => hs₃.extBut _ _ (lt2 a ha) e, fun j xs hj => absurd hj (Nat.not_lt_zero _), hs₃.1, fun c o hc e => hs₃.extBut _ _ (by (first | omega | (show @Ne Nat _ _; omega))) e⟩
  have hj0l : j0 < as.length := by rw [src.1]; exact (List.getElem?_eq_some_iff.mp hj0).1
  refine wpAny_mono flag (fun r s' ⟨hr, g0, es, L0⟩ => ?_) fun _ _ e => e
  subst hr es
  simp only [Bool.false_eq_true, if_false]
  refine wpAny_bind ?_
  rw [List.forIn_toArray]
  refine forIn_yields (fun i r s' => i ≤ j0 ∧ ∃ h tk ys, r = ⟨none, ys⟩ ∧ s' = ⟨h, g, d, tk, os⟩ ∧ ZL2 hp h b as xss t i ys) _ 0 _ _ (fun j x r s' hx ⟨hle, h, tk, ys, hr, es, L⟩ => ?_) (fun r s' ⟨hle, h, tk, ys, hr, es, L⟩ => ?_) ⟨Nat.zero_le _, g0, tk0, #[], rfl, rfl, L0⟩
  · subst hr es
    rw [Nat.zero_add] at L hle ⊢
    obtain ⟨hj, rfl⟩ : j < as.length ∧ x = .ref (b + j) := by
      rw [List.getElem?_map] at hx
      by_cases z : j < as.length
      · rw [List.getElem?_range z] at hx
        exact ⟨z, (Option.some.inj hx).symm⟩
      · rw [List.getElem?_eq_none (by rw [List.length_range]; omega)] at hx
        cases hx
    obtain ⟨a, ha⟩ : ∃ a, as[j]? = some a := ⟨_, List.getElem?_eq_getElem hj⟩
    obtain ⟨xs, hxs⟩ : ∃ xs, xss[j]? = some xs := ⟨_, List.getElem?_eq_getElem (by rw [← src.1]; exact hj)⟩
    have hax := hb a (List.mem_of_getElem? ha)
    refine wpAny_bind (wpAny_holding ?_)
    show wpAny _ _ (Builtin.SmallTypes.nextOf (.ref (b + j)) >>= _) _ _ ⟨h, g, d, tk, os⟩
    have it0 := L.it j a ha
    rw [if_neg (Nat.lt_irrefl j)] at it0
    by_cases z : j = j0
    · subst z
      rw [hj0] at hxs
      cases hxs
      subst h0
      refine wpAny_bind ((draws_G (P := prog) (w := w) (A := A) a.1 hh (b + j) a.2 (by (first | omega | (show @Ne Nat _ _; omega))) xs0).done ⟨h, g, d, tk, os⟩ _ _ ⟨it0, L.src.2 j a xs0 ha hj0⟩ fun q e hq he => ?_)
      replace hq : Heap.ExtBut (b + j) h q := hq
      exact hE q tk e (fun c o hc x => hq _ _ (by (first | omega | (show @Ne Nat _ _; omega))) (L.fr c o hc x)) he
    · refine wpAny_bind ((draws_G (P := prog) (w := w) (A := A) a.1 hh (b + j) a.2 (by (first | omega | (show @Ne Nat _ _; omega))) xs).item t _ _ _ (hlt j xs (by omega) hxs) ⟨it0, L.src.2 j a xs ha hxs⟩ fun x1 h1 tk1 hx1 sn1 sb1 => wpAny_pure ?_)
      exact wpAny_pure ⟨_, rfl, by omega, h1, tk1, _, rfl, rfl, L.step hb ha hxs hx1 sn1.1 sb1⟩
  · rw [Nat.zero_add, List.length_map, List.length_range] at hle
    omega
/-- before a turn of a zip whose tuples all live on -/
def ZS (h : Heap) (b : Nat) (as : ZAs) (t : Nat) : Prop := ZSt h b as .none t ∨ ZS2 h b as t
theorem pyNext_zipS_item {Q : Option Value → Shared → Prop} (hh : A.handled = none) (hn : 0 < as.length) (hl : as.length ≤ 8) (st : ZS s.heap b as t) (src : ZSrc s.heap as xss) (hb : ∀ a ∈ as, a.2 < b) (hlt : ∀ xs ∈ xss, t < xs.size)
    (hQ : ∀ h' tk (ys : Array Value), ys.size = as.length → (∀ (j : Nat) xs, xss[j]? = some xs → ys[j]? = xs[t]?) → ZS h' b as (t + 1) → h'.get? s.heap.objs.size = some { cls := .type "tuple", data := .seq ys } → h'.objs.size = s.heap.objs.size + 1 →
      (∀ c o, c < b ∨ b + as.length + 3 ≤ c → s.heap.get? c = some o → h'.get? c = some o) → Q (some (.ref s.heap.objs.size)) { s with heap := h', toks := tk }) :
    wpAny (model prog w) A (pyNext (.ref (b + as.length + 2))) Q E s := by
  rcases st with st | st
  · have hlt2 : b + as.length + 2 < s.heap.objs.size := Heap.lt_size st.z
    exact pyNext_zipN_item hh hn hl st src hb hlt fun h' tk ys y1 y2 st' hT hs hk => hQ h' tk ys y1 y2 (.inr ⟨⟨_, false, _, st'.z, hT, by omega⟩, st'.ti, st'.it⟩) hT hs hk
  · obtain ⟨az, f, oa, z1, z2, z3⟩ := id st.z
    have hT : s.TypeIs (.ref (b + as.length + 2)) "zip" := ⟨_, z1, rfl⟩
    unfold pyNext
    exact wpAny_bind (wpAny_attempt (wpAny_callSpecial?_slot (name := Str.ofString "__next__") hT F.slot_zip_next
      (wpAny_call_entry F.slot_zip_next hT F.entry_zip_next
        (zipN_item2 hh hn hl st src hb hlt fun h' tk ys y1 y2 b1 b2 b3 b4 => wpAny_pure (hQ h' tk ys y1 y2 (.inr b1) b2 b3 b4)) (F.args_zip_next_1 _))))
theorem pyNext_zipS_end {Q : Option Value → Shared → Prop} (hh : A.handled = none) (hn : 0 < as.length) (hl : as.length ≤ 8) (st : ZS s.heap b as t) (src : ZSrc s.heap as xss) (hb : ∀ a ∈ as, a.2 < b) {j0 : Nat} {xs0 : Array Value} (hj0 : xss[j0]? = some xs0) (h0 : xs0.size = t) (hlt : ∀ (j : Nat) xs, j < j0 → xss[j]? = some xs → t < xs.size)
    (hQ : ∀ h' tk, (∀ c o, c < b ∨ b + as.length + 3 ≤ c → s.heap.get? c = some o → h'.get? c = some o) → Q none { s with heap := h', toks := tk }) : wpAny (model prog w) A (pyNext (.ref (b + as.length + 2))) Q E s := by
  rcases st with st | st
  · exact pyNext_zipN_end hh hn hl st src hb hj0 h0 hlt hQ
  · obtain ⟨az, f, oa, z1, z2, z3⟩ := id st.z
    have hT : s.TypeIs (.ref (b + as.length + 2)) "zip" := ⟨_, z1, rfl⟩
    unfold pyNext
    refine wpAny_bind (wpAny_attempt (wpAny_callSpecial?_slot (name := Str.ofString "__next__") hT F.slot_zip_next
      (wpAny_call_entry F.slot_zip_next hT F.entry_zip_next (zipN_end2 hh hn hl st src hb hj0 h0 hlt fun h' tk e hk he => ?_) (F.args_zip_next_1 _))))
    obtain ⟨o, ho, hc⟩ := he
    refine wpAny_bind (wpAny_isInstance (T := "StopIteration") (b := true) ⟨o, ho, hc⟩ isSubtype_stop ?_)
    exact wpAny_pure (hQ _ _ hk)
end
end DL
set_option maxHeartbeats 1000000
namespace DL
open PySem PySem.Spec PyProof.Rows L2
/-! ### list(zip(..)) -/
theorem zip_no_len : typeLookup (.type "zip") "__len__" = pure none := by rw [typeLookup_type, builtinLookup_eq_fast]; kernel_rfl
theorem zip_no_hint : typeLookup (.type "zip") "__length_hint__" = pure none := by rw [typeLookup_type, builtinLookup_eq_fast]; kernel_rfl
/-- the tuples that were made, at rising addresses -/
structure ZG (xss : List (Array Value)) (lo : Nat) (h : Heap) (ts : List Nat) : Prop where
  rise : ts.Pairwise (· < ·)
  above : ∀ a ∈ ts, lo < a
  at' : ∀ (j : Nat) (a : Nat), ts[j]? = some a → ∃ ys : Array Value, h.get? a = some { cls := .type "tuple", data := .seq ys } ∧ ys.size = xss.length ∧ ∀ (k : Nat) xs, xss[k]? = some xs → ys[k]? = xs[j]?
theorem ZG.there {xss : List (Array Value)} {lo : Nat} {h : Heap} {ts : List Nat} (g : ZG xss lo h ts) {a : Nat} (ha : a ∈ ts) : a < h.objs.size := by
  obtain ⟨j, hj⟩ := List.mem_iff_getElem?.mp ha
  obtain ⟨_, e, _⟩ := g.at' j a hj
  exact Heap.lt_size e
theorem ZG.moved {xss : List (Array Value)} {lo : Nat} {h h' : Heap} {ts : List Nat} (g : ZG xss lo h ts) (e : ∀ c o, lo < c → h.get? c = some o → h'.get? c = some o) : ZG xss lo h' ts :=
  ⟨g.rise, g.above, fun j a hj => by obtain ⟨ys, e1, e2, e3⟩ := g.at' j a hj; exact ⟨ys, e _ _ (g.above a (List.mem_of_getElem? hj)) e1, e2, e3⟩⟩
theorem ZS.moved {h h' : Heap} {b : Nat} {as : ZAs} {t S : Nat} (st : ZS h b as t) (hS : b + as.length + 3 ≤ S) (hSo : ∀ c o, c ≠ S → h.get? c = some o → h'.get? c = some o) (hal : ∀ o, h.get? S = some o → ∃ o', h'.get? S = some o') : ZS h' b as t := by
  rcases st with st | st
  · obtain ⟨ys, y1, y2⟩ := st.to
    exact .inl ⟨hSo _ _ (by (first | omega | (show @Ne Nat _ _; omega))) st.z, hSo _ _ (by (first | omega | (show @Ne Nat _ _; omega))) st.ti, ⟨ys, y1, hSo _ _ (by (first | omega | (show @Ne Nat _ _; omega))) y2⟩, fun j a hj => (st.it j a hj).moved fun o e => hSo _ _ (by have := (List.getElem?_eq_some_iff.mp hj).1; (first | omega | (show @Ne Nat _ _; omega))) e⟩
  · obtain ⟨az, f, oa, z1, z2, z3⟩ := st.z
    obtain ⟨oa', z2'⟩ : ∃ o', h'.get? az = some o' := by
      by_cases z : az = S
      · subst z; exact hal _ z2
      · exact ⟨_, hSo _ _ z z2⟩
    exact .inr ⟨⟨az, f, oa', hSo _ _ (by (first | omega | (show @Ne Nat _ _; omega))) z1, z2', z3⟩, hSo _ _ (by (first | omega | (show @Ne Nat _ _; omega))) st.ti, fun j a hj => (st.it j a hj).moved fun o e => hSo _ _ (by have := (List.getElem?_eq_some_iff.mp hj).1; (first | omega | (show @Ne Nat _ _; omega))) e⟩
section
variable {prog : Program} {w : World} {A : Around} {E : Value → Shared → Prop} {s : Shared} {b S n m : Nat} {as : ZAs} {xss : List (Array Value)} {R : Result → Shared → Prop}
/-- the shortest source ends at m, at j0 the first such -/
structure ZEnd (xss : List (Array Value)) (m : Nat) : Prop where
  le : ∀ xs ∈ xss, m ≤ xs.size
  at' : ∃ (j0 : Nat) (xs0 : Array Value), xss[j0]? = some xs0 ∧ xs0.size = m ∧ ∀ (j : Nat) xs, j < j0 → xss[j]? = some xs → m < xs.size
theorem zl_loop (hh : A.handled = none) (hn : 0 < as.length) (hl : as.length ≤ 8) (hb : ∀ a ∈ as, a.2 < b) (hS : b + as.length + 3 ≤ S) (hm : ZEnd xss m) (hms : m ≤ sizeLine) (res : Value) {h₁ : Heap}
    (hR : ∀ h' tk acc c ts, (∀ c o, c < b ∨ b + as.length + 3 ≤ c → c ≠ S → h₁.get? c = some o → h'.get? c = some o) → h'.get? S = some { cls := .type "list", dict := none, data := .seq acc c, slots := #[] } → ts.length = m → ZG xss S h' ts →
      acc.toList = ts.map Value.ref → R (.ok (.ret res)) { s with heap := h', toks := tk }) :
    ∀ (k i : Nat) (h : Heap) (tk c : Nat) (acc : Array Value) (ts : List Nat), m - i = k → i ≤ m → ZS h b as i → ZSrc h as xss → (∀ c o, c < b ∨ b + as.length + 3 ≤ c → c ≠ S → h₁.get? c = some o → h.get? c = some o) →
      h.get? S = some { cls := .type "list", dict := none, data := .seq acc c, slots := #[] } → acc.toList = ts.map Value.ref → ts.length = i → ZG xss S h ts →
      codeAny (model prog w) A (.builtin "list.extend.loop" ⟨[.ref S, .ref (b + as.length + 2), res], []⟩) R { s with heap := h, toks := tk } := by
  intro k
  induction k with
  | zero =>
    intro i h tk c acc ts hk hi hst hD hkeep hSo hacc hal hG
    have hin : i = m := by omega
    subst hin
    obtain ⟨j0, xs0, e1, e2, e3⟩ := hm.at'
    refine codeAny_builtin PySem.F.entry_extend_loop ?_
    rw [Around.under_plainId PySem.F.plain_extend_loop _]
    show wpAny _ A.in1 (pyNext (.ref (b + as.length + 2)) >>= _) _ _ _
    refine wpAny_bind (pyNext_zipS_end (s := { s with heap := h, toks := tk }) (A := A.in1) hh hn hl hst hD hb e1 e2 e3 fun h' tk' he => ?_)
    exact wpAny_pure (hR h' tk' acc c ts (fun c o hc n e => he c o hc (hkeep c o hc n e)) (he S _ (.inr hS) hSo) hal (hG.moved fun c o hc e => he c o (.inr (by omega)) e) hacc)
  | succ k ih =>
    intro i h tk c acc ts hk hi hst hD hkeep hSo hacc hal hG
    have hlt : i < m := by omega
    have hsz : acc.size = i := by rw [← Array.length_toList, hacc, List.length_map, hal]
    refine codeAny_builtin PySem.F.entry_extend_loop ?_
    rw [Around.under_plainId PySem.F.plain_extend_loop _]
    show wpAny _ A.in1 (pyNext (.ref (b + as.length + 2)) >>= _) _ _ _
    refine wpAny_bind (pyNext_zipS_item (s := { s with heap := h, toks := tk }) hh hn hl hst hD hb (fun xs hx => Nat.lt_of_lt_of_le hlt (hm.le xs hx)) fun h' tk' ys hys hyx hst' ht hz hkp => ?_)
    dsimp only at ht hz hkp ⊢
    have hS' := hkp S _ (.inr hS) hSo
    have up : ∀ b o, b ≠ S → h'.get? b = some o → (h'.update S (Obj.mapSeq (·.push (Value.ref h.objs.size)))).get? b = some o := fun b o hb e => (Heap.get?_update_other _ _ (Ne.symm hb)).trans e
    have hSl : S < h.objs.size := Heap.lt_size hSo
    have hSx : (h'.update S (Obj.mapSeq (·.push (Value.ref h.objs.size)))).get? S = _ := Heap.get?_update_self _ hS' rfl
    have src' : ZSrc h' as xss := hD.moved fun a ha o e => hkp _ _ (.inl (hb a ha)) e
    show wpAny _ A.in1 (updateSeq S (·.push (Value.ref h.objs.size)) >>= _) _ _ _
    refine wpAny_bind ?_
    refine wpAny_updateSeq hS' rfl (wpAny_pure ⟨plainId_quiet PySem.F.plain_extend_loop _, ih (i + 1) _ tk' _ (acc.push (Value.ref h.objs.size)) (ts ++ [h.objs.size]) (by omega) hlt (hst'.moved hS up fun o _ => ⟨_, hSx⟩)
      (src'.moved fun a ha o e => up _ _ (by have := hb a ha; (first | omega | (show @Ne Nat _ _; omega))) e)
      (fun c o hc n e => up c o n (hkp c o hc (hkeep c o hc n e))) hSx (by rw [Array.toList_push, hacc, List.map_append]; rfl) (by rw [List.length_append, hal]; rfl) ⟨?_, ?_, ?_⟩⟩) (by rw [hsz]; omega) (by show (acc.push (Value.ref h.objs.size)).size ≤ sizeLine + 1; rw [Array.size_push, hsz]; omega)
    · refine List.pairwise_append.mpr ⟨hG.rise, List.pairwise_singleton _ _, fun a ha b hb => ?_⟩
      rw [List.mem_singleton.mp hb]
      exact hG.there ha
    · intro a ha
      rcases List.mem_append.mp ha with ha | ha
      · exact hG.above a ha
      · rw [List.mem_singleton.mp ha]; exact hSl
    · intro j a hj
      rcases Nat.lt_trichotomy j ts.length with h1 | h1 | h1
      · rw [List.getElem?_append_left h1] at hj
        obtain ⟨ys', e1, e2, e3⟩ := hG.at' j a hj
        have hb := hG.above a (List.mem_of_getElem? hj)
        exact ⟨ys', up a _ (Nat.ne_of_gt hb) (hkp a _ (.inr (by omega)) e1), e2, e3⟩
      · subst h1
        have hb : h.objs.size = a := by simpa using hj
        subst hb
        exact ⟨ys, up _ _ (Nat.ne_of_gt hSl) ht, by rw [hys, hD.1], fun k xs hx => by rw [hal]; exact hyx k xs hx⟩
      · have hnone : (ts ++ [h.objs.size])[j]? = none := List.getElem?_eq_none (by rw [List.length_append, List.length_singleton]; omega)
        rw [hnone] at hj; cases hj
theorem ZS.typeIs {t : Nat} (st : ZS s.heap b as t) : s.TypeIs (.ref (b + as.length + 2)) "zip" := by
  rcases st with st | st
  · exact ⟨_, st.z, rfl⟩
  · obtain ⟨_, _, _, z1, _⟩ := st.z
    exact ⟨_, z1, rfl⟩
theorem zl_extend (hh : A.handled = none) (hn : 0 < as.length) (hl : as.length ≤ 8) (hb : ∀ a ∈ as, a.2 < b) (hS : b + as.length + 3 ≤ S) (hm : ZEnd xss m) (hms : m ≤ sizeLine) (res : Value) (c₀ : Nat) (hst : ZSt s.heap b as .none 0) (src : ZSrc s.heap as xss)
    (hSo : s.heap.get? S = some { cls := .type "list", data := .seq #[] c₀ })
    (hR : ∀ h' tk acc c ts, (∀ c o, c < b ∨ b + as.length + 3 ≤ c → c ≠ S → s.heap.get? c = some o → h'.get? c = some o) → h'.get? S = some { cls := .type "list", dict := none, data := .seq acc c, slots := #[] } → ts.length = m → ZG xss S h' ts →
      acc.toList = ts.map Value.ref → R (.ok (.ret res)) { s with heap := h', toks := tk }) :
    wpAny (model prog w) A.in1 (Builtin.List.listExtendWith (.ref S) (.ref (b + as.length + 2)) res)
      (fun fin s' => match fin with | .done f => R (.ok f) s' | .again c' => c'.quiet = true ∧ codeAny (model prog w) A c' R s') (fun e s' => R (.error e) s') s := by
  have hSI : S ≠ b + as.length + 2 := by omega
  have hT : s.TypeIs (.ref (b + as.length + 2)) "zip" := ⟨_, hst.z, rfl⟩
  unfold Builtin.List.listExtendWith
  refine wpAny_bind (wpAny_typeOf hT ?_)
  have h1 : Builtin.List.listSameRef (.ref S) (.ref (b + as.length + 2)) = false := by simp [Builtin.List.listSameRef]; exact hSI
  have h2 : (Value.type "zip" == Value.type "list") = false := by decide
  have h3 : (Value.type "zip" == Value.type "tuple") = false := by decide
  simp only [h1, h2, h3, Bool.or_false, Bool.false_eq_true, if_false]
  refine wpAny_bind (wpAny_pyIter_zip hst.z ?_)
  refine wpAny_bind (wpAny_holding ?_)
  unfold Builtin.List.listLengthHint
  refine wpAny_bind (wpAny_specialOf hT zip_no_len ?_)
  show wpAny _ A.in1 (specialOf (Value.ref (b + as.length + 2)) (Str.ofString "__length_hint__") >>= _) _ _ _
  refine wpAny_bind (wpAny_specialOf hT zip_no_hint ?_)
  refine wpAny_pure ?_
  show wpAny _ A.in1 (rule "list.extend.makes-room" >>= fun _ => Builtin.List.listTouch (.ref S) >>= fun _ =>
    again (.builtin "list.extend.loop" ⟨[.ref S, .ref (b + as.length + 2), res], []⟩)) _ _ _
  refine wpAny_bind (wpAny_rule ?_)
  refine wpAny_bind ?_
  show wpAny _ A.in1 (updateSeq S (·.push .none) >>= fun _ => updateSeq S (·.pop)) _ _ _
  refine wpAny_bind (wpAny_updateSeq hSo rfl ?_)
  have hS₂ := Heap.get?_update_self (Obj.mapSeq (·.push Value.none)) hSo rfl
  refine wpAny_updateSeq (hz := by seq_fits) hS₂ rfl ?_
  have hS₃ := Heap.get?_update_self (Obj.mapSeq (·.pop)) hS₂ rfl
  have oth : ∀ b o, b ≠ S → s.heap.get? b = some o → ((s.heap.update S (Obj.mapSeq (·.push Value.none))).update S (Obj.mapSeq (·.pop))).get? b = some o :=
    fun b o hb e => (Heap.get?_update_other _ _ (Ne.symm hb)).trans ((Heap.get?_update_other _ _ (Ne.symm hb)).trans e)
  refine wpAny_pure ⟨plainId_quiet F.plain_extend_loop _, zl_loop (h₁ := s.heap) hh hn hl hb hS hm hms res hR m 0 _ s.toks _ #[] [] (Nat.sub_zero _) (Nat.zero_le _) (ZS.moved (.inl hst) hS oth fun o _ => ⟨_, hS₃⟩) (src.moved fun a ha o e => oth _ _ (by have := hb a ha; (first | omega | (show @Ne Nat _ _; omega))) e)
    (fun c o _ n e => oth c o n e) hS₃ rfl rfl ⟨List.Pairwise.nil, (fun _ ha => nomatch ha), (fun j a hj => by simp at hj)⟩⟩
theorem zl_init (hh : A.handled = none) (hn : 0 < as.length) (hl : as.length ≤ 8) (hb : ∀ a ∈ as, a.2 < b) (hS : b + as.length + 3 ≤ S) (hm : ZEnd xss m) (hms : m ≤ sizeLine) (hst : ZSt s.heap b as .none 0) (src : ZSrc s.heap as xss)
    (hSo : s.heap.get? S = some { cls := .type "list", data := .seq #[] })
    (hR : ∀ h' tk acc c ts, (∀ c o, c < b ∨ b + as.length + 3 ≤ c → c ≠ S → s.heap.get? c = some o → h'.get? c = some o) → h'.get? S = some { cls := .type "list", dict := none, data := .seq acc c, slots := #[] } → ts.length = m → ZG xss S h' ts →
      acc.toList = ts.map Value.ref → R (.ok (.ret .none)) { s with heap := h', toks := tk }) :
    wpAny (model prog w) A.in1 (Builtin.«list.__init__» ⟨[.ref S, .ref (b + as.length + 2)], []⟩)
      (fun fin s' => match fin with | .done f => R (.ok f) s' | .again c' => c'.quiet = true ∧ codeAny (model prog w) A c' R s') (fun e s' => R (.error e) s') s := by
  show wpAny _ A.in1 (do let old ← Builtin.List.listItems (.ref S); Builtin.List.listUpdate (.ref S) (fun _ => #[]); letGo old.toList.reverse; Builtin.List.listExtendWith (.ref S) (.ref (b + as.length + 2)) .none) _ _ s
  refine wpAny_bind ?_
  unfold Builtin.List.listItems
  refine wpAny_bind (wpAny_seqItems hSo rfl (wpAny_pure ?_))
  show wpAny _ A.in1 (updateSeq S (fun _ => #[]) >>= fun _ => letGo (#[] : Array Value).toList.reverse >>= fun _ => Builtin.List.listExtendWith (.ref S) (.ref (b + as.length + 2)) .none) _ _ s
  refine wpAny_bind (wpAny_updateSeq hSo rfl ?_)
  have hS₂ := Heap.get?_update_self (Obj.mapSeq (fun _ => (#[] : Array Value))) hSo rfl
  have oth : ∀ b o, b ≠ S → s.heap.get? b = some o → (s.heap.update S (Obj.mapSeq (fun _ => (#[] : Array Value)))).get? b = some o :=
    fun b o hb e => (Heap.get?_update_other _ _ (Ne.symm hb)).trans e
  refine wpAny_bind (wpAny_letGo ?_)
  obtain ⟨ys, y1, y2⟩ := hst.to
  refine zl_extend (s := { s with heap := s.heap.update S (Obj.mapSeq (fun _ => (#[] : Array Value))) }) hh hn hl hb hS hm hms .none _ ⟨oth _ _ (by (first | omega | (show @Ne Nat _ _; omega))) hst.z, oth _ _ (by (first | omega | (show @Ne Nat _ _; omega))) hst.ti, ⟨ys, y1, oth _ _ (by (first | omega | (show @Ne Nat _ _; omega))) y2⟩, fun j a hj => (hst.it j a hj).moved fun o e => oth _ _ (by have := (List.getElem?_eq_some_iff.mp hj).1; (first | omega | (show @Ne Nat _ _; omega))) e⟩
    (src.moved fun a ha o e => oth _ _ (by have := hb a ha; (first | omega | (show @Ne Nat _ _; omega))) e) hS₂ fun h' tk acc c ts hk hS' hl hG hacc => ?_
  exact hR h' tk acc c ts (fun c o hc n e => hk c o hc n (oth c o n e)) hS' hl hG hacc
/-- list(z), z a new zip -/
theorem zl_call {Q : Value → Shared → Prop} (hh : A.handled = none) (hn : 0 < as.length) (hl : as.length ≤ 8) (hb : ∀ a ∈ as, a.2 < b) (hst : ZSt s.heap b as .none 0) (src : ZSrc s.heap as xss) (hm : ZEnd xss m) (hms : m ≤ sizeLine)
    (hQ : ∀ h' tk acc c ts, (∀ c o, c < b ∨ b + as.length + 3 ≤ c → s.heap.get? c = some o → h'.get? c = some o) → h'.get? s.heap.objs.size = some { cls := .type "list", dict := none, data := .seq acc c, slots := #[] } → ts.length = m → ZG xss s.heap.objs.size h' ts →
      acc.toList = ts.map Value.ref → Q (.ref s.heap.objs.size) { s with heap := h', toks := tk }) :
    wpAny (model prog w) A (call (.type "list") [.ref (b + as.length + 2)]) Q E s := by
  have hzl : b + as.length + 2 < s.heap.objs.size := Heap.lt_size hst.z
  refine callType_codes (Q₁ := fun obj s₁ => obj = .ref s.heap.objs.size ∧ s₁ = { s with heap := s.heap.push { cls := .type "list", data := .seq #[] } }) F.called_list (F.typeCall_list_1 _) F.entry_list_init
    (code_list_new _ ⟨rfl, rfl⟩) fun obj s₁ h₁ => ?_
  obtain ⟨rfl, rfl⟩ := h₁
  have hS : (s.heap.push { cls := .type "list", data := .seq #[] }).get? s.heap.objs.size = some { cls := .type "list", data := .seq #[] } := Heap.get?_push_size _ rfl
  have up : ∀ c o, s.heap.get? c = some o → (s.heap.push { cls := .type "list", data := .seq #[] }).get? c = some o := fun c o e => Heap.get?_push_of_some _ e
  obtain ⟨ys, y1, y2⟩ := hst.to
  refine ⟨⟨_, hS, rfl⟩, F.args_list_init_2 _ _, zl_init (s := { s with heap := s.heap.push { cls := .type "list", data := .seq #[] } }) (S := s.heap.objs.size) hh hn hl hb (by omega) hm hms ⟨up _ _ hst.z, up _ _ hst.ti, ⟨ys, y1, up _ _ y2⟩, fun j a hj => (hst.it j a hj).moved fun o e => up _ _ e⟩
    (src.moved fun a ha o e => up _ _ e) hS fun h' tk acc c ts hk hS' hl hG hacc => ?_⟩
  exact ⟨rfl, hQ h' tk acc c ts (fun c o hc e => hk c o hc (Nat.ne_of_lt (Heap.lt_size e)) (up c o e)) hS' hl hG hacc⟩
end
end DL
set_option maxHeartbeats 1000000
namespace DL
open PySem PySem.Spec PyProof.Rows L2
/-! ### several objects laid at once -/
theorem inv_grow {X : Cx} {pins : List (Addr × Obj)} {σ : L2.St} {H H' : Hp} {s : Shared} {h' : Heap} {tk : Nat} (I : Inv X pins σ H s) (hk : ∀ b o, s.heap.get? b = some o → h'.get? b = some o) (kp : ∀ b u, H b = some u → H' b = some u)
    (old : ∀ b o, s.heap.get? b = some o → H b = none → H' b = none) (ok : ∀ b u, H' b = some u → H b = some u ∨ ObjOk X.prog X.w H' h' b u) : Inv X pins σ H' { s with heap := h', toks := tk } := by
  refine I.call' (ch := []) rfl ⟨fun b o q _ _ _ => hk b o q, fun b o q _ _ _ => ⟨o.slots, hk b o q⟩, fun b o q n _ => old b o q n, fun b o q _ => ⟨o, hk b o q⟩, fun b xs q => kp b _ q, fun b o u q => kp b _ q, fun b ps q => ⟨#[], by rw [kp b _ q]; simp⟩⟩ (fun b u q => ?_) I.bare fun b z => by simp at z
  rcases ok b u q with h | h
  · exact (I.hok b u h).stay (fun d v _ y => hk d v y) (fun d y => kp d _ y) fun d xs y => kp d _ y
  · exact h
def updL : Hp → List (Nat × HO) → Hp
  | H, [] => H
  | H, (a, o) :: r => updL (upd H a o) r
theorem updL_off {b : Nat} : ∀ {l : List (Nat × HO)} {H : Hp}, b ∉ l.map (·.1) → updL H l b = H b
  | [], _, _ => rfl
  | (a, o) :: r, H, h => by
    rw [List.map_cons, List.mem_cons, not_or] at h
    show updL (upd H a o) r b = H b
    rw [updL_off h.2, upd_ne h.1]
theorem updL_at {b : Nat} {u : HO} : ∀ {l : List (Nat × HO)} {H : Hp}, (l.map (·.1)).Nodup → (b, u) ∈ l → updL H l b = some u
  | (a, o) :: r, H, nd, h => by
    rw [List.map_cons, List.nodup_cons] at nd
    show updL (upd H a o) r b = some u
    rcases List.mem_cons.mp h with e | h
    · cases e
      rw [updL_off nd.1, upd_same]
    · exact updL_at nd.2 h
theorem updL_cases {b : Nat} {u : HO} {l : List (Nat × HO)} {H : Hp} (nd : (l.map (·.1)).Nodup) (e : updL H l b = some u) : (b, u) ∈ l ∨ (b ∉ l.map (·.1) ∧ H b = some u) := by
  by_cases z : b ∈ l.map (·.1)
  · obtain ⟨⟨a, o⟩, h1, h2⟩ := List.mem_map.mp z
    cases h2
    rw [updL_at nd h1] at e
    cases e
    exact .inl h1
  · rw [updL_off z] at e
    exact .inr ⟨z, e⟩
/-- the columns of rows -/
def colV {α : Type} (d : α) (xss : List (List α)) (j : Nat) : List α := xss.map fun xs => (xs[j]?).getD d
/-- m: the shortest row's length -/
structure MinL {α : Type} (xss : List (List α)) (m : Nat) : Prop where
  le : ∀ xs ∈ xss, m ≤ xs.length
  at' : ∃ (j0 : Nat) (xs0 : List α), xss[j0]? = some xs0 ∧ xs0.length = m ∧ ∀ (j : Nat) xs, j < j0 → xss[j]? = some xs → m < xs.length
/-- tuples at the addresses -/
def TupsAt (K : PySem.W.Frag) (H : Hp) (as : List Addr) (xss : List (List V)) : Prop := as.length = xss.length ∧ ∀ (j : Nat) a xs, as[j]? = some a → xss[j]? = some xs → SqT K H a xs
section
variable {X : Cx}
theorem tups_heap {pins : List (Addr × Obj)} {σ : L2.St} {H : Hp} {s : Shared} (I : Inv X pins σ H s) : ∀ {as : List Addr} {xss : List (List V)}, TupsAt X.K H as xss →
    ∃ uss : List (List Value), uss.length = xss.length ∧ (∀ (j : Nat) xs, xss[j]? = some xs → ∃ us, uss[j]? = some us ∧ Vals xs us ∧ xs.length ≤ sizeLine) ∧ ∀ (j : Nat) a us, as[j]? = some a → uss[j]? = some us → s.heap.IsTuple a us.toArray ∧ a < s.heap.objs.size
  | [], [], _ => ⟨[], rfl, fun j xs h => by simp at h, fun j a us h => by simp at h⟩
  | [], _ :: _, h => by have := h.1; simp at this
  | _ :: _, [], h => by have := h.1; simp at this
  | a :: as, xs :: xss, h => by
    obtain ⟨uss, l, h1, h2⟩ := tups_heap I (as := as) (xss := xss) ⟨by have := h.1; simpa using this, fun j a xs e1 e2 => h.2 (j + 1) a xs (by simpa using e1) (by simpa using e2)⟩
    obtain ⟨its, rv, p, hz⟩ := I.tuple (h.2 0 a xs rfl rfl)
    obtain ⟨o, ho, _⟩ := id p
    refine ⟨its :: uss, by simp [l], fun j ys e => ?_, fun j b us e1 e2 => ?_⟩
    · cases j with
      | zero => cases e; exact ⟨its, rfl, rv, hz⟩
      | succ j => exact h1 j ys (by simpa using e)
    · cases j with
      | zero => cases e1; cases e2; exact ⟨p, Heap.lt_size ho⟩
      | succ j => exact h2 j b us (by simpa using e1) (by simpa using e2)
/-- list(zip(*e)) -/
def tLZS (K : PySem.W.Frag) (te : TE) : TE := fun σ H Q => te σ H fun x H1 => ∃ (a : Addr) (as : List Addr) (xss : List (List V)) (m : Nat), x = .ref a ∧ (SqT K H1 a (as.map V.ref) ∨ SqL K H1 a (as.map V.ref)) ∧ 0 < as.length ∧ as.length ≤ 8 ∧ TupsAt K H1 as xss ∧ MinL xss m ∧
  ∀ (p : Nat) (ts : List Nat), H1 p = none → (∀ t ∈ ts, H1 t = none) → (p :: ts).Nodup → ts.length = m → Q (.ref p) (updL H1 ((p, .lst (ts.map V.ref)) :: ts.zip ((List.range m).map fun j => HO.tup (colV .non xss j))))
theorem zip_keeper {M : Model} {h : Heap} : PySem.W.Looks M h (keeperOf (.type "zip")) .machine := PySem.W.Looks.now
theorem refs_vals : ∀ {as : List Addr} {us : List Value}, Vals (as.map V.ref) us → us = as.map Value.ref
  | [], _, .nil => rfl
  | a :: as, _, .cons r t => by
    rw [List.map_cons, ← refs_vals t]
    rw [show _ = Value.ref a from r]
theorem vals_col {xss : List (List V)} {uss : List (List Value)} {j : Nat} {ys : List Value} (hl : ys.length = xss.length) (hj : ∀ xs ∈ xss, j < xs.length) (h1 : ∀ (k : Nat) xs, xss[k]? = some xs → ∃ us, uss[k]? = some us ∧ Vals xs us ∧ xs.length ≤ sizeLine)
    (h2 : ∀ (k : Nat) us, uss[k]? = some us → ys[k]? = us[j]?) : Vals (colV .non xss j) ys := by
  have gen : ∀ (n : Nat) (xss : List (List V)) (ys : List Value), ys.length = xss.length → (∀ (k : Nat) xs, xss[k]? = some xs → ∃ v u, xs[j]? = some v ∧ ys[k]? = some u ∧ RelV v u) → Vals (colV .non xss j) ys := by
    intro n xss
    induction xss with
    | nil =>
      intro ys hl _
      cases ys with
      | nil => exact .nil
      | cons _ _ => simp at hl
    | cons xs xss ih =>
      intro ys hl h
      cases ys with
      | nil => simp at hl
      | cons y ys =>
        obtain ⟨v, u, e1, e2, r⟩ := h 0 xs rfl
        cases e2
        show Vals (((xs[j]?).getD .non) :: colV .non xss j) (y :: ys)
        rw [e1]
        exact .cons r (ih ys (by simpa using hl) fun k zs hz => by simpa using h (k + 1) zs (by simpa using hz))
  refine gen 0 xss ys hl fun k xs hx => ?_
  obtain ⟨us, eu, r, _⟩ := h1 k xs hx
  obtain ⟨v, ev⟩ : ∃ v, xs[j]? = some v := ⟨_, List.getElem?_eq_getElem (hj xs (List.mem_of_getElem? hx))⟩
  obtain ⟨u, eu2, ru⟩ := r.get ev
  exact ⟨v, u, ev, by rw [h2 k us eu]; exact eu2, ru⟩
theorem pe_listZipS {e : Expr} {te : TE} {p p2 p3 p4 pos : Pos} (hc : X.calm = true) (he : PE X e te) (hg : Gl X "list") (hm : X.mg "list" = none) (hg2 : Gl X "zip") (hm2 : X.mg "zip" = none)
    (hst : starEach [.Starred e p3] X.env = [(true, eval e X.env)]) (hs : starEach [.Call (.Name "zip" p2) [.Starred e p3] [] p4] X.env = (false, eval (.Call (.Name "zip" p2) [.Starred e p3] [] p4) X.env) :: starEach [] X.env) :
    PE X (.Call (.Name "list" p) [.Call (.Name "zip" p2) [.Starred e p3] [] p4] [] pos) (tLZS X.K te) := by
  refine ⟨fun pins s σ H Q I hq => ?_⟩
  refine wpAny_Call_Name_kw (ld_blt I hg hm PyProof.Rows.boot_list ?_)
  refine PyProof.Rows.callWith_type1 ?_ hs rfl
  rw [hs]
  show wpAny _ _ (spliced ((false, eval (.Call (.Name "zip" p2) [.Starred e p3] [] p4) X.env) :: backTo pos (starEach [] X.env))) _ _ s
  refine Calls.spliced_cons ?_
  refine wpAny_Call_Name_kw (ld_blt I hg2 hm2 PyProof.Rows.boot_zip ?_)
  rw [hst]
  refine PySem.W.ks_call (P := fun _ => True) rfl (fun h _ => ⟨.machine, .inr (.inl rfl), zip_keeper⟩) (PySem.W.ks_lone (thn (he.run pins s σ H _ I hq) fun v s1 ⟨y, H1, I1, ry, a, as, xss, m, ey, hx, hn, hl, hT, hM, q⟩ => ?_))
  subst ey
  obtain rfl : v = Value.ref a := ry
  refine StX.star_any I1 hx fun us s2 I2 rv => ⟨True.intro, ?_⟩
  have eus := refs_vals rv
  subst eus
  obtain ⟨uss, lu, hu1, hu2⟩ := tups_heap I2 hT
  -- the sources
  have la : (as.map fun a => ((false, a) : Bool × Nat)).length = as.length := List.length_map ..
  have hb : ∀ a ∈ (as.map fun a => ((false, a) : Bool × Nat)), a.2 < s2.heap.objs.size := fun a ha => by
    obtain ⟨a0, m0, rfl⟩ := List.mem_map.mp ha
    obtain ⟨j, hj⟩ := List.mem_iff_getElem?.mp m0
    have hjl : j < uss.length := by rw [lu, ← hT.1]; exact (List.getElem?_eq_some_iff.mp hj).1
    exact (hu2 j a0 _ hj (List.getElem?_eq_getElem hjl)).2
  have src : ZSrc s2.heap (as.map fun a => ((false, a) : Bool × Nat)) (uss.map List.toArray) := ⟨by rw [la, List.length_map, lu, hT.1], fun j a xs e1 e2 => by
    rw [List.getElem?_map] at e1 e2
    cases f1 : as[j]? with
    | none => rw [f1] at e1; cases e1
    | some a0 =>
      cases f2 : uss[j]? with
      | none => rw [f2] at e2; cases e2
      | some us0 =>
        rw [f1] at e1
        rw [f2] at e2
        cases e1
        cases e2
        exact (hu2 j a0 us0 f1 f2).1⟩
  have hh := I2.ok.hd hc
  have szs : ∀ (j : Nat) xs us, xss[j]? = some xs → uss[j]? = some us → us.length = xs.length ∧ xs.length ≤ sizeLine := fun j xs us e1 e2 => by
    obtain ⟨us', e3, r, hz⟩ := hu1 j xs e1
    rw [e2] at e3
    cases e3
    exact ⟨r.length.symm, hz⟩
  obtain ⟨j0, xs0, hj0, hm0, hj1⟩ := hM.at'
  have hu0 : ∃ us0, uss[j0]? = some us0 := by obtain ⟨us', e3, _⟩ := hu1 j0 xs0 hj0; exact ⟨us', e3⟩
  obtain ⟨us0, hu0⟩ := hu0
  have hms : m ≤ sizeLine := by rw [← hm0]; exact (szs j0 xs0 us0 hj0 hu0).2
  have xof : ∀ (j : Nat) us, uss[j]? = some us → ∃ xs, xss[j]? = some xs := fun j us e => ⟨_, List.getElem?_eq_getElem (by rw [← lu]; exact (List.getElem?_eq_some_iff.mp e).1)⟩
  have mend : ZEnd (uss.map List.toArray) m := by
    refine ⟨fun ar ha => ?_, j0, us0.toArray, by rw [List.getElem?_map, hu0]; rfl, by rw [List.size_toArray, (szs j0 xs0 us0 hj0 hu0).1, hm0], fun j ar hj e => ?_⟩
    · obtain ⟨us, mu, rfl⟩ := List.mem_map.mp ha
      obtain ⟨j, hj⟩ := List.mem_iff_getElem?.mp mu
      obtain ⟨xs, hx⟩ := xof j us hj
      rw [List.size_toArray, (szs j xs us hx hj).1]
      exact hM.le xs (List.mem_of_getElem? hx)
    · rw [List.getElem?_map] at e
      cases f2 : uss[j]? with
      | none => rw [f2] at e; cases e
      | some us =>
        rw [f2] at e
        cases e
        obtain ⟨xs, hx⟩ := xof j us f2
        rw [List.size_toArray, (szs j xs us hx f2).1]
        exact hj1 j xs hj hx
  have eargs : ([] : List Value) ++ as.map Value.ref = (as.map fun a => ((false, a) : Bool × Nat)).map fun a => Value.ref a.2 := by rw [List.nil_append, List.map_map]; rfl
  show wpAny _ _ (call (.type "zip") ([] ++ as.map Value.ref)) _ _ _
  rw [eargs]
  refine zipN_begins (by rw [la]; exact hl) src fun h1 zst hz1 hk1 => ?_
  refine Calls.spliced_nil ?_
  refine zl_call (s := { s2 with heap := h1 }) hh (by rw [la]; exact hn) (by rw [la]; exact hl) hb zst (src.moved fun a ha o e => hk1 _ o e) mend hms fun h' tk acc c ts hk hS htl hG hacc => ?_
  dsimp only at hk hS hG ⊢
  have kp : ∀ c o, s2.heap.get? c = some o → h'.get? c = some o := fun c o e => hk c o (.inl (Heap.lt_size e)) (hk1 c o e)
  have hlo : s2.heap.objs.size ≤ h1.objs.size := by rw [hz1]; omega
  have new : ∀ t, h1.objs.size ≤ t → H1 t = none := fun t ht => I2.hok.fresh (Nat.le_trans hlo ht)
  have nd : (h1.objs.size :: ts).Nodup := List.nodup_cons.mpr ⟨fun z => Nat.lt_irrefl _ (hG.above _ z), hG.rise.imp fun h => Nat.ne_of_lt h⟩
  have lz : ((ts.zip ((List.range m).map fun j => HO.tup (colV .non xss j))).map (·.1)) = ts := by
    rw [List.map_fst_zip (by rw [List.length_map, List.length_range, htl]; exact Nat.le_refl _)]
  have nd2 : ((((h1.objs.size, HO.lst (ts.map V.ref)) :: ts.zip ((List.range m).map fun j => HO.tup (colV .non xss j))) : List (Nat × HO)).map (·.1)).Nodup := by
    rw [List.map_cons, lz]
    exact nd
  refine ⟨.ref h1.objs.size, _, inv_grow (tk := tk) (h' := h') (H' := updL H1 ((h1.objs.size, HO.lst (ts.map V.ref)) :: ts.zip ((List.range m).map fun j => HO.tup (colV .non xss j)))) I2 kp (fun b u e => ?_) (fun b o e n => ?_) fun b u e => ?_, rfl, q _ _ (new _ (Nat.le_refl _)) (fun t ht => new t (Nat.le_of_lt (hG.above t ht))) nd htl⟩
  · rw [updL_off]
    · exact e
    · rw [List.map_cons, lz]
      intro z
      have : H1 b = none := by
        rcases List.mem_cons.mp z with z | z
        · rw [z]; exact new _ (Nat.le_refl _)
        · exact new _ (Nat.le_of_lt (hG.above _ z))
      rw [this] at e
      cases e
  · rw [updL_off]
    · exact n
    · rw [List.map_cons, lz]
      have hb : b < s2.heap.objs.size := Heap.lt_size e
      intro z
      rcases List.mem_cons.mp z with z | z
      · exact absurd hb (Nat.not_lt.mpr (by rw [z]; exact hlo))
      · exact absurd hb (Nat.not_lt.mpr (Nat.le_trans hlo (Nat.le_of_lt (hG.above _ z))))
  · rcases updL_cases nd2 e with h | ⟨_, h⟩
    · right
      rcases List.mem_cons.mp h with h | h
      · cases h
        refine ⟨by rw [List.length_map, htl]; exact hms, acc.toList, c, by rw [hacc]; exact LiI.vals_refs ts, ?_⟩
        rw [Array.toArray_toList]
        exact hS
      · obtain ⟨j, hj⟩ := List.mem_iff_getElem?.mp h
        rw [List.getElem?_zip_eq_some] at hj
        obtain ⟨e1, e2⟩ := hj
        rw [List.getElem?_map] at e2
        cases f : (List.range m)[j]? with
        | none => rw [f] at e2; cases e2
        | some j' =>
          rw [f] at e2
          cases e2
          have hjm : j < m := by have := (List.getElem?_eq_some_iff.mp f).1; rwa [List.length_range] at this
          rw [List.getElem?_range hjm] at f
          cases f
          obtain ⟨ys, y1, y2, y3⟩ := hG.at' j b e1
          have ly : ys.size = xss.length := by rw [y2, List.length_map, lu]
          refine ⟨?_, ys.toList, vals_col (by rw [Array.length_toList, ly]) (fun xs hx => Nat.lt_of_lt_of_le hjm (hM.le xs hx)) hu1 fun k us hk => ?_, ⟨_, y1, rfl, 0, by simp⟩⟩
          · show (colV _ _ _).length ≤ _
            unfold colV
            rw [List.length_map, ← hT.1, sizeLine_eq]
            omega
          · have := y3 k us.toArray (by rw [List.getElem?_map, hk]; rfl)
            simpa using this
    · exact .inl h
end
end DL
set_option maxHeartbeats 1000000
namespace DL
open PySem PySem.Spec PyProof.Rows L2
/-! ### list(zip(*x)), by data -/
def tupsM : List D → M (List (List D))
  | [] => pure []
  | .tup ds :: r => tupsM r >>= fun x => pure (ds :: x)
  | _ => stuck
def minL {α : Type} : List (List α) → Nat
  | [] => 0
  | [xs] => xs.length
  | xs :: ys :: r => min xs.length (minL (ys :: r))
theorem minL_ok {α : Type} : ∀ {xss : List (List α)}, xss ≠ [] → MinL xss (minL xss)
  | [], h => absurd rfl h
  | [xs], _ => ⟨fun ys h => by rw [List.mem_singleton.mp h]; exact Nat.le_refl _, 0, xs, rfl, rfl, fun j _ h => absurd h (Nat.not_lt_zero _)⟩
  | xs :: ys :: r, _ => by
    have ih := minL_ok (xss := ys :: r) (by simp)
    have e : minL (xs :: ys :: r) = min xs.length (minL (ys :: r)) := rfl
    rw [e]
    by_cases z : xs.length ≤ minL (ys :: r)
    · rw [Nat.min_eq_left z]
      refine ⟨fun zs h => ?_, 0, xs, rfl, rfl, fun j _ h => absurd h (Nat.not_lt_zero _)⟩
      rcases List.mem_cons.mp h with h | h
      · rw [h]; exact Nat.le_refl _
      · exact Nat.le_trans z (ih.le zs h)
    · have z' : minL (ys :: r) < xs.length := by omega
      rw [Nat.min_eq_right (by omega)]
      obtain ⟨j0, xs0, e1, e2, e3⟩ := ih.at'
      refine ⟨fun zs h => ?_, j0 + 1, xs0, by simpa using e1, e2, fun j zs hj hz => ?_⟩
      · rcases List.mem_cons.mp h with h | h
        · rw [h]; omega
        · exact ih.le zs h
      · cases j with
        | zero => cases hz; exact z'
        | succ j => exact e3 j zs (by omega) (by simpa using hz)
theorem minL_same {α β : Type} {xss : List (List α)} {yss : List (List β)} {m : Nat} (hl : xss.length = yss.length) (h : ∀ (j : Nat) xs ys, xss[j]? = some xs → yss[j]? = some ys → xs.length = ys.length) (M : MinL yss m) : MinL xss m := by
  have of : ∀ (j : Nat) xs, xss[j]? = some xs → ∃ ys, yss[j]? = some ys := fun j xs e => ⟨_, List.getElem?_eq_getElem (by rw [← hl]; exact (List.getElem?_eq_some_iff.mp e).1)⟩
  obtain ⟨j0, ys0, e1, e2, e3⟩ := M.at'
  obtain ⟨xs0, e4⟩ : ∃ xs0, xss[j0]? = some xs0 := ⟨_, List.getElem?_eq_getElem (by rw [hl]; exact (List.getElem?_eq_some_iff.mp e1).1)⟩
  refine ⟨fun xs hx => ?_, j0, xs0, e4, by rw [h j0 xs0 ys0 e4 e1]; exact e2, fun j xs hj hx => ?_⟩
  · obtain ⟨j, hj⟩ := List.mem_iff_getElem?.mp hx
    obtain ⟨ys, hy⟩ := of j xs hj
    rw [h j xs ys hj hy]
    exact M.le ys (List.mem_of_getElem? hy)
  · obtain ⟨ys, hy⟩ := of j xs hx
    rw [h j xs ys hx hy]
    exact e3 j ys hj hy
def colsD (dss : List (List D)) : List D := (List.range (minL dss)).map fun j => .tup (colV .non dss j)
def zipSD (d : D) : M D := items d >>= fun ds => tupsM ds >>= fun dss => if 0 < dss.length ∧ dss.length ≤ 8 then pure (.lst (colsD dss)) else stuck
section
variable {p : Pg} {g : Gs} {H : Hp}
theorem tupsM_ok {s : Store} {ex : Nat → Store → Prop} : ∀ {ds : List D} {ok : List (List D) → Store → Prop}, (tupsM ds s).Post ok ex → ∃ dss, ds = dss.map D.tup ∧ ok dss s
  | [], ok, q => ⟨[], rfl, q⟩
  | d :: r, ok, q => by
    cases d with
    | tup ds =>
      have q := post_bind (m := tupsM r) (f := fun x => pure (ds :: x)) q
      obtain ⟨dss, e, q⟩ := tupsM_ok q
      exact ⟨ds :: dss, by rw [e]; rfl, q⟩
    | _ => exact False.elim q
theorem tups_of (w : Wf p g H) : ∀ {us : List V} {dss : List (List D)}, p.Rps g us (dss.map D.tup) → ∃ (as : List Addr) (xss : List (List V)), us = as.map V.ref ∧ xss.length = dss.length ∧ TupsAt p.K H as xss ∧ ∀ (j : Nat) xs ds, xss[j]? = some xs → dss[j]? = some ds → p.Rps g xs ds
  | _, [], .nil => ⟨[], [], rfl, rfl, ⟨rfl, fun j a xs h => by simp at h⟩, fun j xs ds h => by simp at h⟩
  | _, ds :: dss, .cons r t => by
    obtain ⟨as, xss, e, l, h1, h2⟩ := tups_of w t
    obtain ⟨a, xs, rfl, s, rr⟩ := TopR.tup (H := H) w (.inl r)
    refine ⟨a :: as, xs :: xss, by rw [e]; rfl, by simp [l], ⟨by simp [h1.1], fun j b ys e1 e2 => ?_⟩, fun j ys es e1 e2 => ?_⟩
    · cases j with
      | zero => cases e1; cases e2; exact s
      | succ j => exact h1.2 j b ys (by simpa using e1) (by simpa using e2)
    · cases j with
      | zero => cases e1; cases e2; exact rr
      | succ j => exact h2 j ys es (by simpa using e1) (by simpa using e2)
/-- tuples laid one after another, all frozen -/
theorem news_tups : ∀ {l : List (Nat × List V × List D)} {g : Gs} {H : Hp}, Wf p g H → (∀ x ∈ l, H x.1 = none) → (l.map (·.1)).Nodup → (∀ x ∈ l, p.Rps g x.2.1 x.2.2) →
    ∃ g', g'.st = g.st ∧ g'.am = g.am ∧ (∀ a, a ∉ l.map (·.1) → g'.G a = g.G a) ∧ Stp p g H g' (updL H (l.map fun x => (x.1, HO.tup x.2.1))) ∧ p.Rps g' (l.map fun x => V.ref x.1) (l.map fun x => D.tup x.2.2)
  | [], g, H, w, _, _, _ => ⟨g, rfl, rfl, fun _ _ => rfl, .refl w, .nil⟩
  | (t, xs, ds) :: l, g, H, w, hn, nd, hr => by
    rw [List.map_cons, List.nodup_cons] at nd
    have s := Stp.new (o := .tup xs) w (hn _ (.head _))
    have r0 := hr _ (.head _)
    obtain ⟨g', e1, e2, e3, st, rr⟩ := news_tups (l := l) s.wf (fun x hx => by
      rw [upd_ne (fun z => nd.1 (by rw [← z]; exact List.mem_map_of_mem hx))]
      exact hn x (.tail _ hx)) nd.2 (fun x hx => (hr x (.tail _ hx)).mono s.gle s.aml)
    refine ⟨g', e1, e2, fun a ha => ?_, s.trans w st, .cons ((Rp.tup (K := p.K) (am := g.am) upd_same (r0.mono s.gle s.aml) : p.Rp { g with G := upd g.G t (.tup xs) } (.ref t) (.tup ds)).mono st.gle st.aml) rr⟩
    rw [List.map_cons, List.mem_cons, not_or] at ha
    rw [e3 a ha.2]
    show upd g.G t (.tup xs) a = g.G a
    rw [upd_ne ha.1]
theorem rps_col {xss : List (List V)} {dss : List (List D)} {j : Nat} (hl : xss.length = dss.length) (h : ∀ (k : Nat) xs ds, xss[k]? = some xs → dss[k]? = some ds → p.Rps g xs ds) (hj : ∀ ds ∈ dss, j < ds.length) : p.Rps g (colV .non xss j) (colV .non dss j) := by
  induction dss generalizing xss with
  | nil =>
    cases xss with
    | nil => exact .nil
    | cons _ _ => simp at hl
  | cons ds dss ih =>
    cases xss with
    | nil => simp at hl
    | cons xs xss =>
      have r := h 0 xs ds rfl rfl
      obtain ⟨d, ed⟩ : ∃ d, ds[j]? = some d := ⟨_, List.getElem?_eq_getElem (hj ds (.head _))⟩
      obtain ⟨v, ev, rv⟩ := r.get ed
      show p.Rps g (((xs[j]?).getD .non) :: colV .non xss j) (((ds[j]?).getD .non) :: colV .non dss j)
      rw [ed, ev]
      exact .cons rv (ih (by simpa using hl) (fun k xs ds e1 e2 => h (k + 1) xs ds (by simpa using e1) (by simpa using e2)) fun ds hd => hj ds (.tail _ hd))
end
section
variable {S : Sta} {ρ : Ev} {a : Expr} {ma : M D} {pos q q2 q3 q4 : Pos}
theorem en_lzs (hg : Glb S "list") (hm : S.pg.mg "list" = none) (hg2 : Glb S "zip") (hm2 : S.pg.mg "zip" = none) (ha : EL S ρ a ma) (hst : ∀ env : Env, starEach [.Starred a q3] env = [(true, eval a env)] := by exact fun _ => rfl)
    (hs : NoStar [.Call (.Name "zip" q2) [.Starred a q3] [] q4] := by exact fun _ => rfl) : EN S ρ (.Call (.Name "list" q) [.Call (.Name "zip" q2) [.Starred a q3] [] q4] [] pos) (ma >>= zipSD) := fun Y ok =>
  (pe_listZipS (X := S.cx Y) rfl (ha Y ok) hg hm hg2 hm2 (hst _) (hs _)).pre fun σ H Q ⟨F, g, E, q⟩ => rdX.bind E q fun x v g' H' s E' r q => by
    unfold zipSD at q
    obtain ⟨a, us, ds, rfl, hq, rr, q⟩ := items_ok E'.wf r (post_bind q)
    obtain ⟨dss, e0, q5⟩ := tupsM_ok (post_bind q)
    subst e0
    replace q := q5
    clear q5
    by_cases z : 0 < dss.length ∧ dss.length ≤ 8
    · rw [if_pos z] at q
      obtain ⟨as, xss, rfl, lx, hT, hR⟩ := tups_of E'.wf rr
      have lad : as.length = dss.length := by rw [hT.1, lx]
      have hM : MinL dss (minL dss) := minL_ok (by intro e; rw [e] at z; simp at z)
      have hMx : MinL xss (minL dss) := minL_same lx (fun j xs ds e1 e2 => (hR j xs ds e1 e2).length) hM
      refine ⟨a, as, xss, minL dss, rfl, hq, by rw [lad]; exact z.1, by rw [lad]; exact z.2, hT, hMx, fun p ts hp hts nd htl => ?_⟩
      have nd' := List.nodup_cons.mp nd
      have s1 := Stp.laid (o := .lst (ts.map V.ref)) E'.wf hp
      -- the tuples
      have key := news_tups (p := S.pg) (l := ts.zip ((List.range (minL dss)).map fun j => (colV V.non xss j, colV D.non dss j))) s1.wf (fun x hx => by
        have hx1 : x.1 ∈ ts := (List.of_mem_zip hx).1
        rw [upd_ne (fun z => nd'.1 (by rw [← z]; exact hx1))]
        exact hts _ hx1) (by
        rw [List.map_fst_zip (by rw [List.length_map, List.length_range, htl]; exact Nat.le_refl _)]
        exact nd'.2) (fun x hx => by
        obtain ⟨j, hj, e⟩ := List.mem_map.mp (List.of_mem_zip hx).2
        rw [← e]
        exact (rps_col lx hR fun ds hd => Nat.lt_of_lt_of_le (List.mem_range.mp hj) (hM.le ds hd)))
      obtain ⟨g2, e1, e2, e3, st, rr2⟩ := key
      have zz : ∀ {α β γ : Type} (f : β → γ) (l : List α) (m : List β), (l.zip m).map (fun x => (x.1, f x.2)) = l.zip (m.map f) := fun f l m => by
        rw [List.zip_map_right]
        rfl
      have eH : ((ts.zip ((List.range (minL dss)).map fun j => (colV V.non xss j, colV D.non dss j))).map fun x => (x.1, HO.tup x.2.1)) = ts.zip ((List.range (minL dss)).map fun j => HO.tup (colV .non xss j)) := by
        rw [zz (fun x : List V × List D => HO.tup x.1), List.map_map]
        rfl
      have eV : ((ts.zip ((List.range (minL dss)).map fun j => (colV V.non xss j, colV D.non dss j))).map fun x => V.ref x.1) = ts.map V.ref := by
        have : (fun x : Nat × List V × List D => V.ref x.1) = V.ref ∘ Prod.fst := rfl
        rw [this, ← List.map_map, List.map_fst_zip (by rw [List.length_map, List.length_range, htl]; exact Nat.le_refl _)]
      have eD : ((ts.zip ((List.range (minL dss)).map fun j => (colV V.non xss j, colV D.non dss j))).map fun x => D.tup x.2.2) = colsD dss := by
        have : (fun x : Nat × List V × List D => D.tup x.2.2) = (fun y : List V × List D => D.tup y.2) ∘ Prod.snd := rfl
        rw [this, ← List.map_map, List.map_snd_zip (by rw [List.length_map, List.length_range, htl]; exact Nat.le_refl _), List.map_map]
        rfl
      rw [eH] at st
      rw [eV, eD] at rr2
      refine (post_pure q) _ g2 _ e1 (s.trans E.wf (s1.trans E'.wf st)) ⟨p, rfl, ⟨ts.map V.ref, ?_, rr2⟩, ?_, ?_, s.none_of E.wf hp⟩
      · show updL (upd H' p (.lst (ts.map V.ref))) _ p = _
        rw [updL_off (by rw [List.map_fst_zip (by rw [List.length_map, List.length_range, htl]; exact Nat.le_refl _)]; exact nd'.1), upd_same]
      · rw [e3 p (by rw [List.map_fst_zip (by rw [List.length_map, List.length_range, htl]; exact Nat.le_refl _)]; exact nd'.1)]
        exact E'.wf.freeG hp
      · rw [e2]
        exact E'.wf.freeA hp
    · rw [if_neg z] at q
      exact False.elim q
end
end DL
set_option maxHeartbeats 1000000
namespace DL
open PySem PySem.Spec PyProof.Rows L2
/-! ### the walk of zip of any number -/
def SrcV (K : PySem.W.Frag) (H : Hp) (as : ZAs) (xss : List (List V)) : Prop := as.length = xss.length ∧ ∀ (j : Nat) a xs, as[j]? = some a → xss[j]? = some xs → SqG a.1 K H a.2 xs
def ItzN (K : PySem.W.Frag) (as : ZAs) : It :=
  ⟨fun i H => ∃ xss : List (List V), SrcV K H as xss ∧ ∀ xs ∈ xss, i < xs.length,
    fun i H v H' => ∃ T ys, v = .ref T ∧ H T = none ∧ H' = upd H T (.tup ys) ∧ ys.length = as.length ∧ ∀ xss, SrcV K H as xss → ∀ (k : Nat) xs, xss[k]? = some xs → ys[k]? = xs[i]?,
    fun i H => ∃ xss : List (List V), SrcV K H as xss ∧ MinL xss i⟩
section
variable {X : Cx}
theorem srcs_heap {pins : List (Addr × Obj)} {σ : L2.St} {H : Hp} {s : Shared} (I : Inv X pins σ H s) : ∀ {as : ZAs} {xss : List (List V)}, SrcV X.K H as xss →
    ∃ uss : List (List Value), uss.length = xss.length ∧ (∀ (j : Nat) xs, xss[j]? = some xs → ∃ us, uss[j]? = some us ∧ Vals xs us) ∧ ZSrc s.heap as (uss.map List.toArray) ∧ ∀ a ∈ as, a.2 < s.heap.objs.size
  | [], [], _ => ⟨[], rfl, fun j xs h => by simp at h, ⟨rfl, fun j a us h => by simp at h⟩, fun a h => nomatch h⟩
  | [], _ :: _, h => by have := h.1; simp at this
  | _ :: _, [], h => by have := h.1; simp at this
  | a :: as, xs :: xss, h => by
    obtain ⟨uss, l, h1, h2, h3⟩ := srcs_heap I (as := as) (xss := xss) ⟨by have := h.1; simpa using this, fun j a xs e1 e2 => h.2 (j + 1) a xs (by simpa using e1) (by simpa using e2)⟩
    obtain ⟨its, rv, p, lt⟩ := (h.2 0 a xs rfl rfl).heap I
    refine ⟨its :: uss, by simp [l], fun j ys e => ?_, ⟨by simpa using h2.1, fun j b us e1 e2 => ?_⟩, fun b hb => ?_⟩
    · cases j with
      | zero => cases e; exact ⟨its, rfl, rv⟩
      | succ j => exact h1 j ys (by simpa using e)
    · cases j with
      | zero => cases e1; cases e2; exact p
      | succ j => exact h2.2 j b us (by simpa using e1) (by simpa using e2)
    · rcases List.mem_cons.mp hb with e | hb
      · rw [e]; exact lt
      · exact h3 b hb
theorem SrcV.inj {pins : List (Addr × Obj)} {σ : L2.St} {H : Hp} {s : Shared} (I : Inv X pins σ H s) {as : ZAs} {xss yss : List (List V)} (h1 : SrcV X.K H as xss) (h2 : SrcV X.K H as yss) : xss = yss := by
  refine List.ext_getElem? fun j => ?_
  have l : xss.length = yss.length := by rw [← h1.1, h2.1]
  by_cases z : j < xss.length
  · obtain ⟨a, ha⟩ : ∃ a, as[j]? = some a := ⟨_, List.getElem?_eq_getElem (by rw [h1.1]; exact z)⟩
    rw [List.getElem?_eq_getElem z, List.getElem?_eq_getElem (by omega)]
    congr 1
    exact (h1.2 j a _ ha (List.getElem?_eq_getElem z)).inj I (h2.2 j a _ ha (List.getElem?_eq_getElem (by omega)))
  · rw [List.getElem?_eq_none (by omega), List.getElem?_eq_none (by omega)]
end
theorem zfp_mem {b n c : Nat} : c ∈ (List.range (n + 3)).map (b + ·) ↔ b ≤ c ∧ c < b + n + 3 := by
  rw [List.mem_map]
  constructor
  · rintro ⟨j, hj, rfl⟩
    have := List.mem_range.mp hj
    omega
  · intro h
    exact ⟨c - b, List.mem_range.mpr (by omega), by omega⟩
theorem znot {b n c : Nat} (h : ¬ (b ≤ c ∧ c < b + n + 3)) : c < b ∨ b + n + 3 ≤ c := by omega
theorem zne {b n c : Nat} (h : ¬ (b ≤ c ∧ c < b + n + 3)) : c ≠ b + n + 2 := by omega
theorem zlt {b n c s : Nat} (h : b ≤ c ∧ c < b + n + 3) (h2 : b + n + 2 < s) : c < s := by omega
theorem ZSt.live {h : Heap} {b : Nat} {as : ZAs} {own : Value} {t : Nat} (st : ZSt h b as own t) {c : Nat} (hc : b ≤ c ∧ c < b + as.length + 3) : ∃ o, h.get? c = some o ∧ ∀ v, o.data ≠ .cell v := by
  by_cases z : c < b + as.length
  · obtain ⟨a, ha⟩ : ∃ a, as[c - b]? = some a := ⟨_, List.getElem?_eq_getElem (by omega)⟩
    have := (st.it (c - b) a ha).live
    rw [show b + (c - b) = c from by omega] at this
    exact this
  · rcases (show c = b + as.length ∨ c = b + as.length + 1 ∨ c = b + as.length + 2 by omega) with e | e | e
    · subst e; exact ⟨_, st.ti, fun v q => by cases q⟩
    · subst e; obtain ⟨ys, _, e⟩ := st.to; exact ⟨_, e, fun v q => by cases q⟩
    · subst e; exact ⟨_, st.z, fun v q => by cases q⟩
theorem ZSt.moved {h h' : Heap} {b : Nat} {as : ZAs} {own : Value} {t : Nat} (st : ZSt h b as own t) (k : ∀ c o, b ≤ c → c < b + as.length + 3 → h.get? c = some o → h'.get? c = some o) : ZSt h' b as own t := by
  obtain ⟨ys, y1, y2⟩ := st.to
  exact ⟨k _ _ (by omega) (by omega) st.z, k _ _ (by omega) (by omega) st.ti, ⟨ys, y1, k _ _ (by omega) (by omega) y2⟩, fun j a hj => (st.it j a hj).moved fun o e => k _ _ (by omega) (by have := (List.getElem?_eq_some_iff.mp hj).1; omega) e⟩
theorem turn_zipN {P : Program} {w : World} {K : PySem.W.Frag} {elts : List Expr} {kk : Nat} {tpos : Pos} {b : Nat} {as : ZAs} (hn : 0 < as.length) (hl : as.length ≤ 8) (hb : ∀ a ∈ as, a.2 < b) :
    Turn P w K (.Tuple elts kk tpos) (ItzN K as) ((List.range (as.length + 3)).map (b + ·)) (b + as.length + 2) (fun i h => ZSt h b as .none i) where
  mem := zfp_mem.mpr (by omega)
  obj := fun i h st c hc => st.live (zfp_mem.mp hc)
  keep := fun i h h' st k => st.moved fun c o h1 h2 e => k c (zfp_mem.mpr ⟨h1, h2⟩) o e
  item := by
    intro X hP hw hK hc i pins s σ H E I hf st hg
    subst hP hw hK
    obtain ⟨xss, sx, hx⟩ := hg
    obtain ⟨uss, lu, hu1, src, hlt⟩ := srcs_heap I sx
    have hzl : b + as.length + 2 < s.heap.objs.size := Heap.lt_size st.z
    refine pyNext_zipN_item (I.ok.hd hc) hn hl st src hb (fun ar ha => ?_) fun h' tk ys hys hyx st' hT hsz hk => ?_
    · obtain ⟨us, mu, rfl⟩ := List.mem_map.mp ha
      obtain ⟨j, hj⟩ := List.mem_iff_getElem?.mp mu
      obtain ⟨xs, ex⟩ : ∃ xs, xss[j]? = some xs := ⟨_, List.getElem?_eq_getElem (by rw [← lu]; exact (List.getElem?_eq_some_iff.mp hj).1)⟩
      obtain ⟨us', eu, r⟩ := hu1 j xs ex
      rw [hj] at eu
      cases eu
      rw [List.size_toArray, ← r.length]
      exact hx xs (List.mem_of_getElem? ex)
    refine ⟨_, rfl, wpAny_letOwnedTupleGo_zip (s := { s with heap := h', toks := tk }) st'.z fun h'' z'' sb => ?_⟩
    have keep : ∀ c o, c ≠ b + as.length + 2 → h'.get? c = some o → h''.get? c = some o := fun c o n e => (sb.2 c n).trans e
    have hT2 : h''.get? s.heap.objs.size = some { cls := .type "tuple", data := .seq ys } := keep _ _ (Nat.ne_of_gt hzl) hT
    have rv : Vals (colV .non xss i) ys.toList := vals_col (by rw [Array.length_toList, hys, sx.1]) hx (fun k xs e => by
      obtain ⟨us, eu, r⟩ := hu1 k xs e
      obtain ⟨a, ha⟩ : ∃ a, as[k]? = some a := ⟨_, List.getElem?_eq_getElem (by rw [sx.1]; exact (List.getElem?_eq_some_iff.mp e).1)⟩
      refine ⟨us, eu, r, ?_⟩
      have := sx.2 k a xs ha e
      cases hk : a.1 with
      | true =>
        rw [hk] at this
        obtain ⟨_, _, _, hz⟩ := I.list this
        exact hz
      | false =>
        rw [hk] at this
        obtain ⟨_, _, _, hz⟩ := I.tuple this
        exact hz) (fun k us e => by
      have := hyx k us.toArray (by rw [List.getElem?_map, e]; rfl)
      simpa using this)
    have new : ObjOk X.prog X.w (upd H s.heap.objs.size (.tup (colV .non xss i))) h'' s.heap.objs.size (.tup (colV .non xss i)) :=
      ⟨by unfold colV; rw [List.length_map, ← sx.1, sizeLine_eq]; omega, ys.toList, rv, ⟨_, hT2, rfl, 0, by simp⟩⟩
    have I1 : Inv X pins σ (upd H s.heap.objs.size (.tup (colV .non xss i))) { s with heap := h'', toks := tk } :=
      I.turnedNew (ch := (List.range (as.length + 3)).map (b + ·)) (fun c o hb q => by
        have hb' : ¬ (b ≤ c ∧ c < b + as.length + 3) := fun z => hb (zfp_mem.mpr z)
        exact keep c o (zne hb') (hk c o (znot hb') q)) hf (Nat.le_refl _) new
    refine ⟨.ref s.heap.objs.size, _, I1, rfl, ⟨_, _, rfl, I.hok.fresh (Nat.le_refl _), rfl, by unfold colV; rw [List.length_map, sx.1], fun yss hyss k xs e => ?_⟩, ?_, fun c hcm => ?_⟩
    · have := hyss.inj I sx
      subst this
      unfold colV
      rw [List.getElem?_map, e]
      have := hx xs (List.mem_of_getElem? e)
      show some ((xs[i]?).getD .non) = xs[i]?
      rw [List.getElem?_eq_getElem this]
      rfl
    · obtain ⟨zs, z1, z2⟩ := st'.to
      exact ⟨z'', keep _ _ (by (first | omega | (show @Ne Nat _ _; omega))) st'.ti, ⟨zs, z1, keep _ _ (by (first | omega | (show @Ne Nat _ _; omega))) z2⟩, fun j a hj => (st'.it j a hj).moved fun o e => keep _ _ (by have := (List.getElem?_eq_some_iff.mp hj).1; (first | omega | (show @Ne Nat _ _; omega))) e⟩
    · have hm := zfp_mem.mp hcm
      have hlt : c < s.heap.objs.size := zlt hm hzl
      rw [upd_ne (Nat.ne_of_lt hlt)]
      exact (hf c hcm).1
  done := by
    intro X hP hw hK hc i pins s σ H E I hf st hg
    subst hP hw hK
    obtain ⟨xss, sx, hM⟩ := hg
    obtain ⟨uss, lu, hu1, src, hlt⟩ := srcs_heap I sx
    obtain ⟨j0, xs0, e1, e2, e3⟩ := hM.at'
    obtain ⟨us0, eu0, r0⟩ := hu1 j0 xs0 e1
    refine pyNext_zipN_end (I.ok.hd hc) hn hl st src hb (j0 := j0) (xs0 := us0.toArray) (by rw [List.getElem?_map, eu0]; rfl) (by rw [List.size_toArray, ← r0.length, e2]) (fun j ar hj e => ?_) fun h' tk hk => ⟨rfl, I.turnedL (ch := (List.range (as.length + 3)).map (b + ·)) (fun c o hb q => ?_) hf⟩
    · rw [List.getElem?_map] at e
      cases f2 : uss[j]? with
      | none => rw [f2] at e; cases e
      | some us =>
        rw [f2] at e
        cases e
        obtain ⟨xs, ex⟩ : ∃ xs, xss[j]? = some xs := ⟨_, List.getElem?_eq_getElem (by rw [← lu]; exact (List.getElem?_eq_some_iff.mp f2).1)⟩
        obtain ⟨us', eu, r⟩ := hu1 j xs ex
        rw [f2] at eu
        cases eu
        rw [List.size_toArray, ← r.length]
        exact e3 j xs hj ex
    · have hb' : ¬ (b ≤ c ∧ c < b + as.length + 3) := fun z => hb (zfp_mem.mpr z)
      exact hk c o (znot hb') q
  self := fun A i s Q E st h => wpAny_pyIter_zip st.z h
def iZipN (K : PySem.W.Frag) (ta : TA) : TI := fun σ H R => ta σ H fun vs H1 => ∃ (as : ZAs) (xss : List (List V)), vs = as.map (fun a => V.ref a.2) ∧ 0 < as.length ∧ as.length ≤ 8 ∧ SrcV K H1 as xss ∧ R (ItzN K as) H1
theorem refs_vals2 : ∀ {as : ZAs} {us : List Value}, Vals (as.map fun a => V.ref a.2) us → us = as.map fun a => Value.ref a.2
  | [], _, .nil => rfl
  | a :: as, _, .cons r t => by
    rw [List.map_cons, ← refs_vals2 t]
    rw [show _ = Value.ref a.2 from r]
theorem pi_zipN {X : Cx} {e : Expr} {es : List Expr} {ta : TA} {p pos tpos : Pos} {elts : List Expr} {kk : Nat} (hg : Gl X "zip") (hm : X.mg "zip" = none) (ha : PA X (e :: es) ta)
    (hs : starEach (e :: es) X.env = (false, eval e X.env) :: starEach es X.env) (hpl : (backTo pos (starEach es X.env)).any (·.1) = false) :
    PI X (.Tuple elts kk tpos) (.Call (.Name "zip" p) (e :: es) [] pos) (iZipN X.K ta) := by
  refine ⟨fun pins s σ H R I h => Call_ (ld_blt I hg hm PyProof.Rows.boot_zip (PyProof.Rows.callWith_type1 (thn (ha.run pos pins s σ H _ I h) fun us s1 q0 => ?_) hs hpl))⟩
  obtain ⟨vs, H1, I1, r1, as, xss, ex, hn, hl, sx, q⟩ := q0
  subst ex
  have := refs_vals2 r1
  subst this
  obtain ⟨uss, lu, hu1, src, hlt⟩ := srcs_heap I1 sx
  refine zipN_begins hl src fun h' st hsz hk => wpAny_pyIter_zip st.z ?_
  have I2 : Inv X pins σ H1 { s1 with heap := h' } := I1.kept (t' := s1.toks) hk
  exact ⟨s1.heap.objs.size + as.length + 2, (List.range (as.length + 3)).map (s1.heap.objs.size + ·), _, _, H1, rfl, I2, turn_zipN hn hl hlt, st, fun c hcm => by
    have := zfp_mem.mp hcm
    exact I1.fpOk this.1 (I1.hok.fresh this.1), q⟩
end DL
set_option maxHeartbeats 1000000
namespace DL
open PySem PySem.Spec PyProof.Rows L2
/-! ### zip of three, by data -/
theorem colsD_len (dss : List (List D)) : (colsD dss).length = minL dss := by unfold colsD; rw [List.length_map, List.length_range]
theorem wk_zipN {p : Pg} {T : Tm} {as : ZAs} {uss : List (List V)} {dss : List (List D)} (hl : as.length = dss.length) (lu : uss.length = dss.length) (hn : dss ≠ []) (h : ∀ (j : Nat) a us ds, as[j]? = some a → uss[j]? = some us → dss[j]? = some ds → SqW p T a.1 a.2 us ds) :
    Wk p T (ItzN p.K as) (colsD dss) := by
  have third : ∀ (j : Nat), j < dss.length → ∃ a us ds, as[j]? = some a ∧ uss[j]? = some us ∧ dss[j]? = some ds := fun j hj =>
    ⟨_, _, _, List.getElem?_eq_getElem (by omega), List.getElem?_eq_getElem (by omega), List.getElem?_eq_getElem hj⟩
  have src : ∀ g H, Wf p g H → T g H → SrcV p.K H as uss := fun g H w t => ⟨by rw [hl, lu], fun j a xs e1 e2 => by
    obtain ⟨_, _, ds, _, _, e3⟩ := third j (by have := (List.getElem?_eq_some_iff.mp e1).1; omega)
    exact (h j a xs ds e1 e2 e3 g H w t).1⟩
  have len : ∀ g H, Wf p g H → T g H → ∀ (j : Nat) us ds, uss[j]? = some us → dss[j]? = some ds → us.length = ds.length := fun g H w t j us ds e2 e3 => by
    obtain ⟨a, _, _, e1, _, _⟩ := third j (List.getElem?_eq_some_iff.mp e3).1
    exact (h j a us ds e1 e2 e3 g H w t).2.length
  have hM := minL_ok hn
  refine ⟨fun i g H hi w t => ⟨uss, src g H w t, fun us hu => ?_⟩, fun g H w t => ⟨uss, src g H w t, ?_⟩, fun i g H x H' hi w t y => ?_⟩
  · rw [colsD_len] at hi
    obtain ⟨j, hj⟩ := List.mem_iff_getElem?.mp hu
    obtain ⟨_, _, ds, _, _, e3⟩ := third j (by have := (List.getElem?_eq_some_iff.mp hj).1; omega)
    rw [len g H w t j us ds hj e3]
    exact Nat.lt_of_lt_of_le hi (hM.le ds (List.mem_of_getElem? e3))
  · rw [colsD_len]
    exact minL_same lu (len g H w t) hM
  · rw [colsD_len] at hi
    obtain ⟨T', ys, rfl, hT, rfl, ly, hy⟩ := y
    have hy := hy uss (src g H w t)
    have rys : p.Rps g ys (colV .non dss i) := by
      have gen : ∀ (ys : List V) (es : List D), ys.length = es.length → (∀ (k : Nat) e, es[k]? = some e → ∃ v, ys[k]? = some v ∧ p.Rp g v e) → p.Rps g ys es := by
        intro ys
        induction ys with
        | nil =>
          intro es hl _
          cases es with
          | nil => exact .nil
          | cons _ _ => simp at hl
        | cons y ys ih =>
          intro es hl h
          cases es with
          | nil => simp at hl
          | cons e es =>
            obtain ⟨v, ev, r⟩ := h 0 e rfl
            cases ev
            exact .cons r (ih es (by simpa using hl) fun k e he => by simpa using h (k + 1) e (by simpa using he))
      refine gen ys _ (by unfold colV; rw [List.length_map, ly, hl]) fun k e he => ?_
      unfold colV at he
      rw [List.getElem?_map] at he
      cases ed : dss[k]? with
      | none => rw [ed] at he; cases he
      | some ds =>
        rw [ed] at he
        cases he
        obtain ⟨a, us, _, e1, e2, _⟩ := third k (List.getElem?_eq_some_iff.mp ed).1
        have r := (h k a us ds e1 e2 ed g H w t).2
        have hil : i < ds.length := Nat.lt_of_lt_of_le hi (hM.le ds (List.mem_of_getElem? ed))
        obtain ⟨v, ev, rv⟩ := r.get (List.getElem?_eq_getElem hil)
        refine ⟨v, by rw [hy k us e2]; exact ev, ?_⟩
        show p.Rp g v ((ds[i]?).getD .non)
        rw [List.getElem?_eq_getElem hil]
        exact rv
    have s := Stp.new (o := .tup ys) w hT
    refine ⟨{ g with G := upd g.G T' (.tup ys) }, .tup (colV .non dss i), rfl, s, ?_, .tup upd_same (rys.mono s.gle s.aml)⟩
    unfold colsD
    rw [List.getElem?_map, List.getElem?_range hi]
    rfl
def zip3M (ma mb mc : M D) : M (List D) := ma >>= fun x => mb >>= fun y => mc >>= fun z => items x >>= fun xs => items y >>= fun ys => items z >>= fun zs => pure (colsD [xs, ys, zs])
section
variable {S : Sta} {ρ : Ev} {a b c tg it e : Expr} {ma mb mc m : M D} {mi : M (List D)} {pos p tpos : Pos} {elts : List Expr} {kk : Nat}
theorem ei_zip3 (hg : Glb S "zip") (hm : S.pg.mg "zip" = none) (ha : EE S ρ a ma) (hb : EE S ρ b mb) (hc : EE S ρ c mc) (hs : NoStar [a, b, c] := by intro _; rfl) (hs2 : NoStar [b, c] := by intro _; rfl) (hs3 : NoStar [c] := by intro _; rfl) :
    EI S ρ (TL S.pg) (.Tuple elts kk tpos) (.Call (.Name "zip" p) [a, b, c] [] pos) (zip3M ma mb mc) := fun Y ok =>
  (pi_zipN (X := S.cx Y) hg hm (pa_cons (ha Y ok) (pa_cons (hb Y ok) (pa_cons (hc Y ok) pa_nil (hs3 _)) (by rw [hs3 _]; exact hs2 _)) (by rw [hs2 _]; exact hs _)) (by rw [hs2 _]; exact hs _) (by rw [hs2 _]; rfl)).pre fun σ H Q ⟨F, g, E, q⟩ =>
    rdX.bind E q fun x v g' H' s E' r q => rdX.bind E' (q.imp (fun _ _ q => q) fun _ _ q => q.back E.wf s) fun y u g2 H2 s2 E2 r2 q => rdX.bind E2 (q.imp (fun _ _ q => q) fun _ _ q => q.back E'.wf s2) fun z t g3 H3 s3 E3 r3 q => by
      obtain ⟨k1, a1, us, ds, e1, w1, q⟩ := items_K (sq_strong (H := H') r) (post_bind q)
      obtain ⟨k2, b1, vs, es, e2, w2, q⟩ := items_K (sq_strong (H := H2) r2) (post_bind q)
      obtain ⟨k3, c1, ws, fs, e3, w3, q⟩ := items_K (sq_strong (H := H3) r3) (post_bind q)
      subst e1 e2 e3
      have w1' : SqW S.pg (TL S.pg g3 H3) k1 a1 us ds := fun g H w t => w1 g H w ((s2.ltr.trans s3.ltr).trans t)
      have w2' : SqW S.pg (TL S.pg g3 H3) k2 b1 vs es := fun g H w t => w2 g H w (s3.ltr.trans t)
      refine ⟨[(k1, a1), (k2, b1), (k3, c1)], [us, vs, ws], rfl, Nat.succ_pos _, Nat.le_of_ble_eq_true rfl, ⟨rfl, fun j a xs h1 h2 => ?_⟩, (post_pure q) _ g3 H3 rfl ((s.trans E.wf s2).trans E.wf s3) (wk_zipN (uss := [us, vs, ws]) rfl rfl (by simp) fun j a xs zs h1 h2 h3 => ?_)⟩
      · have t0 : TL S.pg g3 H3 g3 H3 := Ltr.refl g3
        rcases j with _ | _ | _ | j
        · cases h1; cases h2; exact (w1' g3 H3 E3.wf t0).1
        · cases h1; cases h2; exact (w2' g3 H3 E3.wf t0).1
        · cases h1; cases h2; exact (w3 g3 H3 E3.wf t0).1
        · simp at h1
      · rcases j with _ | _ | _ | j
        · cases h1; cases h2; cases h3; exact w1'
        · cases h1; cases h2; cases h3; exact w2'
        · cases h1; cases h2; cases h3; exact w3
        · simp at h1
end
/-! ### a name that may be unbound -/
def mayb : Option D → Sl
  | none => .un
  | some d => .sh d
def unM : Option D → M D
  | none => stuck
  | some d => pure d
section
variable {S : Sta} {ρ : Ev} {pos : Pos}
theorem evm (i : Nat) {x : Str} {o : Option D} (hs : ρ[i]? = some (mayb o) := by rfl) (hN : S.N[i]? = some x := by rfl) (hv : Vis S.sc x := by first | exact Or.inl rfl | exact Or.inr (Or.inl rfl) | exact Or.inr (Or.inr rfl))
    (hd : (x == ("__debug__" : Str)) = false := by decide) (hcd : (x == ("__classdict__" : Str)) = false := by decide) : EE S ρ (.Name x pos) (unM o) := by
  cases o with
  | none => exact fun Y ok => ⟨fun pins s σ H Q I ⟨F, g, E, q⟩ => False.elim q⟩
  | some d => exact ee_var i hs hN hv hd hcd
end
section
variable {S : Sta} {ρ : Ev} {e tg : Expr} {m : M D} {pos : Pos} {N B : Type} {shN : N → Ev} {shB : B → Ev} {rest : List Stmt}
theorem s_setT {u : D → M (List D)} {ix : List Nat} {k : List D → M (Out N B)} (he : EE S ρ e m) (hg : TG S tg u ix) (pu : Pure1 u) (hlen : Len1 u ix.length) (hr : ∀ ds, ds.length = ix.length → SB S (setE ρ ix ds) rest (k ds) shN shB)
    (hs : ∀ env : Env, env.scope = S.sc → swapsWithSole [tg] e pos.line env = pure false := by exact fun _ _ => rfl) (hw : ∀ env : Env, env.scope = S.sc → swappedStores [tg] e env = pure none := by exact fun _ _ => rfl) (h1 : ∀ env : Env, (assignEach [tg] env).map (·.2) = [assign tg env] := by exact fun _ => rfl) :
    SB S ρ (.Assign [tg] e pos :: rest) (m >>= fun d => u d >>= k) shN shB := sb_asgT he hg pu hlen hr hs hw h1
theorem s_raise {c : Nat} {x m : Str} {q p2 rpos : Pos} {j : Nat} (h : ExD S.pg c x) (hg : Glb S x := by exact rfl) (hdb : (x == ("__debug__" : Str)) = false := by decide) :
    SB S ρ (.Raise (some (.Call (.Name x q) [.Constant (.str m) j p2] [] pos)) none rpos :: rest) (raise c : M (Out N B)) shN shB := sb_raise h hg hdb
theorem s_try {J : Type} {shJ : J → Ev} {body : List Stmt} {q q2 np hpos rpos cpos : Pos} {cs : List Nat} {n : Str} {m : M (Out J B)} {k : J → M (Out N B)} (i : Nat) (FN : ErrFn S.pg cs) (C : ErrCls S.pg cs) (hnd : S.N.Nodup) (hb : SB S ρ body m shJ shB) (hr : ∀ j, SB S (shJ j) rest (k j) shN shB)
    (hS : S.dfn = true := by exact rfl) (hlv : 1 ≤ S.lv := by exact Nat.le_of_ble_eq_true rfl) (hN : S.N[i]? = some n := by exact rfl) (hln : S.sc.names.lookup n = some .local := by exact rfl) (hgM : Glb S "MaieuticError" := by exact rfl) (hgE : Glb S "_law_error" := by exact rfl)
    (hd : (n == ("__debug__" : Str)) = false := by decide) (hcd : (n == ("__classdict__" : Str)) = false := by decide) :
    SB S ρ (.Try body [.ExceptHandler (some (.Name "MaieuticError" np)) (some n) [.Return (some (.Call (.Name "_law_error" q) [.Name n q2] [] cpos)) rpos] hpos] [] [] pos :: rest) (tryE cs m >>= seqO k) shN shB := sb_try hS FN C hlv hnd hN hln hgM hgE hd hcd hb hr
theorem s_asgW {w : D → M Unit} {k : M (Out N B)} (he : EE S ρ e m) (hg : TW S ρ tg w) (hr : SB S ρ rest k shN shB)
    (hs : ∀ env : Env, env.scope = S.sc → swapsWithSole [tg] e pos.line env = pure false := by exact fun _ _ => rfl) (hw : ∀ env : Env, env.scope = S.sc → swappedStores [tg] e env = pure none := by exact fun _ _ => rfl) (h1 : ∀ env : Env, (assignEach [tg] env).map (·.2) = [assign tg env] := by exact fun _ => rfl) :
    SB S ρ (.Assign [tg] e pos :: rest) (m >>= fun y => w y >>= fun _ => k) shN shB := sb_asgW he hg hr hs hw h1
end
end DL
set_option maxHeartbeats 1000000
namespace DL
open PySem PySem.Spec PyProof.Rows L2
/-! ### max, min, sum of a tuple of ints -/
section
variable {prog : Program} {w : World} {A : Around} {E : Value → Shared → Prop} {s : Shared} {l : Addr} {its : List Value} {ns : List Int} {Q : Value → Shared → Prop}
theorem iter_intTup {xs : Array (Int × Tok)} {R : Value → Shared → Prop} (hl : s.heap.IsTuple l (intItems xs))
    (h : ∀ s₂, s₂ = { s with heap := s.heap.push { cls := .type "tuple_iterator", data := .fields #[.ref l, .int 0 0] } } → (s₂.heap.IsTupleIter s.heap.objs.size l 0 ∧ s₂.heap.IsTuple l (intItems xs)) → (∀ b ∈ [s.heap.objs.size, l], b < s₂.heap.objs.size) → l ≠ s.heap.objs.size → R (.ref s.heap.objs.size) s₂) :
    wpAny (model prog w) A (pyIter (.ref l)) R E s := by
  refine wpAny_pyIter_tuple hl (h _ rfl ⟨⟨_, Heap.get?_push_size _ rfl, rfl, rfl⟩, hl.push _⟩ (fun b hb => ?_) ?_)
  · have hlt : l < s.heap.objs.size := by obtain ⟨o, ho, _⟩ := hl; exact Heap.lt_size ho
    simp only [List.mem_cons, List.not_mem_nil, or_false] at hb
    rw [Heap.size_push]
    rcases hb with e | e
    · rw [e]; exact Nat.lt_succ_self _
    · rw [e]; exact Nat.lt_succ_of_lt hlt
  · obtain ⟨o, ho, _⟩ := hl
    exact Nat.ne_of_lt (Heap.lt_size ho)
theorem max_rawT (hh : A.handled = none) (hl : s.heap.IsTuple l its.toArray) (hi : IntsAre its ns) (hne : 0 < ns.length)
    (h : ∀ h' tk M t', (∀ b o, s.heap.get? b = some o → h'.get? b = some o) → M ∈ ns → (∀ a, a ∈ ns → a ≤ M) → Q (.int M t') { s with heap := h', toks := tk }) : wpAny (model prog w) A (call (.builtin "max") [.ref l]) Q E s := by
  obtain ⟨xs, e⟩ := hi.allInts.items
  have hn : numsOf (intItems xs).toList = ns := by rw [← e]; exact hi.numsOf
  rw [nums_intItems] at hn
  subst hn
  rw [e] at hl
  have hsz : 0 < xs.size := by simpa using hne
  refine call_max_walk (iter_intTup hl fun s₂ e st hfp hlI => ?_)
  subst e
  refine ⟨_, _, _, _, _, _, _, rfl, Walks.tuple (A := A.in1) hh _ l hlI (intItems xs), st, hfp, by simpa [intItems] using hne, CmpOf.ints_gt (numAt xs) (fun _ _ => intItems_at), fun v h' tk hP hk => ?_⟩
  have hv : (intItems xs)[argBest (fun i j => decide (numAt xs i > numAt xs j)) (xs.size - 1)]? = some v := by simpa [intItems] using hP
  obtain ⟨t, rfl⟩ := intItems_at hv
  obtain ⟨h1, h2⟩ := argBest_gt (numAt xs) (xs.size - 1)
  refine h h' tk _ t (fun b o e => hk b o (fun hm => ?_) (Heap.get?_push_of_some _ e)) ?_ fun a ha => ?_
  · rcases List.mem_cons.mp hm with e1 | hm
    · exact absurd (e1 ▸ Heap.lt_size e) (Nat.lt_irrefl _)
    · cases hm
  · rw [numAt_eq]; exact PySem.getD_mem (by rw [List.length_map, Array.length_toList]; omega)
  · obtain ⟨j, hj, rfl⟩ := mem_getD ha
    rw [List.length_map, Array.length_toList] at hj
    rw [← numAt_eq]; exact h2 j (by omega)
theorem min_rawT (hh : A.handled = none) (hl : s.heap.IsTuple l its.toArray) (hi : IntsAre its ns) (hne : 0 < ns.length)
    (h : ∀ h' tk M t', (∀ b o, s.heap.get? b = some o → h'.get? b = some o) → M ∈ ns → (∀ a, a ∈ ns → M ≤ a) → Q (.int M t') { s with heap := h', toks := tk }) : wpAny (model prog w) A (call (.builtin "min") [.ref l]) Q E s := by
  obtain ⟨xs, e⟩ := hi.allInts.items
  have hn : numsOf (intItems xs).toList = ns := by rw [← e]; exact hi.numsOf
  rw [nums_intItems] at hn
  subst hn
  rw [e] at hl
  have hsz : 0 < xs.size := by simpa using hne
  refine call_min_walk (iter_intTup hl fun s₂ e st hfp hlI => ?_)
  subst e
  refine ⟨_, _, _, _, _, _, _, rfl, Walks.tuple (A := A.in1) hh _ l hlI (intItems xs), st, hfp, by simpa [intItems] using hne, CmpOf.ints_lt (numAt xs) (fun _ _ => intItems_at), fun v h' tk hP hk => ?_⟩
  have hv : (intItems xs)[argBest (fun i j => decide (numAt xs i < numAt xs j)) (xs.size - 1)]? = some v := by simpa [intItems] using hP
  obtain ⟨t, rfl⟩ := intItems_at hv
  obtain ⟨h1, h2⟩ := argBest_lt (numAt xs) (xs.size - 1)
  refine h h' tk _ t (fun b o e => hk b o (fun hm => ?_) (Heap.get?_push_of_some _ e)) ?_ fun a ha => ?_
  · rcases List.mem_cons.mp hm with e1 | hm
    · exact absurd (e1 ▸ Heap.lt_size e) (Nat.lt_irrefl _)
    · cases hm
  · rw [numAt_eq]; exact PySem.getD_mem (by rw [List.length_map, Array.length_toList]; omega)
  · obtain ⟨j, hj, rfl⟩ := mem_getD ha
    rw [List.length_map, Array.length_toList] at hj
    rw [← numAt_eq]; exact h2 j (by omega)
theorem sum_rawT (hh : A.handled = none) (hl : s.heap.IsTuple l its.toArray) (hi : IntsAre its ns)
    (h : ∀ h' tk t', (∀ b o, s.heap.get? b = some o → h'.get? b = some o) → Q (.int ns.sum t') { s with heap := h', toks := tk }) : wpAny (model prog w) A (call (.builtin "sum") [.ref l]) Q E s := by
  obtain ⟨xs, e⟩ := hi.allInts.items
  have hn : numsOf (intItems xs).toList = ns := by rw [← e]; exact hi.numsOf
  rw [nums_intItems] at hn
  rw [e] at hl
  refine call_sum_walkG (iter_intTup hl fun s₂ e st hfp hlI => ?_)
  subst e
  refine ⟨_, _, _, _, _, _, numAt xs, rfl, Walks.tuple (A := A.in1) hh _ l hlI (intItems xs), st, hfp, (fun _ _ => intItems_at), fun h' tk t' hk => ?_⟩
  have := h h' tk t' fun b o e => hk b o (fun hm => by
    rcases List.mem_cons.mp hm with e1 | hm
    · exact absurd (e1 ▸ Heap.lt_size e) (Nat.lt_irrefl _)
    · cases hm) (Heap.get?_push_of_some _ e)
  rw [preSum_eq, List.take_of_length_le (by simp [intItems]), hn]
  exact this
end
def rMaxT (K : PySem.W.Frag) : List V → Hp → VK → Prop := fun vs H Q => ∃ (a : Addr) (ns : List Int), vs = [V.ref a] ∧ (SqL K H a (ns.map V.int) ∨ SqT K H a (ns.map V.int)) ∧ 0 < ns.length ∧ ∀ m, m ∈ ns → (∀ y, y ∈ ns → y ≤ m) → Q (.int m) H
def rMinT (K : PySem.W.Frag) : List V → Hp → VK → Prop := fun vs H Q => ∃ (a : Addr) (ns : List Int), vs = [V.ref a] ∧ (SqL K H a (ns.map V.int) ∨ SqT K H a (ns.map V.int)) ∧ 0 < ns.length ∧ ∀ m, m ∈ ns → (∀ y, y ∈ ns → m ≤ y) → Q (.int m) H
def rSumT (K : PySem.W.Frag) : List V → Hp → VK → Prop := fun vs H Q => ∃ (a : Addr) (ns : List Int), vs = [V.ref a] ∧ (SqL K H a (ns.map V.int) ∨ SqT K H a (ns.map V.int)) ∧ Q (.int ns.sum) H
section
variable {X : Cx}
theorem cr_sumT (hc : X.calm = true) : CallR X (.builtin "sum") (rSumT X.K) := by
  intro pins s σ H vs us Q I r h
  obtain ⟨a, ns, rfl, hs | hs, q⟩ := h
  · exact cr_sum hc pins s σ H [V.ref a] us Q I r ⟨a, ns, rfl, hs, q⟩
  · obtain ⟨its, rv, hl, _⟩ := I.tuple hs
    rw [Vals.ref1 r]
    exact sum_rawT (I.ok.hd hc) hl rv.ints fun h' tk t' hk => ⟨.int _, H, I.kept hk, ⟨_, rfl⟩, q⟩
theorem cr_maxT (hc : X.calm = true) : CallR X (.builtin "max") (rMaxT X.K) := by
  intro pins s σ H vs us Q I r h
  obtain ⟨a, ns, rfl, hs | hs, hne, q⟩ := h
  · exact cr_max hc pins s σ H [V.ref a] us Q I r ⟨a, ns, rfl, hs, hne, q⟩
  · obtain ⟨its, rv, hl, _⟩ := I.tuple hs
    rw [Vals.ref1 r]
    exact max_rawT (I.ok.hd hc) hl rv.ints hne fun h' tk m t' hk h1 h2 => ⟨.int _, H, I.kept hk, ⟨_, rfl⟩, q m h1 h2⟩
theorem cr_minT (hc : X.calm = true) : CallR X (.builtin "min") (rMinT X.K) := by
  intro pins s σ H vs us Q I r h
  obtain ⟨a, ns, rfl, hs | hs, hne, q⟩ := h
  · exact cr_min hc pins s σ H [V.ref a] us Q I r ⟨a, ns, rfl, hs, hne, q⟩
  · obtain ⟨its, rv, hl, _⟩ := I.tuple hs
    rw [Vals.ref1 r]
    exact min_rawT (I.ok.hd hc) hl rv.ints hne fun h' tk m t' hk h1 h2 => ⟨.int _, H, I.kept hk, ⟨_, rfl⟩, q m h1 h2⟩
end
/-- the ints of a list or a tuple -/
def intsOf : D → Option (List Int)
  | .lst ds => dints ds
  | .rls ds => dints ds
  | .tup ds => dints ds
  | .rtp ds => dints ds
  | _ => none
def maxV (x : D) : M D := match intsOf x with
  | some ns => if ns.isEmpty then stuck else pure (.int (maxI ns))
  | none => stuck
def minV (x : D) : M D := match intsOf x with
  | some ns => if ns.isEmpty then stuck else pure (.int (minI ns))
  | none => stuck
def sumV (x : D) : M D := match intsOf x with
  | some ns => pure (.int ns.sum)
  | none => stuck
theorem intsOf_ok {p : Pg} {g : Gs} {H : Hp} {v : V} {x : D} {ns : List Int} (w : Wf p g H) (hx : TopR p g H v x) (e : intsOf x = some ns) : ∃ a, v = .ref a ∧ (SqL p.K H a (ns.map V.int) ∨ SqT p.K H a (ns.map V.int)) := by
  cases x with
  | lst ds =>
    obtain ⟨a, us, rfl, s, r⟩ := hx.lst w
    rw [ints_eq e] at r
    have := r.toInts
    subst this
    exact ⟨a, rfl, .inl (SqL.of s)⟩
  | rls ds =>
    obtain ⟨a, us, rfl, s, r⟩ := hx.rls w
    rw [ints_eq e] at r
    have := r.toInts
    subst this
    exact ⟨a, rfl, .inl s⟩
  | tup ds =>
    obtain ⟨a, us, rfl, s, r⟩ := hx.tup w
    rw [ints_eq e] at r
    have := r.toInts
    subst this
    exact ⟨a, rfl, .inr s⟩
  | rtp ds =>
    obtain ⟨a, us, rfl, s, r⟩ := hx.rtp w
    rw [ints_eq e] at r
    have := r.toInts
    subst this
    exact ⟨a, rfl, .inr s⟩
  | _ => cases e
theorem op_maxV {p : Pg} : Op1C p (rMaxT p.K) maxV (RE p) := by
  intro g H x vx Q E w hx q
  unfold maxV at q
  cases e : intsOf x with
  | none => simp only [e] at q; exact False.elim q
  | some ns =>
    simp only [e] at q
    obtain ⟨a, rfl, s⟩ := intsOf_ok w hx e
    cases ns with
    | nil => exact False.elim q
    | cons n r =>
      refine ⟨a, n :: r, rfl, s, Nat.succ_pos _, fun m hm hle => ?_⟩
      have e2 : m = maxI (n :: r) := Int.le_antisymm (maxI_ge hm) (hle _ (maxI_mem (List.cons_ne_nil _ _)))
      rw [e2]
      exact Pv.now w (post_pure q) (.int _)
theorem op_minV {p : Pg} : Op1C p (rMinT p.K) minV (RE p) := by
  intro g H x vx Q E w hx q
  unfold minV at q
  cases e : intsOf x with
  | none => simp only [e] at q; exact False.elim q
  | some ns =>
    simp only [e] at q
    obtain ⟨a, rfl, s⟩ := intsOf_ok w hx e
    cases ns with
    | nil => exact False.elim q
    | cons n r =>
      refine ⟨a, n :: r, rfl, s, Nat.succ_pos _, fun m hm hle => ?_⟩
      have e2 : m = minI (n :: r) := Int.le_antisymm (hle _ (minI_mem (List.cons_ne_nil _ _))) (minI_le hm)
      rw [e2]
      exact Pv.now w (post_pure q) (.int _)
theorem op_sumV {p : Pg} : Op1C p (rSumT p.K) sumV (RE p) := by
  intro g H x vx Q E w hx q
  unfold sumV at q
  cases e : intsOf x with
  | none => simp only [e] at q; exact False.elim q
  | some ns =>
    simp only [e] at q
    obtain ⟨a, rfl, s⟩ := intsOf_ok w hx e
    exact ⟨a, ns, rfl, s, Pv.now w (post_pure q) (.int _)⟩
section
variable {S : Sta} {ρ : Ev} {a : Expr} {ma : M D} {pos p : Pos}
theorem ee_maxV (B : Blt S "max" (.builtin "max")) (ha : EL S ρ a ma) (hs : NoStar [a] := by intro _; rfl) : EE S ρ (.Call (.Name "max" p) [a] [] pos) (ma >>= maxV) := ex_b1 back_RE (fun Y _ => cr_maxT rfl) op_maxV B ha hs
theorem ee_minV (B : Blt S "min" (.builtin "min")) (ha : EL S ρ a ma) (hs : NoStar [a] := by intro _; rfl) : EE S ρ (.Call (.Name "min" p) [a] [] pos) (ma >>= minV) := ex_b1 back_RE (fun Y _ => cr_minT rfl) op_minV B ha hs
theorem ee_sumV (B : Blt S "sum" (.builtin "sum")) (ha : EL S ρ a ma) (hs : NoStar [a] := by intro _; rfl) : EE S ρ (.Call (.Name "sum" p) [a] [] pos) (ma >>= sumV) := ex_b1 back_RE (fun Y _ => cr_sumT rfl) op_sumV B ha hs
end
end DL
namespace DL
/-! ### plain facts about the mirrors -/
structure Wp {α : Type} (m : M α) (s : Store) (Q : α → Store → Prop) : Prop where
  run : (m s).Post Q fun _ _ => False
section
variable {α β : Type} {m : M α} {f : α → M β} {s : Store}
theorem wp_bind {Q : β → Store → Prop} (h : Wp m s fun a s' => Wp (f a) s' Q) : Wp (m >>= f) s Q := by
  have h := h.run
  refine ⟨?_⟩
  rw [bind_run]
  cases e : m s with
  | ok a s' => rw [e] at h; exact h.run
  | exc c s' => rw [e] at h; exact h
  | stuck => rw [e] at h; exact h
theorem wp_pure {a : α} {Q : α → Store → Prop} (h : Q a s) : Wp (pure a) s Q := ⟨h⟩
theorem wp_imp {Q R : α → Store → Prop} (h : Wp m s Q) (k : ∀ a s, Q a s → R a s) : Wp m s R := ⟨Res.Post.imp h.run k fun _ _ e => e⟩
theorem wp_ok {a : α} {s' : Store} {Q : α → Store → Prop} (h : m s = .ok a s') (q : Q a s') : Wp m s Q := by
  refine ⟨?_⟩
  rw [h]
  exact q
theorem wp_get {Q : α → Store → Prop} (h : Wp m s Q) : ∃ a s', m s = .ok a s' ∧ Q a s' := by
  have h := h.run
  cases e : m s with
  | ok a s' => rw [e] at h; exact ⟨a, s', rfl, h⟩
  | exc c s' => rw [e] at h; exact h.elim
  | stuck => rw [e] at h; exact h.elim
theorem wp_go {a : α} {s' : Store} {Q : β → Store → Prop} (h : m s = .ok a s') (q : Wp (f a) s' Q) : Wp (m >>= f) s Q := wp_bind (wp_ok h q)
end
@[simp] theorem p0_ap {α : Type} (f : M α) : p0 f [] = f := Eq.trans rfl rfl
@[simp] theorem p1_ap {α : Type} (f : D → M α) (a : D) : p1 f [a] = f a := Eq.trans rfl rfl
@[simp] theorem p2_ap {α : Type} (f : D → D → M α) (a b : D) : p2 f [a, b] = f a b := Eq.trans rfl rfl
@[simp] theorem p3_ap {α : Type} (f : D → D → D → M α) (a b c : D) : p3 f [a, b, c] = f a b c := Eq.trans rfl rfl
@[simp] theorem p4_ap {α : Type} (f : D → D → D → D → M α) (a b c d : D) : p4 f [a, b, c, d] = f a b c d := Eq.trans rfl rfl
@[simp] theorem p5_ap {α : Type} (f : D → D → D → D → D → M α) (a b c d e : D) : p5 f [a, b, c, d, e] = f a b c d e := Eq.trans rfl rfl
@[simp] theorem p6_ap {α : Type} (f : D → D → D → D → D → D → M α) (a b c d e g : D) : p6 f [a, b, c, d, e, g] = f a b c d e g := Eq.trans rfl rfl
@[simp] theorem nm_ap (a : D) : nm a = pure [a] := Eq.trans rfl rfl
@[simp] theorem un0_ap : un0 [] = pure [] := Eq.trans rfl rfl
@[simp] theorem unc_ap (u : D → M (List D)) (us : List D → M (List D)) (d : D) (ds : List D) : unc u us (d :: ds) = (u d >>= fun a => us ds >>= fun b => pure (a ++ b)) := Eq.trans rfl rfl
@[simp] theorem unT_ap (us : List D → M (List D)) (ds : List D) : unT us (.tup ds) = us ds := Eq.trans rfl rfl
@[simp] theorem runF_rt {N B : Type} (d : D) : runF (pure (.rt d) : M (Out N B)) = pure d := Eq.trans rfl rfl
@[simp] theorem runF_nx {N B : Type} (n : N) : runF (pure (.nx n) : M (Out N B)) = pure .non := Eq.trans rfl rfl
@[simp] theorem runF_bind {α N B : Type} (m : M α) (f : α → M (Out N B)) : runF (m >>= f) = m >>= fun a => runF (f a) := by
  unfold runF
  rw [bind_assoc']
@[simp] theorem runF_ite {N B : Type} (c : Prop) [Decidable c] (a b : M (Out N B)) : runF (if c then a else b) = if c then runF a else runF b := by
  split <;> rfl
@[simp] theorem ite_bind {α β : Type} (c : Prop) [Decidable c] (a b : M α) (f : α → M β) : ((if c then a else b) >>= f) = if c then a >>= f else b >>= f := by
  split <;> rfl
theorem bool_ite {α : Type} (b : Bool) (x y : α) : (if b = true then x else y) = cond b x y := by cases b <;> rfl
/-! ints -/
section
variable (i j : Int)
@[simp] theorem add_ii : addD (.int i) (.int j) = pure (.int (i + j)) := Eq.trans rfl rfl
@[simp] theorem sub_ii : subD (.int i) (.int j) = pure (.int (i - j)) := Eq.trans rfl rfl
@[simp] theorem and_ii : andD (.int i) (.int j) = pure (.int (PySem.Builtin.bitAnd i j)) := Eq.trans rfl rfl
@[simp] theorem or_ii : orD (.int i) (.int j) = pure (.int (PySem.Builtin.bitOr i j)) := Eq.trans rfl rfl
@[simp] theorem xor_ii : xorD (.int i) (.int j) = pure (.int (PySem.Builtin.bitXor i j)) := Eq.trans rfl rfl
@[simp] theorem lt_ii : ltB (.int i) (.int j) = pure (decide (i < j)) := Eq.trans rfl rfl
@[simp] theorem le_ii : leB (.int i) (.int j) = pure (decide (i ≤ j)) := Eq.trans rfl rfl
@[simp] theorem gt_ii : gtB (.int i) (.int j) = pure (decide (j < i)) := Eq.trans rfl rfl
@[simp] theorem ge_ii : geB (.int i) (.int j) = pure (decide (j ≤ i)) := Eq.trans rfl rfl
@[simp] theorem eq_ii : eqB (.int i) (.int j) = pure (i == j) := Eq.trans rfl rfl
@[simp] theorem ne_ii : neB (.int i) (.int j) = pure (!(i == j)) := Eq.trans rfl rfl
@[simp] theorem neg_i : negD (.int i) = pure (.int (-i)) := Eq.trans rfl rfl
@[simp] theorem inv_i : invD (.int i) = pure (.int (PySem.Builtin.bitNot i)) := Eq.trans rfl rfl
@[simp] theorem int_i : intD (.int i) = pure (.int i) := Eq.trans rfl rfl
@[simp] theorem int_b (b : Bool) : intD (.bl b) = pure (.int (if b then 1 else 0)) := Eq.trans rfl rfl
@[simp] theorem abs_i : absD (.int i) = pure (.int (if i < 0 then -i else i)) := Eq.trans rfl rfl
@[simp] theorem max2_ii : max2D (.int i) (.int j) = pure (.int (if j > i then j else i)) := Eq.trans rfl rfl
@[simp] theorem min2_ii : min2D (.int i) (.int j) = pure (.int (if j < i then j else i)) := Eq.trans rfl rfl
@[simp] theorem intM_i : intM (.int i) = pure (some i) := Eq.trans rfl rfl
@[simp] theorem intG_i : intG (.int i) = pure i := Eq.trans rfl rfl
@[simp] theorem truth_b (b : Bool) : truth (.bl b) = pure b := Eq.trans rfl rfl
@[simp] theorem truth_i : truth (.int i) = pure (i != 0) := Eq.trans rfl rfl
@[simp] theorem truth_n : truth .non = pure false := Eq.trans rfl rfl
theorem mul_ii (h : (-(2 ^ 64) < i ∧ i < 2 ^ 64) ∨ (-(2 ^ 64) < j ∧ j < 2 ^ 64)) : mulD (.int i) (.int j) = pure (.int (i * j)) := by
  show (if mulC i j = true then (pure (.int (i * j)) : M D) else stuck) = _
  rw [if_pos (by unfold mulC; exact decide_eq_true h)]
theorem div_ii (h : 0 < j) (h2 : j < 1073741824) : divD (.int i) (.int j) = pure (.int (i / j)) := by
  show (if divC i j = true then (pure (.int (i / j)) : M D) else stuck) = _
  rw [if_pos (by unfold divC; exact decide_eq_true ⟨h, h2⟩)]
theorem mod_ii (h : 0 < j) : modD (.int i) (.int j) = pure (.int (i % j)) := by
  show (if modC i j = true then (pure (.int (i % j)) : M D) else stuck) = _
  rw [if_pos (by unfold modC; exact decide_eq_true h)]
theorem shl_ii (h : 0 ≤ j) (h2 : j ≤ 1000000) (h3 : i.natAbs < 2 ^ 64) : shlD (.int i) (.int j) = pure (.int (i * 2 ^ j.toNat)) := by
  show (if powC i j = true then (pure (.int (i * 2 ^ j.toNat)) : M D) else stuck) = _
  rw [if_pos (by unfold powC; exact decide_eq_true ⟨h, h2, h3⟩)]
theorem shr_ii (h : 0 ≤ j) : shrD (.int i) (.int j) = pure (.int (i / 2 ^ j.toNat)) := by
  show (if shrC i j = true then (pure (.int (i / 2 ^ j.toNat)) : M D) else stuck) = _
  rw [if_pos (by unfold shrC; exact decide_eq_true h)]
theorem pow_ii (h : 0 ≤ j) (h2 : j ≤ 1000000) (h3 : i.natAbs < 2 ^ 64) : powD (.int i) (.int j) = pure (.int (i ^ j.toNat)) := by
  show (if powC i j = true then (pure (.int (i ^ j.toNat)) : M D) else stuck) = _
  rw [if_pos (by unfold powC; exact decide_eq_true ⟨h, h2, h3⟩)]
theorem range1_i (n : Nat) (h : n < 2 ^ 62) : range1 (.int (n : Nat)) = pure (rangeL 0 n) := by
  show (if bnd (n : Nat) = true then (pure (rangeL 0 ((n : Nat) : Int).toNat) : M (List D)) else stuck) = _
  rw [if_pos (by unfold bnd; exact decide_eq_true ⟨by omega, by omega⟩), Int.toNat_natCast]
theorem range1_z (j : Int) (h0 : 0 ≤ j) (h : j < 2 ^ 62) : range1 (.int j) = pure (rangeL 0 j.toNat) := by
  show (if bnd j = true then (pure (rangeL 0 j.toNat) : M (List D)) else stuck) = _
  rw [if_pos (by unfold bnd; exact decide_eq_true ⟨by omega, by omega⟩)]
end
/-! sequences -/
section
variable (ds : List D)
@[simp] theorem items_t : items (.tup ds) = pure ds := Eq.trans rfl rfl
@[simp] theorem items_l : items (.lst ds) = pure ds := Eq.trans rfl rfl
@[simp] theorem items_r : items (.rls ds) = pure ds := Eq.trans rfl rfl
@[simp] theorem len_t : lenD (.tup ds) = pure (.int ds.length) := Eq.trans rfl rfl
@[simp] theorem len_l : lenD (.lst ds) = pure (.int ds.length) := Eq.trans rfl rfl
@[simp] theorem len_r : lenD (.rls ds) = pure (.int ds.length) := Eq.trans rfl rfl
@[simp] theorem lst_l : lstD (.lst ds) = pure ds := Eq.trans rfl rfl
@[simp] theorem lstO_l : lstO (.lst ds) = pure ds := Eq.trans rfl rfl
@[simp] theorem tuple_l : tupleD (.lst ds) = pure (.tup ds) := Eq.trans rfl rfl
@[simp] theorem tuple_t : tupleD (.tup ds) = pure (.tup ds) := Eq.trans rfl rfl
@[simp] theorem list_t : listD (.tup ds) = pure (.lst ds) := Eq.trans rfl rfl
@[simp] theorem rev_t : revD (.tup ds) = pure (.tup ds.reverse) := Eq.trans rfl rfl
theorem mkT_ok (h : ds.length ≤ 2 ^ 24) : mkT ds = pure (.tup ds) := if_pos h
theorem mkL_ok (h : ds.length ≤ 2 ^ 24) : mkL ds = pure (.lst ds) := if_pos h
@[simp] theorem mkT0 : mkT [] = pure (.tup []) := Eq.trans rfl rfl
@[simp] theorem mkL0 : mkL [] = pure (.lst []) := Eq.trans rfl rfl
@[simp] theorem mkT1 (a : D) : mkT [a] = pure (.tup [a]) := Eq.trans rfl rfl
@[simp] theorem mkL1 (a : D) : mkL [a] = pure (.lst [a]) := Eq.trans rfl rfl
@[simp] theorem mkT2 (a b : D) : mkT [a, b] = pure (.tup [a, b]) := Eq.trans rfl rfl
@[simp] theorem mkL2 (a b : D) : mkL [a, b] = pure (.lst [a, b]) := Eq.trans rfl rfl
@[simp] theorem mkT3 (a b c : D) : mkT [a, b, c] = pure (.tup [a, b, c]) := Eq.trans rfl rfl
@[simp] theorem mkL3 (a b c : D) : mkL [a, b, c] = pure (.lst [a, b, c]) := Eq.trans rfl rfl
@[simp] theorem mkT4 (a b c d : D) : mkT [a, b, c, d] = pure (.tup [a, b, c, d]) := Eq.trans rfl rfl
@[simp] theorem mkL4 (a b c d : D) : mkL [a, b, c, d] = pure (.lst [a, b, c, d]) := Eq.trans rfl rfl
@[simp] theorem mkT5 (a b c d e : D) : mkT [a, b, c, d, e] = pure (.tup [a, b, c, d, e]) := Eq.trans rfl rfl
@[simp] theorem mkL5 (a b c d e : D) : mkL [a, b, c, d, e] = pure (.lst [a, b, c, d, e]) := Eq.trans rfl rfl
theorem app_ok (d : D) (h : ds.length < 2 ^ 24) : appL ds d = pure (.lst (ds ++ [d])) := if_pos h
theorem cat_ok (es : List D) (h : ds.length + es.length ≤ 2 ^ 24) : catD (.lst ds) (.lst es) = pure (.lst (ds ++ es)) := if_pos h
theorem add_tt (es : List D) (h : ds.length + es.length ≤ 2 ^ 24) : addD (.tup ds) (.tup es) = pure (.tup (ds ++ es)) := if_pos h
theorem sum_ints (ns : List Int) : sumD (.lst (ns.map .int)) = pure (.int ns.sum) := by
  unfold sumD
  simp only [ints_map]
theorem all_bools (bs : List Bool) : allD (.lst (bs.map .bl)) = pure (.bl (bs.all id)) := by
  unfold allD
  simp only [bools_map]
theorem any_bools (bs : List Bool) : anyD (.lst (bs.map .bl)) = pure (.bl (bs.any id)) := by
  unfold anyD
  simp only [bools_map]
theorem sorted_ints (ns : List Int) : sortedD (.lst (ns.map .int)) = pure (.lst ((isort ns).map .int)) := sorted_li ns
theorem sortedRev_ints (ns : List Int) : sortedRevD (.lst (ns.map .int)) = pure (.lst ((isort ns).reverse.map .int)) := by
  unfold sortedRevD
  simp only [ints_map]
end
/-! loops -/
theorem wp_for {Z B : Type} {step : Z → D → M (Out Z Z)} {Q : Out Z B → Store → Prop} (I : List D → Z → Store → Prop) : ∀ (xs : List D) (z : Z) (s : Store), I xs z s →
    (∀ x r z s, I (x :: r) z s → Wp (step z x) s fun o s' => match o with
      | .nx z' => I r z' s'
      | .ct z' => I r z' s'
      | .bk z' => Q (.nx z') s'
      | .rt d => Q (.rt d) s') → (∀ z s, I [] z s → Q (.nx z) s) → Wp (forL step z xs) s Q
  | [], z, s, i, _, d => ⟨d z s i⟩
  | x :: r, z, s, i, h, d => by
    unfold forL
    refine wp_bind (wp_imp (h x r z s i) fun o s' q => ?_)
    cases o with
    | nx z' => exact wp_for I r z' s' q h d
    | ct z' => exact wp_for I r z' s' q h d
    | bk z' => exact ⟨q⟩
    | rt d => exact ⟨q⟩
theorem forL_pure {Z B : Type} {step : Z → D → M (Out Z Z)} {g : Z → D → Z} : ∀ (xs : List D) (z : Z), (∀ z x, x ∈ xs → step z x = pure (.nx (g z x))) → (forL step z xs : M (Out Z B)) = pure (.nx (xs.foldl g z))
  | [], z, _ => rfl
  | x :: r, z, h => by
    unfold forL
    rw [h z x List.mem_cons_self, pure_bind']
    exact forL_pure r (g z x) fun z y hy => h z y (List.mem_cons_of_mem _ hy)
/-- a loop over ints -/
theorem forL_ints {Z B : Type} {step : Z → D → M (Out Z Z)} {g : Z → Int → Z} : ∀ (ns : List Int) (z : Z), (∀ z n, n ∈ ns → step z (.int n) = pure (.nx (g z n))) → (forL step z (ns.map D.int) : M (Out Z B)) = pure (.nx (ns.foldl g z))
  | [], z, _ => rfl
  | n :: r, z, h => by
    rw [List.map_cons]
    unfold forL
    rw [h z n List.mem_cons_self, pure_bind']
    exact forL_ints r (g z n) fun z y hy => h z y (List.mem_cons_of_mem _ hy)
/-! comprehensions -/
theorem compM_pure {α : Type} {f : D → M (Option D)} {to : α → D} {g : α → Option D} : ∀ (xs : List α), (∀ x ∈ xs, f (to x) = pure (g x)) → compM f (xs.map to) = pure (xs.filterMap g)
  | [], _ => rfl
  | x :: r, h => by
    have e : noexc (pure (g x) : M (Option D)) = pure (g x) := rfl
    rw [List.map_cons, compM, h x List.mem_cons_self, e, pure_bind', compM_pure r fun y hy => h y (List.mem_cons_of_mem _ hy), pure_bind', List.filterMap_cons]
    cases g x <;> rfl
theorem filterMap_all {α β : Type} (g : α → β) (xs : List α) : xs.filterMap (fun x => some (g x)) = xs.map g := by
  induction xs with
  | nil => rfl
  | cons x r ih => rw [List.filterMap_cons, ih, List.map_cons]
theorem filterMap_le {α β : Type} (g : α → Option β) (xs : List α) : (xs.filterMap g).length ≤ xs.length := List.length_filterMap_le g xs
/-- a comprehension, each item by itself; c the test, g what is put in -/
theorem lcM_pure {α : Type} {mi : M (List D)} {u : D → M (List D)} {mt : List D → M Bool} {me : List D → M D} {to : α → D} {xs : List α} (c : α → Bool) (g : α → D) (hi : mi = pure (xs.map to)) (hl : xs.length ≤ 2 ^ 24)
    (h : ∀ x ∈ xs, (u (to x) >>= fun ds => mt ds >>= fun b => if b = true then me ds >>= fun d => pure (some d) else pure none) = pure (if c x then some (g x) else none)) : lcM mi u mt me = pure (.lst ((xs.filter c).map g)) := by
  unfold lcM
  rw [hi, pure_bind', compM_pure (g := fun x => if c x then some (g x) else none) xs h, pure_bind']
  have e : xs.filterMap (fun x => if c x = true then some (g x) else none) = (xs.filter c).map g := by
    clear h hi hl
    induction xs with
    | nil => rfl
    | cons x r ih =>
      rw [List.filterMap_cons, List.filter_cons]
      by_cases z : c x = true
      · simp only [z, if_true, List.map_cons, ih]
      · simp only [z, ih]
        rfl
  rw [e]
  exact mkL_ok _ (Nat.le_trans (by rw [List.length_map]; exact List.length_filter_le _ _) hl)
/-- .. without a test -/
theorem lcM_map {α : Type} {mi : M (List D)} {u : D → M (List D)} {mt : List D → M Bool} {me : List D → M D} {to : α → D} {xs : List α} (g : α → D) (hi : mi = pure (xs.map to)) (hl : xs.length ≤ 2 ^ 24)
    (h : ∀ x ∈ xs, (u (to x) >>= fun ds => mt ds >>= fun b => if b = true then me ds >>= fun d => pure (some d) else pure none) = pure (some (g x))) : lcM mi u mt me = pure (.lst (xs.map g)) := by
  rw [lcM_pure (fun _ => true) g hi hl (fun x hx => by rw [h x hx]; rfl)]
  congr 2
  rw [List.filter_eq_self.mpr fun _ _ => rfl]
theorem rangeL_eq (n : Nat) : rangeL 0 n = (List.range n).map fun (i : Nat) => D.int (i : Nat) := by
  unfold rangeL
  refine List.map_congr_left fun i _ => ?_
  rw [Int.zero_add]
/-! ### the drawn numbers -/
/-- n more draws may be had; rest: the other cells -/
def Drw (n : Nat) (rest : Store) (s : Store) : Prop := ∃ (ns : List Int) (t : Nat), s = .lst [.lst (ns.map .int), .int (t : Nat)] :: rest ∧ 0 < ns.length ∧ ns.length ≤ 5000 ∧ t + n ≤ 2 ^ 60
theorem Drw.less {n m : Nat} {rest s : Store} (h : Drw n rest s) (l : m ≤ n) : Drw m rest s := by
  obtain ⟨ns, t, e, a, b, c⟩ := h
  exact ⟨ns, t, e, a, b, by omega⟩
end DL
/-! ### bits of numbers from nought -/
namespace DL
theorem split2 (a : Nat) : a = 2 * (a / 2) + a % 2 := by omega
theorem or_xor_and : ∀ (a b : Nat), (a ||| b) = (a ^^^ b) + (a &&& b) ∧ a + b = (a ^^^ b) + 2 * (a &&& b)
  | a, b => by
    by_cases h : a = 0
    · subst h
      simp
    · obtain ⟨ih1, ih2⟩ := or_xor_and (a / 2) (b / 2)
      have e1 := split2 (a ||| b)
      have e2 := split2 (a ^^^ b)
      have e3 := split2 (a &&& b)
      rw [Nat.or_div_two] at e1
      rw [Nat.xor_div_two] at e2
      rw [Nat.and_div_two] at e3
      have m1 := @Nat.or_mod_two_eq_one a b
      have m2 := @Nat.xor_mod_two_eq_one a b
      have m3 := @Nat.and_mod_two_eq_one a b
      have l1 : (a ||| b) % 2 < 2 := Nat.mod_lt _ (by omega)
      have l2 : (a ^^^ b) % 2 < 2 := Nat.mod_lt _ (by omega)
      have l3 : (a &&& b) % 2 < 2 := Nat.mod_lt _ (by omega)
      generalize (a ||| b) = p at *
      generalize (a ^^^ b) = q at *
      generalize (a &&& b) = r at *
      generalize (a / 2 ||| b / 2) = p' at *
      generalize (a / 2 ^^^ b / 2) = q' at *
      generalize (a / 2 &&& b / 2) = r' at *
      by_cases ha : a % 2 = 1 <;> by_cases hb : b % 2 = 1
      · have := m1.mpr (.inl ha)
        have := m3.mpr ⟨ha, hb⟩
        have : q % 2 ≠ 1 := fun z => (m2.mp z) ⟨fun _ => hb, fun _ => ha⟩
        omega
      · have := m1.mpr (.inl ha)
        have : r % 2 ≠ 1 := fun z => hb (m3.mp z).2
        have := m2.mpr fun z => hb (z.mp ha)
        omega
      · have := m1.mpr (.inr hb)
        have : r % 2 ≠ 1 := fun z => ha (m3.mp z).1
        have := m2.mpr fun z => ha (z.mpr hb)
        omega
      · have : p % 2 ≠ 1 := fun z => (m1.mp z).elim ha hb
        have : r % 2 ≠ 1 := fun z => ha (m3.mp z).1
        have : q % 2 ≠ 1 := fun z => (m2.mp z) ⟨fun y => absurd y ha, fun y => absurd y hb⟩
        omega
termination_by a => a
decreasing_by omega
theorem band_nat (a b : Nat) : PySem.Builtin.bitAnd (a : Int) (b : Int) = ((a &&& b : Nat) : Int) := by
  unfold PySem.Builtin.bitAnd
  rw [decide_eq_true (Int.natCast_nonneg a), decide_eq_true (Int.natCast_nonneg b)]
  show (((a : Int).toNat &&& (b : Int).toNat : Nat) : Int) = _
  rw [Int.toNat_natCast, Int.toNat_natCast]
theorem bor_nat (a b : Nat) : PySem.Builtin.bitOr (a : Int) (b : Int) = ((a ||| b : Nat) : Int) := by
  unfold PySem.Builtin.bitOr
  have e : PySem.Builtin.bitAnd (PySem.Builtin.bitNot (a : Int)) (PySem.Builtin.bitNot (b : Int)) = PySem.Builtin.bitNot ((a ||| b : Nat) : Int) := by
    unfold PySem.Builtin.bitAnd PySem.Builtin.bitNot
    have h1 : decide (0 ≤ -(a : Int) - 1) = false := decide_eq_false (by omega)
    have h2 : decide (0 ≤ -(b : Int) - 1) = false := decide_eq_false (by omega)
    rw [h1, h2]
    have e1 : (-(-(a : Int) - 1) - 1).toNat = a := by omega
    have e2 : (-(-(b : Int) - 1) - 1).toNat = b := by omega
    show -(((-(-(a : Int) - 1) - 1).toNat ||| (-(-(b : Int) - 1) - 1).toNat : Nat) : Int) - 1 = _
    rw [e1, e2]
  rw [e]
  unfold PySem.Builtin.bitNot
  omega
theorem bxor_nat (a b : Nat) : PySem.Builtin.bitXor (a : Int) (b : Int) = ((a ^^^ b : Nat) : Int) := by
  unfold PySem.Builtin.bitXor
  rw [bor_nat, band_nat, (or_xor_and a b).1]
  omega
/-- adding a power that is not there -/
theorem pow_add_bit {e s : Nat} (h : s.testBit e = false) (i : Nat) : (2 ^ e + s).testBit i = (decide (e = i) || s.testBit i) := by
  have z : 2 ^ e &&& s = 0 := by
    refine Nat.eq_of_testBit_eq fun j => ?_
    rw [Nat.testBit_and, Nat.testBit_two_pow, Nat.zero_testBit]
    by_cases q : e = j
    · subst q; rw [h, Bool.and_false]
    · rw [decide_eq_false q, Bool.false_and]
  have e2 := (or_xor_and (2 ^ e) s).2
  have e1 := (or_xor_and (2 ^ e) s).1
  rw [z] at e1 e2
  have : 2 ^ e + s = (2 ^ e ||| s) := by omega
  rw [this, Nat.testBit_or, Nat.testBit_two_pow]
theorem sum_pows : ∀ {L : List Nat}, L.Nodup → ∀ i, ((L.map (2 ^ ·)).sum).testBit i = decide (i ∈ L)
  | [], _, i => by
    rw [List.map_nil, List.sum_nil, Nat.zero_testBit]
    exact (decide_eq_false List.not_mem_nil).symm
  | e :: L, h, i => by
    obtain ⟨h1, h2⟩ := List.nodup_cons.mp h
    have ih := sum_pows h2
    rw [List.map_cons, List.sum_cons, pow_add_bit (by rw [ih e]; exact decide_eq_false h1), ih i]
    by_cases z : e = i
    · subst z
      rw [decide_eq_true rfl, Bool.true_or, decide_eq_true List.mem_cons_self]
    · rw [decide_eq_false z, Bool.false_or]
      by_cases y : i ∈ L
      · rw [decide_eq_true y, decide_eq_true (List.mem_cons_of_mem _ y)]
      · rw [decide_eq_false y, decide_eq_false fun q => (List.mem_cons.mp q).elim (fun q => z q.symm) y]
/-! lists of numbers as data -/
def ni (n : Nat) : D := .int (n : Int)
def en (l : List Nat) : List D := l.map ni
theorem en_ints (l : List Nat) : en l = (l.map fun (n : Nat) => (n : Int)).map .int := by
  unfold en
  rw [List.map_map]
  rfl
theorem en_len (l : List Nat) : (en l).length = l.length := List.length_map _
theorem en_app (l m : List Nat) : en (l ++ m) = en l ++ en m := List.map_append
theorem range_en (n : Nat) : rangeL 0 n = en (List.range n) := rangeL_eq n
theorem sum_cast (l : List Nat) : (l.map fun (n : Nat) => (n : Int)).sum = ((l.sum : Nat) : Int) := by
  induction l with
  | nil => rfl
  | cons x l ih => rw [List.map_cons, List.sum_cons, List.sum_cons, ih, Int.natCast_add]
theorem sum_en (l : List Nat) : sumD (.lst (en l)) = pure (ni l.sum) := by
  rw [en_ints, sum_ints, sum_cast]
  rfl
/-! comparing -/
theorem toPs_int : ∀ l : List Int, toPs (l.map .int) = l.map PySem.PyData.int
  | [] => by rw [List.map_nil, List.map_nil, toPs]
  | x :: l => by rw [List.map_cons, List.map_cons, toPs, toPs_int l, toP]
theorem canLay_ints : ∀ l : List Int, PySem.PyData.canLayAll0 (l.map PySem.PyData.int) = true
  | [] => by rw [List.map_nil, PySem.PyData.canLayAll0]
  | x :: l => by rw [List.map_cons, PySem.PyData.canLayAll0, canLay_ints l, PySem.PyData.canLay0]; rfl
theorem depth_ints : ∀ l : List Int, PySem.PyData.depthAll (l.map PySem.PyData.int) = 0
  | [] => by rw [List.map_nil, PySem.PyData.depthAll]
  | x :: l => by rw [List.map_cons, PySem.PyData.depthAll, depth_ints l, PySem.PyData.depth]; rfl
theorem eqv_ints : ∀ l m : List Int, PySem.PyData.eqvAll (l.map PySem.PyData.int) (m.map PySem.PyData.int) = decide (l = m)
  | [], [] => by rw [List.map_nil, PySem.PyData.eqvAll]; rfl
  | [], _ :: _ => by rw [List.map_nil, List.map_cons, PySem.PyData.eqvAll]; rfl
  | _ :: _, [] => by rw [List.map_nil, List.map_cons, PySem.PyData.eqvAll]; rfl
  | x :: l, y :: m => by
    rw [List.map_cons, List.map_cons, PySem.PyData.eqvAll, eqv_ints l m, PySem.PyData.eqv]
    by_cases h : x = y
    · subst h
      by_cases k : l = m
      · subst k; simp
      · simp [k]
    · simp [h]
theorem shaped_tup_ints (l : List Int) : PySem.SeqAt.shaped (toP (.tup (l.map .int))) = true := by
  rw [toP, toPs_int, PySem.SeqAt.shaped, PySem.PyData.canLay0, canLay_ints, PySem.PyData.depth, depth_ints]
  rfl
theorem shaped_lst_ints (l : List Int) : PySem.SeqAt.shaped (toP (.lst (l.map .int))) = true := by
  rw [toP, toPs_int, PySem.SeqAt.shaped, PySem.PyData.canLay0, canLay_ints, PySem.PyData.depth, depth_ints]
  rfl
theorem shaped_int (i : Int) : PySem.SeqAt.shaped (toP (.int i)) = true := by
  rw [toP, PySem.SeqAt.shaped, PySem.PyData.canLay0, PySem.PyData.depth]
  rfl
theorem shaped_bl (i : Bool) : PySem.SeqAt.shaped (toP (.bl i)) = true := by
  rw [toP, PySem.SeqAt.shaped, PySem.PyData.canLay0, PySem.PyData.depth]
  rfl
theorem eqB_of {x y : D} (hx : PySem.SeqAt.shaped (toP x) = true) (hy : PySem.SeqAt.shaped (toP y) = true) : eqB x y = pure (PySem.PyData.eqv (toP x) (toP y)) := by
  unfold eqB
  rw [hx, hy]
  rfl
theorem neB_of {x y : D} (hx : PySem.SeqAt.shaped (toP x) = true) (hy : PySem.SeqAt.shaped (toP y) = true) : neB x y = pure (!PySem.PyData.eqv (toP x) (toP y)) := by
  unfold neB
  rw [hx, hy]
  rfl
theorem eq_tt (l m : List Int) : eqB (.tup (l.map .int)) (.tup (m.map .int)) = pure (decide (l = m)) := by
  rw [eqB_of (shaped_tup_ints l) (shaped_tup_ints m), toP, toP, toPs_int, toPs_int, PySem.PyData.eqv, eqv_ints]
theorem ne_tt (l m : List Int) : neB (.tup (l.map .int)) (.tup (m.map .int)) = pure (!decide (l = m)) := by
  rw [neB_of (shaped_tup_ints l) (shaped_tup_ints m), toP, toP, toPs_int, toPs_int, PySem.PyData.eqv, eqv_ints]
theorem eq_ll (l m : List Int) : eqB (.lst (l.map .int)) (.lst (m.map .int)) = pure (decide (l = m)) := by
  rw [eqB_of (shaped_lst_ints l) (shaped_lst_ints m), toP, toP, toPs_int, toPs_int, PySem.PyData.eqv, eqv_ints]
theorem ne_ll (l m : List Int) : neB (.lst (l.map .int)) (.lst (m.map .int)) = pure (!decide (l = m)) := by
  rw [neB_of (shaped_lst_ints l) (shaped_lst_ints m), toP, toP, toPs_int, toPs_int, PySem.PyData.eqv, eqv_ints]
theorem eq_bb (a b : Bool) : eqB (.bl a) (.bl b) = pure (a == b) := by
  rw [eqB_of (shaped_bl a) (shaped_bl b), toP, toP, PySem.PyData.eqv]
theorem ne_bb (a b : Bool) : neB (.bl a) (.bl b) = pure (!(a == b)) := by
  rw [neB_of (shaped_bl a) (shaped_bl b), toP, toP, PySem.PyData.eqv]
theorem cast_inj {l m : List Nat} : (l.map fun (n : Nat) => (n : Int)) = (m.map fun (n : Nat) => (n : Int)) ↔ l = m := by
  constructor
  · intro h
    induction l generalizing m with
    | nil => cases m with
      | nil => rfl
      | cons _ _ => simp at h
    | cons x l ih => cases m with
      | nil => simp at h
      | cons y m =>
        rw [List.map_cons, List.map_cons] at h
        injection h with h1 h2
        rw [ih h2, Int.ofNat.inj h1]
  · intro h
    rw [h]
theorem eq_ten (l m : List Nat) : eqB (.tup (en l)) (.tup (en m)) = pure (decide (l = m)) := by
  rw [en_ints, en_ints, eq_tt]
  simp only [cast_inj]
theorem ne_ten (l m : List Nat) : neB (.tup (en l)) (.tup (en m)) = pure (!decide (l = m)) := by
  rw [en_ints, en_ints, ne_tt]
  simp only [cast_inj]
theorem eq_len (l m : List Nat) : eqB (.lst (en l)) (.lst (en m)) = pure (decide (l = m)) := by
  rw [en_ints, en_ints, eq_ll]
  simp only [cast_inj]
theorem ne_len (l m : List Nat) : neB (.lst (en l)) (.lst (en m)) = pure (!decide (l = m)) := by
  rw [en_ints, en_ints, ne_ll]
  simp only [cast_inj]
theorem inSeq_ints (neg : Bool) (i : Int) (l : List Int) : inSeq neg (.int i) (l.map .int) = pure (if neg then !l.contains i else l.contains i) := by
  unfold inSeq
  have h1 := shaped_lst_ints l
  rw [toP] at h1
  rw [shaped_int, h1, Bool.and_self, if_pos rfl]
  have e : ((l.map D.int).any fun z => PySem.PyData.eqv (toP z) (toP (.int i))) = l.contains i := by
    rw [Bool.eq_iff_iff, List.any_eq_true, List.contains_iff_mem]
    constructor
    · rintro ⟨z, hz, h⟩
      obtain ⟨j, hj, rfl⟩ := List.mem_map.mp hz
      rw [toP, toP, PySem.PyData.eqv, beq_iff_eq] at h
      rwa [← h]
    · intro h
      exact ⟨_, List.mem_map.mpr ⟨i, h, rfl⟩, by rw [toP, PySem.PyData.eqv, beq_self_eq_true]⟩
  simp only [e]
theorem contains_cast (l : List Nat) (n : Nat) : (l.map fun (n : Nat) => (n : Int)).contains (n : Int) = l.contains n := by
  rw [Bool.eq_iff_iff, List.contains_iff_mem, List.contains_iff_mem, List.mem_map]
  constructor
  · rintro ⟨m, hm, h⟩
    rwa [← Int.ofNat.inj h]
  · intro h
    exact ⟨n, h, rfl⟩
theorem in_l (n : Nat) (l : List Nat) : inB false (ni n) (.lst (en l)) = pure (l.contains n) := by
  show inSeq false (.int n) (en l) = _
  rw [en_ints, inSeq_ints, contains_cast]
  rfl
theorem nin_l (n : Nat) (l : List Nat) : inB true (ni n) (.lst (en l)) = pure (!l.contains n) := by
  show inSeq true (.int n) (en l) = _
  rw [en_ints, inSeq_ints, contains_cast]
  rfl
theorem in_t (n : Nat) (l : List Nat) : inB false (ni n) (.tup (en l)) = pure (l.contains n) := in_l n l
theorem nin_t (n : Nat) (l : List Nat) : inB true (ni n) (.tup (en l)) = pure (!l.contains n) := nin_l n l
/-! operators on numbers from nought -/
theorem and_nn (a b : Nat) : andD (ni a) (ni b) = pure (ni (a &&& b)) := by
  show (pure (.int (PySem.Builtin.bitAnd (a : Int) (b : Int))) : M D) = _
  rw [band_nat]
  rfl
theorem or_nn (a b : Nat) : orD (ni a) (ni b) = pure (ni (a ||| b)) := by
  show (pure (.int (PySem.Builtin.bitOr (a : Int) (b : Int))) : M D) = _
  rw [bor_nat]
  rfl
theorem xor_nn (a b : Nat) : xorD (ni a) (ni b) = pure (ni (a ^^^ b)) := by
  show (pure (.int (PySem.Builtin.bitXor (a : Int) (b : Int))) : M D) = _
  rw [bxor_nat]
  rfl
theorem add_nn (a b : Nat) : addD (ni a) (ni b) = pure (ni (a + b)) := by
  show (pure (.int ((a : Int) + (b : Int))) : M D) = _
  rw [← Int.natCast_add]
  rfl
theorem eq_nn (a b : Nat) : eqB (ni a) (ni b) = pure (a == b) := by
  show (eqB (.int (a : Int)) (.int (b : Int))) = _
  rw [eq_ii]
  congr 1
  rw [Bool.eq_iff_iff, beq_iff_eq, beq_iff_eq]
  exact ⟨fun h => Int.ofNat.inj h, fun h => by rw [h]⟩
theorem ne_nn (a b : Nat) : neB (ni a) (ni b) = pure (!(a == b)) := by
  show (neB (.int (a : Int)) (.int (b : Int))) = _
  rw [ne_ii]
  congr 2
  rw [Bool.eq_iff_iff, beq_iff_eq, beq_iff_eq]
  exact ⟨fun h => Int.ofNat.inj h, fun h => by rw [h]⟩
theorem le_nn (a b : Nat) : leB (ni a) (ni b) = pure (decide (a ≤ b)) := by
  show (leB (.int (a : Int)) (.int (b : Int))) = _
  rw [le_ii]
  simp only [Int.ofNat_le]
theorem lt_nn (a b : Nat) : ltB (ni a) (ni b) = pure (decide (a < b)) := by
  show (ltB (.int (a : Int)) (.int (b : Int))) = _
  rw [lt_ii]
  simp only [Int.ofNat_lt]
theorem gt_nn (a b : Nat) : gtB (ni a) (ni b) = pure (decide (b < a)) := by
  show (gtB (.int (a : Int)) (.int (b : Int))) = _
  rw [gt_ii]
  simp only [Int.ofNat_lt]
theorem shl_nn (a k : Nat) (ha : a < 2 ^ 64) (h : k ≤ 1000000) : shlD (ni a) (ni k) = pure (ni (a * 2 ^ k)) := by
  show (shlD (.int (a : Int)) (.int (k : Int))) = _
  rw [shl_ii _ _ (by omega) (by omega) (by rw [Int.natAbs_natCast]; exact ha), Int.toNat_natCast]
  show _ = (pure (.int (((a * 2 ^ k : Nat)) : Int)) : M D)
  rw [Int.natCast_mul, Int.natCast_pow]
  rfl
theorem shr_nn (a k : Nat) : shrD (ni a) (ni k) = pure (ni (a / 2 ^ k)) := by
  show (shrD (.int (a : Int)) (.int (k : Int))) = _
  rw [shr_ii _ _ (by omega), Int.toNat_natCast]
  show _ = (pure (.int (((a / 2 ^ k : Nat)) : Int)) : M D)
  rw [Int.natCast_ediv, Int.natCast_pow]
  rfl
theorem n0 : D.int 0 = ni 0 := rfl
theorem n1 : D.int 1 = ni 1 := rfl
theorem and_1 (a : Nat) : a &&& 1 = a % 2 := by
  have := Nat.and_two_pow_sub_one_eq_mod a 1
  exact this
theorem bit_eq (a k : Nat) : a / 2 ^ k % 2 = if a.testBit k then 1 else 0 := by
  rw [Nat.testBit_eq_decide_div_mod_eq]
  by_cases h : a / 2 ^ k % 2 = 1
  · rw [decide_eq_true h, if_pos rfl, h]
  · rw [decide_eq_false h, if_neg Bool.false_ne_true]
    omega
theorem range1_n (n : Nat) (h : n < 2 ^ 62) : range1 (ni n) = pure (en (List.range n)) := by
  rw [← range_en]
  exact range1_i n h
theorem at_en {l : List Nat} {k : Nat} (h : k < l.length) : ixD (.lst (en l)) (ni k) = pure (ni (l.getD k 0)) := by
  show ixL (en l) (k : Int) = _
  unfold ixL
  have hg : (en l)[k]? = some (ni (l.getD k 0)) := by
    unfold en
    rw [List.getElem?_map, List.getElem?_eq_getElem h, List.getD_eq_getElem?_getD, List.getElem?_eq_getElem h]
    rfl
  rw [L2.atI_nat hg]
theorem at_enT {l : List Nat} {k : Nat} (h : k < l.length) : ixD (.tup (en l)) (ni k) = pure (ni (l.getD k 0)) := at_en h
end DL
/-! ### data alike -/
namespace DL
open PySem (PyData)
mutual
theorem eqv_refl : ∀ d : PyData, d.canLay0 = true → PyData.eqv d d = true
  | .none, _ => by rw [PyData.eqv]
  | .bool b, _ => by rw [PyData.eqv]; exact beq_self_eq_true b
  | .int i, _ => by rw [PyData.eqv]; exact beq_self_eq_true i
  | .str x, _ => by rw [PyData.eqv]; exact beq_self_eq_true x
  | .list xs, h => by
    rw [PyData.eqv]
    exact eqvAll_refl xs (by rw [PyData.canLay0] at h; exact h)
  | .tuple xs, h => by
    rw [PyData.eqv]
    exact eqvAll_refl xs (by rw [PyData.canLay0] at h; exact h)
  | .dict _, h => by rw [PyData.canLay0] at h; cases h
theorem eqvAll_refl : ∀ ds : List PyData, PyData.canLayAll0 ds = true → PyData.eqvAll ds ds = true
  | [], _ => by rw [PyData.eqvAll]
  | d :: r, h => by
    rw [PyData.canLayAll0, Bool.and_eq_true] at h
    rw [PyData.eqvAll, eqv_refl d h.1, eqvAll_refl r h.2]
    rfl
end
/-- data that may be compared, n deep at most -/
def Sh (n : Nat) (x : D) : Prop := (toP x).canLay0 = true ∧ (toP x).depth ≤ n
theorem Sh.non {n : Nat} : Sh n .non := by
  unfold Sh
  rw [toP, PyData.canLay0, PyData.depth]
  exact ⟨rfl, Nat.zero_le n⟩
theorem Sh.bl {n : Nat} {b : Bool} : Sh n (.bl b) := by
  unfold Sh
  rw [toP, PyData.canLay0, PyData.depth]
  exact ⟨rfl, Nat.zero_le n⟩
theorem Sh.int {n : Nat} {i : Int} : Sh n (.int i) := by
  unfold Sh
  rw [toP, PyData.canLay0, PyData.depth]
  exact ⟨rfl, Nat.zero_le n⟩
theorem Sh.ni {n m : Nat} : Sh n (DL.ni m) := Sh.int
theorem Sh.str {n : Nat} {x : PySem.Str} (h : PySem.PyData.canLay0 (.str x) = true) : Sh n (.str x) := by
  unfold Sh
  rw [toP, PyData.depth]
  exact ⟨h, Nat.zero_le n⟩
theorem sh_all {n : Nat} : ∀ {xs : List D}, (∀ x ∈ xs, Sh n x) → PyData.canLayAll0 (toPs xs) = true ∧ PyData.depthAll (toPs xs) ≤ n
  | [], _ => by
    rw [toPs, PyData.canLayAll0, PyData.depthAll]
    exact ⟨rfl, Nat.zero_le n⟩
  | x :: r, h => by
    obtain ⟨h1, h2⟩ := h x List.mem_cons_self
    obtain ⟨h3, h4⟩ := sh_all (xs := r) fun y hy => h y (List.mem_cons_of_mem _ hy)
    rw [toPs, PyData.canLayAll0, PyData.depthAll, h1, h3]
    exact ⟨rfl, Nat.max_le.mpr ⟨h2, h4⟩⟩
theorem Sh.tup {n : Nat} {xs : List D} (h : ∀ x ∈ xs, Sh n x) : Sh (n + 1) (.tup xs) := by
  unfold Sh
  rw [toP, PyData.canLay0, PyData.depth]
  exact ⟨(sh_all h).1, Nat.succ_le_succ (sh_all h).2⟩
theorem Sh.lst {n : Nat} {xs : List D} (h : ∀ x ∈ xs, Sh n x) : Sh (n + 1) (.lst xs) := by
  unfold Sh
  rw [toP, PyData.canLay0, PyData.depth]
  exact ⟨(sh_all h).1, Nat.succ_le_succ (sh_all h).2⟩
theorem Sh.ten {n : Nat} (l : List Nat) : Sh (n + 1) (.tup (en l)) := Sh.tup fun x hx => by
  obtain ⟨m, _, rfl⟩ := List.mem_map.mp hx
  exact Sh.ni
theorem Sh.len {n : Nat} (l : List Nat) : Sh (n + 1) (.lst (en l)) := Sh.lst fun x hx => by
  obtain ⟨m, _, rfl⟩ := List.mem_map.mp hx
  exact Sh.ni
theorem Sh.ok {n : Nat} {x : D} (h : Sh n x) (k : n ≤ 64) : PySem.SeqAt.shaped (toP x) = true := by
  unfold PySem.SeqAt.shaped
  rw [h.1, decide_eq_true (Nat.le_trans h.2 k)]
  rfl
def eqD (x y : D) : Bool := PyData.eqv (toP x) (toP y)
def eqDs (xs ys : List D) : Bool := PyData.eqvAll (toPs xs) (toPs ys)
theorem eqB_sh {n m : Nat} {x y : D} (hx : Sh n x) (hy : Sh m y) (hn : n ≤ 64 := by decide) (hm : m ≤ 64 := by decide) : eqB x y = pure (eqD x y) := eqB_of (hx.ok hn) (hy.ok hm)
theorem neB_sh {n m : Nat} {x y : D} (hx : Sh n x) (hy : Sh m y) (hn : n ≤ 64 := by decide) (hm : m ≤ 64 := by decide) : neB x y = pure (!eqD x y) := neB_of (hx.ok hn) (hy.ok hm)
theorem eqD_refl {n : Nat} {x : D} (h : Sh n x) : eqD x x = true := eqv_refl _ h.1
theorem eqB_self {n : Nat} {x : D} (h : Sh n x) (hn : n ≤ 64 := by decide) : eqB x x = pure true := by rw [eqB_sh h h hn hn, eqD_refl h]
theorem neB_self {n : Nat} {x : D} (h : Sh n x) (hn : n ≤ 64 := by decide) : neB x x = pure false := by rw [neB_sh h h hn hn, eqD_refl h]; rfl
theorem eqD_ii (i j : Int) : eqD (.int i) (.int j) = (i == j) := by unfold eqD; rw [toP, toP, PyData.eqv]
theorem eqD_bb (a b : Bool) : eqD (.bl a) (.bl b) = (a == b) := by unfold eqD; rw [toP, toP, PyData.eqv]
theorem eqD_bi (a : Bool) (j : Int) : eqD (.bl a) (.int j) = ((if a then 1 else 0) == j) := by unfold eqD; rw [toP, toP, PyData.eqv]
theorem eqD_ib (i : Int) (b : Bool) : eqD (.int i) (.bl b) = (i == (if b then 1 else 0)) := by unfold eqD; rw [toP, toP, PyData.eqv]
theorem eqD_ss (x y : PySem.Str) : eqD (.str x) (.str y) = (x == y) := by unfold eqD; rw [toP, toP, PyData.eqv]
theorem eqD_tt (xs ys : List D) : eqD (.tup xs) (.tup ys) = eqDs xs ys := by unfold eqD eqDs; rw [toP, toP, PyData.eqv]
theorem eqD_ll (xs ys : List D) : eqD (.lst xs) (.lst ys) = eqDs xs ys := by unfold eqD eqDs; rw [toP, toP, PyData.eqv]
theorem eqDs_nn : eqDs [] [] = true := by unfold eqDs; rw [toPs, PyData.eqvAll]
theorem eqDs_cc (x y : D) (xs ys : List D) : eqDs (x :: xs) (y :: ys) = (eqD x y && eqDs xs ys) := by unfold eqD eqDs; rw [toPs, toPs, PyData.eqvAll]
theorem eqDs_nc (y : D) (ys : List D) : eqDs [] (y :: ys) = false := by unfold eqDs; rw [toPs, toPs, PyData.eqvAll]
theorem eqDs_cn (y : D) (ys : List D) : eqDs (y :: ys) [] = false := by unfold eqDs; rw [toPs, toPs, PyData.eqvAll]
theorem eqDs_map {α : Type} [DecidableEq α] {f : α → D} (h : ∀ x y, eqD (f x) (f y) = decide (x = y)) : ∀ l m : List α, eqDs (l.map f) (m.map f) = decide (l = m)
  | [], [] => by rw [List.map_nil, eqDs_nn]; rfl
  | [], y :: m => by rw [List.map_nil, List.map_cons, eqDs_nc]; rfl
  | x :: l, [] => by rw [List.map_nil, List.map_cons, eqDs_cn]; rfl
  | x :: l, y :: m => by
    rw [List.map_cons, List.map_cons, eqDs_cc, h, eqDs_map h l m, Bool.eq_iff_iff, Bool.and_eq_true, decide_eq_true_iff, decide_eq_true_iff, decide_eq_true_iff, List.cons.injEq]
theorem eqD_ni (a b : Nat) : eqD (ni a) (ni b) = decide (a = b) := by
  show eqD (.int a) (.int b) = _
  rw [eqD_ii, Bool.eq_iff_iff, beq_iff_eq, decide_eq_true_iff]
  exact ⟨fun h => Int.ofNat.inj h, fun h => by rw [h]⟩
theorem eqD_ten (l m : List Nat) : eqD (.tup (en l)) (.tup (en m)) = decide (l = m) := by
  rw [eqD_tt]
  exact eqDs_map eqD_ni l m
theorem eqD_len (l m : List Nat) : eqD (.lst (en l)) (.lst (en m)) = decide (l = m) := by
  rw [eqD_ll]
  exact eqDs_map eqD_ni l m
theorem eqB_ss {x y : PySem.Str} (hx : PySem.PyData.canLay0 (.str x) = true) (hy : PySem.PyData.canLay0 (.str y) = true) : eqB (.str x) (.str y) = pure (x == y) := by
  rw [eqB_sh (n := 0) (m := 0) (Sh.str hx) (Sh.str hy), eqD_ss]
theorem strOk_of {x : PySem.Str} (h : PySem.PyData.strOk x = true) : PySem.PyData.canLay0 (.str x) = true := by rw [PyData.canLay0]; exact h
end DL
/-! ### loops and comprehensions over numbers, draws in comprehensions -/
namespace DL
theorem forL_en {Z B : Type} {step : Z → D → M (Out Z Z)} {g : Z → Nat → Z} {P : Z → Prop} : ∀ (ns : List Nat) (z : Z), P z → (∀ z n, P z → n ∈ ns → step z (ni n) = pure (.nx (g z n)) ∧ P (g z n)) → (forL step z (en ns) : M (Out Z B)) = pure (.nx (ns.foldl g z)) ∧ P (ns.foldl g z)
  | [], z, hz, _ => ⟨rfl, hz⟩
  | n :: r, z, hz, h => by
    obtain ⟨h1, h2⟩ := h z n hz List.mem_cons_self
    have ih := forL_en (B := B) r (g z n) h2 fun z y hz hy => h z y hz (List.mem_cons_of_mem _ hy)
    refine ⟨?_, ih.2⟩
    show forL step z (ni n :: en r) = _
    unfold forL
    rw [h1, pure_bind']
    exact ih.1
theorem forL_nn {B : Type} {step : D → D → M (Out D D)} {g : Nat → Nat → Nat} {P : Nat → Prop} : ∀ (ns : List Nat) (z : Nat), P z → (∀ z n, P z → n ∈ ns → step (ni z) (ni n) = pure (.nx (ni (g z n))) ∧ P (g z n)) → (forL step (ni z) (en ns) : M (Out D B)) = pure (.nx (ni (ns.foldl g z))) ∧ P (ns.foldl g z)
  | [], z, hz, _ => ⟨rfl, hz⟩
  | n :: r, z, hz, h => by
    obtain ⟨h1, h2⟩ := h z n hz List.mem_cons_self
    have ih := forL_nn (B := B) r (g z n) h2 fun z y hz hy => h z y hz (List.mem_cons_of_mem _ hy)
    refine ⟨?_, ih.2⟩
    show forL step (ni z) (ni n :: en r) = _
    unfold forL
    rw [h1, pure_bind']
    exact ih.1
theorem forL_ln {B : Type} {step : D → D → M (Out D D)} {g : List Nat → Nat → List Nat} {P : List Nat → Prop} : ∀ (ns : List Nat) (z : List Nat), P z → (∀ z n, P z → n ∈ ns → step (.lst (en z)) (ni n) = pure (.nx (.lst (en (g z n)))) ∧ P (g z n)) → (forL step (.lst (en z)) (en ns) : M (Out D B)) = pure (.nx (.lst (en (ns.foldl g z)))) ∧ P (ns.foldl g z)
  | [], z, hz, _ => ⟨rfl, hz⟩
  | n :: r, z, hz, h => by
    obtain ⟨h1, h2⟩ := h z n hz List.mem_cons_self
    have ih := forL_ln (B := B) r (g z n) h2 fun z y hz hy => h z y hz (List.mem_cons_of_mem _ hy)
    refine ⟨?_, ih.2⟩
    show forL step (.lst (en z)) (ni n :: en r) = _
    unfold forL
    rw [h1, pure_bind']
    exact ih.1
theorem forL_lr {B : Type} {step : D → D → M (Out D D)} {g : List Nat → Nat → List Nat} {P : List Nat → List Nat → Prop} : ∀ (ns : List Nat) (z : List Nat), P ns z → (∀ z n r, P (n :: r) z → n ∈ ns → step (.lst (en z)) (ni n) = pure (.nx (.lst (en (g z n)))) ∧ P r (g z n)) → (forL step (.lst (en z)) (en ns) : M (Out D B)) = pure (.nx (.lst (en (ns.foldl g z)))) ∧ P [] (ns.foldl g z)
  | [], z, hz, _ => ⟨rfl, hz⟩
  | n :: r, z, hz, h => by
    obtain ⟨h1, h2⟩ := h z n r hz List.mem_cons_self
    have ih := forL_lr (B := B) r (g z n) h2 fun z y r hz hy => h z y r hz (List.mem_cons_of_mem _ hy)
    refine ⟨?_, ih.2⟩
    show forL step (.lst (en z)) (ni n :: en r) = _
    unfold forL
    rw [h1, pure_bind']
    exact ih.1
theorem bind_eq {α β : Type} {m m' : M α} {f : α → M β} {r : M β} (h : m = m') (h2 : m' >>= f = r) : m >>= f = r := by rw [h]; exact h2
theorem mkL_en {l : List Nat} (h : l.length ≤ 2 ^ 24) : mkL (en l) = pure (.lst (en l)) := mkL_ok _ (by rw [en_len]; exact h)
theorem mkT_en {l : List Nat} (h : l.length ≤ 2 ^ 24) : mkT (en l) = pure (.tup (en l)) := mkT_ok _ (by rw [en_len]; exact h)
theorem lcM_en {xs : List Nat} {mi : M (List D)} {u : D → M (List D)} {mt : List D → M Bool} {me : List D → M D} (c : Nat → Bool) (g : Nat → Nat) (hi : mi = pure (en xs)) (hl : xs.length ≤ 2 ^ 24)
    (h : ∀ x ∈ xs, (u (ni x) >>= fun ds => mt ds >>= fun b => if b = true then me ds >>= fun d => pure (some d) else pure none) = pure (if c x then some (ni (g x)) else none)) : lcM mi u mt me = pure (.lst (en ((xs.filter c).map g))) := by
  rw [lcM_pure (to := ni) c (fun x => ni (g x)) hi hl h]
  unfold en
  rw [List.map_map]
  rfl
theorem lcM_enm {xs : List Nat} {mi : M (List D)} {u : D → M (List D)} {mt : List D → M Bool} {me : List D → M D} (g : Nat → Nat) (hi : mi = pure (en xs)) (hl : xs.length ≤ 2 ^ 24)
    (h : ∀ x ∈ xs, (u (ni x) >>= fun ds => mt ds >>= fun b => if b = true then me ds >>= fun d => pure (some d) else pure none) = pure (some (ni (g x)))) : lcM mi u mt me = pure (.lst (en (xs.map g))) := by
  rw [lcM_map (to := ni) (fun x => ni (g x)) hi hl h]
  unfold en
  rw [List.map_map]
  rfl
theorem foldl_put {α : Type} (c : Nat → Bool) (g : Nat → α) : ∀ (xs : List Nat) (acc : List α), xs.foldl (fun f j => if c j = true then f ++ [g j] else f) acc = acc ++ (xs.filter c).map g
  | [], acc => (List.append_nil acc).symm
  | x :: xs, acc => by
    rw [List.foldl_cons, foldl_put c g xs, List.filter_cons]
    by_cases h : c x = true
    · rw [if_pos h, if_pos h, List.map_cons, List.append_assoc]
      rfl
    · rw [if_neg h, if_neg h]
theorem wp_comp {f : D → M (Option D)} {J : List D → List D → Store → Prop} : ∀ (xs acc : List D) (s : Store), J xs acc s → (∀ x r acc s, J (x :: r) acc s → Wp (f x) s fun o s' => J r (acc ++ o.toList) s') → Wp (compM f xs) s fun ys s' => J [] (acc ++ ys) s'
  | [], acc, s, j, _ => wp_pure (by rw [List.append_nil]; exact j)
  | x :: r, acc, s, j, h => by
    obtain ⟨o, s', e, j'⟩ := wp_get (h x r acc s j)
    have e2 : noexc (f x) s = .ok o s' := by
      unfold noexc
      rw [e]
    unfold compM
    refine wp_go e2 (wp_bind (wp_imp (wp_comp r (acc ++ o.toList) s' j' h) fun ys s'' q => wp_pure ?_))
    cases o with
    | none => simpa [addO] using q
    | some d => simpa [addO] using q
theorem wp_lc {mi : M (List D)} {u : D → M (List D)} {mt : List D → M Bool} {me : List D → M D} {s : Store} {J : List D → List D → Store → Prop} {Q : D → Store → Prop} (hi : Wp mi s fun xs s' => J xs [] s')
    (h : ∀ x r acc s, J (x :: r) acc s → Wp (u x >>= fun ds => mt ds >>= fun b => if b = true then me ds >>= fun d => pure (some d) else pure none) s fun o s' => J r (acc ++ o.toList) s')
    (he : ∀ ys s', J [] ys s' → ys.length ≤ 2 ^ 24 ∧ Q (.lst ys) s') : Wp (lcM mi u mt me) s Q := by
  unfold lcM
  refine wp_bind (wp_imp hi fun xs s' j => wp_bind (wp_imp (wp_comp xs [] s' j h) fun ys s'' q => ?_))
  rw [List.nil_append] at q
  obtain ⟨h1, h2⟩ := he ys s'' q
  rw [mkL_ok _ h1]
  exact wp_pure h2
theorem len_ten (l : List Nat) : lenD (.tup (en l)) = pure (ni l.length) := by
  rw [len_t, en_len]
  rfl
theorem add_ten {l m : List Nat} (h : l.length + m.length ≤ 2 ^ 24) : addD (.tup (en l)) (.tup (en m)) = pure (.tup (en (l ++ m))) := by
  rw [add_tt _ _ (by rw [en_len, en_len]; exact h), en_app]
theorem wp_eq {α β : Type} {m m' : M α} {f : α → M β} {s : Store} {Q : β → Store → Prop} (h : m = m') (q : Wp (m' >>= f) s Q) : Wp (m >>= f) s Q := by rw [h]; exact q
theorem forL_thru {B : Type} {step : Unit → D → M (Out Unit Unit)} : ∀ (xs : List D), (∀ x ∈ xs, step () x = pure (.nx ())) → (forL step () xs : M (Out Unit B)) = pure (.nx ())
  | [], _ => rfl
  | x :: r, h => by
    unfold forL
    rw [h x List.mem_cons_self, pure_bind']
    exact forL_thru r fun y hy => h y (List.mem_cons_of_mem _ hy)
theorem int_bn (b : Bool) : intD (.bl b) = pure (ni (if b = true then 1 else 0)) := by cases b <;> rfl
theorem len_len (l : List Nat) : lenD (.lst (en l)) = pure (ni l.length) := by
  rw [len_l, en_len]
  rfl
/-- what is true of each -/
theorem lcM_bool {xs : List Nat} {mi : M (List D)} {u : D → M (List D)} {mt : List D → M Bool} {me : List D → M D} (p : Nat → Bool) (hi : mi = pure (en xs)) (hl : xs.length ≤ 2 ^ 24)
    (h : ∀ x ∈ xs, (u (ni x) >>= fun ds => mt ds >>= fun b => if b = true then me ds >>= fun d => pure (some d) else pure none) = pure (some (.bl (p x)))) : lcM mi u mt me = pure (.lst ((xs.map p).map .bl)) := by
  rw [lcM_map (to := ni) (fun x => .bl (p x)) hi hl h, List.map_map]
  rfl
theorem lcM_any {xs : List Nat} {mi : M (List D)} {u : D → M (List D)} {mt : List D → M Bool} {me : List D → M D} (p : Nat → Bool) (hi : mi = pure (en xs)) (hl : xs.length ≤ 2 ^ 24)
    (h : ∀ x ∈ xs, (u (ni x) >>= fun ds => mt ds >>= fun b => if b = true then me ds >>= fun d => pure (some d) else pure none) = pure (some (.bl (p x)))) : (lcM mi u mt me >>= anyD) = pure (.bl (xs.any p)) := by
  rw [lcM_bool p hi hl h, pure_bind', any_bools, List.any_map]
  rfl
theorem lcM_all {xs : List Nat} {mi : M (List D)} {u : D → M (List D)} {mt : List D → M Bool} {me : List D → M D} (p : Nat → Bool) (hi : mi = pure (en xs)) (hl : xs.length ≤ 2 ^ 24)
    (h : ∀ x ∈ xs, (u (ni x) >>= fun ds => mt ds >>= fun b => if b = true then me ds >>= fun d => pure (some d) else pure none) = pure (some (.bl (p x)))) : (lcM mi u mt me >>= allD) = pure (.bl (xs.all p)) := by
  rw [lcM_bool p hi hl h, pure_bind', all_bools, List.all_map]
  rfl
theorem c0 : D.int 0 = ni 0 := rfl
theorem c1 : D.int 1 = ni 1 := rfl
theorem c2 : D.int 2 = ni 2 := rfl
theorem c3 : D.int 3 = ni 3 := rfl
theorem c4 : D.int 4 = ni 4 := rfl
theorem c5 : D.int 5 = ni 5 := rfl
theorem c6 : D.int 6 = ni 6 := rfl
theorem c7 : D.int 7 = ni 7 := rfl
theorem c8 : D.int 8 = ni 8 := rfl
theorem sub_nn {a b : Nat} (h : b ≤ a) : subD (ni a) (ni b) = pure (ni (a - b)) := by
  show (pure (.int ((a : Int) - (b : Int))) : M D) = _
  rw [← Int.ofNat_sub h]
  rfl
theorem int_n (a : Nat) : intD (ni a) = pure (ni a) := Eq.trans rfl rfl
theorem truth_n' (a : Nat) : truth (ni a) = pure (!(a == 0)) := by
  show (truth (.int (a : Int))) = _
  rw [truth_i]
  cases a <;> rfl
end DL
namespace DL
/-- a loop, its state by a code -/
theorem forL_by {A α Z B : Type} {enc : A → Z} {to : α → D} {step : Z → D → M (Out Z Z)} {g : A → α → A} {P : List α → A → Prop} : ∀ (xs : List α) (a : A), P xs a →
    (∀ a x r, P (x :: r) a → x ∈ xs → step (enc a) (to x) = pure (.nx (enc (g a x))) ∧ P r (g a x)) → (forL step (enc a) (xs.map to) : M (Out Z B)) = pure (.nx (enc (xs.foldl g a))) ∧ P [] (xs.foldl g a)
  | [], a, ha, _ => ⟨rfl, ha⟩
  | x :: r, a, ha, h => by
    obtain ⟨h1, h2⟩ := h a x r ha List.mem_cons_self
    have ih := forL_by (B := B) (enc := enc) (to := to) (step := step) (g := g) (P := P) r (g a x) h2 fun a y t hp hy => h a y t hp (List.mem_cons_of_mem _ hy)
    refine ⟨?_, ih.2⟩
    rw [List.map_cons]
    unfold forL
    rw [h1, pure_bind']
    exact ih.1
theorem uniqI_len : ∀ l : List Int, (uniqI l).length ≤ l.length
  | [] => Nat.le_refl _
  | x :: r => by
    unfold uniqI
    have := uniqI_len r
    split
    · rw [List.length_cons]; omega
    · rw [List.length_cons, List.length_cons]; omega
end DL
namespace DL
theorem all_b (xs : List Nat) (p : Nat → Bool) : allD (.lst ((xs.map p).map .bl)) = pure (.bl (xs.all p)) := by
  rw [all_bools, List.all_map]
  rfl
theorem any_b (xs : List Nat) (p : Nat → Bool) : anyD (.lst ((xs.map p).map .bl)) = pure (.bl (xs.any p)) := by
  rw [any_bools, List.any_map]
  rfl
end DL
namespace DL
theorem addI_nn (a b : Nat) : addI (ni a) (ni b) = pure (ni (a + b)) := by
  show (pure (.int ((a : Int) + (b : Int))) : M D) = _
  rw [← Int.natCast_add]
  rfl
theorem bit_truth (x t : Nat) : (!(x / 2 ^ t &&& 1 == 0)) = x.testBit t := by
  rw [and_1, bit_eq]
  cases x.testBit t <;> rfl
theorem app_en {l : List Nat} {a : Nat} (h : l.length < 2 ^ 24) : appL (en l) (ni a) = pure (.lst (en (l ++ [a]))) := by
  rw [app_ok _ _ (by rw [en_len]; exact h), en_app]
  rfl
theorem ext_ok {ds es : List D} (h : ds.length + es.length ≤ 2 ^ 24) : extL ds (.lst es) = pure (.lst (ds ++ es)) := if_pos h
theorem ext_en {l m : List Nat} (h : l.length + m.length ≤ 2 ^ 24) : extL (en l) (.lst (en m)) = pure (.lst (en (l ++ m))) := by
  rw [ext_ok (by rw [en_len, en_len]; exact h), en_app]
end DL
namespace DL
theorem forL_go {A α Z B R : Type} {enc : A → Z} {to : α → D} {step : Z → D → M (Out Z Z)} {g : A → α → A} {P : List α → A → Prop} {k : Out Z B → M R} {r : M R} (xs : List α) (a : A) (hp : P xs a)
    (h : ∀ a x r, P (x :: r) a → x ∈ xs → step (enc a) (to x) = pure (.nx (enc (g a x))) ∧ P r (g a x)) (q : P [] (xs.foldl g a) → k (.nx (enc (xs.foldl g a))) = r) : (forL step (enc a) (xs.map to) >>= k) = r := by
  have key := forL_by (B := B) xs a hp h
  rw [key.1, pure_bind']
  exact q key.2
end DL
namespace DL
/-- a loop that gives the first one -/
theorem forL_find {step : Unit → D → M (Out Unit Unit)} {p : Nat → Bool} {g : Nat → D} : ∀ (xs : List Nat), (∀ x ∈ xs, step () (ni x) = pure (if p x = true then .rt (g x) else .nx ())) → (forL step () (en xs) : M (Out Unit Unit)) = pure (match xs.find? p with
    | some x => .rt (g x)
    | none => .nx ())
  | [], _ => rfl
  | x :: r, h => by
    show forL step () (ni x :: en r) = _
    unfold forL
    rw [h x List.mem_cons_self, pure_bind', List.find?_cons]
    by_cases z : p x = true
    · rw [if_pos z, z]
    · rw [if_neg z, Bool.not_eq_true _ |>.mp z]
      exact forL_find r fun y hy => h y (List.mem_cons_of_mem _ hy)
end DL
namespace DL
/-- a while loop; n tells how many turns are left at most -/
theorem wp_while {Z B : Type} {t : Z → M Bool} {step : Z → M (Out Z Z)} {Q : Out Z B → Store → Prop} (I : Nat → Z → Store → Prop)
    (h : ∀ n z s, I n z s → Wp (t z) s fun b s' => if b = true then Wp (step z) s' fun o s'' => match o with
      | .nx z' => ∃ m, m < n ∧ I m z' s''
      | .ct z' => ∃ m, m < n ∧ I m z' s''
      | .bk z' => Q (.nx z') s''
      | .rt d => Q (.rt d) s''
    else Q (.nx z) s') : ∀ (fuel n : Nat) (z : Z) (s : Store), I n z s → n < fuel → Wp (whileL t step fuel z) s Q
  | 0, n, z, s, _, hn => by omega
  | fuel + 1, n, z, s, i, hn => by
    unfold whileL
    refine wp_bind (wp_imp (h n z s i) fun b s' q => ?_)
    by_cases e : b = true
    · rw [if_pos e] at q ⊢
      refine wp_bind (wp_imp q fun o s'' q2 => ?_)
      cases o with
      | nx z' =>
        obtain ⟨m, l, j⟩ := q2
        exact wp_while I h fuel m z' s'' j (by omega)
      | ct z' =>
        obtain ⟨m, l, j⟩ := q2
        exact wp_while I h fuel m z' s'' j (by omega)
      | bk z' => exact ⟨q2⟩
      | rt d => exact ⟨q2⟩
    · rw [if_neg e] at q ⊢
      exact ⟨q⟩
end DL
namespace DL
theorem sl1 {i : Nat} {r : List Nat} : slL (some 1) none (.lst (en (i :: r))) = pure (.lst (en r)) := by
  show (pure (.lst (cut (en (i :: r)) (some 1) none)) : M D) = _
  unfold cut
  rw [HT.sIx_none, show HT.sIx (en (i :: r)).length 0 (some 1) = min 1 (en (i :: r)).length from HT.sIx_nat _ _ 1]
  rw [en_len, List.length_cons, show min 1 (r.length + 1) = 1 by omega]
  show (pure (.lst (((en r).take _))) : M D) = _
  rw [List.take_of_length_le (by rw [en_len]; omega)]
end DL
namespace DL
theorem at_row {N k : Nat} {f : Nat → Bool} (h : k < N) : ixD (.lst (((List.range N).map f).map .bl)) (ni k) = pure (.bl (f k)) := by
  show ixL _ (k : Int) = _
  unfold ixL
  have hg : (((List.range N).map f).map D.bl)[k]? = some (.bl (f k)) := by
    rw [List.getElem?_map, List.getElem?_map, List.getElem?_range h]
    rfl
  rw [show L2.atI (((List.range N).map f).map D.bl) (k : Int) = some (.bl (f k)) from L2.atI_nat hg]
theorem len_row {N : Nat} {f : Nat → Bool} : lenD (.lst (((List.range N).map f).map .bl)) = pure (ni N) := by
  rw [len_l, List.length_map, List.length_map, List.length_range, ni]
theorem Sh.row {n : Nat} (l : List Bool) : Sh (n + 1) (.lst (l.map .bl)) := Sh.lst fun x hx => by
  obtain ⟨m, _, rfl⟩ := List.mem_map.mp hx
  exact Sh.bl
end DL
namespace DL
theorem intM_n (k : Nat) : intM (ni k) = pure (some (k : Int)) := Eq.trans rfl rfl
theorem cut_hi {α : Type} (l : List α) (k : Nat) : cut l none (some (k : Int)) = l.take k := by
  unfold cut
  rw [HT.sIx_none, show HT.sIx l.length l.length (some (k : Int)) = min k l.length from HT.sIx_nat _ _ k, List.drop_zero, Nat.sub_zero]
  by_cases h : k ≤ l.length
  · rw [Nat.min_eq_left h]
  · rw [Nat.min_eq_right (by omega), List.take_of_length_le (Nat.le_refl _), List.take_of_length_le (by omega)]
theorem cut_lo {α : Type} (l : List α) (k : Nat) : cut l (some (k : Int)) none = l.drop k := by
  unfold cut
  rw [HT.sIx_none, show HT.sIx l.length 0 (some (k : Int)) = min k l.length from HT.sIx_nat _ _ k, List.take_of_length_le (by rw [List.length_drop]; omega)]
  by_cases h : k ≤ l.length
  · rw [Nat.min_eq_left h]
  · rw [Nat.min_eq_right (by omega), List.drop_of_length_le (Nat.le_refl _), List.drop_of_length_le (by omega)]
theorem slT_hi (l : List Nat) (k : Nat) : slT none (some (k : Int)) (.tup (en l)) = pure (.tup (en (l.take k))) := by
  show (pure (.tup (cut (en l) none (some (k : Int)))) : M D) = _
  rw [cut_hi]
  unfold en
  rw [List.map_take]
theorem slT_lo (l : List Nat) (k : Nat) : slT (some (k : Int)) none (.tup (en l)) = pure (.tup (en (l.drop k))) := by
  show (pure (.tup (cut (en l) (some (k : Int)) none)) : M D) = _
  rw [cut_lo]
  unfold en
  rw [List.map_drop]
theorem mul_nn {a b : Nat} (h : a < 2 ^ 64) : mulD (ni a) (ni b) = pure (ni (a * b)) := by
  show mulD (.int a) (.int b) = _
  rw [mul_ii _ _ (.inl (by omega)), ← Int.natCast_mul]
  rfl
theorem Drw.snoc {n : Nat} {rest s : Store} (h : Drw n rest s) (C : Cell) : Drw n (rest ++ [C]) (s ++ [C]) := by
  obtain ⟨ns, t, rfl, a, b, d⟩ := h
  exact ⟨ns, t, rfl, a, b, d⟩
end DL
/-! ### sets as numbers, least sets, crossing sets -/
namespace Bd
open DL
/-- what is in the one, not in the other -/
def sdf (a b : Nat) : Nat := a ^^^ (a &&& b)
theorem sdf_bit (a b i : Nat) : (sdf a b).testBit i = (a.testBit i && !b.testBit i) := by
  unfold sdf
  rw [Nat.testBit_xor, Nat.testBit_and]
  cases a.testBit i <;> cases b.testBit i <;> rfl
def Sub (a b : Nat) : Prop := ∀ i, a.testBit i = true → b.testBit i = true
def sub (a b : Nat) : Bool := sdf a b == 0
theorem zero_iff {a : Nat} : a = 0 ↔ ∀ i, a.testBit i = false := ⟨fun h i => by rw [h, Nat.zero_testBit], fun h => Nat.eq_of_testBit_eq fun i => by rw [h i, Nat.zero_testBit]⟩
theorem sub_iff {a b : Nat} : sub a b = true ↔ Sub a b := by
  unfold sub
  rw [beq_iff_eq, zero_iff]
  constructor
  · intro h i hi
    have := h i
    rw [sdf_bit, hi] at this
    cases e : b.testBit i
    · rw [e] at this; cases this
    · rfl
  · intro h i
    rw [sdf_bit]
    cases e : a.testBit i
    · rfl
    · rw [h i e]; rfl
def meet (a b : Nat) : Bool := !(a &&& b == 0)
theorem meet_iff {a b : Nat} : meet a b = true ↔ ∃ i, a.testBit i = true ∧ b.testBit i = true := by
  unfold meet
  constructor
  · intro h
    refine Classical.byContradiction fun z => ?_
    have : a &&& b = 0 := zero_iff.mpr fun i => by
      rw [Nat.testBit_and]
      cases ha : a.testBit i
      · rfl
      · cases hb : b.testBit i
        · rfl
        · exact (z ⟨i, ha, hb⟩).elim
    rw [this] at h
    cases h
  · rintro ⟨i, ha, hb⟩
    cases h : (a &&& b == 0)
    · rfl
    · have := zero_iff.mp (beq_iff_eq.mp h) i
      rw [Nat.testBit_and, ha, hb] at this
      cases this
theorem Sub.refl (a : Nat) : Sub a a := fun _ h => h
theorem Sub.trans {a b c : Nat} (h : Sub a b) (k : Sub b c) : Sub a c := fun i x => k i (h i x)
theorem Sub.anti {a b : Nat} (h : Sub a b) (k : Sub b a) : a = b := Nat.eq_of_testBit_eq fun i => by
  cases e : a.testBit i
  · cases f : b.testBit i
    · rfl
    · rw [k i f] at e; cases e
  · rw [h i e]
theorem Sub.le {a b : Nat} (h : Sub a b) : a ≤ b := by
  have : a = a &&& b := Nat.eq_of_testBit_eq fun i => by
    rw [Nat.testBit_and]
    cases e : a.testBit i
    · rfl
    · rw [h i e]; rfl
  rw [this]
  exact Nat.and_le_right
theorem sub_lt {a b c : Nat} (h : Sub a b) (k : b < 2 ^ c) : a < 2 ^ c := Nat.lt_of_le_of_lt h.le k
theorem zero_sub (a : Nat) : Sub 0 a := fun i h => by rw [Nat.zero_testBit] at h; cases h
theorem or_bit (a b i : Nat) : (a ||| b).testBit i = (a.testBit i || b.testBit i) := Nat.testBit_or a b i
theorem or_sub {a b c : Nat} : Sub (a ||| b) c ↔ Sub a c ∧ Sub b c := by
  constructor
  · intro h
    exact ⟨fun i x => h i (by rw [or_bit, x]; rfl), fun i x => h i (by rw [or_bit, x, Bool.or_true])⟩
  · rintro ⟨h, k⟩ i x
    rw [or_bit, Bool.or_eq_true] at x
    exact x.elim (h i) (k i)
theorem sub_orL (a b : Nat) : Sub a (a ||| b) := (or_sub.mp (Sub.refl _)).1
theorem sub_orR (a b : Nat) : Sub b (a ||| b) := (or_sub.mp (Sub.refl _)).2
theorem pow_bit (k i : Nat) : (2 ^ k).testBit i = decide (k = i) := Nat.testBit_two_pow
/-- Meets -/
def Meets (a b : Nat) : Prop := ∃ i, a.testBit i = true ∧ b.testBit i = true
theorem Meets.symm {a b : Nat} (h : Meets a b) : Meets b a := by obtain ⟨i, x, y⟩ := h; exact ⟨i, y, x⟩
theorem Meets.mono {a b c : Nat} (h : Meets a b) (k : Sub a c) : Meets c b := by obtain ⟨i, x, y⟩ := h; exact ⟨i, k i x, y⟩
/-- all but these, of c things -/
def co (c x : Nat) : Nat := sdf (2 ^ c - 1) x
theorem co_bit (c x i : Nat) : (co c x).testBit i = (decide (i < c) && !x.testBit i) := by
  unfold co
  rw [sdf_bit, Nat.testBit_two_pow_sub_one]
theorem co_lt (c x : Nat) : co c x < 2 ^ c := by
  have : Sub (co c x) (2 ^ c - 1) := fun i h => by
    unfold co at h
    rw [sdf_bit, Bool.and_eq_true] at h
    exact h.1
  have := this.le
  have := Nat.two_pow_pos c
  omega
theorem bit_lt {x c i : Nat} (h : x < 2 ^ c) (k : x.testBit i = true) : i < c := by
  refine Classical.byContradiction fun z => ?_
  rw [Nat.testBit_lt_two_pow (Nat.lt_of_lt_of_le h (Nat.pow_le_pow_right (by omega) (by omega)))] at k
  cases k
theorem co_co {c x : Nat} (h : x < 2 ^ c) : co c (co c x) = x := Nat.eq_of_testBit_eq fun i => by
  rw [co_bit, co_bit]
  by_cases z : i < c
  · rw [decide_eq_true z, Bool.true_and, Bool.true_and, Bool.not_not]
  · rw [decide_eq_false z]
    cases e : x.testBit i
    · rfl
    · exact (z (bit_lt h e)).elim
/-- a set lies within what another leaves out just if they do not meet -/
theorem sub_co {c a b : Nat} (h : a < 2 ^ c) : Sub a (co c b) ↔ ¬ Meets a b := by
  constructor
  · rintro k ⟨i, x, y⟩
    have := k i x
    rw [co_bit, y, Bool.not_true, Bool.and_false] at this
    cases this
  · intro k i x
    rw [co_bit, decide_eq_true (bit_lt h x), Bool.true_and]
    cases e : b.testBit i
    · rfl
    · exact (k ⟨i, x, e⟩).elim
theorem meets_co {c a b : Nat} (h : a < 2 ^ c) : Meets a (co c b) ↔ ¬ Sub a b := by
  constructor
  · rintro ⟨i, x, y⟩ k
    rw [co_bit, k i x, Bool.not_true, Bool.and_false] at y
    cases y
  · intro k
    refine Classical.byContradiction fun z => k fun i x => ?_
    refine Classical.byContradiction fun q => z ⟨i, x, ?_⟩
    rw [co_bit, decide_eq_true (bit_lt h x)]
    cases e : b.testBit i
    · rfl
    · exact (q e).elim
theorem co_mono {c a b : Nat} (h : Sub a b) : Sub (co c b) (co c a) := fun i x => by
  rw [co_bit, Bool.and_eq_true] at x
  rw [co_bit, x.1]
  cases e : a.testBit i
  · rfl
  · rw [h i e] at x; cases x.2
/-! ### ascending lists, least ones -/
def usort (l : List Nat) : List Nat := (ssort (l.map fun (n : Nat) => (n : Int))).map Int.toNat
theorem usort_cast (l : List Nat) : (usort l).map (fun (n : Nat) => (n : Int)) = ssort (l.map fun (n : Nat) => (n : Int)) := by
  unfold usort
  rw [List.map_map]
  refine (List.map_congr_left (g := id) fun x hx => ?_).trans (List.map_id _)
  obtain ⟨n, _, rfl⟩ := List.mem_map.mp (ssort_mem.mp hx)
  rfl
theorem usort_mem {l : List Nat} {x : Nat} : x ∈ usort l ↔ x ∈ l := by
  constructor
  · intro h
    obtain ⟨i, hi, rfl⟩ := List.mem_map.mp h
    obtain ⟨n, hn, rfl⟩ := List.mem_map.mp (ssort_mem.mp hi)
    exact hn
  · intro h
    exact List.mem_map.mpr ⟨(x : Int), ssort_mem.mpr (List.mem_map.mpr ⟨x, h, rfl⟩), rfl⟩
def Asc (l : List Nat) : Prop := l.Pairwise (· < ·)
theorem usort_asc (l : List Nat) : Asc (usort l) := by
  have h := ssort_lt (l.map fun (n : Nat) => (n : Int))
  rw [← usort_cast] at h
  rw [List.pairwise_map] at h
  exact h.imp fun k => by omega
theorem asc_eq {a b : List Nat} (ha : Asc a) (hb : Asc b) (h : ∀ x, x ∈ a ↔ x ∈ b) : a = b := by
  have h1 : (a.map fun (n : Nat) => (n : Int)) = b.map fun (n : Nat) => (n : Int) := by
    refine lt_unique ?_ ?_ fun x => ?_
    · rw [List.pairwise_map]; exact ha.imp fun k => by omega
    · rw [List.pairwise_map]; exact hb.imp fun k => by omega
    · constructor
      · intro q
        obtain ⟨n, hn, rfl⟩ := List.mem_map.mp q
        exact List.mem_map.mpr ⟨n, (h n).mp hn, rfl⟩
      · intro q
        obtain ⟨n, hn, rfl⟩ := List.mem_map.mp q
        exact List.mem_map.mpr ⟨n, (h n).mpr hn, rfl⟩
  have := congrArg (List.map Int.toNat) h1
  rw [List.map_map, List.map_map] at this
  simpa [Function.comp_def] using this
theorem usort_id {l : List Nat} (h : Asc l) : usort l = l := asc_eq (usort_asc l) h fun _ => usort_mem
theorem Asc.nodup {l : List Nat} (h : Asc l) : l.Nodup := List.nodup_iff_pairwise_ne.mpr (h.imp fun k => by omega)
/-- no more than the numbers there are -/
theorem asc_lenF {n : Nat} : ∀ (l : List Nat) (m : Nat), Asc l → (∀ x ∈ l, m ≤ x ∧ x < n) → m ≤ n → l.length + m ≤ n
  | [], m, _, _, h => by rw [List.length_nil]; omega
  | x :: r, m, h, k, _ => by
    have h1 := k x List.mem_cons_self
    have h2 := List.pairwise_cons.mp h
    have := asc_lenF r (x + 1) h2.2 (fun y hy => ⟨h2.1 y hy, (k y (List.mem_cons_of_mem _ hy)).2⟩) (by omega)
    rw [List.length_cons]
    omega
theorem asc_len {l : List Nat} {n : Nat} (h : Asc l) (k : ∀ x ∈ l, x < n) : l.length ≤ n := by
  have := asc_lenF l 0 h (fun x hx => ⟨Nat.zero_le x, k x hx⟩) (Nat.zero_le n)
  omega
def least (l : List Nat) : List Nat := (usort l).filter fun x => !((usort l).any fun y => !(y == x) && sub y x)
def Brd (l : List Nat) : Prop := Asc l ∧ ∀ a ∈ l, ∀ b ∈ l, Sub a b → a = b
def Up (l : List Nat) (x : Nat) : Prop := ∃ t ∈ l, Sub t x
def up (l : List Nat) (x : Nat) : Bool := l.any fun t => sub t x
theorem up_iff {l : List Nat} {x : Nat} : up l x = true ↔ Up l x := by
  unfold up Up
  rw [List.any_eq_true]
  constructor
  · rintro ⟨t, h, k⟩; exact ⟨t, h, sub_iff.mp k⟩
  · rintro ⟨t, h, k⟩; exact ⟨t, h, sub_iff.mpr k⟩
theorem Up.mono {l : List Nat} {x y : Nat} (h : Up l x) (k : Sub x y) : Up l y := by
  obtain ⟨t, a, b⟩ := h
  exact ⟨t, a, b.trans k⟩
theorem least_mem {l : List Nat} {x : Nat} : x ∈ least l ↔ x ∈ l ∧ ∀ y ∈ l, Sub y x → y = x := by
  unfold least
  rw [List.mem_filter, usort_mem, Bool.not_eq_true', List.any_eq_false]
  refine and_congr_right fun _ => ?_
  constructor
  · intro h y hy k
    have := h y (usort_mem.mpr hy)
    rw [Bool.and_eq_true, sub_iff] at this
    refine Classical.byContradiction fun z => this ⟨?_, k⟩
    rw [Bool.not_eq_true', beq_eq_false_iff_ne]
    exact z
  · intro h y hy k
    rw [Bool.and_eq_true, sub_iff] at k
    have := h y (usort_mem.mp hy) k.2
    rw [this, beq_self_eq_true] at k
    cases k.1
theorem least_sub {l : List Nat} {x : Nat} (h : x ∈ least l) : x ∈ l := (least_mem.mp h).1
theorem least_brd (l : List Nat) : Brd (least l) :=
  ⟨List.Pairwise.filter _ (usort_asc l), fun a ha b hb k => (least_mem.mp hb).2 a (least_sub ha) k⟩
theorem least_below {l : List Nat} : ∀ (n x : Nat), x ≤ n → x ∈ l → ∃ t ∈ least l, Sub t x
  | n, x, hn, hx => by
    by_cases h : ∀ y ∈ l, Sub y x → y = x
    · exact ⟨x, least_mem.mpr ⟨hx, h⟩, Sub.refl x⟩
    · obtain ⟨y, hy⟩ := Classical.not_forall.mp h
      obtain ⟨h1, h2⟩ := Classical.not_imp.mp hy
      obtain ⟨h3, h4⟩ := Classical.not_imp.mp h2
      have h5 := h3.le
      obtain ⟨t, ht, k⟩ := least_below y y (Nat.le_refl y) h1
      exact ⟨t, ht, k.trans h3⟩
termination_by n x => x
decreasing_by omega
theorem least_up {l : List Nat} {x : Nat} : Up (least l) x ↔ Up l x := by
  constructor
  · rintro ⟨t, h, k⟩
    exact ⟨t, least_sub h, k⟩
  · rintro ⟨t, h, k⟩
    obtain ⟨u, hu, q⟩ := least_below t t (Nat.le_refl t) h
    exact ⟨u, hu, q.trans k⟩
/-- a border is known by what it makes true -/
theorem brd_sub {a b : List Nat} (ha : Brd a) (h : ∀ x, Up a x ↔ Up b x) {x : Nat} (hx : x ∈ a) : x ∈ b := by
  obtain ⟨u, hu, k⟩ := (h x).mp ⟨x, hx, Sub.refl x⟩
  obtain ⟨t, ht, q⟩ := (h u).mpr ⟨u, hu, Sub.refl u⟩
  have := ha.2 t ht x hx (q.trans k)
  subst this
  rwa [q.anti k]
theorem brd_eq {a b : List Nat} (ha : Brd a) (hb : Brd b) (h : ∀ x, Up a x ↔ Up b x) : a = b :=
  asc_eq ha.1 hb.1 fun _ => ⟨brd_sub ha h, brd_sub hb fun x => (h x).symm⟩
/-- .. of c things -/
theorem brd_eqc {c : Nat} {a b : List Nat} (ha : Brd a) (hb : Brd b) (la : ∀ x ∈ a, x < 2 ^ c) (lb : ∀ x ∈ b, x < 2 ^ c) (h : ∀ x, x < 2 ^ c → (Up a x ↔ Up b x)) : a = b := by
  have key : ∀ {l : List Nat} (_ : ∀ x ∈ l, x < 2 ^ c) (x : Nat), Up l x ↔ Up l (x &&& (2 ^ c - 1)) := by
    intro l hl x
    constructor
    · rintro ⟨t, ht, k⟩
      refine ⟨t, ht, fun i hi => ?_⟩
      rw [Nat.testBit_and, k i hi, Nat.testBit_two_pow_sub_one, decide_eq_true (bit_lt (hl t ht) hi)]
      rfl
    · intro k
      refine k.mono fun i hi => ?_
      rw [Nat.testBit_and, Bool.and_eq_true] at hi
      exact hi.1
  refine brd_eq ha hb fun x => ?_
  rw [key la, key lb]
  refine h _ ?_
  have := @Nat.and_le_right x (2 ^ c - 1)
  have := Nat.two_pow_pos c
  omega
theorem least_id {l : List Nat} (h : Brd l) : least l = l := brd_eq (least_brd l) h fun _ => least_up
theorem least_congr {a b : List Nat} (h : ∀ x, Up a x ↔ Up b x) : least a = least b := brd_eq (least_brd a) (least_brd b) fun x => by rw [least_up, least_up, h]
theorem brd_sublist {a b : List Nat} (h : Brd b) (k : a.Sublist b) : Brd a := ⟨List.Pairwise.sublist k h.1, fun x hx y hy => h.2 x (k.subset hx) y (k.subset hy)⟩
/-! ### crossing sets -/
def things (x : Nat) : List Nat := (List.range x.log2.succ).filter x.testBit
theorem things_mem {x i : Nat} : i ∈ things x ↔ x.testBit i = true := by
  unfold things
  rw [List.mem_filter, List.mem_range]
  refine ⟨fun h => h.2, fun h => ⟨?_, h⟩⟩
  have hx : x ≠ 0 := fun z => by rw [z, Nat.zero_testBit] at h; cases h
  refine bit_lt ?_ h
  exact (Nat.log2_lt hx).mp (Nat.lt_succ_self _)
def cstep (found : List Nat) (one : Nat) : List Nat := least (found.foldl (fun rows row => if meet row one = true then rows ++ [row] else rows ++ (things one).map fun thing => row ||| 2 ^ thing) [])
def crossing (sets : List Nat) : List Nat := sets.foldl cstep [0]
def Tr (sets : List Nat) (x : Nat) : Prop := ∀ s ∈ sets, Meets x s
theorem cfold_mem {one y : Nat} : ∀ (found acc : List Nat), y ∈ found.foldl (fun rows row => if meet row one = true then rows ++ [row] else rows ++ (things one).map fun thing => row ||| 2 ^ thing) acc ↔ y ∈ acc ∨ ∃ row ∈ found, if meet row one = true then y = row else ∃ i, one.testBit i = true ∧ y = row ||| 2 ^ i
  | [], acc => by simp
  | r :: found, acc => by
    rw [List.foldl_cons, cfold_mem found]
    simp only [List.mem_cons, exists_eq_or_imp]
    by_cases h : meet r one = true
    · rw [if_pos h, if_pos h, List.mem_append, List.mem_singleton, or_assoc]
    · rw [if_neg h, if_neg h, List.mem_append, List.mem_map, or_assoc]
      refine or_congr Iff.rfl (or_congr ?_ Iff.rfl)
      constructor
      · rintro ⟨i, hi, e⟩; exact ⟨i, things_mem.mp hi, e.symm⟩
      · rintro ⟨i, hi, e⟩; exact ⟨i, things_mem.mpr hi, e.symm⟩
theorem cstep_up {found : List Nat} {one x : Nat} : Up (cstep found one) x ↔ Up found x ∧ Meets x one := by
  unfold cstep
  rw [least_up]
  constructor
  · rintro ⟨t, h, k⟩
    obtain h | ⟨row, hr, h⟩ := (cfold_mem found []).mp h
    · cases h
    · by_cases z : meet row one = true
      · rw [if_pos z] at h
        subst h
        exact ⟨⟨t, hr, k⟩, (Meets.mono (meet_iff.mp z) k)⟩
      · rw [if_neg z] at h
        obtain ⟨i, hi, rfl⟩ := h
        obtain ⟨k1, k2⟩ := or_sub.mp k
        exact ⟨⟨row, hr, k1⟩, i, k2 i (by rw [pow_bit, decide_eq_true rfl]), hi⟩
  · rintro ⟨⟨row, hr, k⟩, m⟩
    by_cases z : meet row one = true
    · exact ⟨row, (cfold_mem found []).mpr (.inr ⟨row, hr, by rw [if_pos z]⟩), k⟩
    · obtain ⟨i, x1, x2⟩ := m
      refine ⟨row ||| 2 ^ i, (cfold_mem found []).mpr (.inr ⟨row, hr, by rw [if_neg z]; exact ⟨i, x2, rfl⟩⟩), or_sub.mpr ⟨k, fun j hj => ?_⟩⟩
      rw [pow_bit, decide_eq_true_eq] at hj
      subst hj
      exact x1
theorem cfold_up {x : Nat} : ∀ (sets found : List Nat), Up (sets.foldl cstep found) x ↔ Up found x ∧ Tr sets x
  | [], found => ⟨fun h => ⟨h, fun _ q => by cases q⟩, fun h => h.1⟩
  | s :: sets, found => by
    rw [List.foldl_cons, cfold_up sets, cstep_up, and_assoc]
    refine and_congr_right fun _ => ?_
    constructor
    · rintro ⟨a, b⟩ t ht
      rcases List.mem_cons.mp ht with rfl | ht
      · exact a
      · exact b t ht
    · intro h
      exact ⟨h s List.mem_cons_self, fun t ht => h t (List.mem_cons_of_mem _ ht)⟩
theorem crossing_up {sets : List Nat} {x : Nat} : Up (crossing sets) x ↔ Tr sets x := by
  unfold crossing
  rw [cfold_up]
  exact ⟨fun h => h.2, fun h => ⟨⟨0, List.mem_singleton.mpr rfl, zero_sub x⟩, h⟩⟩
theorem brd0 : Brd [0] := ⟨List.pairwise_singleton _ _, fun a ha b hb _ => by rw [List.mem_singleton.mp ha, List.mem_singleton.mp hb]⟩
theorem cfold_brd : ∀ (sets found : List Nat), Brd found → Brd (sets.foldl cstep found)
  | [], _, h => h
  | s :: sets, found, _ => cfold_brd sets (cstep found s) (least_brd _)
theorem crossing_brd (sets : List Nat) : Brd (crossing sets) := cfold_brd sets [0] brd0
theorem cstep_lt {c : Nat} {found : List Nat} {one : Nat} (h : ∀ x ∈ found, x < 2 ^ c) (k : one < 2 ^ c) : ∀ x ∈ cstep found one, x < 2 ^ c := fun x hx => by
  unfold cstep at hx
  obtain q | ⟨row, hr, q⟩ := (cfold_mem found []).mp (least_sub hx)
  · cases q
  · by_cases z : meet row one = true
    · rw [if_pos z] at q
      rw [q]; exact h row hr
    · rw [if_neg z] at q
      obtain ⟨i, hi, rfl⟩ := q
      exact Nat.or_lt_two_pow (h row hr) (Nat.pow_lt_pow_right (by omega) (bit_lt k hi))
theorem cfold_lt {c : Nat} : ∀ (sets found : List Nat), (∀ x ∈ found, x < 2 ^ c) → (∀ x ∈ sets, x < 2 ^ c) → ∀ x ∈ sets.foldl cstep found, x < 2 ^ c
  | [], _, h, _ => h
  | s :: sets, found, h, k => cfold_lt sets (cstep found s) (cstep_lt h (k s List.mem_cons_self)) fun x hx => k x (List.mem_cons_of_mem _ hx)
theorem crossing_lt {c : Nat} {sets : List Nat} (k : ∀ x ∈ sets, x < 2 ^ c) : ∀ x ∈ crossing sets, x < 2 ^ c :=
  cfold_lt sets [0] (fun x hx => by rw [List.mem_singleton.mp hx]; exact Nat.two_pow_pos c) k
theorem tr_mono {sets : List Nat} {x y : Nat} (h : Tr sets x) (k : Sub x y) : Tr sets y := fun s hs => (h s hs).mono k
/-- crossing twice -/
theorem tr_tr {c : Nat} {sets : List Nat} (k : ∀ x ∈ sets, x < 2 ^ c) {x : Nat} : Tr (crossing sets) x ↔ Up sets x := by
  constructor
  · intro h
    refine Classical.byContradiction fun z => ?_
    have t : Tr sets (co c x) := fun s hs => (meets_co (k s hs)).mpr (fun q => z ⟨s, hs, q⟩) |>.symm
    obtain ⟨s, hs, q⟩ := crossing_up.mpr t
    obtain ⟨i, a, b⟩ := h s hs
    have := q i b
    rw [co_bit, a, Bool.not_true, Bool.and_false] at this
    cases this
  · rintro ⟨t, ht, q⟩ s hs
    exact ((crossing_up.mp ⟨s, hs, Sub.refl s⟩ t ht).symm).mono q
theorem crossing_two {c : Nat} {sets : List Nat} (hb : Brd sets) (k : ∀ x ∈ sets, x < 2 ^ c) : crossing (crossing sets) = sets :=
  brd_eq (crossing_brd _) hb fun x => by rw [crossing_up, tr_tr k]
/-- what crosses, by what is true -/
theorem tr_up {sets : List Nat} {x : Nat} : Tr sets x ↔ ∀ y, Up sets y → Meets x y := by
  constructor
  · rintro h y ⟨t, ht, k⟩
    exact ((h t ht).symm.mono k).symm
  · intro h s hs
    exact h s ⟨s, hs, Sub.refl s⟩
theorem crossing_congr {a b : List Nat} (h : ∀ x, Up a x ↔ Up b x) : crossing a = crossing b :=
  brd_eq (crossing_brd _) (crossing_brd _) fun x => by
    rw [crossing_up, crossing_up, tr_up, tr_up]
    exact forall_congr' fun y => by rw [h]
theorem crossing_inj {c : Nat} {a b : List Nat} (ha : Brd a) (hb : Brd b) (la : ∀ x ∈ a, x < 2 ^ c) (lb : ∀ x ∈ b, x < 2 ^ c) (h : crossing a = crossing b) : a = b := by
  rw [← crossing_two ha la, ← crossing_two hb lb, h]
/-- sorted -/
def srt (l : List Nat) : List Nat := (isort (l.map fun (n : Nat) => (n : Int))).map Int.toNat
theorem srt_cast (l : List Nat) : (srt l).map (fun (n : Nat) => (n : Int)) = isort (l.map fun (n : Nat) => (n : Int)) := by
  unfold srt
  rw [List.map_map]
  refine (List.map_congr_left (g := id) fun x hx => ?_).trans (List.map_id _)
  obtain ⟨n, _, rfl⟩ := List.mem_map.mp ((isort_perm _).mem_iff.mp hx)
  rfl
theorem srt_perm (l : List Nat) : (srt l).Perm l := by
  have h := (isort_perm (l.map fun (n : Nat) => (n : Int))).map Int.toNat
  rw [List.map_map] at h
  exact h.trans (by rw [show (Int.toNat ∘ fun (n : Nat) => (n : Int)) = id from rfl, List.map_id])
theorem srt_mem {l : List Nat} {x : Nat} : x ∈ srt l ↔ x ∈ l := (srt_perm l).mem_iff
theorem srt_asc {l : List Nat} (h : l.Nodup) : Asc (srt l) := by
  have h1 : (srt l).Nodup := (srt_perm l).nodup_iff.mpr h
  have h2 := isort_sorted (l.map fun (n : Nat) => (n : Int))
  rw [← srt_cast, List.pairwise_map] at h2
  exact ((List.nodup_iff_pairwise_ne.mp h1).and h2).imp fun k => by
    have k1 := k.1
    have k2 := k.2
    omega
/-- the greatest false sets -/
def falses (c : Nat) (trues : List Nat) : List Nat := srt ((crossing trues).map (co c))
def Down (l : List Nat) (x : Nat) : Prop := ∃ t ∈ l, Sub x t
def down (l : List Nat) (x : Nat) : Bool := l.any fun t => sub x t
theorem down_iff {l : List Nat} {x : Nat} : down l x = true ↔ Down l x := by
  unfold down Down
  rw [List.any_eq_true]
  constructor
  · rintro ⟨t, h, k⟩; exact ⟨t, h, sub_iff.mp k⟩
  · rintro ⟨t, h, k⟩; exact ⟨t, h, sub_iff.mpr k⟩
theorem falses_mem {c : Nat} {trues : List Nat} {x : Nat} : x ∈ falses c trues ↔ ∃ s ∈ crossing trues, co c s = x := by
  unfold falses
  rw [srt_mem, List.mem_map]
theorem falses_lt {c : Nat} {trues : List Nat} : ∀ x ∈ falses c trues, x < 2 ^ c := fun x hx => by
  obtain ⟨s, _, rfl⟩ := falses_mem.mp hx
  exact co_lt c s
theorem falses_down {c : Nat} {trues : List Nat} (k : ∀ x ∈ trues, x < 2 ^ c) {x : Nat} (hx : x < 2 ^ c) : Down (falses c trues) x ↔ ¬ Up trues x := by
  rw [← tr_tr k]
  constructor
  · rintro ⟨f, hf, q⟩ t
    obtain ⟨s, hs, rfl⟩ := falses_mem.mp hf
    exact (sub_co hx).mp q (t s hs)
  · intro h
    refine Classical.byContradiction fun z => h fun s hs => Classical.byContradiction fun q => z ⟨co c s, falses_mem.mpr ⟨s, hs, rfl⟩, (sub_co hx).mpr q⟩
theorem co_inj {c a b : Nat} (ha : a < 2 ^ c) (hb : b < 2 ^ c) (h : co c a = co c b) : a = b := by rw [← co_co ha, ← co_co hb, h]
theorem falses_brd {c : Nat} {trues : List Nat} (k : ∀ x ∈ trues, x < 2 ^ c) : Brd (falses c trues) := by
  have l := crossing_lt k
  constructor
  · refine srt_asc ?_
    rw [List.nodup_iff_pairwise_ne, List.pairwise_map]
    have := (crossing_brd trues).1
    refine List.Pairwise.imp_of_mem (fun {a b} ha hb (q : a < b) e => ?_) this
    have := co_inj (l a ha) (l b hb) e
    omega
  · intro a ha b hb q
    obtain ⟨s, hs, rfl⟩ := falses_mem.mp ha
    obtain ⟨t, ht, rfl⟩ := falses_mem.mp hb
    have q2 := co_mono (c := c) q
    rw [co_co (l s hs), co_co (l t ht)] at q2
    rw [(crossing_brd trues).2 t ht s hs q2]
theorem falses_back {c : Nat} {trues : List Nat} (hb : Brd trues) (k : ∀ x ∈ trues, x < 2 ^ c) : crossing ((falses c trues).map (co c)) = trues := by
  have l := crossing_lt k
  have e : crossing ((falses c trues).map (co c)) = crossing (crossing trues) := crossing_congr fun x => by
    unfold Up
    constructor
    · rintro ⟨t, ht, q⟩
      obtain ⟨f, hf, rfl⟩ := List.mem_map.mp ht
      obtain ⟨s, hs, rfl⟩ := falses_mem.mp hf
      exact ⟨s, hs, by rwa [co_co (l s hs)] at q⟩
    · rintro ⟨t, ht, q⟩
      exact ⟨t, List.mem_map.mpr ⟨co c t, falses_mem.mpr ⟨t, ht, rfl⟩, co_co (l t ht)⟩, q⟩
  rw [e, crossing_two hb k]
theorem falses_inj {c : Nat} {a b : List Nat} (ha : Brd a) (hb : Brd b) (la : ∀ x ∈ a, x < 2 ^ c) (lb : ∀ x ∈ b, x < 2 ^ c) (h : falses c a = falses c b) : a = b := by
  rw [← falses_back ha la, ← falses_back hb lb, h]
/-! ### an asker for a border -/
structure Ask where
  t : List Nat
  f : List Nat
  asks : Nat
  here : Option Nat
  left : List Nat
  bit : Bool
def ans (t f : List Nat) (x : Nat) : Option Bool := if up t x = true then some true else if down f x = true then some false else none
def tried (h i : Nat) (b : Bool) : Nat := if b = true then sdf h (2 ^ i) else h ||| 2 ^ i
def goA (t f : List Nat) (asks : Nat) (b : Bool) : Nat → List Nat → Ask
  | h, [] => if b = true then ⟨srt (t ++ [h]), f, asks, none, [], b⟩ else ⟨t, srt (f ++ [h]), asks, none, [], b⟩
  | h, i :: r => match ans t f (tried h i b) with
    | none => ⟨t, f, asks, some h, i :: r, b⟩
    | some k => goA t f asks b (if k = b then tried h i b else h) r
theorem go_none {t f : List Nat} {asks : Nat} {b : Bool} {h i : Nat} {r : List Nat} (e : ans t f (tried h i b) = none) : goA t f asks b h (i :: r) = ⟨t, f, asks, some h, i :: r, b⟩ := by
  rw [goA, e]
theorem go_some {t f : List Nat} {asks : Nat} {b k : Bool} {h i : Nat} {r : List Nat} (e : ans t f (tried h i b) = some k) : goA t f asks b h (i :: r) = goA t f asks b (if k = b then tried h i b else h) r := by
  rw [goA, e]
def fo (c : Nat) (t f : List Nat) : Option Nat := (List.range (2 ^ c)).find? fun x => !(up t x) && !(down f x)
def stepA (c : Nat) (a : Ask) : Option Nat := match a.here with
  | some h => match a.left with
    | i :: _ => some (tried h i a.bit)
    | [] => none
  | none => fo c a.t a.f
def tellA (c : Nat) (a : Ask) (b : Bool) (x : Nat) : Ask := match a.here with
  | none => goA a.t a.f (a.asks + 1) b x (if b = true then things x else (List.range c).filter fun i => !(things x).contains i)
  | some h => goA a.t a.f (a.asks + 1) a.bit (if b = a.bit then x else h) a.left.tail
section
variable {c : Nat} {T : List Nat}
structure Known (c : Nat) (T t f : List Nat) : Prop where
  ta : Asc t
  ts : ∀ x ∈ t, x ∈ T
  fa : Asc f
  fs : ∀ x ∈ f, x ∈ falses c T
structure Here (c : Nat) (T t f : List Nat) (asks : Nat) (b : Bool) (h : Nat) (left : List Nat) : Prop where
  lt : h < 2 ^ c
  ok : up T h = b
  op : ans t f h = none
  ll : ∀ i ∈ left, i < c
  st : ∀ i, i < c → h.testBit i = b → i ∈ left ∨ up T (tried h i b) = !b
  few : asks + left.length ≤ (t.length + f.length) * (c + 1) + (c + 1)
  lc : left.length ≤ c
structure Inv (c : Nat) (T : List Nat) (a : Ask) : Prop where
  kn : Known c T a.t a.f
  no : a.here = none → a.asks ≤ (a.t.length + a.f.length) * (c + 1)
  yes : ∀ h, a.here = some h → Here c T a.t a.f a.asks a.bit h a.left ∧ ∃ i r, a.left = i :: r ∧ ans a.t a.f (tried h i a.bit) = none
theorem tried_lt {h i : Nat} {b : Bool} (l : h < 2 ^ c) (k : i < c) : tried h i b < 2 ^ c := by
  unfold tried
  by_cases z : b = true
  · rw [if_pos z]
    refine sub_lt (b := h) (fun j q => ?_) l
    rw [sdf_bit, Bool.and_eq_true] at q
    exact q.1
  · rw [if_neg z]
    exact Nat.or_lt_two_pow l (Nat.pow_lt_pow_right (by omega) k)
theorem tried_bit {h i j : Nat} {b : Bool} : (tried h i b).testBit j = if i = j then !b else h.testBit j := by
  unfold tried
  cases b
  · rw [if_neg (by decide), or_bit, pow_bit]
    by_cases z : i = j
    · rw [if_pos z, decide_eq_true z, Bool.or_true]; rfl
    · rw [if_neg z, decide_eq_false z, Bool.or_false]
  · rw [if_pos rfl, sdf_bit, pow_bit]
    by_cases z : i = j
    · rw [if_pos z, decide_eq_true z, Bool.not_true, Bool.and_false]
    · rw [if_neg z, decide_eq_false z, Bool.not_false, Bool.and_true]
theorem up_false {l : List Nat} {x : Nat} : up l x = false ↔ ¬ Up l x := by rw [← up_iff]; exact Bool.eq_false_iff
theorem down_false {l : List Nat} {x : Nat} : down l x = false ↔ ¬ Down l x := by rw [← down_iff]; exact Bool.eq_false_iff
theorem tried_mono {h i j : Nat} {b : Bool} (q : up T (tried h i b) = !b) : up T (tried (tried h j b) i b) = !b := by
  cases b
  · refine up_iff.mpr ((up_iff.mp q).mono fun k x => ?_)
    rw [tried_bit] at x ⊢
    rw [tried_bit]
    by_cases z : i = k
    · rw [if_pos z]; rfl
    · rw [if_neg z] at x ⊢
      by_cases y : j = k
      · rw [if_pos y]; rfl
      · rw [if_neg y]; exact x
  · refine up_false.mpr fun u => (up_false.mp q) (u.mono fun k x => ?_)
    rw [tried_bit] at x ⊢
    rw [tried_bit] at x
    by_cases z : i = k
    · rw [if_pos z] at x; cases x
    · rw [if_neg z] at x ⊢
      by_cases y : j = k
      · rw [if_pos y] at x; cases x
      · rw [if_neg y] at x; exact x
theorem ans_none {t f : List Nat} {x : Nat} : ans t f x = none ↔ ¬ Up t x ∧ ¬ Down f x := by
  unfold ans
  rw [← up_iff, ← down_iff]
  by_cases h : up t x = true
  · rw [if_pos h]
    exact ⟨fun z => (by cases z), fun z => (z.1 h).elim⟩
  · rw [if_neg h]
    by_cases k : down f x = true
    · rw [if_pos k]
      exact ⟨fun z => (by cases z), fun z => (z.2 k).elim⟩
    · rw [if_neg k]
      exact ⟨fun _ => ⟨h, k⟩, fun _ => rfl⟩
theorem up_of {t : List Nat} (ts : ∀ x ∈ t, x ∈ T) {x : Nat} (h : Up t x) : Up T x := by
  obtain ⟨u, hu, k⟩ := h
  exact ⟨u, ts u hu, k⟩
theorem not_up_of (kT : ∀ x ∈ T, x < 2 ^ c) {f : List Nat} (fs : ∀ x ∈ f, x ∈ falses c T) {x : Nat} (h : Down f x) : ¬ Up T x := by
  obtain ⟨u, hu, k⟩ := h
  have l := falses_lt u (fs u hu)
  exact (falses_down kT (sub_lt k l)).mp ⟨u, fs u hu, k⟩
/-- what is known is right -/
theorem ans_some (kT : ∀ x ∈ T, x < 2 ^ c) {t f : List Nat} (kn : Known c T t f) {x : Nat} {k : Bool} (h : ans t f x = some k) : up T x = k := by
  unfold ans at h
  by_cases z : up t x = true
  · rw [if_pos z] at h
    cases h
    exact up_iff.mpr (up_of kn.ts (up_iff.mp z))
  · rw [if_neg z] at h
    by_cases y : down f x = true
    · rw [if_pos y] at h
      cases h
      exact up_false.mpr (not_up_of kT kn.fs (down_iff.mp y))
    · rw [if_neg y] at h
      cases h
/-- .. and never what is tried by -/
theorem known_not {t f : List Nat} {h i : Nat} {b k : Bool} (op : ans t f h = none) (hk : ans t f (tried h i b) = some k) : k = !b := by
  obtain ⟨o1, o2⟩ := ans_none.mp op
  unfold ans at hk
  by_cases z : up t (tried h i b) = true
  · rw [if_pos z] at hk
    cases hk
    cases b
    · rfl
    · refine (o1 ((up_iff.mp z).mono fun j x => ?_)).elim
      rw [tried_bit] at x
      by_cases q : i = j
      · rw [if_pos q] at x; cases x
      · rw [if_neg q] at x; exact x
  · rw [if_neg z] at hk
    by_cases y : down f (tried h i b) = true
    · rw [if_pos y] at hk
      cases hk
      cases b
      · obtain ⟨u, hu, q⟩ := down_iff.mp y
        refine (o2 ⟨u, hu, Sub.trans (fun j x => ?_) q⟩).elim
        rw [tried_bit]
        by_cases w : i = j
        · rw [if_pos w]; rfl
        · rw [if_neg w]; exact x
      · rfl
    · rw [if_neg y] at hk
      cases hk
theorem add_true {t f : List Nat} {asks h : Nat} (kT : ∀ x ∈ T, x < 2 ^ c) (H : Here c T t f asks true h []) : h ∈ T := by
  obtain ⟨u, hu, k⟩ := up_iff.mp H.ok
  have : u = h := k.anti fun i x => by
    refine Classical.byContradiction fun z => ?_
    rcases H.st i (bit_lt H.lt x) x with q | q
    · cases q
    · refine (up_false.mp q) ⟨u, hu, fun j y => ?_⟩
      rw [tried_bit]
      by_cases w : i = j
      · subst w; exact (z y).elim
      · rw [if_neg w]; exact k j y
  rwa [← this]
theorem add_false {t f : List Nat} {asks h : Nat} (kT : ∀ x ∈ T, x < 2 ^ c) (H : Here c T t f asks false h []) : h ∈ falses c T := by
  obtain ⟨u, hu, k⟩ := (falses_down kT H.lt).mpr (up_false.mp H.ok)
  have lu := falses_lt u hu
  have : h = u := k.anti fun i x => by
    cases e : h.testBit i
    · rcases H.st i (bit_lt lu x) e with q | q
      · cases q
      · refine ((falses_down kT (tried_lt H.lt (bit_lt lu x))).mp ⟨u, hu, fun j y => ?_⟩ (up_iff.mp q)).elim
        rw [tried_bit] at y
        by_cases w : i = j
        · subst w; exact x
        · rw [if_neg w] at y; exact k j y
    · rfl
  rwa [this]
theorem go_inv (kT : ∀ x ∈ T, x < 2 ^ c) {t f : List Nat} {asks : Nat} {b : Bool} (kn : Known c T t f) : ∀ (left : List Nat) (h : Nat), Here c T t f asks b h left → Inv c T (goA t f asks b h left)
  | [], h, H => by
    have few := H.few
    obtain ⟨o1, o2⟩ := ans_none.mp H.op
    unfold goA
    by_cases z : b = true
    · subst z
      rw [if_pos rfl]
      have nd : (t ++ [h]).Nodup := List.nodup_append.mpr ⟨kn.ta.nodup, List.nodup_cons.mpr ⟨fun q => (by cases q), List.nodup_nil⟩, fun a ha b hb e => by
        rw [List.mem_singleton] at hb
        subst hb e
        exact o1 ⟨a, ha, Sub.refl a⟩⟩
      refine ⟨⟨srt_asc nd, fun x hx => ?_, kn.fa, kn.fs⟩, fun _ => ?_, fun h q => by cases q⟩
      · rcases List.mem_append.mp (srt_mem.mp hx) with q | q
        · exact kn.ts x q
        · rw [List.mem_singleton] at q
          subst q
          exact add_true kT H
      · show asks ≤ ((srt (t ++ [h])).length + f.length) * (c + 1)
        rw [(srt_perm _).length_eq, List.length_append, List.length_singleton]
        have e : (t.length + 1 + f.length) * (c + 1) = (t.length + f.length) * (c + 1) + (c + 1) := by
          rw [show t.length + 1 + f.length = (t.length + f.length) + 1 by omega, Nat.succ_mul]
        rw [e]
        exact few
    · have z : b = false := Bool.eq_false_iff.mpr z
      subst z
      rw [if_neg (by decide)]
      have nd : (f ++ [h]).Nodup := List.nodup_append.mpr ⟨kn.fa.nodup, List.nodup_cons.mpr ⟨fun q => (by cases q), List.nodup_nil⟩, fun a ha b hb e => by
        rw [List.mem_singleton] at hb
        subst hb e
        exact o2 ⟨a, ha, Sub.refl a⟩⟩
      refine ⟨⟨kn.ta, kn.ts, srt_asc nd, fun x hx => ?_⟩, fun _ => ?_, fun h q => by cases q⟩
      · rcases List.mem_append.mp (srt_mem.mp hx) with q | q
        · exact kn.fs x q
        · rw [List.mem_singleton] at q
          subst q
          exact add_false kT H
      · show asks ≤ (t.length + (srt (f ++ [h])).length) * (c + 1)
        rw [(srt_perm _).length_eq, List.length_append, List.length_singleton]
        have e : (t.length + (f.length + 1)) * (c + 1) = (t.length + f.length) * (c + 1) + (c + 1) := by
          rw [show t.length + (f.length + 1) = (t.length + f.length) + 1 by omega, Nat.succ_mul]
        rw [e]
        exact few
  | i :: r, h, H => by
    unfold goA
    cases e : ans t f (tried h i b) with
    | none => exact ⟨kn, fun q => (by cases q), fun h' q => (by cases q; exact ⟨H, i, r, rfl, e⟩)⟩
    | some k =>
      have k1 := known_not H.op e
      have k2 := ans_some kT kn e
      have : ¬ k = b := by rw [k1]; cases b <;> decide
      show Inv c T (goA t f asks b (if k = b then tried h i b else h) r)
      rw [if_neg this]
      refine go_inv kT kn r h ⟨H.lt, H.ok, H.op, fun j hj => H.ll j (List.mem_cons_of_mem _ hj), fun j l hj => ?_, ?_, ?_⟩
      · rcases H.st j l hj with q | q
        · rcases List.mem_cons.mp q with rfl | q
          · exact .inr (k2.trans k1)
          · exact .inl q
        · exact .inr q
      · have := H.few
        rw [List.length_cons] at this
        omega
      · have := H.lc
        rw [List.length_cons] at this
        omega
theorem fo_some {t f : List Nat} {x : Nat} (h : fo c t f = some x) : x < 2 ^ c ∧ ans t f x = none := by
  have h1 := List.find?_some h
  have h2 := List.mem_range.mp (List.mem_of_find?_eq_some h)
  rw [Bool.and_eq_true, Bool.not_eq_true', Bool.not_eq_true'] at h1
  exact ⟨h2, ans_none.mpr ⟨up_false.mp h1.1, down_false.mp h1.2⟩⟩
theorem fo_none {t f : List Nat} (h : fo c t f = none) {x : Nat} (hx : x < 2 ^ c) : Up t x ∨ Down f x := by
  have h1 := List.find?_eq_none.mp h x (List.mem_range.mpr hx)
  rw [Bool.and_eq_true, Bool.not_eq_true', Bool.not_eq_true'] at h1
  refine Classical.byContradiction fun z => h1 ⟨up_false.mpr fun q => z (.inl q), down_false.mpr fun q => z (.inr q)⟩
theorem things_len {x : Nat} (h : x < 2 ^ c) : (things x).length ≤ c := by
  refine asc_len (List.Pairwise.filter _ ?_) fun i hi => bit_lt h (things_mem.mp hi)
  exact List.pairwise_lt_range
theorem tell_inv (kT : ∀ x ∈ T, x < 2 ^ c) {a : Ask} (I : Inv c T a) {x : Nat} (h : stepA c a = some x) : x < 2 ^ c ∧ Inv c T (tellA c a (up T x) x) := by
  unfold stepA at h
  unfold tellA
  cases e : a.here with
  | none =>
    rw [e] at h
    obtain ⟨h1, h2⟩ := fo_some h
    have few := I.no e
    have lc : (if up T x = true then things x else (List.range c).filter fun i => !(things x).contains i).length ≤ c := by
      by_cases z : up T x = true
      · rw [if_pos z]
        exact things_len h1
      · rw [if_neg z]
        have := List.length_filter_le (fun i => !(things x).contains i) (List.range c)
        rwa [List.length_range] at this
    refine ⟨h1, go_inv kT I.kn _ _ ⟨h1, rfl, h2, fun i hi => ?_, fun i l hi => .inl ?_, ?_, lc⟩⟩
    · by_cases z : up T x = true
      · rw [if_pos z] at hi
        exact bit_lt h1 (things_mem.mp hi)
      · rw [if_neg z] at hi
        exact List.mem_range.mp (List.mem_filter.mp hi).1
    · by_cases z : up T x = true
      · rw [if_pos z]
        exact things_mem.mpr (hi.trans z)
      · rw [if_neg z]
        refine List.mem_filter.mpr ⟨List.mem_range.mpr l, ?_⟩
        rw [Bool.not_eq_true', ← Bool.not_eq_true, List.contains_iff_mem, things_mem, hi]
        exact z
    · by_cases z : up T x = true
      · rw [if_pos z]
        have := things_len h1
        omega
      · rw [if_neg z]
        have := List.length_filter_le (fun i => !(things x).contains i) (List.range c)
        rw [List.length_range] at this
        omega
  | some hh =>
    rw [e] at h
    obtain ⟨H, i, r, e2, op⟩ := I.yes hh e
    rw [e2] at h
    have hx : tried hh i a.bit = x := Option.some.inj h
    subst hx
    have hi : i < c := H.ll i (by rw [e2]; exact List.mem_cons_self)
    have lx : tried hh i a.bit < 2 ^ c := tried_lt H.lt hi
    have few := H.few
    have lc := H.lc
    rw [e2, List.length_cons] at few lc
    refine ⟨lx, ?_⟩
    show Inv c T (goA a.t a.f (a.asks + 1) a.bit (if up T (tried hh i a.bit) = a.bit then tried hh i a.bit else hh) a.left.tail)
    rw [e2, List.tail_cons]
    by_cases z : up T (tried hh i a.bit) = a.bit
    · rw [if_pos z]
      refine go_inv kT I.kn _ _ ⟨lx, z, op, fun j hj => H.ll j (by rw [e2]; exact List.mem_cons_of_mem _ hj), fun j l hj => ?_, by omega, by omega⟩
      rw [tried_bit] at hj
      by_cases w : i = j
      · rw [if_pos w] at hj
        cases hb : a.bit <;> rw [hb] at hj <;> cases hj
      · rw [if_neg w] at hj
        rcases H.st j l hj with q | q
        · rw [e2] at q
          rcases List.mem_cons.mp q with q | q
          · exact (w q.symm).elim
          · exact .inl q
        · exact .inr (tried_mono q)
    · rw [if_neg z]
      refine go_inv kT I.kn _ _ ⟨H.lt, H.ok, H.op, fun j hj => H.ll j (by rw [e2]; exact List.mem_cons_of_mem _ hj), fun j l hj => ?_, by omega, by omega⟩
      rcases H.st j l hj with q | q
      · rw [e2] at q
        rcases List.mem_cons.mp q with rfl | q
        · refine .inr ?_
          cases hb : a.bit <;> rw [hb] at z
          · exact Bool.not_eq_false _ |>.mp z
          · exact Bool.eq_false_iff.mpr z
        · exact .inl q
      · exact .inr q
/-- nothing more is asked: both borders are known -/
theorem end_known (kT : ∀ x ∈ T, x < 2 ^ c) (hT : Brd T) {a : Ask} (I : Inv c T a) (h : stepA c a = none) : a.here = none ∧ a.t = T ∧ a.f = falses c T ∧ a.asks ≤ (T.length + (falses c T).length) * (c + 1) := by
  unfold stepA at h
  cases e : a.here with
  | some hh =>
    rw [e] at h
    obtain ⟨_, i, r, e2, _⟩ := I.yes hh e
    rw [e2] at h
    cases h
  | none =>
    rw [e] at h
    have et : a.t = T := asc_eq I.kn.ta hT.1 fun x => ⟨I.kn.ts x, fun hx => by
      rcases fo_none h (kT x hx) with ⟨u, hu, q⟩ | q
      · have := hT.2 u (I.kn.ts u hu) x hx q
        rwa [← this]
      · exact (not_up_of kT I.kn.fs q ⟨x, hx, Sub.refl x⟩).elim⟩
    have ef : a.f = falses c T := asc_eq I.kn.fa (falses_brd kT).1 fun x => ⟨I.kn.fs x, fun hx => by
      have lx := falses_lt x hx
      rcases fo_none h lx with q | ⟨u, hu, q⟩
      · exact ((falses_down kT lx).mp ⟨x, hx, Sub.refl x⟩ (up_of I.kn.ts q)).elim
      · have := (falses_brd kT).2 x hx u (I.kn.fs u hu) q
        rwa [this]⟩
    have := I.no e
    rw [et, ef] at this
    exact ⟨rfl, et, ef, this⟩
def startA : Ask := ⟨[], [], 0, none, [], false⟩
theorem start_inv : Inv c T startA := ⟨⟨List.Pairwise.nil, fun x h => (by cases h), List.Pairwise.nil, fun x h => (by cases h)⟩, fun _ => Nat.zero_le _, fun h q => (by cases q)⟩
/-- the answers, one behind the other -/
inductive Run (c : Nat) (T : List Nat) : Nat → Ask → Ask → Prop
  | done {a : Ask} : stepA c a = none → Run c T 0 a a
  | more {n : Nat} {a b : Ask} {x : Nat} : stepA c a = some x → x < 2 ^ c → Run c T n (tellA c a (up T x) x) b → Run c T (n + 1) a b
theorem go_asks {t f : List Nat} {asks : Nat} {b : Bool} : ∀ (left : List Nat) (h : Nat), (goA t f asks b h left).asks = asks
  | [], h => by unfold goA; split <;> rfl
  | i :: r, h => by
    unfold goA
    cases ans t f (tried h i b) with
    | none => rfl
    | some k => exact go_asks r _
theorem tell_asks (a : Ask) (b : Bool) (x : Nat) : (tellA c a b x).asks = a.asks + 1 := by
  unfold tellA
  cases a.here <;> exact go_asks _ _
theorem inv_asks (kT : ∀ x ∈ T, x < 2 ^ c) (hT : Brd T) {a : Ask} (I : Inv c T a) : a.asks ≤ (2 ^ c + 2 ^ c) * (c + 1) + (c + 1) := by
  have l1 : a.t.length ≤ 2 ^ c := asc_len I.kn.ta fun x hx => kT x (I.kn.ts x hx)
  have l2 : a.f.length ≤ 2 ^ c := asc_len I.kn.fa fun x hx => falses_lt x (I.kn.fs x hx)
  have l3 : (a.t.length + a.f.length) * (c + 1) ≤ (2 ^ c + 2 ^ c) * (c + 1) := Nat.mul_le_mul_right _ (by omega)
  cases e : a.here with
  | none => have := I.no e; omega
  | some h => have := (I.yes h e).1.few; omega
theorem run_end (kT : ∀ x ∈ T, x < 2 ^ c) (hT : Brd T) : ∀ (m : Nat) (a : Ask), Inv c T a → (2 ^ c + 2 ^ c) * (c + 1) + (c + 1) + 1 ≤ m + a.asks → ∃ n b, Run c T n a b ∧ Inv c T b ∧ stepA c b = none ∧ n ≤ m
  | 0, a, I, h => by
    have := inv_asks kT hT I
    omega
  | m + 1, a, I, h => by
    cases e : stepA c a with
    | none => exact ⟨0, a, .done e, I, e, Nat.zero_le _⟩
    | some x =>
      obtain ⟨lx, I2⟩ := tell_inv kT I e
      obtain ⟨n, b, r, j, s, l⟩ := run_end kT hT m _ I2 (by rw [tell_asks]; omega)
      exact ⟨n + 1, b, .more e lx r, j, s, by omega⟩
end
end Bd
/-! ### sets as data -/
namespace Bd
open DL
theorem inv_n (b : Nat) : invD (ni b) = pure (.int (PySem.Builtin.bitNot (b : Int))) := Eq.trans rfl rfl
theorem and_inv (a b : Nat) : andD (ni a) (.int (PySem.Builtin.bitNot (b : Int))) = pure (ni (sdf a b)) := by
  show (pure (.int (PySem.Builtin.bitAnd (a : Int) (PySem.Builtin.bitNot (b : Int)))) : M D) = _
  have e : PySem.Builtin.bitAnd (a : Int) (PySem.Builtin.bitNot (b : Int)) = ((sdf a b : Nat) : Int) := by
    unfold PySem.Builtin.bitAnd PySem.Builtin.bitNot
    have h1 : decide (0 ≤ (a : Int)) = true := decide_eq_true (by omega)
    have h2 : decide (0 ≤ -(b : Int) - 1) = false := decide_eq_false (by omega)
    have e2 : (-(-(b : Int) - 1) - 1).toNat = b := by omega
    rw [h1, h2]
    show (a : Int) - (((a : Int).toNat &&& (-(-(b : Int) - 1) - 1).toNat : Nat) : Int) = _
    rw [e2, Int.toNat_natCast]
    have e3 := (or_xor_and a (a &&& b)).2
    have e4 : a &&& (a &&& b) = a &&& b := by rw [← Nat.and_assoc, Nat.and_self]
    rw [e4] at e3
    unfold sdf
    omega
  rw [e]
  rfl
theorem sorted_en (l : List Nat) : sortedD (.lst (en l)) = pure (.lst (en (srt l))) := by
  rw [en_ints, sorted_ints, ← srt_cast, ← en_ints]
theorem sorted_ten (l : List Nat) : sortedD (.tup (en l)) = pure (.lst (en (srt l))) := by
  rw [en_ints, sorted_ti, ← srt_cast, ← en_ints]
theorem ssort_len {l : List Nat} (h : l.length ≤ 4000) : ssortI (.lst (en l)) = pure (.lst (en (usort l))) := by
  rw [en_ints]
  show (match dints ((l.map fun (n : Nat) => (n : Int)).map .int) with
    | some ns => if ns.length ≤ 4000 then (pure (.lst ((ssort ns).map D.int)) : M D) else stuck
    | none => stuck) = _
  rw [ints_map]
  show (if (l.map fun (n : Nat) => (n : Int)).length ≤ 4000 then (pure (.lst ((ssort (l.map fun (n : Nat) => (n : Int))).map D.int)) : M D) else stuck) = _
  rw [if_pos (by rw [List.length_map]; exact h), ← usort_cast, ← en_ints]
theorem ssort_ten {l : List Nat} (h : l.length ≤ 4000) : ssortI (.tup (en l)) = pure (.lst (en (usort l))) := ssort_len h
end Bd
namespace Bd
open DL
theorem usort_len (l : List Nat) : (usort l).length ≤ l.length := by
  unfold usort ssort
  rw [List.length_map, (isort_perm _).length_eq]
  have := uniqI_len (l.map fun (n : Nat) => (n : Int))
  rwa [List.length_map] at this
theorem least_len (l : List Nat) : (least l).length ≤ l.length := Nat.le_trans (List.length_filter_le _ _) (usort_len l)
theorem pow8 {c : Nat} (h : c ≤ 8) : 2 ^ c ≤ 256 := Nat.le_trans (Nat.pow_le_pow_right (by omega) h) (by decide)
theorem brd_len {c : Nat} {l : List Nat} (h : Asc l) (k : ∀ x ∈ l, x < 2 ^ c) (c8 : c ≤ 8) : l.length ≤ 256 := Nat.le_trans (asc_len h k) (pow8 c8)
end Bd
namespace Bd
open DL
theorem upL {t : List Nat} {x : Nat} (h : t.length ≤ 2 ^ 24) : lcM (pure (en t)) nm (p1 fun _ => (pure true : M Bool)) (p1 fun v => (invD (ni x) >>= fun y => andD v y >>= fun z => eqB z (D.int 0) >>= fun b => (pure (D.bl b) : M D))) = pure (.lst ((t.map fun y => sub y x).map .bl)) := by
  refine lcM_bool (xs := t) (fun y => sub y x) rfl h fun y _ => ?_
  simp only [nm_ap, p1_ap, pure_bind', if_true, inv_n, and_inv, c0, eq_nn]
  rfl
theorem downL {t : List Nat} {x : Nat} (h : t.length ≤ 2 ^ 24) : lcM (pure (en t)) nm (p1 fun _ => (pure true : M Bool)) (p1 fun v => (invD v >>= fun y => andD (ni x) y >>= fun z => eqB z (D.int 0) >>= fun b => (pure (D.bl b) : M D))) = pure (.lst ((t.map fun y => sub x y).map .bl)) := by
  refine lcM_bool (xs := t) (fun y => sub x y) rfl h fun y _ => ?_
  simp only [nm_ap, p1_ap, pure_bind', if_true, inv_n, and_inv, c0, eq_nn]
  rfl
theorem coL {t : List Nat} {c : Nat} (h : t.length ≤ 2 ^ 24) : lcM (pure (en t)) nm (p1 fun _ => (pure true : M Bool)) (p1 fun v => (invD v >>= fun y => andD (ni (2 ^ c - 1)) y)) = pure (.lst (en (t.map (co c)))) := by
  refine lcM_enm (xs := t) (co c) rfl h fun y _ => ?_
  simp only [nm_ap, p1_ap, pure_bind', if_true, inv_n, and_inv]
  rfl
end Bd
/-! ### an object's cell -/
namespace DL
section
variable {β : Type} {k c : Nat} {s : Store} {fs : List (PySem.Str × D)} {f : PySem.Str} {d : D} {C : Cell}
theorem getC_at (hk : k < s.length) : getC k (s.set k C) = .ok C (s.set k C) := by
  unfold getC
  rw [List.getElem?_set_self hk]
theorem insD_at (hk : k < s.length) : insD c (.ref k) (s.set k (.ins c fs)) = .ok (k, fs) (s.set k (.ins c fs)) := by
  show (getC k >>= _) _ = _
  rw [bind_ok (getC_at hk)]
  show (if c = c then (pure (k, fs) : M _) else stuck) _ = _
  rw [if_pos rfl]
  rfl
theorem fld_at (hk : k < s.length) (h : fs.lookup f = some d) : fldD c f (.ref k) (s.set k (.ins c fs)) = .ok d (s.set k (.ins c fs)) := by
  unfold fldD
  rw [bind_ok (insD_at hk)]
  show lookM f fs _ = _
  unfold lookM
  rw [h]
  rfl
theorem setF_at (hk : k < s.length) (h : fs.length < 1000) : setF c f (.ref k) d (s.set k (.ins c fs)) = .ok () (s.set k (.ins c (putD f d fs))) := by
  unfold setF
  rw [bind_ok (insD_at hk)]
  show (if fs.length < 1000 then setC k (.ins c (putD f d fs)) else stuck) _ = _
  rw [if_pos h]
  show Res.ok () ((s.set k _).set k _) = _
  rw [List.set_set]
theorem mth_at {fm : PySem.Str} {ms : M (List D)} {FM : List D → M D} (hk : k < s.length) (h : fs.lookup fm = none) : mthM c fm (pure (.ref k)) ms FM (s.set k (.ins c fs)) = (ms >>= fun vs => FM (.ref k :: vs)) (s.set k (.ins c fs)) := by
  unfold mthM
  rw [pure_bind', bind_ok (insD_at hk)]
  show (noF fm fs >>= _) _ = _
  unfold noF
  rw [h]
  rfl
theorem bind_at {α β : Type} {m m' : M α} {s : Store} (h : m s = m' s) (g : α → M β) : (m >>= g) s = (m' >>= g) s := by rw [bind_run, bind_run, h]
theorem lcM_at {β : Type} {mi mi' : M (List D)} {u : D → M (List D)} {mt : List D → M Bool} {me : List D → M D} {s : Store} (h : mi s = mi' s) (g : D → M β) : (lcM mi u mt me >>= g) s = (lcM mi' u mt me >>= g) s := bind_at (bind_at h _) g
theorem wp_at {β : Type} {m m' : M β} {s s' : Store} {Q : β → Store → Prop} (h : m s = m' s') : Wp m s Q = Wp m' s' Q := propext ⟨fun q => ⟨by rw [← h]; exact q.run⟩, fun q => ⟨by rw [h]; exact q.run⟩⟩
theorem set_len {C : Cell} : (s.set k C).length = s.length := List.length_set
end
end DL
namespace DL
theorem set_end (s : Store) (C D' : Cell) : (s ++ [C]).set s.length D' = s ++ [D'] := by
  rw [List.set_append_right _ _ (Nat.le_refl _), Nat.sub_self]
  rfl
theorem end_lt (s : Store) (C : Cell) : s.length < (s ++ [C]).length := by rw [List.length_append, List.length_singleton]; omega
/-- a new object -/
theorem mk_at {ci : Nat} {vs : List D} {FM : List D → M D} {s : Store} {Q : D → Store → Prop} (h : Wp (FM (.ref s.length :: vs)) ((s ++ [Cell.ins ci []]).set s.length (Cell.ins ci [])) fun d s' => d = .non ∧ Q (.ref s.length) s') : Wp (mkM ci (pure vs) FM) s Q := by
  unfold mkM
  rw [pure_bind']
  refine wp_go (a := s.length) (s' := s ++ [Cell.ins ci []]) rfl ?_
  rw [set_end] at h
  refine wp_bind (wp_imp h ?_)
  rintro d s' ⟨rfl, q⟩
  exact wp_pure q
end DL
/-! ### points and blocks, in plain -/
namespace Bk
open DL
def mnN : List Nat → Nat
  | [] => 0
  | [x] => x
  | x :: y :: r => min x (mnN (y :: r))
def mxN : List Nat → Nat
  | [] => 0
  | [x] => x
  | x :: y :: r => max x (mxN (y :: r))
theorem mnN_mem : ∀ {l : List Nat}, l ≠ [] → mnN l ∈ l
  | [], h => absurd rfl h
  | [x], _ => List.mem_cons_self
  | x :: y :: r, _ => by
    have ih := mnN_mem (l := y :: r) (List.cons_ne_nil _ _)
    show min x (mnN (y :: r)) ∈ _
    by_cases h : x ≤ mnN (y :: r)
    · rw [Nat.min_eq_left h]; exact List.mem_cons_self
    · rw [Nat.min_eq_right (by omega)]; exact List.mem_cons_of_mem _ ih
theorem mnN_le : ∀ {l : List Nat} {a : Nat}, a ∈ l → mnN l ≤ a
  | [x], a, h => by rw [List.mem_singleton.mp h]; exact Nat.le_refl _
  | x :: y :: r, a, h => by
    show min x (mnN (y :: r)) ≤ a
    rcases List.mem_cons.mp h with e | h
    · rw [e]; omega
    · have := mnN_le h; omega
theorem mxN_mem : ∀ {l : List Nat}, l ≠ [] → mxN l ∈ l
  | [], h => absurd rfl h
  | [x], _ => List.mem_cons_self
  | x :: y :: r, _ => by
    have ih := mxN_mem (l := y :: r) (List.cons_ne_nil _ _)
    show max x (mxN (y :: r)) ∈ _
    by_cases h : x ≤ mxN (y :: r)
    · rw [Nat.max_eq_right h]; exact List.mem_cons_of_mem _ ih
    · rw [Nat.max_eq_left (by omega)]; exact List.mem_cons_self
theorem mxN_ge : ∀ {l : List Nat} {a : Nat}, a ∈ l → a ≤ mxN l
  | [x], a, h => by rw [List.mem_singleton.mp h]; exact Nat.le_refl _
  | x :: y :: r, a, h => by
    show a ≤ max x (mxN (y :: r))
    rcases List.mem_cons.mp h with e | h
    · rw [e]; omega
    · have := mxN_ge h; omega
theorem minI_cast {l : List Nat} (h : l ≠ []) : minI (l.map fun (n : Nat) => (n : Int)) = ((mnN l : Nat) : Int) := by
  have h' : (l.map fun (n : Nat) => (n : Int)) ≠ [] := by simpa using h
  obtain ⟨k, hk, e⟩ := List.mem_map.mp (minI_mem h')
  have := mnN_le hk
  have := minI_le (List.mem_map_of_mem (f := fun (n : Nat) => (n : Int)) (mnN_mem h))
  omega
theorem maxI_cast {l : List Nat} (h : l ≠ []) : maxI (l.map fun (n : Nat) => (n : Int)) = ((mxN l : Nat) : Int) := by
  have h' : (l.map fun (n : Nat) => (n : Int)) ≠ [] := by simpa using h
  obtain ⟨k, hk, e⟩ := List.mem_map.mp (maxI_mem h')
  have := mxN_ge hk
  have := maxI_ge (List.mem_map_of_mem (f := fun (n : Nat) => (n : Int)) (mxN_mem h))
  omega
theorem min_ten {l : List Nat} (h : l ≠ []) : minV (.tup (en l)) = pure (ni (mnN l)) := by
  have e : intsOf (.tup (en l)) = some (l.map fun (n : Nat) => (n : Int)) := by
    show dints (en l) = _
    rw [en_ints, ints_map]
  unfold minV
  rw [e]
  cases l with
  | nil => exact absurd rfl h
  | cons a r =>
    show (if false = true then stuck else (pure (.int (minI _)) : M D)) = _
    rw [if_neg (by decide), minI_cast h]
    rfl
theorem max_ten {l : List Nat} (h : l ≠ []) : maxV (.tup (en l)) = pure (ni (mxN l)) := by
  have e : intsOf (.tup (en l)) = some (l.map fun (n : Nat) => (n : Int)) := by
    show dints (en l) = _
    rw [en_ints, ints_map]
  unfold maxV
  rw [e]
  cases l with
  | nil => exact absurd rfl h
  | cons a r =>
    show (if false = true then stuck else (pure (.int (maxI _)) : M D)) = _
    rw [if_neg (by decide), maxI_cast h]
    rfl
theorem min_len {l : List Nat} (h : l ≠ []) : minD (.lst (en l)) = pure (ni (mnN l)) := by
  unfold minD
  rw [en_ints]
  simp only [ints_map]
  cases l with
  | nil => exact absurd rfl h
  | cons a r =>
    show (if false = true then stuck else (pure (.int (minI _)) : M D)) = _
    rw [if_neg (by decide), minI_cast h]
    rfl
theorem max_len {l : List Nat} (h : l ≠ []) : maxD (.lst (en l)) = pure (ni (mxN l)) := by
  unfold maxD
  rw [en_ints]
  simp only [ints_map]
  cases l with
  | nil => exact absurd rfl h
  | cons a r =>
    show (if false = true then stuck else (pure (.int (maxI _)) : M D)) = _
    rw [if_neg (by decide), maxI_cast h]
    rfl
def gx (p : List Nat) (k : Nat) : Nat := p.getD k 0
def has (c : Nat) (lo hi p : List Nat) : Bool := (List.range c).all fun k => decide (gx lo k ≤ gx p k) && decide (gx p k ≤ gx hi k)
def loP (c : Nat) (pts : List (List Nat)) : List Nat := (List.range c).map fun k => mnN (pts.map (gx · k))
def hiP (c : Nat) (pts : List (List Nat)) : List Nat := (List.range c).map fun k => mxN (pts.map (gx · k))
theorem has_iff {c : Nat} {lo hi p : List Nat} : has c lo hi p = true ↔ ∀ k, k < c → gx lo k ≤ gx p k ∧ gx p k ≤ gx hi k := by
  unfold has
  rw [List.all_eq_true]
  constructor
  · intro h k hk
    have := h k (List.mem_range.mpr hk)
    rw [Bool.and_eq_true, decide_eq_true_iff, decide_eq_true_iff] at this
    exact this
  · intro h k hk
    rw [Bool.and_eq_true, decide_eq_true_iff, decide_eq_true_iff]
    exact h k (List.mem_range.mp hk)
theorem gx_map {c k : Nat} {f : Nat → Nat} (h : k < c) : gx ((List.range c).map f) k = f k := by
  unfold gx
  rw [List.getD_eq_getElem?_getD, List.getElem?_map, List.getElem?_range h]
  rfl
theorem gx_lo {c k : Nat} {pts : List (List Nat)} (h : k < c) : gx (loP c pts) k = mnN (pts.map (gx · k)) := gx_map h
theorem gx_hi {c k : Nat} {pts : List (List Nat)} (h : k < c) : gx (hiP c pts) k = mxN (pts.map (gx · k)) := gx_map h
theorem hull_has {c : Nat} {pts : List (List Nat)} {p : List Nat} (h : p ∈ pts) : has c (loP c pts) (hiP c pts) p = true :=
  has_iff.mpr fun k hk => by
    rw [gx_lo hk, gx_hi hk]
    exact ⟨mnN_le (List.mem_map_of_mem (f := fun q => gx q k) h), mxN_ge (List.mem_map_of_mem (f := fun q => gx q k) h)⟩
theorem hull_least {c : Nat} {pts : List (List Nat)} {lo hi : List Nat} (hne : pts ≠ []) (h : ∀ p ∈ pts, has c lo hi p = true) {k : Nat} (hk : k < c) : gx lo k ≤ gx (loP c pts) k ∧ gx (hiP c pts) k ≤ gx hi k := by
  have hne' : pts.map (fun q => gx q k) ≠ [] := by simpa using hne
  rw [gx_lo hk, gx_hi hk]
  obtain ⟨p, hp, e⟩ := List.mem_map.mp (mnN_mem hne')
  obtain ⟨q, hq, e2⟩ := List.mem_map.mp (mxN_mem hne')
  rw [← e, ← e2]
  exact ⟨(has_iff.mp (h p hp) k hk).1, (has_iff.mp (h q hq) k hk).2⟩
theorem hull_corners {c : Nat} {pts : List (List Nat)} (hne : pts ≠ []) {k : Nat} (hk : k < c) : gx (loP c pts) k ≤ gx (hiP c pts) k := by
  cases pts with
  | nil => exact absurd rfl hne
  | cons p r =>
    have := has_iff.mp (hull_has (c := c) (pts := p :: r) List.mem_cons_self) k hk
    omega
theorem has_of {c : Nat} {lo hi lo2 hi2 p : List Nat} (h : has c lo hi p = true) (h2 : ∀ k, k < c → gx lo2 k ≤ gx lo k ∧ gx hi k ≤ gx hi2 k) : has c lo2 hi2 p = true :=
  has_iff.mpr fun k hk => by
    have := has_iff.mp h k hk
    have := h2 k hk
    omega
theorem lo_len {c : Nat} {pts : List (List Nat)} : (loP c pts).length = c := by unfold loP; rw [List.length_map, List.length_range]
theorem hi_len {c : Nat} {pts : List (List Nat)} : (hiP c pts).length = c := by unfold hiP; rw [List.length_map, List.length_range]
theorem ext_gx {c : Nat} {p q : List Nat} (hp : p.length = c) (hq : q.length = c) (h : ∀ k, k < c → gx p k = gx q k) : p = q := by
  refine List.ext_getElem (by omega) fun k h1 h2 => ?_
  have := h k (by omega)
  unfold gx at this
  rw [List.getD_eq_getElem?_getD, List.getD_eq_getElem?_getD, List.getElem?_eq_getElem h1, List.getElem?_eq_getElem h2] at this
  exact this
/-! as data -/
def pt (p : List Nat) : D := .tup (en p)
def blk (lo hi : List Nat) : D := .tup [pt lo, pt hi]
theorem at_pt {c k : Nat} {p : List Nat} (h : p.length = c) (hk : k < c) : ixD (pt p) (ni k) = pure (ni (gx p k)) := at_enT (by omega)
theorem at_b0 {lo hi : List Nat} : ixD (blk lo hi) (ni 0) = pure (pt lo) := rfl
theorem at_b1 {lo hi : List Nat} : ixD (blk lo hi) (ni 1) = pure (pt hi) := rfl
theorem en_at {c k : Nat} {p : List Nat} (h : p.length = c) (hk : k < c) : (en p)[k]? = some (ni (gx p k)) := by
  unfold en gx
  rw [List.getElem?_map, List.getD_eq_getElem?_getD, List.getElem?_eq_getElem (by omega)]
  rfl
theorem minL_const {α : Type} {c : Nat} : ∀ {xss : List (List α)}, xss ≠ [] → (∀ xs ∈ xss, xs.length = c) → minL xss = c
  | [], h, _ => absurd rfl h
  | [xs], _, h => h xs List.mem_cons_self
  | xs :: ys :: r, _, h => by
    show min xs.length (minL (ys :: r)) = c
    rw [h xs List.mem_cons_self, minL_const (List.cons_ne_nil _ _) fun zs hz => h zs (List.mem_cons_of_mem _ hz), Nat.min_self]
theorem cols3 {c : Nat} {p q r : List Nat} (hp : p.length = c) (hq : q.length = c) (hr : r.length = c) : colsD [en p, en q, en r] = (List.range c).map fun k => .tup [ni (gx p k), ni (gx q k), ni (gx r k)] := by
  unfold colsD
  rw [minL_const (c := c) (List.cons_ne_nil _ _) (by
    intro xs hx
    simp only [List.mem_cons, List.not_mem_nil, or_false] at hx
    rcases hx with rfl | rfl | rfl <;> rw [en_len] <;> assumption)]
  refine List.map_congr_left fun k hk => ?_
  have hk := List.mem_range.mp hk
  show D.tup [((en p)[k]?).getD .non, ((en q)[k]?).getD .non, ((en r)[k]?).getD .non] = _
  rw [en_at hp hk, en_at hq hk, en_at hr hk]
  rfl
theorem tupsM_pts : ∀ pts : List (List Nat), tupsM (pts.map pt) = pure (pts.map en)
  | [] => rfl
  | p :: r => by
    show (tupsM (r.map pt) >>= fun x => pure (en p :: x)) = _
    rw [tupsM_pts r]
    rfl
theorem zipS_pts {c : Nat} {pts : List (List Nat)} (hne : pts ≠ []) (h8 : pts.length ≤ 8) (hl : ∀ p ∈ pts, p.length = c) {d : D} (hd : items d = pure (pts.map pt)) : zipSD d = pure (.lst ((List.range c).map fun k => .tup (en (pts.map (gx · k))))) := by
  unfold zipSD
  rw [hd, pure_bind', tupsM_pts, pure_bind', List.length_map, if_pos ⟨List.length_pos_iff.mpr hne, h8⟩]
  unfold colsD
  rw [minL_const (c := c) (by simpa using hne) (by
    intro xs hx
    obtain ⟨p, hp, rfl⟩ := List.mem_map.mp hx
    rw [en_len, hl p hp])]
  congr 2
  refine List.map_congr_left fun k hk => ?_
  have hk := List.mem_range.mp hk
  unfold colV en
  rw [List.map_map, List.map_map]
  congr 1
  refine List.map_congr_left fun p hp => ?_
  show (((en p)[k]?).getD .non) = ni (gx p k)
  rw [en_at (hl p hp) hk]
  rfl
theorem chain_nnn (a b c : Nat) : chainM (pure (ni a)) (pure (ni b)) leB (pure (ni c)) leB = pure (decide (a ≤ b) && decide (b ≤ c)) := by
  unfold chainM
  simp only [pure_bind', le_nn]
  by_cases h : a ≤ b
  · simp [h]
  · simp [h]
theorem c99 : D.int 99 = ni 99 := rfl
theorem c14 : D.int 14 = ni 14 := rfl
theorem pt_len (p : List Nat) : lenD (pt p) = pure (ni p.length) := len_ten p
/-- rows [()], [(0,), (1,), ..], .. -/
def allPts : Nat → Nat → List (List Nat)
  | 0, _ => [[]]
  | c + 1, m => (allPts c m).flatMap fun r => (List.range m).map fun x => r ++ [x]
theorem allPts_mem {m : Nat} : ∀ {c : Nat} {p : List Nat}, p ∈ allPts c m ↔ p.length = c ∧ ∀ x ∈ p, x < m
  | 0, p => by
    show p ∈ [[]] ↔ _
    rw [List.mem_singleton]
    constructor
    · rintro rfl; exact ⟨rfl, fun x hx => nomatch hx⟩
    · rintro ⟨h, _⟩; exact List.length_eq_zero_iff.mp h
  | c + 1, p => by
    show p ∈ (allPts c m).flatMap _ ↔ _
    rw [List.mem_flatMap]
    constructor
    · rintro ⟨r, hr, h⟩
      obtain ⟨x, hx, rfl⟩ := List.mem_map.mp h
      obtain ⟨h1, h2⟩ := allPts_mem.mp hr
      refine ⟨by rw [List.length_append, h1]; rfl, fun y hy => ?_⟩
      rcases List.mem_append.mp hy with hy | hy
      · exact h2 y hy
      · rw [List.mem_singleton.mp hy]; exact List.mem_range.mp hx
    · rintro ⟨h1, h2⟩
      have hne : p ≠ [] := by intro e; rw [e] at h1; cases h1
      have e := List.dropLast_concat_getLast hne
      refine ⟨p.dropLast, allPts_mem.mpr ⟨by rw [List.length_dropLast, h1]; rfl, fun x hx => h2 x ((List.dropLast_sublist p).subset hx)⟩, List.mem_map.mpr ⟨p.getLast hne, List.mem_range.mpr (h2 _ (List.getLast_mem hne)), e⟩⟩
theorem allPts_len (m : Nat) : ∀ c : Nat, (allPts c m).length = m ^ c
  | 0 => rfl
  | c + 1 => by
    show ((allPts c m).flatMap _).length = _
    rw [List.length_flatMap]
    simp only [List.length_map, List.length_range]
    rw [List.map_const', List.sum_replicate_nat, allPts_len m c, Nat.pow_succ]
/-- how many points of the board lie in it -/
def vol (c : Nat) (lo hi : List Nat) : Nat := (List.range c).foldl (fun f k => f * (gx hi k - gx lo k + 1)) 1
theorem count_range {a b m : Nat} (h1 : a ≤ b) (h2 : b < m) : ((List.range m).filter fun x => decide (a ≤ x) && decide (x ≤ b)).length = b - a + 1 := by
  induction m with
  | zero => omega
  | succ m ih =>
    rw [List.range_succ, List.filter_append, List.length_append]
    by_cases e : b < m
    · rw [ih e]
      have : (decide (a ≤ m) && decide (m ≤ b)) = false := by simp; omega
      rw [List.filter_cons, this]
      rfl
    · have hb : b = m := by omega
      subst hb
      have : (decide (a ≤ b) && decide (b ≤ b)) = true := by simp; omega
      rw [List.filter_cons, this]
      -- below b
      have low : ∀ n, n ≤ b → ((List.range n).filter fun x => decide (a ≤ x) && decide (x ≤ b)).length = n - a := by
        intro n
        induction n with
        | zero => intro _; simp
        | succ n ihn =>
          intro hn
          rw [List.range_succ, List.filter_append, List.length_append, ihn (by omega), List.filter_cons]
          by_cases z : a ≤ n
          · have : (decide (a ≤ n) && decide (n ≤ b)) = true := by simp; omega
            rw [this]
            simp only [if_true, List.filter_nil, List.length_singleton]
            omega
          · have : (decide (a ≤ n) && decide (n ≤ b)) = false := by simp; omega
            rw [this]
            simp only [Bool.false_eq_true, if_false, List.filter_nil, List.length_nil]
            omega
      rw [low b (Nat.le_refl _)]
      rfl
theorem gx_left {r : List Nat} {x k c : Nat} (hr : r.length = c) (hk : k < c) : gx (r ++ [x]) k = gx r k := by
  unfold gx
  rw [List.getD_eq_getElem?_getD, List.getD_eq_getElem?_getD, List.getElem?_append_left (by omega)]
theorem gx_last {r : List Nat} {x c : Nat} (hr : r.length = c) : gx (r ++ [x]) c = x := by
  unfold gx
  rw [List.getD_eq_getElem?_getD, ← hr, List.getElem?_append_right (Nat.le_refl _), Nat.sub_self]
  rfl
theorem has_succ {c : Nat} {lo hi p : List Nat} : has (c + 1) lo hi p = (has c lo hi p && (decide (gx lo c ≤ gx p c) && decide (gx p c ≤ gx hi c))) := by
  unfold has
  rw [List.range_succ, List.all_append]
  simp only [List.all_cons, List.all_nil, Bool.and_true]
theorem count_all {m : Nat} {lo hi : List Nat} : ∀ {c : Nat}, (∀ k, k < c → gx lo k ≤ gx hi k ∧ gx hi k < m) → ((allPts c m).filter (has c lo hi)).length = vol c lo hi
  | 0, _ => rfl
  | c + 1, h => by
    have ih := count_all (c := c) fun k hk => h k (by omega)
    have hc := h c (Nat.lt_succ_self c)
    have key : ∀ L : List (List Nat), (∀ r ∈ L, r.length = c) → ((L.flatMap fun r => (List.range m).map fun x => r ++ [x]).filter (has (c + 1) lo hi)).length = (L.filter (has c lo hi)).length * (gx hi c - gx lo c + 1) := by
      intro L
      induction L with
      | nil => intro _; simp
      | cons r L ihL =>
        intro hL
        have hr := hL r List.mem_cons_self
        rw [List.flatMap_cons, List.filter_append, List.length_append, ihL fun s hs => hL s (List.mem_cons_of_mem _ hs), List.filter_map, List.length_map, List.filter_cons]
        have e : (has (c + 1) lo hi ∘ fun x => r ++ [x]) = fun x => has c lo hi r && (decide (gx lo c ≤ x) && decide (x ≤ gx hi c)) := by
          funext x
          show has (c + 1) lo hi (r ++ [x]) = _
          rw [has_succ, gx_last hr]
          congr 1
          unfold has
          refine Bool.eq_iff_iff.mpr ?_
          rw [List.all_eq_true, List.all_eq_true]
          refine forall_congr' fun k => forall_congr' fun hk => ?_
          rw [gx_left hr (List.mem_range.mp hk)]
        rw [e]
        cases z : has c lo hi r with
        | true =>
          simp only [Bool.true_and, if_true, List.length_cons]
          rw [count_range hc.1 hc.2, Nat.succ_mul]
          omega
        | false =>
          simp only [Bool.false_and, Bool.false_eq_true, if_false]
          rw [List.filter_eq_nil_iff.mpr (by simp)]
          simp
    show (((allPts c m).flatMap _).filter _).length = _
    rw [key _ fun r hr => (allPts_mem.mp hr).1, ih]
    unfold vol
    rw [List.range_succ, List.foldl_append]
    rfl
end Bk
namespace K88
open PySem PySem.Spec PyProof.Rows L2 DL
def topS (i : Nat) : Stmt := PySem.Challenge.pw_askcraft_k88_blocks_in_order.main.body.getD i (.Pass ⟨0, 0, 0, 0⟩)
structure Txt (p : Pg) : Prop where
  b_abs : p.mg "abs" = none
  b_all : p.mg "all" = none
  b_any : p.mg "any" = none
  b_int : p.mg "int" = none
  b_len : p.mg "len" = none
  b_list : p.mg "list" = none
  b_max : p.mg "max" = none
  b_min : p.mg "min" = none
  b_range : p.mg "range" = none
  b_set : p.mg "set" = none
  b_sorted : p.mg "sorted" = none
  b_tuple : p.mg "tuple" = none
  b_zip : p.mg "zip" = none
  c_MAX_PLACE : ∃ t, p.mg "MAX_PLACE" = some (.int 99 t)
  c_MAX_SIDES : ∃ t, p.mg "MAX_SIDES" = some (.int 3 t)
  k_BlockAsker : ClsD p 0 ["start", "ends", "low", "high", "asks"]
  x_NotAllowed : ExD p 101 "NotAllowed"
  x_Missing : ExD p 102 "Missing"
  x_Wrong : ExD p 103 "Wrong"
  em : ErrCls p [101, 102, 103]
abbrev s_check_point : Stmt := topS 10
theorem sc_check_point : FnScope ["sides", "point", "number"] ["sides", "point"] (defScope s_check_point) := ⟨rfl, rfl, rfl, by decide +kernel, rfl, by decide +kernel, by decide +kernel⟩
def b_check_point : List D → M (Out Unit Unit) := p2 (fun a1 a2 => ((((chainM (pure (D.int 1) : M D) (pure (a1) : M D) leB (pure (D.int 3) : M D) leB) >>= fun b3 => (pure (!b3) : M Bool)) >>= fun b10 => if b10 = true then (pure true : M Bool) else ((((pure (a2) : M D) >>= lenD) >>= fun x4 => (pure (a1) : M D) >>= fun x5 => neB x4 x5) >>= fun b9 => if b9 = true then (pure true : M Bool) else ((((lcM ((pure (a2) : M D) >>= items) nm (p1 (fun v6 => (pure true : M Bool))) (p1 (fun v6 => ((chainM (pure (D.int 0) : M D) (pure (v6) : M D) leB (pure (D.int 99) : M D) leB) >>= fun b7 => (pure (D.bl b7) : M D))))) >>= allD) >>= truth) >>= fun b8 => (pure (!b8) : M Bool)))) >>= fun b12 => (if b12 = true then ((raise 101) : M (Out (Unit) _)) else (pure (.nx ()))) >>= seqO fun s11 => (pure (.nx ()))))
def m_check_point (ds : List D) : M D := runF (b_check_point ds)
theorem o_check_point {p : Pg} (T : Txt p) {f : Addr} {fd : FuncData} (F : Fun p.K "check_point" "check_point" s_check_point f fd)  : FnOk p.P p.w p.K p.mg p.base (L2N.CX p.P p.w) 1 f fd ["sides", "point"] (spD p [.v, .v] m_check_point) :=
  fnok_of (k := 0) (N := ["sides", "point", "number"]) (body := b_check_point) (shN := fun _ => [.un, .un, .un]) (shB := fun _ => []) F sc_check_point rfl (q2 (P := fun ds m => SB _ (argE _ ds ++ _) _ m _ _) (fun a1 a2 => (show SB _ [.sh (a1), .sh (a2), .un] _ _ _ _ from (sb_if (J := Unit) (shJ := fun s11 => [.sh (a1), .sh (a2), .un]) (et_w (ew_or (et_not (et_chain c_le c_le (el_of ee_int) (el_of (ev 0)) (el_of (eg T.c_MAX_SIDES)))) (ew_or (tcmp c_ne (el_of (ee_len (b_len T.b_len) (el_of (ev 1)))) (el_of (ev 0))) (ew_or1 (et_not (ttr (el_of (ee_all (b_all T.b_all) (el_new (en_comp (c_lc sc_check_point.nd [("number", 2)] (ei_read (el_of (ev 1))) (tn 2 sc_check_point.nd) nm_pure nm_len (q1 (P := fun ds m => ETs (Sta.blk _ _) (setE (wipeE _ _) _ ds) _ m) (fun v6 => (show ETs _ [.sh (a1), .sh (a2), .sh (v6)] _ _ from ets_nil))) (q1 (P := fun ds m => EE (Sta.blk _ _) (setE (wipeE _ _) _ ds) _ m) (fun v6 => (show EE _ [.sh (a1), .sh (a2), .sh (v6)] _ _ from (ee_chain c_le c_le (el_of ee_int) (el_of (ev 2)) (el_of (eg T.c_MAX_PLACE))))))))))))))))) (s_raise T.x_NotAllowed) (sb_nil (.eq (.eq (.un Le.nil)))) fun s11 => (show SB _ [.sh (a1), .sh (a2), .un] _ _ _ _ from (sb_nil (.un (.un (.un Le.nil)))))))))
abbrev s_check_block : Stmt := topS 11
theorem sc_check_block : FnScope ["sides", "block", "low", "high", "first", "last"] ["sides", "block"] (defScope s_check_block) := ⟨rfl, rfl, rfl, by decide +kernel, rfl, by decide +kernel, by decide +kernel⟩
def b_check_block : List D → M (Out Unit Unit) := p2 (fun a13 a14 => ((pure (a14) : M D) >>= fun x37 => (unT (unc nm (unc nm un0))) x37 >>= p2 (fun v15 v16 => ((((pure (a13) : M D) >>= fun x19 => ((pure (v15) : M D) >>= fun x17 => (pure [] : M (List D)) >>= fun xs18 => pure (x17 :: xs18)) >>= fun xs20 => pure (x19 :: xs20)) >>= m_check_point) >>= fun u36 => ((((pure (a13) : M D) >>= fun x23 => ((pure (v16) : M D) >>= fun x21 => (pure [] : M (List D)) >>= fun xs22 => pure (x21 :: xs22)) >>= fun xs24 => pure (x23 :: xs24)) >>= m_check_point) >>= fun u35 => (((((lcM (zip2M (pure (v15) : M D) (pure (v16) : M D)) (unT (unc nm (unc nm un0))) (p2 (fun v25 v26 => (pure true : M Bool))) (p2 (fun v25 v26 => ((pure (v25) : M D) >>= fun x30 => (pure (v26) : M D) >>= fun x31 => leB x30 x31 >>= fun b29 => (pure (D.bl b29) : M D))))) >>= allD) >>= truth) >>= fun b32 => (pure (!b32) : M Bool)) >>= fun b34 => (if b34 = true then ((raise 101) : M (Out (Unit) _)) else (pure (.nx ()))) >>= seqO fun s33 => (pure (.nx ()))))))))
def m_check_block (ds : List D) : M D := runF (b_check_block ds)
theorem o_check_block {p : Pg} (T : Txt p) {f : Addr} {fd : FuncData} (F : Fun p.K "check_block" "check_block" s_check_block f fd) (h_check_point : Fnc p 1 "check_point" [.v, .v] m_check_point) : FnOk p.P p.w p.K p.mg p.base (L2N.CX p.P p.w) 2 f fd ["sides", "block"] (spD p [.v, .v] m_check_block) :=
  fnok_of (k := 1) (N := ["sides", "block", "low", "high", "first", "last"]) (body := b_check_block) (shN := fun _ => [.un, .un, .un, .un, .un, .un]) (shB := fun _ => []) F sc_check_block rfl (q2 (P := fun ds m => SB _ (argE _ ds ++ _) _ m _ _) (fun a13 a14 => (show SB _ [.sh (a13), .sh (a14), .un, .un, .un, .un] _ _ _ _ from (s_setT (ev 1) (tt (tc (ix := [2]) (jx := [3]) nm_pure (unc_pure nm_pure un0_pure) nm_len (tn 2 sc_check_block.nd) (tc (ix := [3]) (jx := []) nm_pure un0_pure nm_len (tn 3 sc_check_block.nd) tgs_nil)) (unc_len (n := 1) (l := 1) nm_len (unc_len (n := 1) (l := 0) nm_len un0_len))) (unT_pure (unc_pure nm_pure (unc_pure nm_pure un0_pure))) (unT_len (unc_len (n := 1) (l := 1) nm_len (unc_len (n := 1) (l := 0) nm_len un0_len))) (q2 (P := fun ds m => SB _ (setE _ _ ds) _ m _ _) (fun v15 v16 => (show SB _ [.sh (a13), .sh (a14), .sh (v15), .sh (v16), .un, .un] _ _ _ _ from (s_expr (el_of (xcall h_check_point (av (ev 0) (av (ev 2) eak_nil)))) (show SB _ [.sh (a13), .sh (a14), .sh (v15), .sh (v16), .un, .un] _ _ _ _ from (s_expr (el_of (xcall h_check_point (av (ev 0) (av (ev 3) eak_nil)))) (show SB _ [.sh (a13), .sh (a14), .sh (v15), .sh (v16), .un, .un] _ _ _ _ from (sb_if (J := Unit) (shJ := fun s33 => [.sh (a13), .sh (a14), .sh (v15), .sh (v16), .un, .un]) (et_not (ttr (el_of (ee_all (b_all T.b_all) (el_new (en_comp (c_lc sc_check_block.nd [("first", 4), ("last", 5)] (ei_weak (ei_zip (by rfl) T.b_zip (ev 2) (ev 3))) (tt (tc (ix := [4]) (jx := [5]) nm_pure (unc_pure nm_pure un0_pure) nm_len (tn 4 sc_check_block.nd) (tc (ix := [5]) (jx := []) nm_pure un0_pure nm_len (tn 5 sc_check_block.nd) tgs_nil)) (unc_len (n := 1) (l := 1) nm_len (unc_len (n := 1) (l := 0) nm_len un0_len))) (unT_pure (unc_pure nm_pure (unc_pure nm_pure un0_pure))) (unT_len (unc_len (n := 1) (l := 1) nm_len (unc_len (n := 1) (l := 0) nm_len un0_len))) (q2 (P := fun ds m => ETs (Sta.blk _ _) (setE (wipeE _ _) _ ds) _ m) (fun v25 v26 => (show ETs _ [.sh (a13), .sh (a14), .sh (v15), .sh (v16), .sh (v25), .sh (v26)] _ _ from ets_nil))) (q2 (P := fun ds m => EE (Sta.blk _ _) (setE (wipeE _ _) _ ds) _ m) (fun v25 v26 => (show EE _ [.sh (a13), .sh (a14), .sh (v15), .sh (v16), .sh (v25), .sh (v26)] _ _ from (xcmp c_le (el_of (ev 4)) (el_of (ev 5))))))))))))) (s_raise T.x_NotAllowed) (sb_nil (.eq (.eq (.eq (.eq (.un (.un Le.nil))))))) fun s33 => (show SB _ [.sh (a13), .sh (a14), .sh (v15), .sh (v16), .un, .un] _ _ _ _ from (sb_nil (.un (.un (.un (.un (.un (.un Le.nil))))))))))))))))))))
abbrev s_lies_in : Stmt := topS 12
theorem sc_lies_in : FnScope ["block", "point", "first", "number", "last"] ["block", "point"] (defScope s_lies_in) := ⟨rfl, rfl, rfl, by decide +kernel, rfl, by decide +kernel, by decide +kernel⟩
def b_lies_in : List D → M (Out Unit Unit) := p2 (fun a38 a39 => (((lcM (zip3M ((pure (a38) : M D) >>= fun x40 => (pure (D.int 0) : M D) >>= fun x41 => ixD x40 x41) (pure (a39) : M D) ((pure (a38) : M D) >>= fun x42 => (pure (D.int 1) : M D) >>= fun x43 => ixD x42 x43)) (unT (unc nm (unc nm (unc nm un0)))) (p3 (fun v44 v45 v46 => (pure true : M Bool))) (p3 (fun v44 v45 v46 => ((chainM (pure (v44) : M D) (pure (v45) : M D) leB (pure (v46) : M D) leB) >>= fun b47 => (pure (D.bl b47) : M D))))) >>= allD) >>= fun x48 => pure (.rt x48)))
def m_lies_in (ds : List D) : M D := runF (b_lies_in ds)
theorem o_lies_in {p : Pg} (T : Txt p) {f : Addr} {fd : FuncData} (F : Fun p.K "lies_in" "lies_in" s_lies_in f fd)  : FnOk p.P p.w p.K p.mg p.base (L2N.CX p.P p.w) 1 f fd ["block", "point"] (spD p [.v, .v] m_lies_in) :=
  fnok_of (k := 0) (N := ["block", "point", "first", "number", "last"]) (body := b_lies_in) (shN := fun _ => [.un, .un, .un, .un, .un]) (shB := fun _ => []) F sc_lies_in rfl (q2 (P := fun ds m => SB _ (argE _ ds ++ _) _ m _ _) (fun a38 a39 => (show SB _ [.sh (a38), .sh (a39), .un, .un, .un] _ _ _ _ from (sb_ret (ee_all (b_all T.b_all) (el_new (en_comp (c_lc sc_lies_in.nd [("first", 2), ("number", 3), ("last", 4)] (ei_weak (ei_zip3 (by rfl) T.b_zip (xix (el_of (ev 0)) (el_of ee_int)) (ev 1) (xix (el_of (ev 0)) (el_of ee_int)))) (tt (tc (ix := [2]) (jx := [3, 4]) nm_pure (unc_pure nm_pure (unc_pure nm_pure un0_pure)) nm_len (tn 2 sc_lies_in.nd) (tc (ix := [3]) (jx := [4]) nm_pure (unc_pure nm_pure un0_pure) nm_len (tn 3 sc_lies_in.nd) (tc (ix := [4]) (jx := []) nm_pure un0_pure nm_len (tn 4 sc_lies_in.nd) tgs_nil))) (unc_len (n := 1) (l := 2) nm_len (unc_len (n := 1) (l := 1) nm_len (unc_len (n := 1) (l := 0) nm_len un0_len)))) (unT_pure (unc_pure nm_pure (unc_pure nm_pure (unc_pure nm_pure un0_pure)))) (unT_len (unc_len (n := 1) (l := 2) nm_len (unc_len (n := 1) (l := 1) nm_len (unc_len (n := 1) (l := 0) nm_len un0_len)))) (q3 (P := fun ds m => ETs (Sta.blk _ _) (setE (wipeE _ _) _ ds) _ m) (fun v44 v45 v46 => (show ETs _ [.sh (a38), .sh (a39), .sh (v44), .sh (v45), .sh (v46)] _ _ from ets_nil))) (q3 (P := fun ds m => EE (Sta.blk _ _) (setE (wipeE _ _) _ ds) _ m) (fun v44 v45 v46 => (show EE _ [.sh (a38), .sh (a39), .sh (v44), .sh (v45), .sh (v46)] _ _ from (ee_chain c_le c_le (el_of (ev 2)) (el_of (ev 3)) (el_of (ev 4))))))))))))))
abbrev s_has_point : Stmt := topS 13
theorem sc_has_point : FnScope ["sides", "block", "point"] ["sides", "block", "point"] (defScope s_has_point) := ⟨rfl, rfl, rfl, by decide +kernel, rfl, by decide +kernel, by decide +kernel⟩
def b_has_point : List D → M (Out Unit Unit) := p3 (fun a49 a50 a51 => ((((pure (a49) : M D) >>= fun x54 => ((pure (a50) : M D) >>= fun x52 => (pure [] : M (List D)) >>= fun xs53 => pure (x52 :: xs53)) >>= fun xs55 => pure (x54 :: xs55)) >>= m_check_block) >>= fun u66 => ((((pure (a49) : M D) >>= fun x58 => ((pure (a51) : M D) >>= fun x56 => (pure [] : M (List D)) >>= fun xs57 => pure (x56 :: xs57)) >>= fun xs59 => pure (x58 :: xs59)) >>= m_check_point) >>= fun u65 => ((((pure (a50) : M D) >>= fun x62 => ((pure (a51) : M D) >>= fun x60 => (pure [] : M (List D)) >>= fun xs61 => pure (x60 :: xs61)) >>= fun xs63 => pure (x62 :: xs63)) >>= m_lies_in) >>= fun x64 => pure (.rt x64)))))
def m_has_point (ds : List D) : M D := runF (b_has_point ds)
theorem o_has_point {p : Pg} (T : Txt p) {f : Addr} {fd : FuncData} (F : Fun p.K "has_point" "has_point" s_has_point f fd) (h_check_block : Fnc p 2 "check_block" [.v, .v] m_check_block) (h_check_point : Fnc p 1 "check_point" [.v, .v] m_check_point) (h_lies_in : Fnc p 1 "lies_in" [.v, .v] m_lies_in) : FnOk p.P p.w p.K p.mg p.base (L2N.CX p.P p.w) 3 f fd ["sides", "block", "point"] (spD p [.v, .v, .v] m_has_point) :=
  fnok_of (k := 2) (N := ["sides", "block", "point"]) (body := b_has_point) (shN := fun _ => [.un, .un, .un]) (shB := fun _ => []) F sc_has_point rfl (q3 (P := fun ds m => SB _ (argE _ ds ++ _) _ m _ _) (fun a49 a50 a51 => (show SB _ [.sh (a49), .sh (a50), .sh (a51)] _ _ _ _ from (s_expr (el_of (xcall h_check_block (av (ev 0) (av (ev 1) eak_nil)))) (show SB _ [.sh (a49), .sh (a50), .sh (a51)] _ _ _ _ from (s_expr (el_of (xcall h_check_point (av (ev 0) (av (ev 2) eak_nil)))) (show SB _ [.sh (a49), .sh (a50), .sh (a51)] _ _ _ _ from (sb_ret (xcall h_lies_in (av (ev 1) (av (ev 2) eak_nil)))))))))))
abbrev s_least_of : Stmt := topS 14
theorem sc_least_of : FnScope ["points", "rows", "row"] ["points"] (defScope s_least_of) := ⟨rfl, rfl, rfl, by decide +kernel, rfl, by decide +kernel, by decide +kernel⟩
def b_least_of : List D → M (Out Unit Unit) := p1 (fun a67 => (((pure (a67) : M D) >>= zipSD) >>= fun z68 => (((((lcM ((pure (z68) : M D) >>= items) nm (p1 (fun v76 => (pure true : M Bool))) (p1 (fun v76 => ((pure (v76) : M D) >>= minV)))) >>= tupleD) >>= fun x73 => (((lcM ((pure (z68) : M D) >>= items) nm (p1 (fun v72 => (pure true : M Bool))) (p1 (fun v72 => ((pure (v72) : M D) >>= maxV)))) >>= tupleD) >>= fun x69 => (pure [] : M (List D)) >>= fun xs70 => pure (x69 :: xs70)) >>= fun xs74 => pure (x73 :: xs74)) >>= mkT) >>= fun x77 => pure (.rt x77))))
def m_least_of (ds : List D) : M D := runF (b_least_of ds)
theorem o_least_of {p : Pg} (T : Txt p) {f : Addr} {fd : FuncData} (F : Fun p.K "least_of" "least_of" s_least_of f fd)  : FnOk p.P p.w p.K p.mg p.base (L2N.CX p.P p.w) 1 f fd ["points"] (spD p [.v] m_least_of) :=
  fnok_of (k := 0) (N := ["points", "rows", "row"]) (body := b_least_of) (shN := fun _ => [.un, .un, .un]) (shB := fun _ => []) F sc_least_of rfl (q1 (P := fun ds m => SB _ (argE _ ds ++ _) _ m _ _) (fun a67 => (show SB _ [.sh (a67), .un, .un] _ _ _ _ from (s_set 1 sc_least_of.nd (ee_new (en_lzs (by rfl) T.b_list (by rfl) T.b_zip (el_of (ev 0)))) (fun z68 => (show SB _ [.sh (a67), .sh (z68), .un] _ _ _ _ from (sb_ret (ee_tup (ea_cons (ee_tuplec (b_tuple T.b_tuple) (el_new (en_comp (c_lc sc_least_of.nd [("row", 2)] (ei_read (el_of (ev 1))) (tn 2 sc_least_of.nd) nm_pure nm_len (q1 (P := fun ds m => ETs (Sta.blk _ _) (setE (wipeE _ _) _ ds) _ m) (fun v76 => (show ETs _ [.sh (a67), .sh (z68), .sh (v76)] _ _ from ets_nil))) (q1 (P := fun ds m => EE (Sta.blk _ _) (setE (wipeE _ _) _ ds) _ m) (fun v76 => (show EE _ [.sh (a67), .sh (z68), .sh (v76)] _ _ from (ee_minV (b_min T.b_min) (el_of (ev 2)))))))))) (ea_cons (ee_tuplec (b_tuple T.b_tuple) (el_new (en_comp (c_lc sc_least_of.nd [("row", 2)] (ei_read (el_of (ev 1))) (tn 2 sc_least_of.nd) nm_pure nm_len (q1 (P := fun ds m => ETs (Sta.blk _ _) (setE (wipeE _ _) _ ds) _ m) (fun v72 => (show ETs _ [.sh (a67), .sh (z68), .sh (v72)] _ _ from ets_nil))) (q1 (P := fun ds m => EE (Sta.blk _ _) (setE (wipeE _ _) _ ds) _ m) (fun v72 => (show EE _ [.sh (a67), .sh (z68), .sh (v72)] _ _ from (ee_maxV (b_max T.b_max) (el_of (ev 2)))))))))) ea_nil))))))))))
abbrev s_least_block : Stmt := topS 15
theorem sc_least_block : FnScope ["sides", "points", "point"] ["sides", "points"] (defScope s_least_block) := ⟨rfl, rfl, rfl, by decide +kernel, rfl, by decide +kernel, by decide +kernel⟩
def b_least_block : List D → M (Out Unit Unit) := p2 (fun a78 a79 => (((pure (a79) : M D) >>= items) >>= fun xs94 => forL (fun (s80 : Unit) x95 => nm x95 >>= p1 (fun v81 => ((((pure (a78) : M D) >>= fun x84 => ((pure (v81) : M D) >>= fun x82 => (pure [] : M (List D)) >>= fun xs83 => pure (x82 :: xs83)) >>= fun xs85 => pure (x84 :: xs85)) >>= m_check_point) >>= fun u86 => (pure (.nx ()))))) () xs94 >>= seqO fun s80 => ((((pure (a79) : M D) >>= lenD) >>= fun x87 => (pure (D.int 0) : M D) >>= fun x88 => eqB x87 x88) >>= fun b93 => (if b93 = true then ((raise 102) : M (Out (Unit) _)) else (pure (.nx ()))) >>= seqO fun s89 => ((((pure (a79) : M D) >>= fun x90 => (pure [] : M (List D)) >>= fun xs91 => pure (x90 :: xs91)) >>= m_least_of) >>= fun x92 => pure (.rt x92)))))
def m_least_block (ds : List D) : M D := runF (b_least_block ds)
theorem o_least_block {p : Pg} (T : Txt p) {f : Addr} {fd : FuncData} (F : Fun p.K "least_block" "least_block" s_least_block f fd) (h_check_point : Fnc p 1 "check_point" [.v, .v] m_check_point) (h_least_of : Fnc p 1 "least_of" [.v] m_least_of) : FnOk p.P p.w p.K p.mg p.base (L2N.CX p.P p.w) 2 f fd ["sides", "points"] (spD p [.v, .v] m_least_block) :=
  fnok_of (k := 1) (N := ["sides", "points", "point"]) (body := b_least_block) (shN := fun _ => [.un, .un, .un]) (shB := fun _ => []) F sc_least_block rfl (q2 (P := fun ds m => SB _ (argE _ ds ++ _) _ m _ _) (fun a78 a79 => (show SB _ [.sh (a78), .sh (a79), .un] _ _ _ _ from (s_for (Z := Unit) (sh := fun s80 => [.sh (a78), .sh (a79), .un]) (ei_seq (ev 1)) (tn 2 sc_least_block.nd) nm_pure nm_len (.eq (.eq (.un Le.nil))) (fun s80 => q1 (P := fun ds m => SB _ (setE _ _ ds) _ m _ _) (fun v81 => (show SB _ [.sh (a78), .sh (a79), .sh (v81)] _ _ _ _ from (s_expr (el_of (xcall h_check_point (av (ev 0) (av (ev 2) eak_nil)))) (show SB _ [.sh (a78), .sh (a79), .sh (v81)] _ _ _ _ from (sb_nil (.eq (.eq (.un Le.nil))))))))) fun s80 => (show SB _ [.sh (a78), .sh (a79), .un] _ _ _ _ from (sb_if (J := Unit) (shJ := fun s89 => [.sh (a78), .sh (a79), .un]) (tcmp c_eq (el_of (ee_len (b_len T.b_len) (el_of (ev 1)))) (el_of ee_int)) (s_raise T.x_Missing) (sb_nil (.eq (.eq (.un Le.nil)))) fun s89 => (show SB _ [.sh (a78), .sh (a79), .un] _ _ _ _ from (sb_ret (xcall h_least_of (av (ev 1) eak_nil))))))))))
abbrev s_check_answers : Stmt := topS 16
theorem sc_check_answers : FnScope ["sides", "answers", "point", "bit"] ["sides", "answers"] (defScope s_check_answers) := ⟨rfl, rfl, rfl, by decide +kernel, rfl, by decide +kernel, by decide +kernel⟩
def b_check_answers : List D → M (Out Unit Unit) := p2 (fun a96 a97 => (((pure (a97) : M D) >>= items) >>= fun xs116 => forL (fun (s98 : Unit) x117 => (unT (unc nm (unc nm un0))) x117 >>= p2 (fun v99 v100 => ((((pure (a96) : M D) >>= fun x103 => ((pure (v99) : M D) >>= fun x101 => (pure [] : M (List D)) >>= fun xs102 => pure (x101 :: xs102)) >>= fun xs104 => pure (x103 :: xs104)) >>= m_check_point) >>= fun u115 => (((pure (v100) : M D) >>= fun x111 => (((pure (D.int 0) : M D) >>= fun x108 => ((pure (D.int 1) : M D) >>= fun x105 => (pure [] : M (List D)) >>= fun xs106 => pure (x105 :: xs106)) >>= fun xs109 => pure (x108 :: xs109)) >>= mkT) >>= fun x112 => inB true x111 x112) >>= fun b114 => (if b114 = true then ((raise 101) : M (Out (Unit) _)) else (pure (.nx ()))) >>= seqO fun s113 => (pure (.nx ())))))) () xs116 >>= seqO fun s98 => (pure (.nx ()))))
def m_check_answers (ds : List D) : M D := runF (b_check_answers ds)
theorem o_check_answers {p : Pg} (T : Txt p) {f : Addr} {fd : FuncData} (F : Fun p.K "check_answers" "check_answers" s_check_answers f fd) (h_check_point : Fnc p 1 "check_point" [.v, .v] m_check_point) : FnOk p.P p.w p.K p.mg p.base (L2N.CX p.P p.w) 2 f fd ["sides", "answers"] (spD p [.v, .v] m_check_answers) :=
  fnok_of (k := 1) (N := ["sides", "answers", "point", "bit"]) (body := b_check_answers) (shN := fun _ => [.un, .un, .un, .un]) (shB := fun _ => []) F sc_check_answers rfl (q2 (P := fun ds m => SB _ (argE _ ds ++ _) _ m _ _) (fun a96 a97 => (show SB _ [.sh (a96), .sh (a97), .un, .un] _ _ _ _ from (s_for (Z := Unit) (sh := fun s98 => [.sh (a96), .sh (a97), .un, .un]) (ei_seq (ev 1)) (tt (tc (ix := [2]) (jx := [3]) nm_pure (unc_pure nm_pure un0_pure) nm_len (tn 2 sc_check_answers.nd) (tc (ix := [3]) (jx := []) nm_pure un0_pure nm_len (tn 3 sc_check_answers.nd) tgs_nil)) (unc_len (n := 1) (l := 1) nm_len (unc_len (n := 1) (l := 0) nm_len un0_len))) (unT_pure (unc_pure nm_pure (unc_pure nm_pure un0_pure))) (unT_len (unc_len (n := 1) (l := 1) nm_len (unc_len (n := 1) (l := 0) nm_len un0_len))) (.eq (.eq (.un (.un Le.nil)))) (fun s98 => q2 (P := fun ds m => SB _ (setE _ _ ds) _ m _ _) (fun v99 v100 => (show SB _ [.sh (a96), .sh (a97), .sh (v99), .sh (v100)] _ _ _ _ from (s_expr (el_of (xcall h_check_point (av (ev 0) (av (ev 2) eak_nil)))) (show SB _ [.sh (a96), .sh (a97), .sh (v99), .sh (v100)] _ _ _ _ from (sb_if (J := Unit) (shJ := fun s113 => [.sh (a96), .sh (a97), .sh (v99), .sh (v100)]) (tcmp c_nin (el_of (ev 3)) (el_of (ee_tup (ea_cons ee_int (ea_cons ee_int ea_nil))))) (s_raise T.x_NotAllowed) (sb_nil (.eq (.eq (.eq (.eq Le.nil))))) fun s113 => (show SB _ [.sh (a96), .sh (a97), .sh (v99), .sh (v100)] _ _ _ _ from (sb_nil (.eq (.eq (.un (.un Le.nil)))))))))))) fun s98 => (show SB _ [.sh (a96), .sh (a97), .un, .un] _ _ _ _ from (sb_nil (.un (.un (.un (.un Le.nil))))))))))
abbrev s_fitting : Stmt := topS 17
theorem sc_fitting : FnScope ["sides", "answers", "inside", "block", "point", "bit"] ["sides", "answers"] (defScope s_fitting) := ⟨rfl, rfl, rfl, by decide +kernel, rfl, by decide +kernel, by decide +kernel⟩
def b_fitting : List D → M (Out Unit Unit) := p2 (fun a118 a119 => ((((pure (a118) : M D) >>= fun x122 => ((pure (a119) : M D) >>= fun x120 => (pure [] : M (List D)) >>= fun xs121 => pure (x120 :: xs121)) >>= fun xs123 => pure (x122 :: xs123)) >>= m_check_answers) >>= fun u147 => ((lcM ((pure (a119) : M D) >>= items) (unT (unc nm (unc nm un0))) (p2 (fun v125 v126 => ((pure (v126) : M D) >>= fun x127 => (pure (D.int 1) : M D) >>= fun x128 => eqB x127 x128))) (p2 (fun v125 v126 => (pure (v125) : M D)))) >>= fun z124 => ((((pure (z124) : M D) >>= lenD) >>= fun x129 => (pure (D.int 0) : M D) >>= fun x130 => eqB x129 x130) >>= fun b146 => (if b146 = true then ((raise 102) : M (Out (Unit) _)) else (pure (.nx ()))) >>= seqO fun s131 => ((((pure (z124) : M D) >>= fun x133 => (pure [] : M (List D)) >>= fun xs134 => pure (x133 :: xs134)) >>= m_least_of) >>= fun z132 => ((((lcM ((pure (a119) : M D) >>= items) (unT (unc nm (unc nm un0))) (p2 (fun v135 v136 => ((pure (v136) : M D) >>= fun x137 => (pure (D.int 0) : M D) >>= fun x138 => eqB x137 x138))) (p2 (fun v135 v136 => (((pure (z132) : M D) >>= fun x141 => ((pure (v135) : M D) >>= fun x139 => (pure [] : M (List D)) >>= fun xs140 => pure (x139 :: xs140)) >>= fun xs142 => pure (x141 :: xs142)) >>= m_lies_in)))) >>= anyD) >>= truth) >>= fun b145 => (if b145 = true then ((raise 102) : M (Out (Unit) _)) else (pure (.nx ()))) >>= seqO fun s143 => ((pure (z132) : M D) >>= fun x144 => pure (.rt x144))))))))
def m_fitting (ds : List D) : M D := runF (b_fitting ds)
theorem o_fitting {p : Pg} (T : Txt p) {f : Addr} {fd : FuncData} (F : Fun p.K "fitting" "fitting" s_fitting f fd) (h_check_answers : Fnc p 2 "check_answers" [.v, .v] m_check_answers) (h_least_of : Fnc p 1 "least_of" [.v] m_least_of) (h_lies_in : Fnc p 1 "lies_in" [.v, .v] m_lies_in) : FnOk p.P p.w p.K p.mg p.base (L2N.CX p.P p.w) 3 f fd ["sides", "answers"] (spD p [.v, .v] m_fitting) :=
  fnok_of (k := 2) (N := ["sides", "answers", "inside", "block", "point", "bit"]) (body := b_fitting) (shN := fun _ => [.un, .un, .un, .un, .un, .un]) (shB := fun _ => []) F sc_fitting rfl (q2 (P := fun ds m => SB _ (argE _ ds ++ _) _ m _ _) (fun a118 a119 => (show SB _ [.sh (a118), .sh (a119), .un, .un, .un, .un] _ _ _ _ from (s_expr (el_of (xcall h_check_answers (av (ev 0) (av (ev 1) eak_nil)))) (show SB _ [.sh (a118), .sh (a119), .un, .un, .un, .un] _ _ _ _ from (s_setC 2 sc_fitting.nd (c_lc sc_fitting.nd [("point", 4), ("bit", 5)] (ei_read (el_of (ev 1))) (tt (tc (ix := [4]) (jx := [5]) nm_pure (unc_pure nm_pure un0_pure) nm_len (tn 4 sc_fitting.nd) (tc (ix := [5]) (jx := []) nm_pure un0_pure nm_len (tn 5 sc_fitting.nd) tgs_nil)) (unc_len (n := 1) (l := 1) nm_len (unc_len (n := 1) (l := 0) nm_len un0_len))) (unT_pure (unc_pure nm_pure (unc_pure nm_pure un0_pure))) (unT_len (unc_len (n := 1) (l := 1) nm_len (unc_len (n := 1) (l := 0) nm_len un0_len))) (q2 (P := fun ds m => ETs (Sta.blk _ _) (setE (wipeE _ _) _ ds) _ m) (fun v125 v126 => (show ETs _ [.sh (a118), .sh (a119), .un, .un, .sh (v125), .sh (v126)] _ _ from (ets_one (tcmp c_eq (el_of (ev 5)) (el_of ee_int)))))) (q2 (P := fun ds m => EE (Sta.blk _ _) (setE (wipeE _ _) _ ds) _ m) (fun v125 v126 => (show EE _ [.sh (a118), .sh (a119), .un, .un, .sh (v125), .sh (v126)] _ _ from (ev 4))))) (lcM_nodict _ _ _ _) (fun z124 => (show SB _ [.sh (a118), .sh (a119), .sh (z124), .un, .un, .un] _ _ _ _ from (sb_if (J := Unit) (shJ := fun s131 => [.sh (a118), .sh (a119), .sh (z124), .un, .un, .un]) (tcmp c_eq (el_of (ee_len (b_len T.b_len) (el_of (ev 2)))) (el_of ee_int)) (s_raise T.x_Missing) (sb_nil (.eq (.eq (.eq (.un (.un (.un Le.nil))))))) fun s131 => (show SB _ [.sh (a118), .sh (a119), .sh (z124), .un, .un, .un] _ _ _ _ from (s_set 3 sc_fitting.nd (xcall h_least_of (av (ev 2) eak_nil)) (fun z132 => (show SB _ [.sh (a118), .sh (a119), .sh (z124), .sh (z132), .un, .un] _ _ _ _ from (sb_if (J := Unit) (shJ := fun s143 => [.sh (a118), .sh (a119), .sh (z124), .sh (z132), .un, .un]) (ttr (el_of (ee_any (b_any T.b_any) (el_new (en_comp (c_lc sc_fitting.nd [("point", 4), ("bit", 5)] (ei_read (el_of (ev 1))) (tt (tc (ix := [4]) (jx := [5]) nm_pure (unc_pure nm_pure un0_pure) nm_len (tn 4 sc_fitting.nd) (tc (ix := [5]) (jx := []) nm_pure un0_pure nm_len (tn 5 sc_fitting.nd) tgs_nil)) (unc_len (n := 1) (l := 1) nm_len (unc_len (n := 1) (l := 0) nm_len un0_len))) (unT_pure (unc_pure nm_pure (unc_pure nm_pure un0_pure))) (unT_len (unc_len (n := 1) (l := 1) nm_len (unc_len (n := 1) (l := 0) nm_len un0_len))) (q2 (P := fun ds m => ETs (Sta.blk _ _) (setE (wipeE _ _) _ ds) _ m) (fun v135 v136 => (show ETs _ [.sh (a118), .sh (a119), .sh (z124), .sh (z132), .sh (v135), .sh (v136)] _ _ from (ets_one (tcmp c_eq (el_of (ev 5)) (el_of ee_int)))))) (q2 (P := fun ds m => EE (Sta.blk _ _) (setE (wipeE _ _) _ ds) _ m) (fun v135 v136 => (show EE _ [.sh (a118), .sh (a119), .sh (z124), .sh (z132), .sh (v135), .sh (v136)] _ _ from (xcall h_lies_in (av (ev 3) (av (ev 4) eak_nil)))))))))))) (s_raise T.x_Missing) (sb_nil (.eq (.eq (.eq (.eq (.un (.un Le.nil))))))) fun s143 => (show SB _ [.sh (a118), .sh (a119), .sh (z124), .sh (z132), .un, .un] _ _ _ _ from (sb_ret (ev 3))))))))))) (hs := sw_lc rfl)))))))
abbrev s_barred_by : Stmt := topS 18
theorem sc_barred_by : FnScope ["sides", "answers", "inside", "point", "bit"] ["sides", "answers"] (defScope s_barred_by) := ⟨rfl, rfl, rfl, by decide +kernel, rfl, by decide +kernel, by decide +kernel⟩
def b_barred_by : List D → M (Out Unit Unit) := p2 (fun a148 a149 => ((((pure (a148) : M D) >>= fun x152 => ((pure (a149) : M D) >>= fun x150 => (pure [] : M (List D)) >>= fun xs151 => pure (x150 :: xs151)) >>= fun xs153 => pure (x152 :: xs153)) >>= m_check_answers) >>= fun u180 => ((lcM ((pure (a149) : M D) >>= items) (unT (unc nm (unc nm un0))) (p2 (fun v155 v156 => ((pure (v156) : M D) >>= fun x157 => (pure (D.int 1) : M D) >>= fun x158 => eqB x157 x158))) (p2 (fun v155 v156 => (pure (v155) : M D)))) >>= fun z154 => ((((pure (z154) : M D) >>= lenD) >>= fun x159 => (pure (D.int 0) : M D) >>= fun x160 => gtB x159 x160) >>= fun b179 => (if b179 = true then ((((pure (a149) : M D) >>= items) >>= fun xs177 => forL (fun (s162 : Unit) x178 => (unT (unc nm (unc nm un0))) x178 >>= p2 (fun v163 v164 => ((((pure (v164) : M D) >>= fun x165 => (pure (D.int 0) : M D) >>= fun x166 => eqB x165 x166) >>= fun b173 => if b173 = true then ((((((pure (z154) : M D) >>= fun x169 => (pure [] : M (List D)) >>= fun xs170 => pure (x169 :: xs170)) >>= m_least_of) >>= fun x171 => ((pure (v163) : M D) >>= fun x167 => (pure [] : M (List D)) >>= fun xs168 => pure (x167 :: xs168)) >>= fun xs172 => pure (x171 :: xs172)) >>= m_lies_in) >>= truth) else (pure false : M Bool)) >>= fun b176 => (if b176 = true then (((pure (v163) : M D) >>= fun x175 => pure (.rt x175)) : M (Out (Unit) _)) else (pure (.nx ()))) >>= seqO fun s174 => (pure (.nx ()))))) () xs177 >>= seqO fun s162 => (pure (.nx ()))) : M (Out (Unit) _)) else (pure (.nx ()))) >>= seqO fun s161 => (raise 102)))))
def m_barred_by (ds : List D) : M D := runF (b_barred_by ds)
theorem o_barred_by {p : Pg} (T : Txt p) {f : Addr} {fd : FuncData} (F : Fun p.K "barred_by" "barred_by" s_barred_by f fd) (h_check_answers : Fnc p 2 "check_answers" [.v, .v] m_check_answers) (h_lies_in : Fnc p 1 "lies_in" [.v, .v] m_lies_in) (h_least_of : Fnc p 1 "least_of" [.v] m_least_of) : FnOk p.P p.w p.K p.mg p.base (L2N.CX p.P p.w) 3 f fd ["sides", "answers"] (spD p [.v, .v] m_barred_by) :=
  fnok_of (k := 2) (N := ["sides", "answers", "inside", "point", "bit"]) (body := b_barred_by) (shN := fun _ => [.un, .un, .un, .un, .un]) (shB := fun _ => []) F sc_barred_by rfl (q2 (P := fun ds m => SB _ (argE _ ds ++ _) _ m _ _) (fun a148 a149 => (show SB _ [.sh (a148), .sh (a149), .un, .un, .un] _ _ _ _ from (s_expr (el_of (xcall h_check_answers (av (ev 0) (av (ev 1) eak_nil)))) (show SB _ [.sh (a148), .sh (a149), .un, .un, .un] _ _ _ _ from (s_setC 2 sc_barred_by.nd (c_lc sc_barred_by.nd [("point", 3), ("bit", 4)] (ei_read (el_of (ev 1))) (tt (tc (ix := [3]) (jx := [4]) nm_pure (unc_pure nm_pure un0_pure) nm_len (tn 3 sc_barred_by.nd) (tc (ix := [4]) (jx := []) nm_pure un0_pure nm_len (tn 4 sc_barred_by.nd) tgs_nil)) (unc_len (n := 1) (l := 1) nm_len (unc_len (n := 1) (l := 0) nm_len un0_len))) (unT_pure (unc_pure nm_pure (unc_pure nm_pure un0_pure))) (unT_len (unc_len (n := 1) (l := 1) nm_len (unc_len (n := 1) (l := 0) nm_len un0_len))) (q2 (P := fun ds m => ETs (Sta.blk _ _) (setE (wipeE _ _) _ ds) _ m) (fun v155 v156 => (show ETs _ [.sh (a148), .sh (a149), .un, .sh (v155), .sh (v156)] _ _ from (ets_one (tcmp c_eq (el_of (ev 4)) (el_of ee_int)))))) (q2 (P := fun ds m => EE (Sta.blk _ _) (setE (wipeE _ _) _ ds) _ m) (fun v155 v156 => (show EE _ [.sh (a148), .sh (a149), .un, .sh (v155), .sh (v156)] _ _ from (ev 3))))) (lcM_nodict _ _ _ _) (fun z154 => (show SB _ [.sh (a148), .sh (a149), .sh (z154), .un, .un] _ _ _ _ from (sb_if (J := Unit) (shJ := fun s161 => [.sh (a148), .sh (a149), .sh (z154), .un, .un]) (tcmp c_gt (el_of (ee_len (b_len T.b_len) (el_of (ev 2)))) (el_of ee_int)) (s_for (Z := Unit) (sh := fun s162 => [.sh (a148), .sh (a149), .sh (z154), .un, .un]) (ei_seq (ev 1)) (tt (tc (ix := [3]) (jx := [4]) nm_pure (unc_pure nm_pure un0_pure) nm_len (tn 3 sc_barred_by.nd) (tc (ix := [4]) (jx := []) nm_pure un0_pure nm_len (tn 4 sc_barred_by.nd) tgs_nil)) (unc_len (n := 1) (l := 1) nm_len (unc_len (n := 1) (l := 0) nm_len un0_len))) (unT_pure (unc_pure nm_pure (unc_pure nm_pure un0_pure))) (unT_len (unc_len (n := 1) (l := 1) nm_len (unc_len (n := 1) (l := 0) nm_len un0_len))) (.eq (.eq (.eq (.un (.un Le.nil))))) (fun s162 => q2 (P := fun ds m => SB _ (setE _ _ ds) _ m _ _) (fun v163 v164 => (show SB _ [.sh (a148), .sh (a149), .sh (z154), .sh (v163), .sh (v164)] _ _ _ _ from (sb_if (J := Unit) (shJ := fun s174 => [.sh (a148), .sh (a149), .sh (z154), .sh (v163), .sh (v164)]) (et_w (ew_and (tcmp c_eq (el_of (ev 4)) (el_of ee_int)) (ew_and1 (ttr (el_of (xcall h_lies_in (av (xcall h_least_of (av (ev 2) eak_nil)) (av (ev 3) eak_nil)))))))) (sb_ret (ev 3)) (sb_nil (.eq (.eq (.eq (.eq (.eq Le.nil)))))) fun s174 => (show SB _ [.sh (a148), .sh (a149), .sh (z154), .sh (v163), .sh (v164)] _ _ _ _ from (sb_nil (.eq (.eq (.eq (.un (.un Le.nil))))))))))) fun s162 => (show SB _ [.sh (a148), .sh (a149), .sh (z154), .un, .un] _ _ _ _ from (sb_nil (.eq (.eq (.eq (.un (.un Le.nil)))))))) (sb_nil (.eq (.eq (.eq (.un (.un Le.nil)))))) fun s161 => (show SB _ [.sh (a148), .sh (a149), .sh (z154), .un, .un] _ _ _ _ from (s_raise T.x_Missing))))) (hs := sw_lc rfl)))))))
abbrev s_settled : Stmt := topS 19
theorem sc_settled : FnScope ["sides", "answers", "point", "block", "wide", "other", "bit"] ["sides", "answers", "point"] (defScope s_settled) := ⟨rfl, rfl, rfl, by decide +kernel, rfl, by decide +kernel, by decide +kernel⟩
def b_settled : List D → M (Out Unit Unit) := p3 (fun a181 a182 a183 => ((((pure (a181) : M D) >>= fun x186 => ((pure (a183) : M D) >>= fun x184 => (pure [] : M (List D)) >>= fun xs185 => pure (x184 :: xs185)) >>= fun xs187 => pure (x186 :: xs187)) >>= m_check_point) >>= fun u219 => ((((pure (a181) : M D) >>= fun x191 => ((pure (a182) : M D) >>= fun x189 => (pure [] : M (List D)) >>= fun xs190 => pure (x189 :: xs190)) >>= fun xs192 => pure (x191 :: xs192)) >>= m_fitting) >>= fun z188 => (((((pure (z188) : M D) >>= fun x195 => ((pure (a183) : M D) >>= fun x193 => (pure [] : M (List D)) >>= fun xs194 => pure (x193 :: xs194)) >>= fun xs196 => pure (x195 :: xs196)) >>= m_lies_in) >>= truth) >>= fun b218 => (if b218 = true then (((pure (D.int 1) : M D) >>= fun x198 => pure (.rt x198)) : M (Out (Unit) _)) else (pure (.nx ()))) >>= seqO fun s197 => ((((((pure (z188) : M D) >>= fun x203 => items x203 >>= fun xs204 => ((pure (a183) : M D) >>= fun x200 => (pure [] : M (List D)) >>= fun xs201 => pure (x200 :: xs201)) >>= fun ys205 => pure (xs204 ++ ys205)) >>= mkT) >>= fun x206 => (pure [] : M (List D)) >>= fun xs207 => pure (x206 :: xs207)) >>= m_least_of) >>= fun z199 => (((((lcM ((pure (a182) : M D) >>= items) (unT (unc nm (unc nm un0))) (p2 (fun v208 v209 => ((pure (v209) : M D) >>= fun x210 => (pure (D.int 0) : M D) >>= fun x211 => eqB x210 x211))) (p2 (fun v208 v209 => (((pure (z199) : M D) >>= fun x214 => ((pure (v208) : M D) >>= fun x212 => (pure [] : M (List D)) >>= fun xs213 => pure (x212 :: xs213)) >>= fun xs215 => pure (x214 :: xs215)) >>= m_lies_in)))) >>= anyD) >>= truth) >>= fun b216 => if b216 = true then (pure (D.int 0) : M D) else (pure D.non : M D)) >>= fun x217 => pure (.rt x217)))))))
def m_settled (ds : List D) : M D := runF (b_settled ds)
theorem o_settled {p : Pg} (T : Txt p) {f : Addr} {fd : FuncData} (F : Fun p.K "settled" "settled" s_settled f fd) (h_check_point : Fnc p 1 "check_point" [.v, .v] m_check_point) (h_fitting : Fnc p 3 "fitting" [.v, .v] m_fitting) (h_lies_in : Fnc p 1 "lies_in" [.v, .v] m_lies_in) (h_least_of : Fnc p 1 "least_of" [.v] m_least_of) : FnOk p.P p.w p.K p.mg p.base (L2N.CX p.P p.w) 4 f fd ["sides", "answers", "point"] (spD p [.v, .v, .v] m_settled) :=
  fnok_of (k := 3) (N := ["sides", "answers", "point", "block", "wide", "other", "bit"]) (body := b_settled) (shN := fun _ => [.un, .un, .un, .un, .un, .un, .un]) (shB := fun _ => []) F sc_settled rfl (q3 (P := fun ds m => SB _ (argE _ ds ++ _) _ m _ _) (fun a181 a182 a183 => (show SB _ [.sh (a181), .sh (a182), .sh (a183), .un, .un, .un, .un] _ _ _ _ from (s_expr (el_of (xcall h_check_point (av (ev 0) (av (ev 2) eak_nil)))) (show SB _ [.sh (a181), .sh (a182), .sh (a183), .un, .un, .un, .un] _ _ _ _ from (s_set 3 sc_settled.nd (xcall h_fitting (av (ev 0) (av (ev 1) eak_nil))) (fun z188 => (show SB _ [.sh (a181), .sh (a182), .sh (a183), .sh (z188), .un, .un, .un] _ _ _ _ from (sb_if (J := Unit) (shJ := fun s197 => [.sh (a181), .sh (a182), .sh (a183), .sh (z188), .un, .un, .un]) (ttr (el_of (xcall h_lies_in (av (ev 3) (av (ev 2) eak_nil))))) (sb_ret ee_int) (sb_nil (.eq (.eq (.eq (.eq (.un (.un (.un Le.nil)))))))) fun s197 => (show SB _ [.sh (a181), .sh (a182), .sh (a183), .sh (z188), .un, .un, .un] _ _ _ _ from (s_set 4 sc_settled.nd (xcall h_least_of (av (ee_tup (ea_star (el_of (ev 3)) (ea_cons (ev 2) ea_nil))) eak_nil)) (fun z199 => (show SB _ [.sh (a181), .sh (a182), .sh (a183), .sh (z188), .sh (z199), .un, .un] _ _ _ _ from (sb_ret (ex_if back_RE (ttr (el_of (ee_any (b_any T.b_any) (el_new (en_comp (c_lc sc_settled.nd [("other", 5), ("bit", 6)] (ei_read (el_of (ev 1))) (tt (tc (ix := [5]) (jx := [6]) nm_pure (unc_pure nm_pure un0_pure) nm_len (tn 5 sc_settled.nd) (tc (ix := [6]) (jx := []) nm_pure un0_pure nm_len (tn 6 sc_settled.nd) tgs_nil)) (unc_len (n := 1) (l := 1) nm_len (unc_len (n := 1) (l := 0) nm_len un0_len))) (unT_pure (unc_pure nm_pure (unc_pure nm_pure un0_pure))) (unT_len (unc_len (n := 1) (l := 1) nm_len (unc_len (n := 1) (l := 0) nm_len un0_len))) (q2 (P := fun ds m => ETs (Sta.blk _ _) (setE (wipeE _ _) _ ds) _ m) (fun v208 v209 => (show ETs _ [.sh (a181), .sh (a182), .sh (a183), .sh (z188), .sh (z199), .sh (v208), .sh (v209)] _ _ from (ets_one (tcmp c_eq (el_of (ev 6)) (el_of ee_int)))))) (q2 (P := fun ds m => EE (Sta.blk _ _) (setE (wipeE _ _) _ ds) _ m) (fun v208 v209 => (show EE _ [.sh (a181), .sh (a182), .sh (a183), .sh (z188), .sh (z199), .sh (v208), .sh (v209)] _ _ from (xcall h_lies_in (av (ev 4) (av (ev 5) eak_nil)))))))))))) ee_int ee_non)))))))))))))))
abbrev s_size_of : Stmt := topS 20
theorem sc_size_of : FnScope ["sides", "block", "found", "first", "last"] ["sides", "block"] (defScope s_size_of) := ⟨rfl, rfl, rfl, by decide +kernel, rfl, by decide +kernel, by decide +kernel⟩
def b_size_of : List D → M (Out Unit Unit) := p2 (fun a220 a221 => ((((pure (a220) : M D) >>= fun x224 => ((pure (a221) : M D) >>= fun x222 => (pure [] : M (List D)) >>= fun xs223 => pure (x222 :: xs223)) >>= fun xs225 => pure (x224 :: xs225)) >>= m_check_block) >>= fun u244 => ((pure (D.int 1) : M D) >>= fun z226 => ((zip2M ((pure (a221) : M D) >>= fun x227 => (pure (D.int 0) : M D) >>= fun x228 => ixD x227 x228) ((pure (a221) : M D) >>= fun x229 => (pure (D.int 1) : M D) >>= fun x230 => ixD x229 x230)) >>= fun xs242 => forL (fun (s231 : D) x243 => (unT (unc nm (unc nm un0))) x243 >>= p2 (fun v232 v233 => (((pure (s231) : M D) >>= fun x239 => (((pure (v233) : M D) >>= fun x235 => (pure (v232) : M D) >>= fun x236 => subD x235 x236) >>= fun x237 => (pure (D.int 1) : M D) >>= fun x238 => addD x237 x238) >>= fun x240 => mulD x239 x240) >>= fun z234 => (pure (.nx (z234)))))) (z226) xs242 >>= seqO fun s231 => ((pure (s231) : M D) >>= fun x241 => pure (.rt x241))))))
def m_size_of (ds : List D) : M D := runF (b_size_of ds)
theorem o_size_of {p : Pg} (T : Txt p) {f : Addr} {fd : FuncData} (F : Fun p.K "size_of" "size_of" s_size_of f fd) (h_check_block : Fnc p 2 "check_block" [.v, .v] m_check_block) : FnOk p.P p.w p.K p.mg p.base (L2N.CX p.P p.w) 3 f fd ["sides", "block"] (spD p [.v, .v] m_size_of) :=
  fnok_of (k := 2) (N := ["sides", "block", "found", "first", "last"]) (body := b_size_of) (shN := fun _ => [.un, .un, .un, .un, .un]) (shB := fun _ => []) F sc_size_of rfl (q2 (P := fun ds m => SB _ (argE _ ds ++ _) _ m _ _) (fun a220 a221 => (show SB _ [.sh (a220), .sh (a221), .un, .un, .un] _ _ _ _ from (s_expr (el_of (xcall h_check_block (av (ev 0) (av (ev 1) eak_nil)))) (show SB _ [.sh (a220), .sh (a221), .un, .un, .un] _ _ _ _ from (s_set 2 sc_size_of.nd ee_int (fun z226 => (show SB _ [.sh (a220), .sh (a221), .sh (z226), .un, .un] _ _ _ _ from (s_for (Z := D) (sh := fun s231 => [.sh (a220), .sh (a221), .sh (s231), .un, .un]) (ei_zip (by rfl) T.b_zip (xix (el_of (ev 1)) (el_of ee_int)) (xix (el_of (ev 1)) (el_of ee_int))) (tt (tc (ix := [3]) (jx := [4]) nm_pure (unc_pure nm_pure un0_pure) nm_len (tn 3 sc_size_of.nd) (tc (ix := [4]) (jx := []) nm_pure un0_pure nm_len (tn 4 sc_size_of.nd) tgs_nil)) (unc_len (n := 1) (l := 1) nm_len (unc_len (n := 1) (l := 0) nm_len un0_len))) (unT_pure (unc_pure nm_pure (unc_pure nm_pure un0_pure))) (unT_len (unc_len (n := 1) (l := 1) nm_len (unc_len (n := 1) (l := 0) nm_len un0_len))) (.eq (.eq (.eq (.un (.un Le.nil))))) (fun s231 => q2 (P := fun ds m => SB _ (setE _ _ ds) _ m _ _) (fun v232 v233 => (show SB _ [.sh (a220), .sh (a221), .sh (s231), .sh (v232), .sh (v233)] _ _ _ _ from (s_set 2 sc_size_of.nd (ee_mul (el_of (ev 2)) (el_of (ee_add (el_of (ee_sub (el_of (ev 4)) (el_of (ev 3)))) (el_of ee_int)))) (fun z234 => (show SB _ [.sh (a220), .sh (a221), .sh (z234), .sh (v232), .sh (v233)] _ _ _ _ from (sb_nil (.eq (.eq (.eq (.un (.un Le.nil)))))))))))) fun s231 => (show SB _ [.sh (a220), .sh (a221), .sh (s231), .un, .un] _ _ _ _ from (sb_ret (ev 2))))))))))))
abbrev s_BlockAsker_begin : Stmt := inClass (topS 21) 1
theorem sc_BlockAsker_begin : FnScope ["self", "here"] ["self"] (defScope s_BlockAsker_begin) := ⟨rfl, rfl, rfl, by decide +kernel, rfl, by decide +kernel, by decide +kernel⟩
def b_BlockAsker_begin : List D → M (Out Unit Unit) := p1 (fun a245 => (whileL (fun (s246 : Unit) => ((((pure (a245) : M D) >>= fldD 0 "ends") >>= lenD) >>= fun x249 => ((pure (D.int 2) : M D) >>= fun x247 => (((pure (a245) : M D) >>= fldD 0 "start") >>= lenD) >>= fun x248 => mulD x247 x248) >>= fun x250 => ltB x249 x250)) (fun s246 => ((((pure (a245) : M D) >>= fldD 0 "start") >>= fun x254 => ((((pure (a245) : M D) >>= fldD 0 "ends") >>= lenD) >>= fun x252 => (pure (D.int 2) : M D) >>= fun x253 => divD x252 x253) >>= fun x255 => ixD x254 x255) >>= fun z251 => (((((((pure (a245) : M D) >>= fldD 0 "ends") >>= lenD) >>= fun x256 => (pure (D.int 2) : M D) >>= fun x257 => modD x256 x257) >>= fun x258 => (pure (D.int 0) : M D) >>= fun x259 => eqB x258 x259) >>= fun b272 => if b272 = true then (((pure (D.int 0) : M D) >>= fun x263 => ((pure (z251) : M D) >>= fun x260 => (pure [] : M (List D)) >>= fun xs261 => pure (x260 :: xs261)) >>= fun xs264 => pure (x263 :: xs264)) >>= mkT) else (((pure (z251) : M D) >>= fun x269 => ((pure (D.int 99) : M D) >>= fun x266 => (pure [] : M (List D)) >>= fun xs267 => pure (x266 :: xs267)) >>= fun xs270 => pure (x269 :: xs270)) >>= mkT)) >>= fun x286 => (wtup 2 (wcons (fun d276 => (pure (a245) : M D) >>= fun x275 => setF 0 "low" x275 d276) (wcons (fun d274 => (pure (a245) : M D) >>= fun x273 => setF 0 "high" x273 d274) wnil))) x286 >>= fun u287 => ((((pure (a245) : M D) >>= fldD 0 "low") >>= fun x277 => ((pure (a245) : M D) >>= fldD 0 "high") >>= fun x278 => ltB x277 x278) >>= fun b285 => (if b285 = true then ((pure (.rt D.non)) : M (Out (Unit) _)) else (pure (.nx ()))) >>= seqO fun s279 => ((((pure (a245) : M D) >>= fldD 0 "ends") >>= fun x280 => celL x280 >>= fun u281 => (pure (z251) : M D) >>= fun x282 => cellApp x280 x282 >>= fun u283 => (pure D.non : M D)) >>= fun u284 => (pure (.nx ()))))))) 20 () >>= seqO fun s246 => (pure (.nx ()))))
def m_BlockAsker_begin (ds : List D) : M D := runF (b_BlockAsker_begin ds)
theorem o_BlockAsker_begin {p : Pg} (T : Txt p) {f : Addr} {fd : FuncData} (F : Fun p.K "begin" "BlockAsker.begin" s_BlockAsker_begin f fd)  : FnOk p.P p.w p.K p.mg p.base (L2N.CX p.P p.w) 1 f fd ["self"] (spD p [.v] m_BlockAsker_begin) :=
  fnok_of (k := 0) (N := ["self", "here"]) (body := b_BlockAsker_begin) (shN := fun _ => [.un, .un]) (shB := fun _ => []) F sc_BlockAsker_begin rfl (q1 (P := fun ds m => SB _ (argE _ ds ++ _) _ m _ _) (fun a245 => (show SB _ [.sh (a245), .un] _ _ _ _ from (sb_while (Z := Unit) (sh := fun s246 => [.sh (a245), .un]) (fun s246 => (show ET _ [.sh (a245), .un] _ _ from (tcmp c_lt (el_of (ee_len (b_len T.b_len) (el_of (xfld T.k_BlockAsker (.tail _ (.head _)) (ev 0))))) (el_of (ee_mul (el_of ee_int) (el_of (ee_len (b_len T.b_len) (el_of (xfld T.k_BlockAsker (.head _) (ev 0)))))))))) (.eq (.un Le.nil)) (fun s246 => (show SB _ [.sh (a245), .un] _ _ _ _ from (s_set 1 sc_BlockAsker_begin.nd (xix (el_of (xfld T.k_BlockAsker (.head _) (ev 0))) (el_of (ee_div (el_of (ee_len (b_len T.b_len) (el_of (xfld T.k_BlockAsker (.tail _ (.head _)) (ev 0))))) (el_of ee_int)))) (fun z251 => (show SB _ [.sh (a245), .sh (z251)] _ _ _ _ from (s_asgW (ex_if back_RE (tcmp c_eq (el_of (ee_mod (el_of (ee_len (b_len T.b_len) (el_of (xfld T.k_BlockAsker (.tail _ (.head _)) (ev 0))))) (el_of ee_int))) (el_of ee_int)) (ee_tup (ea_cons ee_int (ea_cons (ev 1) ea_nil))) (ee_tup (ea_cons (ev 1) (ea_cons (eg T.c_MAX_PLACE) ea_nil)))) (tw_tup (tws_cons (tw_fld T.k_BlockAsker (.tail _ (.tail _ (.head _))) (ev 0)) (tws_cons (tw_fld T.k_BlockAsker (.tail _ (.tail _ (.tail _ (.head _)))) (ev 0)) tws_nil (by exact fun _ => rfl)) (by exact fun _ => rfl)) (by exact fun _ => rfl) (by exact fun _ => rfl)) (show SB _ [.sh (a245), .sh (z251)] _ _ _ _ from (sb_if (J := Unit) (shJ := fun s279 => [.sh (a245), .sh (z251)]) (tcmp c_lt (el_of (xfld T.k_BlockAsker (.tail _ (.tail _ (.head _))) (ev 0))) (el_of (xfld T.k_BlockAsker (.tail _ (.tail _ (.tail _ (.head _)))) (ev 0)))) sb_retN (sb_nil (.eq (.eq Le.nil))) fun s279 => (show SB _ [.sh (a245), .sh (z251)] _ _ _ _ from (s_expr (el_of (ee_capp (xfld T.k_BlockAsker (.tail _ (.head _)) (ev 0)) (ev 1))) (show SB _ [.sh (a245), .sh (z251)] _ _ _ _ from (sb_nil (.eq (.un Le.nil)))))))))))))) fun s246 => (show SB _ [.sh (a245), .un] _ _ _ _ from (sb_nil (.un (.un Le.nil))))))))
abbrev s_BlockAsker___init__ : Stmt := inClass (topS 21) 0
theorem sc_BlockAsker___init__ : FnScope ["self", "sides", "point"] ["self", "sides", "point"] (defScope s_BlockAsker___init__) := ⟨rfl, rfl, rfl, by decide +kernel, rfl, by decide +kernel, by decide +kernel⟩
def b_BlockAsker___init__ : List D → M (Out Unit Unit) := p3 (fun a288 a289 a290 => ((((pure (a289) : M D) >>= fun x293 => ((pure (a290) : M D) >>= fun x291 => (pure [] : M (List D)) >>= fun xs292 => pure (x291 :: xs292)) >>= fun xs294 => pure (x293 :: xs294)) >>= m_check_point) >>= fun u311 => (((pure (a290) : M D) >>= tupleD) >>= fun x295 => (pure (a288) : M D) >>= fun x296 => setF 0 "start" x296 x295 >>= fun u297 => ((((pure [] : M (List D)) >>= mkL) >>= celD) >>= fun x298 => (pure (a288) : M D) >>= fun x299 => setF 0 "ends" x299 x298 >>= fun u300 => ((pure (D.int 0) : M D) >>= fun x301 => (pure (a288) : M D) >>= fun x302 => setF 0 "low" x302 x301 >>= fun u303 => ((pure (D.int 0) : M D) >>= fun x304 => (pure (a288) : M D) >>= fun x305 => setF 0 "high" x305 x304 >>= fun u306 => ((pure (D.int 0) : M D) >>= fun x307 => (pure (a288) : M D) >>= fun x308 => setF 0 "asks" x308 x307 >>= fun u309 => ((mthM 0 "begin" (pure (a288) : M D) (pure []) m_BlockAsker_begin) >>= fun u310 => (pure (.nx ()))))))))))
def m_BlockAsker___init__ (ds : List D) : M D := runF (b_BlockAsker___init__ ds)
theorem o_BlockAsker___init__ {p : Pg} (T : Txt p) {f : Addr} {fd : FuncData} (F : Fun p.K "__init__" "BlockAsker.__init__" s_BlockAsker___init__ f fd) (h_check_point : Fnc p 1 "check_point" [.v, .v] m_check_point) (h_BlockAsker_begin : Mtd p 0 1 "begin" [.v] m_BlockAsker_begin) : FnOk p.P p.w p.K p.mg p.base (L2N.CX p.P p.w) 2 f fd ["self", "sides", "point"] (spD p [.v, .v, .v] m_BlockAsker___init__) :=
  fnok_of (k := 1) (N := ["self", "sides", "point"]) (body := b_BlockAsker___init__) (shN := fun _ => [.un, .un, .un]) (shB := fun _ => []) F sc_BlockAsker___init__ rfl (q3 (P := fun ds m => SB _ (argE _ ds ++ _) _ m _ _) (fun a288 a289 a290 => (show SB _ [.sh (a288), .sh (a289), .sh (a290)] _ _ _ _ from (s_expr (el_of (xcall h_check_point (av (ev 1) (av (ev 2) eak_nil)))) (show SB _ [.sh (a288), .sh (a289), .sh (a290)] _ _ _ _ from (s_fset T.k_BlockAsker (.head _) (ee_tuplec (b_tuple T.b_tuple) (el_of (ev 2))) (ev 0) (show SB _ [.sh (a288), .sh (a289), .sh (a290)] _ _ _ _ from (s_fset T.k_BlockAsker (.tail _ (.head _)) (ee_cell (en_lst ea_nil)) (ev 0) (show SB _ [.sh (a288), .sh (a289), .sh (a290)] _ _ _ _ from (s_fset T.k_BlockAsker (.tail _ (.tail _ (.head _))) ee_int (ev 0) (show SB _ [.sh (a288), .sh (a289), .sh (a290)] _ _ _ _ from (s_fset T.k_BlockAsker (.tail _ (.tail _ (.tail _ (.head _)))) ee_int (ev 0) (show SB _ [.sh (a288), .sh (a289), .sh (a290)] _ _ _ _ from (s_fset T.k_BlockAsker (.tail _ (.tail _ (.tail _ (.tail _ (.head _))))) ee_int (ev 0) (show SB _ [.sh (a288), .sh (a289), .sh (a290)] _ _ _ _ from (s_expr (el_of (xmeth0 T.k_BlockAsker h_BlockAsker_begin (ev 0))) (show SB _ [.sh (a288), .sh (a289), .sh (a290)] _ _ _ _ from (sb_nil (.un (.un (.un Le.nil)))))))))))))))))))))
abbrev s_BlockAsker_middle : Stmt := inClass (topS 21) 2
theorem sc_BlockAsker_middle : FnScope ["self"] ["self"] (defScope s_BlockAsker_middle) := ⟨rfl, rfl, rfl, by decide +kernel, rfl, by decide +kernel, by decide +kernel⟩
def b_BlockAsker_middle : List D → M (Out Unit Unit) := p1 (fun a312 => ((((((pure (a312) : M D) >>= fldD 0 "ends") >>= lenD) >>= fun x313 => (pure (D.int 2) : M D) >>= fun x314 => modD x313 x314) >>= fun x315 => (pure (D.int 0) : M D) >>= fun x316 => eqB x315 x316) >>= fun b330 => (if b330 = true then ((((((pure (a312) : M D) >>= fldD 0 "low") >>= fun x318 => ((pure (a312) : M D) >>= fldD 0 "high") >>= fun x319 => addD x318 x319) >>= fun x320 => (pure (D.int 2) : M D) >>= fun x321 => divD x320 x321) >>= fun x322 => pure (.rt x322)) : M (Out (Unit) _)) else (pure (.nx ()))) >>= seqO fun s317 => ((((((pure (a312) : M D) >>= fldD 0 "low") >>= fun x323 => ((pure (a312) : M D) >>= fldD 0 "high") >>= fun x324 => addD x323 x324) >>= fun x325 => (pure (D.int 1) : M D) >>= fun x326 => addD x325 x326) >>= fun x327 => (pure (D.int 2) : M D) >>= fun x328 => divD x327 x328) >>= fun x329 => pure (.rt x329))))
def m_BlockAsker_middle (ds : List D) : M D := runF (b_BlockAsker_middle ds)
theorem o_BlockAsker_middle {p : Pg} (T : Txt p) {f : Addr} {fd : FuncData} (F : Fun p.K "middle" "BlockAsker.middle" s_BlockAsker_middle f fd)  : FnOk p.P p.w p.K p.mg p.base (L2N.CX p.P p.w) 1 f fd ["self"] (spD p [.v] m_BlockAsker_middle) :=
  fnok_of (k := 0) (N := ["self"]) (body := b_BlockAsker_middle) (shN := fun _ => [.un]) (shB := fun _ => []) F sc_BlockAsker_middle rfl (q1 (P := fun ds m => SB _ (argE _ ds ++ _) _ m _ _) (fun a312 => (show SB _ [.sh (a312)] _ _ _ _ from (sb_if (J := Unit) (shJ := fun s317 => [.sh (a312)]) (tcmp c_eq (el_of (ee_mod (el_of (ee_len (b_len T.b_len) (el_of (xfld T.k_BlockAsker (.tail _ (.head _)) (ev 0))))) (el_of ee_int))) (el_of ee_int)) (sb_ret (ee_div (el_of (ee_add (el_of (xfld T.k_BlockAsker (.tail _ (.tail _ (.head _))) (ev 0))) (el_of (xfld T.k_BlockAsker (.tail _ (.tail _ (.tail _ (.head _)))) (ev 0))))) (el_of ee_int))) (sb_nil (.eq Le.nil)) fun s317 => (show SB _ [.sh (a312)] _ _ _ _ from (sb_ret (ee_div (el_of (ee_add (el_of (ee_add (el_of (xfld T.k_BlockAsker (.tail _ (.tail _ (.head _))) (ev 0))) (el_of (xfld T.k_BlockAsker (.tail _ (.tail _ (.tail _ (.head _)))) (ev 0))))) (el_of ee_int))) (el_of ee_int))))))))
abbrev s_BlockAsker_step : Stmt := inClass (topS 21) 3
theorem sc_BlockAsker_step : FnScope ["self", "at"] ["self"] (defScope s_BlockAsker_step) := ⟨rfl, rfl, rfl, by decide +kernel, rfl, by decide +kernel, by decide +kernel⟩
def b_BlockAsker_step : List D → M (Out Unit Unit) := p1 (fun a331 => (((((pure (a331) : M D) >>= fldD 0 "ends") >>= lenD) >>= fun x334 => ((pure (D.int 2) : M D) >>= fun x332 => (((pure (a331) : M D) >>= fldD 0 "start") >>= lenD) >>= fun x333 => mulD x332 x333) >>= fun x335 => eqB x334 x335) >>= fun b383 => (if b383 = true then (((((pure (D.str "known") : M D) >>= fun x352 => (((((((pure (a331) : M D) >>= fldD 0 "ends") >>= fun x349 => ((pure (D.int 0) : M D) >>= intM) >>= fun l350 => lstC x349 >>= fun ds351 => (pure (D.lst (stepV ds351 l350 2)) : M D)) >>= tupleD) >>= fun x346 => (((((pure (a331) : M D) >>= fldD 0 "ends") >>= fun x343 => ((pure (D.int 1) : M D) >>= intM) >>= fun l344 => lstC x343 >>= fun ds345 => (pure (D.lst (stepV ds345 l344 2)) : M D)) >>= tupleD) >>= fun x340 => (pure [] : M (List D)) >>= fun xs341 => pure (x340 :: xs341)) >>= fun xs347 => pure (x346 :: xs347)) >>= mkT) >>= fun x337 => (pure [] : M (List D)) >>= fun xs338 => pure (x337 :: xs338)) >>= fun xs353 => pure (x352 :: xs353)) >>= mkT) >>= fun x355 => pure (.rt x355)) : M (Out (Unit) _)) else (pure (.nx ()))) >>= seqO fun s336 => (((((pure (a331) : M D) >>= fldD 0 "ends") >>= lenD) >>= fun x357 => (pure (D.int 2) : M D) >>= fun x358 => divD x357 x358) >>= fun z356 => ((((pure (D.str "ask") : M D) >>= fun x379 => ((((((pure (a331) : M D) >>= fldD 0 "start") >>= fun x376 => (pure none : M (Option Int)) >>= fun l377 => ((pure (z356) : M D) >>= intM) >>= fun h378 => slT l377 h378 x376) >>= fun x373 => items x373 >>= fun xs374 => ((mthM 0 "middle" (pure (a331) : M D) (pure []) m_BlockAsker_middle) >>= fun x370 => ((((pure (a331) : M D) >>= fldD 0 "start") >>= fun x367 => (((pure (z356) : M D) >>= fun x365 => (pure (D.int 1) : M D) >>= fun x366 => addD x365 x366) >>= intM) >>= fun l368 => (pure none : M (Option Int)) >>= fun h369 => slT l368 h369 x367) >>= fun x362 => items x362 >>= fun xs363 => (pure [] : M (List D)) >>= fun ys364 => pure (xs363 ++ ys364)) >>= fun xs371 => pure (x370 :: xs371)) >>= fun ys375 => pure (xs374 ++ ys375)) >>= mkT) >>= fun x359 => (pure [] : M (List D)) >>= fun xs360 => pure (x359 :: xs360)) >>= fun xs380 => pure (x379 :: xs380)) >>= mkT) >>= fun x382 => pure (.rt x382)))))
def m_BlockAsker_step (ds : List D) : M D := runF (b_BlockAsker_step ds)
theorem o_BlockAsker_step {p : Pg} (T : Txt p) {f : Addr} {fd : FuncData} (F : Fun p.K "step" "BlockAsker.step" s_BlockAsker_step f fd) (h_BlockAsker_middle : Mtd p 0 1 "middle" [.v] m_BlockAsker_middle) : FnOk p.P p.w p.K p.mg p.base (L2N.CX p.P p.w) 2 f fd ["self"] (spD p [.v] m_BlockAsker_step) :=
  fnok_of (k := 1) (N := ["self", "at"]) (body := b_BlockAsker_step) (shN := fun _ => [.un, .un]) (shB := fun _ => []) F sc_BlockAsker_step rfl (q1 (P := fun ds m => SB _ (argE _ ds ++ _) _ m _ _) (fun a331 => (show SB _ [.sh (a331), .un] _ _ _ _ from (sb_if (J := Unit) (shJ := fun s336 => [.sh (a331), .un]) (tcmp c_eq (el_of (ee_len (b_len T.b_len) (el_of (xfld T.k_BlockAsker (.tail _ (.head _)) (ev 0))))) (el_of (ee_mul (el_of ee_int) (el_of (ee_len (b_len T.b_len) (el_of (xfld T.k_BlockAsker (.head _) (ev 0)))))))) (sb_ret (ee_tup (ea_cons ee_str (ea_cons (ee_tup (ea_cons (ee_tuplec (b_tuple T.b_tuple) (el_new (en_stepL (el_of (xfld T.k_BlockAsker (.tail _ (.head _)) (ev 0))) (eo_some (el_of ee_int))))) (ea_cons (ee_tuplec (b_tuple T.b_tuple) (el_new (en_stepL (el_of (xfld T.k_BlockAsker (.tail _ (.head _)) (ev 0))) (eo_some (el_of ee_int))))) ea_nil))) ea_nil)))) (sb_nil (.eq (.un Le.nil))) fun s336 => (show SB _ [.sh (a331), .un] _ _ _ _ from (s_set 1 sc_BlockAsker_step.nd (ee_div (el_of (ee_len (b_len T.b_len) (el_of (xfld T.k_BlockAsker (.tail _ (.head _)) (ev 0))))) (el_of ee_int)) (fun z356 => (show SB _ [.sh (a331), .sh (z356)] _ _ _ _ from (sb_ret (ee_tup (ea_cons ee_str (ea_cons (ee_tup (ea_star (el_of (ee_slT (el_of (xfld T.k_BlockAsker (.head _) (ev 0))) eo_none (eo_some (el_of (ev 1))))) (ea_cons (xmeth0 T.k_BlockAsker h_BlockAsker_middle (ev 0)) (ea_star (el_of (ee_slT (el_of (xfld T.k_BlockAsker (.head _) (ev 0))) (eo_some (el_of (ee_add (el_of (ev 1)) (el_of ee_int)))) eo_none)) ea_nil)))) ea_nil))))))))))))
abbrev s_BlockAsker_tell : Stmt := inClass (topS 21) 4
theorem sc_BlockAsker_tell : FnScope ["self", "bit", "middle"] ["self", "bit"] (defScope s_BlockAsker_tell) := ⟨rfl, rfl, rfl, by decide +kernel, rfl, by decide +kernel, by decide +kernel⟩
def b_BlockAsker_tell : List D → M (Out Unit Unit) := p2 (fun a384 a385 => ((((mthM 0 "step" (pure (a384) : M D) (pure []) m_BlockAsker_step) >>= fun x386 => (pure (D.int 0) : M D) >>= fun x387 => ixD x386 x387) >>= fun x388 => (pure (D.str "known") : M D) >>= fun x389 => eqB x388 x389) >>= fun b455 => (if b455 = true then ((raise 103) : M (Out (Unit) _)) else (pure (.nx ()))) >>= seqO fun s390 => ((pure (a384) : M D) >>= fun x391 => fldD 0 "asks" x391 >>= fun u392 => (pure (D.int 1) : M D) >>= fun x393 => addI u392 x393 >>= fun z394 => setF 0 "asks" x391 z394 >>= fun u395 => ((mthM 0 "middle" (pure (a384) : M D) (pure []) m_BlockAsker_middle) >>= fun z396 => ((((((pure (a384) : M D) >>= fldD 0 "ends") >>= lenD) >>= fun x397 => (pure (D.int 2) : M D) >>= fun x398 => modD x397 x398) >>= fun x399 => (pure (D.int 0) : M D) >>= fun x400 => eqB x399 x400) >>= fun b454 => (if b454 = true then (((((pure (a385) : M D) >>= truth) >>= fun b416 => if b416 = true then ((((pure (a384) : M D) >>= fldD 0 "low") >>= fun x405 => ((pure (z396) : M D) >>= fun x402 => (pure [] : M (List D)) >>= fun xs403 => pure (x402 :: xs403)) >>= fun xs406 => pure (x405 :: xs406)) >>= mkT) else ((((pure (z396) : M D) >>= fun x414 => (pure (D.int 1) : M D) >>= fun x415 => addD x414 x415) >>= fun x411 => (((pure (a384) : M D) >>= fldD 0 "high") >>= fun x408 => (pure [] : M (List D)) >>= fun xs409 => pure (x408 :: xs409)) >>= fun xs412 => pure (x411 :: xs412)) >>= mkT)) >>= fun x421 => (wtup 2 (wcons (fun d420 => (pure (a384) : M D) >>= fun x419 => setF 0 "low" x419 d420) (wcons (fun d418 => (pure (a384) : M D) >>= fun x417 => setF 0 "high" x417 d418) wnil))) x421 >>= fun u422 => (pure (.nx ()))) : M (Out (Unit) _)) else ((((pure (a385) : M D) >>= truth) >>= fun b437 => if b437 = true then (((pure (z396) : M D) >>= fun x426 => (((pure (a384) : M D) >>= fldD 0 "high") >>= fun x423 => (pure [] : M (List D)) >>= fun xs424 => pure (x423 :: xs424)) >>= fun xs427 => pure (x426 :: xs427)) >>= mkT) else ((((pure (a384) : M D) >>= fldD 0 "low") >>= fun x434 => (((pure (z396) : M D) >>= fun x432 => (pure (D.int 1) : M D) >>= fun x433 => subD x432 x433) >>= fun x429 => (pure [] : M (List D)) >>= fun xs430 => pure (x429 :: xs430)) >>= fun xs435 => pure (x434 :: xs435)) >>= mkT)) >>= fun x442 => (wtup 2 (wcons (fun d441 => (pure (a384) : M D) >>= fun x440 => setF 0 "low" x440 d441) (wcons (fun d439 => (pure (a384) : M D) >>= fun x438 => setF 0 "high" x438 d439) wnil))) x442 >>= fun u443 => (pure (.nx ())))) >>= seqO fun s401 => ((((pure (a384) : M D) >>= fldD 0 "low") >>= fun x444 => ((pure (a384) : M D) >>= fldD 0 "high") >>= fun x445 => eqB x444 x445) >>= fun b453 => (if b453 = true then (((((pure (a384) : M D) >>= fldD 0 "ends") >>= fun x447 => celL x447 >>= fun u448 => ((pure (a384) : M D) >>= fldD 0 "low") >>= fun x449 => cellApp x447 x449 >>= fun u450 => (pure D.non : M D)) >>= fun u452 => ((mthM 0 "begin" (pure (a384) : M D) (pure []) m_BlockAsker_begin) >>= fun u451 => (pure (.nx ())))) : M (Out (Unit) _)) else (pure (.nx ()))) >>= seqO fun s446 => (pure (.nx ()))))))))
def m_BlockAsker_tell (ds : List D) : M D := runF (b_BlockAsker_tell ds)
theorem o_BlockAsker_tell {p : Pg} (T : Txt p) {f : Addr} {fd : FuncData} (F : Fun p.K "tell" "BlockAsker.tell" s_BlockAsker_tell f fd) (h_BlockAsker_step : Mtd p 0 2 "step" [.v] m_BlockAsker_step) (h_BlockAsker_middle : Mtd p 0 1 "middle" [.v] m_BlockAsker_middle) (h_BlockAsker_begin : Mtd p 0 1 "begin" [.v] m_BlockAsker_begin) : FnOk p.P p.w p.K p.mg p.base (L2N.CX p.P p.w) 3 f fd ["self", "bit"] (spD p [.v, .v] m_BlockAsker_tell) :=
  fnok_of (k := 2) (N := ["self", "bit", "middle"]) (body := b_BlockAsker_tell) (shN := fun _ => [.un, .un, .un]) (shB := fun _ => []) F sc_BlockAsker_tell rfl (q2 (P := fun ds m => SB _ (argE _ ds ++ _) _ m _ _) (fun a384 a385 => (show SB _ [.sh (a384), .sh (a385), .un] _ _ _ _ from (sb_if (J := Unit) (shJ := fun s390 => [.sh (a384), .sh (a385), .un]) (tcmp c_eq (el_of (xix (el_of (xmeth0 T.k_BlockAsker h_BlockAsker_step (ev 0))) (el_of ee_int))) (el_of ee_str)) (s_raise T.x_Wrong) (sb_nil (.eq (.eq (.un Le.nil)))) fun s390 => (show SB _ [.sh (a384), .sh (a385), .un] _ _ _ _ from (s_faug T.k_BlockAsker (.tail _ (.tail _ (.tail _ (.tail _ (.head _))))) (ev 0) ee_int (show SB _ [.sh (a384), .sh (a385), .un] _ _ _ _ from (s_set 2 sc_BlockAsker_tell.nd (xmeth0 T.k_BlockAsker h_BlockAsker_middle (ev 0)) (fun z396 => (show SB _ [.sh (a384), .sh (a385), .sh (z396)] _ _ _ _ from (sb_if (J := Unit) (shJ := fun s401 => [.sh (a384), .sh (a385), .sh (z396)]) (tcmp c_eq (el_of (ee_mod (el_of (ee_len (b_len T.b_len) (el_of (xfld T.k_BlockAsker (.tail _ (.head _)) (ev 0))))) (el_of ee_int))) (el_of ee_int)) (s_asgW (ex_if back_RE (ttr (el_of (ev 1))) (ee_tup (ea_cons (xfld T.k_BlockAsker (.tail _ (.tail _ (.head _))) (ev 0)) (ea_cons (ev 2) ea_nil))) (ee_tup (ea_cons (ee_add (el_of (ev 2)) (el_of ee_int)) (ea_cons (xfld T.k_BlockAsker (.tail _ (.tail _ (.tail _ (.head _)))) (ev 0)) ea_nil)))) (tw_tup (tws_cons (tw_fld T.k_BlockAsker (.tail _ (.tail _ (.head _))) (ev 0)) (tws_cons (tw_fld T.k_BlockAsker (.tail _ (.tail _ (.tail _ (.head _)))) (ev 0)) tws_nil (by exact fun _ => rfl)) (by exact fun _ => rfl)) (by exact fun _ => rfl) (by exact fun _ => rfl)) (show SB _ [.sh (a384), .sh (a385), .sh (z396)] _ _ _ _ from (sb_nil (.eq (.eq (.eq Le.nil)))))) (s_asgW (ex_if back_RE (ttr (el_of (ev 1))) (ee_tup (ea_cons (ev 2) (ea_cons (xfld T.k_BlockAsker (.tail _ (.tail _ (.tail _ (.head _)))) (ev 0)) ea_nil))) (ee_tup (ea_cons (xfld T.k_BlockAsker (.tail _ (.tail _ (.head _))) (ev 0)) (ea_cons (ee_sub (el_of (ev 2)) (el_of ee_int)) ea_nil)))) (tw_tup (tws_cons (tw_fld T.k_BlockAsker (.tail _ (.tail _ (.head _))) (ev 0)) (tws_cons (tw_fld T.k_BlockAsker (.tail _ (.tail _ (.tail _ (.head _)))) (ev 0)) tws_nil (by exact fun _ => rfl)) (by exact fun _ => rfl)) (by exact fun _ => rfl) (by exact fun _ => rfl)) (show SB _ [.sh (a384), .sh (a385), .sh (z396)] _ _ _ _ from (sb_nil (.eq (.eq (.eq Le.nil)))))) fun s401 => (show SB _ [.sh (a384), .sh (a385), .sh (z396)] _ _ _ _ from (sb_if (J := Unit) (shJ := fun s446 => [.sh (a384), .sh (a385), .sh (z396)]) (tcmp c_eq (el_of (xfld T.k_BlockAsker (.tail _ (.tail _ (.head _))) (ev 0))) (el_of (xfld T.k_BlockAsker (.tail _ (.tail _ (.tail _ (.head _)))) (ev 0)))) (s_expr (el_of (ee_capp (xfld T.k_BlockAsker (.tail _ (.head _)) (ev 0)) (xfld T.k_BlockAsker (.tail _ (.tail _ (.head _))) (ev 0)))) (show SB _ [.sh (a384), .sh (a385), .sh (z396)] _ _ _ _ from (s_expr (el_of (xmeth0 T.k_BlockAsker h_BlockAsker_begin (ev 0))) (show SB _ [.sh (a384), .sh (a385), .sh (z396)] _ _ _ _ from (sb_nil (.eq (.eq (.eq Le.nil)))))))) (sb_nil (.eq (.eq (.eq Le.nil)))) fun s446 => (show SB _ [.sh (a384), .sh (a385), .sh (z396)] _ _ _ _ from (sb_nil (.un (.un (.un Le.nil))))))))))))))))))
abbrev s_BlockAsker_asked : Stmt := inClass (topS 21) 5
theorem sc_BlockAsker_asked : FnScope ["self"] ["self"] (defScope s_BlockAsker_asked) := ⟨rfl, rfl, rfl, by decide +kernel, rfl, by decide +kernel, by decide +kernel⟩
def b_BlockAsker_asked : List D → M (Out Unit Unit) := p1 (fun a456 => (((pure (a456) : M D) >>= fldD 0 "asks") >>= fun x457 => pure (.rt x457)))
def m_BlockAsker_asked (ds : List D) : M D := runF (b_BlockAsker_asked ds)
theorem o_BlockAsker_asked {p : Pg} (T : Txt p) {f : Addr} {fd : FuncData} (F : Fun p.K "asked" "BlockAsker.asked" s_BlockAsker_asked f fd)  : FnOk p.P p.w p.K p.mg p.base (L2N.CX p.P p.w) 1 f fd ["self"] (spD p [.v] m_BlockAsker_asked) :=
  fnok_of (k := 0) (N := ["self"]) (body := b_BlockAsker_asked) (shN := fun _ => [.un]) (shB := fun _ => []) F sc_BlockAsker_asked rfl (q1 (P := fun ds m => SB _ (argE _ ds ++ _) _ m _ _) (fun a456 => (show SB _ [.sh (a456)] _ _ _ _ from (sb_ret (xfld T.k_BlockAsker (.tail _ (.tail _ (.tail _ (.tail _ (.head _))))) (ev 0))))))
abbrev s__law_stream : Stmt := topS 23
theorem sc__law_stream : FnScope ["script", "numbers", "cell", "rest", "k", "mixed"] ["script"] (defScope s__law_stream) := ⟨rfl, rfl, rfl, by decide +kernel, rfl, by decide +kernel, by decide +kernel⟩
def b__law_stream : List D → M (Out Unit Unit) := p1 (fun a458 => (((pure [] : M (List D)) >>= mkL) >>= fun z459 => ((((pure (a458) : M D) >>= fun x460 => (pure none : M (Option Int)) >>= fun l461 => ((pure (D.int 63) : M D) >>= intM) >>= fun h462 => slL l461 h462 x460) >>= items) >>= fun xs525 => forL (fun (s463 : D) x526 => nm x526 >>= p1 (fun v464 => ((((pure (v464) : M D) >>= intD) >>= absD) >>= fun z465 => (((pure (z465) : M D) >>= fun x468 => ((pure (D.int 10) : M D) >>= fun x466 => (pure (D.int 18) : M D) >>= fun x467 => powD x466 x467) >>= fun x469 => geB x468 x469) >>= fun b516 => (if b516 = true then ((((pure (D.int 60) : M D) >>= range1) >>= fun xs485 => forL (fun (s471 : D × D) x486 => nm x486 >>= p1 (fun v472 => (lstD s471.1 >>= fun ds477 => (((pure (s471.2) : M D) >>= intD) >>= fun x473 => (pure (D.int 1009) : M D) >>= fun x474 => modD x473 x474) >>= fun x476 => appL ds477 x476 >>= fun z475 => (((pure (s471.2) : M D) >>= fun x479 => (pure (D.int 1009) : M D) >>= fun x480 => divD x479 x480) >>= fun z478 => (((pure (z478) : M D) >>= fun x481 => (pure (D.int 0) : M D) >>= fun x482 => eqB x481 x482) >>= fun b484 => (if b484 = true then ((pure (.bk (z475, z478))) : M (Out (Unit) _)) else (pure (.nx ()))) >>= seqO fun s483 => (pure (.nx (z475, z478)))))))) (s463, z465) xs485 >>= seqO fun s471 => (pure (.nx (s471.1)))) : M (Out (D) _)) else ((((pure (z465) : M D) >>= intD) >>= fun x488 => (pure (D.int 2147483647) : M D) >>= fun x489 => modD x488 x489) >>= fun z487 => (((pure (D.int 10) : M D) >>= range1) >>= fun xs514 => forL (fun (s490 : D × D) x515 => nm x515 >>= p1 (fun v491 => (((((((pure (s490.2) : M D) >>= fun x493 => (pure (D.int 48271) : M D) >>= fun x494 => mulD x493 x494) >>= fun x497 => ((pure (D.int 7) : M D) >>= fun x495 => (pure (v491) : M D) >>= fun x496 => mulD x495 x496) >>= fun x498 => addD x497 x498) >>= fun x499 => (pure (D.int 11) : M D) >>= fun x500 => addD x499 x500) >>= intD) >>= fun x501 => (pure (D.int 2147483647) : M D) >>= fun x502 => modD x501 x502) >>= fun z492 => (lstD s490.1 >>= fun ds513 => ((((((pure (z492) : M D) >>= fun x503 => (pure (D.int 69621) : M D) >>= fun x504 => mulD x503 x504) >>= fun x505 => (pure (v491) : M D) >>= fun x506 => addD x505 x506) >>= intD) >>= fun x507 => (pure (D.int 2147483629) : M D) >>= fun x508 => modD x507 x508) >>= fun x509 => (pure (D.int 1009) : M D) >>= fun x510 => modD x509 x510) >>= fun x512 => appL ds513 x512 >>= fun z511 => (pure (.nx (z511, z492))))))) (s463, z487) xs514 >>= seqO fun s490 => (pure (.nx (s490.1)))))) >>= seqO fun s470 => (pure (.nx (s470))))))) (z459) xs525 >>= seqO fun s463 => ((((pure (s463) : M D) >>= lenD) >>= fun x517 => (pure (D.int 0) : M D) >>= fun x518 => eqB x517 x518) >>= fun b524 => (if b524 = true then ((lstD s463 >>= fun ds522 => (pure (D.int 0) : M D) >>= fun x521 => appL ds522 x521 >>= fun z520 => (pure (.nx (z520)))) : M (Out (D) _)) else (pure (.nx (s463)))) >>= seqO fun s519 => ((pure (s519) : M D) >>= fun x523 => pure (.rt x523))))))
def m__law_stream (ds : List D) : M D := runF (b__law_stream ds)
theorem o__law_stream {p : Pg} (T : Txt p) {f : Addr} {fd : FuncData} (F : Fun p.K "_law_stream" "_law_stream" s__law_stream f fd)  : FnOk p.P p.w p.K p.mg p.base (L2N.CX p.P p.w) 1 f fd ["script"] (spD p [.v] m__law_stream) :=
  fnok_of (k := 0) (N := ["script", "numbers", "cell", "rest", "k", "mixed"]) (body := b__law_stream) (shN := fun _ => [.un, .un, .un, .un, .un, .un]) (shB := fun _ => []) F sc__law_stream rfl (q1 (P := fun ds m => SB _ (argE _ ds ++ _) _ m _ _) (fun a458 => (show SB _ [.sh (a458), .un, .un, .un, .un, .un] _ _ _ _ from (s_setN 1 sc__law_stream.nd (en_lst ea_nil) (fun z459 => (show SB _ [.sh (a458), .ow (z459), .un, .un, .un, .un] _ _ _ _ from (s_for (Z := D) (sh := fun s463 => [.sh (a458), .ow (s463), .un, .un, .un, .un]) (ei_seq (ee_new (en_slL (el_of (ev 0)) eo_none (eo_some (el_of ee_int))))) (tn 2 sc__law_stream.nd) nm_pure nm_len (.eq (.eq (.un (.un (.un (.un Le.nil)))))) (fun s463 => q1 (P := fun ds m => SB _ (setE _ _ ds) _ m _ _) (fun v464 => (show SB _ [.sh (a458), .ow (s463), .sh (v464), .un, .un, .un] _ _ _ _ from (s_set 3 sc__law_stream.nd (ee_abs (b_abs T.b_abs) (el_of (ee_intc (b_int T.b_int) (el_of (ev 2))))) (fun z465 => (show SB _ [.sh (a458), .ow (s463), .sh (v464), .sh (z465), .un, .un] _ _ _ _ from (sb_if (J := D) (shJ := fun s470 => [.sh (a458), .ow (s470), .sh (v464), .un, .un, .un]) (tcmp c_ge (el_of (ev 3)) (el_of (ee_pow (el_of ee_int) (el_of ee_int)))) (s_for (Z := D × D) (sh := fun s471 => [.sh (a458), .ow (s471.1), .sh (v464), .sh (s471.2), .un, .un]) (ei_range1 (by rfl) T.b_range (el_of ee_int)) (tn 4 sc__law_stream.nd) nm_pure nm_len (.eq (.eq (.eq (.eq (.un (.un Le.nil)))))) (fun s471 => q1 (P := fun ds m => SB _ (setE _ _ ds) _ m _ _) (fun v472 => (show SB _ [.sh (a458), .ow (s471.1), .sh (v464), .sh (s471.2), .sh (v472), .un] _ _ _ _ from (s_append 1 (ee_mod (el_of (ee_intc (b_int T.b_int) (el_of (ev 3)))) (el_of ee_int)) fun z475 => (show SB _ [.sh (a458), .ow (z475), .sh (v464), .sh (s471.2), .sh (v472), .un] _ _ _ _ from (s_set 3 sc__law_stream.nd (ee_div (el_of (ev 3)) (el_of ee_int)) (fun z478 => (show SB _ [.sh (a458), .ow (z475), .sh (v464), .sh (z478), .sh (v472), .un] _ _ _ _ from (sb_if (J := Unit) (shJ := fun s483 => [.sh (a458), .ow (z475), .sh (v464), .sh (z478), .sh (v472), .un]) (tcmp c_eq (el_of (ev 3)) (el_of ee_int)) (sb_break (.eq (.eq (.eq (.eq (.un (.un Le.nil))))))) (sb_nil (.eq (.eq (.eq (.eq (.eq (.un Le.nil))))))) fun s483 => (show SB _ [.sh (a458), .ow (z475), .sh (v464), .sh (z478), .sh (v472), .un] _ _ _ _ from (sb_nil (.eq (.eq (.eq (.eq (.un (.un Le.nil))))))))))))))))) fun s471 => (show SB _ [.sh (a458), .ow (s471.1), .sh (v464), .sh (s471.2), .un, .un] _ _ _ _ from (sb_nil (.eq (.eq (.eq (.un (.un (.un Le.nil))))))))) (s_set 5 sc__law_stream.nd (ee_mod (el_of (ee_intc (b_int T.b_int) (el_of (ev 3)))) (el_of ee_int)) (fun z487 => (show SB _ [.sh (a458), .ow (s463), .sh (v464), .sh (z465), .un, .sh (z487)] _ _ _ _ from (s_for (Z := D × D) (sh := fun s490 => [.sh (a458), .ow (s490.1), .sh (v464), .sh (z465), .un, .sh (s490.2)]) (ei_range1 (by rfl) T.b_range (el_of ee_int)) (tn 4 sc__law_stream.nd) nm_pure nm_len (.eq (.eq (.eq (.eq (.un (.eq Le.nil)))))) (fun s490 => q1 (P := fun ds m => SB _ (setE _ _ ds) _ m _ _) (fun v491 => (show SB _ [.sh (a458), .ow (s490.1), .sh (v464), .sh (z465), .sh (v491), .sh (s490.2)] _ _ _ _ from (s_set 5 sc__law_stream.nd (ee_mod (el_of (ee_intc (b_int T.b_int) (el_of (ee_add (el_of (ee_add (el_of (ee_mul (el_of (ev 5)) (el_of ee_int))) (el_of (ee_mul (el_of ee_int) (el_of (ev 4)))))) (el_of ee_int))))) (el_of ee_int)) (fun z492 => (show SB _ [.sh (a458), .ow (s490.1), .sh (v464), .sh (z465), .sh (v491), .sh (z492)] _ _ _ _ from (s_append 1 (ee_mod (el_of (ee_mod (el_of (ee_intc (b_int T.b_int) (el_of (ee_add (el_of (ee_mul (el_of (ev 5)) (el_of ee_int))) (el_of (ev 4)))))) (el_of ee_int))) (el_of ee_int)) fun z511 => (show SB _ [.sh (a458), .ow (z511), .sh (v464), .sh (z465), .sh (v491), .sh (z492)] _ _ _ _ from (sb_nil (.eq (.eq (.eq (.eq (.un (.eq Le.nil))))))))))))))) fun s490 => (show SB _ [.sh (a458), .ow (s490.1), .sh (v464), .sh (z465), .un, .sh (s490.2)] _ _ _ _ from (sb_nil (.eq (.eq (.eq (.un (.un (.un Le.nil)))))))))))) fun s470 => (show SB _ [.sh (a458), .ow (s470), .sh (v464), .un, .un, .un] _ _ _ _ from (sb_nil (.eq (.eq (.un (.un (.un (.un Le.nil))))))))))))))) fun s463 => (show SB _ [.sh (a458), .ow (s463), .un, .un, .un, .un] _ _ _ _ from (sb_if (J := D) (shJ := fun s519 => [.sh (a458), .ow (s519), .un, .un, .un, .un]) (tcmp c_eq (el_of (ee_len (b_len T.b_len) (evo 1))) (el_of ee_int)) (s_append 1 ee_int fun z520 => (show SB _ [.sh (a458), .ow (z520), .un, .un, .un, .un] _ _ _ _ from (sb_nil (.eq (.eq (.un (.un (.un (.un Le.nil))))))))) (sb_nil (.eq (.eq (.un (.un (.un (.un Le.nil))))))) fun s519 => (show SB _ [.sh (a458), .ow (s519), .un, .un, .un, .un] _ _ _ _ from (sb_freeze 1 (by rfl) (show SB _ [.sh (a458), .sh (s519), .un, .un, .un, .un] _ _ _ _ from (sb_ret (ev 1))))))))))))))
abbrev s__law_next : Stmt := topS 24
theorem sc__law_next : FnScope ["state", "many", "turn"] ["state", "many"] (defScope s__law_next) := ⟨rfl, rfl, rfl, by decide +kernel, rfl, by decide +kernel, by decide +kernel⟩
def b__law_next : List D → M (Out Unit Unit) := p2 (fun a527 a528 => ((((pure (a527) : M D) >>= fun x529 => (pure (D.int 1) : M D) >>= fun x530 => ixD x529 x530) >>= fun x531 => (pure (D.int 1) : M D) >>= fun x532 => addD x531 x532) >>= fun x533 => (pure (a527) : M D) >>= fun x534 => (pure (D.int 1) : M D) >>= fun x535 => cellSet x534 x535 x533 >>= fun u536 => ((((pure (a527) : M D) >>= fun x538 => (pure (D.int 1) : M D) >>= fun x539 => ixD x538 x539) >>= fun x542 => (((pure (a527) : M D) >>= fun x540 => (pure (D.int 0) : M D) >>= fun x541 => ixD x540 x541) >>= lenD) >>= fun x543 => divD x542 x543) >>= fun z537 => ((((((((pure (a527) : M D) >>= fun x544 => (pure (D.int 0) : M D) >>= fun x545 => ixD x544 x545) >>= fun x552 => (((pure (a527) : M D) >>= fun x546 => (pure (D.int 1) : M D) >>= fun x547 => ixD x546 x547) >>= fun x550 => (((pure (a527) : M D) >>= fun x548 => (pure (D.int 0) : M D) >>= fun x549 => ixD x548 x549) >>= lenD) >>= fun x551 => modD x550 x551) >>= fun x553 => ixD x552 x553) >>= fun x556 => ((pure (z537) : M D) >>= fun x554 => (pure (D.int 389) : M D) >>= fun x555 => mulD x554 x555) >>= fun x557 => addD x556 x557) >>= fun x564 => ((((pure (a527) : M D) >>= fun x558 => (pure (D.int 1) : M D) >>= fun x559 => ixD x558 x559) >>= fun x560 => (pure (z537) : M D) >>= fun x561 => mulD x560 x561) >>= fun x562 => (pure (D.int 17) : M D) >>= fun x563 => mulD x562 x563) >>= fun x565 => addD x564 x565) >>= intD) >>= fun x566 => (pure (a528) : M D) >>= fun x567 => modD x566 x567) >>= fun x568 => pure (.rt x568)))))
def m__law_next (ds : List D) : M D := runF (b__law_next ds)
theorem o__law_next {p : Pg} (T : Txt p) {f : Addr} {fd : FuncData} (F : Fun p.K "_law_next" "_law_next" s__law_next f fd)  : FnOk p.P p.w p.K p.mg p.base (L2N.CX p.P p.w) 1 f fd ["state", "many"] (spD p [.v, .v] m__law_next) :=
  fnok_of (k := 0) (N := ["state", "many", "turn"]) (body := b__law_next) (shN := fun _ => [.un, .un, .un]) (shB := fun _ => []) F sc__law_next rfl (q2 (P := fun ds m => SB _ (argE _ ds ++ _) _ m _ _) (fun a527 a528 => (show SB _ [.sh (a527), .sh (a528), .un] _ _ _ _ from (s_cset (ee_add (el_of (xix (el_of (ev 0)) (el_of ee_int))) (el_of ee_int)) (ev 0) ee_int (show SB _ [.sh (a527), .sh (a528), .un] _ _ _ _ from (s_set 2 sc__law_next.nd (ee_div (el_of (xix (el_of (ev 0)) (el_of ee_int))) (el_of (ee_len (b_len T.b_len) (el_of (xix (el_of (ev 0)) (el_of ee_int)))))) (fun z537 => (show SB _ [.sh (a527), .sh (a528), .sh (z537)] _ _ _ _ from (sb_ret (ee_mod (el_of (ee_intc (b_int T.b_int) (el_of (ee_add (el_of (ee_add (el_of (xix (el_of (xix (el_of (ev 0)) (el_of ee_int))) (el_of (ee_mod (el_of (xix (el_of (ev 0)) (el_of ee_int))) (el_of (ee_len (b_len T.b_len) (el_of (xix (el_of (ev 0)) (el_of ee_int))))))))) (el_of (ee_mul (el_of (ev 2)) (el_of ee_int))))) (el_of (ee_mul (el_of (ee_mul (el_of (xix (el_of (ev 0)) (el_of ee_int))) (el_of (ev 2)))) (el_of ee_int))))))) (el_of (ev 1))))))))))))
abbrev s__law_error : Stmt := topS 25
theorem sc__law_error : FnScope ["e", "names", "one"] ["e"] (defScope s__law_error) := ⟨rfl, rfl, rfl, by decide +kernel, rfl, by decide +kernel, by decide +kernel⟩
theorem o__law_error {p : Pg} {f : Addr} {fd : FuncData} (F : Fun p.K "_law_error" "_law_error" s__law_error f fd) (hm : p.mg "_law_error" = some (.ref f)) (hb : Binds p.K fd ["e"] []) (hX : ErrFacts p.K p.mg p.cA [101, 102, 103]) : ErrFn p [101, 102, 103] :=
  err_fn F ⟨sc__law_error, rfl, rfl, by decide +kernel⟩ hm hb fun X a oe c hK hmg hsc hot hu hz hcs hf hp hN hfn => by
    have gl : ∀ x ∈ (["isinstance", "NotAllowed", "Missing", "Wrong", "BadForm", "Alike", "sum"] : List Str), X.env.scope.names.lookup x = some .globalImplicit := by rw [hsc]; decide +kernel
    exact err_block (cA := p.cA) (by rw [hK, hmg]; exact hX) hot hu hz hcs hf hp hN hfn (by rw [hsc]; rfl) (by rw [hsc]; rfl) (gl _ (by decide)) (gl _ (by decide)) (gl _ (by decide)) (gl _ (by decide)) (gl _ (by decide)) (gl _ (by decide)) (gl _ (by decide)) (by rw [hN, hsc]; exact blkOk_by (by kernel_rfl)) (by rw [hsc]; rfl) (by rw [hsc]; rfl) rfl
abbrev s__law_point : Stmt := topS 26
theorem sc__law_point : FnScope ["state", "sides", "most", "k"] ["state", "sides", "most"] (defScope s__law_point) := ⟨rfl, rfl, rfl, by decide +kernel, rfl, by decide +kernel, by decide +kernel⟩
def b__law_point : List D → M (Out Unit Unit) := p3 (fun a569 a570 a571 => (((lcM ((pure (a570) : M D) >>= range1) nm (p1 (fun v572 => (pure true : M Bool))) (p1 (fun v572 => (((pure (a569) : M D) >>= fun x575 => ((pure (a571) : M D) >>= fun x573 => (pure [] : M (List D)) >>= fun xs574 => pure (x573 :: xs574)) >>= fun xs576 => pure (x575 :: xs576)) >>= m__law_next)))) >>= tupleD) >>= fun x577 => pure (.rt x577)))
def m__law_point (ds : List D) : M D := runF (b__law_point ds)
theorem o__law_point {p : Pg} (T : Txt p) {f : Addr} {fd : FuncData} (F : Fun p.K "_law_point" "_law_point" s__law_point f fd) (h__law_next : Fnc p 1 "_law_next" [.v, .v] m__law_next) : FnOk p.P p.w p.K p.mg p.base (L2N.CX p.P p.w) 2 f fd ["state", "sides", "most"] (spD p [.v, .v, .v] m__law_point) :=
  fnok_of (k := 1) (N := ["state", "sides", "most", "k"]) (body := b__law_point) (shN := fun _ => [.un, .un, .un, .un]) (shB := fun _ => []) F sc__law_point rfl (q3 (P := fun ds m => SB _ (argE _ ds ++ _) _ m _ _) (fun a569 a570 a571 => (show SB _ [.sh (a569), .sh (a570), .sh (a571), .un] _ _ _ _ from (sb_ret (ee_tuplec (b_tuple T.b_tuple) (el_new (en_comp (c_lc sc__law_point.nd [("k", 3)] (ei_range1 (by rfl) T.b_range (el_of (ev 1))) (tn 3 sc__law_point.nd) nm_pure nm_len (q1 (P := fun ds m => ETs (Sta.blk _ _) (setE (wipeE _ _) _ ds) _ m) (fun v572 => (show ETs _ [.sh (a569), .sh (a570), .sh (a571), .sh (v572)] _ _ from ets_nil))) (q1 (P := fun ds m => EE (Sta.blk _ _) (setE (wipeE _ _) _ ds) _ m) (fun v572 => (show EE _ [.sh (a569), .sh (a570), .sh (a571), .sh (v572)] _ _ from (xcall h__law_next (av (ev 0) (av (ev 2) eak_nil))))))))))))))
abbrev s__law_has : Stmt := topS 27
theorem sc__law_has : FnScope ["block", "point", "k"] ["block", "point"] (defScope s__law_has) := ⟨rfl, rfl, rfl, by decide +kernel, rfl, by decide +kernel, by decide +kernel⟩
def b__law_has : List D → M (Out Unit Unit) := p2 (fun a578 a579 => (((lcM (((pure (a579) : M D) >>= lenD) >>= range1) nm (p1 (fun v580 => (pure true : M Bool))) (p1 (fun v580 => ((chainM (((pure (a578) : M D) >>= fun x581 => (pure (D.int 0) : M D) >>= fun x582 => ixD x581 x582) >>= fun x583 => (pure (v580) : M D) >>= fun x584 => ixD x583 x584) ((pure (a579) : M D) >>= fun x585 => (pure (v580) : M D) >>= fun x586 => ixD x585 x586) leB (((pure (a578) : M D) >>= fun x587 => (pure (D.int 1) : M D) >>= fun x588 => ixD x587 x588) >>= fun x589 => (pure (v580) : M D) >>= fun x590 => ixD x589 x590) leB) >>= fun b591 => (pure (D.bl b591) : M D))))) >>= allD) >>= fun x602 => pure (.rt x602)))
def m__law_has (ds : List D) : M D := runF (b__law_has ds)
theorem o__law_has {p : Pg} (T : Txt p) {f : Addr} {fd : FuncData} (F : Fun p.K "_law_has" "_law_has" s__law_has f fd)  : FnOk p.P p.w p.K p.mg p.base (L2N.CX p.P p.w) 1 f fd ["block", "point"] (spD p [.v, .v] m__law_has) :=
  fnok_of (k := 0) (N := ["block", "point", "k"]) (body := b__law_has) (shN := fun _ => [.un, .un, .un]) (shB := fun _ => []) F sc__law_has rfl (q2 (P := fun ds m => SB _ (argE _ ds ++ _) _ m _ _) (fun a578 a579 => (show SB _ [.sh (a578), .sh (a579), .un] _ _ _ _ from (sb_ret (ee_all (b_all T.b_all) (el_new (en_comp (c_lc sc__law_has.nd [("k", 2)] (ei_range1 (by rfl) T.b_range (el_of (ee_len (b_len T.b_len) (el_of (ev 1))))) (tn 2 sc__law_has.nd) nm_pure nm_len (q1 (P := fun ds m => ETs (Sta.blk _ _) (setE (wipeE _ _) _ ds) _ m) (fun v580 => (show ETs _ [.sh (a578), .sh (a579), .sh (v580)] _ _ from ets_nil))) (q1 (P := fun ds m => EE (Sta.blk _ _) (setE (wipeE _ _) _ ds) _ m) (fun v580 => (show EE _ [.sh (a578), .sh (a579), .sh (v580)] _ _ from (ee_chain c_le c_le (el_of (xix (el_of (xix (el_of (ev 0)) (el_of ee_int))) (el_of (ev 2)))) (el_of (xix (el_of (ev 1)) (el_of (ev 2)))) (el_of (xix (el_of (xix (el_of (ev 0)) (el_of ee_int))) (el_of (ev 2))))))))))))))))
abbrev s__law_around : Stmt := topS 28
theorem sc__law_around : FnScope ["points", "sides", "k", "point"] ["points"] (defScope s__law_around) := ⟨rfl, rfl, rfl, by decide +kernel, rfl, by decide +kernel, by decide +kernel⟩
def b__law_around : List D → M (Out Unit Unit) := p1 (fun a603 => ((((pure (a603) : M D) >>= fun x605 => (pure (D.int 0) : M D) >>= fun x606 => ixD x605 x606) >>= lenD) >>= fun z604 => (((((lcM ((pure (z604) : M D) >>= range1) nm (p1 (fun v617 => (pure true : M Bool))) (p1 (fun v617 => ((lcM ((pure (a603) : M D) >>= items) nm (p1 (fun v618 => (pure true : M Bool))) (p1 (fun v618 => ((pure (v618) : M D) >>= fun x619 => (pure (v617) : M D) >>= fun x620 => ixD x619 x620)))) >>= minD)))) >>= tupleD) >>= fun x614 => (((lcM ((pure (z604) : M D) >>= range1) nm (p1 (fun v610 => (pure true : M Bool))) (p1 (fun v610 => ((lcM ((pure (a603) : M D) >>= items) nm (p1 (fun v611 => (pure true : M Bool))) (p1 (fun v611 => ((pure (v611) : M D) >>= fun x612 => (pure (v610) : M D) >>= fun x613 => ixD x612 x613)))) >>= maxD)))) >>= tupleD) >>= fun x607 => (pure [] : M (List D)) >>= fun xs608 => pure (x607 :: xs608)) >>= fun xs615 => pure (x614 :: xs615)) >>= mkT) >>= fun x621 => pure (.rt x621))))
def m__law_around (ds : List D) : M D := runF (b__law_around ds)
theorem o__law_around {p : Pg} (T : Txt p) {f : Addr} {fd : FuncData} (F : Fun p.K "_law_around" "_law_around" s__law_around f fd)  : FnOk p.P p.w p.K p.mg p.base (L2N.CX p.P p.w) 1 f fd ["points"] (spD p [.v] m__law_around) :=
  fnok_of (k := 0) (N := ["points", "sides", "k", "point"]) (body := b__law_around) (shN := fun _ => [.un, .un, .un, .un]) (shB := fun _ => []) F sc__law_around rfl (q1 (P := fun ds m => SB _ (argE _ ds ++ _) _ m _ _) (fun a603 => (show SB _ [.sh (a603), .un, .un, .un] _ _ _ _ from (s_set 1 sc__law_around.nd (ee_len (b_len T.b_len) (el_of (xix (el_of (ev 0)) (el_of ee_int)))) (fun z604 => (show SB _ [.sh (a603), .sh (z604), .un, .un] _ _ _ _ from (sb_ret (ee_tup (ea_cons (ee_tuplec (b_tuple T.b_tuple) (el_new (en_comp (c_lc sc__law_around.nd [("k", 2)] (ei_range1 (by rfl) T.b_range (el_of (ev 1))) (tn 2 sc__law_around.nd) nm_pure nm_len (q1 (P := fun ds m => ETs (Sta.blk _ _) (setE (wipeE _ _) _ ds) _ m) (fun v617 => (show ETs _ [.sh (a603), .sh (z604), .sh (v617), .un] _ _ from ets_nil))) (q1 (P := fun ds m => EE (Sta.blk _ _) (setE (wipeE _ _) _ ds) _ m) (fun v617 => (show EE _ [.sh (a603), .sh (z604), .sh (v617), .un] _ _ from (ee_min (b_min T.b_min) (el_new (en_comp (c_lc sc__law_around.nd [("point", 3)] (ei_read (el_of (ev 0))) (tn 3 sc__law_around.nd) nm_pure nm_len (q1 (P := fun ds m => ETs (Sta.blk _ _) (setE (wipeE _ _) _ ds) _ m) (fun v618 => (show ETs _ [.sh (a603), .sh (z604), .sh (v617), .sh (v618)] _ _ from ets_nil))) (q1 (P := fun ds m => EE (Sta.blk _ _) (setE (wipeE _ _) _ ds) _ m) (fun v618 => (show EE _ [.sh (a603), .sh (z604), .sh (v617), .sh (v618)] _ _ from (xix (el_of (ev 3)) (el_of (ev 2))))))))))))))))) (ea_cons (ee_tuplec (b_tuple T.b_tuple) (el_new (en_comp (c_lc sc__law_around.nd [("k", 2)] (ei_range1 (by rfl) T.b_range (el_of (ev 1))) (tn 2 sc__law_around.nd) nm_pure nm_len (q1 (P := fun ds m => ETs (Sta.blk _ _) (setE (wipeE _ _) _ ds) _ m) (fun v610 => (show ETs _ [.sh (a603), .sh (z604), .sh (v610), .un] _ _ from ets_nil))) (q1 (P := fun ds m => EE (Sta.blk _ _) (setE (wipeE _ _) _ ds) _ m) (fun v610 => (show EE _ [.sh (a603), .sh (z604), .sh (v610), .un] _ _ from (ee_max (b_max T.b_max) (el_new (en_comp (c_lc sc__law_around.nd [("point", 3)] (ei_read (el_of (ev 0))) (tn 3 sc__law_around.nd) nm_pure nm_len (q1 (P := fun ds m => ETs (Sta.blk _ _) (setE (wipeE _ _) _ ds) _ m) (fun v611 => (show ETs _ [.sh (a603), .sh (z604), .sh (v610), .sh (v611)] _ _ from ets_nil))) (q1 (P := fun ds m => EE (Sta.blk _ _) (setE (wipeE _ _) _ ds) _ m) (fun v611 => (show EE _ [.sh (a603), .sh (z604), .sh (v610), .sh (v611)] _ _ from (xix (el_of (ev 3)) (el_of (ev 2))))))))))))))))) ea_nil))))))))))
abbrev s__law_fitting : Stmt := topS 29
theorem sc__law_fitting : FnScope ["sides", "answers", "e"] ["sides", "answers"] (defScope s__law_fitting) := ⟨rfl, rfl, rfl, by decide +kernel, rfl, by decide +kernel, by decide +kernel⟩
def b__law_fitting : List D → M (Out Unit Unit) := p2 (fun a622 a623 => (tryE [101, 102, 103] (((((pure (a622) : M D) >>= fun x627 => ((pure (a623) : M D) >>= fun x625 => (pure [] : M (List D)) >>= fun xs626 => pure (x625 :: xs626)) >>= fun xs628 => pure (x627 :: xs628)) >>= m_fitting) >>= fun x629 => pure (.rt x629)) : M (Out (Unit) _)) >>= seqO fun s624 => (pure (.nx ()))))
def m__law_fitting (ds : List D) : M D := runF (b__law_fitting ds)
theorem o__law_fitting {p : Pg} (T : Txt p) {f : Addr} {fd : FuncData} (F : Fun p.K "_law_fitting" "_law_fitting" s__law_fitting f fd) (h__law_error : ErrFn p [101, 102, 103]) (h_fitting : Fnc p 3 "fitting" [.v, .v] m_fitting) : FnOk p.P p.w p.K p.mg p.base (L2N.CX p.P p.w) 4 f fd ["sides", "answers"] (spD p [.v, .v] m__law_fitting) :=
  fnok_of (k := 3) (N := ["sides", "answers", "e"]) (body := b__law_fitting) (shN := fun _ => [.un, .un, .un]) (shB := fun _ => []) F sc__law_fitting rfl (q2 (P := fun ds m => SB _ (argE _ ds ++ _) _ m _ _) (fun a622 a623 => (show SB _ [.sh (a622), .sh (a623), .un] _ _ _ _ from (s_try (J := Unit) (shJ := fun s624 => [.sh (a622), .sh (a623), .un]) 2 h__law_error T.em sc__law_fitting.nd (show SB _ [.sh (a622), .sh (a623), .un] _ _ _ _ from (sb_ret (xcall h_fitting (av (ev 0) (av (ev 1) eak_nil))))) fun s624 => (show SB _ [.sh (a622), .sh (a623), .un] _ _ _ _ from (sb_nil (.un (.un (.un Le.nil)))))))))
abbrev s__law_all_points : Stmt := topS 30
theorem sc__law_all_points : FnScope ["sides", "most", "rows", "k", "longer", "row", "number"] ["sides", "most"] (defScope s__law_all_points) := ⟨rfl, rfl, rfl, by decide +kernel, rfl, by decide +kernel, by decide +kernel⟩
def b__law_all_points : List D → M (Out Unit Unit) := p2 (fun a630 a631 => (((((pure [] : M (List D)) >>= mkT) >>= fun x633 => (pure [] : M (List D)) >>= fun xs634 => pure (x633 :: xs634)) >>= mkL) >>= fun z632 => (((pure (a630) : M D) >>= range1) >>= fun xs654 => forL (fun (s636 : D) x655 => nm x655 >>= p1 (fun v637 => (((pure [] : M (List D)) >>= mkL) >>= fun z638 => (((pure (s636) : M D) >>= items) >>= fun xs651 => forL (fun (s639 : D) x652 => nm x652 >>= p1 (fun v640 => (lstD s639 >>= fun ds649 => (lcM ((pure (a631) : M D) >>= range1) nm (p1 (fun v641 => (pure true : M Bool))) (p1 (fun v641 => ((pure (v640) : M D) >>= fun x645 => (((pure (v641) : M D) >>= fun x642 => (pure [] : M (List D)) >>= fun xs643 => pure (x642 :: xs643)) >>= mkT) >>= fun x646 => addD x645 x646)))) >>= fun x648 => extL ds649 x648 >>= fun z647 => (pure (.nx (z647)))))) (z638) xs651 >>= seqO fun s639 => ((pure (s639) : M D) >>= fun z650 => (pure (.nx (z650)))))))) (z632) xs654 >>= seqO fun s636 => ((pure (s636) : M D) >>= fun x653 => pure (.rt x653)))))
def m__law_all_points (ds : List D) : M D := runF (b__law_all_points ds)
theorem o__law_all_points {p : Pg} (T : Txt p) {f : Addr} {fd : FuncData} (F : Fun p.K "_law_all_points" "_law_all_points" s__law_all_points f fd)  : FnOk p.P p.w p.K p.mg p.base (L2N.CX p.P p.w) 1 f fd ["sides", "most"] (spD p [.v, .v] m__law_all_points) :=
  fnok_of (k := 0) (N := ["sides", "most", "rows", "k", "longer", "row", "number"]) (body := b__law_all_points) (shN := fun _ => [.un, .un, .un, .un, .un, .un, .un]) (shB := fun _ => []) F sc__law_all_points rfl (q2 (P := fun ds m => SB _ (argE _ ds ++ _) _ m _ _) (fun a630 a631 => (show SB _ [.sh (a630), .sh (a631), .un, .un, .un, .un, .un] _ _ _ _ from (s_set 2 sc__law_all_points.nd (ee_new (en_lst (ea_cons (ee_tup ea_nil) ea_nil))) (fun z632 => (show SB _ [.sh (a630), .sh (a631), .sh (z632), .un, .un, .un, .un] _ _ _ _ from (s_for (Z := D) (sh := fun s636 => [.sh (a630), .sh (a631), .sh (s636), .un, .un, .un, .un]) (ei_range1 (by rfl) T.b_range (el_of (ev 0))) (tn 3 sc__law_all_points.nd) nm_pure nm_len (.eq (.eq (.eq (.un (.un (.un (.un Le.nil))))))) (fun s636 => q1 (P := fun ds m => SB _ (setE _ _ ds) _ m _ _) (fun v637 => (show SB _ [.sh (a630), .sh (a631), .sh (s636), .sh (v637), .un, .un, .un] _ _ _ _ from (s_setN 4 sc__law_all_points.nd (en_lst ea_nil) (fun z638 => (show SB _ [.sh (a630), .sh (a631), .sh (s636), .sh (v637), .ow (z638), .un, .un] _ _ _ _ from (s_for (Z := D) (sh := fun s639 => [.sh (a630), .sh (a631), .sh (s636), .sh (v637), .ow (s639), .un, .un]) (ei_seq (ev 2)) (tn 5 sc__law_all_points.nd) nm_pure nm_len (.eq (.eq (.eq (.eq (.eq (.un (.un Le.nil))))))) (fun s639 => q1 (P := fun ds m => SB _ (setE _ _ ds) _ m _ _) (fun v640 => (show SB _ [.sh (a630), .sh (a631), .sh (s636), .sh (v637), .ow (s639), .sh (v640), .un] _ _ _ _ from (s_extend 4 (el_new (en_comp (c_lc sc__law_all_points.nd [("number", 6)] (ei_range1 (by rfl) T.b_range (el_of (ev 1))) (tn 6 sc__law_all_points.nd) nm_pure nm_len (q1 (P := fun ds m => ETs (Sta.blk _ _) (setE (wipeE _ _) _ ds) _ m) (fun v641 => (show ETs _ [.sh (a630), .sh (a631), .sh (s636), .sh (v637), .ow (s639), .sh (v640), .sh (v641)] _ _ from ets_nil))) (q1 (P := fun ds m => EE (Sta.blk _ _) (setE (wipeE _ _) _ ds) _ m) (fun v641 => (show EE _ [.sh (a630), .sh (a631), .sh (s636), .sh (v637), .ow (s639), .sh (v640), .sh (v641)] _ _ from (ee_add (el_of (ev 5)) (el_of (ee_tup (ea_cons (ev 6) ea_nil)))))))))) fun z647 => (show SB _ [.sh (a630), .sh (a631), .sh (s636), .sh (v637), .ow (z647), .sh (v640), .un] _ _ _ _ from (sb_nil (.eq (.eq (.eq (.eq (.eq (.un (.un Le.nil))))))))))))) fun s639 => (show SB _ [.sh (a630), .sh (a631), .sh (s636), .sh (v637), .ow (s639), .un, .un] _ _ _ _ from (sb_freeze 4 (by rfl) (show SB _ [.sh (a630), .sh (a631), .sh (s636), .sh (v637), .sh (s639), .un, .un] _ _ _ _ from (s_set 2 sc__law_all_points.nd (ev 4) (fun z650 => (show SB _ [.sh (a630), .sh (a631), .sh (z650), .sh (v637), .sh (s639), .un, .un] _ _ _ _ from (sb_nil (.eq (.eq (.eq (.un (.un (.un (.un Le.nil))))))))))))))))))))) fun s636 => (show SB _ [.sh (a630), .sh (a631), .sh (s636), .un, .un, .un, .un] _ _ _ _ from (sb_ret (ev 2))))))))))
abbrev s_law : Stmt := topS 31
theorem sc_law : FnScope ["script", "state", "turn", "sides", "most", "points", "block", "every", "wide", "drawn", "answers", "blocks", "low", "good", "told", "point", "bits", "due", "bad", "asker", "step", "here", "k", "one", "high", "bit"] ["script"] (defScope s_law) := ⟨rfl, rfl, rfl, by decide +kernel, rfl, by decide +kernel, by decide +kernel⟩
def b_law : List D → M (Out Unit Unit) := p1 (fun a656 => (((((((pure (a656) : M D) >>= fun x664 => (pure [] : M (List D)) >>= fun xs665 => pure (x664 :: xs665)) >>= m__law_stream) >>= fun x661 => ((pure (D.int 0) : M D) >>= fun x658 => (pure [] : M (List D)) >>= fun xs659 => pure (x658 :: xs659)) >>= fun xs662 => pure (x661 :: xs662)) >>= mkL) >>= celD) >>= fun z657 => (((pure (D.int 4) : M D) >>= range1) >>= fun xs1079 => forL (fun (s666 : Option D) x1080 => nm x1080 >>= p1 (fun v667 => (((pure (D.int 1) : M D) >>= fun x673 => (((pure (z657) : M D) >>= fun x671 => ((pure (D.int 3) : M D) >>= fun x669 => (pure [] : M (List D)) >>= fun xs670 => pure (x669 :: xs670)) >>= fun xs672 => pure (x671 :: xs672)) >>= m__law_next) >>= fun x674 => addD x673 x674) >>= fun z668 => (((((pure (D.int 9) : M D) >>= fun x682 => ((pure (D.int 4) : M D) >>= fun x679 => ((pure (D.int 3) : M D) >>= fun x676 => (pure [] : M (List D)) >>= fun xs677 => pure (x676 :: xs677)) >>= fun xs680 => pure (x679 :: xs680)) >>= fun xs683 => pure (x682 :: xs683)) >>= mkL) >>= fun x687 => ((pure (z668) : M D) >>= fun x685 => (pure (D.int 1) : M D) >>= fun x686 => subD x685 x686) >>= fun x688 => ixD x687 x688) >>= fun z675 => ((lcM (((pure (D.int 1) : M D) >>= fun x694 => (((pure (z657) : M D) >>= fun x692 => ((pure (D.int 4) : M D) >>= fun x690 => (pure [] : M (List D)) >>= fun xs691 => pure (x690 :: xs691)) >>= fun xs693 => pure (x692 :: xs693)) >>= m__law_next) >>= fun x695 => addD x694 x695) >>= range1) nm (p1 (fun v696 => (pure true : M Bool))) (p1 (fun v696 => (((pure (z657) : M D) >>= fun x701 => ((pure (z668) : M D) >>= fun x699 => ((pure (z675) : M D) >>= fun x697 => (pure [] : M (List D)) >>= fun xs698 => pure (x697 :: xs698)) >>= fun xs700 => pure (x699 :: xs700)) >>= fun xs702 => pure (x701 :: xs702)) >>= m__law_point)))) >>= fun z689 => ((((pure (z668) : M D) >>= fun x706 => (((pure (z689) : M D) >>= tupleD) >>= fun x704 => (pure [] : M (List D)) >>= fun xs705 => pure (x704 :: xs705)) >>= fun xs707 => pure (x706 :: xs707)) >>= m_least_block) >>= fun z703 => ((((pure (z703) : M D) >>= fun x710 => (((pure (z689) : M D) >>= fun x708 => (pure [] : M (List D)) >>= fun xs709 => pure (x708 :: xs709)) >>= m__law_around) >>= fun x711 => neB x710 x711) >>= fun b720 => if b720 = true then (pure true : M Bool) else ((((lcM ((pure (z689) : M D) >>= items) nm (p1 (fun v712 => (pure true : M Bool))) (p1 (fun v712 => (((pure (z668) : M D) >>= fun x717 => ((pure (z703) : M D) >>= fun x715 => ((pure (v712) : M D) >>= fun x713 => (pure [] : M (List D)) >>= fun xs714 => pure (x713 :: xs714)) >>= fun xs716 => pure (x715 :: xs716)) >>= fun xs718 => pure (x717 :: xs718)) >>= m_has_point)))) >>= allD) >>= truth) >>= fun b719 => (pure (!b719) : M Bool))) >>= fun b1077 => (if b1077 = true then (((pure (D.bl false) : M D) >>= fun x722 => pure (.rt x722)) : M (Out (Unit) _)) else (pure (.nx ()))) >>= seqO fun s721 => ((((pure (z668) : M D) >>= fun x726 => ((pure (z675) : M D) >>= fun x724 => (pure [] : M (List D)) >>= fun xs725 => pure (x724 :: xs725)) >>= fun xs727 => pure (x726 :: xs727)) >>= m__law_all_points) >>= fun z723 => ((((((pure (z668) : M D) >>= fun x730 => ((pure (z703) : M D) >>= fun x728 => (pure [] : M (List D)) >>= fun xs729 => pure (x728 :: xs729)) >>= fun xs731 => pure (x730 :: xs731)) >>= m_size_of) >>= fun x737 => ((lcM ((pure (z723) : M D) >>= items) nm (p1 (fun v732 => ((((pure (z703) : M D) >>= fun x735 => ((pure (v732) : M D) >>= fun x733 => (pure [] : M (List D)) >>= fun xs734 => pure (x733 :: xs734)) >>= fun xs736 => pure (x735 :: xs736)) >>= m__law_has) >>= truth))) (p1 (fun v732 => (pure (v732) : M D)))) >>= lenD) >>= fun x738 => neB x737 x738) >>= fun b753 => if b753 = true then (pure true : M Bool) else ((lcM ((pure (z723) : M D) >>= items) nm (p1 (fun v739 => (pure true : M Bool))) (p1 (fun v739 => (((pure (z668) : M D) >>= fun x744 => ((pure (z703) : M D) >>= fun x742 => ((pure (v739) : M D) >>= fun x740 => (pure [] : M (List D)) >>= fun xs741 => pure (x740 :: xs741)) >>= fun xs743 => pure (x742 :: xs743)) >>= fun xs745 => pure (x744 :: xs745)) >>= m_has_point)))) >>= fun x751 => (lcM ((pure (z723) : M D) >>= items) nm (p1 (fun v746 => (pure true : M Bool))) (p1 (fun v746 => (((pure (z703) : M D) >>= fun x749 => ((pure (v746) : M D) >>= fun x747 => (pure [] : M (List D)) >>= fun xs748 => pure (x747 :: xs748)) >>= fun xs750 => pure (x749 :: xs750)) >>= m__law_has)))) >>= fun x752 => neB x751 x752)) >>= fun b1076 => (if b1076 = true then (((pure (D.bl false) : M D) >>= fun x755 => pure (.rt x755)) : M (Out (Unit) _)) else (pure (.nx ()))) >>= seqO fun s754 => ((((pure (z668) : M D) >>= fun x770 => ((((pure (z689) : M D) >>= fun x766 => (((((pure (z657) : M D) >>= fun x764 => ((pure (z668) : M D) >>= fun x762 => ((pure (z675) : M D) >>= fun x760 => (pure [] : M (List D)) >>= fun xs761 => pure (x760 :: xs761)) >>= fun xs763 => pure (x762 :: xs763)) >>= fun xs765 => pure (x764 :: xs765)) >>= m__law_point) >>= fun x757 => (pure [] : M (List D)) >>= fun xs758 => pure (x757 :: xs758)) >>= mkL) >>= fun x767 => catD x766 x767) >>= tupleD) >>= fun x768 => (pure [] : M (List D)) >>= fun xs769 => pure (x768 :: xs769)) >>= fun xs771 => pure (x770 :: xs771)) >>= m_least_block) >>= fun z756 => (((((lcM ((pure (z668) : M D) >>= range1) nm (p1 (fun v772 => (pure true : M Bool))) (p1 (fun v772 => (((((pure (z756) : M D) >>= fun x786 => (pure (D.int 0) : M D) >>= fun x787 => ixD x786 x787) >>= fun x788 => (pure (v772) : M D) >>= fun x789 => ixD x788 x789) >>= fun x784 => (((pure (z703) : M D) >>= fun x790 => (pure (D.int 0) : M D) >>= fun x791 => ixD x790 x791) >>= fun x792 => (pure (v772) : M D) >>= fun x793 => ixD x792 x793) >>= fun x785 => leB x784 x785 >>= fun b783 => (pure (D.bl b783) : M D)) >>= fun x815 => truth x815 >>= fun b816 => if b816 = true then ((((pure (z703) : M D) >>= fun x807 => (pure (D.int 1) : M D) >>= fun x808 => ixD x807 x808) >>= fun x809 => (pure (v772) : M D) >>= fun x810 => ixD x809 x810) >>= fun x805 => (((pure (z756) : M D) >>= fun x811 => (pure (D.int 1) : M D) >>= fun x812 => ixD x811 x812) >>= fun x813 => (pure (v772) : M D) >>= fun x814 => ixD x813 x814) >>= fun x806 => leB x805 x806 >>= fun b804 => (pure (D.bl b804) : M D)) else (pure x815 : M D))))) >>= allD) >>= truth) >>= fun b817 => (pure (!b817) : M Bool)) >>= fun b1075 => (if b1075 = true then (((pure (D.bl false) : M D) >>= fun x819 => pure (.rt x819)) : M (Out (Unit) _)) else (pure (.nx ()))) >>= seqO fun s818 => ((lcM ((((pure (z657) : M D) >>= fun x823 => ((pure (D.int 6) : M D) >>= fun x821 => (pure [] : M (List D)) >>= fun xs822 => pure (x821 :: xs822)) >>= fun xs824 => pure (x823 :: xs824)) >>= m__law_next) >>= range1) nm (p1 (fun v825 => (pure true : M Bool))) (p1 (fun v825 => (((pure (z657) : M D) >>= fun x830 => ((pure (z668) : M D) >>= fun x828 => ((pure (z675) : M D) >>= fun x826 => (pure [] : M (List D)) >>= fun xs827 => pure (x826 :: xs827)) >>= fun xs829 => pure (x828 :: xs829)) >>= fun xs831 => pure (x830 :: xs831)) >>= m__law_point)))) >>= fun z820 => (((((((((pure (z689) : M D) >>= fun x842 => (pure (D.int 0) : M D) >>= fun x843 => ixD x842 x843) >>= fun x839 => ((pure (D.int 1) : M D) >>= fun x836 => (pure [] : M (List D)) >>= fun xs837 => pure (x836 :: xs837)) >>= fun xs840 => pure (x839 :: xs840)) >>= mkT) >>= fun x833 => (pure [] : M (List D)) >>= fun xs834 => pure (x833 :: xs834)) >>= mkL) >>= fun x855 => (lcM ((pure (z820) : M D) >>= items) nm (p1 (fun v844 => (pure true : M Bool))) (p1 (fun v844 => (((pure (v844) : M D) >>= fun x852 => (((((pure (z703) : M D) >>= fun x850 => ((pure (v844) : M D) >>= fun x848 => (pure [] : M (List D)) >>= fun xs849 => pure (x848 :: xs849)) >>= fun xs851 => pure (x850 :: xs851)) >>= m__law_has) >>= intD) >>= fun x845 => (pure [] : M (List D)) >>= fun xs846 => pure (x845 :: xs846)) >>= fun xs853 => pure (x852 :: xs853)) >>= mkT)))) >>= fun x856 => catD x855 x856) >>= tupleD) >>= fun z832 => (((pure [] : M (List D)) >>= mkL) >>= fun z857 => (((pure (z723) : M D) >>= items) >>= fun xs1073 => forL (fun (s858 : D) x1074 => nm x1074 >>= p1 (fun v859 => (lstD s858 >>= fun ds883 => (lcM ((pure (z723) : M D) >>= items) nm (p1 (fun v860 => (((lcM ((pure (z668) : M D) >>= range1) nm (p1 (fun v861 => (pure true : M Bool))) (p1 (fun v861 => (((pure (v859) : M D) >>= fun x871 => (pure (v861) : M D) >>= fun x872 => ixD x871 x872) >>= fun x869 => ((pure (v860) : M D) >>= fun x873 => (pure (v861) : M D) >>= fun x874 => ixD x873 x874) >>= fun x870 => leB x869 x870 >>= fun b868 => (pure (D.bl b868) : M D))))) >>= allD) >>= truth))) (p1 (fun v860 => (((pure (v859) : M D) >>= fun x878 => ((pure (v860) : M D) >>= fun x875 => (pure [] : M (List D)) >>= fun xs876 => pure (x875 :: xs876)) >>= fun xs879 => pure (x878 :: xs879)) >>= mkT)))) >>= fun x882 => extL ds883 x882 >>= fun z881 => (pure (.nx (z881)))))) (z857) xs1073 >>= seqO fun s858 => ((lcM ((pure (s858) : M D) >>= items) nm (p1 (fun v885 => (((lcM ((pure (z832) : M D) >>= items) (unT (unc nm (unc nm un0))) (p2 (fun v886 v887 => (pure true : M Bool))) (p2 (fun v886 v887 => (((((pure (v885) : M D) >>= fun x899 => ((pure (v886) : M D) >>= fun x897 => (pure [] : M (List D)) >>= fun xs898 => pure (x897 :: xs898)) >>= fun xs900 => pure (x899 :: xs900)) >>= m__law_has) >>= intD) >>= fun x895 => (pure (v887) : M D) >>= fun x896 => eqB x895 x896 >>= fun b894 => (pure (D.bl b894) : M D))))) >>= allD) >>= truth))) (p1 (fun v885 => (pure (v885) : M D)))) >>= fun z884 => ((((pure (z668) : M D) >>= fun x904 => ((pure (z832) : M D) >>= fun x902 => (pure [] : M (List D)) >>= fun xs903 => pure (x902 :: xs903)) >>= fun xs905 => pure (x904 :: xs905)) >>= m__law_fitting) >>= fun z901 => ((((pure (z901) : M D) >>= fun x906 => (pure (z884) : M D) >>= fun x907 => inB true x906 x907) >>= fun b924 => if b924 = true then (pure true : M Bool) else ((((lcM ((pure (z884) : M D) >>= items) nm (p1 (fun v908 => (pure true : M Bool))) (p1 (fun v908 => ((((pure (v908) : M D) >>= fun x913 => (((pure (z901) : M D) >>= fun x909 => (pure (D.int 0) : M D) >>= fun x910 => ixD x909 x910) >>= fun x911 => (pure [] : M (List D)) >>= fun xs912 => pure (x911 :: xs912)) >>= fun xs914 => pure (x913 :: xs914)) >>= m__law_has) >>= fun x921 => truth x921 >>= fun b922 => if b922 = true then (((pure (v908) : M D) >>= fun x919 => (((pure (z901) : M D) >>= fun x915 => (pure (D.int 1) : M D) >>= fun x916 => ixD x915 x916) >>= fun x917 => (pure [] : M (List D)) >>= fun xs918 => pure (x917 :: xs918)) >>= fun xs920 => pure (x919 :: xs920)) >>= m__law_has) else (pure x921 : M D))))) >>= allD) >>= truth) >>= fun b923 => (pure (!b923) : M Bool))) >>= fun b1072 => (if b1072 = true then (((pure (D.bl false) : M D) >>= fun x926 => pure (.rt x926)) : M (Out (Unit) _)) else (pure (.nx ()))) >>= seqO fun s925 => (((((pure (z723) : M D) >>= fun x927 => (pure none : M (Option Int)) >>= fun l928 => ((pure (D.int 20) : M D) >>= intM) >>= fun h929 => slL l928 h929 x927) >>= fun x930 => (pure (z820) : M D) >>= fun x931 => catD x930 x931) >>= items) >>= fun xs1070 => forL (fun (s932 : Unit) x1071 => nm x1071 >>= p1 (fun v933 => (((lcM ((pure (z884) : M D) >>= items) nm (p1 (fun v935 => (pure true : M Bool))) (p1 (fun v935 => ((((pure (v935) : M D) >>= fun x938 => ((pure (v933) : M D) >>= fun x936 => (pure [] : M (List D)) >>= fun xs937 => pure (x936 :: xs937)) >>= fun xs939 => pure (x938 :: xs939)) >>= m__law_has) >>= intD)))) >>= ssortI) >>= fun z934 => (((((pure D.non : M D) >>= fun x946 => (((pure (z934) : M D) >>= fun x944 => (pure (D.int 0) : M D) >>= fun x945 => ixD x944 x945) >>= fun x941 => (pure [] : M (List D)) >>= fun xs942 => pure (x941 :: xs942)) >>= fun xs947 => pure (x946 :: xs947)) >>= mkL) >>= fun x954 => ((((pure (z934) : M D) >>= lenD) >>= fun x952 => (pure (D.int 1) : M D) >>= fun x953 => eqB x952 x953 >>= fun b951 => (pure (D.bl b951) : M D)) >>= intD) >>= fun x955 => ixD x954 x955) >>= fun z940 => (((((pure (z668) : M D) >>= fun x960 => ((pure (z832) : M D) >>= fun x958 => ((pure (v933) : M D) >>= fun x956 => (pure [] : M (List D)) >>= fun xs957 => pure (x956 :: xs957)) >>= fun xs959 => pure (x958 :: xs959)) >>= fun xs961 => pure (x960 :: xs961)) >>= m_settled) >>= fun x962 => (pure (z940) : M D) >>= fun x963 => neB x962 x963) >>= fun b993 => (if b993 = true then (((pure (D.bl false) : M D) >>= fun x965 => pure (.rt x965)) : M (Out (Unit) _)) else (pure (.nx ()))) >>= seqO fun s964 => ((((pure (z940) : M D) >>= fun x966 => (pure D.non : M D) >>= fun x967 => notNoneB x966 x967) >>= fun b989 => if b989 = true then ((((pure (z668) : M D) >>= fun x985 => (((pure (z832) : M D) >>= fun x981 => ((((((pure (z689) : M D) >>= fun x979 => ((pure (D.int 1) : M D) >>= negD) >>= fun x980 => ixD x979 x980) >>= fun x976 => ((pure (D.int 1) : M D) >>= fun x973 => (pure [] : M (List D)) >>= fun xs974 => pure (x973 :: xs974)) >>= fun xs977 => pure (x976 :: xs977)) >>= mkT) >>= fun x970 => (pure [] : M (List D)) >>= fun xs971 => pure (x970 :: xs971)) >>= mkT) >>= fun x982 => addD x981 x982) >>= fun x983 => ((pure (v933) : M D) >>= fun x968 => (pure [] : M (List D)) >>= fun xs969 => pure (x968 :: xs969)) >>= fun xs984 => pure (x983 :: xs984)) >>= fun xs986 => pure (x985 :: xs986)) >>= m_settled) >>= fun x987 => (pure (z940) : M D) >>= fun x988 => neB x987 x988) else (pure false : M Bool)) >>= fun b992 => (if b992 = true then (((pure (D.bl false) : M D) >>= fun x991 => pure (.rt x991)) : M (Out (Unit) _)) else (pure (.nx ()))) >>= seqO fun s990 => (pure (.nx ())))))))) () xs1070 >>= seqO fun s932 => (((pure (z832) : M D) >>= fun x1006 => ((((((pure (z901) : M D) >>= fun x1004 => (pure (D.int 0) : M D) >>= fun x1005 => ixD x1004 x1005) >>= fun x1001 => ((pure (D.int 0) : M D) >>= fun x998 => (pure [] : M (List D)) >>= fun xs999 => pure (x998 :: xs999)) >>= fun xs1002 => pure (x1001 :: xs1002)) >>= mkT) >>= fun x995 => (pure [] : M (List D)) >>= fun xs996 => pure (x995 :: xs996)) >>= mkT) >>= fun x1007 => addD x1006 x1007) >>= fun z994 => ((((((pure (z668) : M D) >>= fun x1010 => ((pure (z994) : M D) >>= fun x1008 => (pure [] : M (List D)) >>= fun xs1009 => pure (x1008 :: xs1009)) >>= fun xs1011 => pure (x1010 :: xs1011)) >>= m__law_fitting) >>= fun x1012 => (pure (D.str "missing") : M D) >>= fun x1013 => neB x1012 x1013) >>= fun b1023 => if b1023 = true then (pure true : M Bool) else (((((pure (z901) : M D) >>= fun x1020 => ((((pure (z668) : M D) >>= fun x1016 => ((pure (z994) : M D) >>= fun x1014 => (pure [] : M (List D)) >>= fun xs1015 => pure (x1014 :: xs1015)) >>= fun xs1017 => pure (x1016 :: xs1017)) >>= m_barred_by) >>= fun x1018 => (pure [] : M (List D)) >>= fun xs1019 => pure (x1018 :: xs1019)) >>= fun xs1021 => pure (x1020 :: xs1021)) >>= m__law_has) >>= truth) >>= fun b1022 => (pure (!b1022) : M Bool))) >>= fun b1069 => (if b1069 = true then (((pure (D.bl false) : M D) >>= fun x1025 => pure (.rt x1025)) : M (Out (Unit) _)) else (pure (.nx ()))) >>= seqO fun s1024 => ((mkM 0 ((pure (z668) : M D) >>= fun x1031 => (((pure (z689) : M D) >>= fun x1027 => (pure (D.int 0) : M D) >>= fun x1028 => ixD x1027 x1028) >>= fun x1029 => (pure [] : M (List D)) >>= fun xs1030 => pure (x1029 :: xs1030)) >>= fun xs1032 => pure (x1031 :: xs1032)) m_BlockAsker___init__) >>= fun z1026 => (((pure (D.int 60) : M D) >>= range1) >>= fun xs1067 => forL (fun (s1033 : Option D) x1068 => nm x1068 >>= p1 (fun v1034 => ((mthM 0 "step" (pure (z1026) : M D) (pure []) m_BlockAsker_step) >>= fun z1035 => ((((pure (z1035) : M D) >>= fun x1036 => (pure (D.int 0) : M D) >>= fun x1037 => ixD x1036 x1037) >>= fun x1038 => (pure (D.str "known") : M D) >>= fun x1039 => eqB x1038 x1039) >>= fun b1050 => (if b1050 = true then ((pure (.bk ((some (z1035))))) : M (Out (Unit) _)) else (pure (.nx ()))) >>= seqO fun s1040 => ((mthM 0 "tell" (pure (z1026) : M D) (((((pure (z703) : M D) >>= fun x1045 => (((pure (z1035) : M D) >>= fun x1041 => (pure (D.int 1) : M D) >>= fun x1042 => ixD x1041 x1042) >>= fun x1043 => (pure [] : M (List D)) >>= fun xs1044 => pure (x1043 :: xs1044)) >>= fun xs1046 => pure (x1045 :: xs1046)) >>= m__law_has) >>= intD) >>= fun x1047 => (pure [] : M (List D)) >>= fun xs1048 => pure (x1047 :: xs1048)) m_BlockAsker_tell) >>= fun u1049 => (pure (.nx ((some (z1035)))))))))) (s666) xs1067 >>= seqO fun s1033 => ((((unM (s1033)) >>= fun x1057 => (((pure (D.str "known") : M D) >>= fun x1054 => ((pure (z703) : M D) >>= fun x1051 => (pure [] : M (List D)) >>= fun xs1052 => pure (x1051 :: xs1052)) >>= fun xs1055 => pure (x1054 :: xs1055)) >>= mkT) >>= fun x1058 => neB x1057 x1058) >>= fun b1063 => if b1063 = true then (pure true : M Bool) else ((mthM 0 "asked" (pure (z1026) : M D) (pure []) m_BlockAsker_asked) >>= fun x1061 => ((pure (D.int 14) : M D) >>= fun x1059 => (pure (z668) : M D) >>= fun x1060 => mulD x1059 x1060) >>= fun x1062 => gtB x1061 x1062)) >>= fun b1066 => (if b1066 = true then (((pure (D.bl false) : M D) >>= fun x1065 => pure (.rt x1065)) : M (Out (Unit) _)) else (pure (.nx ()))) >>= seqO fun s1064 => (pure (.nx (s1033))))))))))))))))))))))))))) (none) xs1079 >>= seqO fun s666 => ((pure (D.bl true) : M D) >>= fun x1078 => pure (.rt x1078)))))
def m_law (ds : List D) : M D := runF (b_law ds)
theorem o_law {p : Pg} (T : Txt p) {f : Addr} {fd : FuncData} (F : Fun p.K "law" "law" s_law f fd) (h__law_stream : Fnc p 1 "_law_stream" [.v] m__law_stream) (h__law_next : Fnc p 1 "_law_next" [.v, .v] m__law_next) (h__law_point : Fnc p 2 "_law_point" [.v, .v, .v] m__law_point) (h_least_block : Fnc p 2 "least_block" [.v, .v] m_least_block) (h__law_around : Fnc p 1 "_law_around" [.v] m__law_around) (h_has_point : Fnc p 3 "has_point" [.v, .v, .v] m_has_point) (h__law_all_points : Fnc p 1 "_law_all_points" [.v, .v] m__law_all_points) (h_size_of : Fnc p 3 "size_of" [.v, .v] m_size_of) (h__law_has : Fnc p 1 "_law_has" [.v, .v] m__law_has) (h__law_fitting : Fnc p 4 "_law_fitting" [.v, .v] m__law_fitting) (h_settled : Fnc p 4 "settled" [.v, .v, .v] m_settled) (h_barred_by : Fnc p 3 "barred_by" [.v, .v] m_barred_by) (h_BlockAsker___init__ : Mkr p 0 2 "BlockAsker" [.v, .v, .v] m_BlockAsker___init__) (h_BlockAsker_step : Mtd p 0 2 "step" [.v] m_BlockAsker_step) (h_BlockAsker_tell : Mtd p 0 3 "tell" [.v, .v] m_BlockAsker_tell) (h_BlockAsker_asked : Mtd p 0 1 "asked" [.v] m_BlockAsker_asked) : FnOk p.P p.w p.K p.mg p.base (L2N.CX p.P p.w) 5 f fd ["script"] (spD p [.v] m_law) :=
  fnok_of (k := 4) (N := ["script", "state", "turn", "sides", "most", "points", "block", "every", "wide", "drawn", "answers", "blocks", "low", "good", "told", "point", "bits", "due", "bad", "asker", "step", "here", "k", "one", "high", "bit"]) (body := b_law) (shN := fun _ => [.un, .un, .un, .un, .un, .un, .un, .un, .un, .un, .un, .un, .un, .un, .un, .un, .un, .un, .un, .un, .un, .un, .un, .un, .un, .un]) (shB := fun _ => []) F sc_law rfl (q1 (P := fun ds m => SB _ (argE _ ds ++ _) _ m _ _) (fun a656 => (show SB _ [.sh (a656), .un, .un, .un, .un, .un, .un, .un, .un, .un, .un, .un, .un, .un, .un, .un, .un, .un, .un, .un, .un, .un, .un, .un, .un, .un] _ _ _ _ from (s_set 1 sc_law.nd (ee_cell (en_lst (ea_cons (xcall h__law_stream (av (ev 0) eak_nil)) (ea_cons ee_int ea_nil)))) (fun z657 => (show SB _ [.sh (a656), .sh (z657), .un, .un, .un, .un, .un, .un, .un, .un, .un, .un, .un, .un, .un, .un, .un, .un, .un, .un, .un, .un, .un, .un, .un, .un] _ _ _ _ from (s_for (Z := Option D) (sh := fun s666 => [.sh (a656), .sh (z657), .un, .un, .un, .un, .un, .un, .un, .un, .un, .un, .un, .un, .un, .un, .un, .un, .un, .un, .un, (mayb (s666)), .un, .un, .un, .un]) (ei_range1 (by rfl) T.b_range (el_of ee_int)) (tn 2 sc_law.nd) nm_pure nm_len (.eq (.eq (.un (.un (.un (.un (.un (.un (.un (.un (.un (.un (.un (.un (.un (.un (.un (.un (.un (.un (.un (.un (.un (.un (.un (.un Le.nil)))))))))))))))))))))))))) (fun s666 => q1 (P := fun ds m => SB _ (setE _ _ ds) _ m _ _) (fun v667 => (show SB _ [.sh (a656), .sh (z657), .sh (v667), .un, .un, .un, .un, .un, .un, .un, .un, .un, .un, .un, .un, .un, .un, .un, .un, .un, .un, (mayb (s666)), .un, .un, .un, .un] _ _ _ _ from (s_set 3 sc_law.nd (ee_add (el_of ee_int) (el_of (xcall h__law_next (av (ev 1) (av ee_int eak_nil))))) (fun z668 => (show SB _ [.sh (a656), .sh (z657), .sh (v667), .sh (z668), .un, .un, .un, .un, .un, .un, .un, .un, .un, .un, .un, .un, .un, .un, .un, .un, .un, (mayb (s666)), .un, .un, .un, .un] _ _ _ _ from (s_set 4 sc_law.nd (xix (el_new (en_lst (ea_cons ee_int (ea_cons ee_int (ea_cons ee_int ea_nil))))) (el_of (ee_sub (el_of (ev 3)) (el_of ee_int)))) (fun z675 => (show SB _ [.sh (a656), .sh (z657), .sh (v667), .sh (z668), .sh (z675), .un, .un, .un, .un, .un, .un, .un, .un, .un, .un, .un, .un, .un, .un, .un, .un, (mayb (s666)), .un, .un, .un, .un] _ _ _ _ from (s_setC 5 sc_law.nd (c_lc sc_law.nd [("k", 22)] (ei_range1 (by rfl) T.b_range (el_of (ee_add (el_of ee_int) (el_of (xcall h__law_next (av (ev 1) (av ee_int eak_nil))))))) (tn 22 sc_law.nd) nm_pure nm_len (q1 (P := fun ds m => ETs (Sta.blk _ _) (setE (wipeE _ _) _ ds) _ m) (fun v696 => (show ETs _ [.sh (a656), .sh (z657), .sh (v667), .sh (z668), .sh (z675), .un, .un, .un, .un, .un, .un, .un, .un, .un, .un, .un, .un, .un, .un, .un, .un, (mayb (s666)), .sh (v696), .un, .un, .un] _ _ from ets_nil))) (q1 (P := fun ds m => EE (Sta.blk _ _) (setE (wipeE _ _) _ ds) _ m) (fun v696 => (show EE _ [.sh (a656), .sh (z657), .sh (v667), .sh (z668), .sh (z675), .un, .un, .un, .un, .un, .un, .un, .un, .un, .un, .un, .un, .un, .un, .un, .un, (mayb (s666)), .sh (v696), .un, .un, .un] _ _ from (xcall h__law_point (av (ev 1) (av (ev 3) (av (ev 4) eak_nil)))))))) (lcM_nodict _ _ _ _) (fun z689 => (show SB _ [.sh (a656), .sh (z657), .sh (v667), .sh (z668), .sh (z675), .sh (z689), .un, .un, .un, .un, .un, .un, .un, .un, .un, .un, .un, .un, .un, .un, .un, (mayb (s666)), .un, .un, .un, .un] _ _ _ _ from (s_set 6 sc_law.nd (xcall h_least_block (av (ev 3) (av (ee_tuplec (b_tuple T.b_tuple) (el_of (ev 5))) eak_nil))) (fun z703 => (show SB _ [.sh (a656), .sh (z657), .sh (v667), .sh (z668), .sh (z675), .sh (z689), .sh (z703), .un, .un, .un, .un, .un, .un, .un, .un, .un, .un, .un, .un, .un, .un, (mayb (s666)), .un, .un, .un, .un] _ _ _ _ from (sb_if (J := Unit) (shJ := fun s721 => [.sh (a656), .sh (z657), .sh (v667), .sh (z668), .sh (z675), .sh (z689), .sh (z703), .un, .un, .un, .un, .un, .un, .un, .un, .un, .un, .un, .un, .un, .un, (mayb (s666)), .un, .un, .un, .un]) (et_w (ew_or (tcmp c_ne (el_of (ev 6)) (el_of (xcall h__law_around (av (ev 5) eak_nil)))) (ew_or1 (et_not (ttr (el_of (ee_all (b_all T.b_all) (el_new (en_comp (c_lc sc_law.nd [("point", 15)] (ei_read (el_of (ev 5))) (tn 15 sc_law.nd) nm_pure nm_len (q1 (P := fun ds m => ETs (Sta.blk _ _) (setE (wipeE _ _) _ ds) _ m) (fun v712 => (show ETs _ [.sh (a656), .sh (z657), .sh (v667), .sh (z668), .sh (z675), .sh (z689), .sh (z703), .un, .un, .un, .un, .un, .un, .un, .un, .sh (v712), .un, .un, .un, .un, .un, (mayb (s666)), .un, .un, .un, .un] _ _ from ets_nil))) (q1 (P := fun ds m => EE (Sta.blk _ _) (setE (wipeE _ _) _ ds) _ m) (fun v712 => (show EE _ [.sh (a656), .sh (z657), .sh (v667), .sh (z668), .sh (z675), .sh (z689), .sh (z703), .un, .un, .un, .un, .un, .un, .un, .un, .sh (v712), .un, .un, .un, .un, .un, (mayb (s666)), .un, .un, .un, .un] _ _ from (xcall h_has_point (av (ev 3) (av (ev 6) (av (ev 15) eak_nil))))))))))))))))) (sb_ret ee_bl) (sb_nil (.eq (.eq (.eq (.eq (.eq (.eq (.eq (.un (.un (.un (.un (.un (.un (.un (.un (.un (.un (.un (.un (.un (.un (.eq (.un (.un (.un (.un Le.nil))))))))))))))))))))))))))) fun s721 => (show SB _ [.sh (a656), .sh (z657), .sh (v667), .sh (z668), .sh (z675), .sh (z689), .sh (z703), .un, .un, .un, .un, .un, .un, .un, .un, .un, .un, .un, .un, .un, .un, (mayb (s666)), .un, .un, .un, .un] _ _ _ _ from (s_set 7 sc_law.nd (xcall h__law_all_points (av (ev 3) (av (ev 4) eak_nil))) (fun z723 => (show SB _ [.sh (a656), .sh (z657), .sh (v667), .sh (z668), .sh (z675), .sh (z689), .sh (z703), .sh (z723), .un, .un, .un, .un, .un, .un, .un, .un, .un, .un, .un, .un, .un, (mayb (s666)), .un, .un, .un, .un] _ _ _ _ from (sb_if (J := Unit) (shJ := fun s754 => [.sh (a656), .sh (z657), .sh (v667), .sh (z668), .sh (z675), .sh (z689), .sh (z703), .sh (z723), .un, .un, .un, .un, .un, .un, .un, .un, .un, .un, .un, .un, .un, (mayb (s666)), .un, .un, .un, .un]) (et_w (ew_or (tcmp c_ne (el_of (xcall h_size_of (av (ev 3) (av (ev 6) eak_nil)))) (el_of (ee_len (b_len T.b_len) (el_new (en_comp (c_lc sc_law.nd [("point", 15)] (ei_read (el_of (ev 7))) (tn 15 sc_law.nd) nm_pure nm_len (q1 (P := fun ds m => ETs (Sta.blk _ _) (setE (wipeE _ _) _ ds) _ m) (fun v732 => (show ETs _ [.sh (a656), .sh (z657), .sh (v667), .sh (z668), .sh (z675), .sh (z689), .sh (z703), .sh (z723), .un, .un, .un, .un, .un, .un, .un, .sh (v732), .un, .un, .un, .un, .un, (mayb (s666)), .un, .un, .un, .un] _ _ from (ets_one (ttr (el_of (xcall h__law_has (av (ev 6) (av (ev 15) eak_nil))))))))) (q1 (P := fun ds m => EE (Sta.blk _ _) (setE (wipeE _ _) _ ds) _ m) (fun v732 => (show EE _ [.sh (a656), .sh (z657), .sh (v667), .sh (z668), .sh (z675), .sh (z689), .sh (z703), .sh (z723), .un, .un, .un, .un, .un, .un, .un, .sh (v732), .un, .un, .un, .un, .un, (mayb (s666)), .un, .un, .un, .un] _ _ from (ev 15)))))))))) (ew_or1 (tcmp c_ne (el_new (en_comp (c_lc sc_law.nd [("point", 15)] (ei_read (el_of (ev 7))) (tn 15 sc_law.nd) nm_pure nm_len (q1 (P := fun ds m => ETs (Sta.blk _ _) (setE (wipeE _ _) _ ds) _ m) (fun v739 => (show ETs _ [.sh (a656), .sh (z657), .sh (v667), .sh (z668), .sh (z675), .sh (z689), .sh (z703), .sh (z723), .un, .un, .un, .un, .un, .un, .un, .sh (v739), .un, .un, .un, .un, .un, (mayb (s666)), .un, .un, .un, .un] _ _ from ets_nil))) (q1 (P := fun ds m => EE (Sta.blk _ _) (setE (wipeE _ _) _ ds) _ m) (fun v739 => (show EE _ [.sh (a656), .sh (z657), .sh (v667), .sh (z668), .sh (z675), .sh (z689), .sh (z703), .sh (z723), .un, .un, .un, .un, .un, .un, .un, .sh (v739), .un, .un, .un, .un, .un, (mayb (s666)), .un, .un, .un, .un] _ _ from (xcall h_has_point (av (ev 3) (av (ev 6) (av (ev 15) eak_nil)))))))))) (el_new (en_comp (c_lc sc_law.nd [("point", 15)] (ei_read (el_of (ev 7))) (tn 15 sc_law.nd) nm_pure nm_len (q1 (P := fun ds m => ETs (Sta.blk _ _) (setE (wipeE _ _) _ ds) _ m) (fun v746 => (show ETs _ [.sh (a656), .sh (z657), .sh (v667), .sh (z668), .sh (z675), .sh (z689), .sh (z703), .sh (z723), .un, .un, .un, .un, .un, .un, .un, .sh (v746), .un, .un, .un, .un, .un, (mayb (s666)), .un, .un, .un, .un] _ _ from ets_nil))) (q1 (P := fun ds m => EE (Sta.blk _ _) (setE (wipeE _ _) _ ds) _ m) (fun v746 => (show EE _ [.sh (a656), .sh (z657), .sh (v667), .sh (z668), .sh (z675), .sh (z689), .sh (z703), .sh (z723), .un, .un, .un, .un, .un, .un, .un, .sh (v746), .un, .un, .un, .un, .un, (mayb (s666)), .un, .un, .un, .un] _ _ from (xcall h__law_has (av (ev 6) (av (ev 15) eak_nil))))))))))))) (sb_ret ee_bl) (sb_nil (.eq (.eq (.eq (.eq (.eq (.eq (.eq (.eq (.un (.un (.un (.un (.un (.un (.un (.un (.un (.un (.un (.un (.un (.eq (.un (.un (.un (.un Le.nil))))))))))))))))))))))))))) fun s754 => (show SB _ [.sh (a656), .sh (z657), .sh (v667), .sh (z668), .sh (z675), .sh (z689), .sh (z703), .sh (z723), .un, .un, .un, .un, .un, .un, .un, .un, .un, .un, .un, .un, .un, (mayb (s666)), .un, .un, .un, .un] _ _ _ _ from (s_set 8 sc_law.nd (xcall h_least_block (av (ev 3) (av (ee_tuplec (b_tuple T.b_tuple) (el_new (en_cat (el_of (ev 5)) (el_new (en_lst (ea_cons (xcall h__law_point (av (ev 1) (av (ev 3) (av (ev 4) eak_nil)))) ea_nil)))))) eak_nil))) (fun z756 => (show SB _ [.sh (a656), .sh (z657), .sh (v667), .sh (z668), .sh (z675), .sh (z689), .sh (z703), .sh (z723), .sh (z756), .un, .un, .un, .un, .un, .un, .un, .un, .un, .un, .un, .un, (mayb (s666)), .un, .un, .un, .un] _ _ _ _ from (sb_if (J := Unit) (shJ := fun s818 => [.sh (a656), .sh (z657), .sh (v667), .sh (z668), .sh (z675), .sh (z689), .sh (z703), .sh (z723), .sh (z756), .un, .un, .un, .un, .un, .un, .un, .un, .un, .un, .un, .un, (mayb (s666)), .un, .un, .un, .un]) (et_not (ttr (el_of (ee_all (b_all T.b_all) (el_new (en_comp (c_lc sc_law.nd [("k", 22)] (ei_range1 (by rfl) T.b_range (el_of (ev 3))) (tn 22 sc_law.nd) nm_pure nm_len (q1 (P := fun ds m => ETs (Sta.blk _ _) (setE (wipeE _ _) _ ds) _ m) (fun v772 => (show ETs _ [.sh (a656), .sh (z657), .sh (v667), .sh (z668), .sh (z675), .sh (z689), .sh (z703), .sh (z723), .sh (z756), .un, .un, .un, .un, .un, .un, .un, .un, .un, .un, .un, .un, (mayb (s666)), .sh (v772), .un, .un, .un] _ _ from ets_nil))) (q1 (P := fun ds m => EE (Sta.blk _ _) (setE (wipeE _ _) _ ds) _ m) (fun v772 => (show EE _ [.sh (a656), .sh (z657), .sh (v667), .sh (z668), .sh (z675), .sh (z689), .sh (z703), .sh (z723), .sh (z756), .un, .un, .un, .un, .un, .un, .un, .un, .un, .un, .un, .un, (mayb (s666)), .sh (v772), .un, .un, .un] _ _ from (ee_and2 (xcmp c_le (el_of (xix (el_of (xix (el_of (ev 8)) (el_of ee_int))) (el_of (ev 22)))) (el_of (xix (el_of (xix (el_of (ev 6)) (el_of ee_int))) (el_of (ev 22))))) (ee_one (xcmp c_le (el_of (xix (el_of (xix (el_of (ev 6)) (el_of ee_int))) (el_of (ev 22)))) (el_of (xix (el_of (xix (el_of (ev 8)) (el_of ee_int))) (el_of (ev 22))))))))))))))))) (sb_ret ee_bl) (sb_nil (.eq (.eq (.eq (.eq (.eq (.eq (.eq (.eq (.eq (.un (.un (.un (.un (.un (.un (.un (.un (.un (.un (.un (.un (.eq (.un (.un (.un (.un Le.nil))))))))))))))))))))))))))) fun s818 => (show SB _ [.sh (a656), .sh (z657), .sh (v667), .sh (z668), .sh (z675), .sh (z689), .sh (z703), .sh (z723), .sh (z756), .un, .un, .un, .un, .un, .un, .un, .un, .un, .un, .un, .un, (mayb (s666)), .un, .un, .un, .un] _ _ _ _ from (s_setC 9 sc_law.nd (c_lc sc_law.nd [("k", 22)] (ei_range1 (by rfl) T.b_range (el_of (xcall h__law_next (av (ev 1) (av ee_int eak_nil))))) (tn 22 sc_law.nd) nm_pure nm_len (q1 (P := fun ds m => ETs (Sta.blk _ _) (setE (wipeE _ _) _ ds) _ m) (fun v825 => (show ETs _ [.sh (a656), .sh (z657), .sh (v667), .sh (z668), .sh (z675), .sh (z689), .sh (z703), .sh (z723), .sh (z756), .un, .un, .un, .un, .un, .un, .un, .un, .un, .un, .un, .un, (mayb (s666)), .sh (v825), .un, .un, .un] _ _ from ets_nil))) (q1 (P := fun ds m => EE (Sta.blk _ _) (setE (wipeE _ _) _ ds) _ m) (fun v825 => (show EE _ [.sh (a656), .sh (z657), .sh (v667), .sh (z668), .sh (z675), .sh (z689), .sh (z703), .sh (z723), .sh (z756), .un, .un, .un, .un, .un, .un, .un, .un, .un, .un, .un, .un, (mayb (s666)), .sh (v825), .un, .un, .un] _ _ from (xcall h__law_point (av (ev 1) (av (ev 3) (av (ev 4) eak_nil)))))))) (lcM_nodict _ _ _ _) (fun z820 => (show SB _ [.sh (a656), .sh (z657), .sh (v667), .sh (z668), .sh (z675), .sh (z689), .sh (z703), .sh (z723), .sh (z756), .sh (z820), .un, .un, .un, .un, .un, .un, .un, .un, .un, .un, .un, (mayb (s666)), .un, .un, .un, .un] _ _ _ _ from (s_set 10 sc_law.nd (ee_tuplec (b_tuple T.b_tuple) (el_new (en_cat (el_new (en_lst (ea_cons (ee_tup (ea_cons (xix (el_of (ev 5)) (el_of ee_int)) (ea_cons ee_int ea_nil))) ea_nil))) (el_new (en_comp (c_lc sc_law.nd [("point", 15)] (ei_read (el_of (ev 9))) (tn 15 sc_law.nd) nm_pure nm_len (q1 (P := fun ds m => ETs (Sta.blk _ _) (setE (wipeE _ _) _ ds) _ m) (fun v844 => (show ETs _ [.sh (a656), .sh (z657), .sh (v667), .sh (z668), .sh (z675), .sh (z689), .sh (z703), .sh (z723), .sh (z756), .sh (z820), .un, .un, .un, .un, .un, .sh (v844), .un, .un, .un, .un, .un, (mayb (s666)), .un, .un, .un, .un] _ _ from ets_nil))) (q1 (P := fun ds m => EE (Sta.blk _ _) (setE (wipeE _ _) _ ds) _ m) (fun v844 => (show EE _ [.sh (a656), .sh (z657), .sh (v667), .sh (z668), .sh (z675), .sh (z689), .sh (z703), .sh (z723), .sh (z756), .sh (z820), .un, .un, .un, .un, .un, .sh (v844), .un, .un, .un, .un, .un, (mayb (s666)), .un, .un, .un, .un] _ _ from (ee_tup (ea_cons (ev 15) (ea_cons (ee_intc (b_int T.b_int) (el_of (xcall h__law_has (av (ev 6) (av (ev 15) eak_nil))))) ea_nil)))))))))))) (fun z832 => (show SB _ [.sh (a656), .sh (z657), .sh (v667), .sh (z668), .sh (z675), .sh (z689), .sh (z703), .sh (z723), .sh (z756), .sh (z820), .sh (z832), .un, .un, .un, .un, .un, .un, .un, .un, .un, .un, (mayb (s666)), .un, .un, .un, .un] _ _ _ _ from (s_setN 11 sc_law.nd (en_lst ea_nil) (fun z857 => (show SB _ [.sh (a656), .sh (z657), .sh (v667), .sh (z668), .sh (z675), .sh (z689), .sh (z703), .sh (z723), .sh (z756), .sh (z820), .sh (z832), .ow (z857), .un, .un, .un, .un, .un, .un, .un, .un, .un, (mayb (s666)), .un, .un, .un, .un] _ _ _ _ from (s_for (Z := D) (sh := fun s858 => [.sh (a656), .sh (z657), .sh (v667), .sh (z668), .sh (z675), .sh (z689), .sh (z703), .sh (z723), .sh (z756), .sh (z820), .sh (z832), .ow (s858), .un, .un, .un, .un, .un, .un, .un, .un, .un, (mayb (s666)), .un, .un, .un, .un]) (ei_seq (ev 7)) (tn 12 sc_law.nd) nm_pure nm_len (.eq (.eq (.eq (.eq (.eq (.eq (.eq (.eq (.eq (.eq (.eq (.eq (.un (.un (.un (.un (.un (.un (.un (.un (.un (.eq (.un (.un (.un (.un Le.nil)))))))))))))))))))))))))) (fun s858 => q1 (P := fun ds m => SB _ (setE _ _ ds) _ m _ _) (fun v859 => (show SB _ [.sh (a656), .sh (z657), .sh (v667), .sh (z668), .sh (z675), .sh (z689), .sh (z703), .sh (z723), .sh (z756), .sh (z820), .sh (z832), .ow (s858), .sh (v859), .un, .un, .un, .un, .un, .un, .un, .un, (mayb (s666)), .un, .un, .un, .un] _ _ _ _ from (s_extend 11 (el_new (en_comp (c_lc sc_law.nd [("high", 24)] (ei_read (el_of (ev 7))) (tn 24 sc_law.nd) nm_pure nm_len (q1 (P := fun ds m => ETs (Sta.blk _ _) (setE (wipeE _ _) _ ds) _ m) (fun v860 => (show ETs _ [.sh (a656), .sh (z657), .sh (v667), .sh (z668), .sh (z675), .sh (z689), .sh (z703), .sh (z723), .sh (z756), .sh (z820), .sh (z832), .ow (s858), .sh (v859), .un, .un, .un, .un, .un, .un, .un, .un, (mayb (s666)), .un, .un, .sh (v860), .un] _ _ from (ets_one (ttr (el_of (ee_all (b_all T.b_all) (el_new (en_comp (c_lc sc_law.nd [("k", 22)] (ei_range1 (by rfl) T.b_range (el_of (ev 3))) (tn 22 sc_law.nd) nm_pure nm_len (q1 (P := fun ds m => ETs (Sta.blk _ _) (setE (wipeE _ _) _ ds) _ m) (fun v861 => (show ETs _ [.sh (a656), .sh (z657), .sh (v667), .sh (z668), .sh (z675), .sh (z689), .sh (z703), .sh (z723), .sh (z756), .sh (z820), .sh (z832), .ow (s858), .sh (v859), .un, .un, .un, .un, .un, .un, .un, .un, (mayb (s666)), .sh (v861), .un, .sh (v860), .un] _ _ from ets_nil))) (q1 (P := fun ds m => EE (Sta.blk _ _) (setE (wipeE _ _) _ ds) _ m) (fun v861 => (show EE _ [.sh (a656), .sh (z657), .sh (v667), .sh (z668), .sh (z675), .sh (z689), .sh (z703), .sh (z723), .sh (z756), .sh (z820), .sh (z832), .ow (s858), .sh (v859), .un, .un, .un, .un, .un, .un, .un, .un, (mayb (s666)), .sh (v861), .un, .sh (v860), .un] _ _ from (xcmp c_le (el_of (xix (el_of (ev 12)) (el_of (ev 22)))) (el_of (xix (el_of (ev 24)) (el_of (ev 22)))))))))))))))))) (q1 (P := fun ds m => EE (Sta.blk _ _) (setE (wipeE _ _) _ ds) _ m) (fun v860 => (show EE _ [.sh (a656), .sh (z657), .sh (v667), .sh (z668), .sh (z675), .sh (z689), .sh (z703), .sh (z723), .sh (z756), .sh (z820), .sh (z832), .ow (s858), .sh (v859), .un, .un, .un, .un, .un, .un, .un, .un, (mayb (s666)), .un, .un, .sh (v860), .un] _ _ from (ee_tup (ea_cons (ev 12) (ea_cons (ev 24) ea_nil))))))))) fun z881 => (show SB _ [.sh (a656), .sh (z657), .sh (v667), .sh (z668), .sh (z675), .sh (z689), .sh (z703), .sh (z723), .sh (z756), .sh (z820), .sh (z832), .ow (z881), .sh (v859), .un, .un, .un, .un, .un, .un, .un, .un, (mayb (s666)), .un, .un, .un, .un] _ _ _ _ from (sb_nil (.eq (.eq (.eq (.eq (.eq (.eq (.eq (.eq (.eq (.eq (.eq (.eq (.un (.un (.un (.un (.un (.un (.un (.un (.un (.eq (.un (.un (.un (.un Le.nil)))))))))))))))))))))))))))))))) fun s858 => (show SB _ [.sh (a656), .sh (z657), .sh (v667), .sh (z668), .sh (z675), .sh (z689), .sh (z703), .sh (z723), .sh (z756), .sh (z820), .sh (z832), .ow (s858), .un, .un, .un, .un, .un, .un, .un, .un, .un, (mayb (s666)), .un, .un, .un, .un] _ _ _ _ from (s_setC 13 sc_law.nd (c_lc sc_law.nd [("one", 23)] (ei_read (evo 11)) (tn 23 sc_law.nd) nm_pure nm_len (q1 (P := fun ds m => ETs (Sta.blk _ _) (setE (wipeE _ _) _ ds) _ m) (fun v885 => (show ETs _ [.sh (a656), .sh (z657), .sh (v667), .sh (z668), .sh (z675), .sh (z689), .sh (z703), .sh (z723), .sh (z756), .sh (z820), .sh (z832), .ow (s858), .un, .un, .un, .un, .un, .un, .un, .un, .un, (mayb (s666)), .un, .sh (v885), .un, .un] _ _ from (ets_one (ttr (el_of (ee_all (b_all T.b_all) (el_new (en_comp (c_lc sc_law.nd [("point", 15), ("bit", 25)] (ei_read (el_of (ev 10))) (tt (tc (ix := [15]) (jx := [25]) nm_pure (unc_pure nm_pure un0_pure) nm_len (tn 15 sc_law.nd) (tc (ix := [25]) (jx := []) nm_pure un0_pure nm_len (tn 25 sc_law.nd) tgs_nil)) (unc_len (n := 1) (l := 1) nm_len (unc_len (n := 1) (l := 0) nm_len un0_len))) (unT_pure (unc_pure nm_pure (unc_pure nm_pure un0_pure))) (unT_len (unc_len (n := 1) (l := 1) nm_len (unc_len (n := 1) (l := 0) nm_len un0_len))) (q2 (P := fun ds m => ETs (Sta.blk _ _) (setE (wipeE _ _) _ ds) _ m) (fun v886 v887 => (show ETs _ [.sh (a656), .sh (z657), .sh (v667), .sh (z668), .sh (z675), .sh (z689), .sh (z703), .sh (z723), .sh (z756), .sh (z820), .sh (z832), .ow (s858), .un, .un, .un, .sh (v886), .un, .un, .un, .un, .un, (mayb (s666)), .un, .sh (v885), .un, .sh (v887)] _ _ from ets_nil))) (q2 (P := fun ds m => EE (Sta.blk _ _) (setE (wipeE _ _) _ ds) _ m) (fun v886 v887 => (show EE _ [.sh (a656), .sh (z657), .sh (v667), .sh (z668), .sh (z675), .sh (z689), .sh (z703), .sh (z723), .sh (z756), .sh (z820), .sh (z832), .ow (s858), .un, .un, .un, .sh (v886), .un, .un, .un, .un, .un, (mayb (s666)), .un, .sh (v885), .un, .sh (v887)] _ _ from (xcmp c_eq (el_of (ee_intc (b_int T.b_int) (el_of (xcall h__law_has (av (ev 23) (av (ev 15) eak_nil)))))) (el_of (ev 25)))))))))))))))) (q1 (P := fun ds m => EE (Sta.blk _ _) (setE (wipeE _ _) _ ds) _ m) (fun v885 => (show EE _ [.sh (a656), .sh (z657), .sh (v667), .sh (z668), .sh (z675), .sh (z689), .sh (z703), .sh (z723), .sh (z756), .sh (z820), .sh (z832), .ow (s858), .un, .un, .un, .un, .un, .un, .un, .un, .un, (mayb (s666)), .un, .sh (v885), .un, .un] _ _ from (ev 23))))) (lcM_nodict _ _ _ _) (fun z884 => (show SB _ [.sh (a656), .sh (z657), .sh (v667), .sh (z668), .sh (z675), .sh (z689), .sh (z703), .sh (z723), .sh (z756), .sh (z820), .sh (z832), .ow (s858), .un, .sh (z884), .un, .un, .un, .un, .un, .un, .un, (mayb (s666)), .un, .un, .un, .un] _ _ _ _ from (s_set 14 sc_law.nd (xcall h__law_fitting (av (ev 3) (av (ev 10) eak_nil))) (fun z901 => (show SB _ [.sh (a656), .sh (z657), .sh (v667), .sh (z668), .sh (z675), .sh (z689), .sh (z703), .sh (z723), .sh (z756), .sh (z820), .sh (z832), .ow (s858), .un, .sh (z884), .sh (z901), .un, .un, .un, .un, .un, .un, (mayb (s666)), .un, .un, .un, .un] _ _ _ _ from (sb_if (J := Unit) (shJ := fun s925 => [.sh (a656), .sh (z657), .sh (v667), .sh (z668), .sh (z675), .sh (z689), .sh (z703), .sh (z723), .sh (z756), .sh (z820), .sh (z832), .ow (s858), .un, .sh (z884), .sh (z901), .un, .un, .un, .un, .un, .un, (mayb (s666)), .un, .un, .un, .un]) (et_w (ew_or (tcmp c_nin (el_of (ev 14)) (el_of (ev 13))) (ew_or1 (et_not (ttr (el_of (ee_all (b_all T.b_all) (el_new (en_comp (c_lc sc_law.nd [("one", 23)] (ei_read (el_of (ev 13))) (tn 23 sc_law.nd) nm_pure nm_len (q1 (P := fun ds m => ETs (Sta.blk _ _) (setE (wipeE _ _) _ ds) _ m) (fun v908 => (show ETs _ [.sh (a656), .sh (z657), .sh (v667), .sh (z668), .sh (z675), .sh (z689), .sh (z703), .sh (z723), .sh (z756), .sh (z820), .sh (z832), .ow (s858), .un, .sh (z884), .sh (z901), .un, .un, .un, .un, .un, .un, (mayb (s666)), .un, .sh (v908), .un, .un] _ _ from ets_nil))) (q1 (P := fun ds m => EE (Sta.blk _ _) (setE (wipeE _ _) _ ds) _ m) (fun v908 => (show EE _ [.sh (a656), .sh (z657), .sh (v667), .sh (z668), .sh (z675), .sh (z689), .sh (z703), .sh (z723), .sh (z756), .sh (z820), .sh (z832), .ow (s858), .un, .sh (z884), .sh (z901), .un, .un, .un, .un, .un, .un, (mayb (s666)), .un, .sh (v908), .un, .un] _ _ from (ee_and2 (xcall h__law_has (av (ev 23) (av (xix (el_of (ev 14)) (el_of ee_int)) eak_nil))) (ee_one (xcall h__law_has (av (ev 23) (av (xix (el_of (ev 14)) (el_of ee_int)) eak_nil)))))))))))))))))) (sb_ret ee_bl) (sb_nil (.eq (.eq (.eq (.eq (.eq (.eq (.eq (.eq (.eq (.eq (.eq (.eq (.un (.eq (.eq (.un (.un (.un (.un (.un (.un (.eq (.un (.un (.un (.un Le.nil))))))))))))))))))))))))))) fun s925 => (show SB _ [.sh (a656), .sh (z657), .sh (v667), .sh (z668), .sh (z675), .sh (z689), .sh (z703), .sh (z723), .sh (z756), .sh (z820), .sh (z832), .ow (s858), .un, .sh (z884), .sh (z901), .un, .un, .un, .un, .un, .un, (mayb (s666)), .un, .un, .un, .un] _ _ _ _ from (s_for (Z := Unit) (sh := fun s932 => [.sh (a656), .sh (z657), .sh (v667), .sh (z668), .sh (z675), .sh (z689), .sh (z703), .sh (z723), .sh (z756), .sh (z820), .sh (z832), .ow (s858), .un, .sh (z884), .sh (z901), .un, .un, .un, .un, .un, .un, (mayb (s666)), .un, .un, .un, .un]) (ei_seq (ee_new (en_cat (el_new (en_slL (el_of (ev 7)) eo_none (eo_some (el_of ee_int)))) (el_of (ev 9))))) (tn 15 sc_law.nd) nm_pure nm_len (.eq (.eq (.eq (.eq (.eq (.eq (.eq (.eq (.eq (.eq (.eq (.eq (.un (.eq (.eq (.un (.un (.un (.un (.un (.un (.eq (.un (.un (.un (.un Le.nil)))))))))))))))))))))))))) (fun s932 => q1 (P := fun ds m => SB _ (setE _ _ ds) _ m _ _) (fun v933 => (show SB _ [.sh (a656), .sh (z657), .sh (v667), .sh (z668), .sh (z675), .sh (z689), .sh (z703), .sh (z723), .sh (z756), .sh (z820), .sh (z832), .ow (s858), .un, .sh (z884), .sh (z901), .sh (v933), .un, .un, .un, .un, .un, (mayb (s666)), .un, .un, .un, .un] _ _ _ _ from (s_set 16 sc_law.nd (ee_new (en_ssetI (b_sorted T.b_sorted) (b_set T.b_set) (el_new (en_comp (c_lc sc_law.nd [("one", 23)] (ei_read (el_of (ev 13))) (tn 23 sc_law.nd) nm_pure nm_len (q1 (P := fun ds m => ETs (Sta.blk _ _) (setE (wipeE _ _) _ ds) _ m) (fun v935 => (show ETs _ [.sh (a656), .sh (z657), .sh (v667), .sh (z668), .sh (z675), .sh (z689), .sh (z703), .sh (z723), .sh (z756), .sh (z820), .sh (z832), .ow (s858), .un, .sh (z884), .sh (z901), .sh (v933), .un, .un, .un, .un, .un, (mayb (s666)), .un, .sh (v935), .un, .un] _ _ from ets_nil))) (q1 (P := fun ds m => EE (Sta.blk _ _) (setE (wipeE _ _) _ ds) _ m) (fun v935 => (show EE _ [.sh (a656), .sh (z657), .sh (v667), .sh (z668), .sh (z675), .sh (z689), .sh (z703), .sh (z723), .sh (z756), .sh (z820), .sh (z832), .ow (s858), .un, .sh (z884), .sh (z901), .sh (v933), .un, .un, .un, .un, .un, (mayb (s666)), .un, .sh (v935), .un, .un] _ _ from (ee_intc (b_int T.b_int) (el_of (xcall h__law_has (av (ev 23) (av (ev 15) eak_nil))))))))))))) (fun z934 => (show SB _ [.sh (a656), .sh (z657), .sh (v667), .sh (z668), .sh (z675), .sh (z689), .sh (z703), .sh (z723), .sh (z756), .sh (z820), .sh (z832), .ow (s858), .un, .sh (z884), .sh (z901), .sh (v933), .sh (z934), .un, .un, .un, .un, (mayb (s666)), .un, .un, .un, .un] _ _ _ _ from (s_set 17 sc_law.nd (xix (el_new (en_lst (ea_cons ee_non (ea_cons (xix (el_of (ev 16)) (el_of ee_int)) ea_nil)))) (el_of (ee_intc (b_int T.b_int) (el_of (xcmp c_eq (el_of (ee_len (b_len T.b_len) (el_of (ev 16)))) (el_of ee_int)))))) (fun z940 => (show SB _ [.sh (a656), .sh (z657), .sh (v667), .sh (z668), .sh (z675), .sh (z689), .sh (z703), .sh (z723), .sh (z756), .sh (z820), .sh (z832), .ow (s858), .un, .sh (z884), .sh (z901), .sh (v933), .sh (z934), .sh (z940), .un, .un, .un, (mayb (s666)), .un, .un, .un, .un] _ _ _ _ from (sb_if (J := Unit) (shJ := fun s964 => [.sh (a656), .sh (z657), .sh (v667), .sh (z668), .sh (z675), .sh (z689), .sh (z703), .sh (z723), .sh (z756), .sh (z820), .sh (z832), .ow (s858), .un, .sh (z884), .sh (z901), .sh (v933), .sh (z934), .sh (z940), .un, .un, .un, (mayb (s666)), .un, .un, .un, .un]) (tcmp c_ne (el_of (xcall h_settled (av (ev 3) (av (ev 10) (av (ev 15) eak_nil))))) (el_of (ev 17))) (sb_ret ee_bl) (sb_nil (.eq (.eq (.eq (.eq (.eq (.eq (.eq (.eq (.eq (.eq (.eq (.eq (.un (.eq (.eq (.eq (.eq (.eq (.un (.un (.un (.eq (.un (.un (.un (.un Le.nil))))))))))))))))))))))))))) fun s964 => (show SB _ [.sh (a656), .sh (z657), .sh (v667), .sh (z668), .sh (z675), .sh (z689), .sh (z703), .sh (z723), .sh (z756), .sh (z820), .sh (z832), .ow (s858), .un, .sh (z884), .sh (z901), .sh (v933), .sh (z934), .sh (z940), .un, .un, .un, (mayb (s666)), .un, .un, .un, .un] _ _ _ _ from (sb_if (J := Unit) (shJ := fun s990 => [.sh (a656), .sh (z657), .sh (v667), .sh (z668), .sh (z675), .sh (z689), .sh (z703), .sh (z723), .sh (z756), .sh (z820), .sh (z832), .ow (s858), .un, .sh (z884), .sh (z901), .sh (v933), .sh (z934), .sh (z940), .un, .un, .un, (mayb (s666)), .un, .un, .un, .un]) (et_w (ew_and (tcmp c_nis (el_of (ev 17)) (el_of ee_non)) (ew_and1 (tcmp c_ne (el_of (xcall h_settled (av (ev 3) (av (ee_add (el_of (ev 10)) (el_of (ee_tup (ea_cons (ee_tup (ea_cons (xix (el_of (ev 5)) (el_of (ee_neg (el_of ee_int)))) (ea_cons ee_int ea_nil))) ea_nil)))) (av (ev 15) eak_nil))))) (el_of (ev 17)))))) (sb_ret ee_bl) (sb_nil (.eq (.eq (.eq (.eq (.eq (.eq (.eq (.eq (.eq (.eq (.eq (.eq (.un (.eq (.eq (.eq (.eq (.eq (.un (.un (.un (.eq (.un (.un (.un (.un Le.nil))))))))))))))))))))))))))) fun s990 => (show SB _ [.sh (a656), .sh (z657), .sh (v667), .sh (z668), .sh (z675), .sh (z689), .sh (z703), .sh (z723), .sh (z756), .sh (z820), .sh (z832), .ow (s858), .un, .sh (z884), .sh (z901), .sh (v933), .sh (z934), .sh (z940), .un, .un, .un, (mayb (s666)), .un, .un, .un, .un] _ _ _ _ from (sb_nil (.eq (.eq (.eq (.eq (.eq (.eq (.eq (.eq (.eq (.eq (.eq (.eq (.un (.eq (.eq (.un (.un (.un (.un (.un (.un (.eq (.un (.un (.un (.un Le.nil)))))))))))))))))))))))))))))))))))))))) fun s932 => (show SB _ [.sh (a656), .sh (z657), .sh (v667), .sh (z668), .sh (z675), .sh (z689), .sh (z703), .sh (z723), .sh (z756), .sh (z820), .sh (z832), .ow (s858), .un, .sh (z884), .sh (z901), .un, .un, .un, .un, .un, .un, (mayb (s666)), .un, .un, .un, .un] _ _ _ _ from (s_set 18 sc_law.nd (ee_add (el_of (ev 10)) (el_of (ee_tup (ea_cons (ee_tup (ea_cons (xix (el_of (ev 14)) (el_of ee_int)) (ea_cons ee_int ea_nil))) ea_nil)))) (fun z994 => (show SB _ [.sh (a656), .sh (z657), .sh (v667), .sh (z668), .sh (z675), .sh (z689), .sh (z703), .sh (z723), .sh (z756), .sh (z820), .sh (z832), .ow (s858), .un, .sh (z884), .sh (z901), .un, .un, .un, .sh (z994), .un, .un, (mayb (s666)), .un, .un, .un, .un] _ _ _ _ from (sb_if (J := Unit) (shJ := fun s1024 => [.sh (a656), .sh (z657), .sh (v667), .sh (z668), .sh (z675), .sh (z689), .sh (z703), .sh (z723), .sh (z756), .sh (z820), .sh (z832), .ow (s858), .un, .sh (z884), .sh (z901), .un, .un, .un, .sh (z994), .un, .un, (mayb (s666)), .un, .un, .un, .un]) (et_w (ew_or (tcmp c_ne (el_of (xcall h__law_fitting (av (ev 3) (av (ev 18) eak_nil)))) (el_of ee_str)) (ew_or1 (et_not (ttr (el_of (xcall h__law_has (av (ev 14) (av (xcall h_barred_by (av (ev 3) (av (ev 18) eak_nil))) eak_nil))))))))) (sb_ret ee_bl) (sb_nil (.eq (.eq (.eq (.eq (.eq (.eq (.eq (.eq (.eq (.eq (.eq (.eq (.un (.eq (.eq (.un (.un (.un (.eq (.un (.un (.eq (.un (.un (.un (.un Le.nil))))))))))))))))))))))))))) fun s1024 => (show SB _ [.sh (a656), .sh (z657), .sh (v667), .sh (z668), .sh (z675), .sh (z689), .sh (z703), .sh (z723), .sh (z756), .sh (z820), .sh (z832), .ow (s858), .un, .sh (z884), .sh (z901), .un, .un, .un, .sh (z994), .un, .un, (mayb (s666)), .un, .un, .un, .un] _ _ _ _ from (s_set 19 sc_law.nd (xmake h_BlockAsker___init__ (av (ev 3) (av (xix (el_of (ev 5)) (el_of ee_int)) eak_nil))) (fun z1026 => (show SB _ [.sh (a656), .sh (z657), .sh (v667), .sh (z668), .sh (z675), .sh (z689), .sh (z703), .sh (z723), .sh (z756), .sh (z820), .sh (z832), .ow (s858), .un, .sh (z884), .sh (z901), .un, .un, .un, .sh (z994), .sh (z1026), .un, (mayb (s666)), .un, .un, .un, .un] _ _ _ _ from (s_for (Z := Option D) (sh := fun s1033 => [.sh (a656), .sh (z657), .sh (v667), .sh (z668), .sh (z675), .sh (z689), .sh (z703), .sh (z723), .sh (z756), .sh (z820), .sh (z832), .ow (s858), .un, .sh (z884), .sh (z901), .un, .un, .un, .sh (z994), .sh (z1026), .un, (mayb (s1033)), .un, .un, .un, .un]) (ei_range1 (by rfl) T.b_range (el_of ee_int)) (tn 20 sc_law.nd) nm_pure nm_len (.eq (.eq (.eq (.eq (.eq (.eq (.eq (.eq (.eq (.eq (.eq (.eq (.un (.eq (.eq (.un (.un (.un (.eq (.eq (.un (.eq (.un (.un (.un (.un Le.nil)))))))))))))))))))))))))) (fun s1033 => q1 (P := fun ds m => SB _ (setE _ _ ds) _ m _ _) (fun v1034 => (show SB _ [.sh (a656), .sh (z657), .sh (v667), .sh (z668), .sh (z675), .sh (z689), .sh (z703), .sh (z723), .sh (z756), .sh (z820), .sh (z832), .ow (s858), .un, .sh (z884), .sh (z901), .un, .un, .un, .sh (z994), .sh (z1026), .sh (v1034), (mayb (s1033)), .un, .un, .un, .un] _ _ _ _ from (s_set 21 sc_law.nd (xmeth0 T.k_BlockAsker h_BlockAsker_step (ev 19)) (fun z1035 => (show SB _ [.sh (a656), .sh (z657), .sh (v667), .sh (z668), .sh (z675), .sh (z689), .sh (z703), .sh (z723), .sh (z756), .sh (z820), .sh (z832), .ow (s858), .un, .sh (z884), .sh (z901), .un, .un, .un, .sh (z994), .sh (z1026), .sh (v1034), .sh (z1035), .un, .un, .un, .un] _ _ _ _ from (sb_if (J := Unit) (shJ := fun s1040 => [.sh (a656), .sh (z657), .sh (v667), .sh (z668), .sh (z675), .sh (z689), .sh (z703), .sh (z723), .sh (z756), .sh (z820), .sh (z832), .ow (s858), .un, .sh (z884), .sh (z901), .un, .un, .un, .sh (z994), .sh (z1026), .sh (v1034), .sh (z1035), .un, .un, .un, .un]) (tcmp c_eq (el_of (xix (el_of (ev 21)) (el_of ee_int))) (el_of ee_str)) (sb_break (.eq (.eq (.eq (.eq (.eq (.eq (.eq (.eq (.eq (.eq (.eq (.eq (.un (.eq (.eq (.un (.un (.un (.eq (.eq (.un (.eq (.un (.un (.un (.un Le.nil))))))))))))))))))))))))))) (sb_nil (.eq (.eq (.eq (.eq (.eq (.eq (.eq (.eq (.eq (.eq (.eq (.eq (.un (.eq (.eq (.un (.un (.un (.eq (.eq (.eq (.eq (.un (.un (.un (.un Le.nil))))))))))))))))))))))))))) fun s1040 => (show SB _ [.sh (a656), .sh (z657), .sh (v667), .sh (z668), .sh (z675), .sh (z689), .sh (z703), .sh (z723), .sh (z756), .sh (z820), .sh (z832), .ow (s858), .un, .sh (z884), .sh (z901), .un, .un, .un, .sh (z994), .sh (z1026), .sh (v1034), .sh (z1035), .un, .un, .un, .un] _ _ _ _ from (s_expr (el_of (xmeth T.k_BlockAsker h_BlockAsker_tell (ev 19) (av (ee_intc (b_int T.b_int) (el_of (xcall h__law_has (av (ev 6) (av (xix (el_of (ev 21)) (el_of ee_int)) eak_nil))))) eak_nil))) (show SB _ [.sh (a656), .sh (z657), .sh (v667), .sh (z668), .sh (z675), .sh (z689), .sh (z703), .sh (z723), .sh (z756), .sh (z820), .sh (z832), .ow (s858), .un, .sh (z884), .sh (z901), .un, .un, .un, .sh (z994), .sh (z1026), .sh (v1034), .sh (z1035), .un, .un, .un, .un] _ _ _ _ from (sb_nil (.eq (.eq (.eq (.eq (.eq (.eq (.eq (.eq (.eq (.eq (.eq (.eq (.un (.eq (.eq (.un (.un (.un (.eq (.eq (.un (.eq (.un (.un (.un (.un Le.nil))))))))))))))))))))))))))))))))))))) fun s1033 => (show SB _ [.sh (a656), .sh (z657), .sh (v667), .sh (z668), .sh (z675), .sh (z689), .sh (z703), .sh (z723), .sh (z756), .sh (z820), .sh (z832), .ow (s858), .un, .sh (z884), .sh (z901), .un, .un, .un, .sh (z994), .sh (z1026), .un, (mayb (s1033)), .un, .un, .un, .un] _ _ _ _ from (sb_if (J := Unit) (shJ := fun s1064 => [.sh (a656), .sh (z657), .sh (v667), .sh (z668), .sh (z675), .sh (z689), .sh (z703), .sh (z723), .sh (z756), .sh (z820), .sh (z832), .ow (s858), .un, .sh (z884), .sh (z901), .un, .un, .un, .sh (z994), .sh (z1026), .un, (mayb (s1033)), .un, .un, .un, .un]) (et_w (ew_or (tcmp c_ne (el_of (evm 21)) (el_of (ee_tup (ea_cons ee_str (ea_cons (ev 6) ea_nil))))) (ew_or1 (tcmp c_gt (el_of (xmeth0 T.k_BlockAsker h_BlockAsker_asked (ev 19))) (el_of (ee_mul (el_of ee_int) (el_of (ev 3)))))))) (sb_ret ee_bl) (sb_nil (.eq (.eq (.eq (.eq (.eq (.eq (.eq (.eq (.eq (.eq (.eq (.eq (.un (.eq (.eq (.un (.un (.un (.eq (.eq (.un (.eq (.un (.un (.un (.un Le.nil))))))))))))))))))))))))))) fun s1064 => (show SB _ [.sh (a656), .sh (z657), .sh (v667), .sh (z668), .sh (z675), .sh (z689), .sh (z703), .sh (z723), .sh (z756), .sh (z820), .sh (z832), .ow (s858), .un, .sh (z884), .sh (z901), .un, .un, .un, .sh (z994), .sh (z1026), .un, (mayb (s1033)), .un, .un, .un, .un] _ _ _ _ from (sb_nil (.eq (.eq (.un (.un (.un (.un (.un (.un (.un (.un (.un (.un (.un (.un (.un (.un (.un (.un (.un (.un (.un (.eq (.un (.un (.un (.un Le.nil)))))))))))))))))))))))))))))))))))))))))))))))) (hs := sw_lc rfl)))))))))))) (hs := sw_lc rfl))))))))))))))))))) (hs := sw_lc rfl))))))))))) fun s666 => (show SB _ [.sh (a656), .sh (z657), .un, .un, .un, .un, .un, .un, .un, .un, .un, .un, .un, .un, .un, .un, .un, .un, .un, .un, .un, (mayb (s666)), .un, .un, .un, .un] _ _ _ _ from (sb_ret ee_bl)))))))))
theorem all_mk {l : PySem.W.OpenLaw} {w : World} {K : PySem.W.Frag} {h : Heap} {mg : Str → Option Value} {fa C0 E100 E101 E102 E103 E104 E105 f0 f1 f2 f3 f4 f5 f6 f7 f8 f9 f10 f11 f12 f13 f14 f15 f16 f17 f18 f19 f20 f21 f22 f23 f24 f25 : Addr} (X : K.In h) (G : h.Ns mainGlobals mg) (hfa : mg "law" = some (.ref fa))
    {od0 an0 od1 an1 od2 an2 od3 an3 od4 an4 od5 an5 od6 an6 od7 an7 od8 an8 od9 an9 od10 an10 od11 an11 od12 an12 od13 an13 od14 an14 od15 an15 od16 an16 od17 an17 od18 an18 od19 an19 od20 an20 od21 an21 od22 an22 od23 an23 od24 an24 od25 an25 : Option Addr} {sl0 sl1 sl2 sl3 sl4 sl5 sl6 sl7 sl8 sl9 sl10 sl11 sl12 sl13 sl14 sl15 sl16 sl17 sl18 sl19 sl20 sl21 sl22 sl23 sl24 sl25 : Array (Option Value)} {oc0 kV0 dc0 pm0 cd0 ct0 oc1 kV1 dc1 pm1 cd1 ct1 oc2 kV2 dc2 pm2 cd2 ct2 oc3 kV3 dc3 pm3 cd3 ct3 oc4 kV4 dc4 pm4 cd4 ct4 oc5 kV5 dc5 pm5 cd5 ct5 oc6 kV6 dc6 pm6 cd6 ct6 oc7 kV7 dc7 pm7 cd7 ct7 oc8 kV8 dc8 pm8 cd8 ct8 oc9 kV9 dc9 pm9 cd9 ct9 oc10 kV10 dc10 pm10 cd10 ct10 oc11 kV11 dc11 pm11 cd11 ct11 oc12 kV12 dc12 pm12 cd12 ct12 oc13 kV13 dc13 pm13 cd13 ct13 oc14 kV14 dc14 pm14 cd14 ct14 oc15 kV15 dc15 pm15 cd15 ct15 oc16 kV16 dc16 pm16 cd16 ct16 oc17 kV17 dc17 pm17 cd17 ct17 oc18 kV18 dc18 pm18 cd18 ct18 oc19 kV19 dc19 pm19 cd19 ct19 oc20 kV20 dc20 pm20 cd20 ct20 oc21 kV21 dc21 pm21 cd21 ct21 oc22 kV22 dc22 pm22 cd22 ct22 oc23 kV23 dc23 pm23 cd23 ct23 oc24 kV24 dc24 pm24 cd24 ct24 oc25 kV25 dc25 pm25 cd25 ct25 : Value} {t_MAX_PLACE t_MAX_SIDES : Tok}
    (a0 : PySem.W.nsIn K mainGlobals "check_point" = some (some (.ref f0)))
    (l0 : K.lookup f0 = some ⟨oc0, od0, .func (PySem.W.fnOf "check_point" "check_point" (defArgs s_check_point) (defBody s_check_point) (defScope s_check_point) .none kV0 dc0 pm0 an0 cd0 ct0), sl0⟩) (c0 : PySem.W.codeIn K cd0 "check_point" = true) (k0 : PySem.W.keepIn K (.ref f0) = true)
    (a1 : PySem.W.nsIn K mainGlobals "check_block" = some (some (.ref f1)))
    (l1 : K.lookup f1 = some ⟨oc1, od1, .func (PySem.W.fnOf "check_block" "check_block" (defArgs s_check_block) (defBody s_check_block) (defScope s_check_block) .none kV1 dc1 pm1 an1 cd1 ct1), sl1⟩) (c1 : PySem.W.codeIn K cd1 "check_block" = true) (k1 : PySem.W.keepIn K (.ref f1) = true)
    (a2 : PySem.W.nsIn K mainGlobals "lies_in" = some (some (.ref f2)))
    (l2 : K.lookup f2 = some ⟨oc2, od2, .func (PySem.W.fnOf "lies_in" "lies_in" (defArgs s_lies_in) (defBody s_lies_in) (defScope s_lies_in) .none kV2 dc2 pm2 an2 cd2 ct2), sl2⟩) (c2 : PySem.W.codeIn K cd2 "lies_in" = true) (k2 : PySem.W.keepIn K (.ref f2) = true)
    (a3 : PySem.W.nsIn K mainGlobals "has_point" = some (some (.ref f3)))
    (l3 : K.lookup f3 = some ⟨oc3, od3, .func (PySem.W.fnOf "has_point" "has_point" (defArgs s_has_point) (defBody s_has_point) (defScope s_has_point) .none kV3 dc3 pm3 an3 cd3 ct3), sl3⟩) (c3 : PySem.W.codeIn K cd3 "has_point" = true) (k3 : PySem.W.keepIn K (.ref f3) = true)
    (a4 : PySem.W.nsIn K mainGlobals "least_of" = some (some (.ref f4)))
    (l4 : K.lookup f4 = some ⟨oc4, od4, .func (PySem.W.fnOf "least_of" "least_of" (defArgs s_least_of) (defBody s_least_of) (defScope s_least_of) .none kV4 dc4 pm4 an4 cd4 ct4), sl4⟩) (c4 : PySem.W.codeIn K cd4 "least_of" = true) (k4 : PySem.W.keepIn K (.ref f4) = true)
    (a5 : PySem.W.nsIn K mainGlobals "least_block" = some (some (.ref f5)))
    (l5 : K.lookup f5 = some ⟨oc5, od5, .func (PySem.W.fnOf "least_block" "least_block" (defArgs s_least_block) (defBody s_least_block) (defScope s_least_block) .none kV5 dc5 pm5 an5 cd5 ct5), sl5⟩) (c5 : PySem.W.codeIn K cd5 "least_block" = true) (k5 : PySem.W.keepIn K (.ref f5) = true)
    (a6 : PySem.W.nsIn K mainGlobals "check_answers" = some (some (.ref f6)))
    (l6 : K.lookup f6 = some ⟨oc6, od6, .func (PySem.W.fnOf "check_answers" "check_answers" (defArgs s_check_answers) (defBody s_check_answers) (defScope s_check_answers) .none kV6 dc6 pm6 an6 cd6 ct6), sl6⟩) (c6 : PySem.W.codeIn K cd6 "check_answers" = true) (k6 : PySem.W.keepIn K (.ref f6) = true)
    (a7 : PySem.W.nsIn K mainGlobals "fitting" = some (some (.ref f7)))
    (l7 : K.lookup f7 = some ⟨oc7, od7, .func (PySem.W.fnOf "fitting" "fitting" (defArgs s_fitting) (defBody s_fitting) (defScope s_fitting) .none kV7 dc7 pm7 an7 cd7 ct7), sl7⟩) (c7 : PySem.W.codeIn K cd7 "fitting" = true) (k7 : PySem.W.keepIn K (.ref f7) = true)
    (a8 : PySem.W.nsIn K mainGlobals "barred_by" = some (some (.ref f8)))
    (l8 : K.lookup f8 = some ⟨oc8, od8, .func (PySem.W.fnOf "barred_by" "barred_by" (defArgs s_barred_by) (defBody s_barred_by) (defScope s_barred_by) .none kV8 dc8 pm8 an8 cd8 ct8), sl8⟩) (c8 : PySem.W.codeIn K cd8 "barred_by" = true) (k8 : PySem.W.keepIn K (.ref f8) = true)
    (a9 : PySem.W.nsIn K mainGlobals "settled" = some (some (.ref f9)))
    (l9 : K.lookup f9 = some ⟨oc9, od9, .func (PySem.W.fnOf "settled" "settled" (defArgs s_settled) (defBody s_settled) (defScope s_settled) .none kV9 dc9 pm9 an9 cd9 ct9), sl9⟩) (c9 : PySem.W.codeIn K cd9 "settled" = true) (k9 : PySem.W.keepIn K (.ref f9) = true)
    (a10 : PySem.W.nsIn K mainGlobals "size_of" = some (some (.ref f10)))
    (l10 : K.lookup f10 = some ⟨oc10, od10, .func (PySem.W.fnOf "size_of" "size_of" (defArgs s_size_of) (defBody s_size_of) (defScope s_size_of) .none kV10 dc10 pm10 an10 cd10 ct10), sl10⟩) (c10 : PySem.W.codeIn K cd10 "size_of" = true) (k10 : PySem.W.keepIn K (.ref f10) = true)
    (a11 : PySem.W.findIn K (.ref C0) "begin" = some (some (.ref f11))) (i11 : PySem.W.isFn K (.ref f11) = true)
    (l11 : K.lookup f11 = some ⟨oc11, od11, .func (PySem.W.fnOf "begin" "BlockAsker.begin" (defArgs s_BlockAsker_begin) (defBody s_BlockAsker_begin) (defScope s_BlockAsker_begin) .none kV11 dc11 pm11 an11 cd11 ct11), sl11⟩) (c11 : PySem.W.codeIn K cd11 "BlockAsker.begin" = true) (k11 : PySem.W.keepIn K (.ref f11) = true)
    (a12 : PySem.W.findIn K (.ref C0) "__init__" = some (some (.ref f12))) (i12 : PySem.W.isFn K (.ref f12) = true)
    (l12 : K.lookup f12 = some ⟨oc12, od12, .func (PySem.W.fnOf "__init__" "BlockAsker.__init__" (defArgs s_BlockAsker___init__) (defBody s_BlockAsker___init__) (defScope s_BlockAsker___init__) .none kV12 dc12 pm12 an12 cd12 ct12), sl12⟩) (c12 : PySem.W.codeIn K cd12 "BlockAsker.__init__" = true) (k12 : PySem.W.keepIn K (.ref f12) = true)
    (a13 : PySem.W.findIn K (.ref C0) "middle" = some (some (.ref f13))) (i13 : PySem.W.isFn K (.ref f13) = true)
    (l13 : K.lookup f13 = some ⟨oc13, od13, .func (PySem.W.fnOf "middle" "BlockAsker.middle" (defArgs s_BlockAsker_middle) (defBody s_BlockAsker_middle) (defScope s_BlockAsker_middle) .none kV13 dc13 pm13 an13 cd13 ct13), sl13⟩) (c13 : PySem.W.codeIn K cd13 "BlockAsker.middle" = true) (k13 : PySem.W.keepIn K (.ref f13) = true)
    (a14 : PySem.W.findIn K (.ref C0) "step" = some (some (.ref f14))) (i14 : PySem.W.isFn K (.ref f14) = true)
    (l14 : K.lookup f14 = some ⟨oc14, od14, .func (PySem.W.fnOf "step" "BlockAsker.step" (defArgs s_BlockAsker_step) (defBody s_BlockAsker_step) (defScope s_BlockAsker_step) .none kV14 dc14 pm14 an14 cd14 ct14), sl14⟩) (c14 : PySem.W.codeIn K cd14 "BlockAsker.step" = true) (k14 : PySem.W.keepIn K (.ref f14) = true)
    (a15 : PySem.W.findIn K (.ref C0) "tell" = some (some (.ref f15))) (i15 : PySem.W.isFn K (.ref f15) = true)
    (l15 : K.lookup f15 = some ⟨oc15, od15, .func (PySem.W.fnOf "tell" "BlockAsker.tell" (defArgs s_BlockAsker_tell) (defBody s_BlockAsker_tell) (defScope s_BlockAsker_tell) .none kV15 dc15 pm15 an15 cd15 ct15), sl15⟩) (c15 : PySem.W.codeIn K cd15 "BlockAsker.tell" = true) (k15 : PySem.W.keepIn K (.ref f15) = true)
    (a16 : PySem.W.findIn K (.ref C0) "asked" = some (some (.ref f16))) (i16 : PySem.W.isFn K (.ref f16) = true)
    (l16 : K.lookup f16 = some ⟨oc16, od16, .func (PySem.W.fnOf "asked" "BlockAsker.asked" (defArgs s_BlockAsker_asked) (defBody s_BlockAsker_asked) (defScope s_BlockAsker_asked) .none kV16 dc16 pm16 an16 cd16 ct16), sl16⟩) (c16 : PySem.W.codeIn K cd16 "BlockAsker.asked" = true) (k16 : PySem.W.keepIn K (.ref f16) = true)
    (a17 : PySem.W.nsIn K mainGlobals "_law_stream" = some (some (.ref f17)))
    (l17 : K.lookup f17 = some ⟨oc17, od17, .func (PySem.W.fnOf "_law_stream" "_law_stream" (defArgs s__law_stream) (defBody s__law_stream) (defScope s__law_stream) .none kV17 dc17 pm17 an17 cd17 ct17), sl17⟩) (c17 : PySem.W.codeIn K cd17 "_law_stream" = true) (k17 : PySem.W.keepIn K (.ref f17) = true)
    (a18 : PySem.W.nsIn K mainGlobals "_law_next" = some (some (.ref f18)))
    (l18 : K.lookup f18 = some ⟨oc18, od18, .func (PySem.W.fnOf "_law_next" "_law_next" (defArgs s__law_next) (defBody s__law_next) (defScope s__law_next) .none kV18 dc18 pm18 an18 cd18 ct18), sl18⟩) (c18 : PySem.W.codeIn K cd18 "_law_next" = true) (k18 : PySem.W.keepIn K (.ref f18) = true)
    (a19 : PySem.W.nsIn K mainGlobals "_law_error" = some (some (.ref f19)))
    (l19 : K.lookup f19 = some ⟨oc19, od19, .func (PySem.W.fnOf "_law_error" "_law_error" (defArgs s__law_error) (defBody s__law_error) (defScope s__law_error) .none kV19 dc19 pm19 an19 cd19 ct19), sl19⟩) (c19 : PySem.W.codeIn K cd19 "_law_error" = true) (k19 : PySem.W.keepIn K (.ref f19) = true)
    (a20 : PySem.W.nsIn K mainGlobals "_law_point" = some (some (.ref f20)))
    (l20 : K.lookup f20 = some ⟨oc20, od20, .func (PySem.W.fnOf "_law_point" "_law_point" (defArgs s__law_point) (defBody s__law_point) (defScope s__law_point) .none kV20 dc20 pm20 an20 cd20 ct20), sl20⟩) (c20 : PySem.W.codeIn K cd20 "_law_point" = true) (k20 : PySem.W.keepIn K (.ref f20) = true)
    (a21 : PySem.W.nsIn K mainGlobals "_law_has" = some (some (.ref f21)))
    (l21 : K.lookup f21 = some ⟨oc21, od21, .func (PySem.W.fnOf "_law_has" "_law_has" (defArgs s__law_has) (defBody s__law_has) (defScope s__law_has) .none kV21 dc21 pm21 an21 cd21 ct21), sl21⟩) (c21 : PySem.W.codeIn K cd21 "_law_has" = true) (k21 : PySem.W.keepIn K (.ref f21) = true)
    (a22 : PySem.W.nsIn K mainGlobals "_law_around" = some (some (.ref f22)))
    (l22 : K.lookup f22 = some ⟨oc22, od22, .func (PySem.W.fnOf "_law_around" "_law_around" (defArgs s__law_around) (defBody s__law_around) (defScope s__law_around) .none kV22 dc22 pm22 an22 cd22 ct22), sl22⟩) (c22 : PySem.W.codeIn K cd22 "_law_around" = true) (k22 : PySem.W.keepIn K (.ref f22) = true)
    (a23 : PySem.W.nsIn K mainGlobals "_law_fitting" = some (some (.ref f23)))
    (l23 : K.lookup f23 = some ⟨oc23, od23, .func (PySem.W.fnOf "_law_fitting" "_law_fitting" (defArgs s__law_fitting) (defBody s__law_fitting) (defScope s__law_fitting) .none kV23 dc23 pm23 an23 cd23 ct23), sl23⟩) (c23 : PySem.W.codeIn K cd23 "_law_fitting" = true) (k23 : PySem.W.keepIn K (.ref f23) = true)
    (a24 : PySem.W.nsIn K mainGlobals "_law_all_points" = some (some (.ref f24)))
    (l24 : K.lookup f24 = some ⟨oc24, od24, .func (PySem.W.fnOf "_law_all_points" "_law_all_points" (defArgs s__law_all_points) (defBody s__law_all_points) (defScope s__law_all_points) .none kV24 dc24 pm24 an24 cd24 ct24), sl24⟩) (c24 : PySem.W.codeIn K cd24 "_law_all_points" = true) (k24 : PySem.W.keepIn K (.ref f24) = true)
    (a25 : PySem.W.nsIn K mainGlobals "law" = some (some (.ref f25)))
    (l25 : K.lookup f25 = some ⟨oc25, od25, .func (PySem.W.fnOf "law" "law" (defArgs s_law) (defBody s_law) (defScope s_law) .none kV25 dc25 pm25 an25 cd25 ct25), sl25⟩) (c25 : PySem.W.codeIn K cd25 "law" = true) (k25 : PySem.W.keepIn K (.ref f25) = true)
    (aC0 : PySem.W.nsIn K mainGlobals "BlockAsker" = some (some (.ref C0))) (pg0 : PySem.W.plainGet K C0 Str.empty = true) (hd0 : PySem.W.hasDictIn K C0 = true) (po0 : PySem.W.plainOver K C0 = true) (sa0 : PySem.W.findIn K (.ref C0) "__setattr__" = some (some (.builtin "object.__setattr__"))) (mk0 : PySem.W.makesIn K C0 = true) (kc0 : PySem.W.keepIn K (.ref C0) = true)
    (n0_0 : PySem.W.findIn K (.ref C0) "start" = some none)
    (n0_1 : PySem.W.findIn K (.ref C0) "ends" = some none)
    (n0_2 : PySem.W.findIn K (.ref C0) "low" = some none)
    (n0_3 : PySem.W.findIn K (.ref C0) "high" = some none)
    (n0_4 : PySem.W.findIn K (.ref C0) "asks" = some none)
    (aE100 : PySem.W.nsIn K mainGlobals "MaieuticError" = some (some (.ref E100)))
    (aE101 : PySem.W.nsIn K mainGlobals "NotAllowed" = some (some (.ref E101)))
    (aE102 : PySem.W.nsIn K mainGlobals "Missing" = some (some (.ref E102)))
    (aE103 : PySem.W.nsIn K mainGlobals "Wrong" = some (some (.ref E103)))
    (aE104 : PySem.W.nsIn K mainGlobals "BadForm" = some (some (.ref E104)))
    (aE105 : PySem.W.nsIn K mainGlobals "Alike" = some (some (.ref E105)))
    (kE101 : PySem.W.keepIn K (.ref E101) = true)
    (xE101 : PySem.W.excIn K E101 bmVE "ValueError.__new__" = true)
    (sE101 : PySem.W.subIn K (.ref E101) (.type "BaseException") = some true)
    (tE101 : PySem.W.typeIn K (.ref E101) = some (.type "type"))
    (gE101 : PySem.W.findIn K (.ref E101) "__getattribute__" = some (some (.builtin "BaseException.__getattribute__")))
    (hE101 : PySem.W.findIn K (.ref E101) "__getattr__" = some none)
    (dE101 : PySem.W.hasDictIn K E101 = true)
    (cE101 : PySem.W.findIn K (.ref E101) "__class__" = some (some (.builtin "object.__class__")))
    (mE101 : PySem.W.mroIn K E101 (.type "object") = some true)
    (iE101_101 : PySem.W.kitOne K (.ref E101) (.ref E101) = some true)
    (iE101_102 : PySem.W.kitOne K (.ref E101) (.ref E102) = some false)
    (iE101_103 : PySem.W.kitOne K (.ref E101) (.ref E103) = some false)
    (iE101_104 : PySem.W.kitOne K (.ref E101) (.ref E104) = some false)
    (iE101_105 : PySem.W.kitOne K (.ref E101) (.ref E105) = some false)
    (eE101 : PySem.W.exmOne K (.ref E101) (.ref E100) = some true)
    (kE102 : PySem.W.keepIn K (.ref E102) = true)
    (xE102 : PySem.W.excIn K E102 bmVE "ValueError.__new__" = true)
    (sE102 : PySem.W.subIn K (.ref E102) (.type "BaseException") = some true)
    (tE102 : PySem.W.typeIn K (.ref E102) = some (.type "type"))
    (gE102 : PySem.W.findIn K (.ref E102) "__getattribute__" = some (some (.builtin "BaseException.__getattribute__")))
    (hE102 : PySem.W.findIn K (.ref E102) "__getattr__" = some none)
    (dE102 : PySem.W.hasDictIn K E102 = true)
    (cE102 : PySem.W.findIn K (.ref E102) "__class__" = some (some (.builtin "object.__class__")))
    (mE102 : PySem.W.mroIn K E102 (.type "object") = some true)
    (iE102_101 : PySem.W.kitOne K (.ref E102) (.ref E101) = some false)
    (iE102_102 : PySem.W.kitOne K (.ref E102) (.ref E102) = some true)
    (iE102_103 : PySem.W.kitOne K (.ref E102) (.ref E103) = some false)
    (iE102_104 : PySem.W.kitOne K (.ref E102) (.ref E104) = some false)
    (iE102_105 : PySem.W.kitOne K (.ref E102) (.ref E105) = some false)
    (eE102 : PySem.W.exmOne K (.ref E102) (.ref E100) = some true)
    (kE103 : PySem.W.keepIn K (.ref E103) = true)
    (xE103 : PySem.W.excIn K E103 bmVE "ValueError.__new__" = true)
    (sE103 : PySem.W.subIn K (.ref E103) (.type "BaseException") = some true)
    (tE103 : PySem.W.typeIn K (.ref E103) = some (.type "type"))
    (gE103 : PySem.W.findIn K (.ref E103) "__getattribute__" = some (some (.builtin "BaseException.__getattribute__")))
    (hE103 : PySem.W.findIn K (.ref E103) "__getattr__" = some none)
    (dE103 : PySem.W.hasDictIn K E103 = true)
    (cE103 : PySem.W.findIn K (.ref E103) "__class__" = some (some (.builtin "object.__class__")))
    (mE103 : PySem.W.mroIn K E103 (.type "object") = some true)
    (iE103_101 : PySem.W.kitOne K (.ref E103) (.ref E101) = some false)
    (iE103_102 : PySem.W.kitOne K (.ref E103) (.ref E102) = some false)
    (iE103_103 : PySem.W.kitOne K (.ref E103) (.ref E103) = some true)
    (iE103_104 : PySem.W.kitOne K (.ref E103) (.ref E104) = some false)
    (iE103_105 : PySem.W.kitOne K (.ref E103) (.ref E105) = some false)
    (eE103 : PySem.W.exmOne K (.ref E103) (.ref E100) = some true)
    (nE : PySem.W.specialIn K (.builtin "object.__class__") "__get__" = some (some (.builtin "getset_descriptor.__get__")))
    (vE : PySem.W.takesIn K (.builtin "object.__class__") = some true)
    (zb_abs : PySem.W.nsIn K mainGlobals "abs" = some none)
    (zb_all : PySem.W.nsIn K mainGlobals "all" = some none)
    (zb_any : PySem.W.nsIn K mainGlobals "any" = some none)
    (zb_int : PySem.W.nsIn K mainGlobals "int" = some none)
    (zb_isinstance : PySem.W.nsIn K mainGlobals "isinstance" = some none)
    (zb_len : PySem.W.nsIn K mainGlobals "len" = some none)
    (zb_list : PySem.W.nsIn K mainGlobals "list" = some none)
    (zb_max : PySem.W.nsIn K mainGlobals "max" = some none)
    (zb_min : PySem.W.nsIn K mainGlobals "min" = some none)
    (zb_range : PySem.W.nsIn K mainGlobals "range" = some none)
    (zb_set : PySem.W.nsIn K mainGlobals "set" = some none)
    (zb_sorted : PySem.W.nsIn K mainGlobals "sorted" = some none)
    (zb_sum : PySem.W.nsIn K mainGlobals "sum" = some none)
    (zb_tuple : PySem.W.nsIn K mainGlobals "tuple" = some none)
    (zb_zip : PySem.W.nsIn K mainGlobals "zip" = some none)
    (zc_MAX_PLACE : PySem.W.nsIn K mainGlobals "MAX_PLACE" = some (some (.int 99 t_MAX_PLACE)))
    (zc_MAX_SIDES : PySem.W.nsIn K mainGlobals "MAX_SIDES" = some (some (.int 3 t_MAX_SIDES)))
    (ok : LawOk m_law) : ∃ fd : FuncData, (∀ (s : Shared) (u : Value), BindsTo s fd ⟨[u], []⟩ [("script", u)]) ∧ ∀ base : Heap, K.In base → base.Ns mainGlobals mg → FnOk l.prog w K mg base (L2N.CX l.prog w) 5 fa fd ["script"] (spLaw K) := by
  cases hfa.symm.trans (PySem.W.mg_of X G a25)
  have F0 := fun_mk (st := s_check_point) l0 c0 k0
  have F1 := fun_mk (st := s_check_block) l1 c1 k1
  have F2 := fun_mk (st := s_lies_in) l2 c2 k2
  have F3 := fun_mk (st := s_has_point) l3 c3 k3
  have F4 := fun_mk (st := s_least_of) l4 c4 k4
  have F5 := fun_mk (st := s_least_block) l5 c5 k5
  have F6 := fun_mk (st := s_check_answers) l6 c6 k6
  have F7 := fun_mk (st := s_fitting) l7 c7 k7
  have F8 := fun_mk (st := s_barred_by) l8 c8 k8
  have F9 := fun_mk (st := s_settled) l9 c9 k9
  have F10 := fun_mk (st := s_size_of) l10 c10 k10
  have F11 := fun_mk (st := s_BlockAsker_begin) l11 c11 k11
  have F12 := fun_mk (st := s_BlockAsker___init__) l12 c12 k12
  have F13 := fun_mk (st := s_BlockAsker_middle) l13 c13 k13
  have F14 := fun_mk (st := s_BlockAsker_step) l14 c14 k14
  have F15 := fun_mk (st := s_BlockAsker_tell) l15 c15 k15
  have F16 := fun_mk (st := s_BlockAsker_asked) l16 c16 k16
  have F17 := fun_mk (st := s__law_stream) l17 c17 k17
  have F18 := fun_mk (st := s__law_next) l18 c18 k18
  have F19 := fun_mk (st := s__law_error) l19 c19 k19
  have F20 := fun_mk (st := s__law_point) l20 c20 k20
  have F21 := fun_mk (st := s__law_has) l21 c21 k21
  have F22 := fun_mk (st := s__law_around) l22 c22 k22
  have F23 := fun_mk (st := s__law_fitting) l23 c23 k23
  have F24 := fun_mk (st := s__law_all_points) l24 c24 k24
  have F25 := fun_mk (st := s_law) l25 c25 k25
  refine ⟨PySem.W.fnOf "law" "law" (defArgs s_law) (defBody s_law) (defScope s_law) .none kV25 dc25 pm25 an25 cd25 ct25, fun s v => .of_eq rfl, fun base _ _ => ?_⟩
  let p : Pg := ⟨l.prog, w, K, mg, base, fun n => match n with | 0 => C0 | 100 => E100 | 101 => E101 | 102 => E102 | 103 => E103 | 104 => E104 | 105 => E105 | _ => fa⟩
  have T : Txt p := {
    b_abs := PySem.W.mg_none_of X G zb_abs,
    b_all := PySem.W.mg_none_of X G zb_all,
    b_any := PySem.W.mg_none_of X G zb_any,
    b_int := PySem.W.mg_none_of X G zb_int,
    b_len := PySem.W.mg_none_of X G zb_len,
    b_list := PySem.W.mg_none_of X G zb_list,
    b_max := PySem.W.mg_none_of X G zb_max,
    b_min := PySem.W.mg_none_of X G zb_min,
    b_range := PySem.W.mg_none_of X G zb_range,
    b_set := PySem.W.mg_none_of X G zb_set,
    b_sorted := PySem.W.mg_none_of X G zb_sorted,
    b_tuple := PySem.W.mg_none_of X G zb_tuple,
    b_zip := PySem.W.mg_none_of X G zb_zip,
    c_MAX_PLACE := ⟨_, PySem.W.mg_of X G zc_MAX_PLACE⟩,
    c_MAX_SIDES := ⟨_, PySem.W.mg_of X G zc_MAX_SIDES⟩,
    k_BlockAsker := ⟨⟨pg0, hd0, po0, sa0⟩, fun f hf => by
    simp only [List.mem_cons, List.not_mem_nil, or_false] at hf
    rcases hf with rfl | rfl | rfl | rfl | rfl
    · exact n0_0
    · exact n0_1
    · exact n0_2
    · exact n0_3
    · exact n0_4⟩,
    x_NotAllowed := ⟨PySem.W.mg_of X G aE101, kE101, xE101, sE101, tE101⟩,
    x_Missing := ⟨PySem.W.mg_of X G aE102, kE102, xE102, sE102, tE102⟩,
    x_Wrong := ⟨PySem.W.mg_of X G aE103, kE103, xE103, sE103, tE103⟩,
    em := ⟨PySem.W.mg_of X G aE100, by
    intro c hc
    simp only [List.mem_cons, List.not_mem_nil, or_false] at hc
    rcases hc with rfl | rfl | rfl
    · exact eE101
    · exact eE102
    · exact eE103⟩ }
  have hE : ErrFacts p.K p.mg p.cA [101, 102, 103] := ⟨PySem.W.mg_of X G aE101, PySem.W.mg_of X G aE102, PySem.W.mg_of X G aE103, PySem.W.mg_of X G aE104, PySem.W.mg_of X G aE105, PySem.W.mg_none_of X G zb_sum, PySem.W.mg_none_of X G zb_int, PySem.W.mg_none_of X G zb_isinstance, by
    intro c hc
    simp only [List.mem_cons, List.not_mem_nil, or_false] at hc
    rcases hc with rfl | rfl | rfl
    · exact ⟨gE101, hE101, sE101, dE101, cE101, nE, vE, mE101⟩
    · exact ⟨gE102, hE102, sE102, dE102, cE102, nE, vE, mE102⟩
    · exact ⟨gE103, hE103, sE103, dE103, cE103, nE, vE, mE103⟩, by
    intro c hc
    simp only [List.mem_cons, List.not_mem_nil, or_false] at hc
    rcases hc with rfl | rfl | rfl
    · exact fun k hk => by
        simp only [List.mem_cons, List.not_mem_nil, or_false] at hk
        rcases hk with rfl | rfl | rfl | rfl | rfl
        · exact iE101_101
        · exact iE101_102
        · exact iE101_103
        · exact iE101_104
        · exact iE101_105
    · exact fun k hk => by
        simp only [List.mem_cons, List.not_mem_nil, or_false] at hk
        rcases hk with rfl | rfl | rfl | rfl | rfl
        · exact iE102_101
        · exact iE102_102
        · exact iE102_103
        · exact iE102_104
        · exact iE102_105
    · exact fun k hk => by
        simp only [List.mem_cons, List.not_mem_nil, or_false] at hk
        rcases hk with rfl | rfl | rfl | rfl | rfl
        · exact iE103_101
        · exact iE103_102
        · exact iE103_103
        · exact iE103_104
        · exact iE103_105⟩
  have h_check_point := fnc_of (p := p) (x := "check_point") (o_check_point (p := p) T F0 ) (PySem.W.mg_of X G a0) k0 (F0.binds (ps := ["sides", "point"]) fun _ _ _ _ _ _ us hl => match us, hl with | [_, _], _ => rfl)
  have h_check_block := fnc_of (p := p) (x := "check_block") (o_check_block (p := p) T F1 h_check_point) (PySem.W.mg_of X G a1) k1 (F1.binds (ps := ["sides", "block"]) fun _ _ _ _ _ _ us hl => match us, hl with | [_, _], _ => rfl)
  have h_lies_in := fnc_of (p := p) (x := "lies_in") (o_lies_in (p := p) T F2 ) (PySem.W.mg_of X G a2) k2 (F2.binds (ps := ["block", "point"]) fun _ _ _ _ _ _ us hl => match us, hl with | [_, _], _ => rfl)
  have h_has_point := fnc_of (p := p) (x := "has_point") (o_has_point (p := p) T F3 h_check_block h_check_point h_lies_in) (PySem.W.mg_of X G a3) k3 (F3.binds (ps := ["sides", "block", "point"]) fun _ _ _ _ _ _ us hl => match us, hl with | [_, _, _], _ => rfl)
  have h_least_of := fnc_of (p := p) (x := "least_of") (o_least_of (p := p) T F4 ) (PySem.W.mg_of X G a4) k4 (F4.binds (ps := ["points"]) fun _ _ _ _ _ _ us hl => match us, hl with | [_], _ => rfl)
  have h_least_block := fnc_of (p := p) (x := "least_block") (o_least_block (p := p) T F5 h_check_point h_least_of) (PySem.W.mg_of X G a5) k5 (F5.binds (ps := ["sides", "points"]) fun _ _ _ _ _ _ us hl => match us, hl with | [_, _], _ => rfl)
  have h_check_answers := fnc_of (p := p) (x := "check_answers") (o_check_answers (p := p) T F6 h_check_point) (PySem.W.mg_of X G a6) k6 (F6.binds (ps := ["sides", "answers"]) fun _ _ _ _ _ _ us hl => match us, hl with | [_, _], _ => rfl)
  have h_fitting := fnc_of (p := p) (x := "fitting") (o_fitting (p := p) T F7 h_check_answers h_least_of h_lies_in) (PySem.W.mg_of X G a7) k7 (F7.binds (ps := ["sides", "answers"]) fun _ _ _ _ _ _ us hl => match us, hl with | [_, _], _ => rfl)
  have h_barred_by := fnc_of (p := p) (x := "barred_by") (o_barred_by (p := p) T F8 h_check_answers h_lies_in h_least_of) (PySem.W.mg_of X G a8) k8 (F8.binds (ps := ["sides", "answers"]) fun _ _ _ _ _ _ us hl => match us, hl with | [_, _], _ => rfl)
  have h_settled := fnc_of (p := p) (x := "settled") (o_settled (p := p) T F9 h_check_point h_fitting h_lies_in h_least_of) (PySem.W.mg_of X G a9) k9 (F9.binds (ps := ["sides", "answers", "point"]) fun _ _ _ _ _ _ us hl => match us, hl with | [_, _, _], _ => rfl)
  have h_size_of := fnc_of (p := p) (x := "size_of") (o_size_of (p := p) T F10 h_check_block) (PySem.W.mg_of X G a10) k10 (F10.binds (ps := ["sides", "block"]) fun _ _ _ _ _ _ us hl => match us, hl with | [_, _], _ => rfl)
  have h_BlockAsker_begin := mtd_of (p := p) (c := 0) (m := "begin") (o_BlockAsker_begin (p := p) T F11 ) ⟨a11, i11, k11⟩ (F11.binds (ps := ["self"]) fun _ _ _ _ _ _ us hl => match us, hl with | [_], _ => rfl)
  have h_BlockAsker___init__ := mkr_of (p := p) (c := 0) (x := "BlockAsker") (o_BlockAsker___init__ (p := p) T F12 h_check_point h_BlockAsker_begin) ⟨mk0, a12, i12, kc0⟩ (F12.binds (ps := ["self", "sides", "point"]) fun _ _ _ _ _ _ us hl => match us, hl with | [_, _, _], _ => rfl) (PySem.W.mg_of X G aC0)
  have h_BlockAsker_middle := mtd_of (p := p) (c := 0) (m := "middle") (o_BlockAsker_middle (p := p) T F13 ) ⟨a13, i13, k13⟩ (F13.binds (ps := ["self"]) fun _ _ _ _ _ _ us hl => match us, hl with | [_], _ => rfl)
  have h_BlockAsker_step := mtd_of (p := p) (c := 0) (m := "step") (o_BlockAsker_step (p := p) T F14 h_BlockAsker_middle) ⟨a14, i14, k14⟩ (F14.binds (ps := ["self"]) fun _ _ _ _ _ _ us hl => match us, hl with | [_], _ => rfl)
  have h_BlockAsker_tell := mtd_of (p := p) (c := 0) (m := "tell") (o_BlockAsker_tell (p := p) T F15 h_BlockAsker_step h_BlockAsker_middle h_BlockAsker_begin) ⟨a15, i15, k15⟩ (F15.binds (ps := ["self", "bit"]) fun _ _ _ _ _ _ us hl => match us, hl with | [_, _], _ => rfl)
  have h_BlockAsker_asked := mtd_of (p := p) (c := 0) (m := "asked") (o_BlockAsker_asked (p := p) T F16 ) ⟨a16, i16, k16⟩ (F16.binds (ps := ["self"]) fun _ _ _ _ _ _ us hl => match us, hl with | [_], _ => rfl)
  have h__law_stream := fnc_of (p := p) (x := "_law_stream") (o__law_stream (p := p) T F17 ) (PySem.W.mg_of X G a17) k17 (F17.binds (ps := ["script"]) fun _ _ _ _ _ _ us hl => match us, hl with | [_], _ => rfl)
  have h__law_next := fnc_of (p := p) (x := "_law_next") (o__law_next (p := p) T F18 ) (PySem.W.mg_of X G a18) k18 (F18.binds (ps := ["state", "many"]) fun _ _ _ _ _ _ us hl => match us, hl with | [_, _], _ => rfl)
  have h__law_error := o__law_error (p := p) F19 (PySem.W.mg_of X G a19) (F19.binds (ps := ["e"]) fun _ _ _ _ _ _ us hl => match us, hl with | [_], _ => rfl) hE
  have h__law_point := fnc_of (p := p) (x := "_law_point") (o__law_point (p := p) T F20 h__law_next) (PySem.W.mg_of X G a20) k20 (F20.binds (ps := ["state", "sides", "most"]) fun _ _ _ _ _ _ us hl => match us, hl with | [_, _, _], _ => rfl)
  have h__law_has := fnc_of (p := p) (x := "_law_has") (o__law_has (p := p) T F21 ) (PySem.W.mg_of X G a21) k21 (F21.binds (ps := ["block", "point"]) fun _ _ _ _ _ _ us hl => match us, hl with | [_, _], _ => rfl)
  have h__law_around := fnc_of (p := p) (x := "_law_around") (o__law_around (p := p) T F22 ) (PySem.W.mg_of X G a22) k22 (F22.binds (ps := ["points"]) fun _ _ _ _ _ _ us hl => match us, hl with | [_], _ => rfl)
  have h__law_fitting := fnc_of (p := p) (x := "_law_fitting") (o__law_fitting (p := p) T F23 h__law_error h_fitting) (PySem.W.mg_of X G a23) k23 (F23.binds (ps := ["sides", "answers"]) fun _ _ _ _ _ _ us hl => match us, hl with | [_, _], _ => rfl)
  have h__law_all_points := fnc_of (p := p) (x := "_law_all_points") (o__law_all_points (p := p) T F24 ) (PySem.W.mg_of X G a24) k24 (F24.binds (ps := ["sides", "most"]) fun _ _ _ _ _ _ us hl => match us, hl with | [_, _], _ => rfl)
  exact (o_law (p := p) T F25 h__law_stream h__law_next h__law_point h_least_block h__law_around h_has_point h__law_all_points h_size_of h__law_has h__law_fitting h_settled h_barred_by h_BlockAsker___init__ h_BlockAsker_step h_BlockAsker_tell h_BlockAsker_asked).imp (law_sp (p := p) ok)
end K88
namespace K88
open DL Bk
/-! ### the drawn numbers of this law -/
theorem next_wp {n : Nat} {rest s : Store} {many : Int} {Q : D → Store → Prop} (d : Drw (n + 1) rest s) (hm : 0 < many) (q : ∀ (r : Int) s', 0 ≤ r → r < many → Drw n rest s' → Q (.int r) s') : Wp (m__law_next [.ref 0, .int many]) s Q := by
  obtain ⟨ns, t, rfl, h0, h1, h2⟩ := d
  have e0 : ∀ u : D, ixD (.ref 0) (.int 0) (.lst [.lst (ns.map .int), u] :: rest) = .ok (.lst (ns.map .int)) (.lst [.lst (ns.map .int), u] :: rest) := fun u => rfl
  have e1 : ∀ u : D, ixD (.ref 0) (.int 1) (.lst [.lst (ns.map .int), u] :: rest) = .ok u (.lst [.lst (ns.map .int), u] :: rest) := fun u => rfl
  have es : ∀ u v : D, cellSet (.ref 0) (.int 1) v (.lst [.lst (ns.map .int), u] :: rest) = .ok () (.lst [.lst (ns.map .int), v] :: rest) := fun u v => rfl
  have hl : (ns.map D.int).length = ns.length := List.length_map _
  have hlp : (0 : Int) < (ns.length : Nat) := by omega
  have hlq : ((ns.length : Nat) : Int) < 1073741824 := by omega
  -- the place
  have hix : ∃ v : Int, ∀ s : Store, ixD (.lst (ns.map .int)) (.int (((t : Nat) + 1 : Int) % (ns.length : Nat))) s = .ok (.int v) s := by
    have a1 : 0 ≤ ((t : Nat) + 1 : Int) % (ns.length : Nat) := Int.emod_nonneg _ (by omega)
    have a2 : ((t : Nat) + 1 : Int) % (ns.length : Nat) < (ns.length : Nat) := Int.emod_lt_of_pos _ hlp
    obtain ⟨k, ek⟩ : ∃ k : Nat, ((t : Nat) + 1 : Int) % (ns.length : Nat) = (k : Int) := ⟨(((t : Nat) + 1 : Int) % (ns.length : Nat)).toNat, by omega⟩
    rw [ek] at a2 ⊢
    have hk : k < ns.length := by omega
    refine ⟨ns[k], fun s => ?_⟩
    show ixL (ns.map .int) (k : Int) s = _
    unfold ixL
    have hg : (ns.map D.int)[k]? = some (.int ns[k]) := by
      rw [List.getElem?_map, List.getElem?_eq_getElem hk]
      rfl
    have : L2.atI (ns.map D.int) (k : Int) = some (.int ns[k]) := L2.atI_nat hg
    rw [this]
    rfl
  obtain ⟨v, hv⟩ := hix
  have hdiv : divD (.int ((t : Nat) + 1)) (.int (ns.length : Nat)) = pure (.int (((t : Nat) + 1 : Int) / (ns.length : Nat))) := div_ii _ _ hlp hlq
  have hmod : modD (.int ((t : Nat) + 1)) (.int (ns.length : Nat)) = pure (.int (((t : Nat) + 1 : Int) % (ns.length : Nat))) := mod_ii _ _ hlp
  have hm1 : ∀ i : Int, mulD (.int i) (.int 389) = pure (.int (i * 389)) := fun i => mul_ii _ _ (.inr ⟨by omega, by omega⟩)
  have hm2 : ∀ i : Int, mulD (.int i) (.int 17) = pure (.int (i * 17)) := fun i => mul_ii _ _ (.inr ⟨by omega, by omega⟩)
  have hm3 : ∀ i : Int, mulD (.int ((t : Nat) + 1)) (.int i) = pure (.int (((t : Nat) + 1 : Int) * i)) := fun i => mul_ii _ _ (.inl ⟨by omega, by omega⟩)
  have hm4 : ∀ i : Int, modD (.int i) (.int many) = pure (.int (i % many)) := fun i => mod_ii _ _ hm
  unfold m__law_next b__law_next
  simp only [p2_ap, pure_bind', bind_assoc', runF_bind, runF_rt]
  refine wp_go (e1 _) ?_
  rw [add_ii, pure_bind']
  refine wp_go (es _ _) (wp_go (e1 _) (wp_go (e0 _) ?_))
  simp only [len_l, pure_bind', hl, hdiv]
  refine wp_go (e0 _) (wp_go (e1 _) (wp_go (e0 _) ?_))
  simp only [len_l, pure_bind', hl, hmod]
  refine wp_go (hv _) ?_
  simp only [hm1, add_ii, pure_bind']
  refine wp_go (e1 _) ?_
  simp only [hm3, hm2, add_ii, int_i, hm4, pure_bind']
  exact wp_pure (q _ _ (Int.emod_nonneg _ (by omega)) (Int.emod_lt_of_pos _ hm) ⟨ns, t + 1, by simp, h0, h1, by omega⟩)
theorem stream_ok (ms : List Int) (hm : ms.length ≤ 63) (s : Store) : ∃ ns : List Int, m__law_stream [.rls (ms.map .int)] s = .ok (.lst (ns.map .int)) s ∧ 0 < ns.length ∧ ns.length ≤ 5000 := by
  have key : Wp (m__law_stream [.rls (ms.map .int)]) s fun d s' => ∃ ns : List Int, d = .lst (ns.map .int) ∧ s' = s ∧ 0 < ns.length ∧ ns.length ≤ 5000 := by
    have hcut : slL none (some 63) (.rls (ms.map .int)) = pure (.lst (ms.map .int)) := by
      show (pure (.lst (cut (ms.map .int) none (some 63))) : M D) = _
      unfold cut
      rw [HT.sIx_none, show HT.sIx (ms.map D.int).length (ms.map D.int).length (some 63) = min 63 (ms.map D.int).length from HT.sIx_nat _ _ 63]
      rw [List.drop_zero, List.length_map, Nat.sub_zero, List.take_of_length_le (by rw [List.length_map]; omega)]
    have hpow : powD (.int 10) (.int 18) = pure (.int (10 ^ 18)) := pow_ii _ _ (by omega) (by omega) (by decide)
    have hmd : ∀ i : Int, modD (.int i) (.int 1009) = pure (.int (i % 1009)) := fun i => mod_ii _ _ (by omega)
    have hdv : ∀ i : Int, divD (.int i) (.int 1009) = pure (.int (i / 1009)) := fun i => div_ii _ _ (by omega) (by omega)
    have hmd2 : ∀ i : Int, modD (.int i) (.int 2147483647) = pure (.int (i % 2147483647)) := fun i => mod_ii _ _ (by omega)
    have hmd3 : ∀ i : Int, modD (.int i) (.int 2147483629) = pure (.int (i % 2147483629)) := fun i => mod_ii _ _ (by omega)
    have hmu : ∀ i : Int, mulD (.int i) (.int 48271) = pure (.int (i * 48271)) := fun i => mul_ii _ _ (.inr ⟨by omega, by omega⟩)
    have hmu2 : ∀ i : Int, mulD (.int 7) (.int i) = pure (.int (7 * i)) := fun i => mul_ii _ _ (.inl ⟨by omega, by omega⟩)
    have hmu3 : ∀ i : Int, mulD (.int i) (.int 69621) = pure (.int (i * 69621)) := fun i => mul_ii _ _ (.inr ⟨by omega, by omega⟩)
    unfold m__law_stream b__law_stream
    simp only [p1_ap, pure_bind', bind_assoc', runF_bind, mkL0, intM_i, hcut, items_l, nm_ap]
    refine wp_bind (wp_for (fun xs z s' => s' = s ∧ ∃ (r ns : List Int), xs = r.map .int ∧ z = .lst (ns.map .int) ∧ ns.length + 60 * r.length ≤ 3780) _ _ _ ⟨rfl, ms, [], rfl, rfl, by simpa using by omega⟩ ?_ ?_)
    · rintro x xs z s' ⟨rfl, r, ns, e, rfl, hl⟩
      cases r with
      | nil => cases e
      | cons i r =>
        rw [List.map_cons] at e
        injection e with e1 e2
        subst e1 e2
        rw [List.length_cons] at hl
        simp only [int_i, abs_i, pure_bind', hpow, ge_ii]
        generalize (if i < 0 then -i else i) = a
        split
        · rw [show range1 (.int 60) = pure (rangeL 0 60) from range1_i 60 (by decide)]
          simp only [pure_bind', bind_assoc']
          refine wp_bind (wp_for (fun xs z s'' => s'' = s' ∧ ∃ (ks : List D) (ns' : List Int) (j : Int), xs = ks ∧ z = (.lst (ns'.map .int), .int j) ∧ ns'.length + ks.length ≤ ns.length + 60) _ _ _ ⟨rfl, _, ns, _, rfl, rfl, by rw [rangeL_len]; exact Nat.le_refl _⟩ ?_ ?_)
          · rintro x xs z s'' ⟨rfl, ks, ns', j, rfl, rfl, hl2⟩
            rw [List.length_cons] at hl2
            have ha : appL (ns'.map .int) (.int (j % 1009)) = pure (.lst ((ns' ++ [j % 1009]).map .int)) := by
              rw [app_ok _ _ (by rw [List.length_map]; omega), List.map_append]
              rfl
            simp only [lst_l, pure_bind', int_i, hmd, ha, hdv, eq_ii]
            split
            · exact ⟨rfl, _, _, rfl, rfl, by rw [List.length_append, List.length_singleton]; omega⟩
            · exact ⟨rfl, _, _, _, rfl, rfl, by rw [List.length_append, List.length_singleton]; omega⟩
          · rintro z s'' ⟨rfl, ks, ns', j, e, rfl, hl2⟩
            exact ⟨rfl, _, _, rfl, rfl, by omega⟩
        · rw [show range1 (.int 10) = pure (rangeL 0 10) from range1_i 10 (by decide)]
          simp only [pure_bind', bind_assoc', int_i, hmd2]
          refine wp_bind (wp_for (fun xs z s'' => s'' = s' ∧ ∃ (ks : List Int) (ns' : List Int) (j : Int), xs = ks.map .int ∧ z = (.lst (ns'.map .int), .int j) ∧ ns'.length + ks.length ≤ ns.length + 10) _ _ _ ⟨rfl, (List.range 10).map fun (i : Nat) => (i : Int), ns, _, by rw [rangeL_eq, List.map_map]; rfl, rfl, by simp⟩ ?_ ?_)
          · rintro x xs z s'' ⟨rfl, ks, ns', j, e, rfl, hl2⟩
            cases ks with
            | nil => cases e
            | cons k ks =>
              rw [List.map_cons] at e
              injection e with e1 e2
              subst e1 e2
              rw [List.length_cons] at hl2
              have ha : ∀ v : Int, appL (ns'.map .int) (.int v) = pure (.lst ((ns' ++ [v]).map .int)) := fun v => by
                rw [app_ok _ _ (by rw [List.length_map]; omega), List.map_append]
                rfl
              simp only [lst_l, pure_bind', int_i, hmd, hmd2, hmd3, hmu, hmu2, hmu3, ha, add_ii]
              exact ⟨rfl, _, _, _, rfl, rfl, by rw [List.length_append, List.length_singleton]; omega⟩
          · rintro z s'' ⟨rfl, ks, ns', j, e, rfl, hl2⟩
            exact ⟨rfl, _, _, rfl, rfl, by omega⟩
    · rintro z s' ⟨rfl, r, ns, e, rfl, hl⟩
      simp only [seqO_nx, len_l, pure_bind', eq_ii, runF_bind, List.length_map]
      split
      · rename_i h
        have : ns = [] := List.length_eq_zero_iff.mp (by simpa using h)
        subst this
        exact ⟨[0], rfl, rfl, by decide, by decide⟩
      · rename_i h
        have : ns.length ≠ 0 := by simpa using h
        exact ⟨ns, rfl, rfl, by omega, by omega⟩
  obtain ⟨_, _, e, ns, rfl, rfl, a, b⟩ := wp_get key
  exact ⟨ns, e, a, b⟩
/-! ### what the defs of blocks.py compute -/
theorem items_pt (p : List Nat) : items (pt p) = pure (en p) := rfl
theorem zip2_pt {c : Nat} {p q : List Nat} (hp : p.length = c) (hq : q.length = c) : zipL (en p) (en q) = (List.range c).map fun k => .tup [ni (gx p k), ni (gx q k)] := by
  refine List.ext_getElem? fun k => ?_
  by_cases hk : k < c
  · rw [zipL_get (en_at hp hk) (en_at hq hk), List.getElem?_map, List.getElem?_range hk]
    rfl
  · rw [List.getElem?_eq_none (by rw [zipL_len, en_len, en_len]; omega), List.getElem?_eq_none (by rw [List.length_map, List.length_range]; omega)]
def okP (c : Nat) (p : List Nat) : Prop := p.length = c ∧ ∀ x ∈ p, x ≤ 99
theorem cpM {c : Nat} {p : List Nat} (h1 : 1 ≤ c) (h3 : c ≤ 3) (hp : okP c p) : m_check_point [ni c, pt p] = pure .non := by
  have e1 : (decide (1 ≤ c) && decide (c ≤ 3)) = true := by simp [h1, h3]
  have e2 : (p.length == c) = true := by simp [hp.1]
  unfold m_check_point b_check_point
  simp only [p2_ap, pure_bind', bind_assoc', runF_bind, c1, c3, c0, c99, chain_nnn, pt_len, ne_nn, items_pt, e1, e2]
  rw [lcM_bool (xs := p) (fun x => decide (0 ≤ x) && decide (x ≤ 99)) rfl (by rw [hp.1]; omega) fun x _ => ?_]
  · have e3 : (p.all fun x => decide (0 ≤ x) && decide (x ≤ 99)) = true := by
      rw [List.all_eq_true]
      intro x hx
      simp [hp.2 x hx]
    rw [pure_bind', all_b, pure_bind', truth_b, pure_bind', e3]
    rfl
  · simp only [nm_ap, p1_ap, pure_bind', bind_assoc', if_true, chain_nnn]
theorem lcM_rg {c : Nat} {α : Type} {mi : M (List D)} {u : D → M (List D)} {mt : List D → M Bool} {me : List D → M D} {to : Nat → D} (p : Nat → Bool) (hi : mi = pure ((List.range c).map to)) (hl : c ≤ 2 ^ 24)
    (h : ∀ k, k < c → (u (to k) >>= fun ds => mt ds >>= fun b => if b = true then me ds >>= fun d => pure (some d) else pure none) = pure (some (.bl (p k)))) : (lcM mi u mt me >>= allD) = pure (.bl ((List.range c).all p)) := by
  rw [lcM_map (to := to) (xs := List.range c) (fun k => .bl (p k)) hi (by rw [List.length_range]; exact hl) fun k hk => h k (List.mem_range.mp hk)]
  have : (List.range c).map (fun k => D.bl (p k)) = ((List.range c).map p).map .bl := by rw [List.map_map]; rfl
  rw [this, pure_bind', all_b]
theorem cbM {c : Nat} {lo hi : List Nat} (h1 : 1 ≤ c) (h3 : c ≤ 3) (hlo : okP c lo) (hhi : okP c hi) (hle : ∀ k, k < c → gx lo k ≤ gx hi k) : m_check_block [ni c, blk lo hi] = pure .non := by
  unfold m_check_block b_check_block blk
  simp only [p2_ap, pure_bind', bind_assoc', runF_bind, unT_ap, unc_ap, nm_ap, un0_ap, List.append_nil, List.singleton_append, cpM h1 h3 hlo, cpM h1 h3 hhi]
  rw [← bind_assoc', lcM_rg (α := Nat) (c := c) (to := fun k => .tup [ni (gx lo k), ni (gx hi k)]) (fun k => decide (gx lo k ≤ gx hi k)) ?_ (by omega) fun k hk => ?_]
  · have e : ((List.range c).all fun k => decide (gx lo k ≤ gx hi k)) = true := by
      rw [List.all_eq_true]
      intro k hk
      simp [hle k (List.mem_range.mp hk)]
    rw [pure_bind', truth_b, pure_bind', e]
    rfl
  · unfold zip2M
    simp only [pure_bind', items_pt]
    rw [zip2_pt hlo.1 hhi.1]
  · simp only [unT_ap, unc_ap, nm_ap, un0_ap, p2_ap, pure_bind', List.append_nil, List.singleton_append, if_true, le_nn]
theorem liM {c : Nat} {lo hi p : List Nat} (h3 : c ≤ 3) (hlo : lo.length = c) (hhi : hi.length = c) (hp : p.length = c) : m_lies_in [blk lo hi, pt p] = pure (.bl (has c lo hi p)) := by
  unfold m_lies_in b_lies_in
  simp only [p2_ap, pure_bind', bind_assoc', runF_bind, c0, c1, at_b0, at_b1]
  rw [← bind_assoc', lcM_rg (α := Nat) (c := c) (to := fun k => .tup [ni (gx lo k), ni (gx p k), ni (gx hi k)]) (fun k => decide (gx lo k ≤ gx p k) && decide (gx p k ≤ gx hi k)) ?_ (by omega) fun k hk => ?_]
  · rfl
  · unfold zip3M
    simp only [pure_bind', items_pt, at_b0, at_b1]
    rw [cols3 hlo hp hhi]
  · simp only [unT_ap, unc_ap, nm_ap, un0_ap, p3_ap, pure_bind', List.append_nil, List.singleton_append, if_true, chain_nnn, bind_assoc']
theorem hpM {c : Nat} {lo hi p : List Nat} (h1 : 1 ≤ c) (h3 : c ≤ 3) (hlo : okP c lo) (hhi : okP c hi) (hle : ∀ k, k < c → gx lo k ≤ gx hi k) (hp : okP c p) : m_has_point [ni c, blk lo hi, pt p] = pure (.bl (has c lo hi p)) := by
  unfold m_has_point b_has_point
  simp only [p3_ap, pure_bind', bind_assoc', runF_bind, cbM h1 h3 hlo hhi hle, cpM h1 h3 hp, liM h3 hlo.1 hhi.1 hp.1]
  rfl
theorem lhM {c : Nat} {lo hi p : List Nat} (h3 : c ≤ 3) (hlo : lo.length = c) (hhi : hi.length = c) (hp : p.length = c) : m__law_has [blk lo hi, pt p] = pure (.bl (has c lo hi p)) := by
  unfold m__law_has b__law_has
  simp only [p2_ap, pure_bind', bind_assoc', runF_bind, c0, c1, at_b0, at_b1, pt_len, hp]
  rw [← bind_assoc', lcM_rg (α := Nat) (c := c) (to := ni) (fun k => decide (gx lo k ≤ gx p k) && decide (gx p k ≤ gx hi k)) (range1_n c (by omega)) (by omega) fun k hk => ?_]
  · rfl
  · simp only [nm_ap, p1_ap, pure_bind', if_true, at_pt hlo hk, at_pt hhi hk, at_pt hp hk, bind_assoc']
    rw [chain_nnn]
    rfl
theorem lmM {c : Nat} {pts : List (List Nat)} (h3 : c ≤ 3) (hne : pts ≠ []) (h8 : pts.length ≤ 8) (hl : ∀ p ∈ pts, p.length = c) {d : D} (hd : items d = pure (pts.map pt)) : m_least_of [d] = pure (blk (loP c pts) (hiP c pts)) := by
  have hne' : ∀ k, pts.map (gx · k) ≠ [] := fun k => by simpa using hne
  unfold m_least_of b_least_of
  simp only [p1_ap, pure_bind', bind_assoc', runF_bind, zipS_pts hne h8 hl hd, items_l]
  rw [lcM_map (to := fun k => .tup (en (pts.map (gx · k)))) (xs := List.range c) (fun k => ni (mnN (pts.map (gx · k)))) rfl (by rw [List.length_range]; omega) fun k _ => ?_, pure_bind', tuple_l, pure_bind',
    lcM_map (to := fun k => .tup (en (pts.map (gx · k)))) (xs := List.range c) (fun k => ni (mxN (pts.map (gx · k)))) rfl (by rw [List.length_range]; omega) fun k _ => ?_, pure_bind', tuple_l]
  · simp only [pure_bind', mkT2, runF_rt]
    unfold blk pt loP hiP en
    rw [List.map_map, List.map_map]
    rfl
  · simp only [nm_ap, p1_ap, pure_bind', if_true, max_ten (hne' k)]
  · simp only [nm_ap, p1_ap, pure_bind', if_true, min_ten (hne' k)]
theorem laM {c : Nat} {pts : List (List Nat)} (h3 : c ≤ 3) (hne : pts ≠ []) (h8 : pts.length ≤ 8) (hl : ∀ p ∈ pts, p.length = c) : m__law_around [.lst (pts.map pt)] = pure (blk (loP c pts) (hiP c pts)) := by
  have hne' : ∀ k, pts.map (gx · k) ≠ [] := fun k => by simpa using hne
  have e0 : ixD (.lst (pts.map pt)) (ni 0) = pure (pt (pts.head hne)) := by
    cases pts with
    | nil => exact absurd rfl hne
    | cons p r =>
      show ixL _ ((0 : Nat) : Int) = _
      unfold ixL
      rw [L2.atI_nat (j := 0) (show ((p :: r).map pt)[0]? = some (pt p) from rfl)]
      rfl
  have hin : ∀ k, k < c → ∀ p ∈ pts, ixD (pt p) (ni k) = pure (ni (gx p k)) := fun k hk p hp => at_pt (hl p hp) hk
  unfold m__law_around b__law_around
  simp only [p1_ap, pure_bind', bind_assoc', runF_bind, c0, e0, pt_len, hl _ (List.head_mem hne), items_l]
  have inner : ∀ k, k < c → lcM (pure (pts.map pt)) nm (p1 fun _ => (pure true : M Bool)) (p1 fun v => ixD v (ni k)) = pure (.lst (en (pts.map (gx · k)))) := fun k hk => by
    rw [lcM_map (to := pt) (xs := pts) (fun p => ni (gx p k)) rfl (by omega) fun p hp => ?_]
    · unfold en
      rw [List.map_map]
      rfl
    · simp only [nm_ap, p1_ap, pure_bind', if_true, hin k hk p hp]
  rw [range1_n c (by omega), show en (List.range c) = (List.range c).map ni from rfl, lcM_map (to := ni) (xs := List.range c) (fun k => ni (mnN (pts.map (gx · k)))) rfl (by rw [List.length_range]; omega) fun k hk => ?_, pure_bind', tuple_l, pure_bind',
    lcM_map (to := ni) (xs := List.range c) (fun k => ni (mxN (pts.map (gx · k)))) rfl (by rw [List.length_range]; omega) fun k hk => ?_, pure_bind', tuple_l]
  · simp only [pure_bind', mkT2, runF_rt]
    unfold blk pt loP hiP en
    rw [List.map_map, List.map_map]
    rfl
  · simp only [nm_ap, p1_ap, pure_bind', if_true, inner k (List.mem_range.mp hk), max_len (hne' k)]
  · simp only [nm_ap, p1_ap, pure_bind', if_true, inner k (List.mem_range.mp hk), min_len (hne' k)]
theorem lbM {c : Nat} {pts : List (List Nat)} (h1 : 1 ≤ c) (h3 : c ≤ 3) (hne : pts ≠ []) (h8 : pts.length ≤ 8) (hp : ∀ p ∈ pts, okP c p) : m_least_block [ni c, .tup (pts.map pt)] = pure (blk (loP c pts) (hiP c pts)) := by
  have e1 : (pts.length == 0) = false := by simp [hne]
  unfold m_least_block b_least_block
  simp only [p2_ap, pure_bind', bind_assoc', runF_bind, items_t, nm_ap, p1_ap]
  rw [forL_thru (pts.map pt) fun x hx => ?_, pure_bind', seqO_nx, len_t, pure_bind', List.length_map, c0, show (D.int (pts.length : Nat)) = ni pts.length from rfl, eq_nn, pure_bind', e1]
  · simp only [Bool.false_eq_true, if_false, pure_bind', seqO_nx, lmM h3 hne h8 (fun p h => (hp p h).1) (items_t _), bind_assoc', runF_bind, runF_rt]
  · obtain ⟨p, h, rfl⟩ := List.mem_map.mp hx
    rw [cpM h1 h3 (hp p h), pure_bind']
def ansD (a : List Nat × Nat) : D := .tup [pt a.1, ni a.2]
def okA (c : Nat) (A : List (List Nat × Nat)) : Prop := ∀ a ∈ A, okP c a.1 ∧ (a.2 = 0 ∨ a.2 = 1)
theorem caM {c : Nat} {A : List (List Nat × Nat)} (h1 : 1 ≤ c) (h3 : c ≤ 3) (hA : okA c A) : m_check_answers [ni c, .tup (A.map ansD)] = pure .non := by
  unfold m_check_answers b_check_answers
  simp only [p2_ap, pure_bind', bind_assoc', runF_bind, items_t]
  rw [forL_thru (A.map ansD) fun x hx => ?_, pure_bind', seqO_nx, runF_nx]
  obtain ⟨a, h, rfl⟩ := List.mem_map.mp hx
  obtain ⟨h4, h5⟩ := hA a h
  have e : ([0, 1] : List Nat).contains a.2 = true := by rcases h5 with e | e <;> rw [e] <;> rfl
  unfold ansD
  simp only [unT_ap, unc_ap, nm_ap, un0_ap, p2_ap, pure_bind', List.append_nil, List.singleton_append, cpM h1 h3 h4, mkT2]
  rw [show D.tup [.int 0, .int 1] = .tup (en [0, 1]) from rfl, nin_t, pure_bind', e]
  rfl
def ins (A : List (List Nat × Nat)) : List (List Nat) := (A.filter fun a => a.2 == 1).map (·.1)
def zer (c : Nat) (A : List (List Nat × Nat)) (lo hi : List Nat) : Bool := A.any fun a => a.2 == 0 && has c lo hi a.1
theorem any_flt {α : Type} (xs : List α) (c p : α → Bool) : anyD (.lst ((xs.filter c).map fun a => .bl (p a))) = pure (.bl (xs.any fun a => c a && p a)) := by
  have : (xs.filter c).map (fun a => D.bl (p a)) = ((xs.filter c).map p).map .bl := by rw [List.map_map]; rfl
  rw [this, any_bools, List.any_map, List.any_filter]
  rfl
theorem inL {A : List (List Nat × Nat)} (h8 : A.length ≤ 8) : lcM (pure (A.map ansD)) (unT (unc nm (unc nm un0))) (p2 (fun _ v => eqB v (D.int 1))) (p2 (fun v _ => (pure v : M D))) = pure (.lst ((ins A).map pt)) := by
  rw [lcM_pure (to := ansD) (xs := A) (fun a => a.2 == 1) (fun a => pt a.1) rfl (by omega) fun a _ => ?_]
  · unfold ins
    rw [List.map_map]
    rfl
  · unfold ansD
    simp only [unT_ap, unc_ap, nm_ap, un0_ap, p2_ap, pure_bind', List.append_nil, List.singleton_append, c1, eq_nn]
    split <;> rfl
theorem zeL {c : Nat} {A : List (List Nat × Nat)} {lo hi : List Nat} (h3 : c ≤ 3) (h8 : A.length ≤ 8) (hA : okA c A) (hlo : lo.length = c) (hhi : hi.length = c) :
    lcM (pure (A.map ansD)) (unT (unc nm (unc nm un0))) (p2 (fun _ v => eqB v (D.int 0))) (p2 (fun v _ => m_lies_in [blk lo hi, v])) = pure (.lst ((A.filter fun a => a.2 == 0).map fun a => .bl (has c lo hi a.1))) := by
  rw [lcM_pure (to := ansD) (xs := A) (fun a => a.2 == 0) (fun a => .bl (has c lo hi a.1)) rfl (by omega) fun a ha => ?_]
  unfold ansD
  simp only [unT_ap, unc_ap, nm_ap, un0_ap, p2_ap, pure_bind', List.append_nil, List.singleton_append, c0, eq_nn, liM h3 hlo hhi (hA a ha).1.1]
  split <;> rfl
theorem ins_ok {c : Nat} {A : List (List Nat × Nat)} (hA : okA c A) : ∀ p ∈ ins A, okP c p := fun p hp => by
  obtain ⟨a, ha, rfl⟩ := List.mem_map.mp hp
  exact (hA a (List.mem_filter.mp ha).1).1
theorem ins_le {A : List (List Nat × Nat)} : (ins A).length ≤ A.length := by
  unfold ins
  rw [List.length_map]
  exact List.length_filter_le _ _
theorem ftM {c : Nat} {A : List (List Nat × Nat)} (h1 : 1 ≤ c) (h3 : c ≤ 3) (h8 : A.length ≤ 8) (hA : okA c A) (hne : ins A ≠ []) :
    m_fitting [ni c, .tup (A.map ansD)] = if zer c A (loP c (ins A)) (hiP c (ins A)) = true then raise 102 else pure (blk (loP c (ins A)) (hiP c (ins A))) := by
  have e1 : ((ins A).length == 0) = false := by simp [hne]
  have il := ins_le (A := A)
  unfold m_fitting b_fitting
  simp only [p2_ap, pure_bind', bind_assoc', runF_bind, caM h1 h3 hA, items_t]
  rw [inL h8, pure_bind', len_l, pure_bind', List.length_map, c0, show (D.int ((ins A).length : Nat)) = ni (ins A).length from rfl, eq_nn, pure_bind', e1]
  simp only [Bool.false_eq_true, if_false, pure_bind', seqO_nx, lmM h3 hne (by omega) (fun p h => (ins_ok hA p h).1) (items_l _), bind_assoc', runF_bind]
  rw [← c0, zeL h3 h8 hA lo_len hi_len, pure_bind', any_flt, pure_bind', truth_b, pure_bind']
  show _ = if zer c A _ _ = true then _ else _
  unfold zer
  split
  · rfl
  · rfl
theorem try_ok {N B : Type} {cs : List Nat} (o : Out N B) : tryE cs (pure o) = pure o := rfl
theorem try_miss {N B : Type} : (tryE [101, 102, 103] (raise 102) : M (Out N B)) = pure (.rt (.str "missing")) := rfl
theorem lfM {c : Nat} {A : List (List Nat × Nat)} (h1 : 1 ≤ c) (h3 : c ≤ 3) (h8 : A.length ≤ 8) (hA : okA c A) (hne : ins A ≠ []) :
    m__law_fitting [ni c, .tup (A.map ansD)] = pure (if zer c A (loP c (ins A)) (hiP c (ins A)) = true then .str "missing" else blk (loP c (ins A)) (hiP c (ins A))) := by
  unfold m__law_fitting b__law_fitting
  simp only [p2_ap, pure_bind', bind_assoc', runF_bind, ftM h1 h3 h8 hA hne]
  by_cases z : zer c A (loP c (ins A)) (hiP c (ins A)) = true
  · rw [if_pos z, if_pos z, raise_bind, try_miss]
    rfl
  · rw [if_neg z, if_neg z, pure_bind', try_ok]
    rfl
def wideL (c : Nat) (lo hi p : List Nat) : List Nat := loP c [lo, hi, p]
def wideH (c : Nat) (lo hi p : List Nat) : List Nat := hiP c [lo, hi, p]
def setD (c : Nat) (A : List (List Nat × Nat)) (p : List Nat) : D :=
  let lo := loP c (ins A)
  let hi := hiP c (ins A)
  if has c lo hi p = true then ni 1 else if zer c A (wideL c lo hi p) (wideH c lo hi p) = true then ni 0 else .non
theorem seM {c : Nat} {A : List (List Nat × Nat)} {p : List Nat} (h1 : 1 ≤ c) (h3 : c ≤ 3) (h8 : A.length ≤ 8) (hA : okA c A) (hne : ins A ≠ []) (hz : zer c A (loP c (ins A)) (hiP c (ins A)) = false) (hp : okP c p) :
    m_settled [ni c, .tup (A.map ansD), pt p] = pure (setD c A p) := by
  unfold m_settled b_settled setD
  simp only [p3_ap, pure_bind', bind_assoc', runF_bind, cpM h1 h3 hp, ftM h1 h3 h8 hA hne, hz, Bool.false_eq_true, if_false, liM h3 lo_len hi_len hp.1, truth_b]
  by_cases z : has c (loP c (ins A)) (hiP c (ins A)) p = true
  · simp only [if_pos z]
    rfl
  · simp only [if_neg z, pure_bind', seqO_nx]
    rw [show items (blk (loP c (ins A)) (hiP c (ins A))) = pure [pt (loP c (ins A)), pt (hiP c (ins A))] from rfl]
    simp only [pure_bind', List.cons_append, List.nil_append, mkT3]
    have hl : ∀ q ∈ ([loP c (ins A), hiP c (ins A), p] : List (List Nat)), q.length = c := by
      intro q hq
      simp only [List.mem_cons, List.not_mem_nil, or_false] at hq
      rcases hq with rfl | rfl | rfl
      · exact lo_len
      · exact hi_len
      · exact hp.1
    rw [show D.tup [pt (loP c (ins A)), pt (hiP c (ins A)), pt p] = .tup (([loP c (ins A), hiP c (ins A), p] : List (List Nat)).map pt) from rfl,
      lmM h3 (List.cons_ne_nil _ _) (by show 3 ≤ 8; omega) hl (items_t _), pure_bind']
    simp only [items_t, bind_assoc', runF_bind, pure_bind']
    rw [zeL h3 h8 hA lo_len hi_len, pure_bind', any_flt, pure_bind', truth_b, pure_bind']
    show _ = pure (if zer c A _ _ = true then _ else _)
    unfold zer wideL wideH
    split <;> rfl
theorem forL_findG {α : Type} {step : Unit → D → M (Out Unit Unit)} {to : α → D} {p : α → Bool} {g : α → D} : ∀ (xs : List α), (∀ x ∈ xs, step () (to x) = pure (if p x = true then .rt (g x) else .nx ())) → (forL step () (xs.map to) : M (Out Unit Unit)) = pure (match xs.find? p with
    | some x => .rt (g x)
    | none => .nx ())
  | [], _ => rfl
  | x :: r, h => by
    rw [List.map_cons]
    unfold forL
    rw [h x List.mem_cons_self, pure_bind', List.find?_cons]
    by_cases z : p x = true
    · rw [if_pos z, z]
    · rw [if_neg z, Bool.not_eq_true _ |>.mp z]
      exact forL_findG r fun y hy => h y (List.mem_cons_of_mem _ hy)
theorem bbM {c : Nat} {A : List (List Nat × Nat)} (h1 : 1 ≤ c) (h3 : c ≤ 3) (h8 : A.length ≤ 8) (hA : okA c A) (hne : ins A ≠ []) (hz : zer c A (loP c (ins A)) (hiP c (ins A)) = true) :
    ∃ a ∈ A, a.2 = 0 ∧ has c (loP c (ins A)) (hiP c (ins A)) a.1 = true ∧ m_barred_by [ni c, .tup (A.map ansD)] = pure (pt a.1) := by
  have il := ins_le (A := A)
  have e1 : 0 < (ins A).length := List.length_pos_iff.mpr hne
  obtain ⟨a, hf⟩ : ∃ a, (A.find? fun a => a.2 == 0 && has c (loP c (ins A)) (hiP c (ins A)) a.1) = some a := by
    cases e : A.find? fun a => a.2 == 0 && has c (loP c (ins A)) (hiP c (ins A)) a.1 with
    | some a => exact ⟨a, rfl⟩
    | none =>
      unfold zer at hz
      obtain ⟨a, ha, h⟩ := List.any_eq_true.mp hz
      exact absurd h (List.find?_eq_none.mp e a ha)
  have hp := List.find?_some hf
  rw [Bool.and_eq_true, beq_iff_eq] at hp
  refine ⟨a, List.mem_of_find?_eq_some hf, hp.1, hp.2, ?_⟩
  unfold m_barred_by b_barred_by
  simp only [p2_ap, pure_bind', bind_assoc', runF_bind, caM h1 h3 hA, items_t]
  rw [inL h8, pure_bind', len_l, pure_bind', List.length_map, c0, show (D.int ((ins A).length : Nat)) = ni (ins A).length from rfl, gt_nn, pure_bind', if_pos (by simpa using e1)]
  simp only [lmM h3 hne (by omega) (fun p h => (ins_ok hA p h).1) (items_l _), bind_assoc', pure_bind']
  rw [forL_findG (to := ansD) (p := fun a => a.2 == 0 && has c (loP c (ins A)) (hiP c (ins A)) a.1) (g := fun a => pt a.1) A fun b hb => ?_, hf]
  · rfl
  · unfold ansD
    simp only [unT_ap, unc_ap, nm_ap, un0_ap, p2_ap, pure_bind', List.append_nil, List.singleton_append, c0, eq_nn, liM h3 lo_len hi_len (hA b hb).1.1, truth_b]
    by_cases z : (b.2 == 0) = true
    · rw [if_pos z, z, Bool.true_and]
      by_cases y : has c (loP c (ins A)) (hiP c (ins A)) b.1 = true
      · simp only [if_pos y, pure_bind']
        rfl
      · simp only [if_neg y, pure_bind']
        rfl
    · rw [if_neg z]
      simp only [Bool.not_eq_true _ |>.mp z, Bool.false_and]
      rfl
theorem szM {c : Nat} {lo hi : List Nat} (h1 : 1 ≤ c) (h3 : c ≤ 3) (hlo : okP c lo) (hhi : okP c hi) (hle : ∀ k, k < c → gx lo k ≤ gx hi k) : m_size_of [ni c, blk lo hi] = pure (ni (vol c lo hi)) := by
  have h99 : ∀ k, k < c → gx hi k ≤ 99 := fun k hk => by
    have hkl : k < hi.length := by rw [hhi.1]; exact hk
    have := hhi.2 _ (List.getElem_mem hkl)
    unfold gx
    rw [List.getD_eq_getElem?_getD, List.getElem?_eq_getElem hkl]
    exact this
  unfold m_size_of b_size_of zip2M
  simp only [p2_ap, pure_bind', bind_assoc', runF_bind, cbM h1 h3 hlo hhi hle, c0, c1, at_b0, at_b1, items_pt]
  rw [zip2_pt hlo.1 hhi.1]
  refine forL_go (enc := ni) (to := fun k => .tup [ni (gx lo k), ni (gx hi k)]) (g := fun f k => f * (gx hi k - gx lo k + 1)) (P := fun r f => f * 100 ^ r.length ≤ 10 ^ 6) (List.range c) 1 ?_ (fun f k r hf hk => ?_) fun _ => rfl
  · rw [List.length_range, Nat.one_mul]
    exact Nat.le_trans (Nat.pow_le_pow_right (by decide) h3) (by decide)
  · have hk := List.mem_range.mp hk
    have hl := hle k hk
    have h9 := h99 k hk
    rw [List.length_cons, Nat.pow_succ] at hf
    have hp : 1 ≤ 100 ^ r.length := Nat.pos_of_ne_zero (by simp)
    have hf1 : f * 1 ≤ 10 ^ 6 := Nat.le_trans (Nat.mul_le_mul (Nat.le_refl f) (by have := Nat.mul_le_mul hp (show 1 ≤ 100 by omega); omega)) hf
    simp only [unT_ap, unc_ap, nm_ap, un0_ap, p2_ap, pure_bind', List.append_nil, List.singleton_append, sub_nn hl, add_nn]
    rw [mul_nn (by omega)]
    refine ⟨rfl, ?_⟩
    have e : f * (gx hi k - gx lo k + 1) * 100 ^ r.length ≤ f * (100 ^ r.length * 100) := by
      rw [Nat.mul_assoc]
      refine Nat.mul_le_mul (Nat.le_refl f) ?_
      rw [Nat.mul_comm]
      exact Nat.mul_le_mul (Nat.le_refl _) (by omega)
    exact Nat.le_trans e hf
def nextP (m : Nat) (L : List (List Nat)) : List (List Nat) := L.flatMap fun r => (List.range m).map fun x => r ++ [x]
theorem foldl_app {α β : Type} (f : α → List β) : ∀ (L : List α) (acc : List β), L.foldl (fun acc r => acc ++ f r) acc = acc ++ L.flatMap f
  | [], acc => by simp
  | a :: L, acc => by rw [List.foldl_cons, foldl_app f L, List.flatMap_cons, List.append_assoc]
theorem alM {c m : Nat} (h3 : c ≤ 3) (hm9 : m ≤ 9) : m__law_all_points [ni c, ni m] = pure (.lst ((allPts c m).map pt)) := by
  unfold m__law_all_points b__law_all_points
  simp only [p2_ap, pure_bind', bind_assoc', runF_bind, mkT0, mkL1, range1_n c (by omega), range1_n m (by omega), mkL0, nm_ap, p1_ap]
  have small : ∀ i, i ≤ 3 → (allPts i m).length ≤ 1000 := fun i hi => by
    rw [allPts_len]
    exact Nat.le_trans (Nat.pow_le_pow_left hm9 i) (Nat.le_trans (Nat.pow_le_pow_right (by decide) hi) (by decide))
  refine forL_go (enc := fun L : List (List Nat) => D.lst (L.map pt)) (to := ni) (g := fun L _ => nextP m L) (P := fun r L => r.length ≤ c ∧ L = allPts (c - r.length) m) (List.range c) [[]] ⟨by rw [List.length_range]; exact Nat.le_refl _, by rw [List.length_range, Nat.sub_self]; rfl⟩ ?_ ?_
  · rintro L k r ⟨hr, hL⟩ _
    rw [List.length_cons] at hr hL
    have hL2 : nextP m L = allPts (c - r.length) m := by
      rw [hL, show c - r.length = (c - (r.length + 1)) + 1 by omega]
      rfl
    refine ⟨?_, by omega, hL2⟩
    have hl3 : ∀ q ∈ L, q.length ≤ 3 := fun q hq => by
      rw [hL] at hq
      have := (allPts_mem.mp hq).1
      omega
    have hfin : (nextP m L).length ≤ 1000 := by rw [hL2]; exact small _ (by omega)
    simp only [items_l, pure_bind']
    refine forL_go (enc := fun L : List (List Nat) => D.lst (L.map pt)) (to := pt) (g := fun acc q => acc ++ (List.range m).map fun x => q ++ [x]) (P := fun r acc => acc.length + r.length * m ≤ 1000) L [] ?_ ?_ ?_
    · have : L.length * m = (nextP m L).length := by
        unfold nextP
        rw [List.length_flatMap]
        simp only [List.length_map, List.length_range]
        rw [List.map_const', List.sum_replicate_nat]
      rw [List.length_nil, this]
      omega
    · intro acc q t hP hq
      have hq3 := hl3 q hq
      rw [List.length_cons, Nat.succ_mul] at hP
      refine ⟨?_, by rw [List.length_append, List.length_map, List.length_range]; omega⟩
      rw [lst_l, pure_bind', show en (List.range m) = (List.range m).map ni from rfl, lcM_map (to := ni) (xs := List.range m) (fun x => pt (q ++ [x])) rfl (by rw [List.length_range]; omega) fun x _ => ?_, pure_bind', ext_ok (by rw [List.length_map, List.length_map, List.length_range]; omega), pure_bind']
      · rw [List.map_append, List.map_map]
        rfl
      · simp only [nm_ap, p1_ap, pure_bind', if_true, mkT1, bind_assoc']
        rw [show D.tup [ni x] = .tup (en [x]) from rfl]
        unfold pt
        rw [add_ten (by rw [List.length_singleton]; omega), pure_bind']
    · intro _
      rw [foldl_app, List.nil_append, seqO_nx]
      rfl
  · rintro ⟨_, hL⟩
    rw [hL, seqO_nx, runF_rt, List.length_nil, Nat.sub_zero]
theorem lpM {c m n : Nat} {rest s : Store} {Q : D → Store → Prop} (h3 : c ≤ 3) (hm : 0 < m) (d : Drw (n + c) rest s) (q : ∀ p s', p.length = c → (∀ x ∈ p, x < m) → Drw n rest s' → Q (pt p) s') : Wp (m__law_point [.ref 0, ni c, ni m]) s Q := by
  unfold m__law_point b__law_point
  simp only [p3_ap, pure_bind', bind_assoc', runF_bind, range1_n c (by omega)]
  refine wp_bind (wp_lc (J := fun xs acc s => ∃ r : List Nat, acc = en r ∧ (∀ x ∈ r, x < m) ∧ r.length + xs.length = c ∧ Drw (n + xs.length) rest s) (wp_pure ⟨[], rfl, (fun x h => nomatch h), by rw [List.length_nil, Nat.zero_add, en_len, List.length_range], by rw [en_len, List.length_range]; exact d⟩) ?_ ?_)
  · rintro x r acc s ⟨l, rfl, h1, h2, d⟩
    rw [List.length_cons] at h2 d
    simp only [nm_ap, p1_ap, pure_bind', if_true]
    refine wp_bind (next_wp d (by omega) fun v s' h4 h5 d' => wp_pure ?_)
    obtain ⟨k, rfl⟩ : ∃ k : Nat, v = (k : Int) := ⟨v.toNat, by omega⟩
    refine ⟨l ++ [k], by rw [en_app]; rfl, fun y hy => ?_, by rw [List.length_append, List.length_singleton]; omega, d'⟩
    rcases List.mem_append.mp hy with hy | hy
    · exact h1 y hy
    · rw [List.mem_singleton.mp hy]; omega
  · rintro ys s ⟨l, rfl, h1, h2, d⟩
    rw [List.length_nil] at h2 d
    refine ⟨by rw [en_len]; omega, ?_⟩
    rw [tuple_l, pure_bind', runF_rt]
    exact wp_pure (q l s h2 h1 d)
/-! ### the asker -/
theorem mod_nn {a b : Nat} (h : 0 < b) : modD (ni a) (ni b) = pure (ni (a % b)) := by
  show modD (.int a) (.int b) = _
  rw [mod_ii _ _ (by omega), ← Int.natCast_emod]
  rfl
theorem div_nn {a b : Nat} (h : 0 < b) (h2 : b < 1073741824) : divD (ni a) (ni b) = pure (ni (a / b)) := by
  show divD (.int a) (.int b) = _
  rw [div_ii _ _ (by omega) (by omega), ← Int.natCast_ediv]
  rfl
def kac (st E lo hi n : D) : Cell := .ins 0 [("start", st), ("ends", E), ("low", lo), ("high", hi), ("asks", n)]
def AS (s0 : Store) (p E : List Nat) (lo hi n : Nat) : Store := s0 ++ [kac (pt p) (.ref (s0.length + 1)) (ni lo) (ni hi) (ni n), .lst (en E)]
section
variable {s0 : Store} {C C' C'' : Cell} {p E : List Nat} {lo hi n v : Nat} {β : Type} {Q : β → Store → Prop}
theorem get_1 : getC s0.length (s0 ++ [C, C']) = .ok C (s0 ++ [C, C']) := by
  unfold getC
  rw [List.getElem?_append_right (Nat.le_refl _), Nat.sub_self]
  rfl
theorem get_2 : getC (s0.length + 1) (s0 ++ [C, C']) = .ok C' (s0 ++ [C, C']) := by
  unfold getC
  rw [List.getElem?_append_right (by omega), show s0.length + 1 - s0.length = 1 by omega]
  rfl
theorem set_1 : (s0 ++ [C, C']).set s0.length C'' = s0 ++ [C'', C'] := by
  rw [List.set_append_right _ _ (Nat.le_refl _), Nat.sub_self]
  rfl
theorem set_2 : (s0 ++ [C, C']).set (s0.length + 1) C'' = s0 ++ [C, C''] := by
  rw [List.set_append_right _ _ (by omega), show s0.length + 1 - s0.length = 1 by omega]
  rfl
theorem ins_1 {fs : List (PySem.Str × D)} : insD 0 (.ref s0.length) (s0 ++ [.ins 0 fs, C']) = .ok (s0.length, fs) (s0 ++ [.ins 0 fs, C']) := by
  show (getC s0.length >>= _) _ = _
  rw [bind_ok get_1]
  rfl
theorem fld_1 {fs : List (PySem.Str × D)} {f : PySem.Str} {d : D} (h : fs.lookup f = some d) : fldD 0 f (.ref s0.length) (s0 ++ [.ins 0 fs, C']) = .ok d (s0 ++ [.ins 0 fs, C']) := by
  unfold fldD
  rw [bind_ok ins_1]
  show lookM f fs _ = _
  unfold lookM
  rw [h]
  rfl
theorem setF_1 {fs : List (PySem.Str × D)} {f : PySem.Str} {d : D} (h : fs.length < 1000) : setF 0 f (.ref s0.length) d (s0 ++ [.ins 0 fs, C']) = .ok () (s0 ++ [.ins 0 (putD f d fs), C']) := by
  unfold setF
  rw [bind_ok ins_1]
  show (if fs.length < 1000 then setC s0.length (.ins 0 (putD f d fs)) else stuck) _ = _
  rw [if_pos h]
  show Res.ok () ((s0 ++ [.ins 0 fs, C']).set s0.length _) = _
  rw [set_1]
theorem wg_start (g : D → M β) : Wp (fldD 0 "start" (.ref s0.length) >>= g) (AS s0 p E lo hi n) Q = Wp (g (pt p)) (AS s0 p E lo hi n) Q := wp_at (bind_ok (fld_1 rfl))
theorem wg_ends (g : D → M β) : Wp (fldD 0 "ends" (.ref s0.length) >>= g) (AS s0 p E lo hi n) Q = Wp (g (.ref (s0.length + 1))) (AS s0 p E lo hi n) Q := wp_at (bind_ok (fld_1 rfl))
theorem wg_low (g : D → M β) : Wp (fldD 0 "low" (.ref s0.length) >>= g) (AS s0 p E lo hi n) Q = Wp (g (ni lo)) (AS s0 p E lo hi n) Q := wp_at (bind_ok (fld_1 rfl))
theorem wg_high (g : D → M β) : Wp (fldD 0 "high" (.ref s0.length) >>= g) (AS s0 p E lo hi n) Q = Wp (g (ni hi)) (AS s0 p E lo hi n) Q := wp_at (bind_ok (fld_1 rfl))
theorem wg_asks (g : D → M β) : Wp (fldD 0 "asks" (.ref s0.length) >>= g) (AS s0 p E lo hi n) Q = Wp (g (ni n)) (AS s0 p E lo hi n) Q := wp_at (bind_ok (fld_1 rfl))
theorem ws_low (g : Unit → M β) : Wp (setF 0 "low" (.ref s0.length) (ni v) >>= g) (AS s0 p E lo hi n) Q = Wp (g ()) (AS s0 p E v hi n) Q := wp_at (bind_ok (setF_1 (show 5 < 1000 by decide)))
theorem ws_high (g : Unit → M β) : Wp (setF 0 "high" (.ref s0.length) (ni v) >>= g) (AS s0 p E lo hi n) Q = Wp (g ()) (AS s0 p E lo v n) Q := wp_at (bind_ok (setF_1 (show 5 < 1000 by decide)))
theorem ws_asks (g : Unit → M β) : Wp (setF 0 "asks" (.ref s0.length) (ni v) >>= g) (AS s0 p E lo hi n) Q = Wp (g ()) (AS s0 p E lo hi v) Q := wp_at (bind_ok (setF_1 (show 5 < 1000 by decide)))
theorem w_len (g : D → M β) : Wp (lenD (.ref (s0.length + 1)) >>= g) (AS s0 p E lo hi n) Q = Wp (g (ni E.length)) (AS s0 p E lo hi n) Q := wp_at (bind_ok (by
  show (getC (s0.length + 1) >>= _) (s0 ++ [_, _]) = _
  rw [bind_ok get_2]
  show Res.ok (D.int ((en E).length : Nat)) _ = _
  rw [en_len]
  rfl))
theorem cel_2 : celL (.ref (s0.length + 1)) (s0 ++ [C, .lst (en E)]) = .ok (s0.length + 1, en E) (s0 ++ [C, .lst (en E)]) := by
  show (getC (s0.length + 1) >>= _) _ = _
  rw [bind_ok get_2]
  rfl
theorem w_cel (g : Nat × List D → M β) : Wp (celL (.ref (s0.length + 1)) >>= g) (AS s0 p E lo hi n) Q = Wp (g (s0.length + 1, en E)) (AS s0 p E lo hi n) Q := wp_at (bind_ok cel_2)
theorem w_app (h : E.length < 1000) (g : Unit → M β) : Wp (cellApp (.ref (s0.length + 1)) (ni v) >>= g) (AS s0 p E lo hi n) Q = Wp (g ()) (AS s0 p (E ++ [v]) lo hi n) Q := wp_at (bind_ok (by
  unfold cellApp
  show ((celL (.ref (s0.length + 1)) >>= _) (s0 ++ [_, Cell.lst (en E)])) = _
  rw [bind_ok cel_2]
  show (if (en E).length < PySem.sizeLine then setC (s0.length + 1) (.lst (en E ++ [ni v])) else stuck) _ = _
  rw [en_len, if_pos (by rw [PySem.sizeLine_eq]; omega)]
  show Res.ok () ((s0 ++ [_, Cell.lst (en E)]).set (s0.length + 1) _) = _
  rw [set_2]
  unfold AS
  rw [en_app]
  rfl))
theorem w_lstC (g : List D → M β) : Wp (lstC (.ref (s0.length + 1)) >>= g) (AS s0 p E lo hi n) Q = Wp (g (en E)) (AS s0 p E lo hi n) Q := wp_at (bind_ok (by
  show (getC (s0.length + 1) >>= _) (s0 ++ [_, _]) = _
  rw [bind_ok get_2]
  rfl))
theorem w_mth {fm : PySem.Str} {ms : M (List D)} {FM : List D → M D} (h : ∀ (a b c d e : D), ([("start", a), ("ends", b), ("low", c), ("high", d), ("asks", e)] : List (PySem.Str × D)).lookup fm = none) (g : D → M β) :
    Wp (mthM 0 fm (pure (.ref s0.length)) ms FM >>= g) (AS s0 p E lo hi n) Q = Wp ((ms >>= fun vs => FM (.ref s0.length :: vs)) >>= g) (AS s0 p E lo hi n) Q := wp_at (bind_at (by
  unfold mthM
  rw [pure_bind']
  show (insD 0 (.ref s0.length) >>= _) (s0 ++ [_, _]) = _
  rw [show kac (pt p) (.ref (s0.length + 1)) (ni lo) (ni hi) (ni n) = .ins 0 _ from rfl, bind_ok ins_1]
  show (noF fm _ >>= _) _ = _
  unfold noF
  rw [h]
  rfl) g)
end
def mid (E : List Nat) (lo hi : Nat) : Nat := if E.length % 2 = 0 then (lo + hi) / 2 else (lo + hi + 1) / 2
section
variable {s0 : Store} {p E : List Nat} {lo hi n : Nat}
theorem miM : m_BlockAsker_middle [.ref s0.length] (AS s0 p E lo hi n) = .ok (ni (mid E lo hi)) (AS s0 p E lo hi n) := by
  suffices q : Wp (m_BlockAsker_middle [.ref s0.length]) (AS s0 p E lo hi n) fun d s' => d = ni (mid E lo hi) ∧ s' = AS s0 p E lo hi n by
    obtain ⟨d, s', e, rfl, rfl⟩ := wp_get q
    exact e
  unfold m_BlockAsker_middle b_BlockAsker_middle mid
  simp only [p1_ap, pure_bind', bind_assoc', runF_bind, c0, c1, c2, wg_ends, w_len, mod_nn (show 0 < 2 by decide), eq_nn]
  by_cases z : E.length % 2 = 0
  · simp only [z, beq_self_eq_true, if_true, bind_assoc', wg_low, wg_high, add_nn, pure_bind', div_nn (show 0 < 2 by decide) (by decide), seqO_rt, runF_rt]
    exact wp_pure ⟨rfl, rfl⟩
  · have : (E.length % 2 == 0) = false := by simp [z]
    simp only [this, Bool.false_eq_true, if_false, if_neg z, pure_bind', seqO_nx, bind_assoc', runF_bind, wg_low, wg_high, add_nn, div_nn (show 0 < 2 by decide) (by decide), runF_rt]
    exact wp_pure ⟨rfl, rfl⟩
end
def ex (L H : List Nat) (j : Nat) : Nat := if j % 2 = 0 then gx L (j / 2) else gx H (j / 2)
structure Tgt (c : Nat) (L H p : List Nat) : Prop where
  c1 : 1 ≤ c
  c3 : c ≤ 3
  pl : p.length = c
  ll : L.length = c
  hl : H.length = c
  box : ∀ k, k < c → gx L k ≤ gx p k ∧ gx p k ≤ gx H k ∧ gx H k ≤ 99
structure Good (c : Nat) (L H p E : List Nat) (lo hi : Nat) : Prop where
  e : E = (List.range E.length).map (ex L H)
  le : E.length ≤ 2 * c
  ev : E.length < 2 * c → E.length % 2 = 0 → lo < hi ∧ lo ≤ gx L (E.length / 2) ∧ gx L (E.length / 2) ≤ hi ∧ hi ≤ gx p (E.length / 2)
  od : E.length < 2 * c → E.length % 2 = 1 → lo < hi ∧ gx p (E.length / 2) ≤ lo ∧ lo ≤ gx H (E.length / 2) ∧ gx H (E.length / 2) ≤ hi ∧ hi ≤ 99
theorem ex_snoc {L H E : List Nat} {v : Nat} (e : E = (List.range E.length).map (ex L H)) (h : v = ex L H E.length) : E ++ [v] = (List.range (E ++ [v]).length).map (ex L H) := by
  rw [List.length_append, List.length_singleton, List.range_succ, List.map_append, ← e, h]
  rfl
section
variable {s0 : Store} {c : Nat} {L H p E : List Nat} {lo hi n : Nat} (T : Tgt c L H p)
include T
theorem beM (e : E = (List.range E.length).map (ex L H)) (le : E.length ≤ 2 * c) :
    Wp (m_BlockAsker_begin [.ref s0.length]) (AS s0 p E lo hi n) fun d s' => d = .non ∧ ∃ E' lo' hi', s' = AS s0 p E' lo' hi' n ∧ Good c L H p E' lo' hi' ∧ E.length ≤ E'.length := by
  have c3 := T.c3
  unfold m_BlockAsker_begin b_BlockAsker_begin
  simp only [p1_ap, pure_bind', bind_assoc', runF_bind]
  refine wp_bind (wp_while (fun m _ st => ∃ E' lo' hi', st = AS s0 p E' lo' hi' n ∧ m = 2 * c - E'.length ∧ E' = (List.range E'.length).map (ex L H) ∧ E'.length ≤ 2 * c ∧ E.length ≤ E'.length) ?_ 20 (2 * c - E.length) () _ ⟨E, lo, hi, rfl, rfl, e, le, Nat.le_refl _⟩ (by omega))
  rintro m ⟨⟩ st ⟨E', lo', hi', rfl, rfl, e', le', ge'⟩
  simp only [c0, c1, c2, c99, bind_assoc', wg_ends, w_len, wg_start, pt_len, T.pl, pure_bind', mul_nn (show 2 < 2 ^ 64 by decide), lt_nn]
  by_cases z : E'.length < 2 * c
  · have hd : E'.length / 2 < c := by omega
    have bx := T.box _ hd
    rw [decide_eq_true z]
    refine wp_pure ?_
    rw [if_pos rfl]
    simp only [wg_start, wg_ends, w_len, pure_bind', div_nn (show 0 < 2 by decide) (by decide), at_pt T.pl hd, mod_nn (show 0 < 2 by decide), eq_nn]
    by_cases y : E'.length % 2 = 0
    · simp only [y, beq_self_eq_true, if_true, mkT2, pure_bind', wtup, wcons, wnil, List.length_cons, List.length_nil, bind_assoc', ws_low, ws_high, wg_low, wg_high, lt_nn]
      by_cases x : 0 < gx p (E'.length / 2)
      · rw [decide_eq_true x]
        simp only [if_true, pure_bind', seqO_rt]
        exact wp_pure (wp_pure ⟨rfl, E', 0, gx p (E'.length / 2), rfl, ⟨e', le', fun _ _ => ⟨x, by omega, by omega, Nat.le_refl _⟩, fun _ h => by omega⟩, ge'⟩)
      · rw [decide_eq_false x]
        simp only [Bool.false_eq_true, if_false, pure_bind', seqO_nx, wg_ends, w_cel, w_app (show E'.length < 1000 by omega)]
        exact wp_pure ⟨_, by rw [List.length_append, List.length_singleton]; omega, E' ++ [gx p (E'.length / 2)], _, _, rfl, rfl, ex_snoc e' (by unfold ex; rw [if_pos y]; omega), by rw [List.length_append, List.length_singleton]; omega, by rw [List.length_append]; omega⟩
    · have y' : (E'.length % 2 == 0) = false := by simp [y]
      simp only [y', Bool.false_eq_true, if_false, mkT2, pure_bind', wtup, wcons, wnil, List.length_cons, List.length_nil, bind_assoc', ws_low, ws_high, wg_low, wg_high, lt_nn, if_true]
      by_cases x : gx p (E'.length / 2) < 99
      · rw [decide_eq_true x]
        simp only [if_true, pure_bind', seqO_rt]
        exact wp_pure (wp_pure ⟨rfl, E', gx p (E'.length / 2), 99, rfl, ⟨e', le', fun _ h => by omega, fun _ _ => ⟨x, Nat.le_refl _, by omega, by omega, Nat.le_refl _⟩⟩, ge'⟩)
      · rw [decide_eq_false x]
        simp only [Bool.false_eq_true, if_false, pure_bind', seqO_nx, wg_ends, w_cel, w_app (show E'.length < 1000 by omega)]
        exact wp_pure ⟨_, by rw [List.length_append, List.length_singleton]; omega, E' ++ [gx p (E'.length / 2)], _, _, rfl, rfl, ex_snoc e' (by unfold ex; rw [if_neg y]; omega), by rw [List.length_append, List.length_singleton]; omega, by rw [List.length_append]; omega⟩
  · rw [decide_eq_false z]
    refine wp_pure ?_
    rw [if_neg Bool.false_ne_true, seqO_nx, runF_nx]
    exact wp_pure ⟨rfl, E', lo', hi', rfl, ⟨e', le', fun h => absurd h z, fun h => absurd h z⟩, ge'⟩
end
def asked (p E : List Nat) (lo hi : Nat) : List Nat := p.set (E.length / 2) (mid E lo hi)
theorem gx_set {p : List Nat} {d v k : Nat} (hd : d < p.length) : gx (p.set d v) k = if k = d then v else gx p k := by
  unfold gx
  rw [List.getD_eq_getElem?_getD, List.getD_eq_getElem?_getD, List.getElem?_set]
  by_cases z : d = k
  · subst z
    rw [if_pos rfl, if_pos rfl, if_pos hd]
    rfl
  · rw [if_neg z, if_neg (fun e => z e.symm)]
theorem eq_known (x : PySem.Str) (h : PySem.PyData.strOk x = true) : eqB (.str x) (.str "known") = pure (x == "known") := eqB_ss (strOk_of h) (strOk_of (by decide +kernel))
section
variable {s0 : Store} {c : Nat} {L H p E : List Nat} {lo hi n : Nat} (T : Tgt c L H p)
include T
theorem step_ends : stepV (en ((List.range (2 * c)).map (ex L H))) (some 0) 2 = en L ∧ stepV (en ((List.range (2 * c)).map (ex L H))) (some 1) 2 = en H := by
  have h1 := T.c1
  have h3 := T.c3
  have hl := T.ll
  have hh := T.hl
  clear T
  rcases (show c = 1 ∨ c = 2 ∨ c = 3 by omega) with rfl | rfl | rfl
  · match L, H, hl, hh with
    | [a], [b], _, _ => exact ⟨by with_unfolding_all rfl, by with_unfolding_all rfl⟩
  · match L, H, hl, hh with
    | [a, a2], [b, b2], _, _ => exact ⟨by with_unfolding_all rfl, by with_unfolding_all rfl⟩
  · match L, H, hl, hh with
    | [a, a2, a3], [b, b2, b3], _, _ => exact ⟨by with_unfolding_all rfl, by with_unfolding_all rfl⟩
theorem stF (e : E = (List.range E.length).map (ex L H)) (hf : E.length = 2 * c) : m_BlockAsker_step [.ref s0.length] (AS s0 p E lo hi n) = .ok (.tup [.str "known", blk L H]) (AS s0 p E lo hi n) := by
  suffices q : Wp (m_BlockAsker_step [.ref s0.length]) (AS s0 p E lo hi n) fun d s' => d = .tup [.str "known", blk L H] ∧ s' = AS s0 p E lo hi n by
    obtain ⟨d, s', e, rfl, rfl⟩ := wp_get q
    exact e
  obtain ⟨e1, e2⟩ := step_ends T
  rw [hf] at e
  rw [← e] at e1 e2
  unfold m_BlockAsker_step b_BlockAsker_step
  simp only [p1_ap, pure_bind', bind_assoc', runF_bind, c2, wg_ends, w_len, wg_start, pt_len, T.pl, mul_nn (show 2 < 2 ^ 64 by decide), eq_nn, hf, beq_self_eq_true, if_true, intM_i, w_lstC, e1, e2, tuple_l, mkT2, seqO_rt, runF_rt]
  exact wp_pure ⟨rfl, rfl⟩
theorem stN (hf : E.length < 2 * c) : m_BlockAsker_step [.ref s0.length] (AS s0 p E lo hi n) = .ok (.tup [.str "ask", pt (asked p E lo hi)]) (AS s0 p E lo hi n) := by
  suffices q : Wp (m_BlockAsker_step [.ref s0.length]) (AS s0 p E lo hi n) fun d s' => d = .tup [.str "ask", pt (asked p E lo hi)] ∧ s' = AS s0 p E lo hi n by
    obtain ⟨d, s', e, rfl, rfl⟩ := wp_get q
    exact e
  have hne : (E.length == 2 * c) = false := by simp; omega
  have c3 := T.c3
  have hd : E.length / 2 < p.length := by rw [T.pl]; omega
  have ea : en (p.take (E.length / 2)) ++ (ni (mid E lo hi) :: en (p.drop (E.length / 2 + 1))) = en (asked p E lo hi) := by
    unfold asked
    rw [List.set_eq_take_append_cons_drop, if_pos hd, en_app]
    rfl
  have hm : mkT (en (asked p E lo hi)) = pure (pt (asked p E lo hi)) := mkT_en (by unfold asked; rw [List.length_set, T.pl]; omega)
  unfold m_BlockAsker_step b_BlockAsker_step
  simp only [p1_ap, pure_bind', bind_assoc', runF_bind, c1, c2, wg_ends, w_len, wg_start, pt_len, T.pl, mul_nn (show 2 < 2 ^ 64 by decide), eq_nn, hne, Bool.false_eq_true, if_false, seqO_nx, div_nn (show 0 < 2 by decide) (by decide), intM_n]
  rw [show slT none (some ((E.length / 2 : Nat) : Int)) (pt p) = pure (.tup (en (p.take (E.length / 2)))) from slT_hi p _]
  simp only [pure_bind', items_t]
  rw [w_mth fun _ _ _ _ _ => rfl]
  simp only [pure_bind', bind_assoc']
  refine wp_go miM ?_
  simp only [wg_start, add_nn, pure_bind', intM_n]
  rw [show slT (some ((E.length / 2 + 1 : Nat) : Int)) none (pt p) = pure (.tup (en (p.drop (E.length / 2 + 1)))) from slT_lo p _]
  simp only [pure_bind', items_t, List.append_nil, ea, hm, mkT2, runF_rt]
  exact wp_pure ⟨rfl, rfl⟩
end
def Bud (c : Nat) (E : List Nat) (lo hi n : Nat) : Prop := (E.length < 2 * c → ∃ k, hi - lo < 2 ^ k ∧ n + 7 * (2 * c - E.length) + k ≤ 14 * c + 7) ∧ (E.length = 2 * c → n ≤ 14 * c)
section
variable {s0 : Store} {c : Nat} {L H p E : List Nat} {lo hi n : Nat} (T : Tgt c L H p)
include T
theorem good_99 (G : Good c L H p E lo hi) (hf : E.length < 2 * c) : hi ≤ 99 := by
  have bx := T.box (E.length / 2) (by omega)
  rcases Nat.mod_two_eq_zero_or_one E.length with y | y
  · have := G.ev hf y; omega
  · have := G.od hf y; omega
theorem ask_has (G : Good c L H p E lo hi) (hf : E.length < 2 * c) : (E.length % 2 = 0 → (has c L H (asked p E lo hi) = true ↔ gx L (E.length / 2) ≤ mid E lo hi)) ∧ (E.length % 2 = 1 → (has c L H (asked p E lo hi) = true ↔ mid E lo hi ≤ gx H (E.length / 2))) := by
  have hd : E.length / 2 < c := by omega
  have hdp : E.length / 2 < p.length := by rw [T.pl]; exact hd
  have bx := T.box _ hd
  have key : has c L H (asked p E lo hi) = true ↔ gx L (E.length / 2) ≤ mid E lo hi ∧ mid E lo hi ≤ gx H (E.length / 2) := by
    rw [has_iff]
    unfold asked
    constructor
    · intro h
      have := h _ hd
      rw [gx_set hdp, if_pos rfl] at this
      exact this
    · intro h k hk
      rw [gx_set hdp]
      by_cases z : k = E.length / 2
      · rw [if_pos z, z]; exact h
      · rw [if_neg z]
        have := T.box k hk
        omega
  constructor
  · intro y
    have g := G.ev hf y
    have hm : mid E lo hi = (lo + hi) / 2 := by unfold mid; rw [if_pos y]
    rw [key]
    omega
  · intro y
    have g := G.od hf y
    have hm : mid E lo hi = (lo + hi + 1) / 2 := by unfold mid; rw [if_neg (by omega)]
    rw [key]
    omega
theorem teM (G : Good c L H p E lo hi) (hf : E.length < 2 * c) (B : Bud c E lo hi n) :
    Wp (m_BlockAsker_tell [.ref s0.length, ni (if has c L H (asked p E lo hi) = true then 1 else 0)]) (AS s0 p E lo hi n) fun d s' => d = .non ∧ ∃ E' lo' hi', s' = AS s0 p E' lo' hi' (n + 1) ∧ Good c L H p E' lo' hi' ∧ Bud c E' lo' hi' (n + 1) := by
  have c3 := T.c3
  have hd : E.length / 2 < c := by omega
  obtain ⟨k, hk1, hk2⟩ := B.1 hf
  obtain ⟨a1, a2⟩ := ask_has T G hf
  -- the end: what a shorter interval gives
  have fin : ∀ lo' hi' : Nat, (∀ j, hi - lo < 2 ^ (j + 1) → hi' - lo' < 2 ^ j) → lo < hi → (lo' = hi' → lo' = ex L H E.length) → (lo' ≠ hi' → Good c L H p E lo' hi') →
      Wp ((eqB (ni lo') (ni hi') >>= fun b => (if b = true then (fldD 0 "ends" (.ref s0.length) >>= fun x => celL x >>= fun _ => fldD 0 "low" (.ref s0.length) >>= fun y => cellApp x y >>= fun _ => mthM 0 "begin" (pure (.ref s0.length)) (pure []) m_BlockAsker_begin >>= fun _ => (pure (.nx ()) : M (Out Unit Unit))) else pure (.nx ())) >>= fun x => runF (seqO (fun _ => (pure (.nx ()) : M (Out Unit Unit))) x))) (AS s0 p E lo' hi' (n + 1)) fun d s' => d = .non ∧ ∃ E' lo' hi', s' = AS s0 p E' lo' hi' (n + 1) ∧ Good c L H p E' lo' hi' ∧ Bud c E' lo' hi' (n + 1) := by
    intro lo' hi' hsh hlt heq hne
    obtain ⟨j, rfl⟩ : ∃ j, k = j + 1 := ⟨k - 1, by
      cases k with
      | zero => rw [Nat.pow_zero] at hk1; omega
      | succ k => omega⟩
    have hsm := hsh j hk1
    rw [eq_nn, pure_bind']
    by_cases z : lo' = hi'
    · rw [if_pos (by simp [z])]
      simp only [wg_ends, w_cel, wg_low, w_app (show E.length < 1000 by omega), bind_assoc']
      rw [w_mth fun _ _ _ _ _ => rfl]
      simp only [pure_bind', bind_assoc']
      refine wp_bind (wp_imp (beM T (E := E ++ [lo']) (ex_snoc G.e (heq z)) (by rw [List.length_append, List.length_singleton]; omega)) ?_)
      rintro d s' ⟨rfl, E', lo2, hi2, rfl, G', hle⟩
      rw [List.length_append, List.length_singleton] at hle
      simp only [pure_bind', seqO_nx, runF_nx]
      refine wp_pure ⟨rfl, E', lo2, hi2, rfl, G', fun h => ⟨7, ?_, by omega⟩, fun h => by omega⟩
      have := good_99 T G' h
      omega
    · rw [if_neg (by simp [z])]
      simp only [pure_bind', seqO_nx, runF_nx]
      exact wp_pure ⟨rfl, E, lo', hi', rfl, hne z, fun h => ⟨j, hsm, by omega⟩, fun h => by omega⟩
  unfold m_BlockAsker_tell b_BlockAsker_tell
  simp only [p2_ap, pure_bind', bind_assoc', runF_bind, c0, c1, c2]
  rw [w_mth fun _ _ _ _ _ => rfl]
  simp only [pure_bind', bind_assoc']
  refine wp_go (stN T hf) ?_
  rw [show ixD (.tup [.str "ask", pt (asked p E lo hi)]) (ni 0) = pure (.str "ask") from rfl, pure_bind', eq_known "ask" (by decide +kernel), pure_bind', show (("ask" : PySem.Str) == "known") = false by decide +kernel]
  simp only [Bool.false_eq_true, if_false, pure_bind', seqO_nx, runF_bind, wg_asks, addI_nn, ws_asks]
  rw [w_mth fun _ _ _ _ _ => rfl]
  simp only [pure_bind', bind_assoc']
  refine wp_go miM ?_
  simp only [wg_ends, w_len, mod_nn (show 0 < 2 by decide), pure_bind', eq_nn, truth_n']
  have pw : ∀ j, 2 ^ (j + 1) = 2 ^ j * 2 := fun j => Nat.pow_succ ..
  rcases Nat.mod_two_eq_zero_or_one E.length with y | y
  · have g := G.ev hf y
    have hm : mid E lo hi = (lo + hi) / 2 := by unfold mid; rw [if_pos y]
    have a1 := a1 y
    rw [if_pos (by simp [y])]
    by_cases z : has c L H (asked p E lo hi) = true
    · have z1 := a1.mp z
      simp only [if_pos z, show (!(1 == 0)) = true from rfl, if_true, wg_low, pure_bind', mkT2, wtup, wcons, wnil, List.length_cons, List.length_nil, bind_assoc', ws_low, ws_high, seqO_nx, runF_bind, wg_high]
      refine fin lo (mid E lo hi) (fun j h => by rw [pw] at h; omega) g.1 (fun h => ?_) fun h => ⟨G.e, G.le, fun _ _ => ⟨by omega, g.2.1, z1, by omega⟩, fun _ h => by omega⟩
      unfold ex
      rw [if_pos y]
      omega
    · have z1 : ¬ gx L (E.length / 2) ≤ mid E lo hi := fun h => z (a1.mpr h)
      simp only [if_neg z, show (!(0 == 0)) = false from rfl, Bool.false_eq_true, if_false, wg_high, add_nn, pure_bind', mkT2, wtup, wcons, wnil, List.length_cons, List.length_nil, bind_assoc', ws_low, ws_high, seqO_nx, runF_bind, wg_low, if_true]
      refine fin (mid E lo hi + 1) hi (fun j h => by rw [pw] at h; omega) g.1 (fun h => ?_) fun h => ⟨G.e, G.le, fun _ _ => ⟨by omega, by omega, g.2.2.1, g.2.2.2⟩, fun _ h => by omega⟩
      unfold ex
      rw [if_pos y]
      omega
  · have g := G.od hf y
    have hm : mid E lo hi = (lo + hi + 1) / 2 := by unfold mid; rw [if_neg (by omega)]
    have a2 := a2 y
    rw [if_neg (by simp [y])]
    by_cases z : has c L H (asked p E lo hi) = true
    · have z1 := a2.mp z
      simp only [if_pos z, show (!(1 == 0)) = true from rfl, if_true, wg_high, pure_bind', mkT2, wtup, wcons, wnil, List.length_cons, List.length_nil, bind_assoc', ws_low, ws_high, seqO_nx, runF_bind, wg_low]
      refine fin (mid E lo hi) hi (fun j h => by rw [pw] at h; omega) g.1 (fun h => ?_) fun h => ⟨G.e, G.le, fun _ h => by omega, fun _ _ => ⟨by omega, by omega, z1, g.2.2.2.1, g.2.2.2.2⟩⟩
      unfold ex
      rw [if_neg (by omega)]
      omega
    · have z1 : ¬ mid E lo hi ≤ gx H (E.length / 2) := fun h => z (a2.mpr h)
      simp only [if_neg z, show (!(0 == 0)) = false from rfl, Bool.false_eq_true, if_false, wg_low, sub_nn (show 1 ≤ mid E lo hi by omega), pure_bind', mkT2, wtup, wcons, wnil, List.length_cons, List.length_nil, bind_assoc', ws_low, ws_high, seqO_nx, runF_bind, wg_high, if_true]
      refine fin lo (mid E lo hi - 1) (fun j h => by rw [pw] at h; omega) g.1 (fun h => ?_) fun h => ⟨G.e, G.le, fun _ h => by omega, fun _ _ => ⟨by omega, g.2.1, g.2.2.1, by omega, by omega⟩⟩
      unfold ex
      rw [if_neg (by omega)]
      omega
end
/-! ### the plain law -/
open Bd in
theorem bits_one {l : List Nat} {v : Nat} (hne : l ≠ []) (h : ∀ x ∈ l, x = v) : usort l = [v] := by
  refine asc_eq (usort_asc l) (List.pairwise_singleton _ v) fun x => ?_
  rw [usort_mem, List.mem_singleton]
  constructor
  · exact h x
  · rintro rfl
    cases l with
    | nil => exact absurd rfl hne
    | cons a r => rw [← h a List.mem_cons_self]; exact List.mem_cons_self
open Bd in
theorem bits_two {l : List Nat} (h0 : 0 ∈ l) (h1 : 1 ∈ l) : (usort l).length ≠ 1 ∧ ∃ a r, usort l = a :: r := by
  have m0 := usort_mem.mpr h0
  have m1 := usort_mem.mpr h1
  cases e : usort l with
  | nil => rw [e] at m0; cases m0
  | cons a r =>
    refine ⟨fun hl => ?_, a, r, rfl⟩
    rw [e] at m0 m1
    cases r with
    | nil =>
      rw [List.mem_singleton] at m0 m1
      omega
    | cons b t => simp at hl
def btn (b : Bool) : Nat := if b = true then 1 else 0
structure Con (c m : Nat) (L H : List Nat) (A : List (List Nat × Nat)) : Prop where
  ne : ins A ≠ []
  pt : ∀ a ∈ A, a.1.length = c ∧ ∀ x ∈ a.1, x < m
  bit : ∀ a ∈ A, a.2 = btn (has c L H a.1)
  len : A.length ≤ 7
theorem mem_ins {A : List (List Nat × Nat)} {p : List Nat} : p ∈ ins A ↔ ∃ a ∈ A, a.2 = 1 ∧ a.1 = p := by
  unfold ins
  rw [List.mem_map]
  constructor
  · rintro ⟨a, h, e⟩
    rw [List.mem_filter, beq_iff_eq] at h
    exact ⟨a, h.1, h.2, e⟩
  · rintro ⟨a, h1, h2, e⟩
    exact ⟨a, List.mem_filter.mpr ⟨h1, beq_iff_eq.mpr h2⟩, e⟩
theorem zer_iff {c : Nat} {A : List (List Nat × Nat)} {lo hi : List Nat} : zer c A lo hi = true ↔ ∃ a ∈ A, a.2 = 0 ∧ has c lo hi a.1 = true := by
  unfold zer
  rw [List.any_eq_true]
  refine exists_congr fun a => and_congr_right fun _ => ?_
  rw [Bool.and_eq_true, beq_iff_eq]
/-- a block that gives all answers -/
def fits (c : Nat) (A : List (List Nat × Nat)) (lo hi : List Nat) : Prop := ∀ a ∈ A, btn (has c lo hi a.1) = a.2
theorem bit_1 {b : Bool} : btn b = 1 ↔ b = true := by cases b <;> decide
theorem bit_0 {b : Bool} : btn b = 0 ↔ b = false := by cases b <;> decide
section
variable {c m : Nat} {L H : List Nat} {A : List (List Nat × Nat)} (K : Con c m L H A)
include K
theorem Con.ans (m9 : m ≤ 9) : okA c A := fun a ha => by
  obtain ⟨h1, h2⟩ := K.pt a ha
  refine ⟨⟨h1, fun x hx => by have := h2 x hx; omega⟩, ?_⟩
  rw [K.bit a ha]
  cases has c L H a.1
  · exact .inl rfl
  · exact .inr rfl
theorem Con.in_box {p : List Nat} (h : p ∈ ins A) : has c L H p = true := by
  obtain ⟨a, ha, e, rfl⟩ := mem_ins.mp h
  exact bit_1.mp ((K.bit a ha).symm.trans e)
theorem Con.hull {k : Nat} (hk : k < c) : gx L k ≤ gx (loP c (ins A)) k ∧ gx (hiP c (ins A)) k ≤ gx H k := hull_least K.ne (fun p hp => K.in_box hp) hk
theorem Con.nozer : zer c A (loP c (ins A)) (hiP c (ins A)) = false := by
  rw [Bool.eq_false_iff]
  intro h
  obtain ⟨a, ha, e, h⟩ := zer_iff.mp h
  have := has_of h fun k hk => K.hull hk
  have := K.bit a ha
  rw [e] at this
  have := bit_0.mp this.symm
  simp_all
theorem Con.fit_hull : fits c A (loP c (ins A)) (hiP c (ins A)) := fun a ha => by
  by_cases h : a.2 = 1
  · rw [h]
    exact bit_1.mpr (hull_has (mem_ins.mpr ⟨a, ha, h, rfl⟩))
  · have h0 : a.2 = 0 := by
      have := K.bit a ha
      rw [this] at h ⊢
      cases z : has c L H a.1
      · rfl
      · rw [z] at h; exact absurd rfl h
    rw [h0]
    refine bit_0.mpr ?_
    rw [Bool.eq_false_iff]
    intro z
    have := K.nozer
    rw [Bool.eq_false_iff] at this
    exact this (zer_iff.mpr ⟨a, ha, h0, z⟩)
omit K in
theorem fits_hull {lo hi : List Nat} (hne : ins A ≠ []) (F : fits c A lo hi) {k : Nat} (hk : k < c) : gx lo k ≤ gx (loP c (ins A)) k ∧ gx (hiP c (ins A)) k ≤ gx hi k :=
  hull_least hne (fun p hp => by
    obtain ⟨a, ha, e, rfl⟩ := mem_ins.mp hp
    exact bit_1.mp ((F a ha).trans e)) hk
theorem Con.wide_least {lo hi q : List Nat} (h1 : ∀ k, k < c → gx lo k ≤ gx (loP c (ins A)) k ∧ gx (hiP c (ins A)) k ≤ gx hi k) (hq : has c lo hi q = true) {k : Nat} (hk : k < c) :
    gx lo k ≤ gx (wideL c (loP c (ins A)) (hiP c (ins A)) q) k ∧ gx (wideH c (loP c (ins A)) (hiP c (ins A)) q) k ≤ gx hi k := by
  refine hull_least (List.cons_ne_nil _ _) (fun p hp => ?_) hk
  simp only [List.mem_cons, List.not_mem_nil, or_false] at hp
  rcases hp with rfl | rfl | rfl
  · refine has_iff.mpr fun j hj => ?_
    have := h1 j hj
    have := hull_corners K.ne hj
    omega
  · refine has_iff.mpr fun j hj => ?_
    have := h1 j hj
    have := hull_corners K.ne hj
    omega
  · exact hq
omit K in
theorem wide_ge {lo hi q : List Nat} {k : Nat} (hk : k < c) : gx (wideL c lo hi q) k ≤ gx lo k ∧ gx hi k ≤ gx (wideH c lo hi q) k := by
  have a := has_iff.mp (hull_has (c := c) (pts := [lo, hi, q]) (p := lo) List.mem_cons_self) k hk
  have b := has_iff.mp (hull_has (c := c) (pts := [lo, hi, q]) (p := hi) (List.mem_cons_of_mem _ List.mem_cons_self)) k hk
  unfold wideL wideH
  omega
omit K in
theorem wide_has {lo hi q : List Nat} : has c (wideL c lo hi q) (wideH c lo hi q) q = true := hull_has (List.mem_cons_of_mem _ (List.mem_cons_of_mem _ List.mem_cons_self))
/-- what is settled: 1 -/
theorem Con.all1 {q : List Nat} (h : has c (loP c (ins A)) (hiP c (ins A)) q = true) {lo hi : List Nat} (F : fits c A lo hi) : has c lo hi q = true := has_of h fun _ hk => fits_hull K.ne F hk
/-- .. 0 -/
theorem Con.all0 {q : List Nat} (z : zer c A (wideL c (loP c (ins A)) (hiP c (ins A)) q) (wideH c (loP c (ins A)) (hiP c (ins A)) q) = true) {lo hi : List Nat} (F : fits c A lo hi) : has c lo hi q = false := by
  rw [Bool.eq_false_iff]
  intro h
  obtain ⟨a, ha, e, hw⟩ := zer_iff.mp z
  have := has_of hw fun k hk => K.wide_least (fun j hj => fits_hull K.ne F hj) h hk
  have := bit_0.mp ((F a ha).trans e)
  simp_all
/-- .. neither -/
theorem Con.wide_fits {q : List Nat} (z : zer c A (wideL c (loP c (ins A)) (hiP c (ins A)) q) (wideH c (loP c (ins A)) (hiP c (ins A)) q) = false) : fits c A (wideL c (loP c (ins A)) (hiP c (ins A)) q) (wideH c (loP c (ins A)) (hiP c (ins A)) q) := fun a ha => by
  by_cases h : a.2 = 1
  · rw [h]
    exact bit_1.mpr (has_of (hull_has (mem_ins.mpr ⟨a, ha, h, rfl⟩)) fun k hk => wide_ge hk)
  · have h0 : a.2 = 0 := by
      have := K.bit a ha
      rw [this] at h ⊢
      cases y : has c L H a.1
      · rfl
      · rw [y] at h; exact absurd rfl h
    rw [h0]
    refine bit_0.mpr ?_
    rw [Bool.eq_false_iff] at z ⊢
    intro y
    exact z (zer_iff.mpr ⟨a, ha, h0, y⟩)
/-- one more point that must be in it -/
theorem Con.snoc {p : List Nat} (hp : p.length = c ∧ ∀ x ∈ p, x < m) (hb : has c L H p = true) (h6 : A.length ≤ 6) : Con c m L H (A ++ [(p, 1)]) := by
  refine ⟨?_, fun a ha => ?_, fun a ha => ?_, by rw [List.length_append, List.length_singleton]; omega⟩
  · have : p ∈ ins (A ++ [(p, 1)]) := mem_ins.mpr ⟨(p, 1), List.mem_append_right _ List.mem_cons_self, rfl, rfl⟩
    intro e
    rw [e] at this
    cases this
  · rcases List.mem_append.mp ha with ha | ha
    · exact K.pt a ha
    · rw [List.mem_singleton.mp ha]; exact hp
  · rcases List.mem_append.mp ha with ha | ha
    · exact K.bit a ha
    · rw [List.mem_singleton.mp ha]; exact (bit_1.mpr hb).symm
theorem Con.more {p q : List Nat} (hp : p.length = c ∧ ∀ x ∈ p, x < m) (hb : has c L H p = true) (h6 : A.length ≤ 6) (hd : setD c A q ≠ .non) : setD c (A ++ [(p, 1)]) q = setD c A q := by
  have K' := K.snoc hp hb h6
  have sub : ∀ r ∈ ins A, r ∈ ins (A ++ [(p, 1)]) := fun r hr => by
    obtain ⟨a, ha, e⟩ := mem_ins.mp hr
    exact mem_ins.mpr ⟨a, List.mem_append_left _ ha, e⟩
  have bigger : ∀ k, k < c → gx (loP c (ins (A ++ [(p, 1)]))) k ≤ gx (loP c (ins A)) k ∧ gx (hiP c (ins A)) k ≤ gx (hiP c (ins (A ++ [(p, 1)]))) k := fun k hk => hull_least K.ne (fun r hr => hull_has (sub r hr)) hk
  unfold setD at hd ⊢
  by_cases z1 : has c (loP c (ins A)) (hiP c (ins A)) q = true
  · simp only [if_pos z1, if_pos (has_of z1 bigger)]
  · simp only [if_neg z1] at hd ⊢
    by_cases z2 : zer c A (wideL c (loP c (ins A)) (hiP c (ins A)) q) (wideH c (loP c (ins A)) (hiP c (ins A)) q) = true
    · simp only [if_pos z2]
      obtain ⟨a, ha, e, hw⟩ := zer_iff.mp z2
      have n1 : ¬ has c (loP c (ins (A ++ [(p, 1)]))) (hiP c (ins (A ++ [(p, 1)]))) q = true := fun h => by
        have h2 := has_of hw fun k hk => K.wide_least bigger h hk
        have h3 := has_of h2 fun k hk => K'.hull hk
        have := K.bit a ha
        rw [e] at this
        have := bit_0.mp this.symm
        simp_all
      have w : ∀ k, k < c → gx (wideL c (loP c (ins (A ++ [(p, 1)]))) (hiP c (ins (A ++ [(p, 1)]))) q) k ≤ gx (wideL c (loP c (ins A)) (hiP c (ins A)) q) k ∧ gx (wideH c (loP c (ins A)) (hiP c (ins A)) q) k ≤ gx (wideH c (loP c (ins (A ++ [(p, 1)]))) (hiP c (ins (A ++ [(p, 1)]))) q) k := fun k hk =>
        K.wide_least (fun j hj => by
          have := bigger j hj
          have := wide_ge (c := c) (lo := loP c (ins (A ++ [(p, 1)]))) (hi := hiP c (ins (A ++ [(p, 1)]))) (q := q) hj
          omega) wide_has hk
      rw [if_neg n1, if_pos (zer_iff.mpr ⟨a, List.mem_append_left _ ha, e, has_of hw w⟩)]
    · simp only [if_neg z2] at hd
      exact absurd rfl hd
end
theorem lo_lt {c m : Nat} {pts : List (List Nat)} (hne : pts ≠ []) (h : ∀ p ∈ pts, p.length = c ∧ ∀ x ∈ p, x < m) : (∀ x ∈ loP c pts, x < m) ∧ ∀ x ∈ hiP c pts, x < m := by
  have g : ∀ p ∈ pts, ∀ k, k < c → gx p k < m := fun p hp k hk => by
    obtain ⟨h1, h2⟩ := h p hp
    have hk' : k < p.length := by omega
    unfold gx
    rw [List.getD_eq_getElem?_getD, List.getElem?_eq_getElem hk']
    exact h2 _ (List.getElem_mem hk')
  constructor
  · intro x hx
    obtain ⟨k, hk, rfl⟩ := List.mem_map.mp hx
    obtain ⟨p, hp, e⟩ := List.mem_map.mp (mnN_mem (l := pts.map (gx · k)) (by simpa using hne))
    rw [← e]
    exact g p hp k (List.mem_range.mp hk)
  · intro x hx
    obtain ⟨k, hk, rfl⟩ := List.mem_map.mp hx
    obtain ⟨p, hp, e⟩ := List.mem_map.mp (mxN_mem (l := pts.map (gx · k)) (by simpa using hne))
    rw [← e]
    exact g p hp k (List.mem_range.mp hk)
/-! the law's blocks -/
def leP (c : Nat) (lo hi : List Nat) : Bool := (List.range c).all fun k => decide (gx lo k ≤ gx hi k)
def blks (c m : Nat) : List (List Nat × List Nat) := (allPts c m).flatMap fun lo => ((allPts c m).filter (leP c lo)).map fun hi => (lo, hi)
def goods (c m : Nat) (A : List (List Nat × Nat)) : List (List Nat × List Nat) := (blks c m).filter fun o => A.all fun a => btn (has c o.1 o.2 a.1) == a.2
theorem leP_iff {c : Nat} {lo hi : List Nat} : leP c lo hi = true ↔ ∀ k, k < c → gx lo k ≤ gx hi k := by
  unfold leP
  rw [List.all_eq_true]
  constructor
  · intro h k hk
    simpa using h k (List.mem_range.mpr hk)
  · intro h k hk
    simpa using h k (List.mem_range.mp hk)
theorem mem_blks {c m : Nat} {o : List Nat × List Nat} : o ∈ blks c m ↔ o.1 ∈ allPts c m ∧ o.2 ∈ allPts c m ∧ ∀ k, k < c → gx o.1 k ≤ gx o.2 k := by
  unfold blks
  rw [List.mem_flatMap]
  constructor
  · rintro ⟨lo, h1, h⟩
    obtain ⟨hi, h2, rfl⟩ := List.mem_map.mp h
    rw [List.mem_filter] at h2
    exact ⟨h1, h2.1, leP_iff.mp h2.2⟩
  · rintro ⟨h1, h2, h3⟩
    exact ⟨o.1, h1, List.mem_map.mpr ⟨o.2, List.mem_filter.mpr ⟨h2, leP_iff.mpr h3⟩, rfl⟩⟩
theorem mem_goods {c m : Nat} {A : List (List Nat × Nat)} {o : List Nat × List Nat} : o ∈ goods c m A ↔ o ∈ blks c m ∧ fits c A o.1 o.2 := by
  unfold goods fits
  rw [List.mem_filter, List.all_eq_true]
  refine and_congr_right fun _ => forall_congr' fun a => forall_congr' fun _ => ?_
  rw [beq_iff_eq]
section
variable {c m : Nat} {L H : List Nat} {A : List (List Nat × Nat)} (K : Con c m L H A)
include K
theorem Con.ins_pt : ∀ p ∈ ins A, p.length = c ∧ ∀ x ∈ p, x < m := fun p hp => by
  obtain ⟨a, ha, _, rfl⟩ := mem_ins.mp hp
  exact K.pt a ha
theorem Con.hull_pts : loP c (ins A) ∈ allPts c m ∧ hiP c (ins A) ∈ allPts c m := by
  obtain ⟨h1, h2⟩ := lo_lt K.ne K.ins_pt
  exact ⟨allPts_mem.mpr ⟨lo_len, h1⟩, allPts_mem.mpr ⟨hi_len, h2⟩⟩
theorem Con.hull_good : (loP c (ins A), hiP c (ins A)) ∈ goods c m A := mem_goods.mpr ⟨mem_blks.mpr ⟨K.hull_pts.1, K.hull_pts.2, fun k hk => hull_corners K.ne hk⟩, K.fit_hull⟩
theorem Con.good_hull {o : List Nat × List Nat} (h : o ∈ goods c m A) : has c o.1 o.2 (loP c (ins A)) = true ∧ has c o.1 o.2 (hiP c (ins A)) = true := by
  have F := (mem_goods.mp h).2
  constructor
  · refine has_iff.mpr fun k hk => ?_
    have := fits_hull K.ne F hk
    have := hull_corners K.ne hk
    omega
  · refine has_iff.mpr fun k hk => ?_
    have := fits_hull K.ne F hk
    have := hull_corners K.ne hk
    omega
/-- what the law says is due -/
theorem Con.due {q : List Nat} (hq : q.length = c ∧ ∀ x ∈ q, x < m) : ∃ b r, Bd.usort ((goods c m A).map fun o => btn (has c o.1 o.2 q)) = b :: r ∧ setD c A q = if (b :: r).length = 1 then ni b else .non := by
  have hne : (goods c m A).map (fun o => btn (has c o.1 o.2 q)) ≠ [] := by
    intro e
    have := List.map_eq_nil_iff.mp e
    have h := K.hull_good
    rw [this] at h
    cases h
  unfold setD
  by_cases z1 : has c (loP c (ins A)) (hiP c (ins A)) q = true
  · refine ⟨1, [], bits_one hne fun x hx => ?_, by rw [if_pos z1]; rfl⟩
    obtain ⟨o, ho, rfl⟩ := List.mem_map.mp hx
    exact bit_1.mpr (K.all1 z1 (mem_goods.mp ho).2)
  · rw [if_neg z1]
    by_cases z2 : zer c A (wideL c (loP c (ins A)) (hiP c (ins A)) q) (wideH c (loP c (ins A)) (hiP c (ins A)) q) = true
    · refine ⟨0, [], bits_one hne fun x hx => ?_, by rw [if_pos z2]; rfl⟩
      obtain ⟨o, ho, rfl⟩ := List.mem_map.mp hx
      exact bit_0.mpr (K.all0 z2 (mem_goods.mp ho).2)
    · rw [if_neg z2]
      have w := K.wide_fits (Bool.eq_false_iff.mpr z2)
      obtain ⟨p1, p2⟩ := K.hull_pts
      have hw : ∀ p ∈ ([loP c (ins A), hiP c (ins A), q] : List (List Nat)), p.length = c ∧ ∀ x ∈ p, x < m := fun p hp => by
        simp only [List.mem_cons, List.not_mem_nil, or_false] at hp
        rcases hp with rfl | rfl | rfl
        · exact allPts_mem.mp p1
        · exact allPts_mem.mp p2
        · exact hq
      obtain ⟨w1, w2⟩ := lo_lt (List.cons_ne_nil _ _) hw
      have gw : (wideL c (loP c (ins A)) (hiP c (ins A)) q, wideH c (loP c (ins A)) (hiP c (ins A)) q) ∈ goods c m A :=
        mem_goods.mpr ⟨mem_blks.mpr ⟨allPts_mem.mpr ⟨lo_len, w1⟩, allPts_mem.mpr ⟨hi_len, w2⟩, fun k hk => hull_corners (List.cons_ne_nil _ _) hk⟩, w⟩
      have h1 : 1 ∈ (goods c m A).map fun o => btn (has c o.1 o.2 q) := List.mem_map.mpr ⟨_, gw, bit_1.mpr wide_has⟩
      have h0 : 0 ∈ (goods c m A).map fun o => btn (has c o.1 o.2 q) := List.mem_map.mpr ⟨_, K.hull_good, bit_0.mpr (Bool.eq_false_iff.mpr z1)⟩
      obtain ⟨nl, a, r, e⟩ := bits_two h0 h1
      refine ⟨a, r, e, ?_⟩
      rw [← e, if_neg nl]
end
/-! ### a new asker -/
theorem setI {s0 : Store} {fs : List (PySem.Str × D)} {f : PySem.Str} {d : D} {β : Type} {Q : β → Store → Prop} (h : fs.length < 1000) (g : Unit → M β) : Wp (setF 0 f (.ref s0.length) d >>= g) (s0 ++ [.ins 0 fs]) Q = Wp (g ()) (s0 ++ [.ins 0 (putD f d fs)]) Q := wp_at (bind_ok (by
  unfold setF
  have e : insD 0 (.ref s0.length) (s0 ++ [.ins 0 fs]) = .ok (s0.length, fs) (s0 ++ [.ins 0 fs]) := by
    show (getC s0.length >>= _) _ = _
    rw [bind_ok (show getC s0.length (s0 ++ [Cell.ins 0 fs]) = .ok (Cell.ins 0 fs) (s0 ++ [Cell.ins 0 fs]) by
      unfold getC
      rw [List.getElem?_append_right (Nat.le_refl _), Nat.sub_self]
      rfl)]
    rfl
  rw [bind_ok e]
  show (if fs.length < 1000 then setC s0.length (.ins 0 (putD f d fs)) else stuck) _ = _
  rw [if_pos h]
  show Res.ok () ((s0 ++ [Cell.ins 0 fs]).set s0.length _) = _
  rw [set_end]))
theorem setII {s0 : Store} {fs : List (PySem.Str × D)} {f : PySem.Str} {d : D} {C' : Cell} {β : Type} {Q : β → Store → Prop} (h : fs.length < 1000) (g : Unit → M β) : Wp (setF 0 f (.ref s0.length) d >>= g) (s0 ++ [.ins 0 fs, C']) Q = Wp (g ()) (s0 ++ [.ins 0 (putD f d fs), C']) Q := wp_at (bind_ok (setF_1 h))
section
variable {s0 : Store} {c : Nat} {L H p : List Nat} (T : Tgt c L H p)
include T
theorem mkA (hp : okP c p) {Q : D → Store → Prop} (q : ∀ E lo hi, Good c L H p E lo hi → Bud c E lo hi 0 → Q (.ref s0.length) (AS s0 p E lo hi 0)) : Wp (mkM 0 (pure [ni c, pt p]) m_BlockAsker___init__) s0 Q := by
  refine mk_at ?_
  rw [set_end]
  unfold m_BlockAsker___init__ b_BlockAsker___init__
  simp only [p3_ap, pure_bind', bind_assoc', runF_bind, cpM T.c1 T.c3 hp, mkL0]
  rw [show tupleD (pt p) = pure (pt p) from rfl]
  simp only [pure_bind', setI (show ([] : List (PySem.Str × D)).length < 1000 by decide)]
  refine wp_go (a := .ref (s0.length + 1)) (s' := s0 ++ [.ins 0 [("start", pt p)], .lst []]) (by
    show Res.ok (D.ref (s0 ++ [Cell.ins 0 [("start", pt p)]]).length) ((s0 ++ [Cell.ins 0 [("start", pt p)]]) ++ [Cell.lst []]) = _
    rw [List.length_append, List.append_assoc]
    rfl) ?_
  rw [setII (Nat.le_of_ble_eq_true rfl), setII (Nat.le_of_ble_eq_true rfl), setII (Nat.le_of_ble_eq_true rfl), setII (Nat.le_of_ble_eq_true rfl)]
  rw [show s0 ++ [Cell.ins 0 (putD "asks" (.int 0) (putD "high" (.int 0) (putD "low" (.int 0) (putD "ends" (.ref (s0.length + 1)) [("start", pt p)])))), Cell.lst []] = AS s0 p [] 0 0 0 from rfl]
  rw [w_mth fun _ _ _ _ _ => rfl]
  simp only [pure_bind', bind_assoc']
  refine wp_bind (wp_imp (beM T (E := []) rfl (Nat.zero_le _)) ?_)
  rintro d s' ⟨rfl, E', lo, hi, rfl, G, _⟩
  rw [runF_nx]
  refine wp_pure ⟨rfl, q E' lo hi G ⟨fun h => ⟨7, ?_, ?_⟩, fun _ => Nat.zero_le _⟩⟩
  · have := good_99 T G h
    omega
  · have := T.c1
    omega
end
theorem lcM_by {α : Type} {mi : M (List D)} {u : D → M (List D)} {mt : List D → M Bool} {me : List D → M D} {to : α → D} {xs : List α} (p : α → Bool) (hi : mi = pure (xs.map to)) (hl : xs.length ≤ 2 ^ 24)
    (h : ∀ x ∈ xs, (u (to x) >>= fun ds => mt ds >>= fun b => if b = true then me ds >>= fun d => pure (some d) else pure none) = pure (some (.bl (p x)))) : lcM mi u mt me = pure (.lst ((xs.map p).map .bl)) := by
  rw [lcM_map (to := to) (xs := xs) (fun x => .bl (p x)) hi hl h, List.map_map]
  rfl
theorem all_by {α : Type} (xs : List α) (p : α → Bool) : allD (.lst ((xs.map p).map .bl)) = pure (.bl (xs.all p)) := by
  rw [all_bools, List.all_map]
  rfl
theorem in_by {α : Type} {n : Nat} {f : α → D} {a : α} {xs : List α} (hn : n ≤ 60) (h : a ∈ xs) (hs : ∀ x ∈ xs, Sh n (f x)) : inB true (f a) (.lst (xs.map f)) = pure false := by
  show inSeq true (f a) (xs.map f) = _
  unfold inSeq
  have e1 := (hs a h).ok (by omega)
  have e2 : PySem.SeqAt.shaped (.list (toPs (xs.map f))) = true := by
    have := (Sh.lst (n := n) (xs := xs.map f) fun x hx => by
      obtain ⟨y, hy, rfl⟩ := List.mem_map.mp hx
      exact hs y hy).ok (by omega)
    rwa [toP] at this
  rw [e1, e2]
  show pure (!((xs.map f).any fun z => PySem.PyData.eqv (toP z) (toP (f a)))) = _
  rw [List.any_eq_true.mpr ⟨f a, List.mem_map_of_mem h, eqv_refl _ (hs a h).1⟩]
  rfl
theorem sh_pt {n : Nat} (p : List Nat) : Sh (n + 1) (pt p) := Sh.ten p
theorem sh_blk {n : Nat} (lo hi : List Nat) : Sh (n + 2) (blk lo hi) := Sh.tup fun x hx => by
  simp only [List.mem_cons, List.not_mem_nil, or_false] at hx
  rcases hx with rfl | rfl
  · exact sh_pt lo
  · exact sh_pt hi
theorem wp_lc_mi {mi : M (List D)} {u : D → M (List D)} {mt : List D → M Bool} {me : List D → M D} {s : Store} {Q : D → Store → Prop} (h : Wp mi s fun xs s' => Wp (lcM (pure xs) u mt me) s' Q) : Wp (lcM mi u mt me) s Q := by
  unfold lcM at h ⊢
  refine wp_bind (wp_imp h fun xs s' q => ?_)
  rwa [pure_bind'] at q
theorem ptsM {c m n N : Nat} {rest s : Store} {Q : D → Store → Prop} (h3 : c ≤ 3) (hm : 0 < m) (hN : N ≤ 20) (d : Drw (n + N * 3) rest s)
    (q : ∀ (pts : List (List Nat)) s', pts.length = N → (∀ p ∈ pts, p.length = c ∧ ∀ x ∈ p, x < m) → Drw n rest s' → Q (.lst (pts.map pt)) s') :
    Wp (lcM (pure (en (List.range N))) nm (p1 fun _ => (pure true : M Bool)) (p1 fun _ => m__law_point [.ref 0, ni c, ni m])) s Q := by
  refine wp_lc (J := fun xs acc s => ∃ r : List (List Nat), acc = r.map pt ∧ (∀ p ∈ r, p.length = c ∧ ∀ x ∈ p, x < m) ∧ r.length + xs.length = N ∧ Drw (n + xs.length * 3) rest s) (wp_pure ⟨[], rfl, (fun x h => nomatch h), by rw [List.length_nil, Nat.zero_add, en_len, List.length_range], by rw [en_len, List.length_range]; exact d⟩) ?_ ?_
  · rintro x r acc s ⟨l, rfl, h1, h2, d⟩
    rw [List.length_cons] at h2 d
    simp only [nm_ap, p1_ap, pure_bind', if_true]
    refine wp_bind (lpM (n := n + r.length * 3) h3 hm (d.less (by omega)) fun p s' h4 h5 d' => wp_pure ⟨l ++ [p], by rw [List.map_append]; rfl, fun q hq => ?_, by rw [List.length_append, List.length_singleton]; omega, d'⟩)
    rcases List.mem_append.mp hq with hq | hq
    · exact h1 q hq
    · rw [List.mem_singleton.mp hq]; exact ⟨h4, h5⟩
  · rintro ys s ⟨l, rfl, h1, h2, d⟩
    rw [List.length_nil] at h2 d
    exact ⟨by rw [List.length_map]; omega, q l s h2 h1 (d.less (by omega))⟩
theorem hd_pts {p : List Nat} {r : List (List Nat)} : ixD (.lst ((p :: r).map pt)) (ni 0) = pure (pt p) := by
  show ixL _ ((0 : Nat) : Int) = _
  unfold ixL
  rw [L2.atI_nat (j := 0) (show ((p :: r).map pt)[0]? = some (pt p) from rfl)]
theorem last_pts {pts : List (List Nat)} (hne : pts ≠ []) : ixD (.lst (pts.map pt)) (.int (-1)) = pure (pt (pts.getLast hne)) := by
  show ixL _ (-1) = _
  unfold ixL
  have e : L2.atI (pts.map pt) (-1) = some (pt (pts.getLast hne)) := by
    have hl : 0 < pts.length := List.length_pos_iff.mpr hne
    have e1 : L2.ixN (pts.map pt).length (-1) = some (pts.length - 1) := by
      unfold L2.ixN
      rw [List.length_map, if_neg (by decide), if_pos (by omega)]
      congr 1
      omega
    unfold L2.atI
    rw [e1]
    show (pts.map pt)[pts.length - 1]? = _
    rw [List.getElem?_map, List.getLast_eq_getElem, List.getElem?_eq_getElem (by omega)]
    rfl
  rw [e]
/-- the answers -/
def ansL (c : Nat) (L H p0 : List Nat) (dr : List (List Nat)) : List (List Nat × Nat) := (p0, 1) :: dr.map fun p => (p, btn (has c L H p))
def bo (o : List Nat × List Nat) : D := blk o.1 o.2
theorem law_ok : LawOk m_law := by
  intro ns hl
  obtain ⟨nums, e, h0, h1⟩ := stream_ok ns hl []
  suffices h : Wp (m_law [.rls (ns.map .int)]) [] fun d _ => d = .bl true from h.run
  unfold m_law b_law
  simp only [p1_ap, pure_bind', bind_assoc', runF_bind]
  refine wp_go e ?_
  rw [mkL2, pure_bind']
  refine wp_go (a := .ref 0) (s' := [.lst [.lst (nums.map .int), .int ((0 : Nat) : Int)]]) rfl ?_
  rw [c4, range1_n 4 (by decide), pure_bind']
  refine wp_bind (wp_for (fun xs _ s => ∃ rest, Drw (xs.length * 60) rest s) _ _ _ ⟨[], nums, 0, rfl, h0, h1, by rw [en_len]; decide⟩ ?_ ?_)
  · rintro x r z0 s ⟨rest, hd⟩
    rw [List.length_cons] at hd
    rw [nm_ap, pure_bind', p1_ap, c1]
    refine wp_bind (next_wp (many := 3) (hd.less (m := r.length * 60 + 59 + 1) (by omega)) (by omega) fun kz s1 hk0 hk hd1 => ?_)
    obtain ⟨k, rfl⟩ : ∃ k : Nat, kz = (k : Int) := ⟨kz.toNat, by omega⟩
    rw [show D.int ((k : Nat) : Int) = ni k from rfl, add_nn, pure_bind']
    generalize hc : 1 + k = c
    have g1 : 1 ≤ c := by omega
    have g3 : c ≤ 3 := by omega
    obtain ⟨m, em, m1, m9, m27⟩ : ∃ m, ixD (.lst [.int 9, ni 4, .int 3]) (ni (c - 1)) = pure (ni m) ∧ 1 ≤ m ∧ m ≤ 9 ∧ m ^ c ≤ 27 := by
      rcases (show c = 1 ∨ c = 2 ∨ c = 3 by omega) with rfl | rfl | rfl
      · exact ⟨9, rfl, by omega, by omega, by decide⟩
      · exact ⟨4, rfl, by omega, by omega, by decide⟩
      · exact ⟨3, rfl, by omega, by omega, by decide⟩
    rw [mkL3, pure_bind', sub_nn g1, pure_bind', em, pure_bind']
    -- the points
    refine wp_bind (wp_lc_mi (wp_bind (next_wp (n := r.length * 60 + 58) (many := ((4 : Nat) : Int)) (hd1.less (by omega)) (by omega) fun kz2 s2 hj0 hj hd2 => ?_)))
    obtain ⟨k2, rfl⟩ : ∃ k : Nat, kz2 = (k : Int) := ⟨kz2.toNat, by omega⟩
    rw [show D.int ((k2 : Nat) : Int) = ni k2 from rfl, add_nn, pure_bind', range1_n _ (by omega)]
    refine wp_pure (ptsM (n := r.length * 60 + 46) g3 m1 (by omega) (hd2.less (by omega)) fun pts s3 hN hP hd3 => ?_)
    have hne : pts ≠ [] := by intro e; rw [e] at hN; simp at hN; omega
    have h8 : pts.length ≤ 4 := by omega
    have okp : ∀ {p : List Nat}, (p.length = c ∧ ∀ x ∈ p, x < m) → okP c p := fun h => ⟨h.1, fun x hx => by have := h.2 x hx; omega⟩
    generalize hL : loP c pts = L
    generalize hH : hiP c pts = H
    obtain ⟨ltL, ltH⟩ := lo_lt hne hP
    rw [hL] at ltL
    rw [hH] at ltH
    have lenL : L.length = c := by rw [← hL]; exact lo_len
    have lenH : H.length = c := by rw [← hH]; exact hi_len
    have okL : okP c L := okp ⟨lenL, ltL⟩
    have okH : okP c H := okp ⟨lenH, ltH⟩
    have hle : ∀ k, k < c → gx L k ≤ gx H k := fun k hk => by rw [← hL, ← hH]; exact hull_corners hne hk
    have hin : ∀ p ∈ pts, has c L H p = true := fun p hp => by rw [← hL, ← hH]; exact hull_has hp
    have ltg : ∀ {p : List Nat}, (p.length = c ∧ ∀ x ∈ p, x < m) → ∀ k, k < c → gx p k < m := fun {p} h k hk => by
      have hk' : k < p.length := by rw [h.1]; exact hk
      unfold gx
      rw [List.getD_eq_getElem?_getD, List.getElem?_eq_getElem hk']
      exact h.2 _ (List.getElem_mem hk')
    generalize hev : allPts c m = ev
    have evm : ∀ p ∈ ev, p.length = c ∧ ∀ x ∈ p, x < m := fun p hp => allPts_mem.mp (by rw [hev]; exact hp)
    have evl : ev.length ≤ 27 := by
      rw [← hev, allPts_len]
      exact m27
    have v1 : m_least_block [ni c, .tup (pts.map pt)] = pure (blk L H) := by rw [lbM g1 g3 hne (by omega) fun p hp => okp (hP p hp), hL, hH]
    have v2 : m__law_around [.lst (pts.map pt)] = pure (blk L H) := by rw [laM g3 hne (by omega) fun p hp => (hP p hp).1, hL, hH]
    have v3 : lcM (pure (pts.map pt)) nm (p1 fun _ => (pure true : M Bool)) (p1 fun v => m_has_point [ni c, blk L H, v]) = pure (.lst ((pts.map (has c L H)).map .bl)) :=
      lcM_by (to := pt) (has c L H) rfl (by omega) fun p hp => by simp only [nm_ap, p1_ap, pure_bind', if_true, hpM g1 g3 okL okH hle (okp (hP p hp))]
    have v3' : pts.all (has c L H) = true := List.all_eq_true.mpr hin
    have v4 : m__law_all_points [ni c, ni m] = pure (.lst (ev.map pt)) := by rw [alM g3 m9, hev]
    have v5 := szM g1 g3 okL okH hle
    have v6 : lcM (pure (ev.map pt)) nm (p1 fun v => (m__law_has [blk L H, v] >>= truth)) (p1 fun v => (pure v : M D)) = pure (.lst ((ev.filter (has c L H)).map pt)) := by
      refine lcM_pure (to := pt) (has c L H) pt rfl (by omega) fun p hp => ?_
      simp only [nm_ap, p1_ap, pure_bind', lhM g3 lenL lenH (evm p hp).1, truth_b]
      split <;> rfl
    have v6' : (ev.filter (has c L H)).length = vol c L H := by
      rw [← hev]
      exact count_all fun k hk => ⟨hle k hk, ltg ⟨lenH, ltH⟩ k hk⟩
    have v7 : lcM (pure (ev.map pt)) nm (p1 fun _ => (pure true : M Bool)) (p1 fun v => m_has_point [ni c, blk L H, v]) = pure (.lst ((ev.map (has c L H)).map .bl)) :=
      lcM_by (to := pt) (has c L H) rfl (by omega) fun p hp => by simp only [nm_ap, p1_ap, pure_bind', if_true, hpM g1 g3 okL okH hle (okp (evm p hp))]
    have v8 : lcM (pure (ev.map pt)) nm (p1 fun _ => (pure true : M Bool)) (p1 fun v => m__law_has [blk L H, v]) = pure (.lst ((ev.map (has c L H)).map .bl)) :=
      lcM_by (to := pt) (has c L H) rfl (by omega) fun p hp => by simp only [nm_ap, p1_ap, pure_bind', if_true, lhM g3 lenL lenH (evm p hp).1]
    have w1 : neB (blk L H) (blk L H) = pure false := neB_self (n := 2) (sh_blk _ _)
    have w2 : neB (.lst ((ev.map (has c L H)).map .bl)) (.lst ((ev.map (has c L H)).map .bl)) = pure false := neB_self (n := 1) (Sh.row _)
    simp only [tuple_l, pure_bind', v1, v2, w1, Bool.false_eq_true, if_false, items_l, v3, all_by, v3', truth_b, Bool.not_true, seqO_nx, v4, v5, v6, len_l, List.length_map, v6', show ∀ n : Nat, D.int (n : Nat) = ni n from fun _ => rfl, ne_nn, beq_self_eq_true, v7, v8, w2, bind_assoc']
    -- one point more
    refine wp_bind (lpM (n := r.length * 60 + 43) g3 m1 (hd3.less (by omega)) fun q s4 hq1 hq2 hd4 => ?_)
    have v9 : catD (.lst (pts.map pt)) (.lst [pt q]) = pure (.lst ((pts ++ [q]).map pt)) := by
      rw [cat_ok _ _ (by rw [List.length_map, List.length_singleton]; omega), List.map_append]
      rfl
    have hPq : ∀ p ∈ pts ++ [q], p.length = c ∧ ∀ x ∈ p, x < m := fun p hp => by
      rcases List.mem_append.mp hp with hp | hp
      · exact hP p hp
      · rw [List.mem_singleton.mp hp]; exact ⟨hq1, hq2⟩
    have v10 := lbM (pts := pts ++ [q]) g1 g3 (by simp) (by rw [List.length_append, List.length_singleton]; omega) fun p hp => okp (hPq p hp)
    have v11 : lcM (pure (en (List.range c))) nm (p1 fun _ => (pure true : M Bool)) (p1 fun v => (ixD (pt (loP c (pts ++ [q]))) v >>= fun x => ixD (pt L) v >>= fun y => leB x y >>= fun b => if b = true then (ixD (pt H) v >>= fun x => ixD (pt (hiP c (pts ++ [q]))) v >>= fun y => leB x y >>= fun b => (pure (D.bl b) : M D)) else (pure (.bl b) : M D))) = pure (.lst (((List.range c).map fun _ => true).map .bl)) := by
      refine lcM_by (to := ni) (xs := List.range c) (fun _ => true) rfl (by rw [List.length_range]; omega) fun k hk => ?_
      have hk := List.mem_range.mp hk
      have big : gx (loP c (pts ++ [q])) k ≤ gx L k ∧ gx H k ≤ gx (hiP c (pts ++ [q])) k := by
        rw [← hL, ← hH]
        exact hull_least hne (fun p hp => hull_has (List.mem_append_left _ hp)) hk
      simp only [nm_ap, p1_ap, pure_bind', if_true, at_pt lo_len hk, at_pt hi_len hk, at_pt lenL hk, at_pt lenH hk, le_nn, decide_eq_true big.1, decide_eq_true big.2]
    have v11' : ((List.range c).all fun _ => true) = true := List.all_eq_true.mpr fun _ _ => rfl
    simp only [mkL1, pure_bind', v9, tuple_l, v10, c0, c1, at_b0, at_b1, range1_n c (by omega : c < 2 ^ 62), bind_assoc', v11, all_by, v11', truth_b, Bool.not_true, Bool.false_eq_true, if_false, seqO_nx]
    -- what was drawn
    refine wp_bind (wp_lc_mi (wp_bind (next_wp (n := r.length * 60 + 42) (many := 6) (hd4.less (by omega)) (by omega) fun kz3 s5 hi0 hi hd5 => ?_)))
    obtain ⟨k3, rfl⟩ : ∃ k : Nat, kz3 = (k : Int) := ⟨kz3.toNat, by omega⟩
    rw [show D.int ((k3 : Nat) : Int) = ni k3 from rfl, range1_n _ (by omega)]
    refine wp_pure (ptsM (n := r.length * 60 + 27) g3 m1 (by omega) (hd5.less (by omega)) fun dr s6 hNd hD hd6 => ?_)
    have d5 : dr.length ≤ 5 := by omega
    obtain ⟨p0, pr, hpp⟩ : ∃ p r, pts = p :: r := by
      cases pts with
      | nil => exact absurd rfl hne
      | cons p r => exact ⟨p, r, rfl⟩
    have hp0 : p0 ∈ pts := by rw [hpp]; exact List.mem_cons_self
    have at0 : ixD (.lst (pts.map pt)) (ni 0) = pure (pt p0) := by rw [hpp]; exact hd_pts
    generalize hA : ansL c L H p0 dr = A
    have K : Con c m L H A := by
      rw [← hA]
      refine ⟨?_, fun a ha => ?_, fun a ha => ?_, by unfold ansL; rw [List.length_cons, List.length_map]; omega⟩
      · intro e
        have : p0 ∈ ins (ansL c L H p0 dr) := mem_ins.mpr ⟨(p0, 1), List.mem_cons_self, rfl, rfl⟩
        rw [e] at this
        cases this
      · rcases List.mem_cons.mp ha with rfl | ha
        · exact hP p0 hp0
        · obtain ⟨p, hp, rfl⟩ := List.mem_map.mp ha
          exact hD p hp
      · rcases List.mem_cons.mp ha with rfl | ha
        · exact (bit_1.mpr (hin p0 hp0)).symm
        · obtain ⟨p, hp, rfl⟩ := List.mem_map.mp ha
          rfl
    have A6 : A.length ≤ 6 := by rw [← hA]; unfold ansL; rw [List.length_cons, List.length_map]; omega
    have v12 : lcM (pure (dr.map pt)) nm (p1 fun _ => (pure true : M Bool)) (p1 fun v => (m__law_has [blk L H, v] >>= fun a => intD a >>= fun a => (pure (D.tup [v, a]) : M D))) = pure (.lst (dr.map fun p => ansD (p, btn (has c L H p)))) := by
      refine lcM_map (to := pt) (fun p => ansD (p, btn (has c L H p))) rfl (by omega) fun p hp => ?_
      simp only [nm_ap, p1_ap, pure_bind', if_true, lhM g3 lenL lenH (hD p hp).1, int_bn]
      rfl
    have v12' : catD (.lst [.tup [pt p0, ni 1]]) (.lst (dr.map fun p => ansD (p, btn (has c L H p)))) = pure (.lst (A.map ansD)) := by
      rw [cat_ok _ _ (by rw [List.length_map, List.length_singleton]; omega), ← hA]
      unfold ansL
      rw [List.map_cons, List.map_map]
      rfl
    simp only [at0, mkT2, pure_bind', items_l, v12, v12', tuple_l, mkL0]
    -- the blocks
    refine wp_eq (m' := (pure (Out.nx (D.lst ((blks c m).map bo))) : M (Out D (Option D)))) (Eq.trans (forL_by (enc := fun B : List (List Nat × List Nat) => D.lst (B.map bo)) (to := pt) (g := fun B lo => B ++ (ev.filter (leP c lo)).map fun hi => (lo, hi)) (P := fun t B => B.length + t.length * ev.length ≤ 1000000) ev [] ?_ ?_).1 ?_) ?_
    · have := Nat.mul_le_mul evl evl
      rw [List.length_nil]
      omega
    · intro B lo t hB hlo
      rw [List.length_cons, Nat.succ_mul] at hB
      have fl := List.length_filter_le (leP c lo) ev
      refine ⟨?_, by rw [List.length_append, List.length_map]; omega⟩
      have inner : ∀ hi ∈ ev, lcM (pure (en (List.range c))) nm (p1 fun _ => (pure true : M Bool)) (p1 fun v => (ixD (pt lo) v >>= fun x => ixD (pt hi) v >>= fun y => leB x y >>= fun b => (pure (D.bl b) : M D))) = pure (.lst (((List.range c).map fun k => decide (gx lo k ≤ gx hi k)).map .bl)) := fun hi hhi => by
        refine lcM_by (to := ni) (xs := List.range c) _ rfl (by rw [List.length_range]; omega) fun k hk => ?_
        have hk := List.mem_range.mp hk
        simp only [nm_ap, p1_ap, pure_bind', if_true, at_pt (evm lo hlo).1 hk, at_pt (evm hi hhi).1 hk, le_nn]
      simp only [nm_ap, p1_ap, pure_bind', lst_l]
      rw [lcM_pure (to := pt) (xs := ev) (leP c lo) (fun hi => bo (lo, hi)) rfl (by omega) fun hi hhi => ?_, pure_bind', ext_ok (by rw [List.length_map, List.length_map]; omega), pure_bind', List.map_append, List.map_map]
      · rfl
      · simp only [nm_ap, p1_ap, pure_bind', inner hi hhi, all_by, truth_b, mkT2]
        show (if leP c lo hi = true then _ else _) = _
        split <;> rfl
    · rw [foldl_app, List.nil_append]
      unfold blks
      rw [hev]
    have bl7 : (blks c m).length ≤ 729 := by
      unfold blks
      rw [hev, List.length_flatMap]
      have : ∀ l : List (List Nat), ((l.map fun lo => ((ev.filter (leP c lo)).map fun hi => (lo, hi)).length).sum) ≤ l.length * 27 := by
        intro l
        induction l with
        | nil => simp
        | cons a l ih =>
          rw [List.map_cons, List.sum_cons, List.length_cons, Nat.succ_mul, List.length_map]
          have := List.length_filter_le (leP c a) ev
          omega
      have := this ev
      omega
    have bl : (blks c m).length ≤ 2 ^ 24 := by omega
    rw [pure_bind', seqO_nx]
    have blc : ∀ o ∈ blks c m, o.1.length = c ∧ o.2.length = c := fun o ho => ⟨(allPts_mem.mp (mem_blks.mp ho).1).1, (allPts_mem.mp (mem_blks.mp ho).2.1).1⟩
    have gdc : ∀ o ∈ goods c m A, o.1.length = c ∧ o.2.length = c := fun o ho => blc o (mem_goods.mp ho).1
    have gl7 : (goods c m A).length ≤ 729 := Nat.le_trans (List.length_filter_le _ _) bl7
    have gl : (goods c m A).length ≤ 2 ^ 24 := by omega
    have v14 : lcM (pure ((blks c m).map bo)) nm (p1 fun v => (lcM (pure (A.map ansD)) (unT (unc nm (unc nm un0))) (p2 fun _ _ => (pure true : M Bool)) (p2 fun w b => (m__law_has [v, w] >>= fun a => intD a >>= fun x => eqB x b >>= fun b => (pure (D.bl b) : M D))) >>= fun a => allD a >>= truth)) (p1 fun v => (pure v : M D)) = pure (.lst ((goods c m A).map bo)) := by
      refine lcM_pure (to := bo) _ bo rfl bl fun o ho => ?_
      have hoc := blc o ho
      have e1 : lcM (pure (A.map ansD)) (unT (unc nm (unc nm un0))) (p2 fun _ _ => (pure true : M Bool)) (p2 fun w b => (m__law_has [bo o, w] >>= fun a => intD a >>= fun x => eqB x b >>= fun b => (pure (D.bl b) : M D))) = pure (.lst ((A.map fun a => btn (has c o.1 o.2 a.1) == a.2).map .bl)) := by
        refine lcM_by (to := ansD) _ rfl (by omega) fun a ha => ?_
        unfold ansD bo
        simp only [unT_ap, unc_ap, nm_ap, un0_ap, p2_ap, pure_bind', List.append_nil, List.singleton_append, if_true, lhM g3 hoc.1 hoc.2 (K.pt a ha).1, int_bn, eq_nn]
        rfl
      simp only [nm_ap, p1_ap, pure_bind', e1, all_by, truth_b]
      split <;> rfl
    have okAA := K.ans m9
    have v15 : m__law_fitting [ni c, .tup (A.map ansD)] = pure (blk (loP c (ins A)) (hiP c (ins A))) := by
      rw [lfM g1 g3 (by omega) okAA K.ne, K.nozer]
      rfl
    generalize hlo2 : loP c (ins A) = lo2
    generalize hhi2 : hiP c (ins A) = hi2
    rw [hlo2, hhi2] at v15
    have lolen : lo2.length = c := by rw [← hlo2]; exact lo_len
    have hilen : hi2.length = c := by rw [← hhi2]; exact hi_len
    have v16 : inB true (blk lo2 hi2) (.lst ((goods c m A).map bo)) = pure false := by
      have := in_by (n := 2) (f := bo) (a := (lo2, hi2)) (xs := goods c m A) (by omega) (by rw [← hlo2, ← hhi2]; exact K.hull_good) fun o _ => sh_blk _ _
      exact this
    have v17 : lcM (pure ((goods c m A).map bo)) nm (p1 fun _ => (pure true : M Bool)) (p1 fun v => (m__law_has [v, pt lo2] >>= fun x => truth x >>= fun b => if b = true then m__law_has [v, pt hi2] else (pure x : M D))) = pure (.lst (((goods c m A).map fun _ => true).map .bl)) := by
      refine lcM_by (to := bo) (xs := goods c m A) (fun _ => true) rfl gl fun o ho => ?_
      have hoc := gdc o ho
      have hh := K.good_hull ho
      rw [hlo2, hhi2] at hh
      unfold bo
      simp only [nm_ap, p1_ap, pure_bind', if_true, lhM g3 hoc.1 hoc.2 lolen, lhM g3 hoc.1 hoc.2 hilen, hh.1, hh.2, truth_b]
    have v17' : ((goods c m A).all fun _ => true) = true := List.all_eq_true.mpr fun _ _ => rfl
    simp only [items_l, items_t, pure_bind', v14, v15, v16, Bool.false_eq_true, if_false, at_b0, at_b1, v17, all_by, v17', truth_b, Bool.not_true, seqO_nx, bind_assoc']
    -- every point of some
    have v18 : slL none (some 20) (.lst (ev.map pt)) = pure (.lst ((ev.take 20).map pt)) := by
      show (pure (.lst (cut (ev.map pt) none (some ((20 : Nat) : Int)))) : M D) = _
      rw [cut_hi, List.map_take]
    have v19 : catD (.lst ((ev.take 20).map pt)) (.lst (dr.map pt)) = pure (.lst ((ev.take 20 ++ dr).map pt)) := by
      rw [cat_ok _ _ (by rw [List.length_map, List.length_map, List.length_take]; omega), List.map_append]
    simp only [intM_i, pure_bind', v18, v19, items_l]
    have plast : pts.getLast hne ∈ pts := List.getLast_mem hne
    refine wp_eq (forL_thru ((ev.take 20 ++ dr).map pt) fun x hx => ?_) ?_
    · obtain ⟨y, hy, rfl⟩ := List.mem_map.mp hx
      have hy2 : y.length = c ∧ ∀ x ∈ y, x < m := by
        rcases List.mem_append.mp hy with hy | hy
        · exact evm y (List.mem_of_mem_take hy)
        · exact hD y hy
      obtain ⟨b, t, eu, es⟩ := K.due hy2
      have u1 : lcM (pure ((goods c m A).map bo)) nm (p1 fun _ => (pure true : M Bool)) (p1 fun v => (m__law_has [v, pt y] >>= intD)) = pure (.lst (en ((goods c m A).map fun o => btn (has c o.1 o.2 y)))) := by
        rw [lcM_map (to := bo) (xs := goods c m A) (fun o => ni (btn (has c o.1 o.2 y))) rfl gl fun o ho => ?_]
        · unfold en
          rw [List.map_map]
          rfl
        · have hoc := gdc o ho
          unfold bo
          simp only [nm_ap, p1_ap, pure_bind', if_true, lhM g3 hoc.1 hoc.2 hy2.1, int_bn]
          rfl
      have u2 : ssortI (.lst (en ((goods c m A).map fun o => btn (has c o.1 o.2 y)))) = pure (.lst (en (b :: t))) := by rw [Bd.ssort_len (by rw [List.length_map]; omega), eu]
      have u3 : ixD (.lst (en (b :: t))) (ni 0) = pure (ni b) := at_en (Nat.succ_pos _)
      have u4 : (ixD (.lst [D.non, ni b]) (ni (if ((b :: t).length == 1) = true then 1 else 0))) = pure (setD c A y) := by
        rw [es]
        by_cases z : (b :: t).length = 1
        · rw [if_pos z, if_pos (by simpa using z)]
          rfl
        · rw [if_neg z, if_neg (by simpa using z)]
          rfl
      have u5 := seM (p := y) g1 g3 (by omega) okAA K.ne K.nozer (okp hy2)
      have u6 : Sh 0 (setD c A y) := by
        rw [es]
        split
        · exact Sh.ni
        · exact Sh.non
      have K' := K.snoc (hP _ plast) (hin _ plast) A6
      have u7 : addD (.tup (A.map ansD)) (.tup [.tup [pt (pts.getLast hne), ni 1]]) = pure (.tup ((A ++ [(pts.getLast hne, 1)]).map ansD)) := by
        rw [add_tt _ _ (by rw [List.length_map, List.length_singleton]; omega), List.map_append]
        rfl
      have u8 := seM (p := y) g1 g3 (by rw [List.length_append, List.length_singleton]; omega) (K'.ans m9) K'.ne K'.nozer (okp hy2)
      simp only [nm_ap, p1_ap, pure_bind', u1, u2, u3, mkL2, len_len, eq_nn, int_bn, u4, u5, neB_self u6, Bool.false_eq_true, if_false, seqO_nx, show negD (ni 1) = pure (.int (-1)) from rfl, last_pts hne, mkT1, u7, u8]
      by_cases z : setD c A y = .non
      · rw [z, show notNoneB D.non .non = pure false from rfl, pure_bind', if_neg Bool.false_ne_true, pure_bind', if_neg Bool.false_ne_true, pure_bind', seqO_nx]
      · rw [K.more (hP _ plast) (hin _ plast) A6 z, neB_self u6, show notNoneB (setD c A y) .non = pure true by
          rw [es] at z ⊢
          split
          · rfl
          · rename_i h
            rw [if_neg h] at z
            exact absurd rfl z]
        rfl
    rw [pure_bind', seqO_nx]
    -- an answer that goes against them
    generalize hB : A ++ [(lo2, 0)] = B
    have iB : ins B = ins A := by
      rw [← hB]
      unfold ins
      rw [List.filter_append, List.map_append]
      simp
    have x1 : addD (.tup (A.map ansD)) (.tup [.tup [pt lo2, ni 0]]) = pure (.tup (B.map ansD)) := by
      rw [add_tt _ _ (by rw [List.length_map, List.length_singleton]; omega), ← hB, List.map_append]
      rfl
    have hpts := K.hull_pts
    rw [hlo2, hhi2] at hpts
    have okB : okA c B := fun a ha => by
      rw [← hB] at ha
      rcases List.mem_append.mp ha with ha | ha
      · exact okAA a ha
      · rw [List.mem_singleton.mp ha]
        exact ⟨okp (allPts_mem.mp hpts.1), .inl rfl⟩
    have B8 : B.length ≤ 8 := by rw [← hB, List.length_append, List.length_singleton]; omega
    have zB : zer c B (loP c (ins B)) (hiP c (ins B)) = true := by
      rw [iB, hlo2, hhi2]
      refine zer_iff.mpr ⟨(lo2, 0), by rw [← hB]; exact List.mem_append_right _ List.mem_cons_self, rfl, ?_⟩
      refine has_iff.mpr fun k hk => ?_
      have := hull_corners K.ne hk
      rw [hlo2, hhi2] at this
      exact ⟨Nat.le_refl _, this⟩
    have neBB : ins B ≠ [] := by rw [iB]; exact K.ne
    have x2 : m__law_fitting [ni c, .tup (B.map ansD)] = pure (.str "missing") := by
      rw [lfM g1 g3 B8 okB neBB, if_pos zB]
    obtain ⟨a, ha, _, hab, x3⟩ := bbM g1 g3 B8 okB neBB zB
    rw [iB, hlo2, hhi2] at hab
    have x4 := lhM g3 lolen hilen (okB a ha).1.1
    rw [hab] at x4
    have x5 : neB (.str "missing") (.str "missing") = pure false := neB_self (n := 0) (Sh.str (strOk_of (by decide +kernel)))
    simp only [mkT1, pure_bind', x1, x2, x3, x4, x5, Bool.false_eq_true, if_false, truth_b, Bool.not_true, seqO_nx]
    -- the asker
    have T : Tgt c L H p0 := ⟨g1, g3, (hP p0 hp0).1, lenL, lenH, fun k hk => by
      have h1 := has_iff.mp (hin p0 hp0) k hk
      have h2 := ltg ⟨lenH, ltH⟩ k hk
      omega⟩
    refine wp_bind (mkA T (okp (hP p0 hp0)) fun E lo hi G Bu => ?_)
    rw [show D.int 60 = ni 60 from rfl, range1_n 60 (by decide), pure_bind']
    refine wp_bind (wp_for (fun xs _ st => ∃ E lo hi n, st = AS s6 p0 E lo hi n ∧ Good c L H p0 E lo hi ∧ Bud c E lo hi n ∧ n + xs.length = 60) _ _ _ ⟨E, lo, hi, 0, rfl, G, Bu, by rw [en_len, List.length_range]⟩ ?_ ?_)
    · rintro x r2 z2 st ⟨E, lo, hi, n, rfl, G, Bu, hn⟩
      rw [List.length_cons] at hn
      rw [nm_ap, pure_bind', p1_ap, w_mth fun _ _ _ _ _ => rfl]
      simp only [pure_bind', bind_assoc']
      by_cases hf : E.length = 2 * c
      · refine wp_go (stF T G.e hf) ?_
        rw [show ixD (.tup [.str "known", blk L H]) (ni 0) = pure (.str "known") from rfl, pure_bind', eq_known "known" (by decide +kernel), pure_bind', if_pos (by decide +kernel), pure_bind', seqO_bk]
        refine wp_pure ?_
        show Wp (seqO _ (Out.nx _)) _ _
        rw [seqO_nx]
        have sh : Sh 3 (.tup [.str "known", blk L H]) := Sh.tup fun x hx => by
          rcases List.mem_cons.mp hx with rfl | hx
          · exact Sh.str (strOk_of (by decide +kernel))
          · rw [List.mem_singleton.mp hx]; exact sh_blk _ _
        have hn14 := Bu.2 hf
        rw [show unM (some (D.tup [.str "known", blk L H])) = pure (.tup [.str "known", blk L H]) from rfl, pure_bind', neB_self sh, pure_bind', if_neg Bool.false_ne_true]
        simp only [bind_assoc']
        rw [w_mth fun _ _ _ _ _ => rfl]
        simp only [pure_bind', bind_assoc']
        unfold m_BlockAsker_asked b_BlockAsker_asked
        simp only [p1_ap, pure_bind', bind_assoc', runF_bind, wg_asks, runF_rt, c14, mul_nn (show 14 < 2 ^ 64 by decide), gt_nn]
        rw [if_neg (by rw [decide_eq_true_iff]; omega), pure_bind', seqO_nx]
        have hz := ((hd6.snoc (kac (pt p0) (.ref (s6.length + 1)) (ni lo) (ni hi) (ni n))).snoc (.lst (en E))).less (m := r.length * 60) (by omega)
        exact wp_pure ⟨_, (congrArg (Drw (r.length * 60) _) (List.append_assoc s6 [kac (pt p0) (.ref (s6.length + 1)) (ni lo) (ni hi) (ni n)] [.lst (en E)])).mp hz⟩
      · have hf : E.length < 2 * c := by have := G.le; omega
        refine wp_go (stN T hf) ?_
        rw [show ixD (.tup [.str "ask", pt (asked p0 E lo hi)]) (ni 0) = pure (.str "ask") from rfl, pure_bind', eq_known "ask" (by decide +kernel), pure_bind', if_neg (by decide +kernel), pure_bind', seqO_nx, w_mth fun _ _ _ _ _ => rfl]
        have ln : (asked p0 E lo hi).length = c := by unfold asked; rw [List.length_set, (hP p0 hp0).1]
        rw [show ixD (.tup [.str "ask", pt (asked p0 E lo hi)]) (ni 1) = pure (pt (asked p0 E lo hi)) from rfl]
        simp only [pure_bind', bind_assoc', lhM g3 lenL lenH ln, int_bn]
        refine wp_bind (wp_imp (teM T G hf Bu) ?_)
        rintro d s' ⟨rfl, E', lo', hi', rfl, G', B'⟩
        exact wp_pure ⟨E', lo', hi', n + 1, rfl, G', B', by omega⟩
    · rintro z2 st ⟨E, lo, hi, n, rfl, G, Bu, hn⟩
      rw [List.length_nil] at hn
      have hE := G.le
      by_cases hf : E.length = 2 * c
      · have := Bu.2 hf
        omega
      · obtain ⟨k, _, hk⟩ := Bu.1 (by omega)
        omega
  · rintro z s ⟨rest, hd⟩
    rw [seqO_nx, runF_rt]
    exact wp_pure rfl
end K88
open PySem PySem.W PyProof.Rows
set_option maxHeartbeats 0
theorem PySem.Challenge.cw_askcraft_k88_blocks_in_order_holds : PySem.Challenge.rw_askcraft_k88_blocks_in_order.Holds := by
  w_on; o_law; k_head; (case hw => w_witness2)
  k_fill
  refine L2.walk_of (l := PySem.Challenge.rw_askcraft_k88_blocks_in_order) (n := 63) (k := 5) (x := "script") (CX := fun w => L2N.CX PySem.Challenge.rw_askcraft_k88_blocks_in_order.prog w) (sp := fun w => DL.spLaw _) rfl (by decide) rfl ⟨rfl, by decide, by decide⟩ (fun w h Y => PySem.W.kIn_of Y) ?F (fun _ _ a ns hl _ hS => ⟨a, ns, rfl, hl, hS, fun _ => rfl⟩) (fun _ _ _ _ _ h => DL.cx_no h)
  case F =>
    intro w mg fa h KX G hmg
    refine' K88.all_mk KX G hmg ?a0 ?l0 ?c0 ?k0 ?a1 ?l1 ?c1 ?k1 ?a2 ?l2 ?c2 ?k2 ?a3 ?l3 ?c3 ?k3 ?a4 ?l4 ?c4 ?k4 ?a5 ?l5 ?c5 ?k5 ?a6 ?l6 ?c6 ?k6 ?a7 ?l7 ?c7 ?k7 ?a8 ?l8 ?c8 ?k8 ?a9 ?l9 ?c9 ?k9 ?a10 ?l10 ?c10 ?k10 ?a11 ?i11 ?l11 ?c11 ?k11 ?a12 ?i12 ?l12 ?c12 ?k12 ?a13 ?i13 ?l13 ?c13 ?k13 ?a14 ?i14 ?l14 ?c14 ?k14 ?a15 ?i15 ?l15 ?c15 ?k15 ?a16 ?i16 ?l16 ?c16 ?k16 ?a17 ?l17 ?c17 ?k17 ?a18 ?l18 ?c18 ?k18 ?a19 ?l19 ?c19 ?k19 ?a20 ?l20 ?c20 ?k20 ?a21 ?l21 ?c21 ?k21 ?a22 ?l22 ?c22 ?k22 ?a23 ?l23 ?c23 ?k23 ?a24 ?l24 ?c24 ?k24 ?a25 ?l25 ?c25 ?k25 ?aC0 ?pg0 ?hd0 ?po0 ?sa0 ?mk0 ?kc0 ?n0_0 ?n0_1 ?n0_2 ?n0_3 ?n0_4 ?aE100 ?aE101 ?aE102 ?aE103 ?aE104 ?aE105 ?kE101 ?xE101 ?sE101 ?tE101 ?gE101 ?hE101 ?dE101 ?cE101 ?mE101 ?iE101_101 ?iE101_102 ?iE101_103 ?iE101_104 ?iE101_105 ?eE101 ?kE102 ?xE102 ?sE102 ?tE102 ?gE102 ?hE102 ?dE102 ?cE102 ?mE102 ?iE102_101 ?iE102_102 ?iE102_103 ?iE102_104 ?iE102_105 ?eE102 ?kE103 ?xE103 ?sE103 ?tE103 ?gE103 ?hE103 ?dE103 ?cE103 ?mE103 ?iE103_101 ?iE103_102 ?iE103_103 ?iE103_104 ?iE103_105 ?eE103 ?nE ?vE ?zb_abs ?zb_all ?zb_any ?zb_int ?zb_isinstance ?zb_len ?zb_list ?zb_max ?zb_min ?zb_range ?zb_set ?zb_sorted ?zb_sum ?zb_tuple ?zb_zip ?zc_MAX_PLACE ?zc_MAX_SIDES K88.law_ok
    (case aC0 => k_is); (case aE100 => k_is); (case aE101 => k_is); (case aE102 => k_is); (case aE103 => k_is); (case aE104 => k_is); (case aE105 => k_is); (case a0 => k_is); (case l0 => k_is); (case c0 => k_is); (case k0 => k_is); (case a1 => k_is); (case l1 => k_is); (case c1 => k_is); (case k1 => k_is); (case a2 => k_is); (case l2 => k_is); (case c2 => k_is); (case k2 => k_is); (case a3 => k_is); (case l3 => k_is); (case c3 => k_is); (case k3 => k_is); (case a4 => k_is); (case l4 => k_is); (case c4 => k_is); (case k4 => k_is); (case a5 => k_is); (case l5 => k_is); (case c5 => k_is); (case k5 => k_is); (case a6 => k_is); (case l6 => k_is); (case c6 => k_is); (case k6 => k_is); (case a7 => k_is); (case l7 => k_is); (case c7 => k_is); (case k7 => k_is); (case a8 => k_is); (case l8 => k_is); (case c8 => k_is); (case k8 => k_is); (case a9 => k_is); (case l9 => k_is); (case c9 => k_is); (case k9 => k_is); (case a10 => k_is); (case l10 => k_is); (case c10 => k_is); (case k10 => k_is); (case a11 => k_is); (case i11 => k_is); (case l11 => k_is); (case c11 => k_is); (case k11 => k_is); (case a12 => k_is); (case i12 => k_is); (case l12 => k_is); (case c12 => k_is); (case k12 => k_is); (case a13 => k_is); (case i13 => k_is); (case l13 => k_is); (case c13 => k_is); (case k13 => k_is); (case a14 => k_is); (case i14 => k_is); (case l14 => k_is); (case c14 => k_is); (case k14 => k_is); (case a15 => k_is); (case i15 => k_is); (case l15 => k_is); (case c15 => k_is); (case k15 => k_is); (case a16 => k_is); (case i16 => k_is); (case l16 => k_is); (case c16 => k_is); (case k16 => k_is); (case a17 => k_is); (case l17 => k_is); (case c17 => k_is); (case k17 => k_is); (case a18 => k_is); (case l18 => k_is); (case c18 => k_is); (case k18 => k_is); (case a19 => k_is); (case l19 => k_is); (case c19 => k_is); (case k19 => k_is); (case a20 => k_is); (case l20 => k_is); (case c20 => k_is); (case k20 => k_is); (case a21 => k_is); (case l21 => k_is); (case c21 => k_is); (case k21 => k_is); (case a22 => k_is); (case l22 => k_is); (case c22 => k_is); (case k22 => k_is); (case a23 => k_is); (case l23 => k_is); (case c23 => k_is); (case k23 => k_is); (case a24 => k_is); (case l24 => k_is); (case c24 => k_is); (case k24 => k_is); (case a25 => k_is); (case l25 => k_is); (case c25 => k_is); (case k25 => k_is); (case pg0 => k_is); (case hd0 => k_is); (case po0 => k_is); (case sa0 => k_is); (case mk0 => k_is); (case kc0 => k_is); (case n0_0 => k_is); (case n0_1 => k_is); (case n0_2 => k_is); (case n0_3 => k_is); (case n0_4 => k_is); (case kE101 => k_is); (case xE101 => k_exc); (case sE101 => k_is); (case tE101 => k_is); (case gE101 => k_is); (case hE101 => k_is); (case dE101 => k_is); (case cE101 => k_is); (case mE101 => k_is); (case iE101_101 => kit_is); (case iE101_102 => kit_is); (case iE101_103 => kit_is); (case iE101_104 => kit_is); (case iE101_105 => kit_is); (case eE101 => kts_exm); (case kE102 => k_is); (case xE102 => k_exc); (case sE102 => k_is); (case tE102 => k_is); (case gE102 => k_is); (case hE102 => k_is); (case dE102 => k_is); (case cE102 => k_is); (case mE102 => k_is); (case iE102_101 => kit_is); (case iE102_102 => kit_is); (case iE102_103 => kit_is); (case iE102_104 => kit_is); (case iE102_105 => kit_is); (case eE102 => kts_exm); (case kE103 => k_is); (case xE103 => k_exc); (case sE103 => k_is); (case tE103 => k_is); (case gE103 => k_is); (case hE103 => k_is); (case dE103 => k_is); (case cE103 => k_is); (case mE103 => k_is); (case iE103_101 => kit_is); (case iE103_102 => kit_is); (case iE103_103 => kit_is); (case iE103_104 => kit_is); (case iE103_105 => kit_is); (case eE103 => kts_exm); (case nE => k_is); (case vE => k_is); (case zb_abs => k_is); (case zb_all => k_is); (case zb_any => k_is); (case zb_int => k_is); (case zb_isinstance => k_is); (case zb_len => k_is); (case zb_list => k_is); (case zb_max => k_is); (case zb_min => k_is); (case zb_range => k_is); (case zb_set => k_is); (case zb_sorted => k_is); (case zb_sum => k_is); (case zb_tuple => k_is); (case zb_zip => k_is); (case zc_MAX_PLACE => k_is); (case zc_MAX_SIDES => k_is)
