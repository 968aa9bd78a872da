import PyProof.Rows.All
import KE.RegKIsAll
import KE.RegKTryMore
import Wide.All
import OpenK.AllK
import Wide.FinOn
import HandS.ForMost
import HandS.ForExc
import HandS.Walk
import HandS.SortInts
import HandS.SortKw
import HandS.Zip
import HandS.Conv
import HandS.Flow
import HandS.Style
import HandS.TupAny
import HandS.Deep
import HandS.ExcCtx
import HandS.Star
import HandS.Zip0
import KE.GoesMore
import KE.GoesZip
import KE.KRevSl
import HandS.SetFor
import HandS.Strs
import HandS.TupSets
import HandS.HotCalls
import HandS.ExcIs
import HandS.ExcOwn
import HandS.Dict
import HandS.DictComp
import HandS.Iter
import PyProof.ListNew
import HandS.ListItems
import PyProof.WalksMore
import PySem.Challenge.RW_askcraft_k09_whole_border_askers
set_option Elab.async false
set_option linter.all false
set_option maxRecDepth 100000
namespace DL
open PySem PySem.Spec PyProof.Rows L2
/-! ### pure data, the store, the monad -/
inductive D where
  | non | bl (b : Bool) | int (i : Int) | str (x : Str)
  /-- rls: a list that the program is handed (the script) -/
  | tup (xs : List D) | lst (xs : List D) | dct (kvs : List (Key × D)) | ref (k : Nat) | rls (xs : List D) | dcT (kvs : List (List Key × D)) | rtp (xs : List D)
inductive Cell where
  | lst (xs : List D) | dct (kvs : List (Key × D)) | ins (c : Nat) (fs : List (Str × D)) | dcT (kvs : List (List Key × D))
abbrev Store := List Cell
inductive Res (α : Type) where
  | ok (a : α) (s : Store) | exc (c : Nat) (s : Store) | stuck
def M (α : Type) := Store → Res α
def M.bind' {α β : Type} (m : M α) (f : α → M β) : M β := fun s => match m s with
  | .ok a s' => f a s'
  | .exc c s' => .exc c s'
  | .stuck => .stuck
instance : Monad M where
  pure a := fun s => .ok a s
  bind := M.bind'
theorem pure_run {α : Type} (a : α) (s : Store) : (pure a : M α) s = .ok a s := rfl
theorem bind_run {α β : Type} (m : M α) (f : α → M β) (s : Store) : (m >>= f) s = match m s with
  | .ok a s' => f a s'
  | .exc c s' => .exc c s'
  | .stuck => .stuck := rfl
theorem bind_ok {α β : Type} {m : M α} {f : α → M β} {s s' : Store} {a : α} (h : m s = .ok a s') : (m >>= f) s = f a s' := by
  rw [bind_run, h]
@[simp] theorem pure_bind' {α β : Type} (a : α) (f : α → M β) : ((pure a : M α) >>= f) = f a := Eq.trans rfl rfl
@[simp] theorem bind_pure' {α : Type} (m : M α) : (m >>= fun a => pure a) = m := by
  funext s
  rw [bind_run]
  cases m s <;> rfl
@[simp] theorem bind_assoc' {α β γ : Type} (m : M α) (f : α → M β) (k : β → M γ) : ((m >>= f) >>= k) = (m >>= fun a => f a >>= k) := by
  funext s
  rw [bind_run, bind_run, bind_run]
  cases m s <;> rfl
def stuck {α : Type} : M α := fun _ => .stuck
def raise {α : Type} (c : Nat) : M α := fun s => .exc c s
@[simp] theorem stuck_bind {α β : Type} (f : α → M β) : ((stuck : M α) >>= f) = stuck := Eq.trans rfl rfl
@[simp] theorem raise_bind {α β : Type} (c : Nat) (f : α → M β) : ((raise c : M α) >>= f) = raise c := Eq.trans rfl rfl
def getC (k : Nat) : M Cell := fun s => match s[k]? with
  | some c => .ok c s
  | none => .stuck
def setC (k : Nat) (c : Cell) : M Unit := fun s => .ok () (s.set k c)
def newC (c : Cell) : M Nat := fun s => .ok s.length (s ++ [c])
/-- what holds of a result -/
def Res.Post {α : Type} (r : Res α) (ok : α → Store → Prop) (ex : Nat → Store → Prop) : Prop := match r with
  | .ok a s => ok a s
  | .exc c s => ex c s
  | .stuck => False
theorem Res.Post.imp {α : Type} {r : Res α} {ok ok' : α → Store → Prop} {ex ex' : Nat → Store → Prop} (h : r.Post ok ex) (h1 : ∀ a s, ok a s → ok' a s) (h2 : ∀ c s, ex c s → ex' c s) : r.Post ok' ex' := by
  cases r with
  | ok a s => exact h1 a s h
  | exc c s => exact h2 c s h
  | stuck => exact h
theorem post_bind {α β : Type} {m : M α} {f : α → M β} {s : Store} {ok : β → Store → Prop} {ex : Nat → Store → Prop} (h : ((m >>= f) s).Post ok ex) : (m s).Post (fun a s' => (f a s').Post ok ex) ex := by
  rw [bind_run] at h
  cases e : m s with
  | ok a s' => rw [e] at h; exact h
  | exc c s' => rw [e] at h; exact h
  | stuck => rw [e] at h; exact h
def kD : Key → D
  | .inl i => .int i
  | .inr x => .str x
/-! ### values stand for data: G is the part of the heap that is never written any more, am the addresses of the store's cells -/
section
variable (K : PySem.W.Frag) (G : Hp) (am : List Addr)
mutual
inductive Rp : V → D → Prop
  | non : Rp .non .non
  | bl (b : Bool) : Rp (.bl b) (.bl b)
  | int (i : Int) : Rp (.int i) (.int i)
  | str (x : Str) : Rp (.str x) (.str x)
  | tup {a : Addr} {xs : List V} {ds : List D} : G a = some (.tup xs) → Rps xs ds → Rp (.ref a) (.tup ds)
  | rtp {a : Addr} {xs : List V} {ds : List D} : SqT K G a xs → Rps xs ds → Rp (.ref a) (.rtp ds)
  | lst {a : Addr} {xs : List V} {ds : List D} : G a = some (.lst xs) → Rps xs ds → Rp (.ref a) (.lst ds)
  | rls {a : Addr} {xs : List V} {ds : List D} : SqL K G a xs → Rps xs ds → Rp (.ref a) (.rls ds)
  | dK {a : Addr} {o : Obj} {kvs : List (Key × V)} {es : List (Key × D)} : G a = some (.frz o (.dK kvs)) → RpK kvs es → Rp (.ref a) (.dct es)
  | dT {a : Addr} {o : Obj} {kvs : List (List Key × V)} {es : List (List Key × D)} : G a = some (.frz o (.dT kvs)) → RpT kvs es → Rp (.ref a) (.dcT es)
  | ref {a : Addr} {k : Nat} : am[k]? = some a → Rp (.ref a) (.ref k)
inductive Rps : List V → List D → Prop
  | nil : Rps [] []
  | cons {v : V} {vs : List V} {d : D} {ds : List D} : Rp v d → Rps vs ds → Rps (v :: vs) (d :: ds)
inductive RpK : List (Key × V) → List (Key × D) → Prop
  | nil : RpK [] []
  | cons {k : Key} {v : V} {d : D} {kvs : List (Key × V)} {es : List (Key × D)} : Rp v d → RpK kvs es → RpK ((k, v) :: kvs) ((k, d) :: es)
inductive RpT : List (List Key × V) → List (List Key × D) → Prop
  | nil : RpT [] []
  | cons {k : List Key} {v : V} {d : D} {kvs : List (List Key × V)} {es : List (List Key × D)} : Rp v d → RpT kvs es → RpT ((k, v) :: kvs) ((k, d) :: es)
end
end
section
variable {K : PySem.W.Frag} {G G' : Hp} {am am' : List Addr}
theorem rd_mono (h : ∀ a o, G a = some o → G' a = some o) {a : Addr} {u : HO} (r : Rd G a u) : Rd G' a u := by
  rcases r with r | ⟨o, r⟩
  · exact .inl (h _ _ r)
  · exact .inr ⟨o, h _ _ r⟩
theorem sqL_mono (h : ∀ a o, G a = some o → G' a = some o) {a : Addr} {xs : List V} (r : SqL K G a xs) : SqL K G' a xs := by
  rcases r with r | r
  · exact .inl (rd_mono h r)
  · exact .inr r
theorem sqT_mono (h : ∀ a o, G a = some o → G' a = some o) {a : Addr} {xs : List V} (r : SqT K G a xs) : SqT K G' a xs := by
  rcases r with r | r
  · exact .inl (rd_mono h r)
  · exact .inr r
theorem pre_get (h : am <+: am') {k : Nat} {a : Addr} (e : am[k]? = some a) : am'[k]? = some a := by
  obtain ⟨t, rfl⟩ := h
  have hk : k < am.length := (List.getElem?_eq_some_iff.mp e).1
  rw [List.getElem?_append_left hk]
  exact e
mutual
theorem Rp.mono (h : ∀ a o, G a = some o → G' a = some o) (ha : am <+: am') : ∀ {v : V} {d : D}, Rp K G am v d → Rp K G' am' v d
  | _, _, .non => .non
  | _, _, .bl b => .bl b
  | _, _, .int i => .int i
  | _, _, .str x => .str x
  | _, _, .tup s r => .tup (h _ _ s) (Rps.mono h ha r)
  | _, _, .rtp s r => .rtp (sqT_mono h s) (Rps.mono h ha r)
  | _, _, .lst s r => .lst (h _ _ s) (Rps.mono h ha r)
  | _, _, .rls s r => .rls (sqL_mono h s) (Rps.mono h ha r)
  | _, _, .dK s r => .dK (h _ _ s) (RpK.mono h ha r)
  | _, _, .dT s r => .dT (h _ _ s) (RpT.mono h ha r)
  | _, _, .ref e => .ref (pre_get ha e)
theorem Rps.mono (h : ∀ a o, G a = some o → G' a = some o) (ha : am <+: am') : ∀ {vs : List V} {ds : List D}, Rps K G am vs ds → Rps K G' am' vs ds
  | _, _, .nil => .nil
  | _, _, .cons r t => .cons (Rp.mono h ha r) (Rps.mono h ha t)
theorem RpK.mono (h : ∀ a o, G a = some o → G' a = some o) (ha : am <+: am') : ∀ {vs : List (Key × V)} {ds : List (Key × D)}, RpK K G am vs ds → RpK K G' am' vs ds
  | _, _, .nil => .nil
  | _, _, .cons r t => .cons (Rp.mono h ha r) (RpK.mono h ha t)
theorem RpT.mono (h : ∀ a o, G a = some o → G' a = some o) (ha : am <+: am') : ∀ {vs : List (List Key × V)} {ds : List (List Key × D)}, RpT K G am vs ds → RpT K G' am' vs ds
  | _, _, .nil => .nil
  | _, _, .cons r t => .cons (Rp.mono h ha r) (RpT.mono h ha t)
end
theorem Rps.length : ∀ {vs : List V} {ds : List D}, Rps K G am vs ds → vs.length = ds.length
  | _, _, .nil => rfl
  | _, _, .cons _ t => by rw [List.length_cons, List.length_cons, Rps.length t]
theorem Rps.get : ∀ {vs : List V} {ds : List D} {i : Nat} {d : D}, Rps K G am vs ds → ds[i]? = some d → ∃ v, vs[i]? = some v ∧ Rp K G am v d
  | _, _, i, d, .nil, e => by simp at e
  | _, _, 0, d, .cons r _, e => by
    simp at e; subst e; exact ⟨_, rfl, r⟩
  | _, _, i + 1, d, .cons _ t, e => by
    obtain ⟨v, h1, h2⟩ := Rps.get (i := i) (d := d) t (by simpa using e)
    exact ⟨v, by simpa using h1, h2⟩
theorem Rps.getV : ∀ {vs : List V} {ds : List D} {i : Nat} {v : V}, Rps K G am vs ds → vs[i]? = some v → ∃ d, ds[i]? = some d ∧ Rp K G am v d
  | _, _, i, d, .nil, e => by simp at e
  | _, _, 0, d, .cons r _, e => by
    simp at e; subst e; exact ⟨_, rfl, r⟩
  | _, _, i + 1, d, .cons _ t, e => by
    obtain ⟨v, h1, h2⟩ := Rps.getV (i := i) (v := d) t (by simpa using e)
    exact ⟨v, by simpa using h1, h2⟩
theorem Rps.append : ∀ {vs ws : List V} {ds es : List D}, Rps K G am vs ds → Rps K G am ws es → Rps K G am (vs ++ ws) (ds ++ es)
  | _, _, _, _, .nil, s => s
  | _, _, _, _, .cons r t, s => .cons r (Rps.append t s)
theorem Rps.take : ∀ {vs : List V} {ds : List D} (n : Nat), Rps K G am vs ds → Rps K G am (vs.take n) (ds.take n)
  | _, _, 0, _ => .nil
  | _, _, _ + 1, .nil => .nil
  | _, _, n + 1, .cons r t => .cons r (Rps.take n t)
theorem Rps.drop : ∀ {vs : List V} {ds : List D} (n : Nat), Rps K G am vs ds → Rps K G am (vs.drop n) (ds.drop n)
  | _, _, 0, r => r
  | _, _, _ + 1, .nil => .nil
  | _, _, n + 1, .cons _ t => Rps.drop n t
theorem Rps.reverse : ∀ {vs : List V} {ds : List D}, Rps K G am vs ds → Rps K G am vs.reverse ds.reverse
  | _, _, .nil => .nil
  | _, _, .cons r t => by
    rw [List.reverse_cons, List.reverse_cons]
    exact (Rps.reverse t).append (.cons r .nil)
theorem Rps.set {v : V} {d : D} (r : Rp K G am v d) : ∀ {vs : List V} {ds : List D} (i : Nat), Rps K G am vs ds → Rps K G am (vs.set i v) (ds.set i d)
  | _, _, _, .nil => .nil
  | _, _, 0, .cons _ t => .cons r t
  | _, _, i + 1, .cons q t => .cons q (Rps.set r i t)
theorem Rps.eraseIdx : ∀ {vs : List V} {ds : List D} (i : Nat), Rps K G am vs ds → Rps K G am (vs.eraseIdx i) (ds.eraseIdx i)
  | _, _, _, .nil => .nil
  | _, _, 0, .cons _ t => t
  | _, _, i + 1, .cons q t => .cons q (Rps.eraseIdx i t)
/-- dints -/
def dints : List D → Option (List Int)
  | [] => some []
  | .int i :: r => (dints r).map (i :: ·)
  | _ :: _ => none
def dbools : List D → Option (List Bool)
  | [] => some []
  | .bl i :: r => (dbools r).map (i :: ·)
  | _ :: _ => none
theorem ints_map (ns : List Int) : dints (ns.map D.int) = some ns := by
  induction ns with
  | nil => rfl
  | cons n r ih => rw [List.map_cons, dints, ih]; rfl
theorem bools_map (ns : List Bool) : dbools (ns.map D.bl) = some ns := by
  induction ns with
  | nil => rfl
  | cons n r ih => rw [List.map_cons, dbools, ih]; rfl
theorem ints_eq : ∀ {ds : List D} {ns : List Int}, dints ds = some ns → ds = ns.map D.int
  | [], ns, h => by simp [dints] at h; subst h; rfl
  | .int i :: r, ns, h => by
    simp only [dints] at h
    cases e : dints r with
    | none => rw [e] at h; cases h
    | some q => rw [e] at h; simp at h; subst h; rw [List.map_cons, ← ints_eq e]
  | .non :: _, _, h => by simp [dints] at h
  | .bl _ :: _, _, h => by simp [dints] at h
  | .str _ :: _, _, h => by simp [dints] at h
  | .tup _ :: _, _, h => by simp [dints] at h
  | .lst _ :: _, _, h => by simp [dints] at h
  | .dct _ :: _, _, h => by simp [dints] at h
  | .dcT _ :: _, _, h => by simp [dints] at h
  | .rtp _ :: _, _, h => by simp [dints] at h
  | .ref _ :: _, _, h => by simp [dints] at h
  | .rls _ :: _, _, h => by simp [dints] at h
theorem bools_eq : ∀ {ds : List D} {ns : List Bool}, dbools ds = some ns → ds = ns.map D.bl
  | [], ns, h => by simp [dbools] at h; subst h; rfl
  | .bl i :: r, ns, h => by
    simp only [dbools] at h
    cases e : dbools r with
    | none => rw [e] at h; cases h
    | some q => rw [e] at h; simp at h; subst h; rw [List.map_cons, ← bools_eq e]
  | .non :: _, _, h => by simp [dbools] at h
  | .int _ :: _, _, h => by simp [dbools] at h
  | .str _ :: _, _, h => by simp [dbools] at h
  | .tup _ :: _, _, h => by simp [dbools] at h
  | .lst _ :: _, _, h => by simp [dbools] at h
  | .dct _ :: _, _, h => by simp [dbools] at h
  | .dcT _ :: _, _, h => by simp [dbools] at h
  | .rtp _ :: _, _, h => by simp [dbools] at h
  | .ref _ :: _, _, h => by simp [dbools] at h
  | .rls _ :: _, _, h => by simp [dbools] at h
theorem Rps.toInts : ∀ {vs : List V} {ns : List Int}, Rps K G am vs (ns.map D.int) → vs = ns.map V.int
  | _, [], .nil => rfl
  | _, _ :: r, .cons (.int _) t => by rw [List.map_cons, ← Rps.toInts t]
theorem Rps.ofInts : ∀ (ns : List Int), Rps K G am (ns.map V.int) (ns.map D.int)
  | [] => .nil
  | n :: r => .cons (.int n) (Rps.ofInts r)
theorem Rps.toBools : ∀ {vs : List V} {ns : List Bool}, Rps K G am vs (ns.map D.bl) → vs = ns.map V.bl
  | _, [], .nil => rfl
  | _, _ :: r, .cons (.bl _) t => by rw [List.map_cons, ← Rps.toBools t]
end
def isDict : D → Bool
  | .dct _ => true
  | .dcT _ => true
  | _ => false
/-! ### the ghost state -/
structure Gs where
  G : Hp
  am : List Addr
  st : Store
/-- what the text gives once for all -/
structure Pg where
  P : Program
  w : World
  K : PySem.W.Frag
  mg : Str → Option Value
  base : Heap
  cA : Nat → Addr
abbrev Pg.Rp (p : Pg) (g : Gs) : V → D → Prop := DL.Rp p.K g.G g.am
abbrev Pg.Rps (p : Pg) (g : Gs) : List V → List D → Prop := DL.Rps p.K g.G g.am
/-- a container whose own object may be written -/
def Own (p : Pg) (g : Gs) (H : Hp) (a : Addr) : D → Prop
  | .lst ds => ∃ xs, H a = some (.lst xs) ∧ p.Rps g xs ds
  | .dct es => ∃ kvs, H a = some (.dK kvs) ∧ RpK p.K g.G g.am kvs es
  | .dcT es => ∃ kvs, H a = some (.dT kvs) ∧ RpT p.K g.G g.am kvs es
  | _ => False
def RpF (p : Pg) (g : Gs) : List (Str × V) → List (Str × D) → Prop := Paired fun q r => q.1 = r.1 ∧ p.Rp g q.2 r.2
def CellR (p : Pg) (g : Gs) (H : Hp) (a : Addr) : Cell → Prop
  | .lst ds => Own p g H a (.lst ds)
  | .dct es => Own p g H a (.dct es)
  | .dcT es => Own p g H a (.dcT es)
  | .ins c fs => ∃ dx fvs, H a = some (.ins (p.cA c) dx fvs) ∧ H dx = some (.own a) ∧ RpF p g fvs fs
structure Wf (p : Pg) (g : Gs) (H : Hp) : Prop where
  sub : ∀ a o, g.G a = some o → H a = some o
  amG : ∀ a, a ∈ g.am → g.G a = none
  nd : g.am.Nodup
  len : g.am.length = g.st.length
  cell : ∀ (k : Nat) (a : Addr) (c : Cell), g.am[k]? = some a → g.st[k]? = some c → CellR p g H a c
structure Stp (p : Pg) (g : Gs) (H : Hp) (g' : Gs) (H' : Hp) : Prop where
  gle : ∀ a o, g.G a = some o → g'.G a = some o
  aml : g.am <+: g'.am
  keep : ∀ a o, H a = some o → a ∉ g.am → H' a = some o
  gnew : ∀ a o, g'.G a = some o → g.G a = some o ∨ H a = none ∨ ∃ xs, H a = some (.tup xs)
  amn : ∀ a, a ∈ g'.am → a ∈ g.am ∨ H a = none
  wf : Wf p g' H'
section
variable {p : Pg} {g g' g'' : Gs} {H H' H'' : Hp}
theorem Own.at {a : Addr} {d : D} (h : Own p g H a d) : ∃ o, H a = some o ∧ (∀ xs, o ≠ .tup xs) ∧ Mut (some o) ∧ ∀ y, o ≠ .own y := by
  cases d with
  | lst ds => obtain ⟨xs, e, _⟩ := h; exact ⟨_, e, (fun _ z => by cases z), True.intro, fun _ z => by cases z⟩
  | dct es => obtain ⟨kvs, e, _⟩ := h; exact ⟨_, e, (fun _ z => by cases z), True.intro, fun _ z => by cases z⟩
  | dcT es => obtain ⟨kvs, e, _⟩ := h; exact ⟨_, e, (fun _ z => by cases z), True.intro, fun _ z => by cases z⟩
  | _ => exact h.elim
theorem Own.mono {a : Addr} {d : D} (h : Own p g H a d) (hg : ∀ a o, g.G a = some o → g'.G a = some o) (ha : g.am <+: g'.am) (e : H' a = H a) : Own p g' H' a d := by
  cases d with
  | lst ds => obtain ⟨xs, e1, r⟩ := h; exact ⟨xs, e.trans e1, r.mono hg ha⟩
  | dct es => obtain ⟨kvs, e1, r⟩ := h; exact ⟨kvs, e.trans e1, r.mono hg ha⟩
  | dcT es => obtain ⟨kvs, e1, r⟩ := h; exact ⟨kvs, e.trans e1, r.mono hg ha⟩
  | _ => exact h.elim
theorem RpF.mono (hg : ∀ a o, g.G a = some o → g'.G a = some o) (ha : g.am <+: g'.am) {xs : List (Str × V)} {ys : List (Str × D)} (h : RpF p g xs ys) : RpF p g' xs ys :=
  L2.Paired.mapP h fun _ _ q => ⟨q.1, q.2.mono hg ha⟩
theorem CellR.at {a : Addr} {c : Cell} (h : CellR p g H a c) : ∃ o, H a = some o ∧ (∀ xs, o ≠ .tup xs) ∧ Mut (some o) ∧ ∀ y, o ≠ .own y := by
  cases c with
  | lst ds => exact Own.at (d := .lst ds) h
  | dct es => exact Own.at (d := .dct es) h
  | dcT es => exact Own.at (d := .dcT es) h
  | ins c fs => obtain ⟨dx, fvs, e, _, _⟩ := h; exact ⟨_, e, (fun _ z => by cases z), True.intro, fun _ z => by cases z⟩
theorem CellR.mono {a : Addr} {c : Cell} (h : CellR p g H a c) (hg : ∀ a o, g.G a = some o → g'.G a = some o) (ha : g.am <+: g'.am) (e : H' a = H a) (e2 : ∀ dx, H dx = some (.own a) → H' dx = some (.own a)) : CellR p g' H' a c := by
  cases c with
  | lst ds => exact Own.mono (d := .lst ds) h hg ha e
  | dct es => exact Own.mono (d := .dct es) h hg ha e
  | dcT es => exact Own.mono (d := .dcT es) h hg ha e
  | ins c fs => obtain ⟨dx, fvs, e1, e3, r⟩ := h; exact ⟨dx, fvs, e.trans e1, e2 _ e3, r.mono hg ha⟩
theorem Wf.tracked (w : Wf p g H) {a : Addr} (ha : a ∈ g.am) : ∃ o, H a = some o ∧ (∀ xs, o ≠ .tup xs) ∧ Mut (some o) ∧ ∀ y, o ≠ .own y := by
  obtain ⟨k, hk, e⟩ := List.getElem_of_mem ha
  have hk2 : k < g.st.length := by rw [← w.len]; exact hk
  exact (w.cell k a g.st[k] (by rw [List.getElem?_eq_getElem hk, e]) (List.getElem?_eq_getElem hk2)).at
theorem Wf.freeG (w : Wf p g H) {a : Addr} (n : H a = none) : g.G a = none := by
  cases q : g.G a with
  | none => rfl
  | some u => rw [w.sub a u q] at n; cases n
theorem Wf.freeA (w : Wf p g H) {a : Addr} (n : H a = none) : a ∉ g.am := fun h => by
  obtain ⟨u, e, _⟩ := w.tracked h
  rw [n] at e; cases e
theorem Stp.refl (w : Wf p g H) : Stp p g H g H :=
  ⟨fun _ _ e => e, List.prefix_refl _, fun _ _ e _ => e, fun _ _ e => .inl e, fun _ h => .inl h, w⟩
theorem Stp.none_of (s : Stp p g H g' H') (w : Wf p g H) {a : Addr} (e : H' a = none) : H a = none := by
  cases q : H a with
  | none => rfl
  | some o =>
    by_cases ha : a ∈ g.am
    · obtain ⟨o', e', _⟩ := s.wf.tracked (s.aml.subset ha)
      rw [e] at e'; cases e'
    · have := s.keep a o q ha
      rw [e] at this; cases this
theorem Stp.trans (w : Wf p g H) (s : Stp p g H g' H') (t : Stp p g' H' g'' H'') : Stp p g H g'' H'' := by
  have nam : ∀ a o, H a = some o → a ∉ g.am → a ∉ g'.am := fun a o e n h => by
    rcases s.amn a h with z | z
    · exact n z
    · rw [e] at z; cases z
  refine ⟨fun a o e => t.gle a o (s.gle a o e), s.aml.trans t.aml, fun a o e n => t.keep a o (s.keep a o e n) (nam a o e n), fun a o e => ?_, fun a h => ?_, t.wf⟩
  · rcases t.gnew a o e with z | z | ⟨xs, z⟩
    · exact s.gnew a o z
    · exact .inr (.inl (s.none_of w z))
    · cases q : H a with
      | none => exact .inr (.inl rfl)
      | some u =>
        by_cases ha : a ∈ g.am
        · obtain ⟨o', e', n, _⟩ := s.wf.tracked (s.aml.subset ha)
          rw [z] at e'; cases e'; exact absurd rfl (n xs)
        · have := s.keep a u q ha
          rw [z] at this; cases this
          exact .inr (.inr ⟨xs, rfl⟩)
  · rcases t.amn a h with z | z
    · exact s.amn a z
    · exact .inr (s.none_of w z)
/-- a new object is laid, and held by nobody yet -/
theorem Stp.laid (w : Wf p g H) {a : Addr} {o : HO} (n : H a = none) : Stp p g H g (upd H a o) := by
  have ne : ∀ b u, H b = some u → b ≠ a := fun b u e => ne_of_none e n
  refine ⟨fun _ _ e => e, List.prefix_refl _, fun b u e _ => by rw [upd_ne (ne b u e)]; exact e, fun _ _ e => .inl e, fun _ h => .inl h,
    ⟨fun b u e => by rw [upd_ne (ne b u (w.sub b u e))]; exact w.sub b u e, w.amG, w.nd, w.len, fun k b c e1 e2 => ?_⟩⟩
  have h := w.cell k b c e1 e2
  obtain ⟨u, e, _⟩ := h.at
  exact h.mono (fun _ _ e => e) (List.prefix_refl _) (upd_ne (ne b u e)) fun dx e => by rw [upd_ne (ne dx _ e)]; exact e
/-- what nobody holds is frozen -/
theorem Stp.freeze (w : Wf p g H) {a : Addr} {o : HO} (e : H a = some o) (hG : g.G a = none) (ha : a ∉ g.am) : Wf p { g with G := upd g.G a o } H ∧ (∀ b u, g.G b = some u → upd g.G a o b = some u) := by
  have le : ∀ b u, g.G b = some u → upd g.G a o b = some u := fun b u e => by rw [upd_ne (ne_of_none e hG)]; exact e
  refine ⟨⟨fun b u q => ?_, fun b hb => ?_, w.nd, w.len, fun k b c e1 e2 => ?_⟩, le⟩
  · have q : upd g.G a o b = some u := q
    by_cases z : b = a
    · subst z; rw [upd_same] at q; cases q; exact e
    · rw [upd_ne z] at q; exact w.sub b u q
  · show upd g.G a o b = none
    rw [upd_ne (show b ≠ a from fun z => ha (by rw [← z]; exact hb))]
    exact w.amG b hb
  · exact (w.cell k b c e1 e2).mono le (List.prefix_refl _) rfl fun _ e => e
/-- a new object that is never written: laid and frozen -/
theorem Stp.new (w : Wf p g H) {a : Addr} {o : HO} (n : H a = none) : Stp p g H { g with G := upd g.G a o } (upd H a o) := by
  have gn : g.G a = none := by
    cases q : g.G a with
    | none => rfl
    | some u => rw [w.sub a u q] at n; cases n
  have na : a ∉ g.am := fun h => by
    obtain ⟨u, e, _⟩ := w.tracked h
    rw [n] at e; cases e
  have s := Stp.laid (o := o) w n
  obtain ⟨wf', le⟩ := Stp.freeze s.wf (a := a) (o := o) upd_same gn na
  refine ⟨le, List.prefix_refl _, s.keep, fun b u e => ?_, fun _ h => .inl h, wf'⟩
  have e : upd g.G a o b = some u := e
  by_cases z : b = a
  · subst z; exact .inr (.inl n)
  · rw [upd_ne z] at e; exact .inl e
end
/-! ### what stands in a slot -/
inductive Sl where
  /-- unknown -/
  | un
  /-- a value that is never written -/
  | sh (d : D)
  /-- a list or dict that this name alone holds -/
  | ow (d : D)
  /-- a list or dict that a caller lends: read, not kept -/
  | bo (d : D)
structure Fm where
  g : Gs
  H : Hp
/-- a value that is read now -/
def TopR (p : Pg) (g : Gs) (H : Hp) (v : V) (d : D) : Prop := p.Rp g v d ∨ ∃ a, v = .ref a ∧ a ∉ g.am ∧ Own p g H a d
/-- a fresh container -/
def NewR (p : Pg) (H : Hp) (g : Gs) (H' : Hp) (v : V) (d : D) : Prop := ∃ a : Addr, v = .ref a ∧ Own p g H' a d ∧ g.G a = none ∧ a ∉ g.am ∧ H a = none
def SlV (p : Pg) (F : Fm) (g : Gs) (H : Hp) : Option V → Sl → Prop
  | _, .un => True
  | some v, .sh d => p.Rp g v d
  | some v, .ow d => ∃ a, v = .ref a ∧ Own p g H a d ∧ g.G a = none ∧ a ∉ g.am ∧ F.H a = none
  | some v, .bo d => p.Rp g v d ∨ ∃ a, v = .ref a ∧ a ∉ g.am ∧ Own p g H a d ∧ ∃ o, F.H a = some o
  | none, _ => False
abbrev Ev := List Sl
structure ER (p : Pg) (F : Fm) (ρ : Ev) (σ : L2.St) (g : Gs) (H : Hp) : Prop where
  len : ρ.length = σ.length
  sl : ∀ (i : Nat) (s : Sl), ρ[i]? = some s → SlV p F g H (σ[i]?.join) s
  dist : ∀ (i j : Nat) (d e : D), ρ[i]? = some (.ow d) → ρ[j]? = some (.ow e) → σ[i]? = σ[j]? → i = j
  fr : Stp p F.g F.H g H
  fw : Wf p F.g F.H
section
variable {p : Pg} {F : Fm} {ρ ρ' : Ev} {σ σ' : L2.St} {g g' : Gs} {H H' : Hp}
theorem ER.wf (E : ER p F ρ σ g H) : Wf p g H := E.fr.wf
theorem TopR.step {v : V} {d : D} (w : Wf p g H) (h : TopR p g H v d) (s : Stp p g H g' H') : TopR p g' H' v d := by
  rcases h with h | ⟨a, e, n, o⟩
  · exact .inl (h.mono s.gle s.aml)
  · obtain ⟨u, e1, _⟩ := o.at
    refine .inr ⟨a, e, fun z => ?_, o.mono s.gle s.aml ((s.keep a u e1 n).trans e1.symm)⟩
    rcases s.amn a z with z | z
    · exact n z
    · rw [e1] at z; cases z
theorem ER.step (E : ER p F ρ σ g H) (s : Stp p g H g' H') : ER p F ρ σ g' H' := by
  refine ⟨E.len, fun i q hq => ?_, E.dist, E.fr.trans E.fw s, E.fw⟩
  have h := E.sl i q hq
  cases q with
  | un => cases σ[i]?.join <;> exact True.intro
  | sh d =>
    cases e : σ[i]?.join with
    | none => rw [e] at h; exact h.elim
    | some v => rw [e] at h; exact Rp.mono s.gle s.aml h
  | ow d =>
    cases e : σ[i]?.join with
    | none => rw [e] at h; exact h.elim
    | some v =>
      rw [e] at h
      obtain ⟨a, rfl, o, hG, ha, hF⟩ := h
      obtain ⟨u, e1, nt, _⟩ := o.at
      refine ⟨a, rfl, o.mono s.gle s.aml ((s.keep a u e1 ha).trans e1.symm), ?_, fun z => ?_, hF⟩
      · cases q : g'.G a with
        | none => rfl
        | some x =>
          rcases s.gnew a x q with z | z | ⟨xs, z⟩
          · rw [hG] at z; cases z
          · rw [e1] at z; cases z
          · rw [e1] at z; cases z; exact absurd rfl (nt xs)
      · rcases s.amn a z with z | z
        · exact ha z
        · rw [e1] at z; cases z
  | bo d =>
    cases e : σ[i]?.join with
    | none => rw [e] at h; exact h.elim
    | some v =>
      rw [e] at h
      rcases h with h | ⟨a, rfl, n, o, hF⟩
      · exact .inl (Rp.mono s.gle s.aml h)
      · obtain ⟨u, e1, _⟩ := o.at
        refine .inr ⟨a, rfl, fun z => ?_, o.mono s.gle s.aml ((s.keep a u e1 n).trans e1.symm), hF⟩
        rcases s.amn a z with z | z
        · exact n z
        · rw [e1] at z; cases z
/-- forgetting -/
inductive Le : Ev → Ev → Prop
  | nil : Le [] []
  | un {s : Sl} {r t : Ev} : Le r t → Le (.un :: r) (s :: t)
  | eq {s : Sl} {r t : Ev} : Le r t → Le (s :: r) (s :: t)
theorem Le.refl : ∀ ρ : Ev, Le ρ ρ
  | [] => .nil
  | _ :: r => .eq (Le.refl r)
theorem Le.length (h : Le ρ' ρ) : ρ'.length = ρ.length := by
  induction h with
  | nil => rfl
  | un _ ih => rw [List.length_cons, List.length_cons, ih]
  | eq _ ih => rw [List.length_cons, List.length_cons, ih]
theorem Le.at (h : Le ρ' ρ) : ∀ (i : Nat) (s : Sl), ρ'[i]? = some s → s = .un ∨ ρ[i]? = some s := by
  induction h with
  | nil => intro i s e; simp at e
  | un _ ih =>
    intro i s e
    cases i with
    | zero => simp at e; exact .inl e.symm
    | succ j => exact ih j s (by simpa using e)
  | eq _ ih =>
    intro i s e
    cases i with
    | zero => simp at e; subst e; exact .inr rfl
    | succ j => exact ih j s (by simpa using e)
theorem ER.weak (E : ER p F ρ σ g H) (l : Le ρ' ρ) : ER p F ρ' σ g H := by
  refine ⟨l.length.trans E.len, fun i s e => ?_, fun i j d e h1 h2 h3 => ?_, E.fr, E.fw⟩
  · rcases l.at i s e with rfl | h
    · cases σ[i]?.join <;> exact True.intro
    · exact E.sl i s h
  · rcases l.at i _ h1 with z | z
    · cases z
    · rcases l.at j _ h2 with y | y
      · cases y
      · exact E.dist i j d e z y h3
/-- a slot is stored with a value that is never written -/
theorem ER.set (E : ER p F ρ σ g H) {i : Nat} {v : V} {d : D} (r : p.Rp g v d) : ER p F (ρ.set i (.sh d)) (σ.set i (some v)) g H := by
  refine ⟨by rw [List.length_set, List.length_set, E.len], fun j s e => ?_, fun a b d1 e1 h1 h2 h3 => ?_, E.fr, E.fw⟩
  · by_cases z : i = j
    · subst z
      have hl : i < ρ.length := by
        have := (List.getElem?_eq_some_iff.mp e).1
        rwa [List.length_set] at this
      rw [List.getElem?_set_self hl] at e
      cases e
      rw [List.getElem?_set_self (by rw [← E.len]; exact hl)]
      exact r
    · rw [List.getElem?_set_ne z] at e
      rw [List.getElem?_set_ne z]
      exact E.sl j s e
  · have ne : ∀ {c : Nat} {x : D}, (ρ.set i (.sh d))[c]? = some (.ow x) → i ≠ c ∧ ρ[c]? = some (.ow x) := fun {c x} h => by
      by_cases z : i = c
      · subst z
        have hl : i < ρ.length := by
          have := (List.getElem?_eq_some_iff.mp h).1
          rwa [List.length_set] at this
        rw [List.getElem?_set_self hl] at h; cases h
      · rw [List.getElem?_set_ne z] at h; exact ⟨z, h⟩
    obtain ⟨n1, h1⟩ := ne h1
    obtain ⟨n2, h2⟩ := ne h2
    rw [List.getElem?_set_ne n1, List.getElem?_set_ne n2] at h3
    exact E.dist a b d1 e1 h1 h2 h3
theorem Own.addr_ne {a b : Addr} {d : D} (h : Own p g H a d) (n : H b = none) : a ≠ b := by
  obtain ⟨o, e, _⟩ := h.at
  exact ne_of_none e n
/-- a slot is stored with a fresh container; g0 H0 the state ahead of the making -/
theorem ER.setOwn {g0 : Gs} {H0 : Hp} (E0 : ER p F ρ σ g0 H0) (s : Stp p g0 H0 g H) {i : Nat} {v : V} {d : D} (r : NewR p H0 g H v d) : ER p F (ρ.set i (.ow d)) (σ.set i (some v)) g H := by
  have E := E0.step s
  obtain ⟨a, rfl, o, hG, ha, hn⟩ := r
  have hF : F.H a = none := E0.fr.none_of E0.fw hn
  refine ⟨by rw [List.length_set, List.length_set, E.len], fun j q e => ?_, fun x y d1 e1 h1 h2 h3 => ?_, E.fr, E.fw⟩
  · by_cases z : i = j
    · subst z
      have hl : i < ρ.length := by
        have := (List.getElem?_eq_some_iff.mp e).1
        rwa [List.length_set] at this
      rw [List.getElem?_set_self hl] at e
      cases e
      rw [List.getElem?_set_self (by rw [← E.len]; exact hl)]
      exact ⟨a, rfl, o, hG, ha, hF⟩
    · rw [List.getElem?_set_ne z] at e
      rw [List.getElem?_set_ne z]
      exact E.sl j q e
  · -- other owned slots hold addresses that stood ahead
    have old : ∀ {c : Nat} {x : D}, i ≠ c → (ρ.set i (.ow d))[c]? = some (.ow x) → (σ.set i (some (.ref a)))[c]? = some (some (.ref a)) → False := fun {c x} n h q => by
      rw [List.getElem?_set_ne n] at h q
      have z := E0.sl c _ h
      rw [q] at z
      obtain ⟨b, eb, ob, _⟩ := z
      cases eb
      exact ob.addr_ne hn rfl
    have self : i < ρ.length → (σ.set i (some (.ref a)))[i]? = some (some (V.ref a)) := fun hl => List.getElem?_set_self (by rw [← E.len]; exact hl)
    by_cases zx : i = x
    · by_cases zy : i = y
      · exact zx.symm.trans zy
      · subst zx
        have hl : i < ρ.length := by
          have := (List.getElem?_eq_some_iff.mp h1).1
          rwa [List.length_set] at this
        exact (old zy h2 (h3.symm.trans (self hl))).elim
    · by_cases zy : i = y
      · subst zy
        have hl : i < ρ.length := by
          have := (List.getElem?_eq_some_iff.mp h2).1
          rwa [List.length_set] at this
        exact (old zx h1 (h3.trans (self hl))).elim
      · rw [List.getElem?_set_ne zx] at h1 h3
        rw [List.getElem?_set_ne zy] at h2 h3
        exact E.dist x y d1 e1 h1 h2 h3
end
end DL
namespace DL
open PySem PySem.Spec PyProof.Rows L2
/-! ### contexts: what the text gives of a def (Sta), what a run gives (Dyn) -/
structure Sta where
  pg : Pg
  N : List Str
  sc : Scope
  fn : Str → Bool
  lv : Nat
  /-- a def's body (not a comprehension's block) -/
  dfn : Bool
  /-- it is known that no guard of repr is on the stack -/
  gd : Bool
structure Dyn where
  A : Around
  s0 : Shared
  H0 : Hp
  env : Env
  outer : List Env
  stack : List Env
  ex : List Addr
  pn : List (Addr × Obj)
  xe : Value → Shared → Prop
  W : Value → Option Addr → Hp → Prop
def Sta.cx (S : Sta) (Y : Dyn) : Cx where
  prog := S.pg.P
  w := S.pg.w
  K := S.pg.K
  mg := S.pg.mg
  base := S.pg.base
  A := Y.A
  N := S.N
  s_0 := Y.s0
  H_0 := Y.H0
  env := { Y.env with scope := S.sc }
  outer := Y.outer
  stack := Y.stack
  ex := Y.ex
  fn := S.fn
  calm := true
  pn := Y.pn
  xe := Y.xe
structure OkY (S : Sta) (Y : Dyn) : Prop where
  room : Room S.lv Y.A
  pass : PassesOwn (model S.pg.P S.pg.w) Y.A (S.cx Y).env Y.xe
  takes : L2N.Takes (S.cx Y) fun c d _ H => Y.W c d H
  stk : S.dfn = true → Y.stack = (S.cx Y).env :: Y.outer ∧ (S.cx Y).env.frame = some (S.cx Y).env.locals
  gd : S.gd = true → Y.A.guards = some []
theorem takesN {X : Cx} : L2N.Takes X fun _ _ _ _ => False := fun _ _ ⟨_, _, _, _, _, _, _, _, _, _, _, _, _, _, _, _, w⟩ => w.elim
theorem _root_.L2.PE.pre {X : Cx} {e : Expr} {t t' : TE} (h : PE X e t) (k : ∀ σ H Q, t' σ H Q → t σ H Q) : PE X e t' :=
  ⟨fun pins s σ H Q I q => h.run pins s σ H Q I (k σ H Q q)⟩
theorem _root_.L2.PT.pre {X : Cx} {e : Expr} {t t' : TT} (h : PT X e t) (k : ∀ σ H Q, t' σ H Q → t σ H Q) : PT X e t' :=
  ⟨fun pins s σ H Q I q => h.run pins s σ H Q I (k σ H Q q)⟩
theorem _root_.L2.PW.pre {X : Cx} {e : Expr} {t t' : TT} (h : PW X e t) (k : ∀ σ H Q, t' σ H Q → t σ H Q) : PW X e t' :=
  ⟨fun wh pins s σ H Q I q => h.run wh pins s σ H Q I (k σ H Q q)⟩
theorem _root_.L2.PA.pre {X : Cx} {e : List Expr} {t t' : TA} (h : PA X e t) (k : ∀ σ H Q, t' σ H Q → t σ H Q) : PA X e t' :=
  ⟨fun pos pins s σ H Q I q => h.run pos pins s σ H Q I (k σ H Q q)⟩
theorem _root_.L2.PS.pre {X : Cx} {e : Stmt} {t t' : TS} (h : PS X e t) (k : ∀ D σ H, t' D σ H → t D σ H) : PS X e t' :=
  ⟨fun pins s σ H D I q => h.run pins s σ H D I (k D σ H q)⟩
theorem _root_.L2.PSs.pre {X : Cx} {e : List Stmt} {t t' : TS} (h : PSs X e t) (k : ∀ D σ H, t' D σ H → t D σ H) : PSs X e t' :=
  ⟨fun pins s σ H D I q => h.run pins s σ H D I (k D σ H q)⟩
/-! ### the judgements -/
/-- what a value is to be behind an expression -/
abbrev Rel := Hp → Gs → Hp → V → D → Prop
abbrev RE (p : Pg) : Rel := fun _ g _ v d => p.Rp g v d
abbrev RL (p : Pg) : Rel := fun _ g H v d => TopR p g H v d
abbrev RN (p : Pg) : Rel := fun H0 g H v d => NewR p H0 g H v d
/-- it may begin further ahead -/
def Back (p : Pg) (R : Rel) : Prop := ∀ (g : Gs) (H : Hp) (g1 : Gs) (H1 : Hp) (g2 : Gs) (H2 : Hp) (v : V) (d : D), Wf p g H → Stp p g H g1 H1 → R H1 g2 H2 v d → R H g2 H2 v d
theorem back_RE {p : Pg} : Back p (RE p) := fun _ _ _ _ _ _ _ _ _ _ h => h
theorem back_RL {p : Pg} : Back p (RL p) := fun _ _ _ _ _ _ _ _ _ _ h => h
theorem back_RN {p : Pg} : Back p (RN p) := fun _ _ _ _ _ _ _ _ w s ⟨a, e, o, hG, ha, hn⟩ => ⟨a, e, o, hG, ha, s.none_of w hn⟩
/-- what a value operation wants: the value's post -/
def Pv (p : Pg) (R : Rel) (g : Gs) (H : Hp) (Q : VK) (d : D) (st' : Store) : Prop := ∀ v g' H', g'.st = st' → Stp p g H g' H' → R H g' H' v d → Q v H'
def Px (S : Sta) (Y : Dyn) (g : Gs) (H : Hp) (c : Nat) (st' : Store) : Prop := ∀ g' H', g'.st = st' → Stp S.pg g H g' H' → Y.W (.ref (S.pg.cA c)) none H'
def rdX (S : Sta) (Y : Dyn) (ρ : Ev) (R : Rel) (m : M D) : TE := fun σ H Q => ∃ F g, ER S.pg F ρ σ g H ∧ (m g.st).Post (Pv S.pg R g H Q) (Px S Y g H)
def EX (S : Sta) (ρ : Ev) (R : Rel) (e : Expr) (m : M D) : Prop := ∀ Y, OkY S Y → PE (S.cx Y) e (rdX S Y ρ R m)
abbrev EE (S : Sta) (ρ : Ev) (e : Expr) (m : M D) : Prop := EX S ρ (RE S.pg) e m
abbrev EL (S : Sta) (ρ : Ev) (e : Expr) (m : M D) : Prop := EX S ρ (RL S.pg) e m
abbrev EN (S : Sta) (ρ : Ev) (e : Expr) (m : M D) : Prop := EX S ρ (RN S.pg) e m
def rdT (S : Sta) (Y : Dyn) (ρ : Ev) (m : M Bool) : TT := fun σ H Q => ∃ F g, ER S.pg F ρ σ g H ∧ (m g.st).Post (fun b st' => ∀ g' H', g'.st = st' → Stp S.pg g H g' H' → Q b H') (Px S Y g H)
def ET (S : Sta) (ρ : Ev) (e : Expr) (m : M Bool) : Prop := ∀ Y, OkY S Y → PT (S.cx Y) e (rdT S Y ρ m)
def EW (S : Sta) (ρ : Ev) (e : Expr) (m : M Bool) : Prop := ∀ Y, OkY S Y → PW (S.cx Y) e (rdT S Y ρ m)
/-- lists of arguments -/
def rdA (S : Sta) (Y : Dyn) (ρ : Ev) (Rs : Gs → Hp → List V → List D → Prop) (m : M (List D)) : TA := fun σ H Q => ∃ F g, ER S.pg F ρ σ g H ∧ (m g.st).Post (fun ds st' => ∀ vs g' H', g'.st = st' → Stp S.pg g H g' H' → Rs g' H' vs ds → Q vs H') (Px S Y g H)
def EA (S : Sta) (ρ : Ev) (e : List Expr) (m : M (List D)) : Prop := ∀ Y, OkY S Y → PA (S.cx Y) e (rdA S Y ρ (fun g _ => S.pg.Rps g) m)
section
variable {S : Sta} {ρ : Ev} {e a b c : Expr} {m ma mb mc : M D} {R : Rel}
theorem Px.back {Y : Dyn} {g g1 : Gs} {H H1 : Hp} {c : Nat} {st' : Store} (w : Wf S.pg g H) (s : Stp S.pg g H g1 H1) (h : Px S Y g H c st') : Px S Y g1 H1 c st' :=
  fun g' H' e t => h g' H' e (s.trans w t)
theorem Pv.back {p : Pg} {R : Rel} (hR : Back p R) {g g1 : Gs} {H H1 : Hp} {Q : VK} {d : D} {st' : Store} (w : Wf p g H) (s : Stp p g H g1 H1) (h : Pv p R g H Q d st') : Pv p R g1 H1 Q d st' :=
  fun v g' H' e t r => h v g' H' e (s.trans w t) (hR _ _ _ _ _ _ _ _ w s r)
/-- a value that was read ahead stays -/
theorem EX.imp {R' : Rel} (h : EX S ρ R e m) (k : ∀ g H g' H' v d, Wf S.pg g H → Stp S.pg g H g' H' → R H g' H' v d → R' H g' H' v d) : EX S ρ R' e m := fun Y ok => (h Y ok).pre fun σ H Q ⟨F, g, E, q⟩ =>
  ⟨F, g, E, q.imp (fun d st' q v g' H' e s r => q v g' H' e s (k g H g' H' v d E.wf s r)) fun _ _ q => q⟩
theorem el_of (h : EE S ρ e m) : EL S ρ e m := h.imp fun _ _ _ _ _ _ _ _ r => .inl r
theorem el_new (h : EN S ρ e m) : EL S ρ e m := h.imp fun _ _ _ _ _ _ _ _ ⟨a, e, o, _, ha, _⟩ => .inr ⟨a, e, ha, o⟩
/-- freezing -/
theorem Own.frozen {p : Pg} {g : Gs} {H : Hp} {a : Addr} {d : D} (w : Wf p g H) (o : Own p g H a d) (hG : g.G a = none) (ha : a ∉ g.am) (nd : isDict d = false) : ∃ u, H a = some u ∧ Wf p { g with G := upd g.G a u } H ∧ (∀ b x, g.G b = some x → upd g.G a u b = some x) ∧ p.Rp { g with G := upd g.G a u } (.ref a) d := by
  obtain ⟨u, e, _⟩ := o.at
  obtain ⟨wf', le⟩ := Stp.freeze w e hG ha
  refine ⟨u, e, wf', le, ?_⟩
  cases d with
  | lst ds =>
    obtain ⟨xs, e1, r⟩ := o
    rw [e] at e1; cases e1
    exact .lst (upd_same) (r.mono le (List.prefix_refl _))
  | dct es => cases nd
  | dcT es => cases nd
  | _ => exact o.elim
/-- a dict is frozen: from then on its object is locked -/
theorem Own.locked {p : Pg} {g : Gs} {H : Hp} {a : Addr} {d : D} (w : Wf p g H) (o : Own p g H a d) (hG : g.G a = none) (ha : a ∉ g.am) (nd : isDict d = true) :
    ∃ u, H a = some u ∧ Mut (some u) ∧ ∀ od, Wf p { g with G := upd g.G a (.frz od u) } (upd H a (.frz od u)) ∧ (∀ b x, g.G b = some x → upd g.G a (.frz od u) b = some x) ∧ p.Rp { g with G := upd g.G a (.frz od u) } (.ref a) d := by
  obtain ⟨u, e, _, mu, no⟩ := o.at
  refine ⟨u, e, mu, fun od => ?_⟩
  have le : ∀ b x, g.G b = some x → upd g.G a (.frz od u) b = some x := fun b x q => by rw [upd_ne (ne_of_none q hG)]; exact q
  refine ⟨⟨fun b x q => ?_, fun b hb => ?_, w.nd, w.len, fun k b c e1 e2 => ?_⟩, le, ?_⟩
  · have q : upd g.G a (.frz od u) b = some x := q
    by_cases z : b = a
    · subst z; rw [upd_same] at q ⊢; exact q
    · rw [upd_ne z] at q ⊢; exact w.sub b x q
  · show upd g.G a (.frz od u) b = none
    rw [upd_ne (show b ≠ a from fun z => ha (by rw [← z]; exact hb))]
    exact w.amG b hb
  · have hb : b ≠ a := fun z => ha (by rw [← z]; exact List.mem_of_getElem? e1)
    refine (w.cell k b c e1 e2).mono le (List.prefix_refl _) (upd_ne hb) fun dx q => ?_
    rw [upd_ne (ne_of q e fun z => no b z.symm)]
    exact q
  · cases d with
    | dct es =>
      obtain ⟨kvs, e1, r⟩ := o
      rw [e] at e1; cases e1
      exact .dK (upd_same) (r.mono le (List.prefix_refl _))
    | dcT es =>
      obtain ⟨kvs, e1, r⟩ := o
      rw [e] at e1; cases e1
      exact .dT (upd_same) (r.mono le (List.prefix_refl _))
    | _ => cases nd
theorem pe_lockEnd {X : Cx} {e : Expr} {t : TE} (h : PE X e t) : PE X e (fun σ H Q => t σ H fun v H' => Q v H' ∨ ∃ a u, H' a = some u ∧ Mut (some u) ∧ ∀ od, Q v (upd H' a (.frz od u))) := by
  refine ⟨fun pins s σ H Q I hw => thn (h.run pins s σ H _ I hw) fun v s1 ⟨x, H1, I1, r, q⟩ => ?_⟩
  rcases q with q | ⟨a, u, e, mu, q⟩
  · exact ⟨x, H1, I1, r, q⟩
  · obtain ⟨od, I2⟩ := I1.lock e mu
    exact ⟨x, _, I2, r, q od⟩
theorem NewR.frozen {p : Pg} {g g' : Gs} {H H' : Hp} {v : V} {d : D} (w : Wf p g H) (s : Stp p g H g' H') (r : NewR p H g' H' v d) (nd : isDict d = false) : ∃ g2, g2.st = g'.st ∧ Stp p g H g2 H' ∧ p.Rp g2 v d ∧ (∀ b x, g'.G b = some x → g2.G b = some x) ∧ g'.am <+: g2.am := by
  obtain ⟨a, rfl, o, hG, ha, hn⟩ := r
  obtain ⟨u, e, wf', le, r⟩ := o.frozen s.wf hG ha nd
  refine ⟨{ g' with G := upd g'.G a u }, rfl, Stp.mk (fun b x q => le b x (s.gle b x q)) s.aml s.keep (fun b x q => ?_) s.amn wf', r, le, List.prefix_refl _⟩
  have q : upd g'.G a u b = some x := q
  by_cases z : b = a
  · subst z; exact .inr (.inl hn)
  · rw [upd_ne z] at q; exact s.gnew b x q
theorem ee_new (h : EN S ρ e m) : EE S ρ e m := fun Y ok => (pe_lockEnd (h Y ok)).pre fun σ H Q ⟨F, g, E, q⟩ => by
  refine ⟨F, g, E, q.imp (fun d st' q v g' H' e s r => ?_) fun _ _ q => q⟩
  cases nd : isDict d with
  | false =>
    obtain ⟨g2, e2, s2, r2, _⟩ := NewR.frozen E.wf s r nd
    exact .inl (q v g2 H' (e2.trans e) s2 r2)
  | true =>
    obtain ⟨a, rfl, o, hG, ha, hn⟩ := r
    obtain ⟨u, eu, mu, h⟩ := o.locked s.wf hG ha nd
    refine .inr ⟨a, u, eu, mu, fun od => ?_⟩
    obtain ⟨wf', le, r⟩ := h od
    refine q (.ref a) { g' with G := upd g'.G a (.frz od u) } _ e ⟨fun b x q => le b x (s.gle b x q), s.aml, fun b x q n => ?_, fun b x q => ?_, s.amn, wf'⟩ r
    · rw [upd_ne (ne_of_none q hn)]
      exact s.keep b x q n
    · have q : upd g'.G a (.frz od u) b = some x := q
      by_cases z : b = a
      · subst z; exact .inr (.inl hn)
      · rw [upd_ne z] at q; exact s.gnew b x q
/-! ### names and constants -/
theorem ee_var (i : Nat) {x : Str} {d : D} {pos : Pos} (hs : ρ[i]? = some (.sh d)) (hN : S.N[i]? = some x) (hv : Vis S.sc x) (hd : (x == ("__debug__" : Str)) = false := by decide) (hcd : (x == ("__classdict__" : Str)) = false := by decide) :
    EE S ρ (.Name x pos) (pure d) := fun Y ok => (pe_var (X := S.cx Y) (i := i) hN hv hd hcd).pre fun σ H Q ⟨F, g, E, q⟩ => by
  have h := E.sl i _ hs
  cases e : σ[i]? with
  | none => rw [e] at h; exact h.elim
  | some o =>
    rw [e] at h
    cases o with
    | none => exact h.elim
    | some v => exact ⟨v, e, q v g H rfl (.refl E.wf) h⟩
theorem el_ow (i : Nat) {x : Str} {d : D} {pos : Pos} (hs : ρ[i]? = some (.ow d)) (hN : S.N[i]? = some x) (hv : Vis S.sc x) (hd : (x == ("__debug__" : Str)) = false := by decide) (hcd : (x == ("__classdict__" : Str)) = false := by decide) :
    EL S ρ (.Name x pos) (pure d) := fun Y ok => (pe_var (X := S.cx Y) (i := i) hN hv hd hcd).pre fun σ H Q ⟨F, g, E, q⟩ => by
  have h := E.sl i _ hs
  cases e : σ[i]? with
  | none => rw [e] at h; exact h.elim
  | some o =>
    rw [e] at h
    cases o with
    | none => exact h.elim
    | some v =>
      obtain ⟨a, rfl, o, _, ha, _⟩ := h
      exact ⟨_, e, q _ g H rfl (.refl E.wf) (.inr ⟨a, rfl, ha, o⟩)⟩
theorem el_bo (i : Nat) {x : Str} {d : D} {pos : Pos} (hs : ρ[i]? = some (.bo d)) (hN : S.N[i]? = some x) (hv : Vis S.sc x) (hd : (x == ("__debug__" : Str)) = false := by decide) (hcd : (x == ("__classdict__" : Str)) = false := by decide) :
    EL S ρ (.Name x pos) (pure d) := fun Y ok => (pe_var (X := S.cx Y) (i := i) hN hv hd hcd).pre fun σ H Q ⟨F, g, E, q⟩ => by
  have h := E.sl i _ hs
  cases e : σ[i]? with
  | none => rw [e] at h; exact h.elim
  | some o =>
    rw [e] at h
    cases o with
    | none => exact h.elim
    | some v =>
      rcases h with h | ⟨a, rfl, ha, o, _⟩
      · exact ⟨_, e, q _ g H rfl (.refl E.wf) (.inl h)⟩
      · exact ⟨_, e, q _ g H rfl (.refl E.wf) (.inr ⟨a, rfl, ha, o⟩)⟩
/-- a value that asks for nothing -/
theorem ee_tC {v : V} {d : D} (hp : ∀ Y : Dyn, PE (S.cx Y) e (tC v)) (r : ∀ g, S.pg.Rp g v d) : EE S ρ e (pure d) := fun Y _ => (hp Y).pre fun σ H Q ⟨F, g, E, q⟩ =>
  q v g H rfl (.refl E.wf) (r g)
theorem ee_int {i : Int} {j : Nat} {pos : Pos} : EE S ρ (.Constant (.int i) j pos) (pure (.int i)) := ee_tC (fun _ => pe_int) fun _ => .int i
theorem ee_bl {i : Bool} {j : Nat} {pos : Pos} : EE S ρ (.Constant (.bool i) j pos) (pure (.bl i)) := ee_tC (fun _ => pe_bl) fun _ => .bl i
theorem ee_non {j : Nat} {pos : Pos} : EE S ρ (.Constant .none j pos) (pure .non) := ee_tC (fun _ => pe_non) fun _ => .non
theorem ee_str {x : Str} {j : Nat} {pos : Pos} : EE S ρ (.Constant (.str x) j pos) (pure (.str x)) := ee_tC (fun _ => pe_str) fun _ => .str x
/-- a name of the module's -/
theorem ee_glob {x : Str} {u : Value} {v : V} {d : D} {pos : Pos} (hg : S.sc.names.lookup x = some .globalImplicit) (hm : S.pg.mg x = some u) (r : RelV v u) (h : ∀ g, S.pg.Rp g v d) (hd : (x == ("__debug__" : Str)) = false := by decide) :
    EE S ρ (.Name x pos) (pure d) := ee_tC (fun Y => pe_glob (X := S.cx Y) hg hm r hd) h
/-! ### one, two operands -/
theorem rdX.bind {α : Type} {Y : Dyn} {σ : L2.St} {H : Hp} {F : Fm} {g : Gs} {R1 : Rel} {f : D → M α} {ok : α → Store → Prop} {Q : VK}
    (E : ER S.pg F ρ σ g H) (q : ((ma >>= f) g.st).Post ok (Px S Y g H))
    (k : ∀ x v g' H', Stp S.pg g H g' H' → ER S.pg F ρ σ g' H' → R1 H g' H' v x → (f x g'.st).Post ok (Px S Y g H) → Q v H') : rdX S Y ρ R1 ma σ H Q :=
  ⟨F, g, E, (post_bind q).imp (fun x st' q v g' H' e s r => k x v g' H' s (E.step s) r (by rw [e]; exact q)) fun _ _ q => q⟩
theorem rdT.bind {α : Type} {Y : Dyn} {σ : L2.St} {H : Hp} {F : Fm} {g : Gs} {mt : M Bool} {f : Bool → M α} {ok : α → Store → Prop} {Q : Bool → Hp → Prop}
    (E : ER S.pg F ρ σ g H) (q : ((mt >>= f) g.st).Post ok (Px S Y g H))
    (k : ∀ x g' H', Stp S.pg g H g' H' → ER S.pg F ρ σ g' H' → (f x g'.st).Post ok (Px S Y g H) → Q x H') : rdT S Y ρ mt σ H Q :=
  ⟨F, g, E, (post_bind q).imp (fun x st' q g' H' e s => k x g' H' s (E.step s) (by rw [e]; exact q)) fun _ _ q => q⟩
theorem rdA.bind {α : Type} {Y : Dyn} {σ : L2.St} {H : Hp} {F : Fm} {g : Gs} {Rs : Gs → Hp → List V → List D → Prop} {mt : M (List D)} {f : List D → M α} {ok : α → Store → Prop} {Q : List V → Hp → Prop}
    (E : ER S.pg F ρ σ g H) (q : ((mt >>= f) g.st).Post ok (Px S Y g H))
    (k : ∀ x v g' H', Stp S.pg g H g' H' → ER S.pg F ρ σ g' H' → Rs g' H' v x → (f x g'.st).Post ok (Px S Y g H) → Q v H') : rdA S Y ρ Rs mt σ H Q :=
  ⟨F, g, E, (post_bind q).imp (fun x st' q v g' H' e s r => k x v g' H' s (E.step s) r (by rw [e]; exact q)) fun _ _ q => q⟩
/-- a one-place operation on values -/
def Op1 (p : Pg) (r : V → Hp → VK → Prop) (f : D → M D) (R : Rel) : Prop := ∀ (g : Gs) (H : Hp) (x : D) (vx : V) (Q : VK) (E : Nat → Store → Prop), Wf p g H → TopR p g H vx x → (f x g.st).Post (Pv p R g H Q) E → r vx H Q
def Op2 (p : Pg) (r : R2) (f : D → D → M D) (R : Rel) : Prop := ∀ (g : Gs) (H : Hp) (x y : D) (vx vy : V) (Q : VK) (E : Nat → Store → Prop), Wf p g H → TopR p g H vx x → TopR p g H vy y → (f x y g.st).Post (Pv p R g H Q) E → r vx vy H Q
/-- .. that gives a truth -/
def Op2B (p : Pg) (r : R2) (f : D → D → M Bool) : Prop := ∀ (g : Gs) (H : Hp) (x y : D) (vx vy : V) (Q : VK) (E : Nat → Store → Prop), Wf p g H → TopR p g H vx x → TopR p g H vy y → (f x y g.st).Post (fun b st' => st' = g.st → Q (.bl b) H) E → r vx vy H Q
theorem ex_un {r : V → Hp → VK → Prop} {f : D → M D} (hR : Back S.pg R) (ha : EL S ρ a ma) (hp : ∀ Y : Dyn, OkY S Y → ∀ ta, PE (S.cx Y) a ta → PE (S.cx Y) e (tUn r ta)) (ho : Op1 S.pg r f R) :
    EX S ρ R e (ma >>= f) := fun Y ok => (hp Y ok _ (ha Y ok)).pre fun σ H Q ⟨F, g, E, q⟩ =>
  rdX.bind E q fun x v g' H' s E' r q => ho g' H' x v Q _ E'.wf r (q.imp (fun _ _ q => q.back hR E.wf s) fun _ _ q => q)
theorem ex_bin {r : R2} {f : D → D → M D} (hR : Back S.pg R) (ha : EL S ρ a ma) (hb : EL S ρ b mb) (hp : ∀ Y : Dyn, OkY S Y → ∀ ta tb, PE (S.cx Y) a ta → PE (S.cx Y) b tb → PE (S.cx Y) e (tOp r ta tb)) (ho : Op2 S.pg r f R) :
    EX S ρ R e (ma >>= fun x => mb >>= fun y => f x y) := fun Y ok => (hp Y ok _ _ (ha Y ok) (hb Y ok)).pre fun σ H Q ⟨F, g, E, q⟩ =>
  rdX.bind E q fun x v g' H' s E' r q => rdX.bind E' (q.imp (fun _ _ q => q) fun _ _ q => q.back E.wf s) fun y u g2 H2 s2 E2 r2 q =>
    ho g2 H2 x y v u Q _ E2.wf (r.step E'.wf s2) r2 (q.imp (fun _ _ q => q.back hR E.wf (s.trans E.wf s2)) fun _ _ q => q)
theorem ex_binB {r : R2} {f : D → D → M Bool} (ha : EL S ρ a ma) (hb : EL S ρ b mb) (hp : ∀ Y : Dyn, OkY S Y → ∀ ta tb, PE (S.cx Y) a ta → PE (S.cx Y) b tb → PE (S.cx Y) e (tOp r ta tb)) (ho : Op2B S.pg r f) :
    EE S ρ e (ma >>= fun x => mb >>= fun y => f x y >>= fun b => pure (.bl b)) := fun Y ok => (hp Y ok _ _ (ha Y ok) (hb Y ok)).pre fun σ H Q ⟨F, g, E, q⟩ =>
  rdX.bind E q fun x v g' H' s E' r q => rdX.bind E' (q.imp (fun _ _ q => q) fun _ _ q => q.back E.wf s) fun y u g2 H2 s2 E2 r2 q =>
    ho g2 H2 x y v u Q _ E2.wf (r.step E'.wf s2) r2 ((post_bind q).imp (fun b st' q e => q (.bl b) g2 H2 e.symm (s.trans E.wf s2) (.bl b)) fun _ _ q => q)
theorem et_binB {r : R2} {f : D → D → M Bool} (ha : EL S ρ a ma) (hb : EL S ρ b mb) (hp : ∀ Y : Dyn, OkY S Y → ∀ ta tb, PE (S.cx Y) a ta → PE (S.cx Y) b tb → PT (S.cx Y) e (tTest (tOp r ta tb))) (ho : Op2B S.pg r f) :
    ET S ρ e (ma >>= fun x => mb >>= fun y => f x y) := fun Y ok => (hp Y ok _ _ (ha Y ok) (hb Y ok)).pre fun σ H Q ⟨F, g, E, q⟩ =>
  rdX.bind E q fun x v g' H' s E' r q => rdX.bind E' (q.imp (fun _ _ q => q) fun _ _ q => q.back E.wf s) fun y u g2 H2 s2 E2 r2 q =>
    ho g2 H2 x y v u _ _ E2.wf (r.step E'.wf s2) r2 (q.imp (fun b st' q e => ⟨b, rfl, q g2 H2 e.symm (s.trans E.wf s2)⟩) fun _ _ q => q)
end
/-! ### ints -/
section
variable {p : Pg} {g : Gs} {H : Hp} {v : V}
theorem TopR.cases {d : D} (h : TopR p g H v d) (n : ∀ a, Own p g H a d → False) : p.Rp g v d := by
  rcases h with h | ⟨a, _, _, o⟩
  · exact h
  · exact (n a o).elim
theorem TopR.int {i : Int} (h : TopR p g H v (.int i)) : v = .int i := by
  cases h.cases fun _ o => o
  rfl
theorem TopR.bl {i : Bool} (h : TopR p g H v (.bl i)) : v = .bl i := by
  cases h.cases fun _ o => o
  rfl
theorem TopR.str {i : Str} (h : TopR p g H v (.str i)) : v = .str i := by
  cases h.cases fun _ o => o
  rfl
theorem TopR.non (h : TopR p g H v .non) : v = .non := by
  cases h.cases fun _ o => o
  rfl
theorem TopR.tup {ds : List D} (w : Wf p g H) (h : TopR p g H v (.tup ds)) : ∃ a xs, v = .ref a ∧ SqT p.K H a xs ∧ p.Rps g xs ds := by
  have h := h.cases fun _ o => o
  cases h with
  | tup s r => exact ⟨_, _, rfl, .inl (.inl (w.sub _ _ s)), r⟩
theorem TopR.tupH {ds : List D} (w : Wf p g H) (h : TopR p g H v (.tup ds)) : ∃ a xs, v = .ref a ∧ H a = some (.tup xs) ∧ p.Rps g xs ds := by
  have h := h.cases fun _ o => o
  cases h with
  | tup s r => exact ⟨_, _, rfl, w.sub _ _ s, r⟩
theorem TopR.rtp {ds : List D} (w : Wf p g H) (h : TopR p g H v (.rtp ds)) : ∃ a xs, v = .ref a ∧ SqT p.K H a xs ∧ p.Rps g xs ds := by
  have h := h.cases fun _ o => o
  cases h with
  | rtp s r => exact ⟨_, _, rfl, sqT_mono w.sub s, r⟩
theorem TopR.rls {ds : List D} (w : Wf p g H) (h : TopR p g H v (.rls ds)) : ∃ a xs, v = .ref a ∧ SqL p.K H a xs ∧ p.Rps g xs ds := by
  have h := h.cases fun _ o => o
  cases h with
  | rls s r => exact ⟨_, _, rfl, sqL_mono w.sub s, r⟩
theorem TopR.lst {ds : List D} (w : Wf p g H) (h : TopR p g H v (.lst ds)) : ∃ a xs, v = .ref a ∧ H a = some (.lst xs) ∧ p.Rps g xs ds := by
  rcases h with h | ⟨a, rfl, _, xs, e, r⟩
  · cases h with
    | lst s r => exact ⟨_, _, rfl, w.sub _ _ s, r⟩
  · exact ⟨a, xs, rfl, e, r⟩
theorem TopR.ref {k : Nat} (h : TopR p g H v (.ref k)) : ∃ a, v = .ref a ∧ g.am[k]? = some a := by
  have h := h.cases fun _ o => o
  cases h with
  | ref e => exact ⟨_, rfl, e⟩
/-- the cell behind a reference -/
theorem Wf.at_ref {k : Nat} {a : Addr} (w : Wf p g H) (e : g.am[k]? = some a) : ∃ c, g.st[k]? = some c ∧ CellR p g H a c := by
  have hk : k < g.am.length := (List.getElem?_eq_some_iff.mp e).1
  have hk2 : k < g.st.length := by rw [← w.len]; exact hk
  exact ⟨_, List.getElem?_eq_getElem hk2, w.cell k a _ e (List.getElem?_eq_getElem hk2)⟩
end
/-- two ints, and a number -/
def i2 (h : Int → Int → Int) : D → D → M D
  | .int i, .int j => pure (.int (h i j))
  | _, _ => stuck
/-- under a condition -/
def i2c (c : Int → Int → Bool) (h : Int → Int → Int) : D → D → M D
  | .int i, .int j => if c i j then pure (.int (h i j)) else stuck
  | _, _ => stuck
def b2 (h : Int → Int → Bool) : D → D → M Bool
  | .int i, .int j => pure (h i j)
  | _, _ => stuck
section
variable {p : Pg}
theorem post_pure {α : Type} {a : α} {s : Store} {ok : α → Store → Prop} {ex : Nat → Store → Prop} (h : ((pure a : M α) s).Post ok ex) : ok a s := h
theorem post_stuck {α : Type} {s : Store} {ok : α → Store → Prop} {ex : Nat → Store → Prop} (h : ((stuck : M α) s).Post ok ex) : False := h
theorem Pv.now {R : Rel} {g : Gs} {H : Hp} {Q : VK} {d : D} (w : Wf p g H) (h : Pv p R g H Q d g.st) {v : V} (r : R H g H v d) : Q v H := h v g H rfl (.refl w) r
theorem op_i2 {h : Int → Int → Int} {r : R2} (hr : ∀ (i j : Int) (H : Hp) (Q : VK), Q (.int (h i j)) H → r (.int i) (.int j) H Q) : Op2 p r (i2 h) (RE p) := by
  intro g H x y vx vy Q E w hx hy q
  cases x with
  | int i =>
    cases y with
    | int j =>
      obtain rfl := hx.int
      obtain rfl := hy.int
      exact hr i j H Q (Pv.now w (post_pure q) (.int _))
    | _ => exact False.elim q
  | _ => exact False.elim q
theorem op_i2c {c : Int → Int → Bool} {h : Int → Int → Int} {r : R2} (hr : ∀ (i j : Int) (H : Hp) (Q : VK), c i j = true → Q (.int (h i j)) H → r (.int i) (.int j) H Q) : Op2 p r (i2c c h) (RE p) := by
  intro g H x y vx vy Q E w hx hy q
  cases x with
  | int i =>
    cases y with
    | int j =>
      obtain rfl := hx.int
      obtain rfl := hy.int
      unfold i2c at q
      by_cases z : c i j = true
      · simp only [z, if_true] at q
        exact hr i j H Q z (Pv.now w (post_pure q) (.int _))
      · simp only [z] at q
        exact False.elim q
    | _ => exact False.elim q
  | _ => exact False.elim q
theorem op_b2 {h : Int → Int → Bool} {r : R2} (hr : ∀ (i j : Int) (H : Hp) (Q : VK), Q (.bl (h i j)) H → r (.int i) (.int j) H Q) : Op2B p r (b2 h) := by
  intro g H x y vx vy Q E w hx hy q
  cases x with
  | int i =>
    cases y with
    | int j =>
      obtain rfl := hx.int
      obtain rfl := hy.int
      exact hr i j H Q ((post_pure q) rfl)
    | _ => exact False.elim q
  | _ => exact False.elim q
end
end DL
namespace DL
open PySem PySem.Spec PyProof.Rows L2
/-! ### data as the library's data -/
mutual
def toP : D → PyData
  | .non => .none
  | .bl b => .bool b
  | .int i => .int i
  | .str x => .str x
  | .tup xs => .tuple (toPs xs)
  | .lst xs => .list (toPs xs)
  | .rls xs => .list (toPs xs)
  | .rtp xs => .tuple (toPs xs)
  | .dct _ => .dict []
  | .dcT _ => .dict []
  | .ref _ => .dict []
def toPs : List D → List PyData
  | [] => []
  | x :: r => toP x :: toPs r
end
theorem toPs_map : ∀ ds : List D, toPs ds = ds.map toP
  | [] => rfl
  | d :: r => by rw [toPs, List.map_cons, toPs_map r]
section
variable {p : Pg} {g : Gs} {H : Hp}
mutual
theorem Rp.dp (w : ∀ a o, g.G a = some o → H a = some o) : ∀ {v : V} {d : D}, p.Rp g v d → (toP d).canLay0 = true → Dp p.K H v (toP d)
  | _, _, .non, _ => by rw [toP]; exact .non
  | _, _, .bl b, _ => by rw [toP]; exact .bl b
  | _, _, .int i, _ => by rw [toP]; exact .int i
  | _, _, .str x, _ => by rw [toP]; exact .str x
  | _, _, .tup s r, h => by
    rw [toP]
    exact .tup (.inl (.inl (w _ _ s))) (Rps.dp w r (by rw [toP, PyData.canLay0] at h; exact h))
  | _, _, .rtp s r, h => by
    rw [toP]
    exact .tup (sqT_mono w s) (Rps.dp w r (by rw [toP, PyData.canLay0] at h; exact h))
  | _, _, .lst s r, h => by
    rw [toP]
    exact .lst (.inl (.inl (w _ _ s))) (Rps.dp w r (by rw [toP, PyData.canLay0] at h; exact h))
  | _, _, .rls s r, h => by
    rw [toP]
    exact .lst (sqL_mono w s) (Rps.dp w r (by rw [toP, PyData.canLay0] at h; exact h))
  | _, _, .dK _ _, h => by simp [toP, PyData.canLay0] at h
  | _, _, .dT _ _, h => by simp [toP, PyData.canLay0] at h
  | _, _, .ref _, h => by simp [toP, PyData.canLay0] at h
theorem Rps.dp (w : ∀ a o, g.G a = some o → H a = some o) : ∀ {v : List V} {d : List D}, p.Rps g v d → PyData.canLayAll0 (toPs d) = true → DpAll p.K H v (toPs d)
  | _, _, .nil, _ => by rw [toPs]; exact .nil
  | _, _, .cons r t, h => by
    rw [toPs, PyData.canLayAll0, Bool.and_eq_true] at h
    rw [toPs]
    exact .cons (Rp.dp w r h.1) (Rps.dp w t h.2)
end
theorem TopR.dp (w : Wf p g H) {v : V} {d : D} (h : TopR p g H v d) (s : SeqAt.shaped (toP d) = true) : Dp p.K H v (toP d) := by
  have s := SeqAt.canLay_of_shaped s
  rcases h with h | ⟨a, rfl, _, o⟩
  · exact Rp.dp w.sub h s
  · cases d with
    | lst ds =>
      obtain ⟨xs, e, r⟩ := o
      rw [toP] at s ⊢
      exact .lst (.inl (.inl e)) (Rps.dp w.sub r (by rw [PyData.canLay0] at s; exact s))
    | dct es => simp [toP, PyData.canLay0] at s
    | dcT es => simp [toP, PyData.canLay0] at s
    | _ => exact o.elim
end
/-! ### comparisons of data -/
def eqB (x y : D) : M Bool := if SeqAt.shaped (toP x) && SeqAt.shaped (toP y) then pure (PyData.eqv (toP x) (toP y)) else stuck
def neB (x y : D) : M Bool := if SeqAt.shaped (toP x) && SeqAt.shaped (toP y) then pure (!PyData.eqv (toP x) (toP y)) else stuck
def isN : D → Bool
  | .non => true
  | _ => false
def isNoneB (x y : D) : M Bool := if isN y then pure (isN x) else stuck
def notNoneB (x y : D) : M Bool := if isN y then pure (!isN x) else stuck
def inSeq (neg : Bool) (x : D) (ds : List D) : M Bool :=
  if SeqAt.shaped (toP x) && SeqAt.shaped (.list (toPs ds)) then pure (let b := ds.any fun z => PyData.eqv (toP z) (toP x); if neg then !b else b) else stuck
/-- x in ds, x not in ds -/
def inB (neg : Bool) (x y : D) : M Bool := match y with
  | .tup ds => inSeq neg x ds
  | .lst ds => inSeq neg x ds
  | .rls ds => inSeq neg x ds
  | .rtp ds => inSeq neg x ds
  | _ => stuck
theorem any_toPs (ds : List D) (d : PyData) : (toPs ds).any (fun z => PyData.eqv z d) = ds.any fun z => PyData.eqv (toP z) d := by
  rw [toPs_map, List.any_map]
  rfl
section
variable {p : Pg} {X : Cx}
theorem op_eqB : Op2B p (rEqD p.K) eqB := by
  intro g H x y vx vy Q E w hx hy q
  unfold eqB at q
  by_cases z : (SeqAt.shaped (toP x) && SeqAt.shaped (toP y)) = true
  · rw [if_pos z] at q
    rw [Bool.and_eq_true] at z
    exact ⟨_, _, hx.dp w z.1, hy.dp w z.2, z.1, z.2, (post_pure q) rfl⟩
  · rw [if_neg z] at q
    exact False.elim q
theorem op_neB : Op2B p (rNeD p.K) neB := by
  intro g H x y vx vy Q E w hx hy q
  unfold neB at q
  by_cases z : (SeqAt.shaped (toP x) && SeqAt.shaped (toP y)) = true
  · rw [if_pos z] at q
    rw [Bool.and_eq_true] at z
    exact ⟨_, _, hx.dp w z.1, hy.dp w z.2, z.1, z.2, (post_pure q) rfl⟩
  · rw [if_neg z] at q
    exact False.elim q
def rIsN : R2 := fun x y H Q => y = .non ∧ Q (.bl (decide (x = .non))) H
def rNotN : R2 := fun x y H Q => y = .non ∧ Q (.bl (!decide (x = .non))) H
theorem TopR.isNon {g : Gs} {H : Hp} {v : V} {x : D} (h : TopR p g H v x) : decide (v = .non) = isN x := by
  rcases h with h | ⟨a, rfl, _, o⟩
  · cases h <;> rfl
  · cases x with
    | lst ds => rfl
    | dct es => rfl
    | dcT es => rfl
    | _ => exact o.elim
theorem isN_eq {x : D} (h : isN x = true) : x = .non := by
  cases x with
  | non => rfl
  | _ => cases h
theorem op_isNoneB : Op2B p rIsN isNoneB := by
  intro g H x y vx vy Q E w hx hy q
  unfold isNoneB at q
  by_cases z : isN y = true
  · rw [if_pos z] at q
    obtain rfl := isN_eq z
    have q : Q (.bl (isN x)) H := (post_pure q) rfl
    rw [← hx.isNon] at q
    exact ⟨hy.non, q⟩
  · rw [if_neg z] at q
    exact False.elim q
theorem op_notNoneB : Op2B p rNotN notNoneB := by
  intro g H x y vx vy Q E w hx hy q
  unfold notNoneB at q
  by_cases z : isN y = true
  · rw [if_pos z] at q
    obtain rfl := isN_eq z
    have q : Q (.bl (!isN x)) H := (post_pure q) rfl
    rw [← hx.isNon] at q
    exact ⟨hy.non, q⟩
  · rw [if_neg z] at q
    exact False.elim q
/-- membership in a list, in a tuple -/
def rInDT (K : PySem.W.Frag) : R2 := fun x y H Q => ∃ d ds, Dp K H x d ∧ Dp K H y (.tuple ds) ∧ SeqAt.shaped d = true ∧ SeqAt.shaped (.list ds) = true ∧ Q (.bl (ds.any fun z => PyData.eqv z d)) H
def rNotInDT (K : PySem.W.Frag) : R2 := fun x y H Q => ∃ d ds, Dp K H x d ∧ Dp K H y (.tuple ds) ∧ SeqAt.shaped d = true ∧ SeqAt.shaped (.list ds) = true ∧ Q (.bl (!ds.any fun z => PyData.eqv z d)) H
theorem op_inDT (hu : X.A.units + 65 < cLine) : OpR X (compareOp .In) (rInDT X.K) := by
  intro pins s σ H x y v u Q I rx ry h
  obtain ⟨d, ds, hd, he, sd, se, q⟩ := h
  obtain ⟨as, r1⟩ := Dp.reads I d x v hd rx
  obtain ⟨bs, r2⟩ := Dp.reads I (.tuple ds) y u he ry
  exact SeqAt.in_tuple_reads r2 r1 (SeqAt.canLay_of_shaped se) (SeqAt.canLay_of_shaped sd) (room_in_shaped sd hu) ⟨.bl _, H, I, rfl, q⟩
theorem op_notInDT (hu : X.A.units + 65 < cLine) : OpR X (compareOp .NotIn) (rNotInDT X.K) := by
  intro pins s σ H x y v u Q I rx ry h
  obtain ⟨d, ds, hd, he, sd, se, q⟩ := h
  obtain ⟨as, r1⟩ := Dp.reads I d x v hd rx
  obtain ⟨bs, r2⟩ := Dp.reads I (.tuple ds) y u he ry
  exact SeqAt.notIn_tuple_reads r2 r1 (SeqAt.canLay_of_shaped se) (SeqAt.canLay_of_shaped sd) (room_in_shaped sd hu) ⟨.bl _, H, I, rfl, q⟩
theorem tuple_shape {ds : List PyData} : (PyData.tuple ds).canLay0 = (PyData.list ds).canLay0 ∧ (PyData.tuple ds).depth = (PyData.list ds).depth := by
  constructor
  · rw [PyData.canLay0, PyData.canLay0]
  · rw [PyData.depth, PyData.depth]
theorem shaped_tup {ds : List D} : SeqAt.shaped (toP (.tup ds)) = SeqAt.shaped (.list (toPs ds)) := by
  rw [toP, SeqAt.shaped, SeqAt.shaped, tuple_shape.1, tuple_shape.2]
theorem inSeq_post {neg : Bool} {x : D} {ds : List D} {s : Store} {ok : Bool → Store → Prop} {ex : Nat → Store → Prop} (q : (inSeq neg x ds s).Post ok ex) :
    SeqAt.shaped (toP x) = true ∧ SeqAt.shaped (.list (toPs ds)) = true ∧ ok (if neg then !((toPs ds).any fun z => PyData.eqv z (toP x)) else (toPs ds).any fun z => PyData.eqv z (toP x)) s := by
  unfold inSeq at q
  by_cases z : (SeqAt.shaped (toP x) && SeqAt.shaped (.list (toPs ds))) = true
  · rw [if_pos z] at q
    rw [Bool.and_eq_true] at z
    rw [any_toPs]
    exact ⟨z.1, z.2, q⟩
  · rw [if_neg z] at q
    exact False.elim q
def rInA (K : PySem.W.Frag) : R2 := fun x y H Q => rInD K x y H Q ∨ rInDT K x y H Q
def rNotInA (K : PySem.W.Frag) : R2 := fun x y H Q => rNotInD K x y H Q ∨ rNotInDT K x y H Q
theorem op_inB : Op2B p (rInA p.K) (inB false) := by
  intro g H x y vx vy Q E w hx hy q
  cases y with
  | lst ds =>
    obtain ⟨h1, h2, h3⟩ := inSeq_post q
    exact .inl ⟨_, _, hx.dp w h1, by have := hy.dp w (by rw [toP]; exact h2); rwa [toP] at this, h1, h2, h3 rfl⟩
  | rls ds =>
    obtain ⟨h1, h2, h3⟩ := inSeq_post q
    exact .inl ⟨_, _, hx.dp w h1, by have := hy.dp w (by rw [toP]; exact h2); rwa [toP] at this, h1, h2, h3 rfl⟩
  | tup ds =>
    obtain ⟨h1, h2, h3⟩ := inSeq_post q
    exact .inr ⟨_, _, hx.dp w h1, by have := hy.dp w (by rw [shaped_tup]; exact h2); rwa [toP] at this, h1, h2, h3 rfl⟩
  | rtp ds =>
    obtain ⟨h1, h2, h3⟩ := inSeq_post q
    exact .inr ⟨_, _, hx.dp w h1, by have := hy.dp w (by rw [toP, ← shaped_tup, toP] at *; exact h2); rwa [toP] at this, h1, h2, h3 rfl⟩
  | _ => exact False.elim q
theorem op_notInB : Op2B p (rNotInA p.K) (inB true) := by
  intro g H x y vx vy Q E w hx hy q
  cases y with
  | lst ds =>
    obtain ⟨h1, h2, h3⟩ := inSeq_post q
    exact .inl ⟨_, _, hx.dp w h1, by have := hy.dp w (by rw [toP]; exact h2); rwa [toP] at this, h1, h2, h3 rfl⟩
  | rls ds =>
    obtain ⟨h1, h2, h3⟩ := inSeq_post q
    exact .inl ⟨_, _, hx.dp w h1, by have := hy.dp w (by rw [toP]; exact h2); rwa [toP] at this, h1, h2, h3 rfl⟩
  | tup ds =>
    obtain ⟨h1, h2, h3⟩ := inSeq_post q
    exact .inr ⟨_, _, hx.dp w h1, by have := hy.dp w (by rw [shaped_tup]; exact h2); rwa [toP] at this, h1, h2, h3 rfl⟩
  | rtp ds =>
    obtain ⟨h1, h2, h3⟩ := inSeq_post q
    exact .inr ⟨_, _, hx.dp w h1, by have := hy.dp w (by rw [toP, ← shaped_tup, toP] at *; exact h2); rwa [toP] at this, h1, h2, h3 rfl⟩
  | _ => exact False.elim q
end
/-! ### operators -/
def addD : D → D → M D
  | .int i, .int j => pure (.int (i + j))
  | .str x, .str y => if x.length + y.length ≤ sizeLine then pure (.str (x ++ y)) else stuck
  | .tup xs, .tup ys => if xs.length + ys.length ≤ sizeLine then pure (.tup (xs ++ ys)) else stuck
  | _, _ => stuck
def catD : D → D → M D
  | .lst xs, .lst ys => if xs.length + ys.length ≤ sizeLine then pure (.lst (xs ++ ys)) else stuck
  | _, _ => stuck
def repL : D → D → M D
  | .lst xs, .int k => if 0 ≤ k ∧ k < 2 ^ 62 ∧ xs.length * k.toNat ≤ sizeLine then pure (.lst (List.replicate k.toNat xs).flatten) else stuck
  | _, _ => stuck
def subD := i2 (· - ·)
def mulC (i j : Int) : Bool := decide ((-(2 ^ 64) < i ∧ i < 2 ^ 64) ∨ (-(2 ^ 64) < j ∧ j < 2 ^ 64))
def mulD := i2c mulC (· * ·)
def divC (_ j : Int) : Bool := decide (0 < j ∧ j < 1073741824)
def divD := i2c divC (· / ·)
def modC (_ j : Int) : Bool := decide (0 < j)
def modD := i2c modC (· % ·)
def powC (i j : Int) : Bool := decide (0 ≤ j ∧ j ≤ 1000000 ∧ i.natAbs < 2 ^ 64)
def powD := i2c powC fun i j => i ^ j.toNat
def shlD := i2c powC fun i j => i * 2 ^ j.toNat
def shrC (_ j : Int) : Bool := decide (0 ≤ j)
def shrD := i2c shrC fun i j => i / 2 ^ j.toNat
def andD := i2 Builtin.bitAnd
def orD := i2 Builtin.bitOr
def xorD := i2 Builtin.bitXor
def ltB := b2 fun i j => decide (i < j)
def leB := b2 fun i j => decide (i ≤ j)
def gtB := b2 fun i j => decide (j < i)
def geB := b2 fun i j => decide (j ≤ i)
def negD : D → M D
  | .int i => pure (.int (-i))
  | _ => stuck
def invD : D → M D
  | .int i => pure (.int (Builtin.bitNot i))
  | _ => stuck
section
variable {S : Sta} {ρ : Ev} {a b c : Expr} {ma mb mc : M D} {pos : Pos} {R : Rel}
def rAddA (K : PySem.W.Frag) : R2 := fun x y H Q => (rI0 (fun i j => .int (i + j)) x y H Q ∨ (∃ i j, x = .str i ∧ y = .str j ∧ i.length + j.length ≤ sizeLine ∧ Q (.str (i ++ j)) H)) ∨ rCatA K x y H Q
theorem op_addD {p : Pg} : Op2 p (rAddA p.K) addD (RE p) := by
  intro g H x y vx vy Q E w hx hy q
  cases x with
  | int i =>
    cases y with
    | int j =>
      obtain rfl := hx.int
      obtain rfl := hy.int
      exact .inl (.inl ⟨i, j, rfl, rfl, Pv.now w (post_pure q) (.int _)⟩)
    | _ => exact False.elim q
  | str i =>
    cases y with
    | str j =>
      obtain rfl := hx.str
      obtain rfl := hy.str
      unfold addD at q
      by_cases z : i.length + j.length ≤ sizeLine
      · simp only [if_pos z] at q
        exact .inl (.inr ⟨i, j, rfl, rfl, z, Pv.now w (post_pure q) (.str _)⟩)
      · simp only [if_neg z] at q
        exact False.elim q
    | _ => exact False.elim q
  | tup xs =>
    cases y with
    | tup ys =>
      unfold addD at q
      by_cases z : xs.length + ys.length ≤ sizeLine
      · simp only [if_pos z] at q
        have q := post_pure q
        obtain ⟨a, us, rfl, sa, ra⟩ := hx.tup w
        obtain ⟨b, vs, rfl, sb, rb⟩ := hy.tup w
        have hx := hx.cases fun _ o => o
        have hy := hy.cases fun _ o => o
        refine .inr ⟨a, b, us, vs, rfl, rfl, sa, sb, by rw [ra.length, rb.length]; exact z, fun e => ?_, fun _ e => ?_, fun _ _ l hl => ?_⟩
        · subst e
          cases ra
          exact Pv.now w q hy
        · subst e
          cases rb
          refine Pv.now w q ?_
          show p.Rp g _ (.tup (xs ++ []))
          rw [List.append_nil]
          exact hx
        · have s := Stp.new (o := .tup (us ++ vs)) w hl
          exact q _ { g with G := upd g.G l (.tup (us ++ vs)) } _ rfl s (.tup upd_same ((ra.append rb).mono s.gle s.aml))
      · simp only [if_neg z] at q
        exact False.elim q
    | _ => exact False.elim q
  | _ => exact False.elim q
theorem op_catD {p : Pg} : Op2 p rCat catD (RN p) := by
  intro g H x y vx vy Q E w hx hy q
  cases x with
  | lst xs =>
    cases y with
    | lst ys =>
      unfold catD at q
      by_cases z : xs.length + ys.length ≤ sizeLine
      · simp only [if_pos z] at q
        have q := post_pure q
        obtain ⟨a, us, rfl, sa, ra⟩ := hx.lst w
        obtain ⟨b, vs, rfl, sb, rb⟩ := hy.lst w
        refine ⟨a, b, us, vs, rfl, rfl, sa, sb, by rw [ra.length, rb.length]; exact z, fun l hl => ?_⟩
        have s := Stp.laid (o := .lst (us ++ vs)) w hl
        exact q _ _ _ rfl s ⟨l, rfl, ⟨_, upd_same, ra.append rb⟩, w.freeG hl, w.freeA hl, hl⟩
      · simp only [if_neg z] at q
        exact False.elim q
    | _ => exact False.elim q
  | _ => exact False.elim q
theorem mulC_ok {i j : Int} (h : mulC i j = true) : CMul i j := of_decide_eq_true (p := (-(2 ^ 64) < i ∧ i < 2 ^ 64) ∨ (-(2 ^ 64) < j ∧ j < 2 ^ 64)) h
theorem divC_ok {i j : Int} (h : divC i j = true) : CDiv i j := of_decide_eq_true (p := 0 < j ∧ j < 1073741824) h
theorem powC_ok {i j : Int} (h : powC i j = true) : CPow i j := of_decide_eq_true (p := 0 ≤ j ∧ j ≤ 1000000 ∧ i.natAbs < 2 ^ 64) h
/-! the rules -/
theorem ee_add (ha : EL S ρ a ma) (hb : EL S ρ b mb) : EE S ρ (.BinOp a .Add b pos) (ma >>= fun x => mb >>= fun y => addD x y) :=
  ex_bin back_RE ha hb (fun Y ok ta tb h1 h2 => pe_op (OpR.or (OpR.or op_add op_add_str) op_catA) h1 h2) op_addD
theorem en_cat (ha : EL S ρ a ma) (hb : EL S ρ b mb) : EN S ρ (.BinOp a .Add b pos) (ma >>= fun x => mb >>= fun y => catD x y) :=
  ex_bin back_RN ha hb (fun Y ok ta tb h1 h2 => pe_op op_cat h1 h2) op_catD
theorem op_repL {p : Pg} : Op2 p rRep repL (RN p) := by
  intro g H x y vx vy Q E w hx hy q
  cases x with
  | lst xs =>
    cases y with
    | int k =>
      unfold repL at q
      by_cases z : 0 ≤ k ∧ k < 2 ^ 62 ∧ xs.length * k.toNat ≤ sizeLine
      · simp only [if_pos z] at q
        have q := post_pure q
        obtain ⟨a, us, rfl, sa, ra⟩ := hx.lst w
        obtain rfl := hy.int
        refine ⟨a, k, us, rfl, rfl, sa, by omega, by omega, by rw [ra.length]; exact z.2.2, fun l hl => ?_⟩
        have s := Stp.laid (o := .lst (List.replicate k.toNat us).flatten) w hl
        have rr : ∀ n : Nat, p.Rps g (List.replicate n us).flatten (List.replicate n xs).flatten := by
          intro n
          induction n with
          | zero => exact .nil
          | succ n ih => rw [List.replicate_succ, List.replicate_succ, List.flatten_cons, List.flatten_cons]; exact ra.append ih
        exact q _ _ _ rfl s ⟨l, rfl, ⟨_, upd_same, rr _⟩, w.freeG hl, w.freeA hl, hl⟩
      · simp only [if_neg z] at q
        exact False.elim q
    | _ => exact False.elim q
  | _ => exact False.elim q
theorem en_rep (ha : EL S ρ a ma) (hb : EL S ρ b mb) : EN S ρ (.BinOp a .Mult b pos) (ma >>= fun x => mb >>= fun y => repL x y) :=
  ex_bin back_RN ha hb (fun Y ok ta tb h1 h2 => pe_op op_rep h1 h2) op_repL
theorem ee_sub (ha : EL S ρ a ma) (hb : EL S ρ b mb) : EE S ρ (.BinOp a .Sub b pos) (ma >>= fun x => mb >>= fun y => subD x y) :=
  ex_bin back_RE ha hb (fun Y ok ta tb h1 h2 => pe_op op_sub h1 h2) (op_i2 fun i j H Q q => ⟨i, j, rfl, rfl, q⟩)
theorem ee_mul (ha : EL S ρ a ma) (hb : EL S ρ b mb) : EE S ρ (.BinOp a .Mult b pos) (ma >>= fun x => mb >>= fun y => mulD x y) :=
  ex_bin back_RE ha hb (fun Y ok ta tb h1 h2 => pe_op op_mul h1 h2) (op_i2c fun i j H Q c q => ⟨i, j, rfl, rfl, mulC_ok c, q⟩)
theorem ee_div (ha : EL S ρ a ma) (hb : EL S ρ b mb) : EE S ρ (.BinOp a .FloorDiv b pos) (ma >>= fun x => mb >>= fun y => divD x y) :=
  ex_bin back_RE ha hb (fun Y ok ta tb h1 h2 => pe_op op_fdiv h1 h2) (op_i2c fun i j H Q c q => ⟨i, j, rfl, rfl, divC_ok c, q⟩)
theorem ee_mod (ha : EL S ρ a ma) (hb : EL S ρ b mb) : EE S ρ (.BinOp a .Mod b pos) (ma >>= fun x => mb >>= fun y => modD x y) :=
  ex_bin back_RE ha hb (fun Y ok ta tb h1 h2 => pe_op op_mod h1 h2) (op_i2c fun i j H Q c q => ⟨i, j, rfl, rfl, of_decide_eq_true c, q⟩)
theorem ee_pow (ha : EL S ρ a ma) (hb : EL S ρ b mb) : EE S ρ (.BinOp a .Pow b pos) (ma >>= fun x => mb >>= fun y => powD x y) :=
  ex_bin back_RE ha hb (fun Y ok ta tb h1 h2 => pe_op op_pow h1 h2) (op_i2c fun i j H Q c q => ⟨i, j, rfl, rfl, powC_ok c, q⟩)
theorem ee_shl (ha : EL S ρ a ma) (hb : EL S ρ b mb) : EE S ρ (.BinOp a .LShift b pos) (ma >>= fun x => mb >>= fun y => shlD x y) :=
  ex_bin back_RE ha hb (fun Y ok ta tb h1 h2 => pe_op op_shl h1 h2) (op_i2c fun i j H Q c q => ⟨i, j, rfl, rfl, powC_ok c, q⟩)
theorem ee_shr (ha : EL S ρ a ma) (hb : EL S ρ b mb) : EE S ρ (.BinOp a .RShift b pos) (ma >>= fun x => mb >>= fun y => shrD x y) :=
  ex_bin back_RE ha hb (fun Y ok ta tb h1 h2 => pe_op op_shr h1 h2) (op_i2c fun i j H Q c q => ⟨i, j, rfl, rfl, of_decide_eq_true c, q⟩)
theorem ee_and (ha : EL S ρ a ma) (hb : EL S ρ b mb) : EE S ρ (.BinOp a .BitAnd b pos) (ma >>= fun x => mb >>= fun y => andD x y) :=
  ex_bin back_RE ha hb (fun Y ok ta tb h1 h2 => pe_op op_and h1 h2) (op_i2 fun i j H Q q => ⟨i, j, rfl, rfl, q⟩)
theorem ee_or (ha : EL S ρ a ma) (hb : EL S ρ b mb) : EE S ρ (.BinOp a .BitOr b pos) (ma >>= fun x => mb >>= fun y => orD x y) :=
  ex_bin back_RE ha hb (fun Y ok ta tb h1 h2 => pe_op op_or h1 h2) (op_i2 fun i j H Q q => ⟨i, j, rfl, rfl, q⟩)
theorem ee_xor (ha : EL S ρ a ma) (hb : EL S ρ b mb) : EE S ρ (.BinOp a .BitXor b pos) (ma >>= fun x => mb >>= fun y => xorD x y) :=
  ex_bin back_RE ha hb (fun Y ok ta tb h1 h2 => pe_op op_xor h1 h2) (op_i2 fun i j H Q q => ⟨i, j, rfl, rfl, q⟩)
theorem op_negD {p : Pg} : Op1 p (rU fun i => .int (-i)) negD (RE p) := by
  intro g H x vx Q E w hx q
  cases x with
  | int i =>
    obtain rfl := hx.int
    exact ⟨i, rfl, Pv.now w (post_pure q) (.int _)⟩
  | _ => exact False.elim q
theorem op_invD {p : Pg} : Op1 p (rU fun i => .int (Builtin.bitNot i)) invD (RE p) := by
  intro g H x vx Q E w hx q
  cases x with
  | int i =>
    obtain rfl := hx.int
    exact ⟨i, rfl, Pv.now w (post_pure q) (.int _)⟩
  | _ => exact False.elim q
theorem ee_neg (ha : EL S ρ a ma) : EE S ρ (.UnaryOp .USub a pos) (ma >>= negD) := ex_un back_RE ha (fun Y ok ta h => pe_un un_neg h) op_negD
theorem ee_inv (ha : EL S ρ a ma) : EE S ρ (.UnaryOp .Invert a pos) (ma >>= invD) := ex_un back_RE ha (fun Y ok ta h => pe_un un_inv h) op_invD
/-! comparisons: by the operator -/
/-- an operator that gives a truth, in every run of a def -/
structure Cmp (S : Sta) (op : CmpOp) (r : R2) (f : D → D → M Bool) : Prop where
  op : ∀ Y : Dyn, OkY S Y → OpR (S.cx Y) (compareOp op) r
  ok : Op2B S.pg r f
theorem c_lt : Cmp S .Lt (rI0 fun i j => .bl (decide (i < j))) ltB := ⟨fun _ _ => op_lt, op_b2 fun i j H Q q => ⟨i, j, rfl, rfl, q⟩⟩
theorem c_le : Cmp S .LtE (rI0 fun i j => .bl (decide (i ≤ j))) leB := ⟨fun _ _ => op_le, op_b2 fun i j H Q q => ⟨i, j, rfl, rfl, q⟩⟩
theorem c_gt : Cmp S .Gt (rI0 fun i j => .bl (decide (j < i))) gtB := ⟨fun _ _ => op_gt, op_b2 fun i j H Q q => ⟨i, j, rfl, rfl, q⟩⟩
theorem c_ge : Cmp S .GtE (rI0 fun i j => .bl (decide (j ≤ i))) geB := ⟨fun _ _ => op_ge, op_b2 fun i j H Q q => ⟨i, j, rfl, rfl, q⟩⟩
theorem c_eq : Cmp S .Eq (rEqD S.pg.K) eqB := ⟨fun Y ok => op_eqD (X := S.cx Y) ok.room.units, op_eqB⟩
theorem c_ne : Cmp S .NotEq (rNeD S.pg.K) neB := ⟨fun Y ok => op_neD (X := S.cx Y) ok.room.units, op_neB⟩
theorem c_is : Cmp S .Is rIsN isNoneB := ⟨fun _ _ => op_isN, op_isNoneB⟩
theorem c_nis : Cmp S .IsNot rNotN notNoneB := ⟨fun _ _ => op_notN, op_notNoneB⟩
theorem in_room {k : Nat} {A : Around} (r : Room k A) : A.units + 65 < cLine := by
  have := r.un
  omega
theorem c_in : Cmp S .In (rInA S.pg.K) (inB false) := ⟨fun Y ok => OpR.or (op_inD (X := S.cx Y) (in_room ok.room)) (op_inDT (X := S.cx Y) (in_room ok.room)), op_inB⟩
theorem c_nin : Cmp S .NotIn (rNotInA S.pg.K) (inB true) := ⟨fun Y ok => OpR.or (op_notInD (X := S.cx Y) (in_room ok.room)) (op_notInDT (X := S.cx Y) (in_room ok.room)), op_notInB⟩
theorem ee_cmp {op : CmpOp} {r : R2} {f : D → D → M Bool} (h : Cmp S op r f) (ha : EL S ρ a ma) (hb : EL S ρ b mb) (hm : behindInMarks op b = false) :
    EE S ρ (.Compare a [op] [b] pos) (ma >>= fun x => mb >>= fun y => f x y >>= fun b => pure (.bl b)) :=
  ex_binB ha hb (fun Y ok ta tb h1 h2 => pe_cmpR (h.op Y ok) h1 h2 hm) h.ok
theorem et_cmp {op : CmpOp} {r : R2} {f : D → D → M Bool} (h : Cmp S op r f) (ha : EL S ρ a ma) (hb : EL S ρ b mb) (hm : behindInMarks op b = false) :
    ET S ρ (.Compare a [op] [b] pos) (ma >>= fun x => mb >>= fun y => f x y) :=
  et_binB ha hb (fun Y ok ta tb h1 h2 => pt_cmpR (h.op Y ok) h1 h2 hm) h.ok
/-- a op1 b op2 c -/
def chainM (ma mb : M D) (f1 : D → D → M Bool) (mc : M D) (f2 : D → D → M Bool) : M Bool := ma >>= fun x => mb >>= fun y => f1 x y >>= fun k => if k = true then mc >>= fun z => f2 y z else pure false
theorem chain_core {op1 op2 : CmpOp} {r1 r2 : R2} {f1 f2 : D → D → M Bool} (h1 : Cmp S op1 r1 f1) (h2 : Cmp S op2 r2 f2) {Y : Dyn} {σ : L2.St} {H : Hp} {F : Fm} {g : Gs} {Q : VK}
    (E : ER S.pg F ρ σ g H) (q : (chainM ma mb f1 mc f2 g.st).Post (fun b st' => ∀ g' H', g'.st = st' → Stp S.pg g H g' H' → Q (.bl b) H') (Px S Y g H)) :
    tChain r1 r2 (rdX S Y ρ (RL S.pg) ma) (rdX S Y ρ (RL S.pg) mb) (rdX S Y ρ (RL S.pg) mc) σ H Q :=
  rdX.bind E q fun x v g' H' s E' r q => rdX.bind E' (q.imp (fun _ _ q => q) fun _ _ q => q.back E.wf s) fun y u g2 H2 s2 E2 r2 q =>
    h1.ok g2 H2 x y v u _ _ E2.wf (r.step E'.wf s2) r2 ((post_bind q).imp (fun b st' q e => ⟨b, rfl, by
      subst e
      have s3 := s.trans E.wf s2
      by_cases z : b = true
      · rw [if_pos z]
        rw [if_pos z] at q
        exact rdX.bind E2 (q.imp (fun _ _ q => q) fun _ _ q => Px.back E'.wf s2 q) fun w t g4 H4 s4 E4 r4 q =>
          h2.ok g4 H4 y w u t Q _ E4.wf (r2.step E2.wf s4) r4 (q.imp (fun b st' q e => q g4 H4 e.symm (s3.trans E.wf s4)) fun _ _ q => q)
      · rw [if_neg z]
        rw [if_neg z] at q
        have zb : b = false := by cases b with | true => exact absurd rfl z | false => rfl
        exact (post_pure q) g2 H2 rfl s3⟩) fun _ _ q => q)
theorem ee_chain {op1 op2 : CmpOp} {r1 r2 : R2} {f1 f2 : D → D → M Bool} (h1 : Cmp S op1 r1 f1) (h2 : Cmp S op2 r2 f2) (ha : EL S ρ a ma) (hb : EL S ρ b mb) (hc : EL S ρ c mc) (hm : lastMarks [op1, op2] [b, c] = false := by with_unfolding_all rfl) :
    EE S ρ (.Compare a [op1, op2] [b, c] pos) (chainM ma mb f1 mc f2 >>= fun b => pure (.bl b)) := fun Y ok => (pe_chain (h1.op Y ok) (h2.op Y ok) (ha Y ok) (hb Y ok) (hc Y ok) hm).pre fun σ H Q ⟨F, g, E, q⟩ =>
  chain_core h1 h2 E ((post_bind q).imp (fun b st' q g' H' e s => (post_pure q) (.bl b) g' H' e s (.bl b)) fun _ _ q => q)
theorem et_chain {op1 op2 : CmpOp} {r1 r2 : R2} {f1 f2 : D → D → M Bool} (h1 : Cmp S op1 r1 f1) (h2 : Cmp S op2 r2 f2) (ha : EL S ρ a ma) (hb : EL S ρ b mb) (hc : EL S ρ c mc) (hm : lastMarks [op1, op2] [b, c] = false := by with_unfolding_all rfl) :
    ET S ρ (.Compare a [op1, op2] [b, c] pos) (chainM ma mb f1 mc f2) := fun Y ok => (pt_chain (h1.op Y ok) (h2.op Y ok) (ha Y ok) (hb Y ok) (hc Y ok) hm).pre fun σ H Q ⟨F, g, E, q⟩ =>
  chain_core h1 h2 E (q.imp (fun b st' q g' H' e s => ⟨b, rfl, q g' H' e s⟩) fun _ _ q => q)
/-! ### truth, not, and, or, if -/
def truth : D → M Bool
  | .non => pure false
  | .bl b => pure b
  | .int i => pure (i != 0)
  | .str y => if y.length ≤ sizeLine then pure ((y.length : Int) != 0) else stuck
  | .tup xs => pure (!xs.isEmpty)
  | .lst xs => pure (!xs.isEmpty)
  | .rls xs => pure (!xs.isEmpty)
  | .dct _ => stuck
  | .dcT _ => stuck
  | .rtp _ => stuck
  | .ref k => getC k >>= fun c => match c with
    | .lst xs => pure (!xs.isEmpty)
    | _ => stuck
theorem Rps.isEmpty {p : Pg} {g : Gs} {xs : List V} {ds : List D} (r : p.Rps g xs ds) : (!ds.isEmpty) = !xs.isEmpty := by
  cases r <;> rfl
theorem truth_ok {p : Pg} {g : Gs} {H : Hp} {v : V} {x : D} {ok : Bool → Store → Prop} {ex : Nat → Store → Prop} (w : Wf p g H) (hx : TopR p g H v x) (q : (truth x g.st).Post ok ex) : ∃ k, TruV p.K v H k ∧ ok k g.st := by
  cases x with
  | non => obtain rfl := hx.non; exact ⟨_, rfl, post_pure q⟩
  | bl b => obtain rfl := hx.bl; exact ⟨_, rfl, post_pure q⟩
  | int i => obtain rfl := hx.int; exact ⟨_, rfl, post_pure q⟩
  | str y =>
    obtain rfl := hx.str
    unfold truth at q
    by_cases z : y.length ≤ sizeLine
    · simp only [if_pos z] at q
      exact ⟨_, ⟨z, rfl⟩, post_pure q⟩
    · simp only [if_neg z] at q
      exact False.elim q
  | tup xs =>
    obtain ⟨a, us, rfl, s, r⟩ := hx.tup w
    exact ⟨_, .inr (.inl ⟨us, s, r.isEmpty⟩), post_pure q⟩
  | lst xs =>
    obtain ⟨a, us, rfl, s, r⟩ := hx.lst w
    exact ⟨_, .inl ⟨us, SqL.of s, r.isEmpty⟩, post_pure q⟩
  | rls xs =>
    obtain ⟨a, us, rfl, s, r⟩ := hx.rls w
    exact ⟨_, .inl ⟨us, s, r.isEmpty⟩, post_pure q⟩
  | dct es => exact False.elim q
  | dcT es => exact False.elim q
  | rtp es => exact False.elim q
  | ref k =>
    obtain ⟨a, rfl, e⟩ := hx.ref
    obtain ⟨c, e2, r⟩ := w.at_ref e
    have q : ((getC k >>= fun c => match c with
      | .lst xs => pure (!xs.isEmpty)
      | _ => stuck) g.st).Post ok ex := q
    rw [bind_run] at q
    unfold getC at q
    rw [e2] at q
    cases c with
    | lst xs =>
      obtain ⟨us, s, r⟩ := r
      exact ⟨_, .inl ⟨us, SqL.of s, r.isEmpty⟩, post_pure q⟩
    | _ => exact False.elim q
theorem et_truth (ha : EL S ρ a ma) (he : ∀ (env : Env) (whole : Sem Value), isTrue a env whole = (do let v ← whole; standAt a.pos; holding [v] (truthy v))) : ET S ρ a (ma >>= truth) := fun Y ok =>
  (pt_truth (ha Y ok) (he _)).pre fun σ H Q ⟨F, g, E, q⟩ => rdX.bind E q fun x v g' H' s E' r q => by
    obtain ⟨k, t, q⟩ := truth_ok E'.wf r q
    exact ⟨k, t, q g' H' rfl s⟩
theorem ee_not (ha : EL S ρ a ma) : EE S ρ (.UnaryOp .Not a pos) (ma >>= truth >>= fun b => pure (.bl (!b))) := fun Y ok =>
  (pe_notT (ha Y ok)).pre fun σ H Q ⟨F, g, E, q⟩ => by
    rw [bind_assoc'] at q
    exact rdX.bind E q fun x v g' H' s E' r q => by
      obtain ⟨k, t, q⟩ := truth_ok E'.wf r (post_bind q)
      exact ⟨k, t, (post_pure q) (.bl (!k)) g' H' rfl s (.bl _)⟩
theorem et_not {m : M Bool} (ha : ET S ρ a m) : ET S ρ (.UnaryOp .Not a pos) (m >>= fun b => pure (!b)) := fun Y ok =>
  (pt_not (ha Y ok)).pre fun σ H Q ⟨F, g, E, q⟩ => rdT.bind E q fun b g' H' s E' q => (post_pure q) g' H' rfl s
variable {rest : List Expr} {t u : M Bool}
theorem ew_and1 (ha : ET S ρ a t) : EW S ρ (.BoolOp .And [a] pos) t := fun Y ok => pw_and1 (ha Y ok)
theorem ew_or1 (ha : ET S ρ a t) : EW S ρ (.BoolOp .Or [a] pos) t := fun Y ok => pw_or1 (ha Y ok)
theorem ew_and (ha : ET S ρ a t) (hb : EW S ρ (.BoolOp .And (b :: rest) pos) u) : EW S ρ (.BoolOp .And (a :: b :: rest) pos) (t >>= fun k => if k = true then u else pure false) := fun Y ok =>
  (pw_and (ha Y ok) (hb Y ok)).pre fun σ H Q ⟨F, g, E, q⟩ => rdT.bind E q fun b g' H' s E' q => by
    by_cases z : b = true
    · rw [if_pos z]
      rw [if_pos z] at q
      exact ⟨F, g', E', q.imp (fun b st' q g2 H2 e s2 => q g2 H2 e (s.trans E.wf s2)) fun _ _ q => q.back E.wf s⟩
    · rw [if_neg z]
      rw [if_neg z] at q
      exact (post_pure q) g' H' rfl s
theorem ew_or (ha : ET S ρ a t) (hb : EW S ρ (.BoolOp .Or (b :: rest) pos) u) : EW S ρ (.BoolOp .Or (a :: b :: rest) pos) (t >>= fun k => if k = true then pure true else u) := fun Y ok =>
  (pw_or (ha Y ok) (hb Y ok)).pre fun σ H Q ⟨F, g, E, q⟩ => rdT.bind E q fun b g' H' s E' q => by
    by_cases z : b = true
    · rw [if_pos z]
      rw [if_pos z] at q
      exact (post_pure q) g' H' rfl s
    · rw [if_neg z]
      rw [if_neg z] at q
      exact ⟨F, g', E', q.imp (fun b st' q g2 H2 e s2 => q g2 H2 e (s.trans E.wf s2)) fun _ _ q => q.back E.wf s⟩
theorem et_w (h : EW S ρ a t) : ET S ρ a t := fun Y ok => (h Y ok).pt
/-- and, or as values -/
theorem ee_one {op : BoolOp} (h : EX S ρ R a ma) : EX S ρ R (.BoolOp op [a] pos) ma := fun Y ok => pe_one (h Y ok)
theorem ee_and2 (ha : EE S ρ a ma) (hb : EE S ρ (.BoolOp .And (b :: rest) pos) mb) : EE S ρ (.BoolOp .And (a :: b :: rest) pos) (ma >>= fun x => truth x >>= fun k => if k = true then mb else pure x) := fun Y ok =>
  (pe_andT (ha Y ok) (hb Y ok)).pre fun σ H Q ⟨F, g, E, q⟩ => rdX.bind E q fun x v g' H' s E' r q => by
    obtain ⟨k, t, q⟩ := truth_ok E'.wf (.inl r) (post_bind q)
    refine ⟨k, t, ?_⟩
    by_cases z : k = true
    · rw [if_pos z]
      rw [if_pos z] at q
      exact ⟨F, g', E', q.imp (fun _ _ q => q.back back_RE E.wf s) fun _ _ q => q.back E.wf s⟩
    · rw [if_neg z]
      rw [if_neg z] at q
      exact (post_pure q) v g' H' rfl s r
theorem ee_or2 (ha : EE S ρ a ma) (hb : EE S ρ (.BoolOp .Or (b :: rest) pos) mb) : EE S ρ (.BoolOp .Or (a :: b :: rest) pos) (ma >>= fun x => truth x >>= fun k => if k = true then pure x else mb) := fun Y ok =>
  (pe_orT (ha Y ok) (hb Y ok)).pre fun σ H Q ⟨F, g, E, q⟩ => rdX.bind E q fun x v g' H' s E' r q => by
    obtain ⟨k, t, q⟩ := truth_ok E'.wf (.inl r) (post_bind q)
    refine ⟨k, t, ?_⟩
    by_cases z : k = true
    · rw [if_pos z]
      rw [if_pos z] at q
      exact (post_pure q) v g' H' rfl s r
    · rw [if_neg z]
      rw [if_neg z] at q
      exact ⟨F, g', E', q.imp (fun _ _ q => q.back back_RE E.wf s) fun _ _ q => q.back E.wf s⟩
theorem ex_if (hR : Back S.pg R) (hc : ET S ρ c t) (ha : EX S ρ R a ma) (hb : EX S ρ R b mb) : EX S ρ R (.IfExp c a b pos) (t >>= fun k => if k = true then ma else mb) := fun Y ok =>
  (pe_ifExp (hc Y ok) (ha Y ok) (hb Y ok)).pre fun σ H Q ⟨F, g, E, q⟩ => rdT.bind E q fun k g' H' s E' q => by
    by_cases z : k = true
    · rw [if_pos z]
      rw [if_pos z] at q
      exact ⟨F, g', E', q.imp (fun _ _ q => q.back hR E.wf s) fun _ _ q => q.back E.wf s⟩
    · rw [if_neg z]
      rw [if_neg z] at q
      exact ⟨F, g', E', q.imp (fun _ _ q => q.back hR E.wf s) fun _ _ q => q.back E.wf s⟩
/-! ### argument lists, displays -/
def items : D → M (List D)
  | .tup ds => pure ds
  | .lst ds => pure ds
  | .rls ds => pure ds
  | .rtp ds => pure ds
  | _ => stuck
variable {es : List Expr} {e : Expr} {m : M D} {ms : M (List D)} {spos : Pos}
theorem ea_nil : EA S ρ [] (pure []) := fun Y ok => pa_nil.pre fun σ H Q ⟨F, g, E, q⟩ => (post_pure q) [] g H rfl (.refl E.wf) .nil
theorem ea_cons (he : EE S ρ e m) (hr : EA S ρ es ms) (hs : ∀ env : Env, starEach (e :: es) env = (false, eval e env) :: starEach es env := by intro _; rfl) : EA S ρ (e :: es) (m >>= fun d => ms >>= fun ds => pure (d :: ds)) := fun Y ok =>
  (pa_cons (he Y ok) (hr Y ok) (hs _)).pre fun σ H Q ⟨F, g, E, q⟩ => rdX.bind E q fun x v g' H' s E' r q => rdA.bind E' (q.imp (fun _ _ q => q) fun _ _ q => q.back E.wf s) fun xs vs g2 H2 s2 E2 r2 q =>
    (post_pure q) (v :: vs) g2 H2 rfl (s.trans E.wf s2) (.cons (r.mono s2.gle s2.aml) r2)
theorem items_ok {p : Pg} {g : Gs} {H : Hp} {v : V} {x : D} {ok : List D → Store → Prop} {ex : Nat → Store → Prop} (w : Wf p g H) (hx : TopR p g H v x) (q : (items x g.st).Post ok ex) :
    ∃ a xs ds, v = .ref a ∧ (SqT p.K H a xs ∨ SqL p.K H a xs) ∧ p.Rps g xs ds ∧ ok ds g.st := by
  cases x with
  | tup ds => obtain ⟨a, us, rfl, s, r⟩ := hx.tup w; exact ⟨a, us, ds, rfl, .inl s, r, post_pure q⟩
  | lst ds => obtain ⟨a, us, rfl, s, r⟩ := hx.lst w; exact ⟨a, us, ds, rfl, .inr (SqL.of s), r, post_pure q⟩
  | rls ds => obtain ⟨a, us, rfl, s, r⟩ := hx.rls w; exact ⟨a, us, ds, rfl, .inr s, r, post_pure q⟩
  | rtp ds => obtain ⟨a, us, rfl, s, r⟩ := hx.rtp w; exact ⟨a, us, ds, rfl, .inl s, r, post_pure q⟩
  | _ => exact False.elim q
theorem ea_star (he : EL S ρ e m) (hr : EA S ρ es ms) : EA S ρ (.Starred e spos :: es) (m >>= fun d => items d >>= fun xs => ms >>= fun ds => pure (xs ++ ds)) := fun Y ok =>
  (StX.pa_star (X := S.cx Y) (he Y ok) (hr Y ok)).pre fun σ H Q ⟨F, g, E, q⟩ => rdX.bind E q fun x v g' H' s E' r q => by
    obtain ⟨a, us, ds, rfl, hq, rr, q⟩ := items_ok E'.wf r (post_bind q)
    exact ⟨a, us, rfl, hq, rdA.bind E' (q.imp (fun _ _ q => q) fun _ _ q => q.back E.wf s) fun xs vs g2 H2 s2 E2 r2 q =>
      (post_pure q) (us ++ vs) g2 H2 rfl (s.trans E.wf s2) ((rr.mono s2.gle s2.aml).append r2)⟩
def mkT (ds : List D) : M D := if ds.length ≤ sizeLine then pure (.tup ds) else stuck
def mkL (ds : List D) : M D := if ds.length ≤ sizeLine then pure (.lst ds) else stuck
theorem ee_tup {k : Nat} (h : EA S ρ es ms) : EE S ρ (.Tuple es k pos) (ms >>= mkT) := fun Y ok =>
  (pe_tup (h Y ok)).pre fun σ H Q ⟨F, g, E, q⟩ => rdA.bind E q fun ds vs g' H' s E' r q => by
    unfold mkT at q
    by_cases z : ds.length ≤ sizeLine
    · rw [if_pos z] at q
      refine ⟨by rw [r.length]; exact z, fun l hl => ?_⟩
      have s2 := Stp.new (o := .tup vs) E'.wf hl
      exact (post_pure q) _ { g' with G := upd g'.G l (.tup vs) } _ rfl (s.trans E.wf s2) (.tup upd_same (r.mono s2.gle s2.aml))
    · rw [if_neg z] at q
      exact False.elim q
theorem en_lst (h : EA S ρ es ms) : EN S ρ (.List es pos) (ms >>= mkL) := fun Y ok =>
  (pe_lst (h Y ok)).pre fun σ H Q ⟨F, g, E, q⟩ => rdA.bind E q fun ds vs g' H' s E' r q => by
    unfold mkL at q
    by_cases z : ds.length ≤ sizeLine
    · rw [if_pos z] at q
      refine ⟨by rw [r.length]; exact z, fun l hl => ?_⟩
      have s2 := Stp.laid (o := .lst vs) E'.wf hl
      exact (post_pure q) _ g' _ rfl (s.trans E.wf s2) ⟨l, rfl, ⟨_, upd_same, r⟩, E'.wf.freeG hl, E'.wf.freeA hl, s.none_of E.wf hl⟩
    · rw [if_neg z] at q
      exact False.elim q
end
end DL
namespace DL
open PySem PySem.Spec PyProof.Rows L2
/-! sorted of a tuple of ints -/
section
variable {prog : Program} {w : World} {A : Around} {E : Value → Shared → Prop} {s : Shared}
theorem gather_tup {l : Addr} {vs : List Value} {Q : List Value → Shared → Prop} (isT : s.heap.IsTuple l vs.toArray) (few : vs.length ≤ sizeLine)
    (done : Q vs { s with heap := (s.heap.push (seqObj "list" #[] 0)).update s.heap.objs.size (Obj.mapSeq (· ++ vs.toArray)) }) : wpAny (model prog w) A (collect (.ref l)) Q E s := by
  obtain ⟨ob, hob, hcl, n, hdt⟩ := id isT
  have h1 : (s.heap.push (seqObj "list" #[] 0)).get? l = some ob := Heap.get?_push_of_some _ hob
  have h2 : (s.heap.push (seqObj "list" #[] 0)).get? s.heap.objs.size = some (seqObj "list" #[] 0) := Heap.get?_push_size _ rfl
  have h3 : (#[] ++ vs.toArray).size ≤ sizeLine + 1 := by
    simp only [Array.size_append, List.size_toArray, List.length_nil]
    omega
  unfold collect
  refine wpAny_bind (wpAny_runValue (codeAny_builtin entry_proto_collect' ?_))
  change wpAny _ _ (do again (.builtin "list.__iadd__" ⟨[← newList [], .ref l], []⟩)) _ _ s
  refine wpAny_bind (wpAny_newList (wpAny_pure ⟨Code.quiet_builtin _ (by decide +kernel), codeAny_builtin entry_list_iadd' ?_⟩))
  change wpAny _ _ (Builtin.List.listExtendWith (.ref s.heap.objs.size) (.ref l) (.ref s.heap.objs.size)) _ _ { s with heap := s.heap.push (seqObj "list" #[] 0) }
  unfold Builtin.List.listExtendWith
  refine wpAny_bind (wpAny_typeOf (T := "tuple") ⟨ob, h1, hcl⟩ ?_)
  have ht : (Value.type "tuple" == Value.type "tuple") = true := by rfl
  rw [if_pos (by rw [ht]; simp)]
  refine wpAny_bind (listItems_at h1 hdt ?_)
  refine wpAny_bind (listItems_at (xs := #[]) (n := 0) h2 rfl ?_)
  rw [if_neg (by simp)]
  refine wpAny_bind (listUpdate_at (xs := #[]) (n := 0) h2 rfl (wpAny_pure ?_) (Nat.zero_le _) h3)
  change wpAny (model prog w) A (do
      let o ← load s.heap.objs.size
      match o.data with
      | .seq xs _ => pure xs.toList
      | _ => unsupported "internal:collect") Q E { s with heap := (s.heap.push (seqObj "list" #[] 0)).update s.heap.objs.size (Obj.mapSeq (· ++ vs.toArray)) }
  refine wpAny_bind (wpAny_load (get?_update_seq h2 _) ?_)
  have e : ((#[] : Array Value) ++ vs.toArray).toList = vs := by simp
  change wpAny _ _ (pure ((#[] : Array Value) ++ vs.toArray).toList) Q E _
  rw [e]
  exact wpAny_pure done
theorem sort_tup {l : Addr} {vs : List Value} {ns : List Int} {Q : Value → Shared → Prop} (isT : s.heap.IsTuple l vs.toArray) (hI : IntsAre vs ns) (few : vs.length ≤ sizeLine)
    (done : ∀ out : List Value, IntsAre out (out.map SrtO.iv) → (out.map SrtO.iv).Perm ns → (out.map SrtO.iv).Pairwise (· ≤ ·) → Q (.ref (s.heap.objs.size + 1)) { s with heap := sortedAll s.heap vs out.toArray }) :
    wpAny (model prog w) A (call (.builtin "sorted") [.ref l]) Q E s := by
  have e1 : ((s.heap.push (seqObj "list" #[] 0)).update s.heap.objs.size (Obj.mapSeq (· ++ vs.toArray))).objs.size = s.heap.objs.size + 1 := by
    rw [Heap.size_update, size_push']
  have e2 : (((s.heap.push (seqObj "list" #[] 0)).update s.heap.objs.size (Obj.mapSeq (· ++ vs.toArray))).push (seqObj "list" vs.toArray 0)).get? (s.heap.objs.size + 1) = some (seqObj "list" vs.toArray 0) := by
    rw [← e1]
    exact Heap.get?_push_size _ rfl
  refine Calls.call_function_entry kind_sorted plain_sorted entry_sorted (args_sorted1 _) ?_
  unfold Builtin.«sorted»
  refine wpAny_bind (m := checkCount "sorted" 1 1 _) (wpAny_pure (wpAny_bind (gather_tup isT few (wpAny_bind (wpAny_newList ?_ few)))))
  change wpAny _ _ _ _ _ { s with heap := ((s.heap.push (seqObj "list" #[] 0)).update s.heap.objs.size (Obj.mapSeq (· ++ vs.toArray))).push (seqObj "list" vs.toArray 0) }
  rw [e1]
  refine wpAny_bind (wpAny_holding (wpAny_call_entry slot_list_sort ⟨_, e2, rfl⟩ entry_list_sort
    (SrtO.list_sort_ord SrtO.swo_int (s := { s with heap := ((s.heap.push (seqObj "list" #[] 0)).update s.heap.objs.size (Obj.mapSeq (· ++ vs.toArray))).push (seqObj "list" vs.toArray 0) }) e2 few (fun h2 => SrtO.ints_sortable hI h2) fun out h1 h2 => ⟨_, rfl, ?_⟩) (args_list_sort _)))
  obtain ⟨k1, k2, k3⟩ := SrtO.ints_out hI h1 h2
  exact wpAny_pure ⟨_, rfl, done out k1 k2 k3⟩
end
/-- sorted of ints, of a list or of a tuple -/
def rSortA (K : PySem.W.Frag) : List V → Hp → VK → Prop := fun vs H Q => ∃ (a : Addr) (ns : List Int), vs = [V.ref a] ∧ (SqL K H a (ns.map V.int) ∨ SqT K H a (ns.map V.int)) ∧
  ∀ (ns' : List Int) (p : Addr), ns'.Perm ns → ns'.Pairwise (· ≤ ·) → H p = none → Q (.ref p) (upd H p (.lst (ns'.map V.int)))
section
variable {X : Cx}
theorem cr_sortA : CallR X (.builtin "sorted") (rSortA X.K) := by
  intro pins s σ H vs us Q I r h
  obtain ⟨a, ns, rfl, hs | hs, q⟩ := h
  · exact cr_sortedI pins s σ H [V.ref a] us Q I r ⟨a, ns, rfl, hs, q⟩
  · obtain ⟨its, rv, pl, few⟩ := I.tuple hs
    rw [Vals.ref1 r]
    have hi := rv.ints
    refine sort_tup pl hi (by rw [← rv.length]; exact few) fun out k1 k2 k3 => ?_
    obtain ⟨c, hc⟩ := PyProof.Rows.sortedAll_at s.heap its out.toArray
    have len : ((out.map SrtO.iv).map V.int).length ≤ sizeLine := by
      rw [List.length_map, k2.length_eq]
      rw [List.length_map] at few
      exact few
    exact ⟨.ref _, upd H (s.heap.objs.size + 1) (.lst ((out.map SrtO.iv).map V.int)), I.laid (t' := s.toks) (fun _ _ => PyProof.Rows.sortedAll_old) (Nat.le_succ _) ⟨len, out, c, vals_of_ints k1, hc⟩, rfl, q _ _ k2 k3 (I.hok.fresh (Nat.le_succ _))⟩
end
/-! ### subscripts -/
def ixL (ds : List D) (i : Int) : M D := match atI ds i with
  | some d => pure d
  | none => stuck
def ixD : D → D → M D
  | .tup ds, .int i => ixL ds i
  | .lst ds, .int i => ixL ds i
  | .rls ds, .int i => ixL ds i
  | .rtp ds, .int i => ixL ds i
  | .ref k, .int i => getC k >>= fun c => match c with
    | .lst ds => ixL ds i
    | _ => stuck
  | _, _ => stuck
theorem Rps.atI {K : PySem.W.Frag} {G : Hp} {am : List Addr} {vs : List V} {ds : List D} {i : Int} {d : D} (r : DL.Rps K G am vs ds) (h : L2.atI ds i = some d) : ∃ v, L2.atI vs i = some v ∧ DL.Rp K G am v d := by
  unfold L2.atI at h ⊢
  rw [r.length]
  cases e : ixN ds.length i with
  | none => rw [e] at h; cases h
  | some j =>
    rw [e] at h
    exact r.get h
section
variable {S : Sta} {ρ : Ev} {a b c : Expr} {ma mb mc : M D} {pos : Pos} {R : Rel}
theorem ixL_post {ds : List D} {i : Int} {s : Store} {ok : D → Store → Prop} {ex : Nat → Store → Prop} (q : (ixL ds i s).Post ok ex) : ∃ d, L2.atI ds i = some d ∧ ok d s := by
  unfold ixL at q
  cases e : L2.atI ds i with
  | none => rw [e] at q; exact False.elim q
  | some d => rw [e] at q; exact ⟨d, rfl, q⟩
def rIxA (K : PySem.W.Frag) : R2 := fun x y H Q => rIxL K x y H Q ∨ rIxT K x y H Q
theorem op_ixD {p : Pg} : Op2 p (rIxA p.K) ixD (RE p) := by
  intro g H x y vx vy Q E w hx hy q
  cases y with
  | int i =>
    obtain rfl := hy.int
    cases x with
    | tup ds =>
      obtain ⟨a, us, rfl, s, r⟩ := hx.tup w
      obtain ⟨d, e, q⟩ := ixL_post q
      obtain ⟨v, ev, rv⟩ := r.atI e
      exact .inr ⟨a, us, i, v, rfl, rfl, s, ev, Pv.now w q rv⟩
    | rtp ds =>
      obtain ⟨a, us, rfl, s, r⟩ := hx.rtp w
      obtain ⟨d, e, q⟩ := ixL_post q
      obtain ⟨v, ev, rv⟩ := r.atI e
      exact .inr ⟨a, us, i, v, rfl, rfl, s, ev, Pv.now w q rv⟩
    | lst ds =>
      obtain ⟨a, us, rfl, s, r⟩ := hx.lst w
      obtain ⟨d, e, q⟩ := ixL_post q
      obtain ⟨v, ev, rv⟩ := r.atI e
      exact .inl ⟨a, us, i, v, rfl, rfl, SqL.of s, ev, Pv.now w q rv⟩
    | rls ds =>
      obtain ⟨a, us, rfl, s, r⟩ := hx.rls w
      obtain ⟨d, e, q⟩ := ixL_post q
      obtain ⟨v, ev, rv⟩ := r.atI e
      exact .inl ⟨a, us, i, v, rfl, rfl, s, ev, Pv.now w q rv⟩
    | ref k =>
      obtain ⟨a, rfl, e⟩ := hx.ref
      obtain ⟨c, e2, r⟩ := w.at_ref e
      have q : ((getC k >>= fun c => match c with
        | .lst ds => ixL ds i
        | _ => stuck) g.st).Post (Pv p (RE p) g H Q) E := q
      rw [bind_run] at q
      unfold getC at q
      rw [e2] at q
      cases c with
      | lst ds =>
        obtain ⟨us, s, r⟩ := r
        obtain ⟨d, e, q⟩ := ixL_post q
        obtain ⟨v, ev, rv⟩ := r.atI e
        exact .inl ⟨a, us, i, v, rfl, rfl, SqL.of s, ev, Pv.now w q rv⟩
      | _ => exact False.elim q
    | _ => exact False.elim q
  | _ => cases x <;> exact False.elim q
theorem ee_ix (ha : EL S ρ a ma) (hb : EL S ρ b mb) (hs : PlainIx b) : EE S ρ (.Subscript a b pos) (ma >>= fun x => mb >>= fun y => ixD x y) :=
  ex_bin back_RE ha hb (fun Y ok ta tb h1 h2 => pe_ix (IxR.or ix_list ix_tup) h1 h2 hs) op_ixD
/-! ### slices -/
/-- a slice's part -/
def EO (S : Sta) (ρ : Ev) (e : Option Expr) (m : M (Option Int)) : Prop := ∀ Y, OkY S Y → PO (S.cx Y) e (fun σ H Q => ∃ F g, ER S.pg F ρ σ g H ∧ (m g.st).Post (fun o st' => ∀ g' H', g'.st = st' → Stp S.pg g H g' H' → Q o H') (Px S Y g H))
def intM : D → M (Option Int)
  | .int i => pure (some i)
  | _ => stuck
theorem PO_pre {X : Cx} {e : Option Expr} {t t' : TO} (h : PO X e t) (k : ∀ σ H Q, t' σ H Q → t σ H Q) : PO X e t' :=
  ⟨fun pins s σ H Q I q => h.run pins s σ H Q I (k σ H Q q)⟩
theorem eo_none : EO S ρ none (pure none) := fun Y ok => PO_pre po_none fun σ H Q ⟨F, g, E, q⟩ => (post_pure q) g H rfl (.refl E.wf)
theorem eo_some (ha : EL S ρ a ma) : EO S ρ (some a) (ma >>= intM) := fun Y ok => PO_pre (po_some (ha Y ok)) fun σ H Q ⟨F, g, E, q⟩ => rdX.bind E q fun x v g' H' s E' r q => by
  cases x with
  | int i =>
    obtain rfl := r.int
    exact ⟨i, rfl, (post_pure q) g' H' rfl s⟩
  | _ => exact False.elim q
/-- the items of xs[lo:hi] -/
def cut {α : Type} (xs : List α) (lo hi : Option Int) : List α := (xs.drop (HT.sIx xs.length 0 lo)).take (HT.sIx xs.length xs.length hi - HT.sIx xs.length 0 lo)
def slT (lo hi : Option Int) : D → M D
  | .tup ds => pure (.tup (cut ds lo hi))
  | _ => stuck
def slL (lo hi : Option Int) : D → M D
  | .lst ds => pure (.lst (cut ds lo hi))
  | .rls ds => pure (.lst (cut ds lo hi))
  | _ => stuck
theorem Rps.cut {K : PySem.W.Frag} {G : Hp} {am : List Addr} {vs : List V} {ds : List D} (r : DL.Rps K G am vs ds) (lo hi : Option Int) : DL.Rps K G am (cutV vs lo hi) (DL.cut ds lo hi) := by
  unfold cutV DL.cut
  rw [r.length]
  exact (r.drop _).take _
variable {lo hi : Option Expr} {ml mh : M (Option Int)} {p2 : Pos}
theorem sl_core {r : V → Option Int → Option Int → Hp → VK → Prop} {f : Option Int → Option Int → D → M D} (hR : Back S.pg R) (ha : EL S ρ a ma) (hl : EO S ρ lo ml) (hh : EO S ρ hi mh) (hr : ∀ Y : Dyn, SlR (S.cx Y) r)
    (ho : ∀ (g : Gs) (H : Hp) (x : D) (vx : V) (l h : Option Int) (Q : VK) (E : Nat → Store → Prop), Wf S.pg g H → TopR S.pg g H vx x → (f l h x g.st).Post (Pv S.pg R g H Q) E → r vx l h H Q) :
    EX S ρ R (.Subscript a (.Slice lo hi none p2) pos) (ma >>= fun x => ml >>= fun l => mh >>= fun h => f l h x) := fun Y ok =>
  (pe_slice (hr Y) (ha Y ok) (hl Y ok) (hh Y ok)).pre fun σ H Q ⟨F, g, E, q⟩ => rdX.bind E q fun x v g' H' s E' r q =>
    ⟨F, g', E', (post_bind q).imp (fun l st' q g2 H2 e s2 => by
      subst e
      have E2 := E'.step s2
      exact ⟨F, g2, E2, (post_bind q).imp (fun h st' q g3 H3 e s3 => by
        subst e
        have s5 := (s.trans E.wf s2).trans E.wf s3
        exact ho g3 H3 x v l h Q _ (E2.step s3).wf ((r.step E'.wf s2).step E2.wf s3) (q.imp (fun _ _ q => q.back hR E.wf s5) fun _ _ q => q)) fun _ _ q => q.back E.wf (s.trans E.wf s2)⟩) fun _ _ q => q.back E.wf s⟩
theorem ee_slT (ha : EL S ρ a ma) (hl : EO S ρ lo ml) (hh : EO S ρ hi mh) : EE S ρ (.Subscript a (.Slice lo hi none p2) pos) (ma >>= fun x => ml >>= fun l => mh >>= fun h => slT l h x) :=
  sl_core (r := rSlA S.pg.K) back_RE ha hl hh (fun Y => sl_tupA (X := S.cx Y)) fun g H x vx l h Q E w hx q => by
    cases x with
    | tup ds =>
      have q := post_pure q
      have hx2 := hx.cases fun _ o => o
      obtain ⟨a, us, rfl, s, r⟩ := hx.tup w
      have hlen := r.length
      refine ⟨a, us, rfl, s, fun z => Pv.now w q ?_, fun z l2 hl => ?_⟩
      · have e : cut ds l h = ds := by
          unfold cut
          rw [← hlen, z.1, z.2, List.drop_zero, Nat.sub_zero, hlen, List.take_length]
        rw [e]
        exact hx2
      · have s2 := Stp.new (o := .tup (cutV us l h)) w hl
        exact q _ { g with G := upd g.G l2 (.tup (cutV us l h)) } _ rfl s2 (.tup upd_same ((r.cut l h).mono s2.gle s2.aml))
    | _ => exact False.elim q
theorem en_slL (ha : EL S ρ a ma) (hl : EO S ρ lo ml) (hh : EO S ρ hi mh) : EN S ρ (.Subscript a (.Slice lo hi none p2) pos) (ma >>= fun x => ml >>= fun l => mh >>= fun h => slL l h x) :=
  sl_core (r := rSlL S.pg.K) back_RN ha hl hh (fun Y => sl_list (X := S.cx Y)) fun g H x vx l h Q E w hx q => by
    have core : ∀ (a : Addr) (us : List V) (ds : List D), SqL S.pg.K H a us → S.pg.Rps g us ds → Pv S.pg (RN S.pg) g H Q (.lst (cut ds l h)) g.st → rSlL S.pg.K (.ref a) l h H Q := fun a us ds s r q =>
      ⟨a, us, rfl, s, fun l2 hl => q _ g _ rfl (Stp.laid w hl) ⟨l2, rfl, ⟨_, upd_same, r.cut l h⟩, w.freeG hl, w.freeA hl, hl⟩⟩
    cases x with
    | lst ds =>
      obtain ⟨a, us, rfl, s, r⟩ := hx.lst w
      exact core a us ds (SqL.of s) r (post_pure q)
    | rls ds =>
      obtain ⟨a, us, rfl, s, r⟩ := hx.rls w
      exact core a us ds s r (post_pure q)
    | _ => exact False.elim q
/-! ### calls of built-ins -/
/-- a call with one value -/
def Op1C (p : Pg) (r : List V → Hp → VK → Prop) (f : D → M D) (R : Rel) : Prop := ∀ (g : Gs) (H : Hp) (x : D) (vx : V) (Q : VK) (E : Nat → Store → Prop), Wf p g H → TopR p g H vx x → (f x g.st).Post (Pv p R g H Q) E → r [vx] H Q
def Op2C (p : Pg) (r : List V → Hp → VK → Prop) (f : D → D → M D) (R : Rel) : Prop := ∀ (g : Gs) (H : Hp) (x y : D) (vx vy : V) (Q : VK) (E : Nat → Store → Prop), Wf p g H → TopR p g H vx x → TopR p g H vy y → (f x y g.st).Post (Pv p R g H Q) E → r [vx, vy] H Q
/-- a built-in, found by its name -/
structure Blt (S : Sta) (x : Str) (u : Value) : Prop where
  gl : S.sc.names.lookup x = some .globalImplicit
  mg : S.pg.mg x = none
  boot : bootBuiltins x = some u
  n1 : x ≠ "__name__"
  n2 : (x == ("__debug__" : Str)) = false
theorem Blt.mk' {x : Str} {u : Value} (gl : S.sc.names.lookup x = some .globalImplicit) (mg : S.pg.mg x = none) (boot : bootBuiltins x = some u) (n1 : x ≠ "__name__" := by decide) (n2 : (x == ("__debug__" : Str)) = false := by decide) : Blt S x u := ⟨gl, mg, boot, n1, n2⟩
def NoStar (es : List Expr) : Prop := ∀ env : Env, starEach es env = es.map fun e => (false, eval e env)
variable {x : Str} {bid T : String} {p : Pos}
theorem ex_b1 {r : List V → Hp → VK → Prop} {f : D → M D} (hR : Back S.pg R) (hc : ∀ Y : Dyn, OkY S Y → CallR (S.cx Y) (.builtin bid) r) (ho : Op1C S.pg r f R) (B : Blt S x (.builtin bid)) (ha : EL S ρ a ma) (hs : NoStar [a] := by intro _; rfl) :
    EX S ρ R (.Call (.Name x p) [a] [] pos) (ma >>= f) := fun Y ok =>
  (pe_callB (X := S.cx Y) (hc Y ok) B.gl B.mg B.boot (pa_cons (ha Y ok) pa_nil (hs _)) B.n1 B.n2 (hs _) rfl).pre fun σ H Q ⟨F, g, E, q⟩ =>
    rdX.bind E q fun x v g' H' s E' r q => ho g' H' x v Q _ E'.wf r (q.imp (fun _ _ q => q.back hR E.wf s) fun _ _ q => q)
theorem ex_t1 {r : List V → Hp → VK → Prop} {f : D → M D} (hR : Back S.pg R) (hc : ∀ Y : Dyn, OkY S Y → CallR (S.cx Y) (.type T) r) (ho : Op1C S.pg r f R) (B : Blt S x (.type T)) (ha : EL S ρ a ma) (hs : NoStar [a] := by intro _; rfl) :
    EX S ρ R (.Call (.Name x p) [a] [] pos) (ma >>= f) := fun Y ok =>
  (pe_callTy (X := S.cx Y) (hc Y ok) B.gl B.mg B.boot (pa_cons (ha Y ok) pa_nil (hs _)) B.n1 B.n2 (hs _) rfl).pre fun σ H Q ⟨F, g, E, q⟩ =>
    rdX.bind E q fun x v g' H' s E' r q => ho g' H' x v Q _ E'.wf r (q.imp (fun _ _ q => q.back hR E.wf s) fun _ _ q => q)
theorem ex_b2 {r : List V → Hp → VK → Prop} {f : D → D → M D} (hR : Back S.pg R) (hc : ∀ Y : Dyn, OkY S Y → CallR (S.cx Y) (.builtin bid) r) (ho : Op2C S.pg r f R) (B : Blt S x (.builtin bid)) (ha : EL S ρ a ma) (hb : EL S ρ b mb)
    (hs : NoStar [a, b] := by intro _; rfl) (hs2 : NoStar [b] := by intro _; rfl) : EX S ρ R (.Call (.Name x p) [a, b] [] pos) (ma >>= fun x => mb >>= fun y => f x y) := fun Y ok =>
  (pe_callB (X := S.cx Y) (hc Y ok) B.gl B.mg B.boot (pa_cons (ha Y ok) (pa_cons (hb Y ok) pa_nil (hs2 _)) (by rw [hs2 _]; exact hs _)) B.n1 B.n2 (by rw [hs2 _]; exact hs _) (by rw [hs2 _]; rfl)).pre fun σ H Q ⟨F, g, E, q⟩ =>
    rdX.bind E q fun x v g' H' s E' r q => rdX.bind E' (q.imp (fun _ _ q => q) fun _ _ q => q.back E.wf s) fun y u g2 H2 s2 E2 r2 q =>
      ho g2 H2 x y v u Q _ E2.wf (r.step E'.wf s2) r2 (q.imp (fun _ _ q => q.back hR E.wf (s.trans E.wf s2)) fun _ _ q => q)
/-! len -/
def lenD : D → M D
  | .tup ds => pure (.int ds.length)
  | .rtp ds => pure (.int ds.length)
  | .lst ds => pure (.int ds.length)
  | .rls ds => pure (.int ds.length)
  | .ref k => getC k >>= fun c => match c with
    | .lst ds => pure (.int ds.length)
    | _ => stuck
  | _ => stuck
theorem op_lenD {p : Pg} : Op1C p (fun xs H Q => ∃ q ys, xs = [.ref q] ∧ (SqL p.K H q ys ∨ SqT p.K H q ys) ∧ Q (.int ys.length) H) lenD (RE p) := by
  intro g H x vx Q E w hx q
  have fin : ∀ {us : List V} {ds : List D}, p.Rps g us ds → Pv p (RE p) g H Q (.int ds.length) g.st → Q (.int us.length) H := fun {us ds} r q => Pv.now w q (by rw [← r.length]; exact .int _)
  cases x with
  | tup ds =>
    obtain ⟨a, us, rfl, s, r⟩ := hx.tup w
    exact ⟨a, us, rfl, .inr s, fin r (post_pure q)⟩
  | rtp ds =>
    obtain ⟨a, us, rfl, s, r⟩ := hx.rtp w
    exact ⟨a, us, rfl, .inr s, fin r (post_pure q)⟩
  | lst ds =>
    obtain ⟨a, us, rfl, s, r⟩ := hx.lst w
    exact ⟨a, us, rfl, .inl (SqL.of s), fin r (post_pure q)⟩
  | rls ds =>
    obtain ⟨a, us, rfl, s, r⟩ := hx.rls w
    exact ⟨a, us, rfl, .inl s, fin r (post_pure q)⟩
  | ref k =>
    obtain ⟨a, rfl, e⟩ := hx.ref
    obtain ⟨c, e2, r⟩ := w.at_ref e
    have q : ((getC k >>= fun c => match c with
      | .lst ds => pure (.int ds.length)
      | _ => stuck) g.st).Post (Pv p (RE p) g H Q) E := q
    rw [bind_run] at q
    unfold getC at q
    rw [e2] at q
    cases c with
    | lst ds =>
      obtain ⟨us, s, r⟩ := r
      exact ⟨a, us, rfl, .inl (SqL.of s), fin r (post_pure q)⟩
    | _ => exact False.elim q
  | _ => exact False.elim q
theorem ee_len (B : Blt S "len" (.builtin "len")) (ha : EL S ρ a ma) (hs : NoStar [a] := by intro _; rfl) : EE S ρ (.Call (.Name "len" p) [a] [] pos) (ma >>= lenD) :=
  ex_b1 back_RE (fun Y _ => call_len_seq) op_lenD B ha hs
/-! sum, any, all, max, min, sorted of lists of ints, of truths -/
def sumD : D → M D
  | .lst ds => match dints ds with
    | some ns => pure (.int ns.sum)
    | none => stuck
  | _ => stuck
def anyD : D → M D
  | .lst ds => match dbools ds with
    | some bs => pure (.bl (bs.any id))
    | none => stuck
  | _ => stuck
def allD : D → M D
  | .lst ds => match dbools ds with
    | some bs => pure (.bl (bs.all id))
    | none => stuck
  | _ => stuck
def maxI : List Int → Int
  | [] => 0
  | [x] => x
  | x :: r => max x (maxI r)
def minI : List Int → Int
  | [] => 0
  | [x] => x
  | x :: r => min x (minI r)
def maxD : D → M D
  | .lst ds => match dints ds with
    | some ns => if ns.isEmpty then stuck else pure (.int (maxI ns))
    | none => stuck
  | _ => stuck
def minD : D → M D
  | .lst ds => match dints ds with
    | some ns => if ns.isEmpty then stuck else pure (.int (minI ns))
    | none => stuck
  | _ => stuck
theorem maxI_cons (x y : Int) (r : List Int) : maxI (x :: y :: r) = max x (maxI (y :: r)) := rfl
theorem minI_cons (x y : Int) (r : List Int) : minI (x :: y :: r) = min x (minI (y :: r)) := rfl
theorem maxI_mem : ∀ {ns : List Int}, ns ≠ [] → maxI ns ∈ ns
  | [], h => absurd rfl h
  | [x], _ => List.mem_cons_self
  | x :: y :: r, _ => by
    have ih := maxI_mem (ns := y :: r) (List.cons_ne_nil _ _)
    rw [maxI_cons]
    by_cases h : x ≤ maxI (y :: r)
    · rw [Int.max_eq_right h]; exact List.mem_cons_of_mem _ ih
    · rw [Int.max_eq_left (by omega)]; exact List.mem_cons_self
theorem maxI_ge : ∀ {ns : List Int} {a : Int}, a ∈ ns → a ≤ maxI ns
  | [x], a, h => by rw [List.mem_singleton.mp h]; exact Int.le_refl _
  | x :: y :: r, a, h => by
    rw [maxI_cons]
    rcases List.mem_cons.mp h with e | h
    · rw [e]; omega
    · have := maxI_ge h; omega
theorem minI_mem : ∀ {ns : List Int}, ns ≠ [] → minI ns ∈ ns
  | [], h => absurd rfl h
  | [x], _ => List.mem_cons_self
  | x :: y :: r, _ => by
    have ih := minI_mem (ns := y :: r) (List.cons_ne_nil _ _)
    rw [minI_cons]
    by_cases h : x ≤ minI (y :: r)
    · rw [Int.min_eq_left h]; exact List.mem_cons_self
    · rw [Int.min_eq_right (by omega)]; exact List.mem_cons_of_mem _ ih
theorem minI_le : ∀ {ns : List Int} {a : Int}, a ∈ ns → minI ns ≤ a
  | [x], a, h => by rw [List.mem_singleton.mp h]; exact Int.le_refl _
  | x :: y :: r, a, h => by
    rw [minI_cons]
    rcases List.mem_cons.mp h with e | h
    · rw [e]; omega
    · have := minI_le h; omega
/-- a list of ints, read -/
theorem lst_ints {p : Pg} {g : Gs} {H : Hp} {v : V} {ds : List D} {ns : List Int} (w : Wf p g H) (hx : TopR p g H v (.lst ds)) (e : dints ds = some ns) : ∃ a, v = .ref a ∧ SqL p.K H a (ns.map V.int) ∧ H a = some (.lst (ns.map V.int)) := by
  obtain ⟨a, us, rfl, s, r⟩ := hx.lst w
  rw [ints_eq e] at r
  have := r.toInts
  subst this
  exact ⟨a, rfl, SqL.of s, s⟩
theorem lst_bools {p : Pg} {g : Gs} {H : Hp} {v : V} {ds : List D} {ns : List Bool} (w : Wf p g H) (hx : TopR p g H v (.lst ds)) (e : dbools ds = some ns) : ∃ a, v = .ref a ∧ SqL p.K H a (ns.map V.bl) := by
  obtain ⟨a, us, rfl, s, r⟩ := hx.lst w
  rw [bools_eq e] at r
  have := r.toBools
  subst this
  exact ⟨a, rfl, SqL.of s⟩
theorem op_sumD {p : Pg} : Op1C p (rSum p.K) sumD (RE p) := by
  intro g H x vx Q E w hx q
  cases x with
  | lst ds =>
    unfold sumD at q
    cases e : dints ds with
    | none => simp only [e] at q; exact False.elim q
    | some ns =>
      simp only [e] at q
      obtain ⟨a, rfl, s, _⟩ := lst_ints w hx e
      exact ⟨a, ns, rfl, s, Pv.now w (post_pure q) (.int _)⟩
  | _ => exact False.elim q
theorem op_anyD {p : Pg} : Op1C p (rAny p.K) anyD (RE p) := by
  intro g H x vx Q E w hx q
  cases x with
  | lst ds =>
    unfold anyD at q
    cases e : dbools ds with
    | none => simp only [e] at q; exact False.elim q
    | some ns =>
      simp only [e] at q
      obtain ⟨a, rfl, s⟩ := lst_bools w hx e
      exact ⟨a, ns, rfl, s, Pv.now w (post_pure q) (.bl _)⟩
  | _ => exact False.elim q
theorem op_allD {p : Pg} : Op1C p (rAll p.K) allD (RE p) := by
  intro g H x vx Q E w hx q
  cases x with
  | lst ds =>
    unfold allD at q
    cases e : dbools ds with
    | none => simp only [e] at q; exact False.elim q
    | some ns =>
      simp only [e] at q
      obtain ⟨a, rfl, s⟩ := lst_bools w hx e
      exact ⟨a, ns, rfl, s, Pv.now w (post_pure q) (.bl _)⟩
  | _ => exact False.elim q
theorem op_maxD {p : Pg} : Op1C p (rMax p.K) maxD (RE p) := by
  intro g H x vx Q E w hx q
  cases x with
  | lst ds =>
    unfold maxD at q
    cases e : dints ds with
    | none => simp only [e] at q; exact False.elim q
    | some ns =>
      simp only [e] at q
      cases ns with
      | nil => exact False.elim q
      | cons n r =>
        obtain ⟨a, rfl, s, _⟩ := lst_ints w hx e
        refine ⟨a, n :: r, rfl, s, Nat.succ_pos _, fun m hm hle => ?_⟩
        have e2 : m = maxI (n :: r) := Int.le_antisymm (maxI_ge hm) (hle _ (maxI_mem (List.cons_ne_nil _ _)))
        rw [e2]
        exact Pv.now w (post_pure q) (.int _)
  | _ => exact False.elim q
theorem op_minD {p : Pg} : Op1C p (rMin p.K) minD (RE p) := by
  intro g H x vx Q E w hx q
  cases x with
  | lst ds =>
    unfold minD at q
    cases e : dints ds with
    | none => simp only [e] at q; exact False.elim q
    | some ns =>
      simp only [e] at q
      cases ns with
      | nil => exact False.elim q
      | cons n r =>
        obtain ⟨a, rfl, s, _⟩ := lst_ints w hx e
        refine ⟨a, n :: r, rfl, s, Nat.succ_pos _, fun m hm hle => ?_⟩
        have e2 : m = minI (n :: r) := Int.le_antisymm (hle _ (minI_mem (List.cons_ne_nil _ _))) (minI_le hm)
        rw [e2]
        exact Pv.now w (post_pure q) (.int _)
  | _ => exact False.elim q
theorem ee_sum (B : Blt S "sum" (.builtin "sum")) (ha : EL S ρ a ma) (hs : NoStar [a] := by intro _; rfl) : EE S ρ (.Call (.Name "sum" p) [a] [] pos) (ma >>= sumD) := ex_b1 back_RE (fun Y _ => cr_sum rfl) op_sumD B ha hs
theorem ee_any (B : Blt S "any" (.builtin "any")) (ha : EL S ρ a ma) (hs : NoStar [a] := by intro _; rfl) : EE S ρ (.Call (.Name "any" p) [a] [] pos) (ma >>= anyD) := ex_b1 back_RE (fun Y _ => cr_any rfl) op_anyD B ha hs
theorem ee_all (B : Blt S "all" (.builtin "all")) (ha : EL S ρ a ma) (hs : NoStar [a] := by intro _; rfl) : EE S ρ (.Call (.Name "all" p) [a] [] pos) (ma >>= allD) := ex_b1 back_RE (fun Y _ => cr_all rfl) op_allD B ha hs
theorem ee_max (B : Blt S "max" (.builtin "max")) (ha : EL S ρ a ma) (hs : NoStar [a] := by intro _; rfl) : EE S ρ (.Call (.Name "max" p) [a] [] pos) (ma >>= maxD) := ex_b1 back_RE (fun Y _ => cr_max rfl) op_maxD B ha hs
theorem ee_min (B : Blt S "min" (.builtin "min")) (ha : EL S ρ a ma) (hs : NoStar [a] := by intro _; rfl) : EE S ρ (.Call (.Name "min" p) [a] [] pos) (ma >>= minD) := ex_b1 back_RE (fun Y _ => cr_min rfl) op_minD B ha hs
def max2D := i2 fun i j => if j > i then j else i
def min2D := i2 fun i j => if j < i then j else i
theorem op_i2C {h : Int → Int → Int} {r : List V → Hp → VK → Prop} {p : Pg} (hr : ∀ (i j : Int) (H : Hp) (Q : VK), Q (.int (h i j)) H → r [.int i, .int j] H Q) : Op2C p r (i2 h) (RE p) := by
  intro g H x y vx vy Q E w hx hy q
  cases x with
  | int i =>
    cases y with
    | int j =>
      obtain rfl := hx.int
      obtain rfl := hy.int
      exact hr i j H Q (Pv.now w (post_pure q) (.int _))
    | _ => exact False.elim q
  | _ => exact False.elim q
theorem ee_max2 (B : Blt S "max" (.builtin "max")) (ha : EL S ρ a ma) (hb : EL S ρ b mb) (hs : NoStar [a, b] := by intro _; rfl) (hs2 : NoStar [b] := by intro _; rfl) : EE S ρ (.Call (.Name "max" p) [a, b] [] pos) (ma >>= fun x => mb >>= fun y => max2D x y) :=
  ex_b2 back_RE (fun Y _ => call_max2 rfl) (op_i2C fun i j H Q q => ⟨i, j, rfl, q⟩) B ha hb hs hs2
theorem ee_min2 (B : Blt S "min" (.builtin "min")) (ha : EL S ρ a ma) (hb : EL S ρ b mb) (hs : NoStar [a, b] := by intro _; rfl) (hs2 : NoStar [b] := by intro _; rfl) : EE S ρ (.Call (.Name "min" p) [a, b] [] pos) (ma >>= fun x => mb >>= fun y => min2D x y) :=
  ex_b2 back_RE (fun Y _ => call_min2 rfl) (op_i2C fun i j H Q q => ⟨i, j, rfl, q⟩) B ha hb hs hs2
/-! int, abs -/
def intD : D → M D
  | .int i => pure (.int i)
  | .bl k => pure (.int (if k then 1 else 0))
  | _ => stuck
def absD : D → M D
  | .int i => pure (.int (if i < 0 then -i else i))
  | _ => stuck
theorem ee_intc (B : Blt S "int" (.type "int")) (ha : EL S ρ a ma) (hs : NoStar [a] := by intro _; rfl) : EE S ρ (.Call (.Name "int" p) [a] [] pos) (ma >>= intD) := ex_t1 back_RE (fun Y _ => call_int1) (fun g H x vx Q E w hx q => by
  cases x with
  | int i => obtain rfl := hx.int; exact .inl ⟨i, rfl, Pv.now w (post_pure q) (.int _)⟩
  | bl k => obtain rfl := hx.bl; exact .inr ⟨k, rfl, Pv.now w (post_pure q) (.int _)⟩
  | _ => exact False.elim q) B ha hs
theorem ee_abs (B : Blt S "abs" (.builtin "abs")) (ha : EL S ρ a ma) (hs : NoStar [a] := by intro _; rfl) : EE S ρ (.Call (.Name "abs" p) [a] [] pos) (ma >>= absD) := ex_b1 back_RE (fun Y _ => call_abs) (fun g H x vx Q E w hx q => by
  cases x with
  | int i => obtain rfl := hx.int; exact ⟨i, rfl, Pv.now w (post_pure q) (.int _)⟩
  | _ => exact False.elim q) B ha hs
/-! tuple, list -/
def tupleD : D → M D
  | .tup ds => pure (.tup ds)
  | .lst ds => pure (.tup ds)
  | .rls ds => pure (.tup ds)
  | .ref k => getC k >>= fun c => match c with
    | .lst ds => pure (.tup ds)
    | _ => stuck
  | _ => stuck
def listD : D → M D
  | .tup ds => pure (.lst ds)
  | .rtp ds => pure (.lst ds)
  | .lst ds => pure (.lst ds)
  | .rls ds => pure (.lst ds)
  | _ => stuck
theorem op_tupleD {p : Pg} : Op1C p (fun xs H Q => ∃ q ys, xs = [.ref q] ∧ ((SqL p.K H q ys ∧ ∀ l, H l = none → Q (.ref l) (upd H l (.tup ys))) ∨ (SqT p.K H q ys ∧ Q (.ref q) H))) tupleD (RE p) := by
  intro g H x vx Q E w hx q
  have fin : ∀ {us : List V} {ds : List D}, p.Rps g us ds → Pv p (RE p) g H Q (.tup ds) g.st → ∀ l, H l = none → Q (.ref l) (upd H l (.tup us)) := fun {us ds} r q l hl => by
    have s2 := Stp.new (o := .tup us) w hl
    exact q _ { g with G := upd g.G l (.tup us) } _ rfl s2 (.tup upd_same (r.mono s2.gle s2.aml))
  cases x with
  | tup ds =>
    have hx2 := hx.cases fun _ o => o
    obtain ⟨a, us, rfl, s, r⟩ := hx.tup w
    exact ⟨a, us, rfl, .inr ⟨s, Pv.now w (post_pure q) hx2⟩⟩
  | lst ds =>
    obtain ⟨a, us, rfl, s, r⟩ := hx.lst w
    exact ⟨a, us, rfl, .inl ⟨SqL.of s, fin r (post_pure q)⟩⟩
  | rls ds =>
    obtain ⟨a, us, rfl, s, r⟩ := hx.rls w
    exact ⟨a, us, rfl, .inl ⟨s, fin r (post_pure q)⟩⟩
  | ref k =>
    obtain ⟨a, rfl, e⟩ := hx.ref
    obtain ⟨c, e2, r⟩ := w.at_ref e
    have q : ((getC k >>= fun c => match c with
      | .lst ds => pure (.tup ds)
      | _ => stuck) g.st).Post (Pv p (RE p) g H Q) E := q
    rw [bind_run] at q
    unfold getC at q
    rw [e2] at q
    cases c with
    | lst ds =>
      obtain ⟨us, s, r⟩ := r
      exact ⟨a, us, rfl, .inl ⟨SqL.of s, fin r (post_pure q)⟩⟩
    | _ => exact False.elim q
  | _ => exact False.elim q
theorem op_listD {p : Pg} : Op1C p (fun xs H Q => ∃ q ys, xs = [.ref q] ∧ (SqL p.K H q ys ∨ SqT p.K H q ys) ∧ ∀ l, H l = none → Q (.ref l) (upd H l (.lst ys))) listD (RN p) := by
  intro g H x vx Q E w hx q
  have fin : ∀ {us : List V} {ds : List D}, p.Rps g us ds → Pv p (RN p) g H Q (.lst ds) g.st → ∀ l, H l = none → Q (.ref l) (upd H l (.lst us)) := fun {us ds} r q l hl =>
    q _ g _ rfl (Stp.laid w hl) ⟨l, rfl, ⟨_, upd_same, r⟩, w.freeG hl, w.freeA hl, hl⟩
  cases x with
  | tup ds =>
    obtain ⟨a, us, rfl, s, r⟩ := hx.tup w
    exact ⟨a, us, rfl, .inr s, fin r (post_pure q)⟩
  | rtp ds =>
    obtain ⟨a, us, rfl, s, r⟩ := hx.rtp w
    exact ⟨a, us, rfl, .inr s, fin r (post_pure q)⟩
  | lst ds =>
    obtain ⟨a, us, rfl, s, r⟩ := hx.lst w
    exact ⟨a, us, rfl, .inl (SqL.of s), fin r (post_pure q)⟩
  | rls ds =>
    obtain ⟨a, us, rfl, s, r⟩ := hx.rls w
    exact ⟨a, us, rfl, .inl s, fin r (post_pure q)⟩
  | _ => exact False.elim q
theorem ee_tuplec (B : Blt S "tuple" (.type "tuple")) (ha : EL S ρ a ma) (hs : NoStar [a] := by intro _; rfl) : EE S ρ (.Call (.Name "tuple" p) [a] [] pos) (ma >>= tupleD) := ex_t1 back_RE (fun Y _ => call_tuple_of) op_tupleD B ha hs
theorem en_listc (B : Blt S "list" (.type "list")) (ha : EL S ρ a ma) (hs : NoStar [a] := by intro _; rfl) : EN S ρ (.Call (.Name "list" p) [a] [] pos) (ma >>= listD) := ex_t1 back_RN (fun Y _ => call_list_of) op_listD B ha hs
/-! sorted of ints -/
def ins (x : Int) : List Int → List Int
  | [] => [x]
  | y :: r => if x ≤ y then x :: y :: r else y :: ins x r
def isort : List Int → List Int
  | [] => []
  | x :: r => ins x (isort r)
theorem ins_perm (x : Int) : ∀ l : List Int, (ins x l).Perm (x :: l)
  | [] => .refl _
  | y :: r => by
    unfold ins
    by_cases h : x ≤ y
    · rw [if_pos h]
    · rw [if_neg h]
      exact ((ins_perm x r).cons y).trans (.swap x y r)
theorem isort_perm : ∀ l : List Int, (isort l).Perm l
  | [] => .refl _
  | x :: r => (ins_perm x (isort r)).trans ((isort_perm r).cons x)
theorem ins_sorted (x : Int) : ∀ {l : List Int}, l.Pairwise (· ≤ ·) → (ins x l).Pairwise (· ≤ ·)
  | [], _ => List.pairwise_singleton _ _
  | y :: r, h => by
    unfold ins
    by_cases hxy : x ≤ y
    · rw [if_pos hxy]
      refine List.Pairwise.cons (fun z hz => ?_) h
      rcases List.mem_cons.mp hz with rfl | hz
      · exact hxy
      · exact Int.le_trans hxy ((List.pairwise_cons.mp h).1 z hz)
    · rw [if_neg hxy]
      refine List.Pairwise.cons (fun z hz => ?_) (ins_sorted x (List.pairwise_cons.mp h).2)
      rcases List.mem_cons.mp ((ins_perm x r).mem_iff.mp hz) with rfl | hz
      · omega
      · exact (List.pairwise_cons.mp h).1 z hz
theorem isort_sorted : ∀ l : List Int, (isort l).Pairwise (· ≤ ·)
  | [] => .nil
  | x :: r => ins_sorted x (isort_sorted r)
theorem sorted_uniq : ∀ {a b : List Int}, a.Perm b → a.Pairwise (· ≤ ·) → b.Pairwise (· ≤ ·) → a = b
  | [], b, p, _, _ => by rw [List.nil_perm.mp p]
  | x :: r, [], p, _, _ => absurd (List.perm_nil.mp p) (List.cons_ne_nil _ _)
  | x :: r, y :: t, p, ha, hb => by
    have hx : x ≤ y := by
      rcases List.mem_cons.mp (p.mem_iff.mpr (List.mem_cons_self : y ∈ y :: t)) with h | h
      · omega
      · exact (List.pairwise_cons.mp ha).1 y h
    have hy : y ≤ x := by
      rcases List.mem_cons.mp (p.mem_iff.mp (List.mem_cons_self : x ∈ x :: r)) with h | h
      · omega
      · exact (List.pairwise_cons.mp hb).1 x h
    have e : x = y := Int.le_antisymm hx hy
    subst e
    rw [sorted_uniq (List.Perm.cons_inv p) (List.pairwise_cons.mp ha).2 (List.pairwise_cons.mp hb).2]
def sortI : D → M D
  | .lst ds => match dints ds with
    | some ns => pure (.lst ((isort ns).map D.int))
    | none => stuck
  | .tup ds => match dints ds with
    | some ns => pure (.lst ((isort ns).map D.int))
    | none => stuck
  | _ => stuck
def sortedRevD : D → M D
  | .lst ds => match dints ds with
    | some ns => pure (.lst ((isort ns).reverse.map D.int))
    | none => stuck
  | _ => stuck
theorem op_sortI {p : Pg} : Op1C p (rSortA p.K) sortI (RN p) := by
  intro g H x vx Q E w hx q
  cases x with
  | lst ds =>
    unfold sortI at q
    cases e : dints ds with
    | none => simp only [e] at q; exact False.elim q
    | some ns =>
      simp only [e] at q
      obtain ⟨a, rfl, s, _⟩ := lst_ints w hx e
      refine ⟨a, ns, rfl, .inl s, fun ns' l hp ho hl => ?_⟩
      have e2 : ns' = isort ns := sorted_uniq (hp.trans (isort_perm ns).symm) ho (isort_sorted ns)
      rw [e2]
      exact (post_pure q) _ g _ rfl (Stp.laid w hl) ⟨l, rfl, ⟨_, upd_same, .ofInts _⟩, w.freeG hl, w.freeA hl, hl⟩
  | tup ds =>
    unfold sortI at q
    cases e : dints ds with
    | none => simp only [e] at q; exact False.elim q
    | some ns =>
      simp only [e] at q
      obtain ⟨a, us, rfl, s, r⟩ := hx.tup w
      rw [ints_eq e] at r
      have := r.toInts
      subst this
      refine ⟨a, ns, rfl, .inr s, fun ns' l hp ho hl => ?_⟩
      have e2 : ns' = isort ns := sorted_uniq (hp.trans (isort_perm ns).symm) ho (isort_sorted ns)
      rw [e2]
      exact (post_pure q) _ g _ rfl (Stp.laid w hl) ⟨l, rfl, ⟨_, upd_same, .ofInts _⟩, w.freeG hl, w.freeA hl, hl⟩
  | _ => exact False.elim q
theorem en_sortI (B : Blt S "sorted" (.builtin "sorted")) (ha : EL S ρ a ma) (hs : NoStar [a] := by intro _; rfl) : EN S ρ (.Call (.Name "sorted" p) [a] [] pos) (ma >>= sortI) := ex_b1 back_RN (fun Y _ => cr_sortA) op_sortI B ha hs
theorem en_sortedRev {kpos : Pos} {j : Nat} {cpos : Pos} (B : Blt S "sorted" (.builtin "sorted")) (ha : EL S ρ a ma) (hs : NoStar [a] := by intro _; rfl)
    (hk1 : ∀ env : Env, ((backToKw pos (keywordEach [⟨some "reverse", .Constant (.bool true) j cpos, kpos⟩] env)).all (·.1.isSome)) = true := by intro _; rfl) :
    EN S ρ (.Call (.Name "sorted" p) [a] [⟨some "reverse", .Constant (.bool true) j cpos, kpos⟩] pos) (ma >>= sortedRevD) := fun Y ok =>
  (pe_callBK (X := S.cx Y) (cr_sortedRev (b := true)) B.gl B.mg B.boot (pa_cons (ha Y ok) pa_nil (hs _)) (pk_cons pe_bl pk_nil) B.n1 B.n2 (he := by rw [hs _]; rfl) (hpl := by rw [hs _]; rfl)).pre fun σ H Q ⟨F, g, E, q⟩ =>
    rdX.bind E q fun x v g' H' s E' r q => by
      cases x with
      | lst ds =>
        unfold sortedRevD at q
        cases e : dints ds with
        | none => simp only [e] at q; exact False.elim q
        | some ns =>
          simp only [e] at q
          obtain ⟨a, rfl, s3, _⟩ := lst_ints E'.wf r e
          refine ⟨a, ns, rfl, rfl, s3, fun ns' l hp ho hl => ?_⟩
          have ho : ns'.Pairwise (· ≥ ·) := ho
          have e2 : ns'.reverse = isort ns := sorted_uniq ((List.reverse_perm _).trans (hp.trans (isort_perm ns).symm)) (List.pairwise_reverse.mpr ho) (isort_sorted ns)
          have e3 : ns' = (isort ns).reverse := by rw [← e2, List.reverse_reverse]
          rw [e3]
          exact (post_pure q) _ g' _ rfl (s.trans E.wf (Stp.laid E'.wf hl)) ⟨l, rfl, ⟨_, upd_same, .ofInts _⟩, E'.wf.freeG hl, E'.wf.freeA hl, s.none_of E.wf hl⟩
      | _ => exact False.elim q
end
end DL
namespace DL
open PySem PySem.Spec PyProof.Rows L2
/-! ### what is walked -/
/-- later: what was frozen is there -/
structure Ltr (p : Pg) (g1 g : Gs) : Prop where
  gle : ∀ a o, g1.G a = some o → g.G a = some o
  aml : g1.am <+: g.am
theorem Stp.ltr {p : Pg} {g g' : Gs} {H H' : Hp} (s : Stp p g H g' H') : Ltr p g g' := ⟨s.gle, s.aml⟩
theorem Ltr.refl {p : Pg} (g : Gs) : Ltr p g g := ⟨fun _ _ e => e, List.prefix_refl _⟩
theorem Ltr.trans {p : Pg} {g g' g'' : Gs} (a : Ltr p g g') (b : Ltr p g' g'') : Ltr p g g'' := ⟨fun x o e => b.gle x o (a.gle x o e), a.aml.trans b.aml⟩
abbrev Tm := Gs → Hp → Prop
structure Wk (p : Pg) (T : Tm) (J : It) (ds : List D) : Prop where
  goes : ∀ i g H, i < ds.length → Wf p g H → T g H → J.go i H
  stops : ∀ g H, Wf p g H → T g H → J.stop ds.length H
  yields : ∀ i g H x H', i < ds.length → Wf p g H → T g H → J.yld i H x H' → ∃ g' d, g'.st = g.st ∧ Stp p g H g' H' ∧ ds[i]? = some d ∧ p.Rp g' x d
def rdI (S : Sta) (Y : Dyn) (ρ : Ev) (T : Gs → Hp → Tm) (m : M (List D)) : TI := fun σ H R => ∃ F g, ER S.pg F ρ σ g H ∧
  (m g.st).Post (fun ds st' => ∀ J g' H', g'.st = st' → Stp S.pg g H g' H' → Wk S.pg (T g' H') J ds → R J H') (Px S Y g H)
def EI (S : Sta) (ρ : Ev) (T : Gs → Hp → Tm) (tg it : Expr) (m : M (List D)) : Prop := ∀ Y, OkY S Y → PI (S.cx Y) tg it (rdI S Y ρ T m)
/-- as long as nothing is written -/
abbrev TS' (p : Pg) : Gs → Hp → Tm := fun g H g2 H2 => Stp p g H g2 H2
/-- as long as nothing frozen is written: always -/
abbrev TL (p : Pg) : Gs → Hp → Tm := fun g _ g2 _ => Ltr p g g2
theorem _root_.L2.PI.pre {X : Cx} {tg it : Expr} {t t' : TI} (h : PI X tg it t) (k : ∀ σ H R, t' σ H R → t σ H R) : PI X tg it t' :=
  ⟨fun pins s σ H R I q => h.run pins s σ H R I (k σ H R q)⟩
theorem _root_.L2.PI.or {X : Cx} {tg it : Expr} {t t' : TI} (h : PI X tg it t) (h' : PI X tg it t') : PI X tg it (fun σ H R => t σ H R ∨ t' σ H R) :=
  ⟨fun pins s σ H R I q => q.elim (h.run pins s σ H R I) (h'.run pins s σ H R I)⟩
theorem Wk.weak {p : Pg} {T T' : Tm} {J : It} {ds : List D} (w : Wk p T J ds) (h : ∀ g H, T' g H → T g H) : Wk p T' J ds :=
  ⟨fun i g H a b c => w.goes i g H a b (h g H c), fun g H b c => w.stops g H b (h g H c), fun i g H x H' a b c d => w.yields i g H x H' a b (h g H c) d⟩
section
variable {S : Sta} {ρ : Ev} {a b c tg it e : Expr} {ma mb mc m : M D} {mi : M (List D)} {pos p : Pos}
/-- a walk that always goes goes as long as nothing is written -/
theorem ei_weak (h : EI S ρ (TL S.pg) tg it mi) : EI S ρ (TS' S.pg) tg it mi := fun Y ok => (h Y ok).pre fun σ H R ⟨F, g, E, q⟩ =>
  ⟨F, g, E, q.imp (fun ds st' q J g' H' e s w => q J g' H' e s (w.weak fun _ _ h => h.ltr)) fun _ _ q => q⟩
/-- a sequence that stands as long as T -/
def SqK (p : Pg) (T : Tm) (v : V) : D → Prop
  | .tup es => ∃ a us, v = .ref a ∧ ∀ g H, Wf p g H → T g H → SqT p.K H a us ∧ p.Rps g us es
  | .lst es => ∃ a us, v = .ref a ∧ ∀ g H, Wf p g H → T g H → SqL p.K H a us ∧ p.Rps g us es
  | .rls es => ∃ a us, v = .ref a ∧ ∀ g H, Wf p g H → T g H → SqL p.K H a us ∧ p.Rps g us es
  | .rtp es => ∃ a us, v = .ref a ∧ ∀ g H, Wf p g H → T g H → SqT p.K H a us ∧ p.Rps g us es
  | _ => True
theorem sq_strong {p : Pg} {g : Gs} {H : Hp} {v : V} {d : D} (r : p.Rp g v d) : SqK p (TL p g H) v d := by
  cases r with
  | tup s r => exact ⟨_, _, rfl, fun g2 H2 w l => ⟨.inl (.inl (w.sub _ _ (l.gle _ _ s))), r.mono l.gle l.aml⟩⟩
  | rtp s r => exact ⟨_, _, rfl, fun g2 H2 w l => ⟨sqT_mono (fun x o h => w.sub x o (l.gle x o h)) s, r.mono l.gle l.aml⟩⟩
  | lst s r => exact ⟨_, _, rfl, fun g2 H2 w l => ⟨.inl (.inl (w.sub _ _ (l.gle _ _ s))), r.mono l.gle l.aml⟩⟩
  | rls s r => exact ⟨_, _, rfl, fun g2 H2 w l => ⟨sqL_mono (fun x o h => w.sub x o (l.gle x o h)) s, r.mono l.gle l.aml⟩⟩
  | _ => exact True.intro
theorem SqK.weak {p : Pg} {T T' : Tm} {v : V} {d : D} (h : SqK p T v d) (k : ∀ g H, T' g H → T g H) : SqK p T' v d := by
  cases d with
  | tup es => obtain ⟨a, us, e, h⟩ := h; exact ⟨a, us, e, fun g H w t => h g H w (k g H t)⟩
  | lst es => obtain ⟨a, us, e, h⟩ := h; exact ⟨a, us, e, fun g H w t => h g H w (k g H t)⟩
  | rls es => obtain ⟨a, us, e, h⟩ := h; exact ⟨a, us, e, fun g H w t => h g H w (k g H t)⟩
  | rtp es => obtain ⟨a, us, e, h⟩ := h; exact ⟨a, us, e, fun g H w t => h g H w (k g H t)⟩
  | _ => exact True.intro
theorem sq_weak {p : Pg} {g : Gs} {H : Hp} {v : V} {d : D} (w0 : Wf p g H) (r : TopR p g H v d) : SqK p (TS' p g H) v d := by
  rcases r with r | ⟨a, rfl, n, o⟩
  · exact (sq_strong (H := H) r).weak fun _ _ l => l.ltr
  · cases d with
    | lst es =>
      obtain ⟨us, eu, ru⟩ := o
      exact ⟨_, _, rfl, fun g2 H2 w l => ⟨.inl (.inl (l.keep a _ eu n)), ru.mono l.gle l.aml⟩⟩
    | dct es => exact True.intro
    | dcT es => exact True.intro
    | _ => exact o.elim
theorem wk_tup {p : Pg} {T : Tm} {a : Addr} {us : List V} {ds : List D} (h : ∀ g H, Wf p g H → T g H → SqT p.K H a us ∧ p.Rps g us ds) : Wk p T (Itt p.K a) ds := by
  refine ⟨fun i g H hi w t => ?_, fun g H w t => ?_, fun i g H x H' hi w t y => ?_⟩
  · obtain ⟨s, r⟩ := h g H w t
    have hl : i < us.length := by rw [r.length]; exact hi
    exact walk_tup.goes i H hl s
  · obtain ⟨s, r⟩ := h g H w t
    rw [← r.length]
    exact walk_tup.stops H s
  · obtain ⟨s, r⟩ := h g H w t
    have hl : i < us.length := by rw [r.length]; exact hi
    obtain ⟨e1, e2⟩ := walk_tup.yields i H x H' hl s y
    subst e1
    obtain ⟨d, h1, h2⟩ := r.getV e2
    exact ⟨g, d, rfl, .refl w, h1, h2⟩
theorem wk_lst {p : Pg} {T : Tm} {a : Addr} {us : List V} {ds : List D} (h : ∀ g H, Wf p g H → T g H → SqL p.K H a us ∧ p.Rps g us ds) : Wk p T (Itl p.K a) ds := by
  refine ⟨fun i g H hi w t => ?_, fun g H w t => ?_, fun i g H x H' hi w t y => ?_⟩
  · obtain ⟨s, r⟩ := h g H w t
    have hl : i < us.length := by rw [r.length]; exact hi
    exact walk_list.goes i H hl s
  · obtain ⟨s, r⟩ := h g H w t
    rw [← r.length]
    exact walk_list.stops H s
  · obtain ⟨s, r⟩ := h g H w t
    have hl : i < us.length := by rw [r.length]; exact hi
    obtain ⟨e1, e2⟩ := walk_list.yields i H x H' hl s y
    subst e1
    obtain ⟨d, h1, h2⟩ := r.getV e2
    exact ⟨g, d, rfl, .refl w, h1, h2⟩
theorem ei_core {T : Gs → Hp → Tm} {R : Rel} (hT : ∀ (g : Gs) (H : Hp) (g' : Gs) (H' : Hp) (v : V) (d : D), Stp S.pg g H g' H' → R H g' H' v d → SqK S.pg (T g' H') v d) (hT0 : ∀ (g : Gs) (H : Hp), Wf S.pg g H → T g H g H)
    (ha : EX S ρ R a ma) : EI S ρ T tg a (ma >>= items) := fun Y ok =>
  (PI.or (pi_tup (ha Y ok)) (pi_list (ha Y ok))).pre fun σ H Q ⟨F, g, E, q⟩ => by
    have q := post_bind q
    -- which of both: by the value that comes
    cases e : ma g.st with
    | stuck => rw [e] at q; exact False.elim q
    | exc c st' =>
      refine .inl ⟨F, g, E, ?_⟩
      rw [e] at q ⊢
      exact q
    | ok d st' =>
      rw [e] at q
      cases d with
      | tup es =>
        refine .inl ⟨F, g, E, ?_⟩
        rw [e]
        intro v g' H' e1 s r
        obtain ⟨a, us, rfl, h⟩ := hT g H g' H' v _ s r
        exact ⟨a, rfl, ⟨us, (h g' H' s.wf (hT0 g' H' s.wf)).1⟩, (post_pure q) _ g' H' e1 s (wk_tup h)⟩
      | rtp es =>
        refine .inl ⟨F, g, E, ?_⟩
        rw [e]
        intro v g' H' e1 s r
        obtain ⟨a, us, rfl, h⟩ := hT g H g' H' v _ s r
        exact ⟨a, rfl, ⟨us, (h g' H' s.wf (hT0 g' H' s.wf)).1⟩, (post_pure q) _ g' H' e1 s (wk_tup h)⟩
      | lst es =>
        refine .inr ⟨F, g, E, ?_⟩
        rw [e]
        intro v g' H' e1 s r
        obtain ⟨a, us, rfl, h⟩ := hT g H g' H' v _ s r
        exact ⟨a, rfl, ⟨us, (h g' H' s.wf (hT0 g' H' s.wf)).1⟩, (post_pure q) _ g' H' e1 s (wk_lst h)⟩
      | rls es =>
        refine .inr ⟨F, g, E, ?_⟩
        rw [e]
        intro v g' H' e1 s r
        obtain ⟨a, us, rfl, h⟩ := hT g H g' H' v _ s r
        exact ⟨a, rfl, ⟨us, (h g' H' s.wf (hT0 g' H' s.wf)).1⟩, (post_pure q) _ g' H' e1 s (wk_lst h)⟩
      | _ => exact False.elim q
/-- a value's items: a value that is never written (in any loop), one that is read now (in a comprehension) -/
theorem ei_seq (ha : EE S ρ a ma) : EI S ρ (TL S.pg) tg a (ma >>= items) := ei_core (fun _ _ _ _ _ _ _ r => sq_strong r) (fun g _ _ => .refl g) ha
theorem ei_read (ha : EL S ρ a ma) : EI S ρ (TS' S.pg) tg a (ma >>= items) := ei_core (fun _ _ _ _ _ _ s r => sq_weak s.wf r) (fun g _ w => .refl w) ha
/-- a name that is not the def's own -/
abbrev Glb (S : Sta) (x : Str) : Prop := S.sc.names.lookup x = some .globalImplicit
/-! range -/
def rangeL (lo : Int) (n : Nat) : List D := (List.range n).map fun i => .int (lo + (i : Nat))
theorem rangeL_len (lo : Int) (n : Nat) : (rangeL lo n).length = n := by unfold rangeL; rw [List.length_map, List.length_range]
theorem wk_range {p : Pg} {T : Tm} {lo : Int} {n : Nat} : Wk p T (Itr lo n) (rangeL lo n) := by
  refine ⟨fun i g H hi w t => ?_, fun g H w t => ?_, fun i g H x H' hi w t y => ?_⟩
  · rw [rangeL_len] at hi; exact hi
  · rw [rangeL_len]; exact Nat.le_refl _
  · rw [rangeL_len] at hi
    obtain ⟨e1, e2⟩ := y
    subst e1
    refine ⟨g, .int (lo + (i : Nat)), rfl, .refl w, ?_, ?_⟩
    · unfold rangeL
      rw [List.getElem?_map, List.getElem?_range hi]
      rfl
    · rw [e2]; exact .int _
def bnd (i : Int) : Bool := decide (-(2 ^ 62) ≤ i ∧ i < 2 ^ 62)
def range1 : D → M (List D)
  | .int j => if bnd j then pure (rangeL 0 j.toNat) else stuck
  | _ => stuck
def range2 : D → D → M (List D)
  | .int i, .int j => if bnd i && bnd j then pure (rangeL i (j - i).toNat) else stuck
  | _, _ => stuck
theorem bnd_ok {i : Int} (h : bnd i = true) : -(2 ^ 62) ≤ i ∧ i < 2 ^ 62 := of_decide_eq_true (p := -(2 ^ 62) ≤ i ∧ i < 2 ^ 62) h
theorem ei_range1 {T : Gs → Hp → Tm} (hg : Glb S "range") (hm : S.pg.mg "range" = none) (ha : EL S ρ a ma) (hs : NoStar [a] := by intro _; rfl) : EI S ρ T tg (.Call (.Name "range" p) [a] [] pos) (ma >>= range1) := fun Y ok =>
  (pi_range1 (X := S.cx Y) hg hm (pa_cons (ha Y ok) pa_nil (hs _)) (hs _)).pre fun σ H Q ⟨F, g, E, q⟩ => rdX.bind E q fun x v g' H' s E' r q => by
    cases x with
    | int j =>
      unfold range1 at q
      by_cases z : bnd j = true
      · simp only [z, if_true] at q
        obtain rfl := r.int
        exact ⟨j, rfl, (bnd_ok z).1, (bnd_ok z).2, (post_pure q) _ g' H' rfl s wk_range⟩
      · simp only [z] at q
        exact False.elim q
    | _ => exact False.elim q
theorem ei_range2 {T : Gs → Hp → Tm} (hg : Glb S "range") (hm : S.pg.mg "range" = none) (ha : EL S ρ a ma) (hb : EL S ρ b mb) (hs : NoStar [a, b] := by intro _; rfl) (hs2 : NoStar [b] := by intro _; rfl) :
    EI S ρ T tg (.Call (.Name "range" p) [a, b] [] pos) (ma >>= fun x => mb >>= fun y => range2 x y) := fun Y ok =>
  (pi_range2 (X := S.cx Y) hg hm (pa_cons (ha Y ok) (pa_cons (hb Y ok) pa_nil (hs2 _)) (by rw [hs2 _]; exact hs _)) (hs _) (hs2 _)).pre fun σ H Q ⟨F, g, E, q⟩ => rdX.bind E q fun x v g' H' s E' r q =>
    rdX.bind E' (q.imp (fun _ _ q => q) fun _ _ q => q.back E.wf s) fun y u g2 H2 s2 E2 r2 q => by
      cases x with
      | int i =>
        cases y with
        | int j =>
          unfold range2 at q
          by_cases z : (bnd i && bnd j) = true
          · simp only [z, if_true] at q
            rw [Bool.and_eq_true] at z
            obtain rfl := r.int
            obtain rfl := r2.int
            exact ⟨i, j, rfl, ⟨(bnd_ok z.1).1, (bnd_ok z.1).2, (bnd_ok z.2).1, (bnd_ok z.2).2⟩, (post_pure q) _ g2 H2 rfl (s.trans E.wf s2) wk_range⟩
          · simp only [z] at q
            exact False.elim q
        | _ => exact False.elim q
      | _ => exact False.elim q
/-! zip, enumerate: new pairs -/
def zipL : List D → List D → List D
  | x :: xs, y :: ys => .tup [x, y] :: zipL xs ys
  | _, _ => []
def enumL (i : Nat) : List D → List D
  | [] => []
  | x :: xs => .tup [.int (i : Nat), x] :: enumL (i + 1) xs
theorem zipL_get : ∀ {xs ys : List D} {i : Nat} {x y : D}, xs[i]? = some x → ys[i]? = some y → (zipL xs ys)[i]? = some (.tup [x, y])
  | [], _, i, x, y, h, _ => by simp at h
  | _ :: _, [], i, x, y, _, h => by simp at h
  | a :: r, b :: t, 0, x, y, h, k => by simp at h k; subst h; subst k; rfl
  | a :: r, b :: t, i + 1, x, y, h, k => by
    rw [zipL, List.getElem?_cons_succ]
    exact zipL_get (by simpa using h) (by simpa using k)
theorem zipL_len : ∀ (xs ys : List D), (zipL xs ys).length = min xs.length ys.length
  | [], ys => by cases ys <;> simp [zipL]
  | _ :: _, [] => by simp [zipL]
  | a :: r, b :: t => by
    rw [zipL, List.length_cons, List.length_cons, List.length_cons, zipL_len r t]
    omega
theorem enumL_len : ∀ (k : Nat) (xs : List D), (enumL k xs).length = xs.length
  | _, [] => rfl
  | k, _ :: r => by rw [enumL, List.length_cons, List.length_cons, enumL_len]
theorem enumL_get : ∀ {k : Nat} {xs : List D} {i : Nat} {x : D}, xs[i]? = some x → (enumL k xs)[i]? = some (.tup [.int ((k + i : Nat) : Int), x])
  | _, [], i, x, h => by simp at h
  | k, a :: r, 0, x, h => by simp at h; subst h; rfl
  | k, a :: r, i + 1, x, h => by
    rw [enumL, List.getElem?_cons_succ, enumL_get (k := k + 1) (by simpa using h)]
    have : k + 1 + i = k + (i + 1) := by omega
    rw [this]
end
end DL
namespace DL
open PySem PySem.Spec PyProof.Rows L2
/-! ### targets -/
def setS : L2.St → List Nat → List V → L2.St
  | σ, i :: ix, w :: ws => setS (σ.set i (some w)) ix ws
  | σ, _, _ => σ
def setE : Ev → List Nat → List D → Ev
  | ρ, i :: ix, d :: ds => setE (ρ.set i (.sh d)) ix ds
  | ρ, _, _ => ρ
theorem ER.setMany {p : Pg} {F : Fm} {g : Gs} {H : Hp} : ∀ (ix : List Nat) {ws : List V} {ds : List D} {ρ : Ev} {σ : L2.St}, ER p F ρ σ g H → p.Rps g ws ds → ER p F (setE ρ ix ds) (setS σ ix ws) g H
  | [], _, _, _, _, E, _ => by unfold setE setS; exact E
  | i :: ix, _, _, _, _, E, .nil => by unfold setE setS; exact E
  | i :: ix, _, _, _, _, E, .cons r t => by
    unfold setE setS
    exact ER.setMany ix (E.set r) t
/-- a target takes a value apart: u gives the parts, ix are their slots -/
def TG (S : Sta) (tg : Expr) (u : D → M (List D)) (ix : List Nat) : Prop := ∀ Y, OkY S Y → PG (S.cx Y) tg (fun v σ H Q => ∃ g d, Wf S.pg g H ∧ S.pg.Rp g v d ∧ (u d g.st).Post (fun ds st' => st' = g.st → ∀ ws, S.pg.Rps g ws ds → Q (setS σ ix ws) H) fun _ _ => False)
def TGs (S : Sta) (tgs : List Expr) (u : List D → M (List D)) (ix : List Nat) : Prop := ∀ Y, OkY S Y → PGs (S.cx Y) tgs (fun vs σ H Q => ∃ g ds, Wf S.pg g H ∧ S.pg.Rps g vs ds ∧ (u ds g.st).Post (fun ds st' => st' = g.st → ∀ ws, S.pg.Rps g ws ds → Q (setS σ ix ws) H) fun _ _ => False)
/-- a part that never touches the store -/
structure Pure1 {α β : Type} (u : α → M β) : Prop where
  st : ∀ d s b s', u d s = .ok b s' → s' = s
  nx : ∀ d s c s', u d s ≠ .exc c s'
def nm : D → M (List D) := fun d => pure [d]
def un0 : List D → M (List D)
  | [] => pure []
  | _ => stuck
def unc (u : D → M (List D)) (us : List D → M (List D)) : List D → M (List D)
  | d :: ds => u d >>= fun a => us ds >>= fun b => pure (a ++ b)
  | _ => stuck
def unT (us : List D → M (List D)) : D → M (List D)
  | .tup ds => us ds
  | _ => stuck
theorem _root_.L2.PG.pre {X : Cx} {tg : Expr} {t t' : L2.TG} (h : PG X tg t) (k : ∀ v σ H Q, t' v σ H Q → t v σ H Q) : PG X tg t' :=
  ⟨fun pins s σ H v u Q I r q => h.run pins s σ H v u Q I r (k v σ H Q q)⟩
theorem _root_.L2.PGs.pre {X : Cx} {tg : List Expr} {t t' : L2.TGs} (h : PGs X tg t) (k : ∀ v σ H Q, t' v σ H Q → t v σ H Q) : PGs X tg t' :=
  ⟨fun pins s σ H v u Q I r q => h.run pins s σ H v u Q I r (k v σ H Q q)⟩
theorem setS_append : ∀ (ix jx : List Nat) (σ : L2.St) (ws zs : List V), ws.length = ix.length → setS σ (ix ++ jx) (ws ++ zs) = setS (setS σ ix ws) jx zs
  | [], jx, σ, [], zs, _ => by
    rw [List.nil_append, List.nil_append]
    conv => rhs; arg 1; unfold setS
  | [], jx, σ, _ :: _, zs, h => by simp at h
  | i :: ix, jx, σ, [], zs, h => by simp at h
  | i :: ix, jx, σ, w :: ws, zs, h => by
    rw [List.cons_append, List.cons_append]
    conv => lhs; unfold setS
    conv => rhs; arg 1; unfold setS
    exact setS_append ix jx _ ws zs (by simpa using h)
section
variable {S : Sta} {ρ : Ev} {a b c tg it e elt : Expr} {tgs : List Expr} {ma mb mc m : M D} {mi : M (List D)} {pos p : Pos}
theorem tg_name (i : Nat) {x : Str} (hnd : S.N.Nodup) (hN : S.N[i]? = some x) (hx : Loc S.sc x) (hf : S.fn x = true ∨ S.sc.names.lookup x = some .local) : TG S (.Name x pos) nm [i] := fun Y ok =>
  (pg_name (X := S.cx Y) (i := i) hnd hN hx hf).pre fun v σ H Q ⟨g, d, w, r, q⟩ => (post_pure q) rfl [v] (.cons r .nil)
theorem tgs_nil : TGs S [] un0 [] := fun Y ok => pgs_nil.pre fun vs σ H Q ⟨g, ds, w, r, q⟩ => by
  cases r with
  | nil => exact ⟨rfl, (post_pure q) rfl [] .nil⟩
  | cons _ _ => exact False.elim q
theorem tgs_cons {u : D → M (List D)} {us : List D → M (List D)} {ix jx : List Nat} (pu : Pure1 u) (pus : Pure1 us) (hlen : ∀ d s ds s', u d s = .ok ds s' → ds.length = ix.length) (h1 : TG S tg u ix) (h2 : TGs S tgs us jx)
    (hs : ∀ env : Env, (assignEach (tg :: tgs) env).map (·.2) = assign tg env :: (assignEach tgs env).map (·.2)) : TGs S (tg :: tgs) (unc u us) (ix ++ jx) := fun Y ok =>
  (pgs_cons (h1 Y ok) (h2 Y ok) (hs _)).pre fun vs σ H Q ⟨g, ds, w, r, q⟩ => by
    cases r with
    | nil => exact False.elim q
    | @cons v0 vr d ds r rr =>
      refine ⟨_, _, rfl, g, _, w, r, ?_⟩
      have q := post_bind (m := u d) q
      cases e1 : u d g.st with
      | stuck => rw [e1] at q; exact q
      | exc c s => rw [e1] at q; exact q
      | ok as s1 =>
        rw [e1] at q
        have es := pu.st _ _ _ _ e1
        have el := hlen _ _ _ _ e1
        intro _ ws rw1
        refine ⟨g, _, w, rr, ?_⟩
        subst es
        have q := post_bind q
        refine q.imp (fun bs s2 q e2 zs rz => ?_) fun _ _ q => q
        have q := (post_pure q) e2 (ws ++ zs) (rw1.append rz)
        rw [setS_append _ _ _ _ _ (by rw [rw1.length, el])] at q
        exact q
theorem tg_tup {us : List D → M (List D)} {ix : List Nat} {n : Nat} {k : Nat} (h : TGs S tgs us ix) (hn : ∀ env : Env, (assignEach tgs env).length = n) (hl : ∀ ds s r s', us ds s = .ok r s' → ds.length = n) (hst : ∀ env : Env, (assignEach tgs env).findIdx? (·.1) = none) : TG S (.Tuple tgs k pos) (unT us) ix := fun Y ok =>
  (pg_tup (X := S.cx Y) (n := n) rfl (h Y ok) (hn _) (hst _)).pre fun v σ H Q ⟨g, d, w, r, q⟩ => by
    cases d with
    | tup ds =>
      cases r with
      | tup s r =>
        refine ⟨_, _, rfl, .inl (.inl (w.sub _ _ s)), ?_, g, ds, w, r, q⟩
        rw [r.length]
        cases e : us ds g.st with
        | ok a s' => exact hl _ _ _ _ e
        | exc c s' => have q : (us ds g.st).Post _ _ := q; rw [e] at q; exact q.elim
        | stuck => have q : (us ds g.st).Post _ _ := q; rw [e] at q; exact q.elim
    | _ => exact False.elim q
/-! the parts' lemmas -/
theorem nm_pure : Pure1 nm where
  st d s b s' h := by
    injection h with _ h
    exact h.symm
  nx d s c s' h := by cases h
theorem un0_pure : Pure1 un0 where
  st d s b s' h := by
    cases d with
    | nil => injection h with _ h; exact h.symm
    | cons _ _ => cases h
  nx d s c s' h := by cases d <;> cases h
theorem unc_pure {u : D → M (List D)} {us : List D → M (List D)} (pu : Pure1 u) (pus : Pure1 us) : Pure1 (unc u us) where
  st d s b s' h := by
    cases d with
    | nil => cases h
    | cons x r =>
      have h : (u x >>= fun a => us r >>= fun b => pure (a ++ b)) s = .ok b s' := h
      rw [bind_run] at h
      cases e : u x s with
      | stuck => rw [e] at h; cases h
      | exc c t => rw [e] at h; cases h
      | ok a t =>
        rw [e] at h
        have h : (us r >>= fun b => pure (a ++ b)) t = .ok b s' := h
        rw [bind_run] at h
        cases e2 : us r t with
        | stuck => rw [e2] at h; cases h
        | exc c t => rw [e2] at h; cases h
        | ok a2 t2 =>
          rw [e2] at h
          injection h with _ h
          rw [← h, pus.st _ _ _ _ e2, pu.st _ _ _ _ e]
  nx d s c s' h := by
    cases d with
    | nil => cases h
    | cons x r =>
      have h : (u x >>= fun a => us r >>= fun b => pure (a ++ b)) s = .exc c s' := h
      rw [bind_run] at h
      cases e : u x s with
      | stuck => rw [e] at h; cases h
      | exc c t => exact pu.nx _ _ _ _ e
      | ok a t =>
        rw [e] at h
        have h : (us r >>= fun b => pure (a ++ b)) t = .exc c s' := h
        rw [bind_run] at h
        cases e2 : us r t with
        | stuck => rw [e2] at h; cases h
        | exc c t => exact pus.nx _ _ _ _ e2
        | ok a2 t2 => rw [e2] at h; cases h
theorem unT_pure {us : List D → M (List D)} (pus : Pure1 us) : Pure1 (unT us) where
  st d s b s' h := by
    cases d with
    | tup ds => exact pus.st _ _ _ _ h
    | _ => cases h
  nx d s c s' h := by
    cases d with
    | tup ds => exact pus.nx _ _ _ _ h
    | _ => cases h
/-! lengths of the parts -/
def Len1 (u : D → M (List D)) (n : Nat) : Prop := ∀ d s ds s', u d s = .ok ds s' → ds.length = n
def LenS (us : List D → M (List D)) (k n : Nat) : Prop := ∀ d s ds s', us d s = .ok ds s' → d.length = k ∧ ds.length = n
theorem nm_len : Len1 nm 1 := fun d s b s' h => by injection h with h _; rw [← h]; rfl
theorem un0_len : LenS un0 0 0 := fun d s b s' h => by
  cases d with
  | nil => injection h with h _; rw [← h]; exact ⟨rfl, rfl⟩
  | cons _ _ => cases h
theorem unc_len {u : D → M (List D)} {us : List D → M (List D)} {k n l : Nat} (pu : Len1 u n) (pus : LenS us k l) : LenS (unc u us) (k + 1) (n + l) := fun d s b s' h => by
  cases d with
  | nil => cases h
  | cons x r =>
    have h : (u x >>= fun a => us r >>= fun b => pure (a ++ b)) s = .ok b s' := h
    rw [bind_run] at h
    cases e : u x s with
    | stuck => rw [e] at h; cases h
    | exc c t => rw [e] at h; cases h
    | ok a t =>
      rw [e] at h
      have h : (us r >>= fun b => pure (a ++ b)) t = .ok b s' := h
      rw [bind_run] at h
      cases e2 : us r t with
      | stuck => rw [e2] at h; cases h
      | exc c t => rw [e2] at h; cases h
      | ok a2 t2 =>
        rw [e2] at h
        injection h with h _
        obtain ⟨h1, h2⟩ := pus _ _ _ _ e2
        rw [← h, List.length_cons, List.length_append, h1, h2, pu _ _ _ _ e]
        exact ⟨rfl, rfl⟩
theorem unT_len {us : List D → M (List D)} {k n : Nat} (pus : LenS us k n) : Len1 (unT us) n := fun d s b s' h => by
  cases d with
  | tup ds => exact (pus _ _ _ _ h).2
  | _ => cases h
/-! ### comprehensions -/
def noexc {α : Type} (m : M α) : M α := fun s => match m s with
  | .ok a s' => .ok a s'
  | _ => .stuck
def addO : Option D → List D → List D
  | some d, t => d :: t
  | none, t => t
def compM (f : D → M (Option D)) : List D → M (List D)
  | [] => pure []
  | x :: r => noexc (f x) >>= fun o => compM f r >>= fun t => pure (addO o t)
theorem noexc_post {α β : Type} {m : M α} {k : α → M β} {s : Store} {ok : β → Store → Prop} {ex : Nat → Store → Prop} (q : ((noexc m >>= k) s).Post ok ex) : (m s).Post (fun a s' => (k a s').Post ok ex) fun _ _ => False := by
  rw [bind_run] at q
  unfold noexc at q
  cases e : m s with
  | ok a s' => rw [e] at q; exact q
  | exc c s' => rw [e] at q; exact q
  | stuck => rw [e] at q; exact q
theorem compM_noexc (f : D → M (Option D)) : ∀ (xs : List D) (s : Store) (c : Nat) (s' : Store), compM f xs s ≠ .exc c s'
  | [], s, c, s', h => by cases h
  | x :: r, s, c, s', h => by
    unfold compM at h
    rw [bind_run] at h
    unfold noexc at h
    cases e : f x s with
    | exc c t => rw [e] at h; cases h
    | stuck => rw [e] at h; cases h
    | ok o t =>
      rw [e] at h
      have h : (compM f r >>= fun t => pure (addO o t)) t = .exc c s' := h
      rw [bind_run] at h
      cases e2 : compM f r t with
      | exc c t2 => exact compM_noexc f r _ _ _ e2
      | stuck => rw [e2] at h; cases h
      | ok o t2 => rw [e2] at h; cases h
def wipeE : Ev → List Nat → Ev
  | ρ, [] => ρ
  | ρ, v :: vs => (wipeE ρ vs).set v .un
theorem wipeE_len (ρ : Ev) : ∀ vs : List Nat, (wipeE ρ vs).length = ρ.length
  | [] => rfl
  | _ :: vs => by unfold wipeE; rw [List.length_set, wipeE_len ρ vs]
theorem ER.unset {p : Pg} {F : Fm} {ρ : Ev} {σ : L2.St} {g : Gs} {H : Hp} (E : ER p F ρ σ g H) (i : Nat) (o : Option V) : ER p F (ρ.set i .un) (σ.set i o) g H := by
  refine ⟨by rw [List.length_set, List.length_set, E.len], fun j s e => ?_, fun x y d1 e1 h1 h2 h3 => ?_, E.fr, E.fw⟩
  · by_cases z : i = j
    · subst z
      have hl : i < ρ.length := by
        have := (List.getElem?_eq_some_iff.mp e).1
        rwa [List.length_set] at this
      rw [List.getElem?_set_self hl] at e
      cases e
      cases (σ.set i o)[i]?.join <;> exact True.intro
    · rw [List.getElem?_set_ne z] at e
      rw [List.getElem?_set_ne z]
      exact E.sl j s e
  · have ne : ∀ {c : Nat} {x : D}, (ρ.set i .un)[c]? = some (.ow x) → i ≠ c ∧ ρ[c]? = some (.ow x) := fun {c x} h => by
      by_cases z : i = c
      · subst z
        have hl : i < ρ.length := by
          have := (List.getElem?_eq_some_iff.mp h).1
          rwa [List.length_set] at this
        rw [List.getElem?_set_self hl] at h; cases h
      · rw [List.getElem?_set_ne z] at h; exact ⟨z, h⟩
    obtain ⟨n1, h1⟩ := ne h1
    obtain ⟨n2, h2⟩ := ne h2
    rw [List.getElem?_set_ne n1, List.getElem?_set_ne n2] at h3
    exact E.dist x y d1 e1 h1 h2 h3
theorem ER.wipe {p : Pg} {F : Fm} {ρ : Ev} {σ : L2.St} {g : Gs} {H : Hp} (E : ER p F ρ σ g H) : ∀ vs : List Nat, ER p F (wipeE ρ vs) (L2.wipe σ vs) g H
  | [] => E
  | v :: vs => (E.wipe vs).unset v none
theorem wipe_get (σ : L2.St) : ∀ (vs : List Nat) (j : Nat), (L2.wipe σ vs)[j]? = if j ∈ vs then σ[j]?.map (fun _ => none) else σ[j]?
  | [], j => by simp [L2.wipe]
  | v :: vs, j => by
    unfold L2.wipe
    by_cases z : v = j
    · subst z
      by_cases hl : v < σ.length
      · rw [List.getElem?_set_self (by rw [wipe_length]; exact hl), if_pos List.mem_cons_self, List.getElem?_eq_getElem hl]
        rfl
      · rw [List.getElem?_eq_none (by rw [List.length_set, wipe_length]; omega), if_pos List.mem_cons_self, List.getElem?_eq_none (by omega)]
        rfl
    · rw [List.getElem?_set_ne z, wipe_get σ vs j]
      have : (j ∈ v :: vs) = (j ∈ vs) := by
        rw [List.mem_cons]
        exact propext ⟨fun h => h.elim (fun e => absurd e.symm z) id, .inr⟩
      simp only [this]
theorem setS_len : ∀ (ix : List Nat) (ws : List V) (σ : L2.St), (setS σ ix ws).length = σ.length
  | [], _, _ => by unfold setS; rfl
  | _ :: _, [], _ => by unfold setS; rfl
  | i :: ix, w :: ws, σ => by unfold setS; rw [setS_len ix ws, List.length_set]
theorem setS_ne : ∀ (ix : List Nat) (ws : List V) (σ : L2.St) (j : Nat), j ∉ ix → (setS σ ix ws)[j]? = σ[j]?
  | [], _, _, _, _ => by unfold setS; rfl
  | _ :: _, [], _, _, _ => by unfold setS; rfl
  | i :: ix, w :: ws, σ, j, h => by
    unfold setS
    rw [setS_ne ix ws _ j (fun z => h (List.mem_cons_of_mem _ z)), List.getElem?_set_ne (fun z => h (by rw [z]; exact List.mem_cons_self))]
theorem wipe_setS (σ : L2.St) (vs ix : List Nat) (ws : List V) (h : ∀ i ∈ ix, i ∈ vs) : L2.wipe (setS (L2.wipe σ vs) ix ws) vs = L2.wipe σ vs := by
  refine List.ext_getElem? fun j => ?_
  rw [wipe_get, wipe_get]
  by_cases z : j ∈ vs
  · rw [if_pos z, if_pos z]
    have hl : (setS (L2.wipe σ vs) ix ws).length = σ.length := by rw [setS_len, wipe_length]
    by_cases hj : j < σ.length
    · rw [List.getElem?_eq_getElem (by rw [hl]; exact hj), List.getElem?_eq_getElem hj]
      rfl
    · rw [List.getElem?_eq_none (by rw [hl]; omega), List.getElem?_eq_none (by omega)]
  · rw [if_neg z, if_neg z, setS_ne _ _ _ _ (fun q => z (h j q)), wipe_get, if_neg z]
/-- the block of a comprehension -/
def Sta.blk (S : Sta) (scope : Scope) : Sta := { S with sc := relS scope S.sc, fn := fun x => scope.names.lookup x == some .cell, dfn := false }
def Dyn.blk (Y : Dyn) (S : Sta) (s : Shared) (H : Hp) (scope : Scope) (C : Addr) (cl : List (Str × Addr)) (fp : List Addr) : Dyn where
  A := Y.A
  s0 := s
  H0 := H
  env := compEnvC scope cl C (S.cx Y).env
  outer := Y.stack
  stack := Y.stack
  ex := fp
  pn := []
  xe := fun _ _ => False
  W := fun _ _ _ => False
theorem blk_eq {Y : Dyn} {s : Shared} {H : Hp} {scope : Scope} {C : Addr} {cl : List (Str × Addr)} {fp : List Addr} : (S.blk scope).cx (Y.blk S s H scope C cl fp) = (S.cx Y).blk s H scope (compEnvC scope cl C (S.cx Y).env) fp := rfl
theorem blk_ok {Y : Dyn} (ok : OkY S Y) {s : Shared} {H : Hp} {scope : Scope} {C : Addr} {cl : List (Str × Addr)} {fp : List Addr} : OkY (S.blk scope) (Y.blk S s H scope C cl fp) :=
  ⟨ok.room, PassesOwn.never, takesN, fun z => Bool.noConfusion z, ok.gd⟩
/-- the tests of a clause -/
def ETs (S : Sta) (ρ : Ev) (ifs : List Expr) (m : M Bool) : Prop := ∀ Y, OkY S Y → PTs (S.cx Y) ifs (rdT S Y ρ m)
theorem ets_nil : ETs S ρ [] (pure true) := fun Y ok => ⟨fun pins s σ H Q I ⟨F, g, E, q⟩ => (pts_nil (X := S.cx Y)).run pins s σ H Q I ((post_pure q) g H rfl (.refl E.wf))⟩
theorem ets_one {m : M Bool} (h : ET S ρ c m) : ETs S ρ [c] m := fun Y ok => ⟨fun pins s σ H Q I q => (pts_one (h Y ok)).run pins s σ H Q I q⟩
/-- an expression that may stand right of name = .. too -/
def CompE (S : Sta) (ρ : Ev) (e : Expr) (m : M D) : Prop := ∃ t : Dyn → TE, (∀ Y, OkY S Y → PE (S.cx Y) e (t Y)) ∧ (∀ Y, OkY S Y → ∀ σ H Q, rdX S Y ρ (RN S.pg) m σ H Q → t Y σ H Q) ∧
  ∀ Y, OkY S Y → ∀ (i : Nat) (y : Str) (py spos : Pos), S.N[i]? = some y → S.sc.names.lookup y = some .local → (∀ env : Env, env.scope = S.sc → swapsWith e (some (.Name y py)) spos.line env = pure true) →
    PS (S.cx Y) (.Assign [.Name y py] e spos) (tAsg (t Y) (gName i))
/-- it makes no dict -/
def NoDict (m : M D) : Prop := ∀ s d s', m s = .ok d s' → isDict d = false
theorem en_comp (h : CompE S ρ e m) : EN S ρ e m := fun Y ok => by
  obtain ⟨t, h1, h2, _⟩ := h
  exact (h1 Y ok).pre (h2 Y ok)
theorem upd_new {p : Pg} {g1 g2 : Gs} {H1 H2 : Hp} {a : Addr} {o : HO} (s : Stp p g1 H1 g2 H2) (hn : H1 a = none) (hG : g2.G a = none) (ha : a ∉ g2.am) (hm : ∃ xs, H2 a = some (.lst xs)) : Stp p g1 H1 g2 (upd H2 a o) := by
  refine ⟨s.gle, s.aml, fun b u e n => ?_, s.gnew, s.amn, ⟨fun b u e => ?_, s.wf.amG, s.wf.nd, s.wf.len, fun k b c e1 e2 => ?_⟩⟩
  · rw [upd_ne (ne_of_none e hn)]
    exact s.keep b u e n
  · rw [upd_ne (ne_of_none e hG)]
    exact s.wf.sub b u e
  · have hb : b ≠ a := fun z => ha (by rw [← z]; exact List.mem_of_getElem? e1)
    have h := s.wf.cell k b c e1 e2
    obtain ⟨xs, hm⟩ := hm
    refine h.mono (fun _ _ e => e) (List.prefix_refl _) (upd_ne hb) fun dx e => ?_
    rw [upd_ne (ne_of e hm (by intro z; cases z))]
    exact e
/-- a list comprehension with one clause -/
def lcM (mi : M (List D)) (u : D → M (List D)) (mt : List D → M Bool) (me : List D → M D) : M D :=
  mi >>= fun xs => compM (fun x => u x >>= fun ds => mt ds >>= fun b => if b = true then me ds >>= fun d => pure (some d) else pure none) xs >>= mkL
theorem NoDict.bind {α : Type} {m : M α} {f : α → M D} (h : ∀ a, NoDict (f a)) : NoDict (m >>= f) := fun s d s' e => by
  rw [bind_run] at e
  cases em : m s with
  | ok a t => rw [em] at e; exact h a t d s' e
  | exc c t => rw [em] at e; cases e
  | stuck => rw [em] at e; cases e
theorem mkL_nodict (ds : List D) : NoDict (mkL ds) := fun s d s' h => by
  unfold mkL at h
  by_cases z : ds.length ≤ sizeLine
  · rw [if_pos z] at h
    injection h with h _
    rw [← h]
    rfl
  · rw [if_neg z] at h; cases h
theorem lcM_nodict (mi : M (List D)) (u : D → M (List D)) (mt : List D → M Bool) (me : List D → M D) : NoDict (lcM mi u mt me) := by
  unfold lcM
  exact .bind fun xs => .bind mkL_nodict
theorem lc_read {own : List (Str × Nat)} {u : D → M (List D)} {ix : List Nat} {mt : List D → M Bool} {me : List D → M D} {tt : Dyn → TT} {te : Dyn → TE} {tgt : L2.TG}
    (pu : Pure1 u) (hlen : Len1 u ix.length) (hix : ∀ i ∈ ix, i ∈ own.map (·.2)) {Y : Dyn} (ok : OkY S Y)
    {σ : L2.St} {H : Hp} {Q : VK} (q : rdX S Y ρ (RN S.pg) (lcM mi u mt me) σ H Q)
    (hg : ∀ v σ H Q, (∃ g d, Wf S.pg g H ∧ S.pg.Rp g v d ∧ (u d g.st).Post (fun ds st' => st' = g.st → ∀ ws, S.pg.Rps g ws ds → Q (setS σ ix ws) H) fun _ _ => False) → tgt v σ H Q)
    (ht : ∀ ds σ H Q, ds.length = ix.length → (∃ F g, ER S.pg F (setE (wipeE ρ (own.map (·.2))) ix ds) σ g H ∧ (mt ds g.st).Post (fun b st' => ∀ g' H', g'.st = st' → Stp S.pg g H g' H' → Q b H') fun _ _ => False) → tt Y σ H Q)
    (he : ∀ ds σ H Q, ds.length = ix.length → (∃ F g, ER S.pg F (setE (wipeE ρ (own.map (·.2))) ix ds) σ g H ∧ (me ds g.st).Post (Pv S.pg (RE S.pg) g H Q) fun _ _ => False) → te Y σ H Q) :
    tLc (rdI S Y ρ (TS' S.pg) mi) tgt (tt Y) (te Y) (own.map (·.2)) σ H Q := by
  obtain ⟨F, g, E, q⟩ := q
  refine ⟨F, g, E, (post_bind q).imp (fun xs st' q J g1 H1 e1 s1 wk A hA => ?_) fun _ _ q => q⟩
  subst e1
  -- what is made so far, and what the rest makes
  refine ⟨fun i m H2 => i ≤ xs.length ∧ m = xs.length - i ∧ ∃ g2 vs acc, Stp S.pg g1 H1 g2 H2 ∧ H2 A = some (.lst vs) ∧ S.pg.Rps g2 vs acc ∧ g2.G A = none ∧ A ∉ g2.am ∧
    ((compM (fun x => u x >>= fun ds => mt ds >>= fun b => if b = true then me ds >>= fun d => pure (some d) else pure none) (xs.drop i) >>= fun r => mkL (acc ++ r)) g2.st).Post (Pv S.pg (RN S.pg) g H Q) (Px S Y g H),
    ⟨xs.length, Nat.zero_le _, rfl, g1, [], [], Stp.laid s1.wf hA, upd_same, .nil, s1.wf.freeG hA, s1.wf.freeA hA, q⟩, ?_⟩
  rintro i m H2 ⟨hi, rfl, g2, vs, acc, s2, hD, rv, hG, ha, q⟩
  have sg2 := s1.trans E.wf s2
  by_cases hlt : i < xs.length
  · refine .inr ⟨wk.goes i g2 H2 hlt s2.wf s2, fun H' => i + 1 ≤ xs.length ∧ ∃ g2 vs acc, Stp S.pg g1 H1 g2 H' ∧ H' A = some (.lst vs) ∧ S.pg.Rps g2 vs acc ∧ g2.G A = none ∧ A ∉ g2.am ∧
      ((compM (fun x => u x >>= fun ds => mt ds >>= fun b => if b = true then me ds >>= fun d => pure (some d) else pure none) (xs.drop (i + 1)) >>= fun r => mkL (acc ++ r)) g2.st).Post (Pv S.pg (RN S.pg) g H Q) (Px S Y g H),
      fun H' h => ⟨xs.length - (i + 1), by omega, h.1, rfl, h.2⟩, fun x H' hy => ?_⟩
    obtain ⟨g3, d, e3, s3, hd, rx⟩ := wk.yields i g2 H2 x H' hlt s2.wf s2 hy
    have s23 := s2.trans s1.wf s3
    have sg3 := s1.trans E.wf s23
    have keepD : ∀ {gg : Gs} {HH : Hp}, Stp S.pg g2 H2 gg HH → HH A = some (.lst vs) := fun {gg HH} s => s.keep A _ hD ha
    have keepG : ∀ {gg : Gs} {HH : Hp}, Stp S.pg g2 H2 gg HH → gg.G A = none := fun {gg HH} s => by
      cases z : gg.G A with
      | none => rfl
      | some o =>
        rcases s.gnew A o z with y | y | ⟨ys, y⟩
        · rw [hG] at y; cases y
        · rw [hD] at y; cases y
        · rw [hD] at y; cases y
    have keepA : ∀ {gg : Gs} {HH : Hp}, Stp S.pg g2 H2 gg HH → A ∉ gg.am := fun {gg HH} s h => by
      rcases s.amn A h with y | y
      · exact ha y
      · rw [hD] at y; cases y
    have ed : xs.drop i = d :: xs.drop (i + 1) := by
      rw [List.drop_eq_getElem_cons hlt]
      rw [List.getElem?_eq_getElem hlt] at hd
      cases hd; rfl
    rw [ed, compM, bind_assoc'] at q
    have q := noexc_post q
    rw [← e3] at q
    refine hg x _ H' _ ⟨g3, d, s23.wf, rx, ?_⟩
    have q := post_bind q
    cases eu : u d g3.st with
    | stuck => rw [eu] at q; exact q
    | exc c s => rw [eu] at q; exact q
    | ok ds st4 =>
      rw [eu] at q
      intro es ws rws
      subst es
      have hl := hlen _ _ _ _ eu
      refine ⟨wipe_setS σ _ _ ws hix, ?_⟩
      have E4 := ((E.step sg3).wipe (own.map (·.2))).setMany ix rws
      refine ht ds _ _ _ hl ⟨F, g3, E4, (post_bind q).imp (fun b st5 q g5 H5 e5 s5 => ?_) fun _ _ q => q⟩
      subst e5
      have s25 := s3.trans s2.wf s5
      by_cases hb : b = true
      · rw [if_pos hb]
        rw [if_pos hb] at q
        refine he ds _ _ _ hl ⟨F, g5, E4.step s5, (post_bind q).imp (fun y st6 q v6 g6 H6 e6 s6 r6 => ?_) fun _ _ q => q⟩
        subst e6
        have s26 := s25.trans s2.wf s6
        have q : ((compM (fun x => u x >>= fun ds => mt ds >>= fun b => if b = true then me ds >>= fun d => pure (some d) else pure none) (xs.drop (i + 1)) >>= fun t => mkL (acc ++ y :: t)) g6.st).Post (Pv S.pg (RN S.pg) g H Q) (Px S Y g H) := by
          have q := post_pure q
          rw [bind_assoc'] at q
          exact q
        refine ⟨vs, keepD s26, ?_, hlt, g6, vs ++ [v6], acc ++ [y], upd_new (s2.trans s1.wf s26) hA (keepG s26) (keepA s26) ⟨vs, keepD s26⟩, upd_same, (rv.mono s26.gle s26.aml).append (.cons r6 .nil), keepG s26, keepA s26, ?_⟩
        · rw [rv.length]
          rw [bind_run] at q
          cases er : compM (fun x => u x >>= fun ds => mt ds >>= fun b => if b = true then me ds >>= fun d => pure (some d) else pure none) (xs.drop (i + 1)) g6.st with
          | stuck => rw [er] at q; exact q.elim
          | exc c s => exact (compM_noexc _ _ _ _ _ er).elim
          | ok t s =>
            rw [er] at q
            have q : (mkL (acc ++ y :: t) s).Post _ _ := q
            unfold mkL at q
            by_cases z : (acc ++ y :: t).length ≤ sizeLine
            · rw [List.length_append, List.length_cons] at z
              omega
            · rw [if_neg z] at q
              exact False.elim q
        · have fe : (fun t => mkL (acc ++ y :: t)) = fun t => mkL (acc ++ [y] ++ t) := by
            funext t
            rw [List.append_assoc]
            rfl
          rw [fe] at q
          exact q
      · rw [if_neg hb]
        rw [if_neg hb] at q
        have q : ((compM (fun x => u x >>= fun ds => mt ds >>= fun b => if b = true then me ds >>= fun d => pure (some d) else pure none) (xs.drop (i + 1)) >>= fun t => mkL (acc ++ t)) g5.st).Post (Pv S.pg (RN S.pg) g H Q) (Px S Y g H) := by
          have q := post_pure q
          rw [bind_assoc'] at q
          exact q
        exact ⟨hlt, g5, vs, acc, s2.trans s1.wf s25, keepD s25, rv.mono s25.gle s25.aml, keepG s25, keepA s25, q⟩
  · have ei : i = xs.length := by omega
    subst ei
    rw [List.drop_length, compM] at q
    have q : (mkL (acc ++ []) g2.st).Post (Pv S.pg (RN S.pg) g H Q) (Px S Y g H) := q
    rw [List.append_nil] at q
    unfold mkL at q
    by_cases z : acc.length ≤ sizeLine
    · rw [if_pos z] at q
      exact .inl ⟨wk.stops g2 H2 s2.wf s2, (post_pure q) (.ref A) g2 H2 rfl sg2 ⟨A, rfl, ⟨vs, hD, rv⟩, hG, ha, s1.none_of E.wf hA⟩⟩
    · rw [if_neg z] at q
      exact False.elim q
theorem comp1 {ifs : List Expr} {scope : Scope} {own : List (Str × Nat)} {u : D → M (List D)} {ix : List Nat} {mt : List D → M Bool} {me : List D → M D}
    (hN : S.N.Nodup) (hok : BlkOk S.N S.sc scope own) (hi : EI S ρ (TS' S.pg) tg it mi) (hg : TG (S.blk scope) tg u ix) (pu : Pure1 u) (hlen : Len1 u ix.length) (hix : ∀ i ∈ ix, i ∈ own.map (·.2))
    (ht : ∀ ds, ds.length = ix.length → ETs (S.blk scope) (setE (wipeE ρ (own.map (·.2))) ix ds) ifs (mt ds))
    (he : ∀ ds, ds.length = ix.length → EE (S.blk scope) (setE (wipeE ρ (own.map (·.2))) ix ds) elt (me ds))
    (hs : ∀ (env : Env) (x : Value), foldedSetIterable it env x = pure x) :
    CompE S ρ (.ListComp elt [⟨tg, it, ifs, 0⟩] scope pos) (lcM mi u mt me) := by
  have hT : ∀ Y, OkY S Y → ∀ (s : Shared) (H : Hp) (C : Addr) (cl : List (Str × Addr)) (fp : List Addr), PTs ((S.cx Y).blk s H scope (compEnvC scope cl C (S.cx Y).env) fp) ifs
      (fun σ H Q => ∃ ds, ds.length = ix.length ∧ ∃ F g, ER S.pg F (setE (wipeE ρ (own.map (·.2))) ix ds) σ g H ∧ (mt ds g.st).Post (fun b st' => ∀ g' H', g'.st = st' → Stp S.pg g H g' H' → Q b H') fun _ _ => False) := fun Y ok s H C cl fp =>
    ⟨fun pins s2 σ H2 Q I ⟨ds, hl, F, g, E, q⟩ => (ht ds hl (Y.blk S s H scope C cl fp) (blk_ok ok)).run pins s2 σ H2 Q I ⟨F, g, E, q.imp (fun _ _ q => q) fun _ _ q => q.elim⟩⟩
  have hE : ∀ Y, OkY S Y → ∀ (s : Shared) (H : Hp) (C : Addr) (cl : List (Str × Addr)) (fp : List Addr), PE ((S.cx Y).blk s H scope (compEnvC scope cl C (S.cx Y).env) fp) elt
      (fun σ H Q => ∃ ds, ds.length = ix.length ∧ ∃ F g, ER S.pg F (setE (wipeE ρ (own.map (·.2))) ix ds) σ g H ∧ (me ds g.st).Post (Pv S.pg (RE S.pg) g H Q) fun _ _ => False) := fun Y ok s H C cl fp =>
    ⟨fun pins s2 σ H2 Q I ⟨ds, hl, F, g, E, q⟩ => (he ds hl (Y.blk S s H scope C cl fp) (blk_ok ok)).run pins s2 σ H2 Q I ⟨F, g, E, q.imp (fun _ _ q => q) fun _ _ q => q.elim⟩⟩
  refine ⟨fun Y => tLc (rdI S Y ρ (TS' S.pg) mi) _ _ _ (own.map (·.2)), fun Y ok => pe_lc (X := S.cx Y) rfl hN (hi Y ok) hok (fun s H C cl fp => hg (Y.blk S s H scope C cl fp) (blk_ok ok)) (hT Y ok) (hE Y ok) (hs _), fun Y ok σ H Q q => ?_, fun Y ok i y py spos hy hyl hsw => ?_⟩
  · exact lc_read (tt := fun _ => _) (te := fun _ => _) pu hlen hix ok q (fun v σ H Q h => h) (fun ds σ H Q hl h => ⟨ds, hl, h⟩) fun ds σ H Q hl h => ⟨ds, hl, h⟩
  · exact ps_setLc (X := S.cx Y) rfl hN hy hyl (hsw _ rfl) (hi Y ok) hok (fun s H C cl fp => hg (Y.blk S s H scope C cl fp) (blk_ok ok)) (hT Y ok) (hE Y ok) (hs _)
end
end DL
namespace DL
open PySem PySem.Spec PyProof.Rows L2
/-! ### statements -/
inductive Out (N B : Type) where
  | nx (n : N) | rt (d : D) | bk (b : B) | ct (b : B)
def seqO {N N' B : Type} (k : N → M (Out N' B)) : Out N B → M (Out N' B)
  | .nx n => k n
  | .rt d => pure (.rt d)
  | .bk b => pure (.bk b)
  | .ct b => pure (.ct b)
@[simp] theorem seqO_nx {N N' B : Type} (k : N → M (Out N' B)) (n : N) : seqO k (.nx n) = k n := Eq.trans rfl rfl
@[simp] theorem seqO_rt {N N' B : Type} (k : N → M (Out N' B)) (d : D) : seqO k (.rt d) = pure (.rt d) := Eq.trans rfl rfl
@[simp] theorem seqO_bk {N N' B : Type} (k : N → M (Out N' B)) (d : B) : seqO k (.bk d) = pure (.bk d) := Eq.trans rfl rfl
@[simp] theorem seqO_ct {N N' B : Type} (k : N → M (Out N' B)) (d : B) : seqO k (.ct d) = pure (.ct d) := Eq.trans rfl rfl
/-- what is wanted behind statements -/
def PoO {N B : Type} (p : Pg) (F : Fm) (g : Gs) (shN : N → Ev) (shB : B → Ev) (Dd : Ends) : Out N B → Store → Prop
  | .nx n, st' => ∀ σ' g' H', g'.st = st' → Ltr p g g' → ER p F (shN n) σ' g' H' → Dd.nx σ' H'
  | .rt d, st' => ∀ v g' H', g'.st = st' → Stp p F.g F.H g' H' → p.Rp g' v d → Dd.rt v H'
  | .bk b, st' => ∀ σ' g' H', g'.st = st' → Ltr p g g' → ER p F (shB b) σ' g' H' → Dd.bk σ' H'
  | .ct b, st' => ∀ σ' g' H', g'.st = st' → Ltr p g g' → ER p F (shB b) σ' g' H' → Dd.ct σ' H'
def PxO (S : Sta) (Y : Dyn) (F : Fm) (c : Nat) (st' : Store) : Prop := ∀ g' H', g'.st = st' → Stp S.pg F.g F.H g' H' → Y.W (.ref (S.pg.cA c)) none H'
def rdS {N B : Type} (S : Sta) (Y : Dyn) (ρ : Ev) (m : M (Out N B)) (shN : N → Ev) (shB : B → Ev) : TS := fun Dd σ H => ∃ F g, ER S.pg F ρ σ g H ∧ (m g.st).Post (PoO S.pg F g shN shB Dd) (PxO S Y F)
def SB {N B : Type} (S : Sta) (ρ : Ev) (sts : List Stmt) (m : M (Out N B)) (shN : N → Ev) (shB : B → Ev) : Prop := ∀ Y, OkY S Y → PSs (S.cx Y) sts (rdS S Y ρ m shN shB)
theorem PoO.back {N B : Type} {p : Pg} {F : Fm} {g g1 : Gs} {shN : N → Ev} {shB : B → Ev} {Dd : Ends} {o : Out N B} {st' : Store} (l : Ltr p g g1) (h : PoO p F g shN shB Dd o st') : PoO p F g1 shN shB Dd o st' := by
  cases o with
  | nx n => exact fun σ' g' H' e l2 E => h σ' g' H' e (l.trans l2) E
  | rt d => exact h
  | bk b => exact fun σ' g' H' e l2 E => h σ' g' H' e (l.trans l2) E
  | ct b => exact fun σ' g' H' e l2 E => h σ' g' H' e (l.trans l2) E
section
variable {S : Sta} {ρ ρ' : Ev} {a b c tg it e elt : Expr} {st : Stmt} {body rest ta tb : List Stmt} {tgs : List Expr} {ma mb mc m : M D} {mi : M (List D)} {pos p p2 : Pos} {N B : Type} {shN : N → Ev} {shB : B → Ev}
/-- an expression in a statement: its exceptions are the statement's -/
theorem PxO.of {Y : Dyn} {F : Fm} {σ : L2.St} {g : Gs} {H : Hp} {c : Nat} {st' : Store} (E : ER S.pg F ρ σ g H) (h : PxO S Y F c st') : Px S Y g H c st' :=
  fun g' H' e s => h g' H' e (E.fr.trans E.fw s)
theorem rdS.expr {Y : Dyn} {F : Fm} {σ : L2.St} {g : Gs} {H : Hp} {R : Rel} {N' B' : Type} {k : D → M (Out N' B')} {shN : N' → Ev} {shB : B' → Ev} {Dd : Ends} {Q : VK} (E : ER S.pg F ρ σ g H) (q : ((m >>= k) g.st).Post (PoO S.pg F g shN shB Dd) (PxO S Y F))
    (h : ∀ d v g' H', Stp S.pg g H g' H' → ER S.pg F ρ σ g' H' → R H g' H' v d → (k d g'.st).Post (PoO S.pg F g' shN shB Dd) (PxO S Y F) → Q v H') : rdX S Y ρ R m σ H Q :=
  ⟨F, g, E, (post_bind q).imp (fun d st' q v g' H' e s r => h d v g' H' s (E.step s) r (by rw [e]; exact q.imp (fun _ _ q => q.back s.ltr) fun _ _ q => q)) fun _ _ q => PxO.of E q⟩
theorem rdS.test {Y : Dyn} {F : Fm} {σ : L2.St} {g : Gs} {H : Hp} {N' B' : Type} {t : M Bool} {k : Bool → M (Out N' B')} {shN : N' → Ev} {shB : B' → Ev} {Dd : Ends} {Q : Bool → Hp → Prop} (E : ER S.pg F ρ σ g H) (q : ((t >>= k) g.st).Post (PoO S.pg F g shN shB Dd) (PxO S Y F))
    (h : ∀ d g' H', Stp S.pg g H g' H' → ER S.pg F ρ σ g' H' → (k d g'.st).Post (PoO S.pg F g' shN shB Dd) (PxO S Y F) → Q d H') : rdT S Y ρ t σ H Q :=
  ⟨F, g, E, (post_bind q).imp (fun d st' q g' H' e s => h d g' H' s (E.step s) (by rw [e]; exact q.imp (fun _ _ q => q.back s.ltr) fun _ _ q => q)) fun _ _ q => PxO.of E q⟩
theorem sb_pre {m : M (Out N B)} (h : SB S ρ' rest m shN shB) (l : Le ρ' ρ) : SB S ρ rest m shN shB := fun Y ok => (h Y ok).pre fun Dd σ H ⟨F, g, E, q⟩ => ⟨F, g, E.weak l, q⟩
theorem sb_nil {n : N} (l : Le (shN n) ρ) : SB S ρ [] (pure (.nx n)) shN shB := fun Y ok => pss_nil.pre fun Dd σ H ⟨F, g, E, q⟩ => (post_pure q) σ g H rfl (.refl g) (E.weak l)
/-- name = e -/
theorem sb_asg (i : Nat) {x : Str} {k : D → M (Out N B)} (hnd : S.N.Nodup) (hN : S.N[i]? = some x) (hx : Loc S.sc x) (he : EE S ρ e m) (hr : ∀ d, SB S (ρ.set i (.sh d)) rest (k d) shN shB) (hs : ∀ env : Env, env.scope = S.sc → swapsWith e (some (.Name x p2)) pos.line env = pure false) (hf : S.fn x = true ∨ S.sc.names.lookup x = some .local) :
    SB S ρ (.Assign [.Name x p2] e pos :: rest) (m >>= k) shN shB := fun Y ok => by
  have hR : PSs (S.cx Y) rest (fun Dd σ H => ∃ d, rdS S Y (ρ.set i (.sh d)) (k d) shN shB Dd σ H) := ⟨fun pins s σ H Dd I ⟨d, q⟩ => (hr d Y ok).run pins s σ H Dd I q⟩
  refine (pss_cons (ps_set (X := S.cx Y) (i := i) hnd hN hx (he Y ok) (hs _ rfl) hf) hR).pre fun Dd σ H ⟨F, g, E, q⟩ => ?_
  exact rdS.expr E q fun d v g' H' s E' r q => ⟨d, F, g', E'.set r, q⟩
/-- .. a fresh list or dict, that the name alone holds -/
theorem sb_asgN (i : Nat) {x : Str} {k : D → M (Out N B)} (hnd : S.N.Nodup) (hN : S.N[i]? = some x) (hx : Loc S.sc x) (he : EN S ρ e m) (hr : ∀ d, SB S (ρ.set i (.ow d)) rest (k d) shN shB) (hs : ∀ env : Env, env.scope = S.sc → swapsWith e (some (.Name x p2)) pos.line env = pure false) (hf : S.fn x = true ∨ S.sc.names.lookup x = some .local) :
    SB S ρ (.Assign [.Name x p2] e pos :: rest) (m >>= k) shN shB := fun Y ok => by
  have hR : PSs (S.cx Y) rest (fun Dd σ H => ∃ d, rdS S Y (ρ.set i (.ow d)) (k d) shN shB Dd σ H) := ⟨fun pins s σ H Dd I ⟨d, q⟩ => (hr d Y ok).run pins s σ H Dd I q⟩
  refine (pss_cons (ps_set (X := S.cx Y) (i := i) hnd hN hx (he Y ok) (hs _ rfl) hf) hR).pre fun Dd σ H ⟨F, g, E, q⟩ => ?_
  exact rdS.expr E q fun d v g' H' s E' r q => ⟨d, F, g', E.setOwn s r, q⟩
/-- .. a comprehension, its list not written later -/
theorem sb_asgC (i : Nat) {x : Str} {k : D → M (Out N B)} (hnd : S.N.Nodup) (hN : S.N[i]? = some x) (hx : S.sc.names.lookup x = some .local) (he : CompE S ρ e m) (nd : NoDict m) (hr : ∀ d, SB S (ρ.set i (.sh d)) rest (k d) shN shB) (hs : ∀ env : Env, env.scope = S.sc → swapsWith e (some (.Name x p2)) pos.line env = pure true) :
    SB S ρ (.Assign [.Name x p2] e pos :: rest) (m >>= k) shN shB := fun Y ok => by
  have hR : PSs (S.cx Y) rest (fun Dd σ H => ∃ d, rdS S Y (ρ.set i (.sh d)) (k d) shN shB Dd σ H) := ⟨fun pins s σ H Dd I ⟨d, q⟩ => (hr d Y ok).run pins s σ H Dd I q⟩
  obtain ⟨t, h1, h2, h3⟩ := he
  refine (pss_cons (h3 Y ok i x p2 pos hN hx hs) hR).pre fun Dd σ H ⟨F, g, E, q⟩ => h2 Y ok σ H _ ?_
  have em : (m >>= k) g.st = (m >>= fun d => if isDict d = true then stuck else k d) g.st := by
    rw [bind_run, bind_run]
    cases em : m g.st with
    | ok d s' => simp only [nd _ _ _ em, if_neg Bool.false_ne_true]
    | _ => rfl
  rw [em] at q
  refine rdS.expr E q fun d v g' H' s E' r q => ?_
  have ndd : isDict d = false := by
    cases z : isDict d with
    | false => rfl
    | true => simp only [z, if_true] at q; exact q.elim
  simp only [ndd, if_neg Bool.false_ne_true] at q
  obtain ⟨g2, e2, s2, r2, l1, l2⟩ := NewR.frozen E.wf s r ndd
  refine ⟨d, F, g2, (E.step s2).set r2, ?_⟩
  rw [e2]
  exact q.imp (fun o st' q => q.back ⟨l1, l2⟩) fun _ _ q => q
/-- .. written later -/
theorem sb_asgCN (i : Nat) {x : Str} {k : D → M (Out N B)} (hnd : S.N.Nodup) (hN : S.N[i]? = some x) (hx : S.sc.names.lookup x = some .local) (he : CompE S ρ e m) (hr : ∀ d, SB S (ρ.set i (.ow d)) rest (k d) shN shB) (hs : ∀ env : Env, env.scope = S.sc → swapsWith e (some (.Name x p2)) pos.line env = pure true) :
    SB S ρ (.Assign [.Name x p2] e pos :: rest) (m >>= k) shN shB := fun Y ok => by
  have hR : PSs (S.cx Y) rest (fun Dd σ H => ∃ d, rdS S Y (ρ.set i (.ow d)) (k d) shN shB Dd σ H) := ⟨fun pins s σ H Dd I ⟨d, q⟩ => (hr d Y ok).run pins s σ H Dd I q⟩
  obtain ⟨t, h1, h2, h3⟩ := he
  refine (pss_cons (h3 Y ok i x p2 pos hN hx hs) hR).pre fun Dd σ H ⟨F, g, E, q⟩ => h2 Y ok σ H _ ?_
  exact rdS.expr E q fun d v g' H' s E' r q => ⟨d, F, g', E.setOwn s r, q⟩
/-- a slot is frozen -/
theorem ER.freeze {p : Pg} {F : Fm} {σ : L2.St} {g : Gs} {H : Hp} (E : ER p F ρ σ g H) {i : Nat} {d : D} (hi : ρ[i]? = some (.ow d)) (nd : isDict d = false) : ∃ g', g'.st = g.st ∧ Ltr p g g' ∧ ER p F (ρ.set i (.sh d)) σ g' H := by
  have h := E.sl i _ hi
  cases es : σ[i]? with
  | none => rw [es] at h; exact h.elim
  | some o =>
    rw [es] at h
    cases o with
    | none => exact h.elim
    | some v =>
      obtain ⟨a, rfl, o, hG, ha, hF⟩ := h
      obtain ⟨u, e, wf', le, r⟩ := o.frozen E.wf hG ha nd
      refine ⟨{ g with G := upd g.G a u }, rfl, ⟨le, List.prefix_refl _⟩, ⟨by rw [List.length_set]; exact E.len, fun j s hj => ?_, fun x y d1 e1 h1 h2 h3 => ?_, ⟨fun b x q => le b x (E.fr.gle b x q), E.fr.aml, E.fr.keep, fun b x q => ?_, E.fr.amn, wf'⟩, E.fw⟩⟩
      · by_cases z : i = j
        · subst z
          have hl : i < ρ.length := (List.getElem?_eq_some_iff.mp hi).1
          rw [List.getElem?_set_self hl] at hj
          cases hj
          rw [es]
          exact r
        · rw [List.getElem?_set_ne z] at hj
          have h := E.sl j s hj
          cases s with
          | un => cases σ[j]?.join <;> exact True.intro
          | sh d2 =>
            cases e3 : σ[j]?.join with
            | none => rw [e3] at h; exact h.elim
            | some v => rw [e3] at h; exact Rp.mono le (List.prefix_refl _) h
          | ow d2 =>
            cases e3 : σ[j]?.join with
            | none => rw [e3] at h; exact h.elim
            | some v =>
              rw [e3] at h
              obtain ⟨b, rfl, o2, hG2, ha2, hF2⟩ := h
              have hab : b ≠ a := fun z2 => by
                subst z2
                refine z (E.dist i j d d2 hi hj ?_)
                rw [es]
                cases e4 : σ[j]? with
                | none => rw [e4] at e3; cases e3
                | some w =>
                  rw [e4] at e3
                  cases w with
                  | none => cases e3
                  | some w => cases e3; rfl
              refine ⟨b, rfl, o2.mono le (List.prefix_refl _) rfl, ?_, ha2, hF2⟩
              show upd g.G a u b = none
              rw [upd_ne hab]
              exact hG2
          | bo d2 =>
            cases e3 : σ[j]?.join with
            | none => rw [e3] at h; exact h.elim
            | some v =>
              rw [e3] at h
              rcases h with h | ⟨b, rfl, n, o2, hF2⟩
              · exact .inl (Rp.mono le (List.prefix_refl _) h)
              · exact .inr ⟨b, rfl, n, o2.mono le (List.prefix_refl _) rfl, hF2⟩
      · have ne : ∀ {c : Nat} {x : D}, (ρ.set i (.sh d))[c]? = some (.ow x) → ρ[c]? = some (.ow x) := fun {c x} h => by
          by_cases z : i = c
          · subst z
            have hl : i < ρ.length := (List.getElem?_eq_some_iff.mp hi).1
            rw [List.getElem?_set_self hl] at h; cases h
          · rw [List.getElem?_set_ne z] at h; exact h
        exact E.dist x y d1 e1 (ne h1) (ne h2) h3
      · have q : upd g.G a u b = some x := q
        by_cases z : b = a
        · subst z; exact .inr (.inl hF)
        · rw [upd_ne z] at q; exact E.fr.gnew b x q
theorem ER.freezeD {p : Pg} {F : Fm} {σ : L2.St} {g : Gs} {H : Hp} (E : ER p F ρ σ g H) {i : Nat} {d : D} (hi : ρ[i]? = some (.ow d)) (nd : isDict d = true) :
    ∃ a u, H a = some u ∧ Mut (some u) ∧ ∀ od, ∃ g', g'.st = g.st ∧ Ltr p g g' ∧ ER p F (ρ.set i (.sh d)) σ g' (upd H a (.frz od u)) := by
  have h := E.sl i _ hi
  cases es : σ[i]? with
  | none => rw [es] at h; exact h.elim
  | some o =>
    rw [es] at h
    cases o with
    | none => exact h.elim
    | some v =>
      obtain ⟨a, rfl, o, hG, ha, hF⟩ := h
      obtain ⟨u, e, mu, hh⟩ := o.locked E.wf hG ha nd
      refine ⟨a, u, e, mu, fun od => ?_⟩
      obtain ⟨wf', le, r⟩ := hh od
      refine ⟨{ g with G := upd g.G a (.frz od u) }, rfl, ⟨le, List.prefix_refl _⟩, ⟨by rw [List.length_set]; exact E.len, fun j s hj => ?_, fun x y d1 e1 h1 h2 h3 => ?_, ⟨fun b x q => le b x (E.fr.gle b x q), E.fr.aml, fun b x q n => ?_, fun b x q => ?_, E.fr.amn, wf'⟩, E.fw⟩⟩
      · by_cases z : i = j
        · subst z
          have hl : i < ρ.length := (List.getElem?_eq_some_iff.mp hi).1
          rw [List.getElem?_set_self hl] at hj
          cases hj
          rw [es]
          exact r
        · rw [List.getElem?_set_ne z] at hj
          have h := E.sl j s hj
          cases s with
          | un => cases σ[j]?.join <;> exact True.intro
          | sh d2 =>
            cases e3 : σ[j]?.join with
            | none => rw [e3] at h; exact h.elim
            | some v => rw [e3] at h; exact Rp.mono le (List.prefix_refl _) h
          | ow d2 =>
            cases e3 : σ[j]?.join with
            | none => rw [e3] at h; exact h.elim
            | some v =>
              rw [e3] at h
              obtain ⟨b, rfl, o2, hG2, ha2, hF2⟩ := h
              have hab : b ≠ a := fun z2 => by
                subst z2
                refine z (E.dist i j d d2 hi hj ?_)
                rw [es]
                cases e4 : σ[j]? with
                | none => rw [e4] at e3; cases e3
                | some w =>
                  rw [e4] at e3
                  cases w with
                  | none => cases e3
                  | some w => cases e3; rfl
              refine ⟨b, rfl, o2.mono le (List.prefix_refl _) (upd_ne hab), ?_, ha2, hF2⟩
              show upd g.G a _ b = none
              rw [upd_ne hab]
              exact hG2
          | bo d2 =>
            cases e3 : σ[j]?.join with
            | none => rw [e3] at h; exact h.elim
            | some v =>
              rw [e3] at h
              rcases h with h | ⟨b, rfl, n, o2, o3, hF2⟩
              · exact .inl (Rp.mono le (List.prefix_refl _) h)
              · exact .inr ⟨b, rfl, n, o2.mono le (List.prefix_refl _) (upd_ne (ne_of_none hF2 hF)), o3, hF2⟩
      · have ne : ∀ {c : Nat} {x : D}, (ρ.set i (.sh d))[c]? = some (.ow x) → ρ[c]? = some (.ow x) := fun {c x} h => by
          by_cases z : i = c
          · subst z
            have hl : i < ρ.length := (List.getElem?_eq_some_iff.mp hi).1
            rw [List.getElem?_set_self hl] at h; cases h
          · rw [List.getElem?_set_ne z] at h; exact h
        exact E.dist x y d1 e1 (ne h1) (ne h2) h3
      · rw [upd_ne (ne_of_none q hF)]
        exact E.fr.keep b x q n
      · have q : upd g.G a (.frz od u) b = some x := q
        by_cases z : b = a
        · subst z; exact .inr (.inl hF)
        · rw [upd_ne z] at q; exact E.fr.gnew b x q
theorem sb_freeze (i : Nat) {d : D} {m : M (Out N B)} (hi : ρ[i]? = some (.ow d)) (h : SB S (ρ.set i (.sh d)) rest m shN shB) : SB S ρ rest m shN shB := fun Y ok => ⟨fun pins s σ H Dd I ⟨F, g, E, q⟩ => by
  have fin : ∀ g' : Gs, g'.st = g.st → Ltr S.pg g g' → (m g'.st).Post (PoO S.pg F g' shN shB Dd) (PxO S Y F) := fun g' e l => by
    rw [e]
    exact q.imp (fun _ _ q => q.back l) fun _ _ q => q
  cases nd : isDict d with
  | false =>
    obtain ⟨g', e, l, E'⟩ := E.freeze hi nd
    exact (h Y ok).run pins s σ H Dd I ⟨F, g', E', fin g' e l⟩
  | true =>
    obtain ⟨a, u, eu, mu, hh⟩ := E.freezeD hi nd
    obtain ⟨od, I2⟩ := I.lock eu mu
    obtain ⟨g', e, l, E'⟩ := hh od
    exact (h Y ok).run pins s σ _ Dd I2 ⟨F, g', E', fin g' e l⟩⟩
/-- a, b = e -/
theorem sb_asgT {u : D → M (List D)} {ix : List Nat} {k : List D → M (Out N B)} (he : EE S ρ e m) (hg : TG S tg u ix) (pu : Pure1 u) (hlen : Len1 u ix.length) (hr : ∀ ds, ds.length = ix.length → SB S (setE ρ ix ds) rest (k ds) shN shB)
    (hs : ∀ env : Env, env.scope = S.sc → swapsWithSole [tg] e pos.line env = pure false) (hw : ∀ env : Env, env.scope = S.sc → swappedStores [tg] e env = pure none) (h1 : ∀ env : Env, (assignEach [tg] env).map (·.2) = [assign tg env]) :
    SB S ρ (.Assign [tg] e pos :: rest) (m >>= fun d => u d >>= k) shN shB := fun Y ok => by
  have hR : PSs (S.cx Y) rest (fun Dd σ H => ∃ ds, ds.length = ix.length ∧ rdS S Y (setE ρ ix ds) (k ds) shN shB Dd σ H) := ⟨fun pins s σ H Dd I ⟨d, hl, q⟩ => (hr d hl Y ok).run pins s σ H Dd I q⟩
  refine (pss_cons (ps_asg (X := S.cx Y) (he Y ok) (hg Y ok) (hs _ rfl) (hw _ rfl) (h1 _)) hR).pre fun Dd σ H ⟨F, g, E, q⟩ => ?_
  refine rdS.expr E q fun d v g' H' s E' r q => ⟨g', d, E'.wf, r, ?_⟩
  have q := post_bind q
  cases e1 : u d g'.st with
  | stuck => rw [e1] at q; exact q
  | exc c s => exact (pu.nx _ _ _ _ e1).elim
  | ok ds s1 =>
    rw [e1] at q
    intro es ws rw1
    subst es
    exact ⟨ds, hlen _ _ _ _ e1, F, g', E'.setMany ix rw1, q⟩
/-- an expression whose value is dropped -/
theorem sb_expr {k : M (Out N B)} (he : EL S ρ e m) (hr : SB S ρ rest k shN shB) (hs : ∀ env : Env, swapsWith e none pos.line env = pure false) : SB S ρ (.Expr e pos :: rest) (m >>= fun _ => k) shN shB := fun Y ok =>
  (pss_cons (ps_expr (he Y ok) (hs _)) (hr Y ok)).pre fun Dd σ H ⟨F, g, E, q⟩ => rdS.expr E q fun d v g' H' s E' r q => ⟨F, g', E', q⟩
theorem sb_pass {m : M (Out N B)} (hr : SB S ρ rest m shN shB) : SB S ρ (.Pass pos :: rest) m shN shB := fun Y ok => (pss_cons ps_pass (hr Y ok)).pre fun Dd σ H q => q
/-- return -/
theorem sb_ret (he : EE S ρ e m) : SB S ρ (.Return (some e) pos :: rest) (m >>= fun d => pure (.rt d)) shN shB := fun Y ok =>
  (pss_cons (ps_ret (he Y ok)) pss_never).pre fun Dd σ H ⟨F, g, E, q⟩ => rdS.expr E q fun d v g' H' s E' r q => (post_pure q) v g' H' rfl E'.fr r
theorem sb_retN : SB S ρ (.Return none pos :: rest) (pure (.rt .non)) shN shB := fun Y ok =>
  (pss_cons ps_retN pss_never).pre fun Dd σ H ⟨F, g, E, q⟩ => (post_pure q) .non g H rfl E.fr .non
theorem sb_break {n : B} (l : Le (shB n) ρ) : SB S ρ (.Break pos :: rest) (pure (.bk n)) shN shB := fun Y ok =>
  (pss_cons ps_break pss_never).pre fun Dd σ H ⟨F, g, E, q⟩ => (post_pure q) σ g H rfl (.refl g) (E.weak l)
theorem sb_cont {n : B} (l : Le (shB n) ρ) : SB S ρ (.Continue pos :: rest) (pure (.ct n)) shN shB := fun Y ok =>
  (pss_cons ps_continue pss_never).pre fun Dd σ H ⟨F, g, E, q⟩ => (post_pure q) σ g H rfl (.refl g) (E.weak l)
/-- if -/
theorem sb_if {J : Type} {shJ : J → Ev} {t : M Bool} {mA mB : M (Out J B)} {k : J → M (Out N B)} (hc : ET S ρ c t) (hA : SB S ρ ta mA shJ shB) (hB : SB S ρ tb mB shJ shB) (hr : ∀ j, SB S (shJ j) rest (k j) shN shB) :
    SB S ρ (.If c ta tb pos :: rest) (t >>= fun b => (if b = true then mA else mB) >>= seqO k) shN shB := fun Y ok => by
  have hR : PSs (S.cx Y) rest (fun Dd σ H => ∃ j, rdS S Y (shJ j) (k j) shN shB Dd σ H) := ⟨fun pins s σ H Dd I ⟨d, q⟩ => (hr d Y ok).run pins s σ H Dd I q⟩
  refine (pss_cons (ps_if (hc Y ok) (hA Y ok) (hB Y ok)) hR).pre fun Dd σ H ⟨F, g, E, q⟩ => ?_
  refine rdS.test E q fun b g' H' s E' q => ?_
  have core : ∀ mX : M (Out J B), ((mX >>= seqO k) g'.st).Post (PoO S.pg F g' shN shB Dd) (PxO S Y F) → rdS S Y ρ mX shJ shB { Dd with nx := fun σ H => ∃ j, rdS S Y (shJ j) (k j) shN shB Dd σ H } σ H' := fun mX q =>
    ⟨F, g', E', (post_bind q).imp (fun o st' q => by
      cases o with
      | nx j => exact fun σ2 g2 H2 e l E2 => ⟨j, F, g2, E2, by rw [e]; exact q.imp (fun _ _ q => q.back l) fun _ _ q => q⟩
      | rt d => exact q
      | bk b => exact q
      | ct b => exact q) fun _ _ q => q⟩
  by_cases z : b = true
  · rw [if_pos z] at q ⊢
    exact core mA q
  · rw [if_neg z] at q ⊢
    exact core mB q
/-! loops -/
def forL {Z B : Type} (step : Z → D → M (Out Z Z)) : Z → List D → M (Out Z B)
  | s, [] => pure (.nx s)
  | s, d :: r => step s d >>= fun o => match o with
    | .nx s' => forL step s' r
    | .ct s' => forL step s' r
    | .bk s' => pure (.nx s')
    | .rt v => pure (.rt v)
def whileL {Z B : Type} (t : Z → M Bool) (step : Z → M (Out Z Z)) : Nat → Z → M (Out Z B)
  | 0, _ => stuck
  | n + 1, s => t s >>= fun b => if b = true then step s >>= fun o => match o with
    | .nx s' => whileL t step n s'
    | .ct s' => whileL t step n s'
    | .bk s' => pure (.nx s')
    | .rt v => pure (.rt v) else pure (.nx s)
theorem sb_for {Z : Type} {sh : Z → Ev} {s0 : Z} {u : D → M (List D)} {ix : List Nat} {step : Z → List D → M (Out Z Z)} {k : Z → M (Out N B)} (hi : EI S ρ (TL S.pg) tg it mi) (hg : TG S tg u ix) (pu : Pure1 u) (hlen : Len1 u ix.length) (h0 : Le (sh s0) ρ)
    (hb : ∀ s ds, ds.length = ix.length → SB S (setE (sh s) ix ds) body (step s ds) sh sh) (hr : ∀ s, SB S (sh s) rest (k s) shN shB) (hs : ∀ (env : Env) (x : Value), foldedSetIterable it env x = pure x) :
    SB S ρ (.For tg it body [] pos :: rest) (mi >>= fun xs => forL (fun s x => u x >>= step s) s0 xs >>= seqO k) shN shB := fun Y ok => by
  have hR : PSs (S.cx Y) rest (fun Dd σ H => ∃ j, rdS S Y (sh j) (k j) shN shB Dd σ H) := ⟨fun pins s σ H Dd I ⟨d, q⟩ => (hr d Y ok).run pins s σ H Dd I q⟩
  have hB : PSs (S.cx Y) body (fun Dd σ H => ∃ s ds, ds.length = ix.length ∧ rdS S Y (setE (sh s) ix ds) (step s ds) sh sh Dd σ H) := ⟨fun pins s σ H Dd I ⟨z, d, hl, q⟩ => (hb z d hl Y ok).run pins s σ H Dd I q⟩
  refine (pss_cons (ps_for (X := S.cx Y) ok.pass rfl (hi Y ok) (hg Y ok) hB (hs _)) hR).pre fun Dd σ H ⟨F, g, E, q⟩ => ?_
  refine ⟨F, g, E, (post_bind q).imp (fun xs st' q J g1 H1 e1 s1 wk => ?_) fun _ _ q => PxO.of E q⟩
  subst e1
  have E1 := E.step s1
  refine ⟨fun i m σ H => i ≤ xs.length ∧ m = xs.length - i ∧ ∃ g2 s, ER S.pg F (sh s) σ g2 H ∧ Ltr S.pg g1 g2 ∧ ((forL (fun s x => u x >>= step s) s (xs.drop i) >>= seqO k) g2.st).Post (PoO S.pg F g shN shB Dd) (PxO S Y F),
    ⟨xs.length, Nat.zero_le _, rfl, g1, s0, E1.weak h0, .refl g1, q⟩, ?_⟩
  rintro i m σ2 H2 ⟨hi, rfl, g2, s, E2, l2, q⟩
  have lg : Ltr S.pg g g2 := s1.ltr.trans l2
  by_cases hlt : i < xs.length
  · refine .inr ⟨wk.goes i g2 H2 hlt E2.wf l2, fun σ' H' => i + 1 ≤ xs.length ∧ ∃ g2 s, ER S.pg F (sh s) σ' g2 H' ∧ Ltr S.pg g1 g2 ∧ ((forL (fun s x => u x >>= step s) s (xs.drop (i + 1)) >>= seqO k) g2.st).Post (PoO S.pg F g shN shB Dd) (PxO S Y F),
      fun σ' H' h => ⟨xs.length - (i + 1), by omega, h.1, rfl, h.2⟩, fun x H' hy => ?_⟩
    obtain ⟨g3, d, e3, s3, hd, rx⟩ := wk.yields i g2 H2 x H' hlt E2.wf l2 hy
    have ed : xs.drop i = d :: xs.drop (i + 1) := by
      rw [List.drop_eq_getElem_cons hlt]
      rw [List.getElem?_eq_getElem hlt] at hd
      cases hd; rfl
    rw [ed, forL, bind_assoc', bind_assoc'] at q
    refine ⟨g3, d, s3.wf, rx, ?_⟩
    rw [← e3] at q
    have q := post_bind q
    cases eu : u d g3.st with
    | stuck => rw [eu] at q; exact q
    | exc c s => exact (pu.nx _ _ _ _ eu).elim
    | ok ds st4 =>
      rw [eu] at q
      intro es ws rws
      subst es
      refine ⟨s, ds, hlen _ _ _ _ eu, F, g3, (E2.step s3).setMany ix rws, (post_bind q).imp (fun o st5 q => ?_) fun _ _ q => q⟩
      cases o with
      | nx z => exact fun σ5 g5 H5 e5 l5 E5 => ⟨hlt, g5, z, E5, (l2.trans s3.ltr).trans l5, by rw [e5]; exact q⟩
      | ct z => exact fun σ5 g5 H5 e5 l5 E5 => ⟨hlt, g5, z, E5, (l2.trans s3.ltr).trans l5, by rw [e5]; exact q⟩
      | bk z => exact fun σ5 g5 H5 e5 l5 E5 => ⟨z, F, g5, E5, by rw [e5]; exact q.imp (fun _ _ q => q.back ((lg.trans s3.ltr).trans l5)) fun _ _ q => q⟩
      | rt v => exact q
  · have ei : i = xs.length := by omega
    subst ei
    rw [List.drop_length, forL] at q
    exact .inl ⟨wk.stops g2 H2 E2.wf l2, s, F, g2, E2, q.imp (fun _ _ q => q.back lg) fun _ _ q => q⟩
theorem sb_while {Z : Type} {sh : Z → Ev} {s0 : Z} {t : Z → M Bool} {step : Z → M (Out Z Z)} {k : Z → M (Out N B)} {fuel : Nat} (hc : ∀ s, ET S (sh s) c (t s)) (h0 : Le (sh s0) ρ)
    (hb : ∀ s, SB S (sh s) body (step s) sh sh) (hr : ∀ s, SB S (sh s) rest (k s) shN shB) : SB S ρ (.While c body [] pos :: rest) (whileL t step fuel s0 >>= seqO k) shN shB := fun Y ok => by
  have hR : PSs (S.cx Y) rest (fun Dd σ H => ∃ j, rdS S Y (sh j) (k j) shN shB Dd σ H) := ⟨fun pins s σ H Dd I ⟨d, q⟩ => (hr d Y ok).run pins s σ H Dd I q⟩
  have hB : PSs (S.cx Y) body (fun Dd σ H => ∃ s, rdS S Y (sh s) (step s) sh sh Dd σ H) := ⟨fun pins s σ H Dd I ⟨z, q⟩ => (hb z Y ok).run pins s σ H Dd I q⟩
  have hC : PT (S.cx Y) c (fun σ H Q => ∃ s, rdT S Y (sh s) (t s) σ H Q) := ⟨fun pins st σ H Q I ⟨z, q⟩ => (hc z Y ok).run pins st σ H Q I q⟩
  refine (pss_cons (ps_while (X := S.cx Y) ok.pass hC hB) hR).pre fun Dd σ H ⟨F, g, E, q⟩ => ?_
  refine ⟨fun m σ H => ∃ g2 s, ER S.pg F (sh s) σ g2 H ∧ Ltr S.pg g g2 ∧ ((whileL t step m s >>= seqO k) g2.st).Post (PoO S.pg F g shN shB Dd) (PxO S Y F), ⟨fuel, g, s0, E.weak h0, .refl g, q⟩, ?_⟩
  rintro m σ2 H2 ⟨g2, s, E2, l2, q⟩
  cases m with
  | zero => exact False.elim q
  | succ n =>
    rw [whileL, bind_assoc'] at q
    refine ⟨s, F, g2, E2, (post_bind q).imp (fun b st' q g3 H3 e3 s3 => ?_) fun _ _ q => PxO.of E2 q⟩
    subst e3
    have E3 := E2.step s3
    have l3 := l2.trans s3.ltr
    by_cases z : b = true
    · rw [if_pos z] at q ⊢
      rw [bind_assoc'] at q
      refine ⟨fun σ' H' => ∃ g2 s, ER S.pg F (sh s) σ' g2 H' ∧ Ltr S.pg g g2 ∧ ((whileL t step n s >>= seqO k) g2.st).Post (PoO S.pg F g shN shB Dd) (PxO S Y F), fun σ' H' h => ⟨n, Nat.lt_succ_self n, h⟩, s, F, g3, E3, (post_bind q).imp (fun o st5 q => ?_) fun _ _ q => q⟩
      cases o with
      | nx z => exact fun σ5 g5 H5 e5 l5 E5 => ⟨g5, z, E5, l3.trans l5, by rw [e5]; exact q⟩
      | ct z => exact fun σ5 g5 H5 e5 l5 E5 => ⟨g5, z, E5, l3.trans l5, by rw [e5]; exact q⟩
      | bk z => exact fun σ5 g5 H5 e5 l5 E5 => ⟨z, F, g5, E5, by rw [e5]; exact q.imp (fun _ _ q => q.back (l3.trans l5)) fun _ _ q => q⟩
      | rt v => exact q
    · rw [if_neg z] at q ⊢
      exact ⟨s, F, g3, E3, q.imp (fun _ _ q => q.back l3) fun _ _ q => q⟩
end
end DL
namespace DL
open PySem PySem.Spec PyProof.Rows L2
/-! ### a list or dict that a name alone holds is written -/
section
variable {p : Pg} {F : Fm} {ρ : Ev} {σ : L2.St} {g : Gs} {H : Hp}
theorem ER.updOwn (E : ER p F ρ σ g H) {i : Nat} {d d' : D} (hi : ρ[i]? = some (.ow d)) {a : Addr} (hv : σ[i]? = some (some (.ref a))) {o : HO} (h' : Own p g (upd H a o) a d') : ER p F (ρ.set i (.ow d')) σ g (upd H a o) := by
  have h := E.sl i _ hi
  rw [hv] at h
  obtain ⟨a', e, o0, hG, ha, hF⟩ := h
  cases e
  obtain ⟨u, hu, nt, mu, no⟩ := o0.at
  have wf' : Wf p g (upd H a o) := by
    refine ⟨fun b x e => ?_, E.wf.amG, E.wf.nd, E.wf.len, fun k b c e1 e2 => ?_⟩
    · rw [upd_ne (ne_of_none e hG)]
      exact E.wf.sub b x e
    · have hb : b ≠ a := fun z => ha (by rw [← z]; exact List.mem_of_getElem? e1)
      refine (E.wf.cell k b c e1 e2).mono (fun _ _ e => e) (List.prefix_refl _) (upd_ne hb) fun dx e => ?_
      rw [upd_ne (ne_of e hu fun z => no b z.symm)]
      exact e
  refine ⟨by rw [List.length_set]; exact E.len, fun j s hj => ?_, fun x y d1 e1 h1 h2 h3 => ?_, ⟨E.fr.gle, E.fr.aml, fun b x e n => ?_, E.fr.gnew, E.fr.amn, wf'⟩, E.fw⟩
  · by_cases z : i = j
    · subst z
      have hl : i < ρ.length := (List.getElem?_eq_some_iff.mp hi).1
      rw [List.getElem?_set_self hl] at hj
      cases hj
      rw [hv]
      exact ⟨a, rfl, h', hG, ha, hF⟩
    · rw [List.getElem?_set_ne z] at hj
      have h := E.sl j s hj
      cases s with
      | un => cases σ[j]?.join <;> exact True.intro
      | sh d2 =>
        cases e3 : σ[j]?.join with
        | none => rw [e3] at h; exact h.elim
        | some v => rw [e3] at h; exact h
      | ow d2 =>
        cases e3 : σ[j]?.join with
        | none => rw [e3] at h; exact h.elim
        | some v =>
          rw [e3] at h
          obtain ⟨b, rfl, o2, hG2, ha2, hF2⟩ := h
          have hab : b ≠ a := fun z2 => by
            subst z2
            refine z (E.dist i j d d2 hi hj ?_)
            rw [hv]
            cases e4 : σ[j]? with
            | none => rw [e4] at e3; cases e3
            | some w =>
              rw [e4] at e3
              cases w with
              | none => cases e3
              | some w => cases e3; rfl
          exact ⟨b, rfl, o2.mono (fun _ _ e => e) (List.prefix_refl _) (upd_ne hab), hG2, ha2, hF2⟩
      | bo d2 =>
        cases e3 : σ[j]?.join with
        | none => rw [e3] at h; exact h.elim
        | some v =>
          rw [e3] at h
          rcases h with h | ⟨b, rfl, n, o2, o3, hF2⟩
          · exact .inl h
          · have hab : b ≠ a := ne_of_none hF2 hF
            exact .inr ⟨b, rfl, n, o2.mono (fun _ _ e => e) (List.prefix_refl _) (upd_ne hab), o3, hF2⟩
  · have ne : ∀ {c : Nat} {x : D}, (ρ.set i (.ow d'))[c]? = some (.ow x) → ∃ x', ρ[c]? = some (.ow x') := fun {c x} h => by
      by_cases z : i = c
      · subst z; exact ⟨d, hi⟩
      · rw [List.getElem?_set_ne z] at h; exact ⟨x, h⟩
    obtain ⟨d2, h1⟩ := ne h1
    obtain ⟨e2, h2⟩ := ne h2
    exact E.dist x y d2 e2 h1 h2 h3
  · rw [upd_ne (ne_of_none e hF)]
    exact E.fr.keep b x e n
/-- the address in a slot that holds a container of its own -/
theorem ER.own_at (E : ER p F ρ σ g H) {i : Nat} {d : D} (hi : ρ[i]? = some (.ow d)) : ∃ a, σ[i]? = some (some (.ref a)) ∧ Own p g H a d ∧ a ∉ g.am := by
  have h := E.sl i _ hi
  cases es : σ[i]? with
  | none => rw [es] at h; exact h.elim
  | some o =>
    rw [es] at h
    cases o with
    | none => exact h.elim
    | some v =>
      obtain ⟨a, rfl, o, hG, ha, hF⟩ := h
      exact ⟨a, rfl, o, ha⟩
end
def lstD : D → M (List D)
  | .lst ds => pure ds
  | _ => stuck
def appL (ds : List D) (d : D) : M D := if ds.length < sizeLine then pure (.lst (ds ++ [d])) else stuck
def extL (ds : List D) : D → M D
  | .lst es => if ds.length + es.length ≤ sizeLine then pure (.lst (ds ++ es)) else stuck
  | _ => stuck
def setL (ds : List D) (i : Int) (d : D) : M (List D) := match ixN ds.length i with
  | some j => pure (ds.set j d)
  | none => stuck
theorem lstD_post {d : D} {s : Store} {ok : List D → Store → Prop} {ex : Nat → Store → Prop} (q : (lstD d s).Post ok ex) : ∃ ds, d = .lst ds ∧ ok ds s := by
  cases d with
  | lst ds => exact ⟨ds, rfl, q⟩
  | _ => exact False.elim q
section
variable {S : Sta} {ρ ρ' : Ev} {a b c tg it e elt : Expr} {st : Stmt} {body rest ta tb : List Stmt} {ma mb mc m : M D} {mi : M (List D)} {pos p p2 apos cpos : Pos} {N B : Type} {shN : N → Ev} {shB : B → Ev}
/-- x.append(e) -/
theorem sb_append (i : Nat) {x : Str} {d : D} {k : D → M (Out N B)} (hi : ρ[i]? = some (.ow d)) (hN : S.N[i]? = some x) (hv : Vis S.sc x) (he : EE S ρ e m) (hr : ∀ d, SB S (ρ.set i (.ow d)) rest (k d) shN shB) (hs : NoStar [e]) (hline : (apos.endLine == cpos.line) = true)
    (hsw : ∀ env : Env, swapsWith (.Call (.Attribute (.Name x p) "append" apos) [e] [] cpos) none pos.line env = pure false) (hba : ∀ env : Env, attributeBase (.Name x p) "append" env (eval (.Name x p) env) = eval (.Name x p) env)
    (hd : (x == ("__debug__" : Str)) = false := by decide) (hcd : (x == ("__classdict__" : Str)) = false := by decide) :
    SB S ρ (.Expr (.Call (.Attribute (.Name x p) "append" apos) [e] [] cpos) pos :: rest) (lstD d >>= fun ds => m >>= fun y => appL ds y >>= k) shN shB := fun Y ok => by
  have hR : PSs (S.cx Y) rest (fun Dd σ H => ∃ d, rdS S Y (ρ.set i (.ow d)) (k d) shN shB Dd σ H) := ⟨fun pins s σ H Dd I ⟨d, q⟩ => (hr d Y ok).run pins s σ H Dd I q⟩
  have hP := pe_bm (X := S.cx Y) (cpos := cpos) (apos := apos) PySem.F.plainAttrs_list PySem.F.slot_list_append PySem.F.type_list_append mt_append (pe_var (X := S.cx Y) (i := i) (pos := p) hN hv hd hcd) (pa_cons (he Y ok) pa_nil (hs _))
    (hba _) (by rw [hs _]; rfl) hline (hs _) (by rfl)
  refine (pss_cons (ps_expr hP (hsw _)) hR).pre fun Dd σ H ⟨F, g, E, q⟩ => ?_
  obtain ⟨l, hl, o, ha⟩ := E.own_at hi
  obtain ⟨ds, rfl, q⟩ := lstD_post (post_bind q)
  obtain ⟨xs, ex, rx⟩ := o
  refine ⟨.ref l, hl, .inl ⟨rfl, xs, SqL.of ex⟩, rdS.expr E q fun y v g' H' s E' r q => ?_⟩
  have ex' := s.keep l _ ex ha
  have rx' := rx.mono s.gle s.aml
  have q := post_bind q
  unfold appL at q
  by_cases z : ds.length < sizeLine
  · rw [if_pos z] at q
    have o2 : Own S.pg g' (upd H' l (.lst (xs ++ [v]))) l (.lst (ds ++ [y])) := ⟨_, upd_same, rx'.append (.cons r .nil)⟩
    exact ⟨l, xs, v, rfl, rfl, ex', by rw [rx.length]; exact z, .lst (ds ++ [y]), F, g', E'.updOwn hi hl o2, post_pure q⟩
  · rw [if_neg z] at q
    exact False.elim q
/-- x.extend(e) -/
theorem sb_extend (i : Nat) {x : Str} {d : D} {k : D → M (Out N B)} (hi : ρ[i]? = some (.ow d)) (hN : S.N[i]? = some x) (hv : Vis S.sc x) (he : EL S ρ e m) (hr : ∀ d, SB S (ρ.set i (.ow d)) rest (k d) shN shB) (hs : NoStar [e]) (hline : (apos.endLine == cpos.line) = true)
    (hsw : ∀ env : Env, swapsWith (.Call (.Attribute (.Name x p) "extend" apos) [e] [] cpos) none pos.line env = pure false) (hba : ∀ env : Env, attributeBase (.Name x p) "extend" env (eval (.Name x p) env) = eval (.Name x p) env)
    (hd : (x == ("__debug__" : Str)) = false := by decide) (hcd : (x == ("__classdict__" : Str)) = false := by decide) :
    SB S ρ (.Expr (.Call (.Attribute (.Name x p) "extend" apos) [e] [] cpos) pos :: rest) (lstD d >>= fun ds => m >>= fun y => extL ds y >>= k) shN shB := fun Y ok => by
  have hR : PSs (S.cx Y) rest (fun Dd σ H => ∃ d, rdS S Y (ρ.set i (.ow d)) (k d) shN shB Dd σ H) := ⟨fun pins s σ H Dd I ⟨d, q⟩ => (hr d Y ok).run pins s σ H Dd I q⟩
  have hP := pe_bm (X := S.cx Y) (cpos := cpos) (apos := apos) PySem.F.plainAttrs_list PySem.F.slot_list_extend PySem.F.type_list_extend mt_extend (pe_var (X := S.cx Y) (i := i) (pos := p) hN hv hd hcd) (pa_cons (he Y ok) pa_nil (hs _))
    (hba _) (by rw [hs _]; rfl) hline (hs _) (by rfl)
  refine (pss_cons (ps_expr hP (hsw _)) hR).pre fun Dd σ H ⟨F, g, E, q⟩ => ?_
  obtain ⟨l, hl, o, ha⟩ := E.own_at hi
  obtain ⟨ds, rfl, q⟩ := lstD_post (post_bind q)
  obtain ⟨xs, ex, rx⟩ := o
  refine ⟨.ref l, hl, .inl ⟨rfl, xs, SqL.of ex⟩, rdS.expr E q fun y v g' H' s E' r q => ?_⟩
  have ex' := s.keep l _ ex ha
  have rx' := rx.mono s.gle s.aml
  have q := post_bind q
  cases y with
  | lst es =>
    obtain ⟨b, ys, rfl, sb, rb⟩ := TopR.lst E'.wf r
    unfold extL at q
    by_cases z : ds.length + es.length ≤ sizeLine
    · simp only [if_pos z] at q
      have o2 : Own S.pg g' (upd H' l (.lst (xs ++ ys))) l (.lst (ds ++ es)) := ⟨_, upd_same, rx'.append rb⟩
      exact ⟨l, b, xs, ys, rfl, rfl, ex', sb, by rw [rx.length, rb.length]; exact z, .lst (ds ++ es), F, g', E'.updOwn hi hl o2, post_pure q⟩
    · simp only [if_neg z] at q
      exact False.elim q
  | _ => exact False.elim q
theorem setL_post {ds : List D} {i : Int} {d : D} {s : Store} {ok : List D → Store → Prop} {ex : Nat → Store → Prop} (q : (setL ds i d s).Post ok ex) : ∃ j, ixN ds.length i = some j ∧ ok (ds.set j d) s := by
  unfold setL at q
  cases e : ixN ds.length i with
  | none => rw [e] at q; exact False.elim q
  | some j => rw [e] at q; exact ⟨j, rfl, q⟩
/-- x[i] = e -/
def setO (ds : List D) : D → D → M D
  | .int i, d => setL ds i d >>= fun r => pure (.lst r)
  | _, _ => stuck
theorem sb_setitem (i : Nat) {x : Str} {d : D} {k : D → M (Out N B)} {spos : Pos} (hi : ρ[i]? = some (.ow d)) (hN : S.N[i]? = some x) (hv : Vis S.sc x) (he : EE S ρ e m) (hb : EE S ρ b mb) (hr : ∀ d, SB S (ρ.set i (.ow d)) rest (k d) shN shB)
    (hsw : ∀ env : Env, swapsWithSole [.Subscript (.Name x p) b spos] e pos.line env = pure false) (hw : ∀ env : Env, swappedStores [.Subscript (.Name x p) b spos] e env = pure none)
    (h1 : ∀ env : Env, (assignEach [.Subscript (.Name x p) b spos] env).map (·.2) = [assign (.Subscript (.Name x p) b spos) env])
    (ha2 : ∀ (env : Env) v, assign (.Subscript (.Name x p) b spos) env v = (do
      let ov ← holding [v] (eval (.Name x p) env)
      let iv ← holding [v, ov] (eval b env)
      standAt spos
      holding [v, ov, iv] (setItem ov iv v)
      release [v, ov, iv] []))
    (hd : (x == ("__debug__" : Str)) = false := by decide) (hcd : (x == ("__classdict__" : Str)) = false := by decide) :
    SB S ρ (.Assign [.Subscript (.Name x p) b spos] e pos :: rest) (lstD d >>= fun ds => m >>= fun y => mb >>= fun j => setO ds j y >>= k) shN shB := fun Y ok => by
  have hR : PSs (S.cx Y) rest (fun Dd σ H => ∃ d, rdS S Y (ρ.set i (.ow d)) (k d) shN shB Dd σ H) := ⟨fun pins s σ H Dd I ⟨d, q⟩ => (hr d Y ok).run pins s σ H Dd I q⟩
  have hG : PG (S.cx Y) (.Subscript (.Name x p) b spos) _ := pg_sub (X := S.cx Y) (pe_var (X := S.cx Y) (i := i) (pos := p) hN hv hd hcd) (hb Y ok) set_list (ha2 _)
  refine (pss_cons (ps_asg (X := S.cx Y) (he Y ok) hG (hsw _) (hw _) (h1 _)) hR).pre fun Dd σ H ⟨F, g, E, q⟩ => ?_
  obtain ⟨l, hl, o, ha⟩ := E.own_at hi
  obtain ⟨ds, rfl, q⟩ := lstD_post (post_bind q)
  obtain ⟨xs, ex, rx⟩ := o
  refine rdS.expr E q fun y v g' H' s E' r q => ⟨.ref l, hl, rdS.expr E' q fun j w g2 H2 s2 E2 r2 q => ?_⟩
  have s12 := s.trans E.wf s2
  have ex' := s12.keep l _ ex ha
  have rx' := rx.mono s12.gle s12.aml
  cases j with
  | int n =>
    cases r2
    have q : ((setL ds n y >>= fun r => (pure (D.lst r) : M D)) g2.st).Post _ _ := post_bind q
    obtain ⟨j, ej, q⟩ := setL_post (post_bind q)
    have o2 : Own S.pg g2 (upd H2 l (.lst (xs.set j v))) l (.lst (ds.set j y)) := ⟨_, upd_same, rx'.set (r.mono s2.gle s2.aml) j⟩
    exact ⟨l, xs, n, j, rfl, rfl, ex', by rw [rx.length]; exact ej, .lst (ds.set j y), F, g2, E2.updOwn hi hl o2, post_pure q⟩
  | _ => exact False.elim q
/-! ### calls of defs -/
/-- how an argument is handed: a value that is never written; a list or dict that is lent -/
inductive AK where
  | v | b
def ArgR (p : Pg) (g : Gs) (H : Hp) : List AK → List V → List D → Prop
  | [], [], [] => True
  | .v :: ks, v :: vs, d :: ds => p.Rp g v d ∧ ArgR p g H ks vs ds
  | .b :: ks, v :: vs, d :: ds => TopR p g H v d ∧ ArgR p g H ks vs ds
  | _, _, _ => False
theorem ArgR.step {p : Pg} {g g' : Gs} {H H' : Hp} (w : Wf p g H) (s : Stp p g H g' H') : ∀ {ks : List AK} {vs : List V} {ds : List D}, ArgR p g H ks vs ds → ArgR p g' H' ks vs ds
  | [], [], [], _ => True.intro
  | .v :: _, _ :: _, _ :: _, h => ⟨h.1.mono s.gle s.aml, ArgR.step w s h.2⟩
  | .b :: _, _ :: _, _ :: _, h => ⟨h.1.step w s, ArgR.step w s h.2⟩
theorem ArgR.len {p : Pg} {g : Gs} {H : Hp} : ∀ {ks : List AK} {vs : List V} {ds : List D}, ArgR p g H ks vs ds → vs.length = ks.length ∧ ds.length = ks.length
  | [], [], [], _ => ⟨rfl, rfl⟩
  | .v :: _, _ :: _, _ :: _, h => by
    obtain ⟨a, b⟩ := ArgR.len h.2
    exact ⟨by rw [List.length_cons, List.length_cons, a], by rw [List.length_cons, List.length_cons, b]⟩
  | .b :: _, _ :: _, _ :: _, h => by
    obtain ⟨a, b⟩ := ArgR.len h.2
    exact ⟨by rw [List.length_cons, List.length_cons, a], by rw [List.length_cons, List.length_cons, b]⟩
/-- what a def promises: it does what F does -/
def spD (p : Pg) (ks : List AK) (F : List D → M D) : Sp := fun vs H Q E => ∃ g ds, Wf p g H ∧ ArgR p g H ks vs ds ∧ (F ds g.st).Post (Pv p (RE p) g H Q) fun c st' => ∀ g' H', g'.st = st' → Stp p g H g' H' → E (.ref (p.cA c)) none H'
structure Fnc (p : Pg) (k : Nat) (x : Str) (ks : List AK) (F : List D → M D) : Prop where
  ex : ∃ f fd ps, FnOk p.P p.w p.K p.mg p.base (L2N.CX p.P p.w) k f fd ps (spD p ks F) ∧ p.mg x = some (.ref f) ∧ PySem.W.keepIn p.K (.ref f) = true ∧ Binds p.K fd ps []
/-- arguments by their kinds -/
def EAk (S : Sta) (ρ : Ev) (ks : List AK) (es : List Expr) (m : M (List D)) : Prop := ∀ Y, OkY S Y → PA (S.cx Y) es (rdA S Y ρ (fun g H => ArgR S.pg g H ks) m)
variable {es : List Expr} {ms : M (List D)} {ks : List AK}
theorem eak_nil : EAk S ρ [] [] (pure []) := fun Y ok => pa_nil.pre fun σ H Q ⟨F, g, E, q⟩ => (post_pure q) [] g H rfl (.refl E.wf) True.intro
theorem eak_v (he : EE S ρ e m) (hr : EAk S ρ ks es ms) (hs : ∀ env : Env, starEach (e :: es) env = (false, eval e env) :: starEach es env) : EAk S ρ (.v :: ks) (e :: es) (m >>= fun d => ms >>= fun ds => pure (d :: ds)) := fun Y ok =>
  (pa_cons (he Y ok) (hr Y ok) (hs _)).pre fun σ H Q ⟨F, g, E, q⟩ => rdX.bind E q fun x v g' H' s E' r q => rdA.bind E' (q.imp (fun _ _ q => q) fun _ _ q => q.back E.wf s) fun xs vs g2 H2 s2 E2 r2 q =>
    (post_pure q) (v :: vs) g2 H2 rfl (s.trans E.wf s2) ⟨r.mono s2.gle s2.aml, r2⟩
theorem eak_b (he : EL S ρ e m) (hr : EAk S ρ ks es ms) (hs : ∀ env : Env, starEach (e :: es) env = (false, eval e env) :: starEach es env) : EAk S ρ (.b :: ks) (e :: es) (m >>= fun d => ms >>= fun ds => pure (d :: ds)) := fun Y ok =>
  (pa_cons (he Y ok) (hr Y ok) (hs _)).pre fun σ H Q ⟨F, g, E, q⟩ => rdX.bind E q fun x v g' H' s E' r q => rdA.bind E' (q.imp (fun _ _ q => q) fun _ _ q => q.back E.wf s) fun xs vs g2 H2 s2 E2 r2 q =>
    (post_pure q) (v :: vs) g2 H2 rfl (s.trans E.wf s2) ⟨r.step E'.wf s2, r2⟩
theorem ee_call {x : Str} {k : Nat} {F : List D → M D} (fn : Fnc S.pg k x ks F) (hk : k ≤ S.lv) (hg : Glb S x) (ha : EAk S ρ ks (e :: es) ms) (hs : ∀ env : Env, starEach (e :: es) env = (false, eval e env) :: starEach es env) (hpl : ∀ env : Env, (backTo pos (starEach es env)).any (·.1) = false)
    (hdb : (x == ("__debug__" : Str)) = false := by decide) : EE S ρ (.Call (.Name x p) (e :: es) [] pos) (ms >>= F) := fun Y ok => by
  obtain ⟨f, fd, ps, FO, hm, hkp, hb⟩ := fn.ex
  refine (pe_call (X := S.cx Y) (E := fun cls d H' => Y.W cls d H') FO (ok.room.mono hk) hg hm hkp hb .nil (L2N.passes_call ok.takes fun _ _ _ _ h => h) (ha Y ok) hdb (hs _) (hpl _)).pre fun σ H Q ⟨Fm, g, E, q⟩ => ?_
  refine rdA.bind E q fun ds vs g' H' s E' r q => ?_
  rw [List.append_nil]
  exact ⟨g', ds, E'.wf, r, q.imp (fun _ _ q => q.back back_RE E.wf s) fun _ _ q => Px.back E.wf s q⟩
theorem ee_call0 {x : Str} {k : Nat} {F : List D → M D} (fn : Fnc S.pg k x [] F) (hk : k ≤ S.lv) (hg : Glb S x) (hdb : (x == ("__debug__" : Str)) = false := by decide) : EE S ρ (.Call (.Name x p) [] [] pos) (F []) := fun Y ok => by
  obtain ⟨f, fd, ps, FO, hm, hkp, hb⟩ := fn.ex
  refine (pe_call0 (X := S.cx Y) (E := fun cls d H' => Y.W cls d H') FO (ok.room.mono hk) hg hm hkp hb .nil (L2N.passes_call ok.takes fun _ _ _ _ h => h) hdb).pre fun σ H Q ⟨Fm, g, E, q⟩ => ?_
  exact ⟨g, [], E.wf, True.intro, q.imp (fun _ _ q => q) fun _ _ q => q⟩
/-! by the number of arguments -/
theorem ee_call1 {x : Str} {k : Nat} {F : List D → M D} (fn : Fnc S.pg k x [.v] F) (hk : k ≤ S.lv) (hg : Glb S x) (ha : EE S ρ a ma) (hs : NoStar [a] := by intro _; rfl) (hdb : (x == ("__debug__" : Str)) = false := by decide) :
    EE S ρ (.Call (.Name x p) [a] [] pos) (ma >>= fun a => F [a]) := by
  have h := ee_call (pos := pos) (p := p) fn hk hg (eak_v ha eak_nil (hs)) (hs) (fun _ => rfl) hdb
  simpa using h
end
/-! ### a def from its body -/
def runF {N B : Type} (m : M (Out N B)) : M D := m >>= fun o => match o with
  | .rt d => pure d
  | .nx _ => pure .non
  | _ => stuck
def argE : List AK → List D → Ev
  | .v :: ks, d :: ds => .sh d :: argE ks ds
  | .b :: ks, d :: ds => .bo d :: argE ks ds
  | _, _ => []
theorem argE_len : ∀ (ks : List AK) (ds : List D), ds.length = ks.length → (argE ks ds).length = ks.length
  | [], ds, _ => by unfold argE; rfl
  | .v :: ks, d :: ds, h => by
    unfold argE
    rw [List.length_cons, List.length_cons, argE_len ks ds (by simpa using h)]
  | .b :: ks, d :: ds, h => by
    unfold argE
    rw [List.length_cons, List.length_cons, argE_len ks ds (by simpa using h)]
  | .v :: _, [], h => by simp at h
  | .b :: _, [], h => by simp at h
theorem argE_at {p : Pg} {g : Gs} {H : Hp} (w : Wf p g H) : ∀ {ks : List AK} {vs : List V} {ds : List D}, ArgR p g H ks vs ds → ∀ (i : Nat) (s : Sl), (argE ks ds)[i]? = some s → ∃ v, vs[i]? = some v ∧ SlV p ⟨g, H⟩ g H (some v) s ∧ ∀ d, s ≠ .ow d
  | [], [], [], _, i, s, e => by simp [argE] at e
  | .v :: ks, v :: vs, d :: ds, h, 0, s, e => by
    simp [argE] at e
    subst e
    exact ⟨v, rfl, h.1, fun _ z => by cases z⟩
  | .b :: ks, v :: vs, d :: ds, h, 0, s, e => by
    simp [argE] at e
    subst e
    refine ⟨v, rfl, ?_, fun _ z => by cases z⟩
    rcases h.1 with r | ⟨a, e, n, o⟩
    · exact .inl r
    · obtain ⟨u, hu, _⟩ := o.at
      exact .inr ⟨a, e, n, o, u, hu⟩
  | .v :: ks, v :: vs, d :: ds, h, i + 1, s, e => by
    simp only [argE, List.getElem?_cons_succ] at e
    exact argE_at w h.2 i s e
  | .b :: ks, v :: vs, d :: ds, h, i + 1, s, e => by
    simp only [argE, List.getElem?_cons_succ] at e
    exact argE_at w h.2 i s e
/-- a def that may raise, exceptions without a context -/
theorem okN {p : Pg} {x qual : Str} {st : Stmt} {f : Addr} {fd : FuncData} {N ps : List Str} {k : Nat} {sp : Sp} (Fn : Fun p.K x qual st f fd) (Sc : FnScope N ps (defScope st)) (hl : ∀ vs H Q E, sp vs H Q E → vs.length = ps.length)
    (h : ∀ (cdv : Value) (A : Around) (outer : List Env) (s : Shared) (H : Hp) (vs : List V) (Q : VK) (E : XK), Room k (A.deeper (envOfC qual (defScope st) s.heap.objs.size f cdv)) → sp vs H Q E →
      ∃ t, PSs (cxOf (L2N.CX p.P p.w) p.P p.w p.K p.mg p.base N qual (defScope st) f cdv A outer s H E) (defBody st) t ∧ t { nx := fun _ H' => Q .non H', rt := Q } (L2.start N vs) H) : FnOk p.P p.w p.K p.mg p.base (L2N.CX p.P p.w) (k + 1) f fd ps sp := by
  obtain ⟨_, _, _, _, _, _, cdv, _, _, rfl, lk, hcd⟩ := Fn.ex
  exact fn_of lk hcd Sc hl fun A outer s H vs Q E hr q => h cdv A outer s H vs Q E hr q
/-- a body's run from the arguments -/
theorem body_run {p : Pg} {k : Nat} {qual : Str} {st : Stmt} {f : Addr} {N ps : List Str} {ks : List AK} {Nn B : Type} {shN : Nn → Ev} {shB : B → Ev} {body : List D → M (Out Nn B)} {gd : Bool} (Sc : FnScope N ps (defScope st)) (hks : ks.length = ps.length)
    (h : ∀ ds, ds.length = ks.length → SB ⟨p, N, defScope st, fun _ => true, k, true, gd⟩ (argE ks ds ++ List.replicate (N.length - ks.length) .un) (defBody st) (body ds) shN shB)
    (cdv : Value) (A : Around) (outer : List Env) (s : Shared) (H : Hp) (vs : List V) (Q : VK) (E : XK) (hr : Room k (A.deeper (envOfC qual (defScope st) s.heap.objs.size f cdv))) (hgd : gd = true → A.guards = some []) (q0 : spD p ks (fun ds => runF (body ds)) vs H Q E) :
    ∃ t, PSs (cxOf (L2N.CX p.P p.w) p.P p.w p.K p.mg p.base N qual (defScope st) f cdv A outer s H E) (defBody st) t ∧ t { nx := fun _ H' => Q .non H', rt := Q } (L2.start N vs) H := by
  obtain ⟨g, ds, w, r, q⟩ := q0
  have hl := r.len
  have hok : OkY ⟨p, N, defScope st, fun _ => true, k, true, gd⟩ ⟨A.deeper (envOfC qual (defScope st) s.heap.objs.size f cdv), s, H, envOfC qual (defScope st) s.heap.objs.size f cdv, outer, envOfC qual (defScope st) s.heap.objs.size f cdv :: outer, [], [],
      (cxOf (L2N.CX p.P p.w) p.P p.w p.K p.mg p.base N qual (defScope st) f cdv A outer s H E).xe, fun cls d H' => E cls d H'⟩ :=
    ⟨hr, passes_of (X := cxOf (L2N.CX p.P p.w) p.P p.w p.K p.mg p.base N qual (defScope st) f cdv A outer s H E) rfl, L2N.takes_of (X := cxOf (L2N.CX p.P p.w) p.P p.w p.K p.mg p.base N qual (defScope st) f cdv A outer s H E) rfl rfl rfl rfl, fun _ => ⟨rfl, rfl⟩, hgd⟩
  refine ⟨_, h ds hl.2 _ hok, ⟨⟨g, H⟩, g, ?_, ?_⟩⟩
  · -- the slots at the entry
    have hpl : ps.length ≤ N.length := by have := congrArg List.length Sc.pre; rw [List.length_take] at this; omega
    have hstart : ∀ i v, vs[i]? = some v → (L2.start N vs)[i]? = some (some v) := fun i v e => by
      unfold L2.start
      have hi : i < vs.length := (List.getElem?_eq_some_iff.mp e).1
      rw [List.getElem?_append_left (by rw [List.length_map]; exact hi), List.getElem?_map, e]
      rfl
    have hE := argE_len ks ds hl.2
    have cases_at : ∀ (i : Nat) (s : Sl), (argE ks ds ++ List.replicate (N.length - ks.length) .un)[i]? = some s → s = .un ∨ (argE ks ds)[i]? = some s := fun i s e => by
      by_cases hi : i < (argE ks ds).length
      · rw [List.getElem?_append_left hi] at e
        exact .inr e
      · rw [List.getElem?_append_right (by omega), List.getElem?_replicate] at e
        split at e
        · cases e; exact .inl rfl
        · cases e
    refine ⟨?_, fun i s e => ?_, fun i j d1 d2 h1 h2 _ => ?_, .refl w, w⟩
    · unfold L2.start
      rw [List.length_append, List.length_append, List.length_replicate, List.length_replicate, List.length_map, hE, hl.1]
    · rcases cases_at i s e with rfl | e
      · cases (L2.start N vs)[i]?.join <;> exact True.intro
      · obtain ⟨v, hv, r2, _⟩ := argE_at w r i s e
        rw [hstart i v hv]
        exact r2
    · rcases cases_at i _ h1 with z | z
      · cases z
      · obtain ⟨_, _, _, n⟩ := argE_at w r i _ z
        exact absurd rfl (n d1)
  · refine (post_bind q).imp (fun o st' q => ?_) fun _ _ q => q
    cases o with
    | nx n => exact fun σ' g' H' e l E' => (post_pure q) .non g' H' e E'.fr .non
    | rt d => exact fun v g' H' e s r => (post_pure q) v g' H' e s r
    | bk b => exact False.elim q
    | ct b => exact False.elim q
/-- a def -/
theorem fnok_of {p : Pg} {k : Nat} {x qual : Str} {st : Stmt} {f : Addr} {fd : FuncData} {N ps : List Str} {ks : List AK} {Nn B : Type} {shN : Nn → Ev} {shB : B → Ev} {body : List D → M (Out Nn B)}
    (Fn : Fun p.K x qual st f fd) (Sc : FnScope N ps (defScope st)) (hks : ks.length = ps.length)
    (h : ∀ ds, ds.length = ks.length → SB ⟨p, N, defScope st, fun _ => true, k, true, false⟩ (argE ks ds ++ List.replicate (N.length - ks.length) .un) (defBody st) (body ds) shN shB) : FnOk p.P p.w p.K p.mg p.base (L2N.CX p.P p.w) (k + 1) f fd ps (spD p ks fun ds => runF (body ds)) :=
  okN Fn Sc (fun vs H Q E ⟨g, ds, w, r, q⟩ => by rw [r.len.1, hks]) fun cdv A outer s H vs Q E hr q => body_run Sc hks h cdv A outer s H vs Q E hr (fun z => nomatch z) q
theorem fnc_of {p : Pg} {k : Nat} {x : Str} {f : Addr} {fd : FuncData} {ps : List Str} {ks : List AK} {F : List D → M D} (h : FnOk p.P p.w p.K p.mg p.base (L2N.CX p.P p.w) k f fd ps (spD p ks F)) (hm : p.mg x = some (.ref f)) (kp : PySem.W.keepIn p.K (.ref f) = true) (hb : Binds p.K fd ps []) : Fnc p k x ks F :=
  ⟨f, fd, ps, h, hm, kp, hb⟩
end DL
namespace DL
open PySem PySem.Spec PyProof.Rows L2
/-! ### zip of two sequences of any kinds: k says list (true) or tuple -/
def SqG (k : Bool) (K : PySem.W.Frag) (H : Hp) (a : Addr) (xs : List V) : Prop := if k = true then SqL K H a xs else SqT K H a xs
def ItG (k : Bool) (h : Heap) (it a : Addr) (i : Nat) : Prop := if k = true then h.IsListIter it a i else h.IsTupleIter it a i
def AsG (k : Bool) (h : Heap) (a : Addr) (xs : Array Value) : Prop := if k = true then h.IsList a xs else h.IsTuple a xs
def obG (k : Bool) (a : Addr) : Obj := if k = true then { cls := .type "list_iterator", data := .fields #[.ref a, .int 0 0] } else { cls := .type "tuple_iterator", data := .fields #[.ref a, .int 0 0] }
theorem draws_G {P : Program} {w : World} {A : Around} (k : Bool) (hh : A.handled = none) (it a : Addr) (hne : a ≠ it) (xs : Array Value) : Draws P w A it [it, a] xs.size (fun i v => xs[i]? = some v) (fun i h => ItG k h it a i ∧ AsG k h a xs) := by
  cases k
  · exact Draws.tuple hh it a hne xs
  · exact Draws.list hh it a hne xs
theorem begins_G (k : Bool) (a : Addr) (xs : Array Value) : Begins (.ref a) (obG k a) fun h => AsG k h a xs := by
  cases k
  · exact begins_tuple a xs
  · exact begins_list a xs
section
variable {X : Cx} {pins : List (Addr × Obj)} {σ : L2.St} {H : Hp} {s : Shared}
theorem SqG.heap {k : Bool} {a : Addr} {xs : List V} (I : Inv X pins σ H s) (h : SqG k X.K H a xs) : ∃ its : List Value, Vals xs its ∧ AsG k s.heap a its.toArray ∧ a < s.heap.objs.size := by
  cases k
  · obtain ⟨its, rv, p, _⟩ := I.tuple h
    obtain ⟨o, ho, _⟩ := id p
    exact ⟨its, rv, p, Heap.lt_size ho⟩
  · obtain ⟨its, rv, p, _⟩ := I.list h
    exact ⟨its, rv, p.isList, p.lt⟩
theorem SqG.inj {k : Bool} {a : Addr} {xs ys : List V} (I : Inv X pins σ H s) (h : SqG k X.K H a xs) (g : SqG k X.K H a ys) : xs = ys := by
  cases k
  · exact I.tuple_inj h g
  · exact I.list_inj h g
end
theorem ItG.live {k : Bool} {h : Heap} {it a : Addr} {i : Nat} (x : ItG k h it a i) : ∃ o, h.get? it = some o ∧ ∀ v, o.data ≠ .cell v := by
  cases k
  · obtain ⟨o, e, _, d⟩ := x
    exact ⟨o, e, fun v q => by rw [d] at q; cases q⟩
  · obtain ⟨o, e, _, d⟩ := x
    exact ⟨o, e, fun v q => by rw [d] at q; cases q⟩
theorem ItG.moved {k : Bool} {h h' : Heap} {it a : Addr} {i : Nat} (x : ItG k h it a i) (e : ∀ o, h.get? it = some o → h'.get? it = some o) : ItG k h' it a i := by
  cases k
  · exact Heap.IsTupleIter.at x e
  · exact Heap.IsListIter.at x e
theorem obG_it {k : Bool} {h : Heap} {it a : Addr} (e : h.get? it = some (obG k a)) : ItG k h it a 0 := by
  cases k
  · exact ⟨_, e, rfl, rfl⟩
  · exact ⟨_, e, rfl, rfl⟩
/-- the walk of zip -/
def ItzG (k1 k2 : Bool) (K : PySem.W.Frag) (a b : Addr) : It :=
  ⟨fun i H => ∃ (xs ys : List V), SqG k1 K H a xs ∧ SqG k2 K H b ys ∧ i < xs.length ∧ i < ys.length,
    fun i H v H' => ∃ T x y, v = .ref T ∧ H T = none ∧ H' = upd H T (.tup [x, y]) ∧ (∀ xs, SqG k1 K H a xs → xs[i]? = some x) ∧ ∀ ys, SqG k2 K H b ys → ys[i]? = some y,
    fun i H => ∃ xs ys : List V, SqG k1 K H a xs ∧ SqG k2 K H b ys ∧ i ≤ xs.length ∧ i ≤ ys.length ∧ (i = xs.length ∨ i = ys.length)⟩
theorem sep_G {z TI TO i1 i2 a b : Addr} (D : ZipApart z TI TO i1 i2 a b) : ZipSep2 z TI TO i1 i2 [i1, a] [i2, b] where
  TIz := D.TIz
  TOz := D.TOz
  TITO := D.TITO
  TIi1 := D.TIi1
  mem1 := by simp
  zf1 := by simpa using ⟨D.i1z.symm, D.l1z.symm⟩
  Tf1 := by simpa using ⟨D.TOi1, D.l1TO.symm⟩
  TIi2 := D.TIi2
  mem2 := by simp
  zf2 := by simpa using ⟨D.i2z.symm, D.l2z.symm⟩
  Tf2 := by simpa using ⟨D.TOi2, D.l2TO.symm⟩
  sep1_2 := by simpa using ⟨D.i12, D.l2i1.symm⟩
  sep2_1 := by simpa using ⟨D.i12.symm, D.l1i2.symm⟩
theorem five {c z TI TO i1 i2 : Addr} {α : Prop} (h : c ∈ [z, TI, TO, i1, i2]) (f1 : c = z → α) (f2 : c = TI → α) (f3 : c = TO → α) (f4 : c = i1 → α) (f5 : c = i2 → α) : α := by
  simp only [List.mem_cons, List.not_mem_nil, or_false] at h
  rcases h with q | q | q | q | q
  · exact f1 q
  · exact f2 q
  · exact f3 q
  · exact f4 q
  · exact f5 q
theorem turn_zipG {P : Program} {w : World} {K : PySem.W.Frag} {elts : List Expr} {kk : Nat} {tpos : Pos} {k1 k2 : Bool} {a b z TI TO i1 i2 : Addr} (D : ZipApart z TI TO i1 i2 a b) :
    Turn P w K (.Tuple elts kk tpos) (ItzG k1 k2 K a b) [z, TI, TO, i1, i2] z (fun i h => IsZip h z TI TO .none ∧ IsTupOf2 h TI (.ref i1) (.ref i2) ∧ (∃ x y, IsTupOf2 h TO x y) ∧ ItG k1 h i1 a i ∧ ItG k2 h i2 b i) where
  mem := by simp
  obj := by
    rintro i h ⟨hz, hTI, ⟨x, y, hTO⟩, h1, h2⟩ c hc
    refine five hc (fun q => ?_) (fun q => ?_) (fun q => ?_) (fun q => ?_) fun q => ?_
    · subst q; exact ⟨_, hz, fun v q => by cases q⟩
    · subst q; exact ⟨_, hTI, fun v q => by cases q⟩
    · subst q; exact ⟨_, hTO, fun v q => by cases q⟩
    · subst q; exact h1.live
    · subst q; exact h2.live
  keep := by
    rintro i h h' ⟨hz, hTI, ⟨x, y, hTO⟩, h1, h2⟩ k
    exact ⟨k z (by simp) _ hz, k TI (by simp) _ hTI, ⟨x, y, k TO (by simp) _ hTO⟩, h1.moved (k i1 (by simp)), h2.moved (k i2 (by simp))⟩
  item := by
    intro X hP hw hK hc i pins s σ H E I hf st hg
    subst hP hw hK
    obtain ⟨hz, hTI, ⟨x0, y0, hTO⟩, h1, h2⟩ := st
    obtain ⟨xs, ys, sx, sy, hx, hy⟩ := hg
    obtain ⟨us, ru, p1, _⟩ := sx.heap I
    obtain ⟨vs, rv, p2, _⟩ := sy.heap I
    have lu : us.toArray.size = xs.length := by rw [List.size_toArray, ru.length]
    have lv : vs.toArray.size = ys.length := by rw [List.size_toArray, rv.length]
    obtain ⟨x, ex⟩ : ∃ x, xs[i]? = some x := ⟨_, List.getElem?_eq_getElem hx⟩
    obtain ⟨y, ey⟩ : ∃ y, ys[i]? = some y := ⟨_, List.getElem?_eq_getElem hy⟩
    obtain ⟨u, eu, rxu⟩ := ru.get ex
    obtain ⟨v, ev, ryv⟩ := rv.get ey
    have hzl : z < s.heap.objs.size := Heap.lt_size hz
    refine wpAny_pyNext_zipD2_item (sep_G D) (draws_G (A := X.A.in1) k1 (I.ok.hd hc) i1 a D.l1i1 us.toArray) (draws_G (A := X.A.in1) k2 (I.ok.hd hc) i2 b D.l2i2 vs.toArray) hz hTI hTO ⟨h1, p1⟩ ⟨h2, p2⟩ (by rw [lu]; exact hx) (by rw [lv]; exact hy)
      fun x1 x2 h' tk g1 g2 z' TO' t1 t2 hT hsz hk => ?_
    have e1 : x1 = u := by
      have : us[i]? = some x1 := by simpa using g1
      rw [eu] at this; cases this; rfl
    have e2 : x2 = v := by
      have : vs[i]? = some x2 := by simpa using g2
      rw [ev] at this; cases this; rfl
    subst e1 e2
    refine ⟨_, rfl, wpAny_letOwnedTupleGo_zip (s := { s with heap := h', toks := tk }) z' fun h'' z'' sb => ?_⟩
    have keep : ∀ c o, c ≠ z → h'.get? c = some o → h''.get? c = some o := fun c o n e => (sb.2 c n).trans e
    have hT2 : IsTupOf2 h'' s.heap.objs.size x1 x2 := keep _ _ (Nat.ne_of_gt hzl) hT
    have new : ObjOk X.prog X.w (upd H s.heap.objs.size (.tup [x, y])) h'' s.heap.objs.size (.tup [x, y]) :=
      ⟨by show 2 ≤ sizeLine; decide, [x1, x2], .cons rxu (.cons ryv .nil), ⟨_, hT2, rfl, _, rfl⟩⟩
    have I1 : Inv X pins σ (upd H s.heap.objs.size (.tup [x, y])) { s with heap := h'', toks := tk } :=
      I.turnedNew (ch := [z, TI, TO, i1, i2]) (fun c o hb q => by
        simp only [List.mem_cons, List.not_mem_nil, or_false, not_or] at hb
        exact keep c o hb.1 (hk c o hb.1 hb.2.2.1 hb.2.2.2.1 hb.2.2.2.2 q)) hf (Nat.le_refl _) new
    refine ⟨.ref s.heap.objs.size, _, I1, rfl, ⟨_, x, y, rfl, I.hok.fresh (Nat.le_refl _), rfl, fun l hl => by rw [hl.inj I sx]; exact ex, fun l hl => by rw [hl.inj I sy]; exact ey⟩, ⟨z'', ?_, ⟨x1, x2, keep _ _ D.TOz TO'⟩, ?_, ?_⟩, fun c hcm => ?_⟩
    · exact keep _ _ D.TIz (hk _ _ D.TIz D.TITO D.TIi1 D.TIi2 hTI)
    · exact t1.1.moved fun o q => keep _ o D.i1z q
    · exact t2.1.moved fun o q => keep _ o D.i2z q
    · have hlt : c < s.heap.objs.size := five hcm (fun q => by rw [q]; exact hzl) (fun q => by rw [q]; exact Heap.lt_size hTI) (fun q => by rw [q]; exact Heap.lt_size hTO)
        (fun q => by rw [q]; obtain ⟨_, e, _⟩ := h1.live; exact Heap.lt_size e) fun q => by rw [q]; obtain ⟨_, e, _⟩ := h2.live; exact Heap.lt_size e
      rw [upd_ne (Nat.ne_of_lt hlt)]
      exact (hf c hcm).1
  done := by
    intro X hP hw hK hc i pins s σ H E I hf st hg
    subst hP hw hK
    obtain ⟨hz, hTI, ⟨x0, y0, hTO⟩, h1, h2⟩ := st
    obtain ⟨xs, ys, sx, sy, hx, hy, hend⟩ := hg
    obtain ⟨us, ru, p1, _⟩ := sx.heap I
    obtain ⟨vs, rv, p2, _⟩ := sy.heap I
    have lu : us.toArray.size = xs.length := by rw [List.size_toArray, ru.length]
    have lv : vs.toArray.size = ys.length := by rw [List.size_toArray, rv.length]
    refine wpAny_pyNext_zipD2_end (sep_G D) (draws_G (A := X.A.in1) k1 (I.ok.hd hc) i1 a D.l1i1 us.toArray) (draws_G (A := X.A.in1) k2 (I.ok.hd hc) i2 b D.l2i2 vs.toArray) hz hTI hTO ⟨h1, p1⟩ ⟨h2, p2⟩ (by rw [lu]; exact hx) (by rw [lv]; exact hy) (by rw [lu, lv]; exact hend)
      fun h' tk hk => ⟨rfl, I.turnedL (ch := [z, TI, TO, i1, i2]) (fun c o hb q => ?_) hf⟩
    simp only [List.mem_cons, List.not_mem_nil, or_false, not_or] at hb
    exact hk c o hb.1 hb.2.2.1 hb.2.2.2.1 hb.2.2.2.2 q
  self := fun A i s Q E st h => wpAny_pyIter_zip st.1 h
def iZipG (K : PySem.W.Frag) (ta : TA) : TI := fun σ H R => ta σ H fun vs H1 => ∃ a b xs ys k1 k2, vs = [.ref a, .ref b] ∧ SqG k1 K H1 a xs ∧ SqG k2 K H1 b ys ∧ R (ItzG k1 k2 K a b) H1
theorem pi_zipG {X : Cx} {e e2 : Expr} {ta : TA} {p pos tpos : Pos} {elts : List Expr} {kk : Nat} (hg : Gl X "zip") (hm : X.mg "zip" = none) (ha : PA X [e, e2] ta)
    (hs : starEach [e, e2] X.env = (false, eval e X.env) :: starEach [e2] X.env) (hpl : (backTo pos (starEach [e2] X.env)).any (·.1) = false) :
    PI X (.Tuple elts kk tpos) (.Call (.Name "zip" p) [e, e2] [] pos) (iZipG X.K ta) := by
  refine ⟨fun pins s σ H R I h => Call_ (ld_blt I hg hm PyProof.Rows.boot_zip (PyProof.Rows.callWith_type1 (thn (ha.run pos pins s σ H _ I h) fun us s1 q0 => ?_) hs hpl))⟩
  obtain ⟨vs, H1, I1, r1, a, b, xs, ys, k1, k2, ex, sx, sy, q⟩ := q0
  subst ex
  cases r1 with
  | cons r rr =>
    cases rr with
    | cons r' rr =>
      cases rr
      cases r
      cases r'
      obtain ⟨its, rv, p1, la⟩ := sx.heap I1
      obtain ⟨its2, rv2, p2, lb⟩ := sy.heap I1
      refine zip_begins2 (begins_G k1 a its.toArray) (begins_G k2 b its2.toArray) p1 p2 fun h' hz hTI hTO h1 h2 hsz hk => wpAny_pyIter_zip hz ?_
      have I2 : Inv X pins σ H1 { s1 with heap := h' } := I1.kept (t' := s1.toks) hk
      refine ⟨s1.heap.objs.size + 4, [s1.heap.objs.size + 4, s1.heap.objs.size + 2, s1.heap.objs.size + 3, s1.heap.objs.size, s1.heap.objs.size + 1], _, _, H1, rfl, I2, turn_zipG (PySem.W.ktu_apart s1.heap.objs.size a b la lb), ⟨hz, hTI, ⟨_, _, hTO⟩, obG_it h1, obG_it h2⟩, fun c hcm => ?_, q⟩
      have hle : s1.heap.objs.size ≤ c := five hcm (fun q => by rw [q]; exact Nat.le_add_right _ _) (fun q => by rw [q]; exact Nat.le_add_right _ _) (fun q => by rw [q]; exact Nat.le_add_right _ _) (fun q => by rw [q]; exact Nat.le_refl _) fun q => by rw [q]; exact Nat.le_add_right _ _
      exact I1.fpOk hle (I1.hok.fresh hle)
end DL
namespace DL
open PySem PySem.Spec PyProof.Rows L2
/-! ### sequences of any kind -/
/-- k: list or tuple; stands as long as T -/
def SqW (p : Pg) (T : Tm) (k : Bool) (a : Addr) (us : List V) (es : List D) : Prop := ∀ g H, Wf p g H → T g H → SqG k p.K H a us ∧ p.Rps g us es
theorem items_K {p : Pg} {T : Tm} {v : V} {d : D} (h : SqK p T v d) {s : Store} {ok : List D → Store → Prop} {ex : Nat → Store → Prop} (q : (items d s).Post ok ex) : ∃ k a us es, v = .ref a ∧ SqW p T k a us es ∧ ok es s := by
  cases d with
  | tup es => obtain ⟨a, us, e, h⟩ := h; exact ⟨false, a, us, es, e, h, post_pure q⟩
  | lst es => obtain ⟨a, us, e, h⟩ := h; exact ⟨true, a, us, es, e, h, post_pure q⟩
  | rls es => obtain ⟨a, us, e, h⟩ := h; exact ⟨true, a, us, es, e, h, post_pure q⟩
  | rtp es => obtain ⟨a, us, e, h⟩ := h; exact ⟨false, a, us, es, e, h, post_pure q⟩
  | _ => exact False.elim q
/-- a new pair is frozen at once -/
theorem pair_new {p : Pg} {g : Gs} {H : Hp} {T : Addr} {x y : V} {d e : D} (w : Wf p g H) (hT : H T = none) (r1 : p.Rp g x d) (r2 : p.Rp g y e) :
    ∃ g', g'.st = g.st ∧ Stp p g H g' (upd H T (.tup [x, y])) ∧ p.Rp g' (.ref T) (.tup [d, e]) := by
  have s := Stp.new (o := .tup [x, y]) w hT
  exact ⟨{ g with G := upd g.G T (.tup [x, y]) }, rfl, s, .tup upd_same (.cons (r1.mono s.gle s.aml) (.cons (r2.mono s.gle s.aml) .nil))⟩
theorem wk_zip {p : Pg} {T : Tm} {k1 k2 : Bool} {a b : Addr} {us vs : List V} {ds es : List D} (h1 : SqW p T k1 a us ds) (h2 : SqW p T k2 b vs es) : Wk p T (ItzG k1 k2 p.K a b) (zipL ds es) := by
  refine ⟨fun i g H hi w t => ?_, fun g H w t => ?_, fun i g H x H' hi w t y => ?_⟩
  · obtain ⟨s1, r1⟩ := h1 g H w t
    obtain ⟨s2, r2⟩ := h2 g H w t
    rw [zipL_len] at hi
    exact ⟨us, vs, s1, s2, by rw [r1.length]; omega, by rw [r2.length]; omega⟩
  · obtain ⟨s1, r1⟩ := h1 g H w t
    obtain ⟨s2, r2⟩ := h2 g H w t
    rw [zipL_len]
    exact ⟨us, vs, s1, s2, by rw [r1.length]; omega, by rw [r2.length]; omega, by rw [r1.length, r2.length]; omega⟩
  · obtain ⟨s1, r1⟩ := h1 g H w t
    obtain ⟨s2, r2⟩ := h2 g H w t
    obtain ⟨T, x', y', rfl, hT, rfl, f1, f2⟩ := y
    obtain ⟨d, hd, rd⟩ := r1.getV (f1 us s1)
    obtain ⟨e, he, re⟩ := r2.getV (f2 vs s2)
    obtain ⟨g', e1, st, r⟩ := pair_new w hT rd re
    exact ⟨g', _, e1, st, zipL_get hd he, r⟩
theorem wk_enum {p : Pg} {T : Tm} {a : Addr} {us : List V} {ds : List D} (h1 : SqW p T true a us ds) : Wk p T (Ite p.K a) (enumL 0 ds) := by
  refine ⟨fun i g H hi w t => ?_, fun g H w t => ?_, fun i g H x H' hi w t y => ?_⟩
  · obtain ⟨s1, r1⟩ := h1 g H w t
    rw [enumL_len] at hi
    exact ⟨us, _, s1, List.getElem?_eq_getElem (by rw [r1.length]; exact hi)⟩
  · obtain ⟨s1, r1⟩ := h1 g H w t
    rw [enumL_len]
    exact ⟨us, s1, by rw [r1.length]; exact Nat.le_refl _⟩
  · obtain ⟨s1, r1⟩ := h1 g H w t
    obtain ⟨T, x', rfl, hT, rfl, f1⟩ := y
    obtain ⟨d, hd, rd⟩ := r1.getV (f1 us s1)
    obtain ⟨g', e1, st, r⟩ := pair_new w hT (.int (i : Nat)) rd
    exact ⟨g', _, e1, st, by rw [enumL_get hd, Nat.zero_add], r⟩
section
variable {S : Sta} {ρ : Ev} {a b c tg it e : Expr} {ma mb mc m : M D} {mi : M (List D)} {pos p tpos : Pos} {elts : List Expr} {kk : Nat}
def zip2M (ma mb : M D) : M (List D) := ma >>= fun x => mb >>= fun y => items x >>= fun xs => items y >>= fun ys => pure (zipL xs ys)
theorem ei_zip_core {T : Gs → Hp → Tm} {R : Rel} (hT : ∀ (g : Gs) (H : Hp) (g' : Gs) (H' : Hp) (v : V) (d : D), Stp S.pg g H g' H' → R H g' H' v d → SqK S.pg (T g' H') v d) (hT0 : ∀ (g : Gs) (H : Hp), Wf S.pg g H → T g H g H)
    (hTl : ∀ (g : Gs) (H : Hp) (g' : Gs) (H' : Hp), Stp S.pg g H g' H' → ∀ g2 H2, T g' H' g2 H2 → T g H g2 H2) (wR : ∀ (g : Gs) (H : Hp), Wf S.pg g H → True)
    (hg : Glb S "zip") (hm : S.pg.mg "zip" = none) (ha : EX S ρ R a ma) (hb : EX S ρ R b mb) (hs : NoStar [a, b]) (hs2 : NoStar [b]) : EI S ρ T (.Tuple elts kk tpos) (.Call (.Name "zip" p) [a, b] [] pos) (zip2M ma mb) := fun Y ok =>
  (pi_zipG (X := S.cx Y) hg hm (pa_cons (ha Y ok) (pa_cons (hb Y ok) pa_nil (hs2 _)) (by rw [hs2 _]; exact hs _)) (by rw [hs2 _]; exact hs _) (by rw [hs2 _]; rfl)).pre fun σ H Q ⟨F, g, E, q⟩ =>
    rdX.bind E q fun x v g' H' s E' r q => rdX.bind E' (q.imp (fun _ _ q => q) fun _ _ q => q.back E.wf s) fun y u g2 H2 s2 E2 r2 q => by
      obtain ⟨k1, a1, us, ds, e1, w1, q⟩ := items_K (hT g H g' H' v x s r) (post_bind q)
      obtain ⟨k2, b1, vs, es, e2, w2, q⟩ := items_K (hT g' H' g2 H2 u y s2 r2) (post_bind q)
      subst e1 e2
      have w1' : SqW S.pg (T g2 H2) k1 a1 us ds := fun g H w t => w1 g H w (hTl _ _ _ _ s2 _ _ t)
      exact ⟨a1, b1, us, vs, k1, k2, rfl, (w1' g2 H2 E2.wf (hT0 g2 H2 E2.wf)).1, (w2 g2 H2 E2.wf (hT0 g2 H2 E2.wf)).1, (post_pure q) _ g2 H2 rfl (s.trans E.wf s2) (wk_zip w1' w2)⟩
theorem ei_zip (hg : Glb S "zip") (hm : S.pg.mg "zip" = none) (ha : EE S ρ a ma) (hb : EE S ρ b mb) (hs : NoStar [a, b] := by intro _; rfl) (hs2 : NoStar [b] := by intro _; rfl) : EI S ρ (TL S.pg) (.Tuple elts kk tpos) (.Call (.Name "zip" p) [a, b] [] pos) (zip2M ma mb) :=
  ei_zip_core (fun _ _ _ _ _ _ _ r => sq_strong r) (fun g _ _ => .refl g) (fun _ _ _ _ s _ _ t => s.ltr.trans t) (fun _ _ _ => True.intro) hg hm ha hb hs hs2
/-- enumerate of a list -/
def lstO : D → M (List D)
  | .lst ds => pure ds
  | _ => stuck
def enumM (ma : M D) : M (List D) := ma >>= fun x => lstO x >>= fun xs => pure (enumL 0 xs)
theorem ei_enum_core {T : Gs → Hp → Tm} {R : Rel} (hT : ∀ (g : Gs) (H : Hp) (g' : Gs) (H' : Hp) (v : V) (d : D), Stp S.pg g H g' H' → R H g' H' v d → SqK S.pg (T g' H') v d) (hT0 : ∀ (g : Gs) (H : Hp), Wf S.pg g H → T g H g H)
    (hg : Glb S "enumerate") (hm : S.pg.mg "enumerate" = none) (ha : EX S ρ R a ma) (hs : NoStar [a]) : EI S ρ T (.Tuple elts kk tpos) (.Call (.Name "enumerate" p) [a] [] pos) (enumM ma) := fun Y ok =>
  (pi_enum (X := S.cx Y) hg hm (pa_cons (ha Y ok) pa_nil (hs _)) (hs _)).pre fun σ H Q ⟨F, g, E, q⟩ =>
    rdX.bind E q fun x v g' H' s E' r q => by
      cases x with
      | lst ds =>
        obtain ⟨a1, us, e1, w1⟩ := hT g H g' H' v _ s r
        subst e1
        have q := post_bind q
        exact ⟨a1, us, rfl, (w1 g' H' E'.wf (hT0 g' H' E'.wf)).1, (post_pure q) _ g' H' rfl s (wk_enum w1)⟩
      | _ => exact False.elim q
theorem ei_enum (hg : Glb S "enumerate") (hm : S.pg.mg "enumerate" = none) (ha : EE S ρ a ma) (hs : NoStar [a] := by intro _; rfl) : EI S ρ (TL S.pg) (.Tuple elts kk tpos) (.Call (.Name "enumerate" p) [a] [] pos) (enumM ma) :=
  ei_enum_core (fun _ _ _ _ _ _ _ r => sq_strong r) (fun g _ _ => .refl g) hg hm ha hs
theorem ei_enumR (hg : Glb S "enumerate") (hm : S.pg.mg "enumerate" = none) (ha : EL S ρ a ma) (hs : NoStar [a] := by intro _; rfl) : EI S ρ (TS' S.pg) (.Tuple elts kk tpos) (.Call (.Name "enumerate" p) [a] [] pos) (enumM ma) :=
  ei_enum_core (fun _ _ _ _ _ _ s r => sq_weak s.wf r) (fun g _ w => .refl w) hg hm ha hs
end
/-! ### list(range(..)) -/
section
variable {S : Sta} {ρ : Ev} {a b c : Expr} {ma mb mc m : M D} {pos p p2 rpos : Pos}
def rgM (lo hi : Int) : M D := if 0 ≤ lo ∧ lo ≤ 16777216 ∧ 0 ≤ hi ∧ hi ≤ 16777216 then pure (.lst (rangeL lo (hi - lo).toNat)) else stuck
def intG : D → M Int
  | .int i => pure i
  | _ => stuck
theorem rps_range {K : PySem.W.Frag} {G : Hp} {am : List Addr} (lo hi : Int) : Rps K G am (rgV lo hi) (rangeL lo (hi - lo).toNat) := by
  have : ∀ l : List Nat, Rps K G am (l.map fun i => V.int (lo + (i : Nat))) (l.map fun i => D.int (lo + (i : Nat))) := by
    intro l
    induction l with
    | nil => exact .nil
    | cons x r ih => exact .cons (.int _) ih
  exact this _
theorem intG_post {d : D} {s : Store} {ok : Int → Store → Prop} {ex : Nat → Store → Prop} (q : (intG d s).Post ok ex) : ∃ i, d = .int i ∧ ok i s := by
  cases d with
  | int i => exact ⟨i, rfl, q⟩
  | _ => exact False.elim q
theorem rgM_ok {S : Sta} {g g0 : Gs} {H H0 : Hp} {Q : VK} {lo hi : Int} {E : Nat → Store → Prop} (w0 : Wf S.pg g0 H0) (s : Stp S.pg g0 H0 g H) (w : Wf S.pg g H) (q : (rgM lo hi g.st).Post (Pv S.pg (RN S.pg) g0 H0 Q) E) : RgOk lo hi ∧ ∀ q, H q = none → Q (.ref q) (upd H q (.lst (rgV lo hi))) := by
  unfold rgM at q
  by_cases z : 0 ≤ lo ∧ lo ≤ 16777216 ∧ 0 ≤ hi ∧ hi ≤ 16777216
  · rw [if_pos z] at q
    exact ⟨RgOk.of_le z.1 z.2.2.2 z.2.1 z.2.2.1, fun l hl => (post_pure q) _ g _ rfl (s.trans w0 (Stp.laid w hl)) ⟨l, rfl, ⟨_, upd_same, rps_range lo hi⟩, w.freeG hl, w.freeA hl, s.none_of w0 hl⟩⟩
  · rw [if_neg z] at q
    exact False.elim q
theorem en_listRg1 (hg : Glb S "list") (hm : S.pg.mg "list" = none) (hg2 : Glb S "range") (hm2 : S.pg.mg "range" = none) (ha : EL S ρ a ma) (hs : NoStar [a] := by intro _; rfl) (hs2 : NoStar [.Call (.Name "range" p2) [a] [] rpos] := by intro _; rfl) :
    EN S ρ (.Call (.Name "list" p) [.Call (.Name "range" p2) [a] [] rpos] [] pos) (ma >>= intG >>= rgM 0) := fun Y ok =>
  (pe_listRg (X := S.cx Y) rfl hg hm (prg_1 (X := S.cx Y) hg2 hm2 (ha Y ok) (hs _)) (hs2 _)).pre fun σ H Q ⟨F, g, E, q⟩ => by
    rw [bind_assoc'] at q
    exact rdX.bind E q fun x v g' H' s E' r q => by
      obtain ⟨i, rfl, q⟩ := intG_post (post_bind q)
      exact ⟨i, r.int, rgM_ok E.wf s E'.wf q⟩
end
/-! ### cells -/
section
variable {p : Pg} {g g' : Gs} {H H' : Hp}
/-- a container with a cell of its own -/
def celD : D → M D
  | .lst ds => newC (.lst ds) >>= fun k => pure (.ref k)
  | .dct ds => newC (.dct ds) >>= fun k => pure (.ref k)
  | .dcT ds => newC (.dcT ds) >>= fun k => pure (.ref k)
  | _ => stuck
/-- a new cell -/
def Gs.cell (g : Gs) (a : Addr) (c : Cell) : Gs := ⟨g.G, g.am ++ [a], g.st ++ [c]⟩
theorem Stp.cell {a : Addr} {c : Cell} (w : Wf p g H) (hG : g.G a = none) (ha : a ∉ g.am) (hc : CellR p g H a c) : Wf p (g.cell a c) H ∧ g.am <+: (g.cell a c).am := by
  have pre : g.am <+: g.am ++ [a] := List.prefix_append _ _
  refine ⟨⟨w.sub, fun b hb => ?_, ?_, ?_, fun k b d e1 e2 => ?_⟩, pre⟩
  · rcases List.mem_append.mp hb with h | h
    · exact w.amG b h
    · rw [List.mem_singleton.mp h]; exact hG
  · refine List.nodup_append.mpr ⟨w.nd, List.nodup_cons.mpr ⟨List.not_mem_nil, List.nodup_nil⟩, fun x hx y hy e => ?_⟩
    rw [List.mem_singleton.mp hy] at e
    exact ha (e ▸ hx)
  · show (g.am ++ [a]).length = (g.st ++ [c]).length
    rw [List.length_append, List.length_append, w.len]
    rfl
  · have e1 : (g.am ++ [a])[k]? = some b := e1
    have e2 : (g.st ++ [c])[k]? = some d := e2
    by_cases hk : k < g.am.length
    · rw [List.getElem?_append_left hk] at e1
      rw [List.getElem?_append_left (by rw [← w.len]; exact hk)] at e2
      exact (w.cell k b d e1 e2).mono (g' := g.cell a c) (fun _ _ e => e) pre rfl fun _ e => e
    · rw [List.getElem?_append_right (by omega)] at e1
      rw [List.getElem?_append_right (by rw [← w.len]; omega)] at e2
      rw [← w.len] at e2
      have hk0 : k - g.am.length = 0 := by
        have := (List.getElem?_eq_some_iff.mp e1).1
        rw [List.length_singleton] at this
        omega
      rw [hk0] at e1 e2
      cases e1
      cases e2
      exact hc.mono (g' := g.cell a c) (fun _ _ e => e) pre rfl fun _ e => e
theorem NewR.cell {v : V} {d : D} {Q : VK} {E : Nat → Store → Prop} (w : Wf p g H) (s : Stp p g H g' H') (r : NewR p H g' H' v d) (q : (celD d g'.st).Post (Pv p (RE p) g H Q) E) : Q v H' := by
  obtain ⟨a, rfl, o, hG, ha, hn⟩ := r
  have core : ∀ c, CellR p g' H' a c → ((newC c >>= fun k => pure (D.ref k)) g'.st).Post (Pv p (RE p) g H Q) E → Q (.ref a) H' := fun c hc q => by
    obtain ⟨wf', pre⟩ := Stp.cell s.wf hG ha hc
    have q : Pv p (RE p) g H Q (.ref g'.st.length) (g'.st ++ [c]) := q
    refine q (.ref a) (g'.cell a c) H' rfl ⟨s.gle, s.aml.trans pre, s.keep, s.gnew, fun b hb => ?_, wf'⟩ (.ref ?_)
    · rcases List.mem_append.mp hb with h | h
      · exact s.amn b h
      · rw [List.mem_singleton.mp h]; exact .inr hn
    · show (g'.am ++ [a])[g'.st.length]? = some a
      rw [← s.wf.len, List.getElem?_append_right (Nat.le_refl _), Nat.sub_self]
      rfl
  cases d with
  | lst ds => exact core (.lst ds) o q
  | dct es => exact core (.dct es) o q
  | dcT es => exact core (.dcT es) o q
  | _ => exact o.elim
theorem nodup_ix : ∀ {l : List Addr} {i j : Nat} {a : Addr}, l.Nodup → l[i]? = some a → l[j]? = some a → i = j
  | [], i, j, a, _, h, _ => by simp at h
  | x :: r, 0, 0, a, _, _, _ => rfl
  | x :: r, 0, j + 1, a, n, h, k => by
    simp at h k
    subst h
    exact absurd (List.mem_of_getElem? k) (List.nodup_cons.mp n).1
  | x :: r, i + 1, 0, a, n, h, k => by
    simp at h k
    subst k
    exact absurd (List.mem_of_getElem? h) (List.nodup_cons.mp n).1
  | x :: r, i + 1, j + 1, a, n, h, k => by
    simp at h k
    rw [nodup_ix (List.nodup_cons.mp n).2 h k]
/-- a cell's container is written -/
theorem Stp.wrt {a : Addr} {k : Nat} {c : Cell} {o u : HO} (w : Wf p g H) (hk : g.am[k]? = some a) (e : H a = some u) (nu : ∀ y, u ≠ .own y) (nt : ∀ xs, u ≠ .tup xs) (hc : CellR p { g with st := g.st.set k c } (upd H a o) a c) : Stp p g H { g with st := g.st.set k c } (upd H a o) := by
  have ham : a ∈ g.am := List.mem_of_getElem? hk
  have hG := w.amG a ham
  refine ⟨fun _ _ e => e, List.prefix_refl _, fun b x eb hb => ?_, fun b x e => .inl e, fun b h => .inl h, ⟨fun b x e => ?_, w.amG, w.nd, by show g.am.length = (g.st.set k c).length; rw [List.length_set, w.len], fun j b d e1 e2 => ?_⟩⟩
  · rw [upd_ne (fun z => hb (by rw [z]; exact ham))]; exact eb
  · have e : g.G b = some x := e
    rw [upd_ne (ne_of_none e hG)]
    exact w.sub b x e
  · have e1 : g.am[j]? = some b := e1
    have e2 : (g.st.set k c)[j]? = some d := e2
    by_cases z : k = j
    · subst z
      rw [hk] at e1
      cases e1
      have hl : k < g.st.length := by rw [← w.len]; exact (List.getElem?_eq_some_iff.mp hk).1
      rw [List.getElem?_set_self hl] at e2
      cases e2
      exact hc
    · rw [List.getElem?_set_ne z] at e2
      have hb : b ≠ a := fun h => by
        subst h
        have l1 := (List.getElem?_eq_some_iff.mp hk).1
        have l2 := (List.getElem?_eq_some_iff.mp e1).1
        have h1 := (List.getElem?_eq_some_iff.mp hk).2
        have h2 := (List.getElem?_eq_some_iff.mp e1).2
        exact z (nodup_ix w.nd e1 hk).symm
      have h := w.cell j b d e1 e2
      cases d with
      | lst ds =>
        obtain ⟨xs, e1, r⟩ := h
        exact ⟨xs, by rw [upd_ne hb]; exact e1, r⟩
      | dct es =>
        obtain ⟨kvs, e1, r⟩ := h
        exact ⟨kvs, by rw [upd_ne hb]; exact e1, r⟩
      | dcT es =>
        obtain ⟨kvs, e1, r⟩ := h
        exact ⟨kvs, by rw [upd_ne hb]; exact e1, r⟩
      | ins c fs =>
        obtain ⟨dx, fvs, e1, e2, r⟩ := h
        exact ⟨dx, fvs, by rw [upd_ne hb]; exact e1, by rw [upd_ne (ne_of e2 e fun z => nu b z.symm)]; exact e2, r⟩
end
def celL : D → M (Nat × List D)
  | .ref k => getC k >>= fun c => match c with
    | .lst ds => pure (k, ds)
    | _ => stuck
  | _ => stuck
theorem celL_post {p : Pg} {g : Gs} {H : Hp} {v : V} {d : D} {ok : Nat × List D → Store → Prop} {ex : Nat → Store → Prop} (w : Wf p g H) (r : p.Rp g v d) (q : (celL d g.st).Post ok ex) :
    ∃ k a xs ds, v = .ref a ∧ g.am[k]? = some a ∧ H a = some (.lst xs) ∧ p.Rps g xs ds ∧ ok (k, ds) g.st := by
  cases d with
  | ref k =>
    obtain ⟨a, rfl, e⟩ := TopR.ref (H := H) (.inl r)
    obtain ⟨c, e2, r⟩ := w.at_ref e
    have q : ((getC k >>= fun c => match c with
      | .lst ds => pure (k, ds)
      | _ => stuck) g.st).Post ok ex := q
    rw [bind_run] at q
    unfold getC at q
    rw [e2] at q
    cases c with
    | lst ds =>
      obtain ⟨xs, ex, rx⟩ := r
      exact ⟨k, a, xs, ds, rfl, e, ex, rx, q⟩
    | _ => exact False.elim q
  | _ => exact False.elim q
theorem post_setC {α : Type} {k : Nat} {c : Cell} {f : Unit → M α} {s : Store} {ok : α → Store → Prop} {ex : Nat → Store → Prop} (q : ((setC k c >>= f) s).Post ok ex) : (f () (s.set k c)).Post ok ex := q
section
variable {S : Sta} {ρ : Ev} {a b c o e ie : Expr} {ma mb mc m mo : M D} {pos p apos cpos spos : Pos} {N B : Type} {shN : N → Ev} {shB : B → Ev} {rest : List Stmt}
theorem ee_cell (h : EN S ρ e m) : EE S ρ e (m >>= celD) := fun Y ok => (h Y ok).pre fun σ H Q ⟨F, g, E, q⟩ =>
  ⟨F, g, E, (post_bind q).imp (fun d st' q v g' H' e s r => by
    rw [← e] at q
    exact NewR.cell E.wf s r q) fun _ _ q => q⟩
/-- o[i] = e, o a list with a cell -/
def cellSet (x i y : D) : M Unit := celL x >>= fun kd => intG i >>= fun n => setL kd.2 n y >>= fun ds => setC kd.1 (.lst ds)
theorem sb_cset {k : M (Out N B)} (he : EE S ρ e m) (ho : EE S ρ o mo) (hb : EE S ρ b mb) (hr : SB S ρ rest k shN shB)
    (hsw : ∀ env : Env, swapsWithSole [.Subscript o b spos] e pos.line env = pure false) (hw : ∀ env : Env, swappedStores [.Subscript o b spos] e env = pure none)
    (h1 : ∀ env : Env, (assignEach [.Subscript o b spos] env).map (·.2) = [assign (.Subscript o b spos) env])
    (ha2 : ∀ (env : Env) v, assign (.Subscript o b spos) env v = (do
      let ov ← holding [v] (eval o env)
      let iv ← holding [v, ov] (eval b env)
      standAt spos
      holding [v, ov, iv] (setItem ov iv v)
      release [v, ov, iv] [])) :
    SB S ρ (.Assign [.Subscript o b spos] e pos :: rest) (m >>= fun y => mo >>= fun x => mb >>= fun i => cellSet x i y >>= fun _ => k) shN shB := fun Y ok => by
  have hG : PG (S.cx Y) (.Subscript o b spos) _ := pg_sub (X := S.cx Y) (ho Y ok) (hb Y ok) set_list (ha2 _)
  refine (pss_cons (ps_asg (X := S.cx Y) (he Y ok) hG (hsw _) (hw _) (h1 _)) (hr Y ok)).pre fun Dd σ H ⟨F, g, E, q⟩ => ?_
  refine rdS.expr E q fun y v g1 H1 s1 E1 r1 q => rdS.expr E1 q fun x u g2 H2 s2 E2 r2 q => rdS.expr E2 q fun i w g3 H3 s3 E3 r3 q => ?_
  unfold cellSet at q
  simp only [bind_assoc'] at q
  obtain ⟨kk, a, xs, ds, rfl, hk, hx, rx, q⟩ := celL_post E3.wf (r2.mono s3.gle s3.aml) (post_bind q)
  obtain ⟨n, rfl, q⟩ := intG_post (post_bind q)
  obtain rfl := TopR.int (H := H3) (.inl r3)
  obtain ⟨j, ej, q⟩ := setL_post (post_bind q)
  have q := post_setC q
  have ry := (r1.mono s2.gle s2.aml).mono s3.gle s3.aml
  have st : Stp S.pg g3 H3 { g3 with st := g3.st.set kk (.lst (ds.set j y)) } (upd H3 a (.lst (xs.set j v))) :=
    Stp.wrt E3.wf hk hx (fun _ z => by cases z) (fun _ z => by cases z) ⟨_, upd_same, rx.set ry j⟩
  exact ⟨a, xs, n, j, rfl, rfl, hx, by rw [rx.length]; exact ej, F, _, E3.step st, q.imp (fun _ _ q => q.back st.ltr) fun _ _ q => q⟩
/-- o.pop(i) of a list with a cell -/
def cellPop (x i : D) : M D := celL x >>= fun kd => intG i >>= fun n =>
  if -(2 ^ 63) ≤ n ∧ n < 2 ^ 63 then (match seqIndex? n kd.2.length with
    | some j => (match kd.2[j]? with
      | some y => setC kd.1 (.lst (kd.2.eraseIdx j)) >>= fun _ => pure y
      | none => stuck)
    | none => stuck) else stuck
theorem ee_cpop (ho : EE S ρ o mo) (hb : EE S ρ b mb) (hs : NoStar [b] := by intro _; rfl) (hline : (apos.endLine == cpos.line) = true := by rfl) (hba : ∀ env : Env, attributeBase o "pop" env (eval o env) = eval o env := by intro _; rfl) :
    EE S ρ (.Call (.Attribute o "pop" apos) [b] [] cpos) (mo >>= fun x => celL x >>= fun _ => mb >>= fun i => cellPop x i) := fun Y ok => by
  refine (pe_bm (X := S.cx Y) (cpos := cpos) (apos := apos) PySem.F.plainAttrs_list PySem.F.slot_list_pop PySem.F.type_list_pop mt_popAt (ho Y ok) (pa_cons (hb Y ok) pa_nil (hs _)) (hba _) (by rw [hs _]; rfl) hline (hs _) (by rfl)).pre fun σ H Q ⟨F, g, E, q⟩ => ?_
  refine rdX.bind E q fun x v g1 H1 s1 E1 r1 q => ?_
  obtain ⟨k0, a, us, ds0, rfl, hk0, hx0, rx0, q⟩ := celL_post E1.wf r1 (post_bind q)
  refine ⟨.inl ⟨rfl, us, SqL.of hx0⟩, rdX.bind E1 (q.imp (fun _ _ q => q) fun _ _ q => q.back E.wf s1) fun i w g2 H2 s2 E2 r2 q => ?_⟩
  unfold cellPop at q
  obtain ⟨k, a2, xs, ds, e2, hk, hx, rx, q⟩ := celL_post E2.wf (r1.mono s2.gle s2.aml) (post_bind q)
  cases e2
  obtain ⟨n, ei, q5⟩ := intG_post (post_bind q)
  subst ei
  obtain rfl := TopR.int (H := H2) (.inl r2)
  by_cases z : -(2 ^ 63) ≤ n ∧ n < 2 ^ 63
  · simp only [if_pos z] at q5
    cases ej : seqIndex? n ds.length with
    | none => simp only [ej] at q5; exact False.elim q5
    | some j =>
      simp only [ej] at q5
      cases ed : ds[j]? with
      | none => simp only [ed] at q5; exact False.elim q5
      | some y =>
        simp only [ed] at q5
        have q := post_setC q5
        obtain ⟨vy, hy, ry⟩ := rx.get ed
        have st : Stp S.pg g2 H2 { g2 with st := g2.st.set k (.lst (ds.eraseIdx j)) } (upd H2 a (.lst (xs.eraseIdx j))) :=
          Stp.wrt E2.wf hk hx (fun _ z => by cases z) (fun _ z => by cases z) ⟨_, upd_same, rx.eraseIdx j⟩
        exact ⟨a, xs, n, j, vy, rfl, rfl, hx, z.1, z.2, by rw [rx.length]; exact ej, hy, (post_pure q) vy _ _ rfl (s1.trans E.wf (s2.trans E1.wf st)) ry⟩
  · simp only [if_neg z] at q5
    exact False.elim q5
end
end DL
namespace DL
open PySem PySem.Spec PyProof.Rows L2
/-! ### t[::-1] of a tuple -/
section
variable {prog : Program} {w : World} {A : Around} {E : Value → Shared → Prop} {s : Shared}
theorem adjust_rev (n : Nat) : Builtin.Slice.sliceAdjust none none (-1) (n : Int) = ((n : Int) - 1, -1) := by
  unfold Builtin.Slice.sliceAdjust
  have h1 : ((-1 : Int) < 0) := by omega
  simp only [h1, if_true]
theorem places_rev (n : Nat) : Builtin.Slice.slicePlaces ((n : Int) - 1) (-1) (-1) = n := by
  unfold Builtin.Slice.slicePlaces
  have h1 : ¬ ((-1 : Int) > 0) := by omega
  have e : (- -1 : Int) = 1 := by omega
  simp only [h1, if_false, e, Int.ediv_one]
  split <;> omega
theorem fm_congr {α β : Type} {f g : α → Option β} : ∀ {l : List α}, (∀ k ∈ l, f k = g k) → l.filterMap f = l.filterMap g
  | [], _ => rfl
  | x :: r, h => by
    rw [List.filterMap_cons, List.filterMap_cons, h x List.mem_cons_self, fm_congr fun k hk => h k (List.mem_cons_of_mem _ hk)]
theorem pick_rev (its : List Value) : ((List.range its.length).filterMap fun (k : Nat) => its.toArray[(((its.length : Int) - 1) + (k : Int) * (-1)).toNat]?) = its.reverse := by
  refine List.ext_getElem? fun i => ?_
  have : (List.range its.length).filterMap (fun (k : Nat) => its.toArray[(((its.length : Int) - 1) + (k : Int) * (-1)).toNat]?) = (List.range its.length).filterMap fun k => its.reverse[k]? := by
    refine fm_congr fun k hk => ?_
    have hk := List.mem_range.mp hk
    have e : (((its.length : Int) - 1) + (k : Int) * (-1)).toNat = its.length - 1 - k := by omega
    rw [e, List.getElem?_reverse hk]
    try simp
  rw [this]
  have h2 := PySem.W.krv_all its.reverse.toArray
  have h3 : (List.range its.length).filterMap (fun k => its.reverse[k]?) = its.reverse := by
    have e : its.reverse.toArray.size = its.length := by simp
    rw [e] at h2
    simpa using h2
  rw [h3]
theorem getItem_tuple_rev {t sl : Addr} {its : List Value} {vs : Value} {Q : Value → Shared → Prop} (ht : IsTup s.heap t its.toArray) (hs : s.heap.IsSliceOf sl .none .none vs) (ps : IsPart vs (some (-1)))
    (h : Q (.ref s.heap.objs.size) { s with heap := s.heap.push { cls := .type "tuple", data := .seq its.reverse.toArray } }) (hsz : its.length ≤ sizeLine) : wpAny (model prog w) A (getItem (.ref t) (.ref sl)) Q E s := by
  have htake : sizeOk (.seq its.reverse.toArray) := by
    show its.reverse.toArray.size ≤ sizeLine
    rw [List.size_toArray, List.length_reverse]
    exact hsz
  obtain ⟨os, hos, hcs, hds⟩ := id hs
  have hTs : s.TypeIs (.ref sl) "slice" := ⟨os, hos, hcs⟩
  have hap : ∀ {A' : Around} {E' : Value → Shared → Prop} {Q : Int × Int × Nat → Shared → Prop}, Q ((its.length : Int) - 1, -1, its.length) s → wpAny (model prog w) A' (Builtin.Slice.sliceApplied (.ref sl) (pure (its.toArray.size : Int))) Q E' s := by
    intro A' E' Q q
    unfold Builtin.Slice.sliceApplied Builtin.Slice.sliceFields
    refine wpAny_bind (wpAny_bind (wpAny_field hos hds (x := .none) rfl (wpAny_bind (wpAny_field hos hds (x := .none) rfl (wpAny_bind (wpAny_field hos hds (x := vs) rfl (wpAny_pure ?_)))))))
    refine wpAny_bind (HT.slicePart_ ps ?_)
    show wpAny _ _ (if ((-1 : Int) == 0) = true then _ else _) _ _ s
    rw [if_neg (by decide)]
    refine wpAny_bind (HT.slicePart_ .none (wpAny_bind (HT.slicePart_ .none (wpAny_bind (wpAny_pure ?_)))))
    show wpAny _ _ (match Builtin.Slice.sliceAdjust none none (-1) (its.toArray.size : Int) with | (lo, hi) => pure (lo, (-1 : Int), Builtin.Slice.slicePlaces lo hi (-1))) _ _ s
    rw [List.size_toArray, adjust_rev]
    show wpAny _ _ (pure ((its.length : Int) - 1, (-1 : Int), Builtin.Slice.slicePlaces ((its.length : Int) - 1) (-1) (-1))) _ _ s
    rw [places_rev]
    exact wpAny_pure q
  unfold getItem
  try with_reducible refine wpAny_holding ?_
  first | refine wpAny_bind (wpAny_pure ?_) | skip
  refine wpAny_bind (wpAny_sequenceKey ht.typeIs (by decide) ?_)
  refine wpAny_bind (wpAny_callSpecial?_slot (name := Str.ofString "__getitem__") ht.typeIs PyProof.Rows.slot_tuple_getitem
    (wpAny_call_entry PyProof.Rows.slot_tuple_getitem ht.typeIs entry_tuple_getitem ?_ (args_tuple_getitem _ _)))
  show wpAny _ _ (Builtin.Tuple.tupleItemsOf (.ref t) >>= _) _ _ s
  refine wpAny_bind (tupleItemsOf_ ht (wpAny_bind (wpAny_typeOf hTs ?_)))
  rw [if_pos (by decide)]
  refine wpAny_bind (hap ?_)
  have hno : ¬ ((((its.length : Int) - 1) == 0 && (-1 : Int) == 1 && its.length == its.toArray.size) = true) := by
    have : ((-1 : Int) == 1) = false := by decide
    rw [this, Bool.and_false, Bool.false_and]
    exact Bool.false_ne_true
  show wpAny _ _ (if (((its.length : Int) - 1) == 0 && (-1 : Int) == 1 && its.length == its.toArray.size) = true then _ else _) _ _ s
  rw [if_neg hno, pick_rev]
  first
    | exact wpAny_bind (m := Builtin.Tuple.tupleExact _) (wpAny_newObj_type (wpAny_pure ⟨_, rfl, wpAny_pure h⟩) htake)
    | exact wpAny_bind (m := Builtin.Tuple.tupleExact _) (wpAny_newObj_type (wpAny_bind (wpAny_pure (wpAny_pure ⟨_, rfl, wpAny_pure h⟩))) htake)
    | exact wpAny_bind (wpAny_bind (m := Builtin.Tuple.tupleExact _) (wpAny_newObj_type (wpAny_pure (wpAny_pure ⟨_, rfl, wpAny_pure h⟩)) htake))
    | exact wpAny_bind (wpAny_bind (m := Builtin.Tuple.tupleExact _) (wpAny_newObj_type (wpAny_pure ⟨_, rfl, wpAny_pure h⟩) htake))
end
def tRevT (K : PySem.W.Frag) (te : TE) : TE := fun σ H Q => te σ H fun x H1 => ∃ a xs, x = .ref a ∧ SqT K H1 a xs ∧ ∀ p, H1 p = none → Q (.ref p) (upd H1 p (.tup xs.reverse))
theorem pe_revT {X : Cx} {e : Expr} {te : TE} {k : Nat} {p1 p2 p3 pos : Pos} (he : PE X e te) : PE X (.Subscript e (.Slice none none (some (.UnaryOp .USub (.Constant (.int 1) k p1) p2)) p3) pos) (tRevT X.K te) := by
  refine ⟨fun pins s σ H Q I h => Subscript_ (thn (he.run pins s σ H _ I h) fun v s1 q0 => ?_)⟩
  obtain ⟨x, H1, I1, r1, a, xs, ex, hx, q⟩ := q0
  subst ex
  cases r1
  have hst : PO X (some (.UnaryOp .USub (.Constant (.int 1) k p1) p2)) (tPart (tUn (rU fun i => .int (-i)) (tC (.int 1)))) := po_some (pe_un un_neg pe_int)
  have e0 : ∀ {v : Value}, IsPart v none → v = .none := fun p => by cases p; rfl
  refine wpAny_Slice (thn (po_none.run pins s1 σ H1 (fun o H2 => o = none ∧ H2 = H1) I1 ⟨rfl, rfl⟩) fun vl s2 q0 => ?_)
  obtain ⟨l, H2, I2, pl, el, e2⟩ := q0
  subst el e2
  refine thn (po_none.run pins s2 σ H2 (fun o H3 => o = none ∧ H3 = H2) I2 ⟨rfl, rfl⟩) fun vu s3 q0 => ?_
  obtain ⟨u, H3, I3, pu, eu, e3⟩ := q0
  subst eu e3
  refine thn (hst.run pins s3 σ H3 (fun o H4 => o = some (-1) ∧ H4 = H3) I3 ⟨1, rfl, -1, rfl, rfl, rfl⟩) fun vs s4 q0 => ?_
  obtain ⟨o, H4, I4, ps, eo, e4⟩ := q0
  subst eo e4
  have z1 := e0 pl
  have z2 := e0 pu
  subst z1 z2
  have I5 : Inv X pins σ H4 { s4 with heap := s4.heap.push { cls := .type "slice", data := .fields #[.none, .none, vs] } } := I4.kept (t' := s4.toks) fun b ob q => Heap.get?_push_of_some _ q
  obtain ⟨its, r, ht, hz⟩ := I5.tuple hx
  have hlen := r.length
  refine tail_any (s := { s4 with heap := s4.heap.push { cls := .type "slice", data := .fields #[.none, .none, vs] } }) (ops := [.ref a, .ref s4.heap.objs.size]) ht.typeIs (PyProof.Rows.slot_tuple_getitem.lookup) ?_ (by with_unfolding_all rfl)
  refine getItem_tuple_rev ht (Heap.IsSliceOf.new _ _ _ vs) ps ?_ (by rw [← hlen]; exact hz)
  refine ⟨.ref _, _, I5.laid (t' := s4.toks) (o := .tup xs.reverse) (fun b ob q => Heap.get?_push_of_some _ q) (Nat.le_refl _) ?_, rfl, q _ (I5.hok.fresh (Nat.le_refl _))⟩
  exact ⟨by rw [List.length_reverse]; exact hz, _, r.reverse, IsTup.new _ _⟩
def revD : D → M D
  | .tup ds => pure (.tup ds.reverse)
  | _ => stuck
def revL : D → M D
  | .lst ds => pure (.lst ds.reverse)
  | .rls ds => pure (.lst ds.reverse)
  | _ => stuck
section
variable {S : Sta} {ρ : Ev} {a : Expr} {ma : M D} {k : Nat} {p1 p2 p3 pos : Pos}
theorem ee_revT (ha : EL S ρ a ma) : EE S ρ (.Subscript a (.Slice none none (some (.UnaryOp .USub (.Constant (.int 1) k p1) p2)) p3) pos) (ma >>= revD) := fun Y ok =>
  (pe_revT (X := S.cx Y) (ha Y ok)).pre fun σ H Q ⟨F, g, E, q⟩ => rdX.bind E q fun x v g' H' s E' r q => by
    cases x with
    | tup ds =>
      obtain ⟨a, us, rfl, sq, ru⟩ := r.tup E'.wf
      refine ⟨a, us, rfl, sq, fun l hl => ?_⟩
      have s2 := Stp.new (o := .tup us.reverse) E'.wf hl
      exact (post_pure q) _ { g' with G := upd g'.G l (.tup us.reverse) } _ rfl (s.trans E.wf s2) (.tup upd_same (ru.reverse.mono s2.gle s2.aml))
    | _ => exact False.elim q
theorem en_revL (ha : EL S ρ a ma) : EN S ρ (.Subscript a (.Slice none none (some (.UnaryOp .USub (.Constant (.int 1) k p1) p2)) p3) pos) (ma >>= revL) := fun Y ok =>
  (pe_revL (X := S.cx Y) (ha Y ok)).pre fun σ H Q ⟨F, g, E, q⟩ => rdX.bind E q fun x v g' H' s E' r q => by
    have core : ∀ (a : Addr) (us : List V) (ds : List D), SqL S.pg.K H' a us → S.pg.Rps g' us ds → Pv S.pg (RN S.pg) g H Q (.lst ds.reverse) g'.st → ∃ a xs, V.ref a = .ref a ∧ SqL S.pg.K H' a xs ∧ ∀ p, H' p = none → Q (.ref p) (upd H' p (.lst xs.reverse)) := fun a us ds sq r q =>
      ⟨a, us, rfl, sq, fun l hl => q _ g' _ rfl (s.trans E.wf (Stp.laid E'.wf hl)) ⟨l, rfl, ⟨_, upd_same, r.reverse⟩, E'.wf.freeG hl, E'.wf.freeA hl, s.none_of E.wf hl⟩⟩
    cases x with
    | lst ds =>
      obtain ⟨a, us, rfl, sq, ru⟩ := r.lst E'.wf
      exact ⟨a, us, rfl, SqL.of sq, fun l hl => (post_pure q) _ g' _ rfl (s.trans E.wf (Stp.laid E'.wf hl)) ⟨l, rfl, ⟨_, upd_same, ru.reverse⟩, E'.wf.freeG hl, E'.wf.freeA hl, s.none_of E.wf hl⟩⟩
    | rls ds =>
      obtain ⟨a, us, rfl, sq, ru⟩ := r.rls E'.wf
      exact ⟨a, us, rfl, sq, fun l hl => (post_pure q) _ g' _ rfl (s.trans E.wf (Stp.laid E'.wf hl)) ⟨l, rfl, ⟨_, upd_same, ru.reverse⟩, E'.wf.freeG hl, E'.wf.freeA hl, s.none_of E.wf hl⟩⟩
    | _ => exact False.elim q
/-! ### a statement that is never met -/
variable {st : Stmt} {N B : Type} {shN : N → Ev} {shB : B → Ev} {rest : List Stmt}
theorem sb_never : SB S ρ (st :: rest) (stuck : M (Out N B)) shN shB := fun Y ok => pss_never.pre fun Dd σ H ⟨F, g, E, q⟩ => False.elim q
end
end DL
namespace DL
open PySem PySem.Spec PyProof.Rows L2
/-! ### by the number of arguments -/
def p1 {α : Type} (f : D → M α) : List D → M α
  | [a] => f a
  | _ => stuck
def p2 {α : Type} (f : D → D → M α) : List D → M α
  | [a, b] => f a b
  | _ => stuck
def p3 {α : Type} (f : D → D → D → M α) : List D → M α
  | [a, b, c] => f a b c
  | _ => stuck
def p4 {α : Type} (f : D → D → D → D → M α) : List D → M α
  | [a, b, c, d] => f a b c d
  | _ => stuck
def p5 {α : Type} (f : D → D → D → D → D → M α) : List D → M α
  | [a, b, c, d, e] => f a b c d e
  | _ => stuck
def p6 {α : Type} (f : D → D → D → D → D → D → M α) : List D → M α
  | [a, b, c, d, e, g] => f a b c d e g
  | _ => stuck
def p0 {α : Type} (f : M α) : List D → M α
  | [] => f
  | _ => stuck
section
variable {α : Type} {P : List D → M α → Prop}
theorem q0 {f : M α} (h : P [] f) : ∀ ds : List D, ds.length = 0 → P ds (p0 f ds)
  | [], _ => h
theorem q1 {f : D → M α} (h : ∀ a, P [a] (f a)) : ∀ ds : List D, ds.length = 1 → P ds (p1 f ds)
  | [a], _ => h a
theorem q2 {f : D → D → M α} (h : ∀ a b, P [a, b] (f a b)) : ∀ ds : List D, ds.length = 2 → P ds (p2 f ds)
  | [a, b], _ => h a b
theorem q3 {f : D → D → D → M α} (h : ∀ a b c, P [a, b, c] (f a b c)) : ∀ ds : List D, ds.length = 3 → P ds (p3 f ds)
  | [a, b, c], _ => h a b c
theorem q4 {f : D → D → D → D → M α} (h : ∀ a b c d, P [a, b, c, d] (f a b c d)) : ∀ ds : List D, ds.length = 4 → P ds (p4 f ds)
  | [a, b, c, d], _ => h a b c d
theorem q5 {f : D → D → D → D → D → M α} (h : ∀ a b c d e, P [a, b, c, d, e] (f a b c d e)) : ∀ ds : List D, ds.length = 5 → P ds (p5 f ds)
  | [a, b, c, d, e], _ => h a b c d e
theorem q6 {f : D → D → D → D → D → D → M α} (h : ∀ a b c d e g, P [a, b, c, d, e, g] (f a b c d e g)) : ∀ ds : List D, ds.length = 6 → P ds (p6 f ds)
  | [a, b, c, d, e, g], _ => h a b c d e g
end
/-! ### swaps -/
def swC (sc scope : Scope) (x : Str) (p1 p2 : Pos) : Bool := (if sc.kind.isAnnotationScope then ScopeKind.function else sc.kind) == .function && sc.names.lookup x == some .local && p1.line == p2.line && !(scope.names.any fun (n, k) => n == x && (k == .local || k == .cell))
theorem sw_lc {elt : Expr} {gs : List Comprehension} {sc scope : Scope} {x : Str} {p1 p2 : Pos} {l : Nat} {b : Bool} (h : swC sc scope x p1 p2 = b) : ∀ env : Env, env.scope = sc → swapsWith (.ListComp elt gs scope p2) (some (.Name x p1)) l env = pure b := by
  rintro env rfl
  rw [← h]
  rfl
/-! ### the law's end -/
/-- the law's promise -/
def spLaw (K : PySem.W.Frag) : Sp := fun vs H Q _ => ∃ (a : Addr) (ns : List Int), vs = [.ref a] ∧ ns.length ≤ 63 ∧ SqL K H a (ns.map V.int) ∧ ∀ H', Q (.bl true) H'
/-- the law holds of its mirror -/
def LawOk (F : List D → M D) : Prop := ∀ ns : List Int, ns.length ≤ 63 → (F [.rls (ns.map D.int)] []).Post (fun d _ => d = .bl true) fun _ _ => False
theorem law_sp {p : Pg} {F : List D → M D} (h : LawOk F) (vs : List V) (H : Hp) (Q : VK) (E : XK) (q : spLaw p.K vs H Q E) : spD p [.v] F vs H Q E := by
  obtain ⟨a, ns, rfl, hl, hs, q⟩ := q
  refine ⟨⟨H, [], []⟩, [.rls (ns.map D.int)], ⟨fun _ _ e => e, fun _ h => (List.not_mem_nil h).elim, List.nodup_nil, rfl, fun k b c e => by simp at e⟩, ⟨.rls hs (.ofInts ns), True.intro⟩, (h ns hl).imp (fun d st e => ?_) fun _ _ e => e.elim⟩
  subst e
  intro v g' H' _ s r
  cases r
  exact q H'
theorem cx_no {P : Program} {w : World} {H : Hp} {s s' : Shared} {e : Value} (h : L2N.CX P w [] H s (fun _ _ _ => False) e s') : False := by
  obtain ⟨_, _, _, _, _, _, _, _, _, _, _, _, h⟩ := h
  exact h
end DL
namespace DL
open PySem PySem.Spec PyProof.Rows L2
/-! ### the built-ins by name -/
section
variable {S : Sta}
theorem b_len (m : S.pg.mg "len" = none) (g : Glb S "len" := by rfl) : Blt S "len" (.builtin "len") := .mk' g m PySem.boot_len
theorem b_sum (m : S.pg.mg "sum" = none) (g : Glb S "sum" := by rfl) : Blt S "sum" (.builtin "sum") := .mk' g m PyProof.Rows.boot_sum
theorem b_any (m : S.pg.mg "any" = none) (g : Glb S "any" := by rfl) : Blt S "any" (.builtin "any") := .mk' g m PyProof.Rows.boot_any
theorem b_all (m : S.pg.mg "all" = none) (g : Glb S "all" := by rfl) : Blt S "all" (.builtin "all") := .mk' g m PyProof.Rows.boot_all
theorem b_max (m : S.pg.mg "max" = none) (g : Glb S "max" := by rfl) : Blt S "max" (.builtin "max") := .mk' g m PyProof.Rows.boot_max
theorem b_min (m : S.pg.mg "min" = none) (g : Glb S "min" := by rfl) : Blt S "min" (.builtin "min") := .mk' g m PyProof.Rows.boot_min
theorem b_abs (m : S.pg.mg "abs" = none) (g : Glb S "abs" := by rfl) : Blt S "abs" (.builtin "abs") := .mk' g m PyProof.Rows.boot_abs
theorem b_sorted (m : S.pg.mg "sorted" = none) (g : Glb S "sorted" := by rfl) : Blt S "sorted" (.builtin "sorted") := .mk' g m PyProof.Rows.boot_sorted
theorem b_int (m : S.pg.mg "int" = none) (g : Glb S "int" := by rfl) : Blt S "int" (.type "int") := .mk' g m PyProof.Rows.boot_int
theorem b_tuple (m : S.pg.mg "tuple" = none) (g : Glb S "tuple" := by rfl) : Blt S "tuple" (.type "tuple") := .mk' g m PyProof.Rows.boot_tuple
theorem b_list (m : S.pg.mg "list" = none) (g : Glb S "list" := by rfl) : Blt S "list" (.type "list") := .mk' g m PyProof.Rows.boot_list
end
/-! ### rules with their small print filled in -/
section
variable {S : Sta} {ρ : Ev} {a b c e : Expr} {ma mb mc m : M D} {pos p p2 : Pos} {R : Rel}
theorem ev (i : Nat) {x : Str} {d : D} (hs : ρ[i]? = some (.sh d) := by rfl) (hN : S.N[i]? = some x := by rfl) (hv : Vis S.sc x := by first | exact Or.inl rfl | exact Or.inr (Or.inl rfl) | exact Or.inr (Or.inr rfl))
    (hd : (x == ("__debug__" : Str)) = false := by decide) (hcd : (x == ("__classdict__" : Str)) = false := by decide) : EE S ρ (.Name x pos) (pure d) := ee_var i hs hN hv hd hcd
theorem evo (i : Nat) {x : Str} {d : D} (hs : ρ[i]? = some (.ow d) := by rfl) (hN : S.N[i]? = some x := by rfl) (hv : Vis S.sc x := by first | exact Or.inl rfl | exact Or.inr (Or.inl rfl) | exact Or.inr (Or.inr rfl))
    (hd : (x == ("__debug__" : Str)) = false := by decide) (hcd : (x == ("__classdict__" : Str)) = false := by decide) : EL S ρ (.Name x pos) (pure d) := el_ow i hs hN hv hd hcd
theorem evb (i : Nat) {x : Str} {d : D} (hs : ρ[i]? = some (.bo d) := by rfl) (hN : S.N[i]? = some x := by rfl) (hv : Vis S.sc x := by first | exact Or.inl rfl | exact Or.inr (Or.inl rfl) | exact Or.inr (Or.inr rfl))
    (hd : (x == ("__debug__" : Str)) = false := by decide) (hcd : (x == ("__classdict__" : Str)) = false := by decide) : EL S ρ (.Name x pos) (pure d) := el_bo i hs hN hv hd hcd
theorem eg {x : Str} {i : Int} (h : ∃ t, S.pg.mg x = some (.int i t)) (hg : S.sc.names.lookup x = some .globalImplicit := by rfl) (hd : (x == ("__debug__" : Str)) = false := by decide) : EE S ρ (.Name x pos) (pure (.int i)) := by
  obtain ⟨t, h⟩ := h
  exact ee_glob (v := .int i) hg h ⟨t, rfl⟩ (fun _ => .int i) hd
theorem xcmp {op : CmpOp} {r : R2} {f : D → D → M Bool} (h : Cmp S op r f) (ha : EL S ρ a ma) (hb : EL S ρ b mb) (hm : behindInMarks op b = false := by rfl) : EE S ρ (.Compare a [op] [b] pos) (ma >>= fun x => mb >>= fun y => f x y >>= fun b => pure (.bl b)) := ee_cmp h ha hb hm
theorem tcmp {op : CmpOp} {r : R2} {f : D → D → M Bool} (h : Cmp S op r f) (ha : EL S ρ a ma) (hb : EL S ρ b mb) (hm : behindInMarks op b = false := by rfl) : ET S ρ (.Compare a [op] [b] pos) (ma >>= fun x => mb >>= fun y => f x y) := et_cmp h ha hb hm
theorem xix (ha : EL S ρ a ma) (hb : EL S ρ b mb) (hs : PlainIx b := by exact fun _ _ => rfl) : EE S ρ (.Subscript a b pos) (ma >>= fun x => mb >>= fun y => ixD x y) := ee_ix ha hb hs
theorem ttr (ha : EL S ρ a ma) (he : ∀ (env : Env) (whole : Sem Value), isTrue a env whole = (do let v ← whole; standAt a.pos; holding [v] (truthy v)) := by exact fun _ _ => rfl) : ET S ρ a (ma >>= truth) := et_truth ha he
theorem xcall {x : Str} {k : Nat} {F : List D → M D} {es : List Expr} {ks : List AK} {ms : M (List D)} (fn : Fnc S.pg k x ks F) (ha : EAk S ρ ks (e :: es) ms) (hk : k ≤ S.lv := by exact Nat.le_of_ble_eq_true rfl) (hg : Glb S x := by rfl) (hs : ∀ env : Env, starEach (e :: es) env = (false, eval e env) :: starEach es env := by exact fun _ => rfl)
    (hpl : ∀ env : Env, (backTo pos (starEach es env)).any (·.1) = false := by exact fun _ => rfl) (hdb : (x == ("__debug__" : Str)) = false := by decide) : EE S ρ (.Call (.Name x p) (e :: es) [] pos) (ms >>= F) := ee_call fn hk hg ha hs hpl hdb
theorem xcall0 {x : Str} {k : Nat} {F : List D → M D} (fn : Fnc S.pg k x [] F) (hk : k ≤ S.lv := by exact Nat.le_of_ble_eq_true rfl) (hg : Glb S x := by rfl) (hdb : (x == ("__debug__" : Str)) = false := by decide) : EE S ρ (.Call (.Name x p) [] [] pos) (F []) := ee_call0 fn hk hg hdb
theorem av {es : List Expr} {ks : List AK} {ms : M (List D)} (he : EE S ρ e m) (hr : EAk S ρ ks es ms) (hs : ∀ env : Env, starEach (e :: es) env = (false, eval e env) :: starEach es env := by exact fun _ => rfl) : EAk S ρ (.v :: ks) (e :: es) (m >>= fun d => ms >>= fun ds => pure (d :: ds)) := eak_v he hr hs
theorem ab {es : List Expr} {ks : List AK} {ms : M (List D)} (he : EL S ρ e m) (hr : EAk S ρ ks es ms) (hs : ∀ env : Env, starEach (e :: es) env = (false, eval e env) :: starEach es env := by exact fun _ => rfl) : EAk S ρ (.b :: ks) (e :: es) (m >>= fun d => ms >>= fun ds => pure (d :: ds)) := eak_b he hr hs
/-! targets -/
theorem tn (i : Nat) {x : Str} (hnd : S.N.Nodup) (hN : S.N[i]? = some x := by rfl) (hx : Loc S.sc x := by first | exact Or.inl rfl | exact Or.inr rfl) (hf : S.fn x = true ∨ S.sc.names.lookup x = some .local := by first | exact Or.inl rfl | exact Or.inr rfl) : TG S (.Name x pos) nm [i] := tg_name i hnd hN hx hf
theorem tc {tg : Expr} {tgs : List Expr} {u : D → M (List D)} {us : List D → M (List D)} {ix jx : List Nat} (pu : Pure1 u) (pus : Pure1 us) (hlen : Len1 u ix.length) (h1 : TG S tg u ix) (h2 : TGs S tgs us jx)
    (hs : ∀ env : Env, (assignEach (tg :: tgs) env).map (·.2) = assign tg env :: (assignEach tgs env).map (·.2) := by exact fun _ => rfl) : TGs S (tg :: tgs) (unc u us) (ix ++ jx) := tgs_cons pu pus hlen h1 h2 hs
theorem tt {tgs : List Expr} {us : List D → M (List D)} {ix : List Nat} {n k l : Nat} (h : TGs S tgs us ix) (hl : LenS us n l) (hn : ∀ env : Env, (assignEach tgs env).length = n := by exact fun _ => rfl) (hst : ∀ env : Env, (assignEach tgs env).findIdx? (·.1) = none := by exact fun _ => rfl) :
    TG S (.Tuple tgs k pos) (unT us) ix := tg_tup h hn (fun ds s r s' e => (hl ds s r s' e).1) hst
/-! statements -/
variable {rest body : List Stmt} {N B : Type} {shN : N → Ev} {shB : B → Ev} {apos cpos spos : Pos} {tg it : Expr} {mi : M (List D)} {o : Expr} {mo : M D}
theorem s_set (i : Nat) {x : Str} {k : D → M (Out N B)} (hnd : S.N.Nodup) (he : EE S ρ e m) (hr : ∀ d, SB S (ρ.set i (.sh d)) rest (k d) shN shB) (hs : ∀ env : Env, env.scope = S.sc → swapsWith e (some (.Name x p2)) pos.line env = pure false := by exact fun _ _ => rfl)
    (hN : S.N[i]? = some x := by rfl) (hx : Loc S.sc x := by first | exact Or.inl rfl | exact Or.inr rfl) (hf : S.fn x = true ∨ S.sc.names.lookup x = some .local := by first | exact Or.inl rfl | exact Or.inr rfl) :
    SB S ρ (.Assign [.Name x p2] e pos :: rest) (m >>= k) shN shB := sb_asg i hnd hN hx he hr hs hf
theorem s_setN (i : Nat) {x : Str} {k : D → M (Out N B)} (hnd : S.N.Nodup) (he : EN S ρ e m) (hr : ∀ d, SB S (ρ.set i (.ow d)) rest (k d) shN shB) (hs : ∀ env : Env, env.scope = S.sc → swapsWith e (some (.Name x p2)) pos.line env = pure false := by exact fun _ _ => rfl)
    (hN : S.N[i]? = some x := by rfl) (hx : Loc S.sc x := by first | exact Or.inl rfl | exact Or.inr rfl) (hf : S.fn x = true ∨ S.sc.names.lookup x = some .local := by first | exact Or.inl rfl | exact Or.inr rfl) :
    SB S ρ (.Assign [.Name x p2] e pos :: rest) (m >>= k) shN shB := sb_asgN i hnd hN hx he hr hs hf
theorem s_setC (i : Nat) {x : Str} {k : D → M (Out N B)} (hnd : S.N.Nodup) (he : CompE S ρ e m) (nd : NoDict m) (hr : ∀ d, SB S (ρ.set i (.sh d)) rest (k d) shN shB) (hs : ∀ env : Env, env.scope = S.sc → swapsWith e (some (.Name x p2)) pos.line env = pure true)
    (hN : S.N[i]? = some x := by rfl) (hx : S.sc.names.lookup x = some .local := by rfl) : SB S ρ (.Assign [.Name x p2] e pos :: rest) (m >>= k) shN shB := sb_asgC i hnd hN hx he nd hr hs
theorem s_setCN (i : Nat) {x : Str} {k : D → M (Out N B)} (hnd : S.N.Nodup) (he : CompE S ρ e m) (hr : ∀ d, SB S (ρ.set i (.ow d)) rest (k d) shN shB) (hs : ∀ env : Env, env.scope = S.sc → swapsWith e (some (.Name x p2)) pos.line env = pure true)
    (hN : S.N[i]? = some x := by rfl) (hx : S.sc.names.lookup x = some .local := by rfl) : SB S ρ (.Assign [.Name x p2] e pos :: rest) (m >>= k) shN shB := sb_asgCN i hnd hN hx he hr hs
theorem s_append (i : Nat) {x : Str} {d : D} {k : D → M (Out N B)} (he : EE S ρ e m) (hr : ∀ d, SB S (ρ.set i (.ow d)) rest (k d) shN shB) (hi : ρ[i]? = some (.ow d) := by rfl) (hN : S.N[i]? = some x := by rfl)
    (hv : Vis S.sc x := by first | exact Or.inl rfl | exact Or.inr (Or.inl rfl) | exact Or.inr (Or.inr rfl)) (hs : NoStar [e] := by exact fun _ => rfl) (hline : (apos.endLine == cpos.line) = true := by rfl)
    (hsw : ∀ env : Env, swapsWith (.Call (.Attribute (.Name x p) "append" apos) [e] [] cpos) none pos.line env = pure false := by exact fun _ => rfl) (hba : ∀ env : Env, attributeBase (.Name x p) "append" env (eval (.Name x p) env) = eval (.Name x p) env := by exact fun _ => rfl)
    (hd : (x == ("__debug__" : Str)) = false := by decide) (hcd : (x == ("__classdict__" : Str)) = false := by decide) :
    SB S ρ (.Expr (.Call (.Attribute (.Name x p) "append" apos) [e] [] cpos) pos :: rest) (lstD d >>= fun ds => m >>= fun y => appL ds y >>= k) shN shB := sb_append i hi hN hv he hr hs hline hsw hba hd hcd
theorem s_expr {k : M (Out N B)} (he : EL S ρ e m) (hr : SB S ρ rest k shN shB) (hs : ∀ env : Env, swapsWith e none pos.line env = pure false := by exact fun _ => rfl) : SB S ρ (.Expr e pos :: rest) (m >>= fun _ => k) shN shB := sb_expr he hr hs
theorem s_for {Z : Type} {sh : Z → Ev} {s0 : Z} {u : D → M (List D)} {ix : List Nat} {step : Z → List D → M (Out Z Z)} {k : Z → M (Out N B)} (hi : EI S ρ (TL S.pg) tg it mi) (hg : TG S tg u ix) (pu : Pure1 u) (hlen : Len1 u ix.length) (h0 : Le (sh s0) ρ)
    (hb : ∀ s ds, ds.length = ix.length → SB S (setE (sh s) ix ds) body (step s ds) sh sh) (hr : ∀ s, SB S (sh s) rest (k s) shN shB) (hs : ∀ (env : Env) (x : Value), foldedSetIterable it env x = pure x := by exact fun _ _ => rfl) :
    SB S ρ (.For tg it body [] pos :: rest) (mi >>= fun xs => forL (fun s x => u x >>= step s) s0 xs >>= seqO k) shN shB := sb_for hi hg pu hlen h0 hb hr hs
theorem s_cset {k : M (Out N B)} (he : EE S ρ e m) (ho : EE S ρ o mo) (hb : EE S ρ b mb) (hr : SB S ρ rest k shN shB)
    (hsw : ∀ env : Env, swapsWithSole [.Subscript o b spos] e pos.line env = pure false := by exact fun _ => rfl) (hw : ∀ env : Env, swappedStores [.Subscript o b spos] e env = pure none := by exact fun _ => rfl)
    (h1 : ∀ env : Env, (assignEach [.Subscript o b spos] env).map (·.2) = [assign (.Subscript o b spos) env] := by exact fun _ => rfl)
    (ha2 : ∀ (env : Env) v, assign (.Subscript o b spos) env v = (do
      let ov ← holding [v] (eval o env)
      let iv ← holding [v, ov] (eval b env)
      standAt spos
      holding [v, ov, iv] (setItem ov iv v)
      release [v, ov, iv] []) := by exact fun _ _ => rfl) :
    SB S ρ (.Assign [.Subscript o b spos] e pos :: rest) (m >>= fun y => mo >>= fun x => mb >>= fun i => cellSet x i y >>= fun _ => k) shN shB := sb_cset he ho hb hr hsw hw h1 ha2
theorem c_lc {ifs : List Expr} {scope : Scope} {elt : Expr} {u : D → M (List D)} {ix : List Nat} {mt : List D → M Bool} {me : List D → M D}
    (hN : S.N.Nodup) (own' : List (Str × Nat)) (hi : EI S ρ (TS' S.pg) tg it mi) (hg : TG (S.blk scope) tg u ix) (pu : Pure1 u) (hlen : Len1 u ix.length)
    (ht : ∀ ds, ds.length = ix.length → ETs (S.blk scope) (setE (wipeE ρ (own'.map (·.2))) ix ds) ifs (mt ds))
    (he : ∀ ds, ds.length = ix.length → EE (S.blk scope) (setE (wipeE ρ (own'.map (·.2))) ix ds) elt (me ds))
    (hok : blkC S.N S.sc scope own' = true := by kernel_rfl) (hix : ∀ i ∈ ix, i ∈ own'.map (·.2) := by decide)
    (hs : ∀ (env : Env) (x : Value), foldedSetIterable it env x = pure x := by exact fun _ _ => rfl) :
    CompE S ρ (.ListComp elt [⟨tg, it, ifs, 0⟩] scope pos) (lcM mi u mt me) := comp1 hN (blkOk_by hok) hi hg pu hlen hix ht he hs
end
end DL
namespace DL
open PySem PySem.Spec PyProof.Rows L2
/-! ### sorted(set(..)) of ints, any number of them -/
/-- the new set, as it is laid -/
abbrev newSet (w : World) : Obj := { cls := .type "set", dict := none, data := .set #[] 0 (.fresh 0 0 (!w.params.followText "set-order")) }
abbrev memI (ns : List Int) : Int → Bool := fun j => decide (j ∈ ns)
section
variable {P : Program} {w : World} {A : Around} {E : Value → Shared → Prop} {s : Shared}
set_option maxHeartbeats 4000000 in
theorem set_of_list {l : Addr} {its : Array Value} (ns : List Int) {Q : Value → Shared → Prop} (nh : A.handled = none) (isl : s.heap.IsList l its) (hI : IntsAre its.toList ns) (few : ns.length + 1 < scanBound)
    (done : ∀ (hp : Heap) (tk n : Nat), SetR w hp s.heap.objs.size (memI ns) n → n ≤ ns.length → (∀ b o, s.heap.get? b = some o → hp.get? b = some o) → Q (.ref s.heap.objs.size) { s with heap := hp, toks := tk }) :
    wpAny (model P w) A (call (.type "set") [.ref l]) Q E s := by
  have hsize : its.size = ns.length := by
    have z := IntsAre.length hI
    rwa [Array.length_toList] at z
  obtain ⟨cm, tlm, hmro⟩ := F.called_set.mro
  have hmd := F.called_set.made
  have hsb := F.called_set.sub
  have hnt := F.called_set.notType
  have hcc := F.called_set.canCreate
  have htc := F.typeCall_set_1 (.ref l)
  refine wpAny_call (codeAny_of_tree ?_)
  show wpAny _ _ (callAny (.type "set") _) _ _ _
  refine wpAny_pure ⟨Code.quiet_builtin _ (by decide +kernel), codeAny_builtin F.entry_type_call ?_⟩
  rw [Around.under_plain (weight_type_call_type "set" [.ref l] []) rfl]
  repeat (any_goals (first | assumption | wp_step))
  refine codeAny_mono (code_set_led1 (.ref l) (E := E) (Q₁ := fun v s1 => v = .ref s.heap.objs.size ∧ s1 = { s with heap := s.heap.push (newSet w) }) ⟨rfl, rfl⟩) fun r s1 hr => ?_
  cases r with
  | error e => exact hr
  | ok fl =>
    cases fl with
    | next => exact hr.elim
    | brk => exact hr.elim
    | cont => exact hr.elim
    | ret v =>
      obtain ⟨rfl, rfl⟩ := hr
      have hset : (s.heap.push (newSet w)).get? s.heap.objs.size = some (newSet w) := Heap.get?_push_size _ rfl
      have hty : Shared.TypeIs { s with heap := s.heap.push (newSet w) } (.ref s.heap.objs.size) "set" := ⟨_, hset, rfl⟩
      have hlk := F.called_set.init.lookup
      have hbd := F.called_set.init.bind (.ref s.heap.objs.size)
      repeat (any_goals (first | assumption | wp_step))
      refine codeAny_mono (codeAny_call_builtin (R := wants (fun r s2 => r = .none ∧ ∃ hp tk n, s2 = { s with heap := hp, toks := tk } ∧ SetR w hp s.heap.objs.size (memI ns) n ∧ n ≤ ns.length ∧ ∀ b o, s.heap.get? b = some o → hp.get? b = some o) E)
        F.called_set.init.plain F.entry_set_init (check_set_init_1 hty ?_)) fun r2 s2 hr2 => ?_
      · obtain ⟨⟨oc, od, odt, osl⟩, hol, hcl, nl, hdl⟩ := isl
        simp only at hcl hdl
        subst hcl hdl
        have hol' : (s.heap.push (newSet w)).get? l = some { cls := .type "list", dict := od, data := .seq its nl, slots := osl } := Heap.get?_push_of_some _ hol
        have n1 := F.sub_list_set
        have n2 := F.sub_list_frozenset
        have n3 : (Value.type "list" == Value.type "dict") = false := by decide
        have isl1 : (s.heap.push (newSet w)).IsList l its := ⟨_, hol', rfl, nl, rfl⟩
        unfold Builtin.«set.__init__» noKeywords Builtin.Frozenset.updateFrom
        generalize hPI : pyIter = PI
        wp_walk
        subst hPI
        refine wpAny_pyIter_list isl1 (wpAny_bind (wpAny_runValue ?_))
        have lS : l < s.heap.objs.size := Heap.lt_size hol
        have nh3 : A.in1.in1.in1.handled = none := by simp [nh]
        have zz : (s.heap.push (newSet w)).objs.size = s.heap.objs.size + 1 := Heap.size_push ..
        have neI : l ≠ (s.heap.push (newSet w)).objs.size := by
          rw [zz]
          exact Nat.ne_of_lt (Nat.lt_succ_of_lt lS)
        have nS : s.heap.objs.size ∉ [(s.heap.push (newSet w)).objs.size, l] := by
          rw [zz]
          simp only [List.mem_cons, List.not_mem_nil, or_false, not_or]
          exact ⟨Nat.ne_of_lt (Nat.lt_succ_self _), Nat.ne_of_gt lS⟩
        have val : ∀ (i : Nat) (v : Value), its[i]? = some v → ∃ k t, ns[i]? = some k ∧ v = .int k t := fun i v hv => by
          have hi : i < ns.length := by rw [← hsize]; exact (Array.getElem?_eq_some_iff.mp hv).1
          obtain ⟨t, e⟩ := PyProof.Rows.IntsAre.int_at hI i v (by rw [Array.getElem?_toList]; exact hv)
          refine ⟨ns[i], t, List.getElem?_eq_getElem hi, ?_⟩
          rw [e, List.getD_eq_getElem?_getD, List.getElem?_eq_getElem hi]
          rfl
        refine set_update_ints ((Walks.list nh3 _ l neI its).toS) s.heap.objs.size nS ns hsize few val (its.size - 0) 0 _ (by omega) (Nat.zero_le _) ⟨⟨_, Heap.get?_push_size _ rfl, rfl, rfl⟩, (isl1.push _)⟩ ⟨0, Nat.le_refl 0, setR_new_at (Heap.get?_push_of_some _ hset)⟩ ?_
        rintro ⟨hp, g2, d2, tk2, os2⟩ n hm hn hS
        have e1 : g2 = s.gens := hm.gens
        have e2 : d2 = s.drawn := hm.drawn
        have e3 : os2 = s.os := hm.os
        subst e1 e2 e3
        show wpAny _ _ _ _ _ _
        refine wpAny_pure ?_
        show wpAny _ _ (ret Value.none) _ _ _
        rw [hsize] at hn
        refine wpAny_pure ⟨rfl, hp, tk2, n, rfl, hS, hn, fun b o e => ?_⟩
        have b0 : b < s.heap.objs.size := Heap.lt_size e
        refine hm.heap b o ?_ (Heap.get?_push_of_some _ (Heap.get?_push_of_some _ e))
        simp only [List.mem_cons, List.not_mem_nil, or_false, not_or]
        exact ⟨Nat.ne_of_lt b0, by rw [zz]; exact Nat.ne_of_lt (Nat.lt_succ_of_lt b0)⟩
      · cases r2 with
        | error e => exact hr2
        | ok fl2 =>
          cases fl2 with
          | next => exact hr2.elim
          | brk => exact hr2.elim
          | cont => exact hr2.elim
          | ret r =>
            obtain ⟨rfl, hp, tk, n, rfl, hS, hn, hk⟩ := hr2
            repeat (any_goals (first | assumption | wp_step))
            exact done _ _ _ hS hn hk
theorem sort_of_set {a : Addr} {S : Int → Bool} {n : Nat} {Q : Value → Shared → Prop} (R : SetR w s.heap a S n) (nh : A.handled = none) (few : n ≤ sizeLine)
    (done : ∀ s2 p (out : Array Value) (c : Nat) (ns : List Int), (∀ b o, s.heap.get? b = some o → s2.heap.get? b = some o) → s2.gens = s.gens → s2.os = s.os → s.heap.objs.size ≤ p →
      s2.heap.get? p = some (seqObj "list" out c) → IntsAre out.toList ns → ns.Pairwise (· < ·) → (∀ k, k ∈ ns ↔ S k = true) → Q (.ref p) s2) : wpAny (model P w) A (call (.builtin "sorted") [.ref a]) Q E s := by
  obtain ⟨ob, es, ep, tb, hob, hex, hdt, good, nd, hmem, hsc, hfit, hn, hris, hled⟩ := R
  refine Calls.call_function_entry kind_sorted plain_sorted entry_sorted (args_sorted1 _) ?_
  unfold Builtin.«sorted»
  refine wpAny_bind (m := checkCount "sorted" 1 1 _) (wpAny_pure ?_)
  refine wpAny_bind (collect_set (A := A.in1) nh ⟨ob, hob, hex.1, hdt⟩ hfit hsc hris hled fun s1 vs k1 z1 g1 o1 pm => ?_)
  have lv : vs.length = n := by rw [pm.length_eq, List.length_map, Array.length_toList]; exact hn
  have hI : IntsAre vs (vs.map Builtin.Re.reRawOf) := ints_of vs fun v hv => by
    obtain ⟨e, he, q⟩ := List.mem_map.mp (pm.mem_iff.mp hv)
    obtain ⟨k, tk, h1, _⟩ := good e he
    exact ⟨k, tk, by rw [← q]; exact h1⟩
  have pk : (vs.map Builtin.Re.reRawOf).Perm (es.toList.map keyOf) := by
    have q := pm.map Builtin.Re.reRawOf
    rwa [List.map_map] at q
  have hz : vs.length ≤ sizeLine := by rw [lv]; exact few
  refine wpAny_bind (wpAny_newList ?_ hz)
  have hL : (s1.heap.push (seqObj "list" vs.toArray 0)).get? s1.heap.objs.size = some (seqObj "list" vs.toArray 0) := Heap.get?_push_size _ rfl
  refine wpAny_bind (wpAny_holding (wpAny_call_entry slot_list_sort ⟨_, hL, rfl⟩ entry_list_sort
    (SrtO.list_sort_ord SrtO.swo_int (s := { s1 with heap := s1.heap.push (seqObj "list" vs.toArray 0) }) hL hz (fun h2 => SrtO.ints_sortable hI h2) fun out h1 h2 => ⟨_, rfl, ?_⟩) (args_list_sort _)))
  obtain ⟨k1', k2, k3⟩ := SrtO.ints_out hI h1 h2
  obtain ⟨c, hc⟩ := sortedHeap_at (vs := vs) (out := out.toArray) hL
  have pn : (out.map SrtO.iv).Perm (es.toList.map keyOf) := k2.trans pk
  refine wpAny_pure ⟨_, rfl, done _ s1.heap.objs.size out.toArray c (out.map SrtO.iv) (fun b u e => ?_) g1 o1 z1 hc k1' (lt_of_le_nodup _ k3 (pn.nodup_iff.mpr nd)) fun k => by rw [pn.mem_iff, ← hmem k]⟩
  have q := k1 b u e
  have lt := Heap.lt_size q
  show (sortedHeap (s1.heap.push (seqObj "list" vs.toArray 0)) s1.heap.objs.size vs out.toArray).get? b = some u
  rw [sortedHeap_old (Nat.ne_of_lt lt) (by rw [size_push']; exact Nat.lt_succ_of_lt lt)]
  exact Heap.get?_push_of_some _ q
end
/-- what sorted(set(..)) makes of a list -/
def uniqI : List Int → List Int
  | [] => []
  | x :: r => if r.contains x then uniqI r else x :: uniqI r
theorem uniqI_mem {x : Int} : ∀ {l : List Int}, x ∈ uniqI l ↔ x ∈ l
  | [] => Iff.rfl
  | y :: r => by
    unfold uniqI
    by_cases h : r.contains y = true
    · rw [if_pos h, uniqI_mem, List.mem_cons]
      refine ⟨.inr, fun q => q.elim (fun e => ?_) id⟩
      rw [e]
      exact List.contains_iff_mem.mp h
    · rw [if_neg h, List.mem_cons, List.mem_cons, uniqI_mem]
theorem uniqI_nodup : ∀ l : List Int, (uniqI l).Nodup
  | [] => List.nodup_nil
  | y :: r => by
    unfold uniqI
    by_cases h : r.contains y = true
    · rw [if_pos h]; exact uniqI_nodup r
    · rw [if_neg h]
      exact List.nodup_cons.mpr ⟨fun q => h (List.contains_iff_mem.mpr (uniqI_mem.mp q)), uniqI_nodup r⟩
def ssort (l : List Int) : List Int := isort (uniqI l)
theorem ssort_lt (l : List Int) : (ssort l).Pairwise (· < ·) := by
  have h1 : (ssort l).Nodup := (isort_perm _).nodup_iff.mpr (uniqI_nodup l)
  refine ((List.nodup_iff_pairwise_ne.mp h1).and (isort_sorted _)).imp fun h => ?_
  have h1 := h.1
  have h2 := h.2
  omega
theorem ssort_mem {l : List Int} {x : Int} : x ∈ ssort l ↔ x ∈ l := (isort_perm _).mem_iff.trans uniqI_mem
theorem lt_unique : ∀ {a b : List Int}, a.Pairwise (· < ·) → b.Pairwise (· < ·) → (∀ x, x ∈ a ↔ x ∈ b) → a = b := by
  intro a b ha hb h
  refine sorted_uniq ((List.perm_ext_iff_of_nodup ?_ ?_).mpr h) (ha.imp fun h => Int.le_of_lt h) (hb.imp fun h => Int.le_of_lt h)
  · exact List.nodup_iff_pairwise_ne.mpr (ha.imp fun h => Int.ne_of_lt h)
  · exact List.nodup_iff_pairwise_ne.mpr (hb.imp fun h => Int.ne_of_lt h)
def ssortI : D → M D
  | .lst ds => match dints ds with
    | some ns => if ns.length ≤ 4000 then pure (.lst ((ssort ns).map D.int)) else stuck
    | none => stuck
  | .tup ds => match dints ds with
    | some ns => if ns.length ≤ 4000 then pure (.lst ((ssort ns).map D.int)) else stuck
    | none => stuck
  | .rls ds => match dints ds with
    | some ns => if ns.length ≤ 4000 then pure (.lst ((ssort ns).map D.int)) else stuck
    | none => stuck
  | _ => stuck
def rSetAny (K : PySem.W.Frag) (w : World) : List V → Hp → VK → Prop := fun xs H Q => ∃ (l : Addr) (ns : List Int), xs = [.ref l] ∧ (SqL K H l (ns.map V.int) ∨ SqT K H l (ns.map V.int)) ∧ ns.length ≤ 4000 ∧
  ∀ (p : Addr) (n : Nat), H p = none → n ≤ ns.length → Q (.ref p) (upd H p (SetO w p (memI ns) n))
section
variable {X : Cx}
theorem cr_setAny (hc : X.calm = true) : CallR X (.type "set") (rSetAny X.K X.w) := by
  intro pins s σ H xs us Q I r h
  obtain ⟨l, ns, rfl, hs, hl, q⟩ := h
  rw [Vals.ref1 r]
  have fr : H s.heap.objs.size = none := I.hok.fresh (Nat.le_refl _)
  have few : ns.length + 1 < scanBound := by unfold scanBound; omega
  have fin : ∀ (hp : Heap) (tk n : Nat), SetR X.w hp s.heap.objs.size (memI ns) n → n ≤ ns.length → (∀ b o, s.heap.get? b = some o → hp.get? b = some o) → EP X pins σ Q (.ref s.heap.objs.size) { s with heap := hp, toks := tk } := fun hp tk n R hn hk =>
    ⟨.ref s.heap.objs.size, upd H s.heap.objs.size (SetO X.w s.heap.objs.size (memI ns) n), I.laid (t' := tk) hk (Nat.le_refl _) (setO_new R), rfl, q _ n fr hn⟩
  rcases hs with hs | hs
  · obtain ⟨its, rv, pl, _⟩ := I.list hs
    exact set_of_list ns (I.ok.hd hc) pl.isList (by simpa using rv.ints) few fin
  · obtain ⟨its, rv, pl, _⟩ := I.tuple hs
    exact call_set_tupI ns (I.ok.hd hc) pl (by simpa using rv.ints) few fin
def rSortSet (w : World) : List V → Hp → VK → Prop := fun vs H Q => ∃ (a : Addr) (S : Int → Bool) (n : Nat), vs = [V.ref a] ∧ H a = some (SetO w a S n) ∧ n ≤ 4000 ∧
  ∀ (ns : List Int) (p : Addr), ns.Pairwise (· < ·) → (∀ k : Int, k ∈ ns ↔ S k = true) → H p = none → Q (.ref p) (upd H p (.lst (ns.map V.int)))
theorem cr_sortSet (hc : X.calm = true) : CallR X (.builtin "sorted") (rSortSet X.w) := by
  intro pins s σ H vs us Q I r h
  obtain ⟨a, S, n, rfl, ha, few, q⟩ := h
  have R := setO_get I ha
  rw [Vals.ref1 r]
  have few' : n ≤ sizeLine := Nat.le_trans few (by decide)
  refine sort_of_set R (I.ok.hd hc) few' fun s2 p out c ns k g o hp hg hi hs hm => ?_
  have fr : H p = none := I.hok.fresh hp
  have hlen : (ns.map V.int).length ≤ sizeLine := by
    have := I.hok a _ ha
    obtain ⟨ob, es, ep, tb, _, _, _, _, nd, hmem, hsc, _, hn, _⟩ := R
    have : ns.Perm (es.toList.map keyOf) := (List.perm_ext_iff_of_nodup (List.nodup_iff_pairwise_ne.mpr (hs.imp fun h => Int.ne_of_lt h)) nd).mpr fun x => by rw [hm, hmem]
    rw [List.length_map, this.length_eq, List.length_map, Array.length_toList, hn]
    exact few'
  have J : Inv X pins σ (upd H p (.lst (ns.map V.int))) { s with heap := s2.heap, gens := s2.gens, drawn := s2.drawn, toks := s2.toks } :=
    I.call (ch := []) (Un.laid k hp fr) (I.hok.laid k hp ⟨hlen, out.toList, c, vals_of_ints hi, hg⟩) (by rw [g]; exact I.bare) (fun _ z => nomatch z)
  have e : s2 = { s with heap := s2.heap, gens := s2.gens, drawn := s2.drawn, toks := s2.toks } := by
    cases s2
    cases s
    cases o
    rfl
  rw [e]
  exact ⟨.ref p, _, J, rfl, q ns p hs hm fr⟩
end
section
variable {S : Sta} {ρ : Ev} {a : Expr} {ma : M D} {pos p p2 q : Pos}
theorem ssort_read {ns : List Int} {us : List Int} (h1 : us.Pairwise (· < ·)) (h2 : ∀ k : Int, k ∈ us ↔ memI ns k = true) : us = ssort ns :=
  lt_unique h1 (ssort_lt ns) fun x => by rw [h2, ssort_mem]; exact decide_eq_true_iff
theorem seq_ints {g : Gs} {H : Hp} {v : V} {x : D} {ok : D → Store → Prop} {ex : Nat → Store → Prop} (w : Wf S.pg g H) (hx : TopR S.pg g H v x) (q : (ssortI x g.st).Post ok ex) :
    ∃ a ns, v = .ref a ∧ (SqL S.pg.K H a (ns.map V.int) ∨ SqT S.pg.K H a (ns.map V.int)) ∧ ns.length ≤ 4000 ∧ ok (.lst ((ssort ns).map D.int)) g.st := by
  have core : ∀ (ds : List D), ((match dints ds with
    | some ns => if ns.length ≤ 4000 then (pure (.lst ((ssort ns).map D.int)) : M D) else stuck
    | none => stuck) g.st).Post ok ex → ∃ ns, ds = ns.map D.int ∧ ns.length ≤ 4000 ∧ ok (.lst ((ssort ns).map D.int)) g.st := fun ds q => by
    cases e : dints ds with
    | none => rw [e] at q; exact False.elim q
    | some ns =>
      rw [e] at q
      by_cases z : ns.length ≤ 4000
      · simp only [if_pos z] at q
        exact ⟨ns, ints_eq e, z, q⟩
      · simp only [if_neg z] at q
        exact False.elim q
  cases x with
  | lst ds =>
    obtain ⟨a, us, rfl, s, r⟩ := hx.lst w
    obtain ⟨ns, rfl, hl, q⟩ := core ds q
    have := r.toInts
    subst this
    exact ⟨a, ns, rfl, .inl (SqL.of s), hl, q⟩
  | tup ds =>
    obtain ⟨a, us, rfl, s, r⟩ := hx.tup w
    obtain ⟨ns, rfl, hl, q⟩ := core ds q
    have := r.toInts
    subst this
    exact ⟨a, ns, rfl, .inr s, hl, q⟩
  | rls ds =>
    obtain ⟨a, us, rfl, s, r⟩ := hx.rls w
    obtain ⟨ns, rfl, hl, q⟩ := core ds q
    have := r.toInts
    subst this
    exact ⟨a, ns, rfl, .inl s, hl, q⟩
  | _ => exact False.elim q
theorem en_ssetI (B : Blt S "sorted" (.builtin "sorted")) (B2 : Blt S "set" (.type "set")) (ha : EL S ρ a ma) (hs : NoStar [a] := by exact fun _ => rfl) (hs2 : NoStar [.Call (.Name "set" p2) [a] [] q] := by exact fun _ => rfl) :
    EN S ρ (.Call (.Name "sorted" p) [.Call (.Name "set" p2) [a] [] q] [] pos) (ma >>= ssortI) := fun Y ok => by
  have h1 := pe_callTy (X := S.cx Y) (pos := q) (p := p2) (cr_setAny rfl) B2.gl B2.mg B2.boot (pa_cons (ha Y ok) pa_nil (hs _)) B2.n1 B2.n2 (hs _) rfl
  refine (pe_callB (X := S.cx Y) (pos := pos) (p := p) (cr_sortSet rfl) B.gl B.mg B.boot (pa_cons h1 pa_nil (hs2 _)) B.n1 B.n2 (hs2 _) rfl).pre fun σ H Q ⟨F, g, E, q⟩ => ?_
  refine rdX.bind E q fun x v g' H' s E' r q => ?_
  obtain ⟨l, ns, rfl, hq, hl, q⟩ := seq_ints E'.wf r q
  refine ⟨l, ns, rfl, hq, hl, fun p1 n hp hn => ⟨p1, memI ns, n, rfl, upd_same, by omega, fun us p2 hlt hm hp2 => ?_⟩⟩
  have e := ssort_read hlt hm
  subst e
  have s1 := Stp.laid (o := SetO S.pg.w p1 (memI ns) n) E'.wf hp
  have hp2' : H' p2 = none := by
    by_cases z : p2 = p1
    · subst z; rw [upd_same] at hp2; cases hp2
    · rwa [upd_ne z] at hp2
  have s2 := Stp.laid (o := .lst ((ssort ns).map V.int)) s1.wf hp2
  exact q _ g' _ rfl (s.trans E.wf (s1.trans E'.wf s2)) ⟨p2, rfl, ⟨_, upd_same, .ofInts _⟩, E'.wf.freeG hp2', E'.wf.freeA hp2', s.none_of E.wf hp2'⟩
theorem b_set (m : S.pg.mg "set" = none) (g : Glb S "set" := by rfl) : Blt S "set" (.type "set") := .mk' g m PyProof.Rows.boot_set
end
end DL
namespace DL
open PySem PySem.Spec PyProof.Rows L2
/-! ### objects: cells of the kind ins -/
def putD (f : Str) (d : D) : List (Str × D) → List (Str × D)
  | [] => [(f, d)]
  | (h, x) :: r => if h = f then (h, d) :: r else (h, x) :: putD f d r
section
variable {p : Pg} {g : Gs}
theorem RpF.look {f : Str} : ∀ {fvs : List (Str × V)} {fs : List (Str × D)} {d : D}, RpF p g fvs fs → fs.lookup f = some d → ∃ v, fvs.lookup f = some v ∧ p.Rp g v d
  | _, [], d, _, e => by cases e
  | _, (h, x) :: r, d, .cons (a := (h', v)) hr t, e => by
    obtain ⟨e1, r1⟩ := hr
    have e1 : h' = h := e1
    subst e1
    by_cases z : (f == h') = true
    · simp only [List.lookup, z] at e ⊢
      cases e
      exact ⟨v, rfl, r1⟩
    · rw [Bool.not_eq_true] at z
      simp only [List.lookup, z] at e ⊢
      exact RpF.look t e
theorem RpF.lookN {f : Str} : ∀ {fvs : List (Str × V)} {fs : List (Str × D)}, RpF p g fvs fs → fs.lookup f = none → fvs.lookup f = none
  | _, [], .nil, _ => rfl
  | _, (h, x) :: r, .cons (a := (h', v)) hr t, e => by
    obtain ⟨e1, r1⟩ := hr
    have e1 : h' = h := e1
    subst e1
    by_cases z : (f == h') = true
    · simp only [List.lookup, z] at e
      cases e
    · rw [Bool.not_eq_true] at z
      simp only [List.lookup, z] at e ⊢
      exact RpF.lookN t e
theorem RpF.put {f : Str} {v : V} {d : D} (r : p.Rp g v d) : ∀ {fvs : List (Str × V)} {fs : List (Str × D)}, RpF p g fvs fs → RpF p g (putF f v fvs) (putD f d fs)
  | _, [], .nil => .cons ⟨rfl, r⟩ .nil
  | _, (h, x) :: fs, .cons (a := (h', u)) hr t => by
    obtain ⟨e1, r1⟩ := hr
    have e1 : h' = h := e1
    subst e1
    unfold putF putD
    by_cases z : h' = f
    · rw [if_pos z, if_pos z]
      exact .cons ⟨rfl, r⟩ t
    · rw [if_neg z, if_neg z]
      exact .cons ⟨rfl, r1⟩ (RpF.put r t)
theorem RpF.len : ∀ {fvs : List (Str × V)} {fs : List (Str × D)}, RpF p g fvs fs → fvs.length = fs.length
  | _, [], .nil => rfl
  | _, _ :: _, .cons _ t => by rw [List.length_cons, List.length_cons, RpF.len t]
end
/-- the fields of an object of the class c -/
def insD (c : Nat) : D → M (Nat × List (Str × D))
  | .ref k => getC k >>= fun z => match z with
    | .ins c' fs => if c' = c then pure (k, fs) else stuck
    | _ => stuck
  | _ => stuck
theorem insD_post {p : Pg} {g : Gs} {H : Hp} {v : V} {d : D} {c : Nat} {ok : Nat × List (Str × D) → Store → Prop} {ex : Nat → Store → Prop} (w : Wf p g H) (r : TopR p g H v d) (q : (insD c d g.st).Post ok ex) :
    ∃ k a dx fvs fs, d = .ref k ∧ v = .ref a ∧ g.am[k]? = some a ∧ H a = some (.ins (p.cA c) dx fvs) ∧ H dx = some (.own a) ∧ RpF p g fvs fs ∧ ok (k, fs) g.st := by
  cases d with
  | ref k =>
    obtain ⟨a, rfl, e⟩ := TopR.ref r
    obtain ⟨z, e2, r⟩ := w.at_ref e
    have q : ((getC k >>= fun z => match z with
      | .ins c' fs => if c' = c then pure (k, fs) else stuck
      | _ => stuck) g.st).Post ok ex := q
    rw [bind_run] at q
    unfold getC at q
    rw [e2] at q
    cases z with
    | ins c' fs =>
      obtain ⟨dx, fvs, h1, h2, h3⟩ := r
      by_cases z : c' = c
      · subst z
        simp only [if_true] at q
        exact ⟨k, a, dx, fvs, fs, rfl, rfl, e, h1, h2, h3, q⟩
      · simp only [if_neg z] at q
        exact False.elim q
    | _ => exact False.elim q
  | _ => exact False.elim q
def lookM (f : Str) (fs : List (Str × D)) : M D := match fs.lookup f with
  | some d => pure d
  | none => stuck
theorem lookM_post {f : Str} {fs : List (Str × D)} {s : Store} {ok : D → Store → Prop} {ex : Nat → Store → Prop} (q : (lookM f fs s).Post ok ex) : ∃ d, fs.lookup f = some d ∧ ok d s := by
  unfold lookM at q
  cases e : fs.lookup f with
  | none => rw [e] at q; exact False.elim q
  | some d => rw [e] at q; exact ⟨d, rfl, q⟩
/-- o.f -/
def fldD (c : Nat) (f : Str) (o : D) : M D := insD c o >>= fun kf => lookM f kf.2
/-- o.f = d -/
def setF (c : Nat) (f : Str) (o d : D) : M Unit := insD c o >>= fun kf => if kf.2.length < 1000 then setC kf.1 (.ins c (putD f d kf.2)) else stuck
/-- no field has the name m -/
def noF (m : Str) (fs : List (Str × D)) : M Unit := match fs.lookup m with
  | none => pure ()
  | some _ => stuck
theorem noF_post {f : Str} {fs : List (Str × D)} {s : Store} {ok : Unit → Store → Prop} {ex : Nat → Store → Prop} (q : (noF f fs s).Post ok ex) : fs.lookup f = none ∧ ok () s := by
  unfold noF at q
  cases e : fs.lookup f with
  | none => rw [e] at q; exact ⟨rfl, q⟩
  | some d => rw [e] at q; exact False.elim q
/-- what is known of a class -/
structure ClsD (p : Pg) (c : Nat) (fs : List Str) : Prop where
  cls : Cls p.K (p.cA c)
  no : ∀ f ∈ fs, NoAttr p.K (p.cA c) f
structure Mtd (p : Pg) (c : Nat) (k : Nat) (m : Str) (ks : List AK) (F : List D → M D) : Prop where
  ex : ∃ f fd ps, FnOk p.P p.w p.K p.mg p.base (L2N.CX p.P p.w) k f fd ps (spD p ks F) ∧ Meth p.K (p.cA c) m f ∧ Binds p.K fd ps []
structure Mkr (p : Pg) (c : Nat) (k : Nat) (x : Str) (ks : List AK) (F : List D → M D) : Prop where
  ex : ∃ f fd ps, FnOk p.P p.w p.K p.mg p.base (L2N.CX p.P p.w) k f fd ps (spD p ks F) ∧ Mk p.K (p.cA c) f ∧ Binds p.K fd ps [] ∧ p.mg x = some (.ref (p.cA c))
theorem Stp.wrtI {p : Pg} {g : Gs} {H : Hp} {a dx : Addr} {k c : Nat} {fvs fvs' : List (Str × V)} {fs : List (Str × D)} (w : Wf p g H) (hk : g.am[k]? = some a) (e : H a = some (.ins (p.cA c) dx fvs)) (ed : H dx = some (.own a))
    (r : RpF p { g with st := g.st.set k (.ins c fs) } fvs' fs) : Stp p g H { g with st := g.st.set k (.ins c fs) } (upd H a (.ins (p.cA c) dx fvs')) :=
  Stp.wrt w hk e (fun _ z => by cases z) (fun _ z => by cases z) ⟨dx, fvs', upd_same, by rw [upd_ne (ne_of ed e fun z => by cases z)]; exact ed, r⟩
section
variable {S : Sta} {ρ : Ev} {a b c o e ie : Expr} {ma mb mc m mo mv : M D} {pos p apos cpos spos pos' tpos : Pos} {N B : Type} {shN : N → Ev} {shB : B → Ev} {rest : List Stmt} {f : Str} {ci : Nat} {fl : List Str}
theorem ee_fld (hc : ClsD S.pg ci fl) (hf : f ∈ fl) (ho : EE S ρ o mo) (hba : ∀ env : Env, attributeBase o f env (eval o env) = eval o env) : EE S ρ (.Attribute o f pos) (mo >>= fldD ci f) := fun Y ok =>
  (pe_fld (X := S.cx Y) (ho Y ok) (hba _)).pre fun σ H Q ⟨F, g, E, q⟩ => rdX.bind E q fun x v g' H' s E' r q => by
    obtain ⟨k, a, dx, fvs, fs, rfl, rfl, hk, h1, h2, h3, q⟩ := insD_post E'.wf (.inl r) (post_bind q)
    obtain ⟨d, hd, q⟩ := lookM_post q
    obtain ⟨v, hv, rv⟩ := h3.look hd
    exact ⟨a, _, dx, fvs, v, rfl, h1, hc.cls, hc.no f hf, hv, q v g' H' rfl s rv⟩
theorem sb_fset {k : M (Out N B)} (hc : ClsD S.pg ci fl) (hf : f ∈ fl) (hv : EE S ρ e mv) (ho : EE S ρ o mo) (hr : SB S ρ rest k shN shB) (hs : ∀ env : Env, env.scope = S.sc → swapsWith e (some (.Attribute o f pos')) pos.line env = pure false) :
    SB S ρ (.Assign [.Attribute o f pos'] e pos :: rest) (mv >>= fun y => mo >>= fun x => setF ci f x y >>= fun _ => k) shN shB := fun Y ok => by
  refine (pss_cons (ps_fld (X := S.cx Y) (ho Y ok) (hv Y ok) (hs _ rfl)) (hr Y ok)).pre fun Dd σ H ⟨F, g, E, q⟩ => ?_
  refine rdS.expr E q fun y v g1 H1 s1 E1 r1 q => rdS.expr E1 q fun x u g2 H2 s2 E2 r2 q => ?_
  have q := post_bind q
  unfold setF at q
  obtain ⟨kk, a, dx, fvs, fs, rfl, rfl, hk, h1, h2, h3, q⟩ := insD_post E2.wf (.inl r2) (post_bind q)
  by_cases z : fs.length < 1000
  · simp only [if_pos z] at q
    have st := Stp.wrtI (fs := putD f y fs) E2.wf hk h1 h2 (RpF.put (f := f) (p := S.pg) (g := { g2 with st := g2.st.set kk (.ins ci (putD f y fs)) }) (r1.mono s2.gle s2.aml) h3)
    refine ⟨a, _, dx, fvs, rfl, h1, hc.cls, hc.no f hf, by rw [h3.len]; exact z, F, _, E2.step st, ?_⟩
    have q : (k (g2.st.set kk (.ins ci (putD f y fs)))).Post _ _ := q
    exact q.imp (fun _ _ q => q.back st.ltr) fun _ _ q => q
  · simp only [if_neg z] at q
    exact False.elim q
/-- o.f += e, numbers -/
def addI : D → D → M D
  | .int i, .int j => pure (.int (i + j))
  | _, _ => stuck
def subI : D → D → M D
  | .int i, .int j => pure (.int (i - j))
  | _, _ => stuck
theorem addI_post {x y : D} {s : Store} {ok : D → Store → Prop} {ex : Nat → Store → Prop} (q : (addI x y s).Post ok ex) : ∃ i j, x = .int i ∧ y = .int j ∧ ok (.int (i + j)) s := by
  cases x with
  | int i =>
    cases y with
    | int j => exact ⟨i, j, rfl, rfl, q⟩
    | _ => exact False.elim q
  | _ => exact False.elim q
theorem subI_post {x y : D} {s : Store} {ok : D → Store → Prop} {ex : Nat → Store → Prop} (q : (subI x y s).Post ok ex) : ∃ i j, x = .int i ∧ y = .int j ∧ ok (.int (i - j)) s := by
  cases x with
  | int i =>
    cases y with
    | int j => exact ⟨i, j, rfl, rfl, q⟩
    | _ => exact False.elim q
  | _ => exact False.elim q
theorem sb_faug {k : M (Out N B)} (hc : ClsD S.pg ci fl) (hf : f ∈ fl) (ho : EE S ρ o mo) (hv : EE S ρ e mv) (hr : SB S ρ rest k shN shB) :
    SB S ρ (.AugAssign (.Attribute o f tpos) .Add e pos :: rest) (mo >>= fun x => fldD ci f x >>= fun u => mv >>= fun y => addI u y >>= fun z => setF ci f x z >>= fun _ => k) shN shB := fun Y ok => by
  refine (pss_cons (ps_fldaug (X := S.cx Y) (ho Y ok) (hv Y ok) in_add) (hr Y ok)).pre fun Dd σ H ⟨F, g, E, q⟩ => ?_
  refine rdS.expr E q fun x v g1 H1 s1 E1 r1 q => ?_
  have q := post_bind q
  unfold fldD at q
  obtain ⟨kk, a, dx, fvs, fs, rfl, rfl, hk, h1, h2, h3, q⟩ := insD_post E1.wf (.inl r1) (post_bind q)
  obtain ⟨d, hd, q⟩ := lookM_post q
  obtain ⟨u, hu, ru⟩ := h3.look hd
  refine ⟨a, _, dx, fvs, u, rfl, h1, hc.cls, hc.no f hf, hu, rdS.expr E1 q fun y v2 g2 H2 s2 E2 r2 q => ?_⟩
  obtain ⟨i, j, ed, ey, q5⟩ := addI_post (post_bind q)
  subst ed ey
  have eu := TopR.int (H := H1) (.inl ru)
  have ev := TopR.int (H := H2) (.inl r2)
  subst eu ev
  have q6 := post_bind q5
  unfold setF at q6
  obtain ⟨k2, a2, dx2, fvs2, fs2, e1, e2, hk2, g1', g2', g3, q7⟩ := insD_post E2.wf (.inl (r1.mono s2.gle s2.aml)) (post_bind q6)
  cases e1
  cases e2
  by_cases z : fs2.length < 1000
  · simp only [if_pos z] at q7
    have st := Stp.wrtI (fs := putD f (.int (i + j)) fs2) E2.wf hk2 g1' g2' (RpF.put (f := f) (p := S.pg) (g := { g2 with st := g2.st.set kk (.ins ci (putD f (.int (i + j)) fs2)) }) (.int (i + j)) g3)
    refine ⟨i, j, rfl, rfl, dx2, fvs2, g1', by rw [g3.len]; exact z, F, _, E2.step st, ?_⟩
    have q : (k (g2.st.set kk (.ins ci (putD f (.int (i + j)) fs2)))).Post _ _ := q7
    exact q.imp (fun _ _ q => q.back st.ltr) fun _ _ q => q
  · simp only [if_neg z] at q7
    exact False.elim q7
/-- x += e, x -= e: numbers -/
theorem sb_aug (i : Nat) {x : Str} {d : D} {k : D → M (Out N B)} (hnd : S.N.Nodup) (hi : ρ[i]? = some (.sh d)) (hN : S.N[i]? = some x) (hx : Loc S.sc x) (he : EE S ρ e m) (hr : ∀ d, SB S (ρ.set i (.sh d)) rest (k d) shN shB) (hf : S.fn x = true ∨ S.sc.names.lookup x = some .local) :
    SB S ρ (.AugAssign (.Name x pos') .Add e pos :: rest) (m >>= fun y => addI d y >>= k) shN shB := fun Y ok => by
  have hR : PSs (S.cx Y) rest (fun Dd σ H => ∃ d, rdS S Y (ρ.set i (.sh d)) (k d) shN shB Dd σ H) := ⟨fun pins s σ H Dd I ⟨d, q⟩ => (hr d Y ok).run pins s σ H Dd I q⟩
  refine (pss_cons (ps_aug (X := S.cx Y) (i := i) hnd hN hx (he Y ok) ip_add hf) hR).pre fun Dd σ H ⟨F, g, E, q⟩ => ?_
  have h := E.sl i _ hi
  cases es : σ[i]? with
  | none => rw [es] at h; exact h.elim
  | some o =>
    rw [es] at h
    cases o with
    | none => exact h.elim
    | some v =>
      refine ⟨v, es, rdS.expr E q fun y u g1 H1 s1 E1 r1 q => ?_⟩
      obtain ⟨n1, n2, rfl, rfl, q⟩ := addI_post (post_bind q)
      have h : S.pg.Rp g v (.int n1) := h
      have e1 := TopR.int (H := H) (.inl h)
      have e2 := TopR.int (H := H1) (.inl r1)
      subst e1 e2
      exact ⟨n1, n2, rfl, rfl, _, F, g1, E1.set (.int (n1 + n2)), q⟩
theorem sb_augS (i : Nat) {x : Str} {d : D} {k : D → M (Out N B)} (hnd : S.N.Nodup) (hi : ρ[i]? = some (.sh d)) (hN : S.N[i]? = some x) (hx : Loc S.sc x) (he : EE S ρ e m) (hr : ∀ d, SB S (ρ.set i (.sh d)) rest (k d) shN shB) (hf : S.fn x = true ∨ S.sc.names.lookup x = some .local) :
    SB S ρ (.AugAssign (.Name x pos') .Sub e pos :: rest) (m >>= fun y => subI d y >>= k) shN shB := fun Y ok => by
  have hR : PSs (S.cx Y) rest (fun Dd σ H => ∃ d, rdS S Y (ρ.set i (.sh d)) (k d) shN shB Dd σ H) := ⟨fun pins s σ H Dd I ⟨d, q⟩ => (hr d Y ok).run pins s σ H Dd I q⟩
  refine (pss_cons (ps_aug (X := S.cx Y) (i := i) hnd hN hx (he Y ok) ip_sub hf) hR).pre fun Dd σ H ⟨F, g, E, q⟩ => ?_
  have h := E.sl i _ hi
  cases es : σ[i]? with
  | none => rw [es] at h; exact h.elim
  | some o =>
    rw [es] at h
    cases o with
    | none => exact h.elim
    | some v =>
      refine ⟨v, es, rdS.expr E q fun y u g1 H1 s1 E1 r1 q => ?_⟩
      obtain ⟨n1, n2, rfl, rfl, q⟩ := subI_post (post_bind q)
      have h : S.pg.Rp g v (.int n1) := h
      have e1 := TopR.int (H := H) (.inl h)
      have e2 := TopR.int (H := H1) (.inl r1)
      subst e1 e2
      exact ⟨n1, n2, rfl, rfl, _, F, g1, E1.set (.int (n1 - n2)), q⟩
/-! calls of methods -/
variable {es : List Expr} {ms : M (List D)} {ks : List AK} {fm : Str} {k : Nat} {FM : List D → M D}
def mthM (ci : Nat) (fm : Str) (mo : M D) (ms : M (List D)) (FM : List D → M D) : M D := mo >>= fun x => insD ci x >>= fun kf => noF fm kf.2 >>= fun _ => ms >>= fun vs => FM (x :: vs)
theorem ee_meth (hc : ClsD S.pg ci fl) (mt : Mtd S.pg ci k fm (.v :: ks) FM) (hk : k ≤ S.lv) (ho : EE S ρ o mo) (ha : EAk S ρ ks (e :: es) ms) (hs : ∀ env : Env, starEach (e :: es) env = (false, eval e env) :: starEach es env) (hpl : ∀ env : Env, (backTo pos (starEach es env)).any (·.1) = false)
    (ht : ∀ env : Env, eval (.Call (.Attribute o fm apos) (e :: es) [] pos) env = (do
      let ov ← eval o env
      standAt apos.atName
      let (f, first) ← holding [ov] (getMethod ov fm (do return (← importBound o env).getD true))
      callWith pos f first (backTo pos (starEach (e :: es) env)) (backToKw pos (keywordEach [] env)))) : EE S ρ (.Call (.Attribute o fm apos) (e :: es) [] pos) (mthM ci fm mo ms FM) := fun Y ok => by
  obtain ⟨fA, fd, ps, FO, hm, hb⟩ := mt.ex
  refine (pe_meth (X := S.cx Y) (E := fun cls d H' => Y.W cls d H') (ho Y ok) hc.cls hm FO (ok.room.mono hk) hb .nil (L2N.passes_call ok.takes fun _ _ _ _ h => h) (ha Y ok) (hs _) (hpl _) (ht _)).pre fun σ H Q ⟨F, g, E, q⟩ => ?_
  refine rdX.bind E q fun x v g1 H1 s1 E1 r1 q => ?_
  obtain ⟨kk, a, dx, fvs, fs, rfl, rfl, hk1, h1, h2, h3, q⟩ := insD_post E1.wf (.inl r1) (post_bind q)
  obtain ⟨hn, q⟩ := noF_post (post_bind q)
  refine ⟨a, dx, fvs, rfl, h1, h3.lookN hn, rdA.bind E1 (q.imp (fun _ _ q => q) fun _ _ q => q.back E.wf s1) fun ds vs g2 H2 s2 E2 r2 q => ?_⟩
  rw [List.append_nil]
  exact ⟨g2, .ref kk :: ds, E2.wf, ⟨r1.mono s2.gle s2.aml, r2⟩, q.imp (fun _ _ q => q.back back_RE E.wf (s1.trans E.wf s2)) fun _ _ q => Px.back E1.wf s2 q⟩
theorem ee_meth0 (hc : ClsD S.pg ci fl) (mt : Mtd S.pg ci k fm [.v] FM) (hk : k ≤ S.lv) (ho : EE S ρ o mo)
    (ht : ∀ env : Env, eval (.Call (.Attribute o fm apos) [] [] pos) env = (do
      let ov ← eval o env
      standAt apos.atName
      let (f, first) ← holding [ov] (getMethod ov fm (do return (← importBound o env).getD true))
      callWith pos f first (backTo pos (starEach [] env)) (backToKw pos (keywordEach [] env)))) : EE S ρ (.Call (.Attribute o fm apos) [] [] pos) (mthM ci fm mo (pure []) FM) := fun Y ok => by
  obtain ⟨fA, fd, ps, FO, hm, hb⟩ := mt.ex
  refine (pe_meth0 (X := S.cx Y) (E := fun cls d H' => Y.W cls d H') (ho Y ok) hc.cls hm FO (ok.room.mono hk) hb .nil (L2N.passes_call ok.takes fun _ _ _ _ h => h) (ht _)).pre fun σ H Q ⟨F, g, E, q⟩ => ?_
  refine rdX.bind E q fun x v g1 H1 s1 E1 r1 q => ?_
  obtain ⟨kk, a, dx, fvs, fs, rfl, rfl, hk1, h1, h2, h3, q⟩ := insD_post E1.wf (.inl r1) (post_bind q)
  obtain ⟨hn, q⟩ := noF_post (post_bind q)
  refine ⟨a, dx, fvs, rfl, h1, h3.lookN hn, ?_⟩
  exact ⟨g1, [.ref kk], E1.wf, ⟨r1, True.intro⟩, q.imp (fun _ _ q => q.back back_RE E.wf s1) fun _ _ q => q.back E.wf s1⟩
/-! making -/
def mkM (ci : Nat) (ms : M (List D)) (FM : List D → M D) : M D := ms >>= fun vs => newC (.ins ci []) >>= fun k => FM (.ref k :: vs) >>= fun r => match r with
  | .non => pure (.ref k)
  | _ => stuck
theorem Stp.ins {p : Pg} {g : Gs} {H : Hp} {x dx : Addr} {c : Nat} (w : Wf p g H) (hx : H x = none) (hd : H dx = none) (ne : dx ≠ x) : Stp p g H (g.cell x (.ins c [])) (upd (upd H dx (.own x)) x (.ins (p.cA c) dx [])) ∧ (g.cell x (.ins c [])).am[g.st.length]? = some x := by
  have s1 := Stp.laid (o := .own x) w hd
  have hx1 : upd H dx (.own x) x = none := by rw [upd_ne (fun z => ne z.symm)]; exact hx
  have s2 := Stp.laid (o := .ins (p.cA c) dx []) s1.wf hx1
  have s := s1.trans w s2
  obtain ⟨wf', pre⟩ := Stp.cell (c := .ins c []) s.wf (w.freeG hx) (w.freeA hx) ⟨dx, [], upd_same, by rw [upd_ne ne, upd_same], .nil⟩
  refine ⟨⟨s.gle, pre, s.keep, s.gnew, fun b hb => ?_, wf'⟩, ?_⟩
  · rcases List.mem_append.mp hb with h | h
    · exact .inl h
    · rw [List.mem_singleton.mp h]; exact .inr hx
  · show (g.am ++ [x])[g.st.length]? = some x
    rw [← w.len, List.getElem?_append_right (Nat.le_refl _), Nat.sub_self]
    rfl
theorem make_core {p : Pg} {g0 g : Gs} {H0 H : Hp} {ds : List D} {vs : List V} {ks : List AK} {Q : VK} {ci : Nat} {FM : List D → M D} {EX : XK} (w0 : Wf p g0 H0) (s0 : Stp p g0 H0 g H) (hE : ∀ c st', (∀ g' H', g'.st = st' → Stp p g0 H0 g' H' → EX (.ref (p.cA c)) none H') → ∀ g' H', g'.st = st' → Stp p g H g' H' → EX (.ref (p.cA c)) none H')
    (r : ArgR p g H ks vs ds) (q : ((newC (.ins ci []) >>= fun k => FM (.ref k :: ds) >>= fun r => match r with
      | .non => pure (.ref k)
      | _ => stuck) g.st).Post (Pv p (RE p) g0 H0 Q) fun c st' => ∀ g' H', g'.st = st' → Stp p g0 H0 g' H' → EX (.ref (p.cA c)) none H') (x dx : Addr) (hx : H x = none) (hd : H dx = none) (ne : dx ≠ x) :
    spD p (.v :: ks) FM (.ref x :: vs) (upd (upd H dx (.own x)) x (.ins (p.cA ci) dx [])) (fun v H2 => v = .non ∧ Q (.ref x) H2) EX := by
  obtain ⟨s1, hk⟩ := Stp.ins (c := ci) s0.wf hx hd ne
  have sa := s0.trans w0 s1
  have q : ((FM (.ref g.st.length :: ds) >>= fun r => match r with
      | .non => pure (.ref g.st.length)
      | _ => stuck) (g.cell x (.ins ci [])).st).Post (Pv p (RE p) g0 H0 Q) _ := q
  refine ⟨g.cell x (.ins ci []), .ref g.st.length :: ds, s1.wf, ⟨.ref hk, r.step s0.wf s1⟩, (post_bind q).imp (fun d st' q => ?_) fun c st' q g' H' e s => q g' H' e (sa.trans w0 s)⟩
  cases d with
  | non =>
    intro v g' H' e s rv
    cases rv
    refine ⟨rfl, (post_pure q) (.ref x) g' H' e (sa.trans w0 s) (.ref (pre_get s.aml hk))⟩
  | _ => exact False.elim q
theorem ee_make {x : Str} (mk : Mkr S.pg ci k x (.v :: ks) FM) (hk : k + 1 ≤ S.lv) (hg : Glb S x) (ha : EAk S ρ ks (e :: es) ms) (hs : ∀ env : Env, starEach (e :: es) env = (false, eval e env) :: starEach es env) (hpl : ∀ env : Env, (backTo pos (starEach es env)).any (·.1) = false)
    (hdb : (x == ("__debug__" : Str)) = false) : EE S ρ (.Call (.Name x p) (e :: es) [] pos) (mkM ci ms FM) := fun Y ok => by
  obtain ⟨fA, fd, ps, FO, hm, hb, hx⟩ := mk.ex
  refine (pe_make (X := S.cx Y) (E := fun cls d H' => Y.W cls d H') hm FO (ok.room.mono hk) hg hx hb .nil (L2N.passes_call ok.takes fun _ _ _ _ h => h) (ha Y ok) hdb (hs _) (hpl _)).pre fun σ H Q ⟨F, g, E, q⟩ => ?_
  refine rdA.bind E q fun ds vs g1 H1 s1 E1 r1 q => fun x dx hx hd ne => ?_
  rw [List.append_nil]
  exact make_core E.wf s1 (fun c st' h g' H' e s => h g' H' e (s1.trans E.wf s)) r1 q x dx hx hd ne
theorem ee_make0 {x : Str} (mk : Mkr S.pg ci k x [.v] FM) (hk : k + 1 ≤ S.lv) (hg : Glb S x) (hdb : (x == ("__debug__" : Str)) = false) : EE S ρ (.Call (.Name x p) [] [] pos) (mkM ci (pure []) FM) := fun Y ok => by
  obtain ⟨fA, fd, ps, FO, hm, hb, hx⟩ := mk.ex
  refine (pe_make0 (X := S.cx Y) (E := fun cls d H' => Y.W cls d H') hm FO (ok.room.mono hk) hg hx hb .nil (L2N.passes_call ok.takes fun _ _ _ _ h => h) hdb).pre fun σ H Q ⟨F, g, E, q⟩ => ?_
  intro x dx hx hd ne
  exact make_core (ks := []) (vs := []) (ds := []) E.wf (.refl E.wf) (fun c st' h => h) True.intro q x dx hx hd ne
end
end DL
namespace DL
open PySem PySem.Spec PyProof.Rows L2
section
variable {S : Sta} {ρ : Ev} {a b c o e ie : Expr} {ma mb mc m mo mv : M D} {pos p p2 q apos cpos spos pos' tpos : Pos} {N B : Type} {shN : N → Ev} {shB : B → Ev} {rest : List Stmt} {f : Str} {ci : Nat} {fl : List Str}
variable {es : List Expr} {ms : M (List D)} {ks : List AK} {fm : Str} {k : Nat} {FM : List D → M D}
theorem xfld (hc : ClsD S.pg ci fl) (hf : f ∈ fl) (ho : EE S ρ o mo) (hba : ∀ env : Env, attributeBase o f env (eval o env) = eval o env := by exact fun _ => rfl) : EE S ρ (.Attribute o f pos) (mo >>= fldD ci f) := ee_fld hc hf ho hba
theorem s_fset {k : M (Out N B)} (hc : ClsD S.pg ci fl) (hf : f ∈ fl) (hv : EE S ρ e mv) (ho : EE S ρ o mo) (hr : SB S ρ rest k shN shB) (hs : ∀ env : Env, env.scope = S.sc → swapsWith e (some (.Attribute o f pos')) pos.line env = pure false := by exact fun _ _ => rfl) :
    SB S ρ (.Assign [.Attribute o f pos'] e pos :: rest) (mv >>= fun y => mo >>= fun x => setF ci f x y >>= fun _ => k) shN shB := sb_fset hc hf hv ho hr hs
theorem s_faug {k : M (Out N B)} (hc : ClsD S.pg ci fl) (hf : f ∈ fl) (ho : EE S ρ o mo) (hv : EE S ρ e mv) (hr : SB S ρ rest k shN shB) :
    SB S ρ (.AugAssign (.Attribute o f tpos) .Add e pos :: rest) (mo >>= fun x => fldD ci f x >>= fun u => mv >>= fun y => addI u y >>= fun z => setF ci f x z >>= fun _ => k) shN shB := sb_faug hc hf ho hv hr
theorem s_aug (i : Nat) {x : Str} {d : D} {k : D → M (Out N B)} (hnd : S.N.Nodup) (he : EE S ρ e m) (hr : ∀ d, SB S (ρ.set i (.sh d)) rest (k d) shN shB) (hi : ρ[i]? = some (.sh d) := by rfl) (hN : S.N[i]? = some x := by rfl)
    (hx : Loc S.sc x := by first | exact Or.inl rfl | exact Or.inr rfl) (hf : S.fn x = true ∨ S.sc.names.lookup x = some .local := by first | exact Or.inl rfl | exact Or.inr rfl) :
    SB S ρ (.AugAssign (.Name x pos') .Add e pos :: rest) (m >>= fun y => addI d y >>= k) shN shB := sb_aug i hnd hi hN hx he hr hf
theorem s_augS (i : Nat) {x : Str} {d : D} {k : D → M (Out N B)} (hnd : S.N.Nodup) (he : EE S ρ e m) (hr : ∀ d, SB S (ρ.set i (.sh d)) rest (k d) shN shB) (hi : ρ[i]? = some (.sh d) := by rfl) (hN : S.N[i]? = some x := by rfl)
    (hx : Loc S.sc x := by first | exact Or.inl rfl | exact Or.inr rfl) (hf : S.fn x = true ∨ S.sc.names.lookup x = some .local := by first | exact Or.inl rfl | exact Or.inr rfl) :
    SB S ρ (.AugAssign (.Name x pos') .Sub e pos :: rest) (m >>= fun y => subI d y >>= k) shN shB := sb_augS i hnd hi hN hx he hr hf
theorem s_extend (i : Nat) {x : Str} {d : D} {k : D → M (Out N B)} (he : EL S ρ e m) (hr : ∀ d, SB S (ρ.set i (.ow d)) rest (k d) shN shB) (hi : ρ[i]? = some (.ow d) := by rfl) (hN : S.N[i]? = some x := by rfl)
    (hv : Vis S.sc x := by first | exact Or.inl rfl | exact Or.inr (Or.inl rfl) | exact Or.inr (Or.inr rfl)) (hs : NoStar [e] := by exact fun _ => rfl) (hline : (apos.endLine == cpos.line) = true := by rfl)
    (hsw : ∀ env : Env, swapsWith (.Call (.Attribute (.Name x p) "extend" apos) [e] [] cpos) none pos.line env = pure false := by exact fun _ => rfl) (hba : ∀ env : Env, attributeBase (.Name x p) "extend" env (eval (.Name x p) env) = eval (.Name x p) env := by exact fun _ => rfl)
    (hd : (x == ("__debug__" : Str)) = false := by decide) (hcd : (x == ("__classdict__" : Str)) = false := by decide) :
    SB S ρ (.Expr (.Call (.Attribute (.Name x p) "extend" apos) [e] [] cpos) pos :: rest) (lstD d >>= fun ds => m >>= fun y => extL ds y >>= k) shN shB := sb_extend i hi hN hv he hr hs hline hsw hba hd hcd
theorem s_item (i : Nat) {x : Str} {d : D} {k : D → M (Out N B)} (he : EE S ρ e m) (hb : EE S ρ b mb) (hr : ∀ d, SB S (ρ.set i (.ow d)) rest (k d) shN shB) (hi : ρ[i]? = some (.ow d) := by rfl) (hN : S.N[i]? = some x := by rfl)
    (hv : Vis S.sc x := by first | exact Or.inl rfl | exact Or.inr (Or.inl rfl) | exact Or.inr (Or.inr rfl))
    (hsw : ∀ env : Env, swapsWithSole [.Subscript (.Name x p) b spos] e pos.line env = pure false := by exact fun _ => rfl) (hw : ∀ env : Env, swappedStores [.Subscript (.Name x p) b spos] e env = pure none := by exact fun _ => rfl)
    (h1 : ∀ env : Env, (assignEach [.Subscript (.Name x p) b spos] env).map (·.2) = [assign (.Subscript (.Name x p) b spos) env] := by exact fun _ => rfl)
    (ha2 : ∀ (env : Env) v, assign (.Subscript (.Name x p) b spos) env v = (do
      let ov ← holding [v] (eval (.Name x p) env)
      let iv ← holding [v, ov] (eval b env)
      standAt spos
      holding [v, ov, iv] (setItem ov iv v)
      release [v, ov, iv] []) := by exact fun _ _ => rfl) (hd : (x == ("__debug__" : Str)) = false := by decide) (hcd : (x == ("__classdict__" : Str)) = false := by decide) :
    SB S ρ (.Assign [.Subscript (.Name x p) b spos] e pos :: rest) (lstD d >>= fun ds => m >>= fun y => mb >>= fun j => setO ds j y >>= k) shN shB := sb_setitem i hi hN hv he hb hr hsw hw h1 ha2 hd hcd
theorem xmeth (hc : ClsD S.pg ci fl) (mt : Mtd S.pg ci k fm (.v :: ks) FM) (ho : EE S ρ o mo) (ha : EAk S ρ ks (e :: es) ms) (hk : k ≤ S.lv := by exact Nat.le_of_ble_eq_true rfl) (hs : ∀ env : Env, starEach (e :: es) env = (false, eval e env) :: starEach es env := by exact fun _ => rfl)
    (hpl : ∀ env : Env, (backTo pos (starEach es env)).any (·.1) = false := by exact fun _ => rfl)
    (ht : ∀ env : Env, eval (.Call (.Attribute o fm apos) (e :: es) [] pos) env = (do
      let ov ← eval o env
      standAt apos.atName
      let (f, first) ← holding [ov] (getMethod ov fm (do return (← importBound o env).getD true))
      callWith pos f first (backTo pos (starEach (e :: es) env)) (backToKw pos (keywordEach [] env))) := by exact fun _ => rfl) : EE S ρ (.Call (.Attribute o fm apos) (e :: es) [] pos) (mthM ci fm mo ms FM) := ee_meth hc mt hk ho ha hs hpl ht
theorem xmeth0 (hc : ClsD S.pg ci fl) (mt : Mtd S.pg ci k fm [.v] FM) (ho : EE S ρ o mo) (hk : k ≤ S.lv := by exact Nat.le_of_ble_eq_true rfl)
    (ht : ∀ env : Env, eval (.Call (.Attribute o fm apos) [] [] pos) env = (do
      let ov ← eval o env
      standAt apos.atName
      let (f, first) ← holding [ov] (getMethod ov fm (do return (← importBound o env).getD true))
      callWith pos f first (backTo pos (starEach [] env)) (backToKw pos (keywordEach [] env))) := by exact fun _ => rfl) : EE S ρ (.Call (.Attribute o fm apos) [] [] pos) (mthM ci fm mo (pure []) FM) := ee_meth0 hc mt hk ho ht
theorem xmake {x : Str} (mk : Mkr S.pg ci k x (.v :: ks) FM) (ha : EAk S ρ ks (e :: es) ms) (hk : k + 1 ≤ S.lv := by exact Nat.le_of_ble_eq_true rfl) (hg : Glb S x := by rfl) (hs : ∀ env : Env, starEach (e :: es) env = (false, eval e env) :: starEach es env := by exact fun _ => rfl)
    (hpl : ∀ env : Env, (backTo pos (starEach es env)).any (·.1) = false := by exact fun _ => rfl) (hdb : (x == ("__debug__" : Str)) = false := by decide) : EE S ρ (.Call (.Name x p) (e :: es) [] pos) (mkM ci ms FM) := ee_make mk hk hg ha hs hpl hdb
theorem xmake0 {x : Str} (mk : Mkr S.pg ci k x [.v] FM) (hk : k + 1 ≤ S.lv := by exact Nat.le_of_ble_eq_true rfl) (hg : Glb S x := by rfl) (hdb : (x == ("__debug__" : Str)) = false := by decide) : EE S ρ (.Call (.Name x p) [] [] pos) (mkM ci (pure []) FM) := ee_make0 mk hk hg hdb
end
theorem mtd_of {p : Pg} {c k : Nat} {m : Str} {f : Addr} {fd : FuncData} {ps : List Str} {ks : List AK} {F : List D → M D} (h : FnOk p.P p.w p.K p.mg p.base (L2N.CX p.P p.w) k f fd ps (spD p ks F)) (hm : Meth p.K (p.cA c) m f) (hb : Binds p.K fd ps []) : Mtd p c k m ks F := ⟨f, fd, ps, h, hm, hb⟩
theorem mkr_of {p : Pg} {c k : Nat} {x : Str} {f : Addr} {fd : FuncData} {ps : List Str} {ks : List AK} {F : List D → M D} (h : FnOk p.P p.w p.K p.mg p.base (L2N.CX p.P p.w) k f fd ps (spD p ks F)) (hm : Mk p.K (p.cA c) f) (hb : Binds p.K fd ps []) (hx : p.mg x = some (.ref (p.cA c))) : Mkr p c k x ks F := ⟨f, fd, ps, h, hm, hb, hx⟩
end DL
namespace DL
open PySem PySem.Spec PyProof.Rows L2
/-! ### tuples of ints: sets of them, sorted ones -/
def tD (ns : List Int) : D := .tup (ns.map .int)
def tints : List D → Option (List (List Int))
  | [] => some []
  | .tup ds :: r => match dints ds with
    | some ns => (tints r).map (ns :: ·)
    | none => none
  | _ :: _ => none
theorem tints_map : ∀ L : List (List Int), tints (L.map tD) = some L
  | [] => rfl
  | ns :: L => by
    show tints (.tup (ns.map .int) :: L.map tD) = _
    rw [tints, ints_map, tints_map L]
    rfl
theorem tints_eq : ∀ {ds : List D} {L : List (List Int)}, tints ds = some L → ds = L.map tD
  | [], L, h => by
    rw [tints] at h
    cases h
    rfl
  | .tup es :: r, L, h => by
    rw [tints] at h
    cases e : dints es with
    | none => rw [e] at h; cases h
    | some ns =>
      rw [e] at h
      cases e2 : tints r with
      | none => rw [e2] at h; cases h
      | some q =>
        rw [e2] at h
        cases h
        rw [List.map_cons, ← tints_eq e2, ints_eq e]
        rfl
  | .non :: _, _, h => by rw [tints] at h; cases h; all_goals (intros; contradiction)
  | .bl _ :: _, _, h => by rw [tints] at h; cases h; all_goals (intros; contradiction)
  | .int _ :: _, _, h => by rw [tints] at h; cases h; all_goals (intros; contradiction)
  | .str _ :: _, _, h => by rw [tints] at h; cases h; all_goals (intros; contradiction)
  | .lst _ :: _, _, h => by rw [tints] at h; cases h; all_goals (intros; contradiction)
  | .dct _ :: _, _, h => by rw [tints] at h; cases h; all_goals (intros; contradiction)
  | .dcT _ :: _, _, h => by rw [tints] at h; cases h; all_goals (intros; contradiction)
  | .rtp _ :: _, _, h => by rw [tints] at h; cases h; all_goals (intros; contradiction)
  | .ref _ :: _, _, h => by rw [tints] at h; cases h; all_goals (intros; contradiction)
  | .rls _ :: _, _, h => by rw [tints] at h; cases h; all_goals (intros; contradiction)
def tcode (ns : List Int) : Int := TS.code 1000 ns
def tins (x : List Int) : List (List Int) → List (List Int)
  | [] => [x]
  | y :: r => if tcode x ≤ tcode y then x :: y :: r else y :: tins x r
def tsort : List (List Int) → List (List Int)
  | [] => []
  | x :: r => tins x (tsort r)
def tuq : List (List Int) → List (List Int)
  | [] => []
  | x :: r => if r.contains x then tuq r else x :: tuq r
/-- alike in length, the ints from 0 to 999 -/
def okT (d : Nat) (L : List (List Int)) : Bool := decide (1 ≤ d) && decide (L.length < 64) && L.all fun ns => ns.length == d && ns.all fun i => decide (0 ≤ i ∧ i < 1000)
def dimT : List (List Int) → Nat
  | [] => 1
  | x :: _ => x.length
theorem okT_iff {d : Nat} {L : List (List Int)} : okT d L = true ↔ 1 ≤ d ∧ L.length < 64 ∧ ∀ ns ∈ L, ns.length = d ∧ TS.Bd 1000 ns := by
  unfold okT TS.Bd
  simp only [Bool.and_eq_true, decide_eq_true_iff, List.all_eq_true, beq_iff_eq, and_assoc]
theorem tins_perm (x : List Int) : ∀ l, (tins x l).Perm (x :: l)
  | [] => List.Perm.refl _
  | y :: r => by
    unfold tins
    split
    · exact List.Perm.refl _
    · exact ((tins_perm x r).cons y).trans (List.Perm.swap x y r)
theorem tsort_perm : ∀ l, (tsort l).Perm l
  | [] => List.Perm.refl _
  | x :: r => (tins_perm x (tsort r)).trans ((tsort_perm r).cons x)
theorem tins_le (x : List Int) : ∀ {l : List (List Int)}, l.Pairwise (fun a b => tcode a ≤ tcode b) → (tins x l).Pairwise fun a b => tcode a ≤ tcode b
  | [], _ => List.pairwise_singleton _ _
  | y :: r, h => by
    unfold tins
    by_cases z : tcode x ≤ tcode y
    · rw [if_pos z]
      refine List.Pairwise.cons (fun a ha => ?_) h
      rcases List.mem_cons.mp ha with rfl | ha
      · exact z
      · exact Int.le_trans z ((List.pairwise_cons.mp h).1 a ha)
    · rw [if_neg z]
      refine List.Pairwise.cons (fun a ha => ?_) (tins_le x (List.pairwise_cons.mp h).2)
      rcases List.mem_cons.mp ((tins_perm x r).mem_iff.mp ha) with rfl | ha
      · omega
      · exact (List.pairwise_cons.mp h).1 a ha
theorem tsort_le : ∀ l, (tsort l).Pairwise fun a b => tcode a ≤ tcode b
  | [] => .nil
  | x :: r => tins_le x (tsort_le r)
theorem tuq_mem {x : List Int} : ∀ {l : List (List Int)}, x ∈ tuq l ↔ x ∈ l
  | [] => Iff.rfl
  | y :: r => by
    unfold tuq
    by_cases h : r.contains y = true
    · rw [if_pos h, tuq_mem, List.mem_cons]
      exact ⟨.inr, fun q => q.elim (fun e => by rw [e]; exact List.contains_iff_mem.mp h) id⟩
    · rw [if_neg h, List.mem_cons, List.mem_cons, tuq_mem]
theorem tuq_nodup : ∀ l : List (List Int), (tuq l).Nodup
  | [] => List.nodup_nil
  | y :: r => by
    unfold tuq
    by_cases h : r.contains y = true
    · rw [if_pos h]; exact tuq_nodup r
    · rw [if_neg h]
      exact List.nodup_cons.mpr ⟨fun q => h (List.contains_iff_mem.mpr (tuq_mem.mp q)), tuq_nodup r⟩
theorem tc_inj : ∀ {x y : List Int}, x.length = y.length → TS.Bd 1000 x → TS.Bd 1000 y → tcode x = tcode y → x = y
  | [], [], _, _, _, _ => rfl
  | [], _ :: _, h, _, _, _ => by simp at h
  | _ :: _, [], h, _, _, _ => by simp at h
  | a :: r, b :: q, h, hx, hy, e => by
    have hl : r.length = q.length := by simpa using h
    have hr : TS.Bd 1000 r := fun m hm => hx m (List.mem_cons_of_mem _ hm)
    have hq : TS.Bd 1000 q := fun m hm => hy m (List.mem_cons_of_mem _ hm)
    unfold tcode at e
    have ab : a = b := by
      refine Classical.byContradiction fun z => ?_
      rcases (by omega : a < b ∨ b < a) with k | k
      · have := TS.code_lt hl hr hq k
        omega
      · have := TS.code_lt hl.symm hq hr k
        omega
    subst ab
    have e2 : tcode r = tcode q := by
      have k1 := TS.code_same (B := 1000) (d := a) hl
      have k2 := TS.code_same (B := 1000) (d := a) hl.symm
      unfold tcode
      refine Classical.byContradiction fun z => ?_
      rcases (by omega : TS.code 1000 r < TS.code 1000 q ∨ TS.code 1000 q < TS.code 1000 r) with k | k
      · have := k1.mpr k
        omega
      · have := k2.mpr k
        omega
    rw [tc_inj hl hr hq e2]
theorem tsort_uniq {d : Nat} : ∀ {a b : List (List Int)}, a.Perm b → a.Pairwise (fun x y => tcode x ≤ tcode y) → b.Pairwise (fun x y => tcode x ≤ tcode y) → (∀ x ∈ b, x.length = d ∧ TS.Bd 1000 x) → a = b
  | [], b, p, _, _, _ => by rw [List.nil_perm.mp p]
  | x :: r, [], p, _, _, _ => absurd (List.perm_nil.mp p) (List.cons_ne_nil _ _)
  | x :: r, y :: t, p, ha, hb, k => by
    have xm := p.mem_iff.mp (List.mem_cons_self : x ∈ x :: r)
    have ym := p.mem_iff.mpr (List.mem_cons_self : y ∈ y :: t)
    have hx : tcode x ≤ tcode y := by
      rcases List.mem_cons.mp ym with h | h
      · rw [h]; omega
      · exact (List.pairwise_cons.mp ha).1 y h
    have hy : tcode y ≤ tcode x := by
      rcases List.mem_cons.mp xm with h | h
      · rw [h]; omega
      · exact (List.pairwise_cons.mp hb).1 x h
    have kx := k x xm
    have ky := k y List.mem_cons_self
    have e : x = y := tc_inj (kx.1.trans ky.1.symm) kx.2 ky.2 (Int.le_antisymm hx hy)
    subst e
    rw [tsort_uniq (List.Perm.cons_inv p) (List.pairwise_cons.mp ha).2 (List.pairwise_cons.mp hb).2 fun z hz => k z (List.mem_cons_of_mem _ hz)]
/-! sorted of a tuple of such tuples -/
section
variable {prog : Program} {w : World} {A : Around} {E : Value → Shared → Prop} {s : Shared}
theorem sort_tupU {l : Addr} {vs : List Value} {d : Nat} {B : Int} {Q : Value → Shared → Prop} (isT : s.heap.IsTuple l vs.toArray) (few : vs.length < 64) (d1 : 1 ≤ d) (ok : TS.TupsOk s.heap d B vs)
    (done : ∀ out : Array Value, out.toList.Perm vs → out.toList.Pairwise (fun u v => TS.code B (TS.intsOf s.heap u) ≤ TS.code B (TS.intsOf s.heap v)) → Q (.ref (s.heap.objs.size + 1)) { s with heap := sortedAll s.heap vs out }) :
    wpAny (model prog w) A (call (.builtin "sorted") [.ref l]) Q E s := by
  have le : vs.length ≤ sizeLine := by rw [sizeLine_eq]; omega
  have e1 : ((s.heap.push (seqObj "list" #[] 0)).update s.heap.objs.size (Obj.mapSeq (· ++ vs.toArray))).objs.size = s.heap.objs.size + 1 := by
    rw [Heap.size_update, size_push']
  have e2 : (((s.heap.push (seqObj "list" #[] 0)).update s.heap.objs.size (Obj.mapSeq (· ++ vs.toArray))).push (seqObj "list" vs.toArray 0)).get? (s.heap.objs.size + 1) = some (seqObj "list" vs.toArray 0) := by
    rw [← e1]
    exact Heap.get?_push_size _ rfl
  have kp : ∀ b o, s.heap.get? b = some o → o.cls = .type "tuple" → (((s.heap.push (seqObj "list" #[] 0)).update s.heap.objs.size (Obj.mapSeq (· ++ vs.toArray))).push (seqObj "list" vs.toArray 0)).get? b = some o := fun b o q _ => by
    have lt : b < s.heap.objs.size := Heap.lt_size q
    have ne : b ≠ s.heap.objs.size := Nat.ne_of_lt lt
    rw [Heap.get?_push_ne _ _ _ (e1.symm ▸ Nat.ne_of_lt (Nat.lt_succ_of_lt lt)), Heap.get?_update_ne _ _ _ _ ne, Heap.get?_push_ne _ _ _ ne]
    exact q
  refine Calls.call_function_entry kind_sorted plain_sorted entry_sorted (args_sorted1 _) ?_
  unfold Builtin.«sorted»
  refine wpAny_bind (m := checkCount "sorted" 1 1 _) (wpAny_pure (wpAny_bind (gather_tup isT le (wpAny_bind (wpAny_newList ?_ le)))))
  change wpAny _ _ _ _ _ { s with heap := ((s.heap.push (seqObj "list" #[] 0)).update s.heap.objs.size (Obj.mapSeq (· ++ vs.toArray))).push (seqObj "list" vs.toArray 0) }
  rw [e1]
  refine wpAny_bind (wpAny_holding (wpAny_call_entry slot_list_sort ⟨_, e2, rfl⟩ entry_list_sort
    (TS.sort_tups e2 few d1 (ok.keeps kp) (fun v => TS.code B (TS.intsOf s.heap v)) (fun v hv ns t => ?_) fun out a1 a2 => ⟨_, rfl, ?_⟩) (args_list_sort _)))
  · obtain ⟨ns0, t0, _⟩ := ok v hv
    have e : ns = ns0 := t.ints.symm.trans (t0.keeps kp).ints
    rw [e]
    change TS.code B (TS.intsOf s.heap v) = _
    rw [t0.ints]
  · exact wpAny_pure ⟨_, rfl, done out a1 a2⟩
end
section
variable {X : Cx} {pins : List (Addr × Obj)} {σ : L2.St} {H : Hp} {s : Shared}
/-- sorted(xs), xs a list or a tuple of tuples of d ints -/
def rSortV (K : PySem.W.Frag) (d : Nat) (B : Int) : List V → Hp → VK → Prop := fun vs H Q => ∃ (a : Addr) (xs : List V), vs = [V.ref a] ∧ (SqL K H a xs ∨ SqT K H a xs) ∧ xs.length < 64 ∧ (∀ x ∈ xs, ∃ ns, TupI K H x ns ∧ ns.length = d ∧ TS.Bd B ns) ∧
  ∀ (ys : List V) (p : Addr), ys.Perm xs → ys.Pairwise (fun x y => ∀ n m, TupI K H x n → TupI K H y m → TS.code B n ≤ TS.code B m) → H p = none → Q (.ref p) (upd H p (.lst ys))
theorem cr_sortV {d : Nat} {B : Int} (d1 : 1 ≤ d) : CallR X (.builtin "sorted") (rSortV X.K d B) := by
  intro pins s σ H vs us Q I r h
  obtain ⟨a, xs, rfl, hs | hs, few, hx, q⟩ := h
  · exact cr_sortT d1 pins s σ H [V.ref a] us Q I r ⟨a, xs, rfl, hs, few, hx, q⟩
  · obtain ⟨its, rv, pl, le⟩ := I.tuple hs
    rw [Vals.ref1 r]
    obtain ⟨f1, f2⟩ := bkV_refs rv fun x m => by
      obtain ⟨ns, ⟨t, e, _⟩, _⟩ := hx x m
      exact ⟨t, e⟩
    refine sort_tupU (d := d) (B := B) pl (by rw [← rv.length]; exact few) d1 (fun v hv => ?_) fun out g1 g2 => ?_
    · obtain ⟨t, rfl⟩ := f2 v hv
      obtain ⟨ns, ⟨t', e, ht⟩, hn, hb⟩ := hx (V.ref t) (by rw [f1]; exact List.mem_map.mpr ⟨_, hv, rfl⟩)
      cases e
      exact ⟨ns, tupI_raw I ht, hn, hb⟩
    · obtain ⟨c, hc⟩ := PyProof.Rows.sortedAll_at s.heap its out
      have g3 : ∀ u ∈ out.toList, ∃ a, u = Value.ref a := fun u hu => f2 u (g1.mem_iff.mp hu)
      have pm : (out.toList.map bkV).Perm xs := by
        rw [f1]
        exact g1.map bkV
      have len : (out.toList.map bkV).length ≤ sizeLine := by
        rw [pm.length_eq]
        exact le
      refine ⟨.ref _, upd H (s.heap.objs.size + 1) (.lst (out.toList.map bkV)), I.laid (t' := s.toks) (fun _ _ => PyProof.Rows.sortedAll_old) (Nat.le_succ _) ⟨len, out.toList, c, bkV_vals g3, hc⟩, rfl, q _ _ pm ?_ (I.hok.fresh (Nat.le_succ _))⟩
      rw [List.pairwise_map]
      refine g2.imp fun {u v} huv n m hn hm => ?_
      obtain ⟨t, et, ht⟩ := hn
      obtain ⟨t', et', ht'⟩ := hm
      have eu := bkV_ref et
      have ev := bkV_ref et'
      subst eu ev
      rw [← (tupI_raw I ht).ints, ← (tupI_raw I ht').ints]
      exact huv
end
/-! the mirror -/
theorem perm_lift {α β : Type} {f : α → β} {ys xs : List β} (h : ys.Perm xs) : ∀ ks : List α, xs = ks.map f → ∃ ks' : List α, ks'.Perm ks ∧ ys = ks'.map f := by
  induction h with
  | nil =>
    intro ks e
    exact ⟨ks, List.Perm.refl _, e⟩
  | cons x _ ih =>
    intro ks e
    cases ks with
    | nil => cases e
    | cons k ks =>
      rw [List.map_cons] at e
      injection e with e1 e2
      obtain ⟨ks', p, e3⟩ := ih ks e2
      exact ⟨k :: ks', p.cons k, by rw [List.map_cons, e1, e3]⟩
  | swap x y l =>
    intro ks e
    match ks, e with
    | a :: b :: ks, e =>
      rw [List.map_cons, List.map_cons] at e
      injection e with e1 e2
      injection e2 with e2 e3
      exact ⟨b :: a :: ks, List.Perm.swap a b ks, by rw [List.map_cons, List.map_cons, e1, e2, e3]⟩
    | [], e => cases e
    | [a], e => cases e
  | trans _ _ ih1 ih2 =>
    intro ks e
    obtain ⟨k1, p1, e1⟩ := ih2 ks e
    obtain ⟨k2, p2, e2⟩ := ih1 k1 e1
    exact ⟨k2, p2.trans p1, e2⟩
section
variable {p : Pg} {g : Gs} {H : Hp}
theorem rps_ks : ∀ {xs : List V} {L : List (List Int)}, p.Rps g xs (L.map tD) → ∃ ks : List (Addr × List Int), xs = ks.map (fun q => V.ref q.1) ∧ ks.map (·.2) = L ∧ ∀ q ∈ ks, p.Rp g (.ref q.1) (tD q.2)
  | _, [], .nil => ⟨[], rfl, rfl, fun q h => (by cases h)⟩
  | _, ns :: L, .cons r t => by
    obtain ⟨ks, e1, e2, h⟩ := rps_ks t
    cases r with
    | @tup a us ds s r =>
      refine ⟨(a, ns) :: ks, by rw [e1]; rfl, by rw [← e2]; rfl, fun q hq => ?_⟩
      rcases List.mem_cons.mp hq with rfl | hq
      · exact .tup s r
      · exact h q hq
theorem ks_rps : ∀ {ks : List (Addr × List Int)}, (∀ q ∈ ks, p.Rp g (.ref q.1) (tD q.2)) → p.Rps g (ks.map fun q => V.ref q.1) ((ks.map (·.2)).map tD)
  | [], _ => .nil
  | q :: ks, h => .cons (h q List.mem_cons_self) (ks_rps fun r hr => h r (List.mem_cons_of_mem _ hr))
theorem rp_tupI (w : Wf p g H) {a : Addr} {ns : List Int} (r : p.Rp g (.ref a) (tD ns)) : TupI p.K H (.ref a) ns := by
  cases r with
  | @tup a us ds s r =>
    have := r.toInts
    subst this
    exact ⟨a, rfl, .inl (.inl (w.sub _ _ s))⟩
end
def sortV : D → M D
  | .lst ds => match tints ds with
    | some L => if okT (dimT L) L = true then pure (.lst ((tsort L).map tD)) else stuck
    | none => stuck
  | .tup ds => match tints ds with
    | some L => if okT (dimT L) L = true then pure (.lst ((tsort L).map tD)) else stuck
    | none => stuck
  | _ => stuck
theorem sortV_core {p : Pg} {g : Gs} {H : Hp} {xs : List V} {L : List (List Int)} {Q : VK} (w : Wf p g H) (r : p.Rps g xs (L.map tD)) (ok : okT (dimT L) L = true) (q : Pv p (RN p) g H Q (.lst ((tsort L).map tD)) g.st) :
    xs.length < 64 ∧ (∀ x ∈ xs, ∃ ns, TupI p.K H x ns ∧ ns.length = dimT L ∧ TS.Bd 1000 ns) ∧
    ∀ (ys : List V) (a : Addr), ys.Perm xs → ys.Pairwise (fun x y => ∀ n m, TupI p.K H x n → TupI p.K H y m → TS.code 1000 n ≤ TS.code 1000 m) → H a = none → Q (.ref a) (upd H a (.lst ys)) := by
  obtain ⟨d1, few, all⟩ := okT_iff.mp ok
  obtain ⟨ks, e1, e2, h⟩ := rps_ks r
  refine ⟨?_, fun x hx => ?_, fun ys a pm pw hn => ?_⟩
  · rw [e1, List.length_map, ← List.length_map (f := (·.2)) (as := ks), e2]
    exact few
  · rw [e1] at hx
    obtain ⟨k, hk, rfl⟩ := List.mem_map.mp hx
    have := all k.2 (by rw [← e2]; exact List.mem_map.mpr ⟨k, hk, rfl⟩)
    exact ⟨k.2, rp_tupI w (h k hk), this.1, this.2⟩
  · obtain ⟨ks', pk, e3⟩ := perm_lift pm ks e1
    have h' : ∀ k ∈ ks', p.Rp g (.ref k.1) (tD k.2) := fun k hk => h k (pk.mem_iff.mp hk)
    have e4 : ks'.map (·.2) = tsort L := by
      refine tsort_uniq (d := dimT L) ((pk.map _).trans (by rw [e2]; exact (tsort_perm L).symm)) ?_ (tsort_le L) fun x hx => all x ((tsort_perm L).mem_iff.mp hx)
      rw [List.pairwise_map]
      rw [e3, List.pairwise_map] at pw
      exact List.Pairwise.imp_of_mem (fun {u v} hu hv z => z u.2 v.2 (rp_tupI w (h' u hu)) (rp_tupI w (h' v hv))) pw
    have r' := ks_rps h'
    rw [e4, ← e3] at r'
    exact q _ g _ rfl (Stp.laid w hn) ⟨a, rfl, ⟨_, upd_same, r'⟩, w.freeG hn, w.freeA hn, hn⟩
def rSortW (K : PySem.W.Frag) : List V → Hp → VK → Prop := fun vs H Q => ∃ d, 1 ≤ d ∧ rSortV K d 1000 vs H Q
theorem op_sortV {p : Pg} : Op1C p (rSortW p.K) sortV (RN p) := by
  intro g H x vx Q E w hx q
  have core : ∀ (ds : List D) (xs : List V) (a : Addr), p.Rps g xs ds → (SqL p.K H a xs ∨ SqT p.K H a xs) → ((match tints ds with
    | some L => if okT (dimT L) L = true then (pure (.lst ((tsort L).map tD)) : M D) else stuck
    | none => stuck) g.st).Post (Pv p (RN p) g H Q) E → rSortW p.K [.ref a] H Q := fun ds xs a r s q => by
    cases e : tints ds with
    | none => rw [e] at q; exact False.elim q
    | some L =>
      rw [e] at q
      by_cases z : okT (dimT L) L = true
      · simp only [if_pos z] at q
        have ed := tints_eq e
        subst ed
        obtain ⟨h1, h2, h3⟩ := sortV_core w r z (post_pure q)
        exact ⟨dimT L, (okT_iff.mp z).1, a, xs, rfl, s, h1, h2, h3⟩
      · simp only [if_neg z] at q
        exact False.elim q
  cases x with
  | lst ds =>
    obtain ⟨a, xs, rfl, s, r⟩ := hx.lst w
    exact core ds xs a r (.inl (SqL.of s)) q
  | tup ds =>
    obtain ⟨a, xs, rfl, s, r⟩ := hx.tup w
    exact core ds xs a r (.inr s) q
  | _ => exact False.elim q
def seqOf : D → Option (List D)
  | .lst ds => some ds
  | .tup ds => some ds
  | _ => none
/-- sorted: ints, or tuples of ints -/
def sortedD (x : D) : M D := match seqOf x with
  | some ds => if (dints ds).isSome = true then sortI x else sortV x
  | none => stuck
def rSortAll (K : PySem.W.Frag) : List V → Hp → VK → Prop := fun vs H Q => rSortA K vs H Q ∨ rSortW K vs H Q
theorem cr_sortAll {X : Cx} : CallR X (.builtin "sorted") (rSortAll X.K) := by
  intro pins s σ H vs us Q I r h
  rcases h with h | ⟨d, d1, h⟩
  · exact cr_sortA pins s σ H vs us Q I r h
  · exact cr_sortV d1 pins s σ H vs us Q I r h
theorem op_sortedD {p : Pg} : Op1C p (rSortAll p.K) sortedD (RN p) := by
  intro g H x vx Q E w hx q
  unfold sortedD at q
  cases e : seqOf x with
  | none => rw [e] at q; exact False.elim q
  | some ds =>
    rw [e] at q
    by_cases z : (dints ds).isSome = true
    · simp only [if_pos z] at q
      exact .inl (op_sortI g H x vx Q E w hx q)
    · simp only [if_neg z] at q
      exact .inr (op_sortV g H x vx Q E w hx q)
section
variable {S : Sta} {ρ : Ev} {a : Expr} {ma : M D} {pos p : Pos}
theorem en_sorted (B : Blt S "sorted" (.builtin "sorted")) (ha : EL S ρ a ma) (hs : NoStar [a] := by intro _; rfl) : EN S ρ (.Call (.Name "sorted" p) [a] [] pos) (ma >>= sortedD) := ex_b1 back_RN (fun Y _ => cr_sortAll) op_sortedD B ha hs
end
theorem sorted_li (ns : List Int) : sortedD (.lst (ns.map .int)) = pure (.lst ((isort ns).map .int)) := by
  unfold sortedD seqOf
  simp only [ints_map, Option.isSome_some, if_true, sortI]
theorem sorted_ti (ns : List Int) : sortedD (.tup (ns.map .int)) = pure (.lst ((isort ns).map .int)) := by
  unfold sortedD seqOf
  simp only [ints_map, Option.isSome_some, if_true, sortI]
theorem dints_tD (ns : List Int) (L : List (List Int)) : dints ((ns :: L).map tD) = none := rfl
theorem sorted_lt {L : List (List Int)} {d : Nat} (h : okT d L = true) (e : L ≠ [] → dimT L = d) : sortedD (.lst (L.map tD)) = pure (.lst ((tsort L).map tD)) := by
  cases L with
  | nil => rfl
  | cons ns L =>
    have e := e (List.cons_ne_nil _ _)
    unfold sortedD seqOf
    simp only [dints_tD, Option.isSome_none, if_neg Bool.false_ne_true, sortV, tints_map, e, h, if_true]
theorem sorted_tt {L : List (List Int)} {d : Nat} (h : okT d L = true) (e : L ≠ [] → dimT L = d) : sortedD (.tup (L.map tD)) = pure (.lst ((tsort L).map tD)) := by
  cases L with
  | nil => rfl
  | cons ns L =>
    have e := e (List.cons_ne_nil _ _)
    unfold sortedD seqOf
    simp only [dints_tD, Option.isSome_none, if_neg Bool.false_ne_true, sortV, tints_map, e, h, if_true]
end DL
namespace DL
open PySem PySem.Spec PyProof.Rows L2
/-! ### sorted(set(..)) of tuples of ints -/
section
variable {P : Program} {w : World} {A : Around} {E : Value → Shared → Prop} {s : Shared}
set_option maxHeartbeats 4000000 in
theorem set_of_tupT {l : Addr} {its : Array Value} (ks : List (Addr × List Int)) {Q : Value → Shared → Prop} (nh : A.handled = none) (isl : s.heap.IsTuple l its) (hit : its.toList = ks.map fun p => Value.ref p.1)
    (hk : ∀ p ∈ ks, IsT P w s.heap p.2 p.1) (few : ks.length < 64) (un : A.units + 3 < cLine)
    (done : ∀ (hp : Heap) (tk : Nat) L es ep t, SetTR P w hp s.heap.objs.size L es ep t → Got ks ks.length L → (∀ b o, s.heap.get? b = some o → hp.get? b = some o) → Q (.ref s.heap.objs.size) { s with heap := hp, toks := tk }) :
    wpAny (model P w) A (call (.type "set") [.ref l]) Q E s := by
  have hsize : its.size = ks.length := by
    have z := congrArg List.length hit
    rwa [Array.length_toList, List.length_map] at z
  obtain ⟨cm, tlm, hmro⟩ := F.called_set.mro
  have hmd := F.called_set.made
  have hsb := F.called_set.sub
  have hnt := F.called_set.notType
  have hcc := F.called_set.canCreate
  have htc := F.typeCall_set_1 (.ref l)
  refine wpAny_call (codeAny_of_tree ?_)
  show wpAny _ _ (callAny (.type "set") _) _ _ _
  refine wpAny_pure ⟨Code.quiet_builtin _ (by decide +kernel), codeAny_builtin F.entry_type_call ?_⟩
  rw [Around.under_plain (weight_type_call_type "set" [.ref l] []) rfl]
  repeat (any_goals (first | assumption | wp_step))
  refine codeAny_mono (code_set_led1 (.ref l) (E := E) (Q₁ := fun v s1 => v = .ref s.heap.objs.size ∧ s1 = { s with heap := s.heap.push (newSet w) }) ⟨rfl, rfl⟩) fun r s1 hr => ?_
  cases r with
  | error e => exact hr
  | ok fl =>
    cases fl with
    | next => exact hr.elim
    | brk => exact hr.elim
    | cont => exact hr.elim
    | ret v =>
      obtain ⟨rfl, rfl⟩ := hr
      have hset : (s.heap.push (newSet w)).get? s.heap.objs.size = some (newSet w) := Heap.get?_push_size _ rfl
      have hty : Shared.TypeIs { s with heap := s.heap.push (newSet w) } (.ref s.heap.objs.size) "set" := ⟨_, hset, rfl⟩
      have hlk := F.called_set.init.lookup
      have hbd := F.called_set.init.bind (.ref s.heap.objs.size)
      repeat (any_goals (first | assumption | wp_step))
      refine codeAny_mono (codeAny_call_builtin (R := wants (fun r s2 => r = .none ∧ ∃ hp tk L es ep t, s2 = { s with heap := hp, toks := tk } ∧ SetTR P w hp s.heap.objs.size L es ep t ∧ Got ks ks.length L ∧ ∀ b o, s.heap.get? b = some o → hp.get? b = some o) E)
        F.called_set.init.plain F.entry_set_init (check_set_init_1 hty ?_)) fun r2 s2 hr2 => ?_
      · obtain ⟨⟨oc, od, odt, osl⟩, hol, hcl, nl, hdl⟩ := isl
        simp only at hcl hdl
        subst hcl hdl
        have hol' : (s.heap.push (newSet w)).get? l = some { cls := .type "tuple", dict := od, data := .seq its nl, slots := osl } := Heap.get?_push_of_some _ hol
        have n1 := F.sub_tuple_set
        have n2 := F.sub_tuple_frozenset
        have n3 : (Value.type "tuple" == Value.type "dict") = false := by decide
        have isl1 : (s.heap.push (newSet w)).IsTuple l its := ⟨_, hol', rfl, nl, rfl⟩
        unfold Builtin.«set.__init__» noKeywords Builtin.Frozenset.updateFrom
        generalize hPI : pyIter = PI
        wp_walk
        subst hPI
        refine wpAny_pyIter_tuple isl1 (wpAny_bind (wpAny_runValue ?_))
        have lS : l < s.heap.objs.size := Heap.lt_size hol
        have nh3 : A.in1.in1.in1.handled = none := by simp [nh]
        have zz : (s.heap.push (newSet w)).objs.size = s.heap.objs.size + 1 := Heap.size_push ..
        have neI : l ≠ (s.heap.push (newSet w)).objs.size := by
          rw [zz]
          exact Nat.ne_of_lt (Nat.lt_succ_of_lt lS)
        have nS : s.heap.objs.size ∉ [(s.heap.push (newSet w)).objs.size, l] := by
          rw [zz]
          simp only [List.mem_cons, List.not_mem_nil, or_false, not_or]
          exact ⟨Nat.ne_of_lt (Nat.lt_succ_self _), Nat.ne_of_gt lS⟩
        have val : ∀ (i : Nat) (v : Value), its[i]? = some v → ∃ p, ks[i]? = some p ∧ v = .ref p.1 := fun i v hv => by
          have q : its.toList[i]? = some v := by rw [Array.getElem?_toList]; exact hv
          rw [hit, List.getElem?_map] at q
          cases hq : ks[i]? with
          | none => rw [hq] at q; cases q
          | some p =>
            rw [hq] at q
            exact ⟨p, rfl, (Option.some.inj q).symm⟩
        have nof : ∀ b, s.heap.objs.size ≤ b → s.heap.get? b = none := fun b hb => by
          cases q : s.heap.get? b with
          | none => rfl
          | some o => exact absurd (Nat.lt_of_lt_of_le (Heap.lt_size q) hb) (Nat.lt_irrefl _)
        refine set_update_tups ((Walks.tuple nh3 _ l neI its).toS) s.heap.objs.size nS ks hsize few val s.heap hk (nof _ (Nat.le_refl _)) (fun b hb => nof b (by
            rw [List.mem_singleton.mp hb, zz]
            exact Nat.le_succ _)) un (its.size - 0) 0 _ (by omega) (Nat.zero_le _) ⟨⟨_, Heap.get?_push_size _ rfl, rfl, rfl⟩, (isl1.push _)⟩ (fun b o e => Heap.get?_push_of_some _ (Heap.get?_push_of_some _ e))
          ⟨[], #[], 0, _, setTR_fresh (Heap.get?_push_of_some _ hset), Got.zero ks⟩ ?_
        rintro ⟨hp, g2, d2, tk2, os2⟩ L es ep t hm hS hg hkp
        have e1 : g2 = s.gens := hm.gens
        have e2 : d2 = s.drawn := hm.drawn
        have e3 : os2 = s.os := hm.os
        subst e1 e2 e3
        show wpAny _ _ _ _ _ _
        refine wpAny_pure ?_
        show wpAny _ _ (ret Value.none) _ _ _
        rw [hsize] at hg
        exact wpAny_pure ⟨rfl, hp, tk2, L, es, ep, t, rfl, hS, hg, hkp⟩
      · cases r2 with
        | error e => exact hr2
        | ok fl2 =>
          cases fl2 with
          | next => exact hr2.elim
          | brk => exact hr2.elim
          | cont => exact hr2.elim
          | ret r =>
            obtain ⟨rfl, hp, tk, L, es, ep, t, rfl, hS, hg, hkp⟩ := hr2
            repeat (any_goals (first | assumption | wp_step))
            exact done _ _ _ _ _ _ hS hg hkp
end
/-- set(xs), xs a list or a tuple of tuples of ints -/
def rSetV (K : PySem.W.Frag) (P : Program) (w : World) : List V → Hp → VK → Prop := fun xs H Q => ∃ (l : Addr) (ks : List (Addr × List Int)), xs = [V.ref l] ∧ (SqL K H l (ks.map fun p => V.ref p.1) ∨ SqT K H l (ks.map fun p => V.ref p.1)) ∧ (∀ p ∈ ks, SqT K H p.1 (p.2.map V.int)) ∧ ks.length < 64 ∧
  ∀ a L, H a = none → (∀ p ∈ L, p ∈ ks) → (∀ p ∈ ks, p.2 ∈ L.map (·.2)) → Q (.ref a) (upd H a (SetTO P w a L))
theorem cr_setV {X : Cx} (hc : X.calm = true) (hu : X.A.units + 64 < cLine) : CallR X (.type "set") (rSetV X.K X.prog X.w) := by
  intro pins s σ H xs us Q I r h
  obtain ⟨l, ks, rfl, hl | hl, hk, few, q⟩ := h
  · exact cr_setOfT hc hu pins s σ H [V.ref l] us Q I r ⟨l, ks, rfl, hl, hk, few, q⟩
  · rw [Vals.ref1 r]
    obtain ⟨its, rv, pl, _⟩ := I.tuple hl
    have fr : H s.heap.objs.size = none := I.hok.fresh (Nat.le_refl _)
    refine set_of_tupT ks (I.ok.hd hc) pl (by simpa using refs_of_vals rv) (fun p hp => I.isT (hk p hp)) few (by omega) fun hp tk L es ep t R g k => ?_
    refine ⟨.ref s.heap.objs.size, upd H s.heap.objs.size (SetTO X.prog X.w s.heap.objs.size L), I.laid (t' := tk) k (Nat.le_refl _) (setTO_new R.t0), rfl, q _ L fr (fun p hp => ?_) fun p hp => ?_⟩
    · exact List.mem_of_mem_take (g.sub p hp)
    · exact g.all p (by rw [List.take_length]; exact hp)
def ssortV : D → M D
  | .lst ds => match tints ds with
    | some L => if okT (dimT L) L = true then pure (.lst ((tsort (tuq L)).map tD)) else stuck
    | none => stuck
  | .tup ds => match tints ds with
    | some L => if okT (dimT L) L = true then pure (.lst ((tsort (tuq L)).map tD)) else stuck
    | none => stuck
  | _ => stuck
/-- sorted(set(..)): ints, or tuples of ints -/
def ssortD (x : D) : M D := match seqOf x with
  | some ds => if (dints ds).isSome = true then ssortI x else ssortV x
  | none => ssortI x
theorem seq_tups {p : Pg} {g : Gs} {H : Hp} {v : V} {x : D} {ok : D → Store → Prop} {ex : Nat → Store → Prop} (w : Wf p g H) (hx : TopR p g H v x) (q : (ssortV x g.st).Post ok ex) :
    ∃ (a : Addr) (ks : List (Addr × List Int)), v = .ref a ∧ (SqL p.K H a (ks.map fun q => V.ref q.1) ∨ SqT p.K H a (ks.map fun q => V.ref q.1)) ∧ (∀ q ∈ ks, p.Rp g (.ref q.1) (tD q.2)) ∧ okT (dimT (ks.map (·.2))) (ks.map (·.2)) = true ∧ ok (.lst ((tsort (tuq (ks.map (·.2)))).map tD)) g.st := by
  have core : ∀ (ds : List D) (xs : List V), p.Rps g xs ds → ((match tints ds with
    | some L => if okT (dimT L) L = true then (pure (.lst ((tsort (tuq L)).map tD)) : M D) else stuck
    | none => stuck) g.st).Post ok ex → ∃ ks : List (Addr × List Int), xs = ks.map (fun q => V.ref q.1) ∧ (∀ q ∈ ks, p.Rp g (.ref q.1) (tD q.2)) ∧ okT (dimT (ks.map (·.2))) (ks.map (·.2)) = true ∧ ok (.lst ((tsort (tuq (ks.map (·.2)))).map tD)) g.st := fun ds xs r q => by
    cases e : tints ds with
    | none => rw [e] at q; exact False.elim q
    | some L =>
      rw [e] at q
      by_cases z : okT (dimT L) L = true
      · simp only [if_pos z] at q
        have ed := tints_eq e
        subst ed
        obtain ⟨ks, e1, e2, h⟩ := rps_ks r
        subst e2
        exact ⟨ks, e1, h, z, post_pure q⟩
      · simp only [if_neg z] at q
        exact False.elim q
  cases x with
  | lst ds =>
    obtain ⟨a, xs, rfl, s, r⟩ := hx.lst w
    obtain ⟨ks, rfl, h1, h2, h3⟩ := core ds xs r q
    exact ⟨a, ks, rfl, .inl (SqL.of s), h1, h2, h3⟩
  | tup ds =>
    obtain ⟨a, xs, rfl, s, r⟩ := hx.tup w
    obtain ⟨ks, rfl, h1, h2, h3⟩ := core ds xs r q
    exact ⟨a, ks, rfl, .inr s, h1, h2, h3⟩
  | _ => exact False.elim q
end DL
set_option maxHeartbeats 1000000
namespace DL
open PySem PySem.Spec PyProof.Rows L2
open HotX L2H
/-! ### lists walked within an except suite -/
section
variable {prog : Program} {w : World} {A : Around} {E : Value → Shared → Prop} {s : Shared}
theorem list_end_hot {it l x1 : Addr} {i : Nat} {items : Array Value} {Q : Option Value → Shared → Prop} (hot : HotAt A x1 s.heap) (hne : x1 ≠ it)
    (hit : s.heap.IsListIter it l i) (hl : s.heap.IsList l items) (hx : items[i]? = none)
    (hQ : ∀ h', Heap.ExtBut it s.heap h' → Q none { s with heap := h' }) : wpAny (model prog w) A (pyNext (.ref it)) Q E s := by
  obtain ⟨o, ho, hc, hd⟩ := id hit
  obtain ⟨ol, hol, _, nl, hdl⟩ := hl
  obtain ⟨hh, o1, vs1, h1, d1, c1⟩ := hot
  unfold pyNext
  refine wpAny_bind (wpAny_attempt (wpAny_callSpecial?_slot (name := Str.ofString "__next__") hit.typeIs slot_listiter_next
    (wpAny_call_entry slot_listiter_next hit.typeIs entry_listiter_next ?_ (args_listiter_next _))))
  show wpAny _ _ (field (.ref it) 0 >>= _) _ _ s
  refine wpAny_bind (wpAny_field ho hd (x := .ref l) rfl ?_)
  show wpAny _ _ (if (Value.ref l == Value.none) = true then _ else _) _ _ s
  rw [if_neg (show ¬ ((Value.ref l == Value.none) = true) from Bool.false_ne_true)]
  show wpAny _ _ (field (.ref it) 1 >>= _) _ _ s
  refine wpAny_bind (wpAny_field ho hd (x := .int i 0) rfl ?_)
  show wpAny _ _ (seqItems? (.ref l) >>= _) _ _ s
  refine wpAny_bind (wpAny_seqItems hol hdl ?_)
  simp only [Int.toNat_natCast, hx]
  refine wpAny_bind (wpAny_rule (wpAny_bind (wpAny_setField ho hd (by simp) ?_)))
  show wpAny _ _ (newExc (.type "StopIteration") [] >>= _) _ _ _
  refine wpAny_bind ?_
  simp only [newExc, newTuple]
  refine wpAny_bind (wpAny_newObj_type ?_ (by size_fits))
  refine wpAny_bind (m := firstArgMember _ _) (wpAny_of_eq (a := Value.none) (by first | rfl | (simp only [firstArgMember]; rfl)) ?_)
  refine wpAny_newObj_type ?_ (by size_fits)
  have k1 := fun (f : Obj → Obj) => (Heap.get?_update_other (h := s.heap) f hne.symm).trans h1
  refine raiseNew_hot ⟨hh, o1, vs1, Heap.get?_push_of_some _ (Heap.get?_push_of_some _ (k1 _)), d1, c1⟩ (Nat.ne_of_lt (Heap.lt_size (Heap.get?_push_of_some _ (k1 _)))) (Heap.get?_push_size _ rfl) rfl (by first | (simp; done) | (simp; omega) | (simp only [Array.size_append]; simp; omega)) ?_
  refine wpAny_bind (wpAny_isInstance (T := "StopIteration") (b := true) ⟨_, Heap.get?_update_self _ (Heap.get?_push_size _ rfl) rfl, rfl⟩ isSubtype_stop ?_)
  refine wpAny_pure (hQ _ fun b o hb e => ?_)
  have e1 := (Heap.get?_update_other (h := s.heap) (Obj.mapFields (·.setIfInBounds 0 Value.none)) (Ne.symm hb)).trans e
  have e2 := Heap.get?_push_of_some { cls := .type "tuple", data := .seq ([] : List Value).toArray } e1
  rw [Heap.get?_update_other _ _ (Nat.ne_of_gt (Heap.lt_size e2))]
  exact Heap.get?_push_of_some _ e2
theorem HotAt.kept {x1 : Addr} {h h' : Heap} (hot : HotAt A x1 h) (k : ∀ o, h.get? x1 = some o → h'.get? x1 = some o) : HotAt A x1 h' := by
  obtain ⟨hh, o, vs, e, d, c⟩ := hot
  exact ⟨hh, o, vs, k o e, d, c⟩
theorem walks_hot {x1 : Addr} (I ax : Addr) (hne : ax ≠ I) (hx : x1 ≠ I) (items : Array Value) :
    Walks prog w A I [I, ax, x1] [I] items.size (fun i v => items[i]? = some v) (fun i h => h.IsListIter I ax i ∧ h.IsList ax items ∧ HotAt A x1 h) where
  sub := fun b hb => by simp at hb; simp [hb]
  frame := fun _ _ _ st hk => ⟨st.1.at fun o e => hk I (by simp) o e, st.2.1.at fun o e => hk ax (by simp) o e, HotAt.kept st.2.2 fun o e => hk x1 (by simp) o e⟩
  item := fun i s Q E hi st hQ => by
    refine wpAny_pyNext_list_item st.1 st.2.1 (x := items[i]) (by simp [hi]) fun h' hit' hs' => ?_
    exact hQ _ h' s.toks (by simp [hi]) ⟨hit', st.2.1.extBut hs'.extBut hne, HotAt.kept st.2.2 fun o e => hs'.extBut x1 o hx e⟩ fun b o hb e => hs'.extBut b o (fun h => hb (by simp [h])) e
  done := fun s Q E st hQ => list_end_hot st.2.2 hx st.1 st.2.1 (by simp) fun h' he' => hQ h' s.toks fun b o hb e => he' b o (fun h => hb (by simp [h])) e
  self := fun _ _ _ _ st hQ => wpAny_pyIter_listiter st.1 hQ
theorem sum_hot {l x1 : Addr} {its : List Value} {ns : List Int} {Q : Value → Shared → Prop} (hot : HotAt A x1 s.heap) (hl : s.heap.IsList l its.toArray) (hi : IntsAre its ns)
    (h : ∀ h' tk t', (∀ b o, s.heap.get? b = some o → h'.get? b = some o) → Q (.int ns.sum t') { s with heap := h', toks := tk }) : wpAny (model prog w) A (call (.builtin "sum") [.ref l]) Q E s := by
  obtain ⟨xs, e⟩ := hi.allInts.items
  have hn : numsOf (intItems xs).toList = ns := by rw [← e]; exact hi.numsOf
  rw [nums_intItems] at hn
  rw [e] at hl
  have hlt : x1 < s.heap.objs.size := by
    obtain ⟨_, o, vs, e, _⟩ := hot
    exact Heap.lt_size e
  refine call_sum_walkG (iter_intList hl fun s2 e st hfp hlI => ?_)
  subst e
  refine ⟨_, _, _, _, _, _, numAt xs, rfl, walks_hot (A := A.in1) _ l hlI (Nat.ne_of_lt hlt) (intItems xs), ⟨st.1, st.2, HotAt.kept (A := A.in1) hot fun o e => Heap.get?_push_of_some _ e⟩, fun b hb => ?_, fun _ _ => intItems_at, fun h' tk t' hk => ?_⟩
  · simp only [List.mem_cons, List.not_mem_nil, or_false] at hb
    rcases hb with rfl | rfl | rfl
    · exact hfp _ (by simp)
    · exact hfp _ (by simp)
    · show _ < (s.heap.push _).objs.size
      rw [Heap.size_push]
      exact Nat.lt_succ_of_lt hlt
  · have z := h h' tk t' (old_kept hk)
    rw [preSum_eq, List.take_of_length_le (by simp [intItems]), hn]
    exact z
end
section
variable {X : Cx}
theorem cr_sumH (hc : HotC X) : CallR X (.builtin "sum") (rSum X.K) := by
  intro pins s σ H vs us Q I r h
  obtain ⟨a, ns, rfl, hs, q⟩ := h
  obtain ⟨its, rv, hl, _⟩ := I.list hs
  obtain ⟨x1, hot⟩ := hc.at I
  rw [Vals.ref1 r]
  exact sum_hot hot hl.isList rv.ints fun h' tk t' hk => ⟨.int _, H, I.kept hk, ⟨_, rfl⟩, q⟩
/-- [e for x in a list], the list not written meanwhile: ys is what is made -/
def tLcH (K : PySem.W.Frag) (tl te : TE) (j : Nat) : TE := fun σ H Q => tl σ H fun v H1 => ∃ a xs ys, v = .ref a ∧ SqL K H1 a xs ∧ ys.length = xs.length ∧ xs.length ≤ sizeLine ∧
  (∀ (i : Nat) (x y : V), xs[i]? = some x → ys[i]? = some y → ∀ (σ' : L2.St) (H' : Hp) (Q' : VK), σ'[j]? = some (some x) → Q' y H' → te σ' H' Q') ∧ ∀ D, H1 D = none → Q (.ref D) (upd H1 D (.lst ys))
theorem pe_lcH {elt l : Expr} {x : Str} {xp : Pos} {scope : Scope} {pos : Pos} {tl te : TE} {j : Nat} (hc : HotC X) (hN : X.N.Nodup) (hl : PE X l tl) (ok : BlkOk X.N X.env.scope scope [(x, j)]) (hj : j < X.N.length)
    (hg : ∀ (s : Shared) (H : Hp) (C : Addr) (cl : List (Str × Addr)) (fp : List Addr), PG (X.blk s H scope (compEnvC scope cl C X.env) fp) (.Name x xp) (gName j))
    (he : ∀ (s : Shared) (H : Hp) (C : Addr) (cl : List (Str × Addr)) (fp : List Addr), PE (X.blk s H scope (compEnvC scope cl C X.env) fp) elt te) (hs : ∀ x, foldedSetIterable l X.env x = pure x := by intro _; rfl) :
    PE X (.ListComp elt [⟨.Name x xp, l, [], 0⟩] scope pos) (tLcH X.K tl te j) := by
  refine ⟨fun pins s σ H Q I h => ?_⟩
  rw [eval_ListComp]
  have hfree : ∀ y ∈ scope.names, y.2 = .free → ∃ c, X.env.cells.lookup y.1 = some c := fun y hy e => (ok.free y hy e).elim (fun k => I.ok.has _ (.inl k)) fun k => I.ok.has _ (.inr k)
  refine wpAny_comprehension_free (use := none) rfl hs (closure_ok hfree) ok.kind (fun y hy e => by rw [ok.uniq y hy, e]) (thn (hl.run pins s σ H _ I h) fun v s1 hv => ?_)
  obtain ⟨v1, H1, I1, r1, a, xs, ys, ev, sq, hlen, hsz, hel, q⟩ := hv
  subst ev
  cases r1
  obtain ⟨its, rv, plain, _⟩ := I1.list sq
  refine wpAny_pyIter_list plain.isList ?_
  -- the iterator
  generalize hitA : s1.heap.objs.size = it
  generalize hs2 : ({ s1 with heap := s1.heap.push { cls := .type "list_iterator", data := .fields #[.ref a, .int 0 0] } } : Shared) = s2
  have k12 : ∀ b o, s1.heap.get? b = some o → s2.heap.get? b = some o := fun b o e => by rw [← hs2]; exact Heap.get?_push_of_some _ e
  have I2 : Inv X pins σ H1 s2 := by rw [← hs2]; exact I1.kept (t' := s1.toks) fun b o e => Heap.get?_push_of_some _ e
  have st2 : s2.heap.IsListIter it a 0 := by rw [← hs2, ← hitA]; exact ⟨_, Heap.get?_push_size _ rfl, rfl, rfl⟩
  have f2 : FpOk X pins H1 it := by rw [← hitA]; exact I1.fpOk (Nat.le_refl _) (I1.hok.fresh (Nat.le_refl _))
  refine wpAny_newObj_type (newEnv_comp ?_) (by show 0 ≤ sizeLine; decide)
  generalize hD : s2.heap.objs.size = D
  have hDn : H1 D = none := I2.hok.fresh (Nat.le_of_eq hD)
  generalize hs3 : ({ s2 with heap := s2.heap.push { cls := .type "list", data := .seq ([] : List Value).toArray } } : Shared) = s3
  have I3 : Inv X pins σ (upd H1 D (.lst [])) s3 := by
    rw [← hs3]
    refine I2.laid (t' := s2.toks) (fun b o e => Heap.get?_push_of_some _ e) (Nat.le_of_eq hD) ⟨Nat.zero_le _, [], 0, .nil, ?_⟩
    rw [← hD]
    exact Heap.get?_push_size _ rfl
  have k23 : ∀ b o, s2.heap.get? b = some o → s3.heap.get? b = some o := fun b o e => by rw [← hs3]; exact Heap.get?_push_of_some _ e
  have it2 : it < s2.heap.objs.size := by
    obtain ⟨o, e, _⟩ := st2
    exact Heap.lt_size e
  have nitD : it ≠ D := by rw [← hD]; exact Nat.ne_of_lt it2
  have f3 : ∀ b ∈ [it], FpOk X pins (upd H1 D (.lst [])) b ∧ b < s3.heap.objs.size := fun b hb => by
    have e : b = it := by simpa using hb
    subst e
    obtain ⟨o, e, _⟩ := st2
    exact ⟨⟨by rw [upd_ne nitD]; exact f2.1, f2.2⟩, Heap.lt_size (k23 _ _ e)⟩
  have I4 := block_start I3 ok hN f3
  have pg := hg s3 (upd H1 D (.lst [])) s3.heap.objs.size (cellsFrom (s3.heap.objs.size + 1) scope.names (cloFrom X.env.cells scope.names [])) [it]
  have pe := he s3 (upd H1 D (.lst [])) s3.heap.objs.size (cellsFrom (s3.heap.objs.size + 1) scope.names (cloFrom X.env.cells scope.names [])) [it]
  show codeAny _ _ (.compStart (.ListComp elt [⟨.Name x xp, l, [], 0⟩] scope pos) 0 (.ref it) (.ref D) (compEnvC scope (cellsFrom (s3.heap.objs.size + 1) scope.names (cloFrom X.env.cells scope.names [])) s3.heap.objs.size X.env)) (compPost (model X.prog X.w) X.A X.xe none (EP X pins σ Q) (.ref D) s3.heap.objs.size) { s3 with heap := pushCells (s3.heap.push { cls := .type "dict", data := .dict #[] }) scope.names }
  generalize hce : compEnvC scope (cellsFrom (s3.heap.objs.size + 1) scope.names (cloFrom X.env.cells scope.names [])) s3.heap.objs.size X.env = ce at I4 pg pe ⊢
  have cL : ce.locals = s3.heap.objs.size := by subst hce; rfl
  generalize hH3 : upd H1 D (.lst []) = H3 at I3 I4 pg pe f3
  generalize hs4 : ({ s3 with heap := pushCells (s3.heap.push { cls := .type "dict", data := .dict #[] }) scope.names } : Shared) = s4 at I4 ⊢
  have k34 : ∀ b o, s3.heap.get? b = some o → s4.heap.get? b = some o := fun b o e => by rw [← hs4]; exact pushCells_keeps _ _ _ _ (Heap.get?_push_of_some _ e)
  have st4 : s4.heap.IsListIter it a 0 := st2.at fun o e => k34 _ _ (k23 _ _ e)
  -- the handled exception
  obtain ⟨p, ⟨hh, v1, e1, c1⟩, hp⟩ := hc
  obtain ⟨pget, pfree, ploc, pfs, _⟩ := I3.pin p (List.mem_append_left _ hp)
  have pst : p.1 ∉ frs X.stack := fun hm => (List.mem_cons.mp (I3.stkSub p.1 hm)).elim ploc pfs
  have pit : p.1 ≠ it := f2.2.2.2.2.2 p (List.mem_append_left _ hp)
  have hot : ∀ {σ' : L2.St} {H' : Hp} {s' : Shared}, Inv (X.blk s3 H3 scope ce [it]) [] σ' H' s' → HotAt X.A p.1 s'.heap := fun {σ' H' s'} I' =>
    ⟨hh, p.2, v1, I'.base.keep p.1 p.2 pget pfree pst (by simpa using pit), e1, c1⟩
  have stat : ∀ {σ' : L2.St} {H' : Hp} {s' : Shared}, Inv (X.blk s3 H3 scope ce [it]) [] σ' H' s' → H' it = none → FpOk (X.blk s3 H3 scope ce [it]) [] H' it := fun {σ' H' s'} I' hn =>
    ⟨hn, (I'.ok.exf it (by exact List.mem_cons_self)).1, I'.ok.exfs it (by exact List.mem_cons_self), .inl (by exact List.mem_cons_self), fun x c e => (I'.ok.exf it (by exact List.mem_cons_self)).2 x c e, fun p hp => absurd (show p ∈ ([] : List (Addr × Obj)) ++ [] from hp) (by simp)⟩
  have sqK : ∀ {H' : Hp}, (∃ acc : List V, H' = upd H1 D (.lst acc)) → SqL X.K H' a xs := by
    rintro H' ⟨acc, rfl⟩
    rcases sq with (e | ⟨o, e⟩) | e
    · exact .inl (.inl (by rw [upd_ne (ne_of_none e hDn)]; exact e))
    · exact .inl (.inr ⟨o, by rw [upd_ne (ne_of_none e hDn)]; exact e⟩)
    · exact .inr e
  have loop : codeAny (model X.prog X.w) X.A (.compLoop (.ListComp elt [⟨.Name x xp, l, [], 0⟩] scope pos) 0 (.ref it) (.ref D) ce) (compPost (model X.prog X.w) X.A X.xe none (EP X pins σ Q) (.ref D) s3.heap.objs.size) s4 := by
    refine compLoop_any (fun n s' => ∃ i H', n = xs.length - i ∧ i ≤ xs.length ∧ H' = upd H1 D (.lst (ys.take i)) ∧ Inv (X.blk s3 H3 scope ce [it]) [] (L2.wipe σ [j]) H' s' ∧ s'.heap.IsListIter it a i ∧ H' it = none) ?_ xs.length
      ⟨0, H3, rfl, Nat.zero_le _, by rw [← hH3, List.take_zero], I4, st4, (f3 it (by simp)).1.1⟩
    rintro n s5 ⟨i, H5, rfl, hi, eH, I5, st5, n5⟩
    have sq5 : SqL X.K H5 a xs := sqK ⟨_, eH⟩
    obtain ⟨its5, rv5, pl5, _⟩ := I5.list sq5
    obtain ⟨f0, f1, f2', f3', f4, f5⟩ := stat I5 n5
    by_cases hlt : i < xs.length
    · have hx : xs[i]? = some xs[i] := List.getElem?_eq_getElem hlt
      obtain ⟨u, hu, ru⟩ := rv5.get hx
      have hy : ys[i]? = some ys[i] := List.getElem?_eq_getElem (by omega)
      refine thnF (wpAny_pyNext_list_item (E := fun _ _ => False) (Q := fun r s' => r = some u ∧ ∃ h', s' = { s5 with heap := h' } ∧ h'.IsListIter it a (i + 1) ∧ Heap.SameBut it s5.heap h') st5 pl5.isList (x := u) (by simpa using hu) fun h' st' sb => ⟨rfl, h', rfl, st', sb⟩) fun r s6 ⟨hr, h', es, st', sb⟩ => ?_
      subst hr es
      have I6 : Inv (X.blk s3 H3 scope ce [it]) [] (L2.wipe σ [j]) H5 { s5 with heap := h' } := I5.turned (t' := s5.toks) (fun b o hb e => (sb.2 b hb).trans e) f0 f1 f3' f4 f5
      obtain ⟨oi, ei, ci, di⟩ := id st'
      refine go_of (s := { s5 with heap := h' }) ei ci di (by decide) ?_
      have I6' := I6.pinned (fp := [it]) (fun b hb => by
        have e : b = it := by simpa using hb
        subst e
        exact stat I6 n5) (fun b hb => by
        have e : b = it := by simpa using hb
        subst e
        exact ⟨oi, ei, fun v z => by rw [di] at z; cases z⟩)
      refine thnF (pg.run _ { s5 with heap := h' } _ H5 xs[i] u (fun σ8 H8 => σ8 = (L2.wipe σ [j]).set j (some xs[i]) ∧ H5 = H8) I6' ru ⟨rfl, rfl⟩) fun _ s8 ⟨σ8, H8, I8, e8, eH8⟩ => ?_
      subst e8 eH8
      have hjl : j < (L2.wipe σ [j]).length := by rw [wipe_length, I.len]; exact hj
      refine wpAny_tests_nil ?_
      rw [if_pos rfl]
      refine thnF (pe.run _ s8 _ H5 (fun y' H' => y' = ys[i] ∧ H5 = H') I8 (hel i xs[i] ys[i] hx hy _ _ _ (List.getElem?_set_self hjl) ⟨rfl, rfl⟩)) fun z s10 ⟨yv, H10, I10, r10, ey, eH10⟩ => ?_
      subst ey eH10
      have hD5 : H5 D = some (.lst (ys.take i)) := by rw [eH]; exact upd_same
      refine app_ok (X := X.blk s3 H3 scope ce [it]) I10 hD5 (by rw [List.length_take]; omega) r10 fun s11 I11 => ⟨xs.length - (i + 1), by omega, i + 1, _, rfl, hlt, ?_, (I11.unpinned (pins := [])).weak (by rw [List.length_set]) (fun jj v e => ?_), ?_, ?_⟩
      · rw [eH]
        rw [List.take_succ, hy]
        funext b
        unfold upd
        by_cases zb : b = D
        · simp [zb]
        · simp [zb]
      · by_cases zj : j = jj
        · subst zj
          exfalso
          have e : (L2.wipe σ [j])[j]? = some (some v) := e
          unfold L2.wipe L2.wipe at e
          rw [List.getElem?_set_self (by rw [wipe_length] at hjl; exact hjl)] at e
          cases e
        · rw [List.getElem?_set_ne zj]
          exact e
      · have z := I11.pin (it, oi) (List.mem_append_right _ (List.mem_append_right _ (mem_pinsAt (by simp) ei)))
        exact st'.at fun o e => by
          rw [ei] at e
          cases e
          exact z.1
      · rw [upd_ne nitD]
        exact n5
    · have ei : i = xs.length := by omega
      subst ei
      refine list_end_hot (hot I5) pit st5 pl5.isList (by simp; have := rv5.length; omega) fun h' eb => ?_
      have I6 : Inv (X.blk s3 H3 scope ce [it]) [] (L2.wipe σ [j]) H5 { s5 with heap := h' } := I5.turned (t' := s5.toks) (fun b o hb e => eb b o hb e) f0 f1 f3' f4 f5
      have I7 : Inv X pins σ H5 { s5 with heap := h' } := I3.call' (ch := [it]) I6.os I6.base I6.hok I6.bare fun b hb => ⟨(f3 b hb).1.2.2.2.1, (f3 b hb).1.2.1, (f3 b hb).1.2.2.2.2.1, (f3 b hb).1.2.2.2.2.2⟩
      obtain ⟨m, hn, _⟩ := I6.loc
      have hn : Heap.Ns h' ce.locals m := hn
      rw [cL] at hn
      have nC : H5 s3.heap.objs.size = none := by
        have z : H5 ce.locals = none := I6.free
        rw [cL] at z
        exact z
      obtain ⟨g0, g1, g2, g3, g4, g5⟩ := I3.fpOk (H' := H5) (Nat.le_refl _) nC
      have qq : Q (.ref D) H5 := by
        rw [eH, ← hlen, List.take_length]
        exact q D hDn
      exact ⟨m, hn, fun h'' sb => ⟨.ref D, H5, I7.turned (t' := s5.toks) (fun b o hb e => (sb.2 b hb).trans e) g0 g1 g3 g4 g5, rfl, qq⟩⟩
  exact codeAny_compStart_list loop (wpAny_pyIter_listiter st4 loop)
end
end DL
set_option maxHeartbeats 1000000
namespace DL
open PySem PySem.Spec PyProof.Rows L2
open HotX L2H
/-! ### the errors' classes: 100 the base of all, 101 NotAllowed, 102 Missing, 103 Wrong, 104 BadForm, 105 Alike -/
def errT : Nat → Option Str
  | 101 => some "refused"
  | 102 => some "missing"
  | 103 => some "wrong"
  | 104 => some "form"
  | 105 => some "alike"
  | _ => none
abbrev bmVE : List Value := [.type "ValueError", .type "Exception", .type "BaseException", .type "object"]
/-- a class of errors that is raised -/
structure ExD (p : Pg) (c : Nat) (x : Str) : Prop where
  g : p.mg x = some (.ref (p.cA c))
  kp : PySem.W.keepIn p.K (.ref (p.cA c)) = true
  xi : PySem.W.excIn p.K (p.cA c) bmVE "ValueError.__new__" = true
  sb : PySem.W.subIn p.K (.ref (p.cA c)) (.type "BaseException") = some true
  ty : PySem.W.typeIn p.K (.ref (p.cA c)) = some (.type "type")
section
variable {S : Sta} {ρ : Ev} {pos q p2 rpos : Pos} {j : Nat} {N B : Type} {shN : N → Ev} {shB : B → Ev} {rest : List Stmt}
theorem sb_raise {c : Nat} {x m : Str} (h : ExD S.pg c x) (hg : Glb S x) (hdb : (x == ("__debug__" : Str)) = false) :
    SB S ρ (.Raise (some (.Call (.Name x q) [.Constant (.str m) j p2] [] pos)) none rpos :: rest) (raise c : M (Out N B)) shN shB := fun Y ok => by
  refine (pss_cons (L2N.ps_raise (X := S.cx Y) rfl ok.takes (L2N.pmk_own (X := S.cx Y) PySem.F.excBase_ValueError h.xi h.g h.kp (raises_own h.sb h.ty) hg hdb)) pss_never).pre fun Dd σ H ⟨F, g, E, q⟩ => ?_
  exact q g H rfl E.fr
end
/-! ### isinstance(e, C), e the error that is handled -/
theorem call_isEX {X : Cx} {a D : Addr} {oe : Obj} (C : ExcC X.K D) (hz : Zc (.ref D) none oe) (hf : ∃ vs, oe.data = .fields vs) (hp : (a, oe) ∈ X.pn) : CallR X (.builtin "isinstance") (rIsE X.K D a) := by
  intro pins s σ H xs us Q I r h
  obtain ⟨c, cv, b, rfl, hcv, e, q⟩ := h
  cases r with
  | cons rx rr =>
    cases rr with
    | cons rt rr =>
      cases rr
      cases rx
      have ec := hcv _ rt
      subst ec
      obtain ⟨hget, _⟩ := I.pin (a, oe) (List.mem_append.mpr (.inl hp))
      obtain ⟨vs, hv⟩ := hf
      have J : PySem.W.InstAt s.heap a oe D none := by
        obtain ⟨oc, od, oda, osl⟩ := oe
        obtain ⟨h1, h2⟩ := hz
        dsimp only at h1 h2 hv
        subst h1 h2 hv
        exact ⟨hget, rfl, rfl, trivial⟩
      exact PySem.W.kia_one (PySem.W.handS_kitx_exc C.hg C.hk C.hs C.hd C.ha C.hn C.ht C.hm) I.kIn J e (fun z => nomatch z) fun tk => ⟨.bl b, H, I.kept (t' := tk) fun _ _ z => z, rfl, q⟩
/-- what the five names stand for, and what is known of the classes cs that are raised -/
structure ErrFacts (K : PySem.W.Frag) (mg : Str → Option Value) (cA : Nat → Addr) (cs : List Nat) : Prop where
  n1 : mg "NotAllowed" = some (.ref (cA 101))
  n2 : mg "Missing" = some (.ref (cA 102))
  n3 : mg "Wrong" = some (.ref (cA 103))
  n4 : mg "BadForm" = some (.ref (cA 104))
  n5 : mg "Alike" = some (.ref (cA 105))
  bs : mg "sum" = none
  bi : mg "int" = none
  bx : mg "isinstance" = none
  ec : ∀ c ∈ cs, ExcC K (cA c)
  kt : ∀ c ∈ cs, ∀ k ∈ [101, 102, 103, 104, 105], PySem.W.kitOne K (.ref (cA c)) (.ref (cA k)) = some (decide (c = k))
/-- the text's row, by the class -/
def errB (c : Nat) : List Bool := [decide (c = 101), decide (c = 102), decide (c = 103), decide (c = 104), decide (c = 105)]
theorem boot_isinst : bootBuiltins "isinstance" = some (.builtin "isinstance") := by decide +kernel
section
variable {X : Cx} {cA : Nat → Addr} {cs : List Nat} {a : Addr} {oe : Obj} {c : Nat} {t : Str}
variable {p1 p2 p3 p4 p5 p6 p7 p8 p9 p10 p11 p12 p13 p14 p15 p16 p17 p18 p19 p20 p21 p22 p23 p24 p25 p26 p27 p28 p29 p30 p31 p32 p33 p34 p35 p36 p37 p38 p39 p40 p41 p42 p43 p44 p45 p46 p47 p48 p49 apos cpos : Pos} {j1 j2 j3 j4 j5 j6 j7 j8 j9 : Nat} {scope : Scope}
theorem pe_isX {q1 q2 q3 q4 : Pos} {x : Str} {k : Nat} (hm0 : (X.mg "isinstance") = none) (C : ExcC X.K (cA c)) (hz : Zc (.ref (cA c)) none oe) (hf : ∃ vs, oe.data = .fields vs) (hp : (a, oe) ∈ X.pn) (hx : X.mg x = some (.ref (cA k))) (hN : X.N[0]? = some ("e" : Str)) (hv : Vis X.env.scope "e") (hgl : Gl X "isinstance") (hgx : Gl X x) (hd : (x == ("__debug__" : Str)) = false) :
    PE X (.Call (.Name "isinstance" q1) [.Name "e" q2, .Name x q3] [] q4) (tCB (rIsE X.K (cA c) a) (tCons (tVar 0) (tCons (tC (.ref (cA k))) tNil))) :=
  pe_callB (call_isEX C hz hf hp) hgl hm0 boot_isinst (pa_cons (pe_var hN hv) (pa_cons (pe_glob hgx hx rfl hd) pa_nil))
/-- what the row of the five answers and its reading give -/
def tErr (cA : Nat → Addr) (cs : List Nat) (a : Addr) : TS := fun D σ H => ∃ c t, errT c = some t ∧ c ∈ cs ∧ σ[0]? = some (some (.ref a)) ∧ 3 ≤ σ.length ∧ ∀ l1 l2 l3, ∀ vs1 vs2 vs3, H l1 = none → upd H l1 (.lst vs1) l2 = none → upd (upd H l1 (.lst vs1)) l2 (.lst vs2) l3 = none → D.rt (.str t) (upd (upd (upd H l1 (.lst vs1)) l2 (.lst vs2)) l3 (.lst vs3))
theorem err_block (hX : ErrFacts X.K X.mg cA cs) (hc : HotC X) (hu : X.A.units + 65 < cLine) (hz : Zc (.ref (cA c)) none oe) (hcs : c ∈ cs) (hf : ∃ vs, oe.data = .fields vs) (hp : (a, oe) ∈ X.pn)
    (hN : X.N = (["e", "names", "one"] : List Str)) (hfn : X.fn = fun _ => true) (hv0 : X.env.scope.names.lookup ("e" : Str) = some .local) (hv1 : X.env.scope.names.lookup ("names" : Str) = some .local)
    (g0 : Gl X "isinstance") (g1 : Gl X "NotAllowed") (g2 : Gl X "Missing") (g3 : Gl X "Wrong") (g4 : Gl X "BadForm") (g5 : Gl X "Alike") (g6 : Gl X "sum")
    (hb : BlkOk X.N X.env.scope scope [("one", 2)]) (hgi : (relS scope X.env.scope).names.lookup ("int" : Str) = some .globalImplicit) (hgo : (relS scope X.env.scope).names.lookup ("one" : Str) = some .local) (hline : (apos.endLine == cpos.line) = true) :
    PSs X [.Assign [.Name "names" p1] (.List [.Call (.Name "isinstance" p2) [.Name "e" p3, .Name "NotAllowed" p4] [] p5, .Call (.Name "isinstance" p6) [.Name "e" p7, .Name "Missing" p8] [] p9, .Call (.Name "isinstance" p10) [.Name "e" p11, .Name "Wrong" p12] [] p13,
        .Call (.Name "isinstance" p14) [.Name "e" p15, .Name "BadForm" p16] [] p17, .Call (.Name "isinstance" p18) [.Name "e" p19, .Name "Alike" p20] [] p21] p22) p23,
      .If (.Compare (.Call (.Name "sum" p24) [.ListComp (.Call (.Name "int" p25) [.Name "one" p26] [] p27) [⟨.Name "one" p28, .Name "names" p29, [], 0⟩] scope p30] [] p31) [.NotEq] [.Constant (.int 1) j1 p32] p33) [.Return (some (.Constant (.str "odd") j2 p34)) p35] [] p36,
      .Return (some (.Subscript (.List [.Constant (.str "refused") j3 p37, .Constant (.str "missing") j4 p38, .Constant (.str "wrong") j5 p39, .Constant (.str "form") j6 p40, .Constant (.str "alike") j7 p41] p42) (.Call (.Attribute (.Name "names" p43) "index" apos) [.Constant (.bool true) j8 p44] [] cpos) p45)) p46]
      (fun D σ H => errT c ≠ none ∧ tErr cA [c] a D σ H) := by
  have e0 : X.N[0]? = some ("e" : Str) := by rw [hN]; rfl
  have e1 : X.N[1]? = some ("names" : Str) := by rw [hN]; rfl
  have e2 : X.N[2]? = some ("one" : Str) := by rw [hN]; rfl
  have nd : X.N.Nodup := by rw [hN]; decide
  have C := hX.ec c hcs
  have i1 := pe_isX (q1 := p2) (q2 := p3) (q3 := p4) (q4 := p5) hX.bx C hz hf hp hX.n1 e0 (.inl hv0) g0 g1 (by decide)
  have i2 := pe_isX (q1 := p6) (q2 := p7) (q3 := p8) (q4 := p9) hX.bx C hz hf hp hX.n2 e0 (.inl hv0) g0 g2 (by decide)
  have i3 := pe_isX (q1 := p10) (q2 := p11) (q3 := p12) (q4 := p13) hX.bx C hz hf hp hX.n3 e0 (.inl hv0) g0 g3 (by decide)
  have i4 := pe_isX (q1 := p14) (q2 := p15) (q3 := p16) (q4 := p17) hX.bx C hz hf hp hX.n4 e0 (.inl hv0) g0 g4 (by decide)
  have i5 := pe_isX (q1 := p18) (q2 := p19) (q3 := p20) (q4 := p21) hX.bx C hz hf hp hX.n5 e0 (.inl hv0) g0 g5 (by decide)
  have nm : ∀ {p : Pos}, PE X (.Name "names" p) (tVar 1) := fun {p} => pe_var e1 (.inl hv1)
  have lc : PE X (.ListComp (.Call (.Name "int" p25) [.Name "one" p26] [] p27) [⟨.Name "one" p28, .Name "names" p29, [], 0⟩] scope p30) (tLcH X.K (tVar 1) _ 2) :=
    pe_lcH hc nd nm hb (by rw [hN]; decide) (fun s H C cl fp => pg_name (X := X.blk s H scope (compEnvC scope cl C X.env) fp) nd e2 (.inl hgo) (.inr hgo))
      (fun s H C cl fp => pe_callTy (X := X.blk s H scope (compEnvC scope cl C X.env) fp) call_int1 hgi hX.bi PyProof.Rows.boot_int (pa_cons (pe_var (X := X.blk s H scope (compEnvC scope cl C X.env) fp) e2 (.inl hgo)) pa_nil))
  refine (pss_cons (ps_set nd e1 (.inl hv1) (pe_lst (pa_cons i1 (pa_cons i2 (pa_cons i3 (pa_cons i4 (pa_cons i5 pa_nil)))))) (hf := .inr hv1))
    (pss_cons (ps_if (pt_cmpR op_ne (pe_callB (cr_sumH hc) g6 hX.bs PyProof.Rows.boot_sum (pa_cons lc pa_nil)) pe_int (nomark _)) (pss_one (ps_ret pe_str)) pss_nil)
      (pss_one (ps_ret (pe_ix ix_list (pe_lst (pa_cons pe_str (pa_cons pe_str (pa_cons pe_str (pa_cons pe_str (pa_cons pe_str pa_nil))))))
        (pe_bm PySem.F.plainAttrs_list PySem.F.slot_list_index PySem.F.type_list_index (mt_indexD hu) nm (pa_cons pe_bl pa_nil) (hline := hline)) (fun _ _ => rfl)))))).pre fun D σ H ⟨hne, c', t, ht, hc', h0, hlen, q⟩ => ?_
  obtain rfl : c' = c := by simpa using hc'
  -- which one it is
  obtain ⟨j, hj1, hj2, hj3, hj4⟩ : ∃ j : Nat, ((errB c').map fun k => if k = true then (1 : Int) else 0).sum = 1 ∧ (errB c')[j]? = some true ∧ (∀ m, m < j → (errB c')[m]? = some false) ∧ atI ([V.str "refused", V.str "missing", V.str "wrong", V.str "form", V.str "alike"] : List V) ((j : Nat) : Int) = some (.str t) := by
    unfold errT at ht
    split at ht
    · cases ht; exact ⟨0, by decide, by decide, by decide, rfl⟩
    · cases ht; exact ⟨1, by decide, by decide, by decide, rfl⟩
    · cases ht; exact ⟨2, by decide, by decide, by decide, rfl⟩
    · cases ht; exact ⟨3, by decide, by decide, by decide, rfl⟩
    · cases ht; exact ⟨4, by decide, by decide, by decide, rfl⟩
    · cases ht
  have kt := hX.kt c' hcs
  have hr : ∀ (u : Value) (k : Addr), RelV (V.ref k) u → u = .ref k := fun u k r => r
  have sl5 : 5 ≤ sizeLine := by decide
  refine ⟨.ref a, h0, .ref (cA 101), .ref (cA 101), _, rfl, fun u r => hr u _ r, kt 101 (by decide), .ref a, h0, .ref (cA 102), .ref (cA 102), _, rfl, fun u r => hr u _ r, kt 102 (by decide), .ref a, h0, .ref (cA 103), .ref (cA 103), _, rfl, fun u r => hr u _ r, kt 103 (by decide),
    .ref a, h0, .ref (cA 104), .ref (cA 104), _, rfl, fun u r => hr u _ r, kt 104 (by decide), .ref a, h0, .ref (cA 105), .ref (cA 105), _, rfl, fun u r => hr u _ r, kt 105 (by decide), sl5, fun l1 hl1 => ?_⟩
  have hs1 : (σ.set 1 (some (V.ref l1)))[1]? = some (some (.ref l1)) := List.getElem?_set_self (by omega)
  have sq1 : SqL X.K (upd H l1 (.lst ((errB c').map V.bl))) l1 ((errB c').map V.bl) := .inl (.inl upd_same)
  refine ⟨.ref l1, hs1, l1, (errB c').map V.bl, ((errB c').map fun k => if k = true then (1 : Int) else 0).map V.int, rfl, sq1, rfl, sl5, fun i x y hx hy σ' H' Q' hσ hq => ?_, fun l2 hl2 => ?_⟩
  · rw [List.getElem?_map] at hx
    rw [List.getElem?_map, List.getElem?_map] at hy
    cases eb : (errB c')[i]? with
    | none => rw [eb] at hx; cases hx
    | some k =>
      rw [eb] at hx hy
      cases hx
      cases hy
      exact ⟨_, hσ, .inr ⟨k, rfl, hq⟩⟩
  refine ⟨l2, _, rfl, .inl (.inl upd_same), rfl, _, rfl, ?_⟩
  rw [hj1]
  have ne2 : l1 ≠ l2 := ne_of_none (by exact upd_same) hl2
  have sq2 : SqL X.K (upd (upd H l1 (.lst ((errB c').map V.bl))) l2 (.lst (((errB c').map fun k => if k = true then (1 : Int) else 0).map V.int))) l1 ((errB c').map V.bl) := .inl (.inl (by rw [upd_ne ne2]; exact upd_same))
  refine ⟨sl5, fun l3 hl3 => ?_⟩
  have ne3 : l1 ≠ l3 := ne_of_none (by rw [upd_ne ne2]; exact upd_same) hl3
  have sq3 : ∀ o, SqL X.K (upd (upd (upd H l1 (.lst ((errB c').map V.bl))) l2 (.lst (((errB c').map fun k => if k = true then (1 : Int) else 0).map V.int))) l3 o) l1 ((errB c').map V.bl) := fun o => .inl (.inl (by rw [upd_ne ne3, upd_ne ne2]; exact upd_same))
  have dpa : ∀ (HH : Hp) (bs : List Bool), DpAll X.K HH (bs.map V.bl) (bs.map PyData.bool) := fun HH bs => by
    induction bs with
    | nil => exact .nil
    | cons b r ih => exact .cons (.bl b) ih
  refine ⟨.ref l1, hs1, .inl ⟨rfl, _, sq3 _⟩, l1, .bl true, .bool true, (errB c').map PyData.bool, j, .bool true, rfl, rfl, .lst (sq3 _) (dpa _ _), .bl true, rfl, rfl, ?_, rfl, fun m z' hm hz' => ?_, ?_⟩
  · rw [List.getElem?_map, hj2]; rfl
  · rw [List.getElem?_map, hj3 m hm] at hz'
    cases hz'
    rfl
  · refine ⟨l3, _, j, .str t, rfl, rfl, .inl (.inl upd_same), hj4, q l1 l2 l3 _ _ _ hl1 hl2 hl3⟩
end
/-! ### the def that tells an error's class, called within an except suite -/
structure ErrFn (p : Pg) (cs : List Nat) : Prop where
  ex : ∃ f fd, p.mg "_law_error" = some (.ref f) ∧ PySem.W.keepIn p.K (.ref f) = true ∧ Binds p.K fd ["e"] [] ∧
    ∀ (A : Around) (outer : List Env) (s : Shared) (H : Hp) (args : Args) (us : List Value) (pin : Addr × Obj) (c : Nat) (t : Str) (Q : VK), c ∈ cs → errT c = some t → RoomH 1 A → Hot1 A pin → PinOk outer H s pin → Zc (.ref (p.cA c)) none pin.2 → (∃ vs, pin.2.data = .fields vs) → Env0 p.P p.w p.K p.mg p.base A outer s H →
      BindsTo s fd args ((["e"] : List Str).zip us) → Vals [V.ref pin.1] us → (∀ H', (∀ g, Wf p g H → Stp p g H g H') → Q (.str t) H') →
      codeAny (model p.P p.w) A (.call (.ref f) args) (CR (L2N.CX p.P p.w) outer p.P p.w H s Q fun _ _ _ => False) s
/-- the def's text -/
structure ErrSc (st : Stmt) : Prop where
  sc : FnScope ["e", "names", "one"] ["e"] (defScope st)
  v0 : (defScope st).names.lookup ("e" : Str) = some .local
  v1 : (defScope st).names.lookup ("names" : Str) = some .local
  gs : ∀ x ∈ (["isinstance", "NotAllowed", "Missing", "Wrong", "BadForm", "Alike", "sum"] : List Str), (defScope st).names.lookup x = some .globalImplicit
theorem err_fn {p : Pg} {cs : List Nat} {st : Stmt} {f : Addr} {fd : FuncData} (F : Fun p.K "_law_error" "_law_error" st f fd) (Sc : ErrSc st) (hm : p.mg "_law_error" = some (.ref f)) (hb : Binds p.K fd ["e"] [])
    (h : ∀ (X : Cx) (a : Addr) (oe : Obj) (c : Nat), X.K = p.K → X.mg = p.mg → X.env.scope = defScope st → HotC X → X.A.units + 65 < cLine → Zc (.ref (p.cA c)) none oe → c ∈ cs → (∃ vs, oe.data = .fields vs) → (a, oe) ∈ X.pn → X.N = (["e", "names", "one"] : List Str) → X.fn = (fun _ => true) →
      PSs X (defBody st) fun D σ H => errT c ≠ none ∧ tErr p.cA [c] a D σ H) : ErrFn p cs := by
  obtain ⟨oc, od, kV, doc, pm, an, cdv, ct, osl, rfl, lk, hcd⟩ := F.ex
  refine ⟨f, _, hm, F.kp, hb, fun A outer s H args us pin c t Q hcs ht hr hot hpin hz hf e0 hbd r hq => ?_⟩
  have KX : p.K.In s.heap := e0.mod.kin.keeps fun b o e => (e0.bs b o e).1
  have lim : s.heap.NoLimit := e0.mod.nolimit.keeps fun b o e => (e0.bs b o e).1
  have hus : us.length = 1 := by rw [← r.length]; rfl
  have hkind : ∀ y ∈ (["e"] : List Str).zip us, (defScope st).names.lookup y.1 = some .local ∨ ((defScope st).names.lookup y.1 = some .cell ∧ ((cellsFrom (s.heap.objs.size + 1) (defScope st).names []).lookup y.1).isSome = true) := fun ⟨n, v⟩ hy => by
    have z := (List.of_mem_zip hy).1
    have z : n = ("e" : Str) := by simpa using z
    subst z
    exact .inl Sc.v0
  refine codeAny_call_function hr.depth (KX _ _ lk) rfl Sc.sc.co Sc.sc.gen rfl (PySem.W.codeRec_of KX hcd) (hbd _ _ _ _ ?_)
  refine wpAny_newFunctionEnv_cells Sc.sc.kind hkind fun env he s1 x => ?_
  subst he
  refine ⟨lim.keeps x.toInCall.keep, codeAny_func ?_⟩
  have I : Inv (cxH (L2N.CX p.P p.w) p.P p.w p.K p.mg p.base ["e", "names", "one"] "_law_error" (defScope st) f cdv A outer s H (fun _ _ _ => False) pin) [] (L2.start ["e", "names", "one"] [V.ref pin.1]) H s1 := inv_startH Sc.sc hpin e0 (by rfl) r x
  have hdeep : Hot1 (A.deeper (envOfC "_law_error" (defScope st) s.heap.objs.size f cdv)) pin := hot
  have hun : (A.deeper (envOfC "_law_error" (defScope st) s.heap.objs.size f cdv)).units + 65 < cLine := by
    have := hr.un
    show A.units + 3 + 65 < cLine
    omega
  have ps := h (cxH (L2N.CX p.P p.w) p.P p.w p.K p.mg p.base ["e", "names", "one"] "_law_error" (defScope st) f cdv A outer s H (fun _ _ _ => False) pin) pin.1 pin.2 c rfl rfl rfl ⟨pin, hdeep, List.mem_singleton.mpr rfl⟩ hun hz hcs hf (List.mem_singleton.mpr rfl) rfl rfl
  refine wpAny_mono (ps.run [] s1 _ H { nx := fun _ H' => Q .non H', rt := Q } I ⟨by rw [ht]; simp, c, t, ht, by simp, rfl, Nat.le_refl 3, fun l1 l2 l3 vs1 vs2 vs3 n1 n2 n3 => hq _ fun g w => ?_⟩) (fun fl s' hs => ?_) fun e s' hs => hs
  · have s1 := Stp.laid (o := .lst vs1) w n1
    have s2 := Stp.laid (o := .lst vs2) s1.wf n2
    have s3 := Stp.laid (o := .lst vs3) s2.wf n3
    exact (s1.trans w s2).trans w s3
  · have fin : ∀ {σ' : L2.St} {H' : Hp} {v : V} {u : Value}, Inv (cxH (L2N.CX p.P p.w) p.P p.w p.K p.mg p.base ["e", "names", "one"] "_law_error" (defScope st) f cdv A outer s H (fun _ _ _ => False) pin) [] σ' H' s' → RelV v u → Q v H' → CE outer p.P p.w H s Q u s' :=
      fun {σ' H' v u} J rv q => ⟨v, H', J.os, J.bare, J.base, J.hok, rv, q⟩
    cases fl with
    | ret u =>
      obtain ⟨v, σ', H', J, rv, q⟩ := hs
      exact fin J rv q
    | next =>
      obtain ⟨σ', H', J, q⟩ := hs
      exact fin (v := V.non) (u := Value.none) J rfl q
    | brk =>
      obtain ⟨_, _, _, q⟩ := hs
      exact False.elim q
    | cont =>
      obtain ⟨_, _, _, q⟩ := hs
      exact False.elim q
/-! ### try: .. except MaieuticError as e: return _law_error(e) -/
def tryE {N B : Type} (cs : List Nat) (m : M (Out N B)) : M (Out N B) := fun s => match m s with
  | .ok o s' => .ok o s'
  | .exc c s' => if cs.contains c = true then match errT c with
    | some t => .ok (.rt (.str t)) s'
    | none => .stuck else .stuck
  | .stuck => .stuck
/-- the clause's class takes them all -/
structure ErrCls (p : Pg) (cs : List Nat) : Prop where
  g : p.mg "MaieuticError" = some (.ref (p.cA 100))
  m : ∀ c ∈ cs, PySem.W.exmOne p.K (.ref (p.cA c)) (.ref (p.cA 100)) = some true
theorem takes_len {X : Cx} {W : WX} (t : L2N.Takes X W) : L2N.Takes X fun c d _ H => ∀ σ, σ.length = X.N.length → W c d σ H := fun u s' ⟨a, B, sI, pins, σ, H, cls, d, e, I, nb, up, sky, na, os, ag, w⟩ =>
  t u s' ⟨a, B, sI, pins, σ, H, cls, d, e, I, nb, up, sky, na, os, ag, w σ I.len⟩
section
variable {X : Cx}
/-- the call, in the suite -/
theorem pe_callE {p : Pg} {cs : List Nat} {a : Addr} {oe : Obj} {c i : Nat} {t : Str} {n : Str} {q q2 cpos : Pos} (FN : ErrFn p cs) (hP : X.prog = p.P) (hw : X.w = p.w) (hK : X.K = p.K) (hmg : X.mg = p.mg) (hba : X.base = p.base) (hr : RoomH 1 X.A) (hot : Hot1 X.A (a, oe)) (hp : (a, oe) ∈ X.pn)
    (hz : Zc (.ref (p.cA c)) none oe) (hf : ∃ vs, oe.data = .fields vs) (hcs : c ∈ cs) (ht : errT c = some t) (hg : Gl X "_law_error") (hN : X.N[i]? = some n) (hv : Vis X.env.scope n) (hd : (n == ("__debug__" : Str)) = false) (hcd : (n == ("__classdict__" : Str)) = false) :
    PE X (.Call (.Name "_law_error" q) [.Name n q2] [] cpos) (fun σ H Q => σ[i]? = some (some (.ref a)) ∧ ∀ H', (∀ g, Wf p g H → Stp p g H g H') → Q (.str t) H') := by
  obtain ⟨P, w, K, mg, base, cA⟩ := p
  dsimp only at hP hw hK hmg hba
  subst hP hw hK hmg hba
  obtain ⟨f, fd, hm, kp, hb, run⟩ := FN.ex
  refine ⟨fun pins s σ H Q I ⟨hσ, h⟩ => ?_⟩
  refine wpAny_Call_Name_kw (ld_glob I hg hm ?_ (by decide))
  refine PySem.W.callWith_K (h₀ := X.base) I.ok.mod.kin kp (thn ((pa_cons (pe_var hN hv hd hcd) pa_nil).run cpos pins s σ H (fun vs H1 => vs = [V.ref a] ∧ H = H1) I ⟨_, hσ, rfl, rfl⟩) fun us s1 ⟨vs, H1, I1, r, ev, eH⟩ => ⟨I1.kIn, ?_⟩)
  subst ev
  subst eH
  have P1 := I1.pin (a, oe) (List.mem_append_left _ hp)
  have hpin : PinOk X.stack H s1 (a, oe) := ⟨P1.1, P1.2.1, fun hm => (List.mem_cons.mp (I1.stkSub a hm)).elim P1.2.2.1 P1.2.2.2.1, P1.2.2.2.2⟩
  have hl : us.length = 1 := by rw [← r.length]; rfl
  have b := hb s1 us I1.kIn (by rw [List.append_nil]; exact hl)
  rw [List.append_nil] at b
  refine wpAny_call (codeAny_mono (run X.A X.stack s1 H ⟨us, []⟩ us (a, oe) c t Q hcs ht hr hot hpin hz hf I1.env0 b r h) fun rr s' hq => ?_)
  cases rr with
  | error e =>
    obtain ⟨_, _, _, _, _, _, _, _, _, _, _, _, z⟩ := hq
    exact False.elim z
  | ok fl =>
    cases fl with
    | ret u => exact I1.after hq
    | next => exact False.elim hq
    | brk => exact False.elim hq
    | cont => exact False.elim hq
end
section
variable {S : Sta} {ρ : Ev} {pos q q2 np hpos rpos cpos : Pos} {N B J : Type} {shN : N → Ev} {shB : B → Ev} {shJ : J → Ev} {rest body : List Stmt}
theorem sb_try {cs : List Nat} {n : Str} {i : Nat} {m : M (Out J B)} {k : J → M (Out N B)} (hS : S.dfn = true) (FN : ErrFn S.pg cs) (C : ErrCls S.pg cs) (hlv : 1 ≤ S.lv) (hnd : S.N.Nodup) (hN : S.N[i]? = some n) (hln : S.sc.names.lookup n = some .local) (hgM : Glb S "MaieuticError") (hgE : Glb S "_law_error")
    (hd : (n == ("__debug__" : Str)) = false) (hcd : (n == ("__classdict__" : Str)) = false) (hb : SB S ρ body m shJ shB) (hr : ∀ j, SB S (shJ j) rest (k j) shN shB) :
    SB S ρ (.Try body [.ExceptHandler (some (.Name "MaieuticError" np)) (some n) [.Return (some (.Call (.Name "_law_error" q) [.Name n q2] [] cpos)) rpos] hpos] [] [] pos :: rest) (tryE cs m >>= seqO k) shN shB := fun Y ok => by
  have hR : PSs (S.cx Y) rest (fun Dd σ H => ∃ j, rdS S Y (shJ j) (k j) shN shB Dd σ H) := ⟨fun pins s σ H Dd I ⟨d, q⟩ => (hr d Y ok).run pins s σ H Dd I q⟩
  obtain ⟨hs, hfr⟩ := ok.stk hS
  -- the suite
  have hsu : ∀ (a : Addr) (oe : Obj) (cls : Value) (d : Option Addr) (pn : List (Addr × Obj)), L2N.Zn cls d oe → (∃ vs, oe.data = .fields vs) → PSs ((S.cx Y).suite a ((a, oe) :: pn)) [.Return (some (.Call (.Name "_law_error" q) [.Name n q2] [] cpos)) rpos]
      (fun D σ H => ∃ c t, cls = .ref (S.pg.cA c) ∧ d = none ∧ c ∈ cs ∧ errT c = some t ∧ σ[i]? = some (some (.ref a)) ∧ ∀ H', (∀ g, Wf S.pg g H → Stp S.pg g H g H') → D.rt (.str t) H') := fun a oe cls d pn hz hf => by
    refine ⟨fun pins s σ H D I ⟨c, t, ec, ed, hcs, ht, hσ, h⟩ => ?_⟩
    subst ec ed
    obtain ⟨vs, hvs⟩ := hf
    have hot : Hot1 ((S.cx Y).suite a ((a, oe) :: pn)).A (a, oe) := ⟨rfl, vs, hvs, hz.2.2 vs hvs⟩
    have hroom : RoomH 1 ((S.cx Y).suite a ((a, oe) :: pn)).A := ⟨(roomH_of (ok.room.mono hlv)).dp, (roomH_of (ok.room.mono hlv)).un⟩
    exact (pss_one (ps_ret (pe_callE (X := (S.cx Y).suite a ((a, oe) :: pn)) FN rfl rfl rfl rfl rfl hroom hot List.mem_cons_self hz.zc ⟨vs, hvs⟩ hcs ht hgE hN (.inl hln) hd hcd))).run pins s σ H D I ⟨hσ, h⟩
  -- the body
  have hB : ∀ (W : WX) (pn : List (Addr × Obj)) (xe : Value → Shared → Prop), L2N.Takes ((S.cx Y).tr pn xe) W → PassesOwn (model (S.cx Y).prog (S.cx Y).w) (S.cx Y).A (S.cx Y).env xe → PSs ((S.cx Y).tr pn xe) body
      (rdS S { Y with W := fun c d H => ∀ σ, σ.length = S.N.length → W c d σ H } ρ m shJ shB) := fun W pn xe tk po =>
    hb { Y with pn := pn, xe := xe, W := fun c d H => ∀ σ, σ.length = S.N.length → W c d σ H } ⟨ok.room, po, takes_len tk, fun _ => ⟨hs, hfr⟩, ok.gd⟩
  refine (pss_cons (L2N.ps_try_as (X := S.cx Y) (c := .ref (S.pg.cA 100)) hs hfr hnd hN hln ⟨hgM, by decide, .inl C.g⟩ ok.takes hB hsu) hR).pre fun Dd σ H ⟨F, g, E, q⟩ => ?_
  refine ⟨F, g, E, ?_⟩
  have q := post_bind q
  unfold tryE at q
  cases e : m g.st with
  | stuck => rw [e] at q; exact q
  | ok o st' =>
    rw [e] at q
    have q : (seqO k o st').Post (PoO S.pg F g shN shB Dd) (PxO S Y F) := q
    cases o with
    | nx j => exact fun σ2 g2 H2 e l E2 => ⟨j, F, g2, E2, by rw [e]; exact q.imp (fun _ _ q => q.back l) fun _ _ q => q⟩
    | rt d => exact q
    | bk b => exact q
    | ct b => exact q
  | exc c st' =>
    rw [e] at q
    by_cases z : cs.contains c = true
    · simp only [if_pos z] at q
      have hcs : c ∈ cs := List.contains_iff_mem.mp z
      cases ht : errT c with
      | none => rw [ht] at q; exact False.elim q
      | some t =>
        rw [ht] at q
        have q : ((seqO k (.rt (.str t)) : M (Out N B)) st').Post (PoO S.pg F g shN shB Dd) (PxO S Y F) := q
        intro g' H' es s σ' hσ'
        refine ⟨true, C.m c hcs, fun _ a ha => ⟨c, t, rfl, rfl, hcs, ht, ?_, fun H2 h2 => ?_⟩, fun z => Bool.noConfusion z⟩
        · exact List.getElem?_set_self (by rw [hσ']; exact (List.getElem?_eq_some_iff.mp hN).1)
        · exact (post_pure q) (.str t) g' H2 es (s.trans E.fw (h2 g' s.wf)) (.str t)
    · simp only [if_neg z] at q
      exact False.elim q
end
end DL
set_option maxHeartbeats 1000000
namespace DL
open PySem PySem.Spec PyProof.Rows L2
/-! ### comprehensions with two clauses -/
def compMM (f : D → M (List D)) : List D → M (List D)
  | [] => pure []
  | x :: r => noexc (f x) >>= fun o => compMM f r >>= fun t => pure (o ++ t)
theorem compMM_noexc (f : D → M (List D)) : ∀ (xs : List D) (s : Store) (c : Nat) (s' : Store), compMM f xs s ≠ .exc c s'
  | [], s, c, s', h => by cases h
  | x :: r, s, c, s', h => by
    unfold compMM at h
    rw [bind_run] at h
    unfold noexc at h
    cases e : f x s with
    | exc c t => rw [e] at h; cases h
    | stuck => rw [e] at h; cases h
    | ok o t =>
      rw [e] at h
      have h : (compMM f r >>= fun t => pure (o ++ t)) t = .exc c s' := h
      rw [bind_run] at h
      cases e2 : compMM f r t with
      | exc c t2 => exact compMM_noexc f r _ _ _ e2
      | stuck => rw [e2] at h; cases h
      | ok o t2 => rw [e2] at h; cases h
/-- one item's step -/
def stepM (u : D → M (List D)) (mt : List D → M Bool) (me : List D → M D) : D → M (Option D) := fun x => u x >>= fun ds => mt ds >>= fun b => if b = true then me ds >>= fun d => pure (some d) else pure none
/-- an outer item's step -/
def stepMM (u : D → M (List D)) (mt : List D → M Bool) (mi : List D → M (List D)) (u1 : D → M (List D)) (mt1 : List D → List D → M Bool) (me : List D → List D → M D) : D → M (List D) := fun x =>
  u x >>= fun ds => mt ds >>= fun b => if b = true then mi ds >>= fun ys => compM (stepM u1 (mt1 ds) (me ds)) ys else pure []
def lc2M (mi : M (List D)) (u : D → M (List D)) (mt : List D → M Bool) (mi1 : List D → M (List D)) (u1 : D → M (List D)) (mt1 : List D → List D → M Bool) (me : List D → List D → M D) : M D :=
  mi >>= fun xs => compMM (stepMM u mt mi1 u1 mt1 me) xs >>= mkL
theorem lc2M_nodict (mi : M (List D)) (u : D → M (List D)) (mt : List D → M Bool) (mi1 : List D → M (List D)) (u1 : D → M (List D)) (mt1 : List D → List D → M Bool) (me : List D → List D → M D) : NoDict (lc2M mi u mt mi1 u1 mt1 me) := by
  unfold lc2M
  exact .bind fun xs => .bind mkL_nodict
section
variable {S : Sta} {ρ : Ev} {a b c tg it tg1 it1 e elt : Expr} {mi : M (List D)} {pos p : Pos}
/-- the place of the new list, later -/
structure AtL (p : Pg) (g1 : Gs) (H1 : Hp) (A : Addr) (g2 : Gs) (H2 : Hp) (acc : List D) : Prop where
  st : Stp p g1 H1 g2 H2
  at_ : ∃ vs, H2 A = some (.lst vs) ∧ p.Rps g2 vs acc
  fG : g2.G A = none
  fA : A ∉ g2.am
theorem AtL.step {p : Pg} {g1 g2 g3 : Gs} {H1 H2 H3 : Hp} {A : Addr} {acc : List D} (w : Wf p g1 H1) (h : AtL p g1 H1 A g2 H2 acc) (s : Stp p g2 H2 g3 H3) : AtL p g1 H1 A g3 H3 acc := by
  obtain ⟨st, ⟨vs, hD, rv⟩, hG, ha⟩ := h
  refine ⟨st.trans w s, ⟨vs, s.keep A _ hD ha, rv.mono s.gle s.aml⟩, ?_, fun h => ?_⟩
  · cases z : g3.G A with
    | none => rfl
    | some o =>
      rcases s.gnew A o z with y | y | ⟨ys, y⟩
      · rw [hG] at y; cases y
      · rw [hD] at y; cases y
      · rw [hD] at y; cases y
  · rcases s.amn A h with y | y
    · exact ha y
    · rw [hD] at y; cases y
theorem AtL.app {p : Pg} {g1 g2 : Gs} {H1 H2 : Hp} {A : Addr} {acc : List D} (hA : H1 A = none) (h : AtL p g1 H1 A g2 H2 acc) {v : V} {d : D} (r : p.Rp g2 v d) :
    ∃ vs, H2 A = some (.lst vs) ∧ vs.length = acc.length ∧ AtL p g1 H1 A g2 (upd H2 A (.lst (vs ++ [v]))) (acc ++ [d]) := by
  obtain ⟨st, ⟨vs, hD, rv⟩, hG, ha⟩ := h
  exact ⟨vs, hD, rv.length, upd_new st hA hG ha ⟨vs, hD⟩, ⟨_, upd_same, rv.append (.cons r .nil)⟩, hG, ha⟩
theorem mkL_len {ds : List D} {s : Store} {ok : D → Store → Prop} {ex : Nat → Store → Prop} (q : (mkL ds s).Post ok ex) : ds.length ≤ sizeLine := by
  unfold mkL at q
  by_cases z : ds.length ≤ sizeLine
  · exact z
  · rw [if_neg z] at q; exact False.elim q
theorem lc2_read {own : List (Str × Nat)} {u u1 : D → M (List D)} {ix ix1 : List Nat} {mt : List D → M Bool} {mi1 : List D → M (List D)} {mt1 : List D → List D → M Bool} {me : List D → List D → M D} {tt tt1 : TT} {te : TE} {tgt tgt1 : L2.TG} {wi1 : TI}
    (pu : Pure1 u) (hlen : Len1 u ix.length) (hix : ∀ i ∈ ix, i ∈ own.map (·.2)) (pu1 : Pure1 u1) (hlen1 : Len1 u1 ix1.length) {Y : Dyn} (ok : OkY S Y)
    {σ : L2.St} {H : Hp} {Q : VK} (q : rdX S Y ρ (RN S.pg) (lc2M mi u mt mi1 u1 mt1 me) σ H Q)
    (hg : ∀ v σ H Q, (∃ g d, Wf S.pg g H ∧ S.pg.Rp g v d ∧ (u d g.st).Post (fun ds st' => st' = g.st → ∀ ws, S.pg.Rps g ws ds → Q (setS σ ix ws) H) fun _ _ => False) → tgt v σ H Q)
    (hg1 : ∀ v σ H Q, (∃ g d, Wf S.pg g H ∧ S.pg.Rp g v d ∧ (u1 d g.st).Post (fun ds st' => st' = g.st → ∀ ws, S.pg.Rps g ws ds → Q (setS σ ix1 ws) H) fun _ _ => False) → tgt1 v σ H Q)
    (ht : ∀ ds σ H Q, ds.length = ix.length → (∃ F g, ER S.pg F (setE (wipeE ρ (own.map (·.2))) ix ds) σ g H ∧ (mt ds g.st).Post (fun b st' => ∀ g' H', g'.st = st' → Stp S.pg g H g' H' → Q b H') fun _ _ => False) → tt σ H Q)
    (hi1 : ∀ ds σ H R, ds.length = ix.length → (∃ F g, ER S.pg F (setE (wipeE ρ (own.map (·.2))) ix ds) σ g H ∧ (mi1 ds g.st).Post (fun ys st' => ∀ J g' H', g'.st = st' → Stp S.pg g H g' H' → Wk S.pg (TL S.pg g' H') J ys → R J H') fun _ _ => False) → wi1 σ H R)
    (ht1 : ∀ ds es σ H Q, ds.length = ix.length → es.length = ix1.length → (∃ F g, ER S.pg F (setE (wipeE (setE (wipeE ρ (own.map (·.2))) ix ds) ix1) ix1 es) σ g H ∧ (mt1 ds es g.st).Post (fun b st' => ∀ g' H', g'.st = st' → Stp S.pg g H g' H' → Q b H') fun _ _ => False) → tt1 σ H Q)
    (he : ∀ ds es σ H Q, ds.length = ix.length → es.length = ix1.length → (∃ F g, ER S.pg F (setE (wipeE (setE (wipeE ρ (own.map (·.2))) ix ds) ix1) ix1 es) σ g H ∧ (me ds es g.st).Post (Pv S.pg (RE S.pg) g H Q) fun _ _ => False) → te σ H Q) :
    tLc2 (rdI S Y ρ (TS' S.pg) mi) tgt tt wi1 tgt1 tt1 te (own.map (·.2)) ix1 σ H Q := by
  obtain ⟨F, g, E, q⟩ := q
  refine ⟨F, g, E, (post_bind q).imp (fun xs st' q J g1 H1 e1 s1 wk A hA => ?_) fun _ _ q => q⟩
  subst e1
  generalize hf : stepMM u mt mi1 u1 mt1 me = f at q
  refine ⟨fun i m H2 => i ≤ xs.length ∧ m = xs.length - i ∧ ∃ g2 acc, AtL S.pg g1 H1 A g2 H2 acc ∧ ((compMM f (xs.drop i) >>= fun r => mkL (acc ++ r)) g2.st).Post (Pv S.pg (RN S.pg) g H Q) (Px S Y g H),
    ⟨xs.length, Nat.zero_le _, rfl, g1, [], ⟨Stp.laid s1.wf hA, ⟨[], upd_same, .nil⟩, s1.wf.freeG hA, s1.wf.freeA hA⟩, q⟩, ?_⟩
  rintro i m H2 ⟨hi, rfl, g2, acc, A2, q⟩
  have sg2 := s1.trans E.wf A2.st
  by_cases hlt : i < xs.length
  · refine .inr ⟨wk.goes i g2 H2 hlt A2.st.wf A2.st, fun H' => i + 1 ≤ xs.length ∧ ∃ g2 acc, AtL S.pg g1 H1 A g2 H' acc ∧ ((compMM f (xs.drop (i + 1)) >>= fun r => mkL (acc ++ r)) g2.st).Post (Pv S.pg (RN S.pg) g H Q) (Px S Y g H),
      fun H' h => ⟨xs.length - (i + 1), by omega, h.1, rfl, h.2⟩, fun x H' hy => ?_⟩
    obtain ⟨g3, d, e3, s3, hd, rx⟩ := wk.yields i g2 H2 x H' hlt A2.st.wf A2.st hy
    have A3 := A2.step s1.wf s3
    have ed : xs.drop i = d :: xs.drop (i + 1) := by
      rw [List.drop_eq_getElem_cons hlt]
      rw [List.getElem?_eq_getElem hlt] at hd
      cases hd; rfl
    rw [ed, compMM, bind_assoc'] at q
    have q := noexc_post q
    have hfd : f d = (u d >>= fun ds => mt ds >>= fun b => if b = true then mi1 ds >>= fun ys => compM (stepM u1 (mt1 ds) (me ds)) ys else pure []) := by rw [← hf]; rfl
    rw [← e3, hfd] at q
    refine hg x _ H' _ ⟨g3, d, s3.wf, rx, ?_⟩
    have q := post_bind q
    cases eu : u d g3.st with
    | stuck => rw [eu] at q; exact q
    | exc c s => rw [eu] at q; exact q
    | ok ds st4 =>
      rw [eu] at q
      intro es ws rws
      subst es
      have hl := hlen _ _ _ _ eu
      refine ⟨wipe_setS σ _ _ ws hix, ?_⟩
      have sg3 := s1.trans E.wf A3.st
      have E4 : ER S.pg F (setE (wipeE ρ (own.map (·.2))) ix ds) (setS (L2.wipe σ (own.map (·.2))) ix ws) g3 H' := ((E.step sg3).wipe (own.map (·.2))).setMany ix rws
      refine ht ds _ _ _ hl ⟨F, g3, E4, (post_bind q).imp (fun b st5 q g5 H5 e5 s5 => ?_) fun _ _ q => q⟩
      subst e5
      have A5 := A3.step s1.wf s5
      by_cases hb : b = true
      · rw [if_pos hb]
        rw [if_pos hb] at q
        refine hi1 ds _ _ _ hl ⟨F, g5, E4.step s5, (post_bind q).imp (fun ys st6 q J1 g6 H6 e6 s6 wk1 => ?_) fun _ _ q => q⟩
        subst e6
        have A6 := A5.step s1.wf s6
        -- the inner loop
        have q : ((compM (stepM u1 (mt1 ds) (me ds)) ys >>= fun o => compMM f (xs.drop (i + 1)) >>= fun t => mkL (acc ++ (o ++ t))) g6.st).Post (Pv S.pg (RN S.pg) g H Q) (Px S Y g H) := by
          rw [bind_run]
          cases ec : compM (stepM u1 (mt1 ds) (me ds)) ys g6.st with
          | stuck => rw [ec] at q; exact q
          | exc c s => rw [ec] at q; exact q.elim
          | ok o s =>
            rw [ec] at q
            have q : (((compMM f (xs.drop (i + 1)) >>= fun t => pure (o ++ t)) >>= fun r => mkL (acc ++ r)) s).Post (Pv S.pg (RN S.pg) g H Q) (Px S Y g H) := q
            rw [bind_assoc'] at q
            exact q
        refine ⟨fun j k H7 => j ≤ ys.length ∧ k = ys.length - j ∧ ∃ g7 acc, AtL S.pg g1 H1 A g7 H7 acc ∧ Ltr S.pg g6 g7 ∧ ((compM (stepM u1 (mt1 ds) (me ds)) (ys.drop j) >>= fun o => compMM f (xs.drop (i + 1)) >>= fun t => mkL (acc ++ (o ++ t))) g7.st).Post (Pv S.pg (RN S.pg) g H Q) (Px S Y g H),
          ⟨ys.length, Nat.zero_le _, rfl, g6, acc, A6, .refl g6, q⟩, ?_⟩
        rintro j k H7 ⟨hj, rfl, g7, acc, A7, l7, q⟩
        by_cases hlt1 : j < ys.length
        · refine .inr ⟨wk1.goes j g7 H7 hlt1 A7.st.wf l7, fun H' => j + 1 ≤ ys.length ∧ ∃ g7 acc, AtL S.pg g1 H1 A g7 H' acc ∧ Ltr S.pg g6 g7 ∧ ((compM (stepM u1 (mt1 ds) (me ds)) (ys.drop (j + 1)) >>= fun o => compMM f (xs.drop (i + 1)) >>= fun t => mkL (acc ++ (o ++ t))) g7.st).Post (Pv S.pg (RN S.pg) g H Q) (Px S Y g H),
            fun H' h => ⟨ys.length - (j + 1), by omega, h.1, rfl, h.2⟩, fun x1 H8 hy1 => ?_⟩
          obtain ⟨g8, d1, e8, s8, hd1, rx1⟩ := wk1.yields j g7 H7 x1 H8 hlt1 A7.st.wf l7 hy1
          have A8 := A7.step s1.wf s8
          have l8 := l7.trans s8.ltr
          have ed1 : ys.drop j = d1 :: ys.drop (j + 1) := by
            rw [List.drop_eq_getElem_cons hlt1]
            rw [List.getElem?_eq_getElem hlt1] at hd1
            cases hd1; rfl
          rw [ed1, compM, bind_assoc'] at q
          have q := noexc_post q
          have hsd : stepM u1 (mt1 ds) (me ds) d1 = (u1 d1 >>= fun es => mt1 ds es >>= fun b => if b = true then me ds es >>= fun d => pure (some d) else pure none) := rfl
          rw [← e8, hsd] at q
          refine hg1 x1 _ H8 _ ⟨g8, d1, s8.wf, rx1, ?_⟩
          have q := post_bind q
          cases eu1 : u1 d1 g8.st with
          | stuck => rw [eu1] at q; exact q
          | exc c s => rw [eu1] at q; exact q
          | ok es1 st9 =>
            rw [eu1] at q
            intro e9 ws1 rws1
            subst e9
            have hl1 := hlen1 _ _ _ _ eu1
            refine ⟨wipe_setS _ _ _ ws1 (fun i h => h), ?_⟩
            have sg8 := s1.trans E.wf A8.st
            have l38 : Ltr S.pg g3 g8 := (s5.ltr.trans s6.ltr).trans l8
            have E9 : ER S.pg F (setE (wipeE (setE (wipeE ρ (own.map (·.2))) ix ds) ix1) ix1 es1) (setS (L2.wipe (setS (L2.wipe σ (own.map (·.2))) ix ws) ix1) ix1 ws1) g8 H8 :=
              ((((E.step sg8).wipe (own.map (·.2))).setMany ix (rws.mono l38.gle l38.aml)).wipe ix1).setMany ix1 rws1
            refine ht1 ds es1 _ _ _ hl hl1 ⟨F, g8, E9, (post_bind q).imp (fun b1 st10 q g10 H10 e10 s10 => ?_) fun _ _ q => q⟩
            subst e10
            have A10 := A8.step s1.wf s10
            by_cases hb1 : b1 = true
            · rw [if_pos hb1]
              rw [if_pos hb1] at q
              refine he ds es1 _ _ _ hl hl1 ⟨F, g10, E9.step s10, (post_bind q).imp (fun y st11 q v11 g11 H11 e11 s11 r11 => ?_) fun _ _ q => q⟩
              subst e11
              have A11 := A10.step s1.wf s11
              have q := post_pure q
              obtain ⟨vs, hvs, hvl, A12⟩ := A11.app hA r11
              have q : ((compM (stepM u1 (mt1 ds) (me ds)) (ys.drop (j + 1)) >>= fun o => compMM f (xs.drop (i + 1)) >>= fun t => mkL (acc ++ (y :: o ++ t))) g11.st).Post (Pv S.pg (RN S.pg) g H Q) (Px S Y g H) := by
                rw [bind_assoc'] at q
                exact q
              refine ⟨vs, hvs, ?_, hlt1, g11, acc ++ [y], A12, (l8.trans s10.ltr).trans s11.ltr, ?_⟩
              · rw [hvl]
                rw [bind_run] at q
                cases er : compM (stepM u1 (mt1 ds) (me ds)) (ys.drop (j + 1)) g11.st with
                | stuck => rw [er] at q; exact q.elim
                | exc c s => exact (compM_noexc _ _ _ _ _ er).elim
                | ok t s =>
                  rw [er] at q
                  have q : ((compMM f (xs.drop (i + 1)) >>= fun t_1 => mkL (acc ++ (y :: t ++ t_1))) s).Post _ _ := q
                  rw [bind_run] at q
                  cases er2 : compMM f (xs.drop (i + 1)) s with
                  | stuck => rw [er2] at q; exact q.elim
                  | exc c s => exact (compMM_noexc _ _ _ _ _ er2).elim
                  | ok t2 s2 =>
                    rw [er2] at q
                    have z := mkL_len q
                    rw [List.length_append, List.cons_append, List.length_cons] at z
                    omega
              · have fe : (fun o : List D => compMM f (xs.drop (i + 1)) >>= fun t => mkL (acc ++ (y :: o ++ t))) = fun o => compMM f (xs.drop (i + 1)) >>= fun t => mkL (acc ++ [y] ++ (o ++ t)) := by
                  funext o
                  congr 1
                  funext t
                  rw [List.append_assoc]
                  rfl
                rw [fe] at q
                exact q
            · rw [if_neg hb1]
              rw [if_neg hb1] at q
              have q := post_pure q
              rw [bind_assoc'] at q
              exact ⟨hlt1, g10, acc, A10, l8.trans s10.ltr, q⟩
        · have ej : j = ys.length := by omega
          subst ej
          rw [List.drop_length, compM] at q
          exact .inl ⟨wk1.stops g7 H7 A7.st.wf l7, hlt, g7, acc, A7, q⟩
      · rw [if_neg hb]
        rw [if_neg hb] at q
        have q := post_pure q
        rw [bind_assoc'] at q
        exact ⟨hlt, g5, acc, A5, q⟩
  · have ei : i = xs.length := by omega
    subst ei
    rw [List.drop_length, compMM] at q
    have q : (mkL (acc ++ []) g2.st).Post (Pv S.pg (RN S.pg) g H Q) (Px S Y g H) := q
    rw [List.append_nil] at q
    unfold mkL at q
    by_cases z : acc.length ≤ sizeLine
    · rw [if_pos z] at q
      obtain ⟨vs, hD, rv⟩ := A2.at_
      exact .inl ⟨wk.stops g2 H2 A2.st.wf A2.st, (post_pure q) (.ref A) g2 H2 rfl sg2 ⟨A, rfl, ⟨vs, hD, rv⟩, A2.fG, A2.fA, s1.none_of E.wf hA⟩⟩
    · rw [if_neg z] at q
      exact False.elim q
theorem comp2 {ifs ifs1 : List Expr} {scope : Scope} {own : List (Str × Nat)} {u u1 : D → M (List D)} {ix ix1 : List Nat} {mt : List D → M Bool} {mi1 : List D → M (List D)} {mt1 : List D → List D → M Bool} {me : List D → List D → M D}
    (hN : S.N.Nodup) (hok : BlkOk S.N S.sc scope own) (hi : EI S ρ (TS' S.pg) tg it mi) (hg : TG (S.blk scope) tg u ix) (pu : Pure1 u) (hlen : Len1 u ix.length) (hix : ∀ i ∈ ix, i ∈ own.map (·.2))
    (ht : ∀ ds, ds.length = ix.length → ETs (S.blk scope) (setE (wipeE ρ (own.map (·.2))) ix ds) ifs (mt ds))
    (hi1 : ∀ ds, ds.length = ix.length → EI (S.blk scope) (setE (wipeE ρ (own.map (·.2))) ix ds) (TL S.pg) tg1 it1 (mi1 ds)) (hg1 : TG (S.blk scope) tg1 u1 ix1) (pu1 : Pure1 u1) (hlen1 : Len1 u1 ix1.length) (hix1 : ∀ i ∈ ix1, i ∈ own.map (·.2))
    (ht1 : ∀ ds, ds.length = ix.length → ∀ es, es.length = ix1.length → ETs (S.blk scope) (setE (wipeE (setE (wipeE ρ (own.map (·.2))) ix ds) ix1) ix1 es) ifs1 (mt1 ds es))
    (he : ∀ ds, ds.length = ix.length → ∀ es, es.length = ix1.length → EE (S.blk scope) (setE (wipeE (setE (wipeE ρ (own.map (·.2))) ix ds) ix1) ix1 es) elt (me ds es))
    (hs : ∀ (env : Env) (x : Value), foldedSetIterable it env x = pure x) (hs1 : ∀ (env : Env) (x : Value), foldedSetIterable it1 env x = pure x) :
    CompE S ρ (.ListComp elt [⟨tg, it, ifs, 0⟩, ⟨tg1, it1, ifs1, 0⟩] scope pos) (lc2M mi u mt mi1 u1 mt1 me) := by
  have hT : ∀ Y, OkY S Y → ∀ (s : Shared) (H : Hp) (C : Addr) (cl : List (Str × Addr)) (fp : List Addr), PTs ((S.cx Y).blk s H scope (compEnvC scope cl C (S.cx Y).env) fp) ifs
      (fun σ H Q => ∃ ds, ds.length = ix.length ∧ ∃ F g, ER S.pg F (setE (wipeE ρ (own.map (·.2))) ix ds) σ g H ∧ (mt ds g.st).Post (fun b st' => ∀ g' H', g'.st = st' → Stp S.pg g H g' H' → Q b H') fun _ _ => False) := fun Y ok s H C cl fp =>
    ⟨fun pins s2 σ H2 Q I ⟨ds, hl, F, g, E, q⟩ => (ht ds hl (Y.blk S s H scope C cl fp) (blk_ok ok)).run pins s2 σ H2 Q I ⟨F, g, E, q.imp (fun _ _ q => q) fun _ _ q => q.elim⟩⟩
  have hI1 : ∀ Y, OkY S Y → ∀ (s : Shared) (H : Hp) (C : Addr) (cl : List (Str × Addr)) (fp : List Addr), PI ((S.cx Y).blk s H scope (compEnvC scope cl C (S.cx Y).env) fp) tg1 it1
      (fun σ H R => ∃ ds, ds.length = ix.length ∧ ∃ F g, ER S.pg F (setE (wipeE ρ (own.map (·.2))) ix ds) σ g H ∧ (mi1 ds g.st).Post (fun ys st' => ∀ J g' H', g'.st = st' → Stp S.pg g H g' H' → Wk S.pg (TL S.pg g' H') J ys → R J H') fun _ _ => False) := fun Y ok s H C cl fp =>
    ⟨fun pins s2 σ H2 R I ⟨ds, hl, F, g, E, q⟩ => (hi1 ds hl (Y.blk S s H scope C cl fp) (blk_ok ok)).run pins s2 σ H2 R I ⟨F, g, E, q.imp (fun _ _ q => q) fun _ _ q => q.elim⟩⟩
  have hT1 : ∀ Y, OkY S Y → ∀ (s : Shared) (H : Hp) (C : Addr) (cl : List (Str × Addr)) (fp : List Addr), PTs ((S.cx Y).blk s H scope (compEnvC scope cl C (S.cx Y).env) fp) ifs1
      (fun σ H Q => ∃ ds es, ds.length = ix.length ∧ es.length = ix1.length ∧ ∃ F g, ER S.pg F (setE (wipeE (setE (wipeE ρ (own.map (·.2))) ix ds) ix1) ix1 es) σ g H ∧ (mt1 ds es g.st).Post (fun b st' => ∀ g' H', g'.st = st' → Stp S.pg g H g' H' → Q b H') fun _ _ => False) := fun Y ok s H C cl fp =>
    ⟨fun pins s2 σ H2 Q I ⟨ds, es, hl, hl1, F, g, E, q⟩ => (ht1 ds hl es hl1 (Y.blk S s H scope C cl fp) (blk_ok ok)).run pins s2 σ H2 Q I ⟨F, g, E, q.imp (fun _ _ q => q) fun _ _ q => q.elim⟩⟩
  have hE : ∀ Y, OkY S Y → ∀ (s : Shared) (H : Hp) (C : Addr) (cl : List (Str × Addr)) (fp : List Addr), PE ((S.cx Y).blk s H scope (compEnvC scope cl C (S.cx Y).env) fp) elt
      (fun σ H Q => ∃ ds es, ds.length = ix.length ∧ es.length = ix1.length ∧ ∃ F g, ER S.pg F (setE (wipeE (setE (wipeE ρ (own.map (·.2))) ix ds) ix1) ix1 es) σ g H ∧ (me ds es g.st).Post (Pv S.pg (RE S.pg) g H Q) fun _ _ => False) := fun Y ok s H C cl fp =>
    ⟨fun pins s2 σ H2 Q I ⟨ds, es, hl, hl1, F, g, E, q⟩ => (he ds hl es hl1 (Y.blk S s H scope C cl fp) (blk_ok ok)).run pins s2 σ H2 Q I ⟨F, g, E, q.imp (fun _ _ q => q) fun _ _ q => q.elim⟩⟩
  refine ⟨fun Y => tLc2 (rdI S Y ρ (TS' S.pg) mi) _ _ _ _ _ _ (own.map (·.2)) ix1, fun Y ok => pe_lc2 (X := S.cx Y) rfl hN (hi Y ok) hok hix1 (fun s H C cl fp => hg (Y.blk S s H scope C cl fp) (blk_ok ok)) (hT Y ok) (hI1 Y ok) (fun s H C cl fp => hg1 (Y.blk S s H scope C cl fp) (blk_ok ok)) (hT1 Y ok) (hE Y ok) (hs _) hs1, fun Y ok σ H Q q => ?_, fun Y ok i y py spos hy hyl hsw => ?_⟩
  · exact lc2_read pu hlen hix pu1 hlen1 ok q (fun v σ H Q h => h) (fun v σ H Q h => h) (fun ds σ H Q hl h => ⟨ds, hl, h⟩) (fun ds σ H R hl h => ⟨ds, hl, h⟩) (fun ds es σ H Q hl hl1 h => ⟨ds, es, hl, hl1, h⟩) fun ds es σ H Q hl hl1 h => ⟨ds, es, hl, hl1, h⟩
  · exact ps_setLc2 (X := S.cx Y) rfl hN hy hyl (hsw _ rfl) (hi Y ok) hok hix1 (fun s H C cl fp => hg (Y.blk S s H scope C cl fp) (blk_ok ok)) (hT Y ok) (hI1 Y ok) (fun s H C cl fp => hg1 (Y.blk S s H scope C cl fp) (blk_ok ok)) (hT1 Y ok) (hE Y ok) (hs _) hs1
theorem c_lc2 {ifs ifs1 : List Expr} {scope : Scope} {u u1 : D → M (List D)} {ix ix1 : List Nat} {mt : List D → M Bool} {mi1 : List D → M (List D)} {mt1 : List D → List D → M Bool} {me : List D → List D → M D}
    (hN : S.N.Nodup) (own' : List (Str × Nat)) (hi : EI S ρ (TS' S.pg) tg it mi) (hg : TG (S.blk scope) tg u ix) (pu : Pure1 u) (hlen : Len1 u ix.length)
    (ht : ∀ ds, ds.length = ix.length → ETs (S.blk scope) (setE (wipeE ρ (own'.map (·.2))) ix ds) ifs (mt ds))
    (hi1 : ∀ ds, ds.length = ix.length → EI (S.blk scope) (setE (wipeE ρ (own'.map (·.2))) ix ds) (TL S.pg) tg1 it1 (mi1 ds)) (hg1 : TG (S.blk scope) tg1 u1 ix1) (pu1 : Pure1 u1) (hlen1 : Len1 u1 ix1.length)
    (ht1 : ∀ ds, ds.length = ix.length → ∀ es, es.length = ix1.length → ETs (S.blk scope) (setE (wipeE (setE (wipeE ρ (own'.map (·.2))) ix ds) ix1) ix1 es) ifs1 (mt1 ds es))
    (he : ∀ ds, ds.length = ix.length → ∀ es, es.length = ix1.length → EE (S.blk scope) (setE (wipeE (setE (wipeE ρ (own'.map (·.2))) ix ds) ix1) ix1 es) elt (me ds es))
    (hok : blkC S.N S.sc scope own' = true := by kernel_rfl) (hix : ∀ i ∈ ix, i ∈ own'.map (·.2) := by decide) (hix1 : ∀ i ∈ ix1, i ∈ own'.map (·.2) := by decide)
    (hs : ∀ (env : Env) (x : Value), foldedSetIterable it env x = pure x := by exact fun _ _ => rfl) (hs1 : ∀ (env : Env) (x : Value), foldedSetIterable it1 env x = pure x := by exact fun _ _ => rfl) :
    CompE S ρ (.ListComp elt [⟨tg, it, ifs, 0⟩, ⟨tg1, it1, ifs1, 0⟩] scope pos) (lc2M mi u mt mi1 u1 mt1 me) := comp2 hN (blkOk_by hok) hi hg pu hlen hix ht hi1 hg1 pu1 hlen1 hix1 ht1 he hs hs1
end
end DL
set_option maxHeartbeats 1000000
namespace DL
open PySem PySem.Spec PyProof.Rows L2
/-! ### dicts -/
section
variable {κ : Type} [DecidableEq κ]
def getE (es : List (κ × D)) (k : κ) : Option D := (es.find? fun e => decide (e.1 = k)).map (·.2)
def putE (es : List (κ × D)) (k : κ) (d : D) : List (κ × D) :=
  if (es.any fun e => decide (e.1 = k)) = true then es.map (fun e => if e.1 = k then (e.1, d) else e) else es ++ [(k, d)]
end
def keyD : D → Option Key
  | .int i => some (.inl i)
  | .str x => some (.inr x)
  | _ => none
def keysD : List D → Option (List Key)
  | [] => some []
  | d :: r => match keyD d, keysD r with
    | some k, some ks => some (k :: ks)
    | _, _ => none
section
variable {p : Pg} {g : Gs} {H : Hp}
theorem RpK.get (k : Key) : ∀ {kvs : List (Key × V)} {es : List (Key × D)}, RpK p.K g.G g.am kvs es → (∀ d, getE es k = some d → ∃ v, valV kvs k = some v ∧ p.Rp g v d) ∧ (getE es k = none → valV kvs k = none)
  | _, _, .nil => by
    constructor
    · intro d h; cases h
    · intro _; rfl
  | (k', v) :: kvs, (_, d) :: es, .cons r t => by
    obtain ⟨h1, h2⟩ := RpK.get k t
    by_cases z : k' = k
    · have e1 : getE ((k', d) :: es) k = some d := by simp [getE, List.find?_cons, z]
      have e2 : valV ((k', v) :: kvs) k = some v := by simp [valV, List.find?_cons, z]
      rw [e1, e2]
      exact ⟨fun d' h => by cases h; exact ⟨v, rfl, r⟩, fun h => by cases h⟩
    · have e1 : getE ((k', d) :: es) k = getE es k := by simp [getE, List.find?_cons, z]
      have e2 : valV ((k', v) :: kvs) k = valV kvs k := by simp [valV, List.find?_cons, z]
      rw [e1, e2]
      exact ⟨h1, h2⟩
theorem RpT.get (k : List Key) : ∀ {kvs : List (List Key × V)} {es : List (List Key × D)}, RpT p.K g.G g.am kvs es → (∀ d, getE es k = some d → ∃ v, valV kvs k = some v ∧ p.Rp g v d) ∧ (getE es k = none → valV kvs k = none)
  | _, _, .nil => by
    constructor
    · intro d h; cases h
    · intro _; rfl
  | (k', v) :: kvs, (_, d) :: es, .cons r t => by
    obtain ⟨h1, h2⟩ := RpT.get k t
    by_cases z : k' = k
    · have e1 : getE ((k', d) :: es) k = some d := by simp [getE, List.find?_cons, z]
      have e2 : valV ((k', v) :: kvs) k = some v := by simp [valV, List.find?_cons, z]
      rw [e1, e2]
      exact ⟨fun d' h => by cases h; exact ⟨v, rfl, r⟩, fun h => by cases h⟩
    · have e1 : getE ((k', d) :: es) k = getE es k := by simp [getE, List.find?_cons, z]
      have e2 : valV ((k', v) :: kvs) k = valV kvs k := by simp [valV, List.find?_cons, z]
      rw [e1, e2]
      exact ⟨h1, h2⟩
theorem RpK.keys : ∀ {kvs : List (Key × V)} {es : List (Key × D)}, RpK p.K g.G g.am kvs es → kvs.map (·.1) = es.map (·.1)
  | _, _, .nil => rfl
  | _, _, .cons r t => by rw [List.map_cons, List.map_cons, RpK.keys t]
theorem RpT.keys : ∀ {kvs : List (List Key × V)} {es : List (List Key × D)}, RpT p.K g.G g.am kvs es → kvs.map (·.1) = es.map (·.1)
  | _, _, .nil => rfl
  | _, _, .cons r t => by rw [List.map_cons, List.map_cons, RpT.keys t]
theorem any_keys {κ α : Type} [DecidableEq κ] (k : κ) (l : List (κ × α)) : (l.any fun e => decide (e.1 = k)) = (l.map (·.1)).any fun x => decide (x = k) := by
  rw [List.any_map]; rfl
theorem RpK.map {k : Key} {v : V} {d : D} (r : p.Rp g v d) : ∀ {kvs : List (Key × V)} {es : List (Key × D)}, RpK p.K g.G g.am kvs es → RpK p.K g.G g.am (kvs.map fun kv => if kv.1 = k then (kv.1, v) else kv) (es.map fun e => if e.1 = k then (e.1, d) else e)
  | _, _, .nil => .nil
  | (k', u) :: kvs, (_, e) :: es, .cons q t => by
    rw [List.map_cons, List.map_cons]
    by_cases z : k' = k
    · simp only [z, if_true]
      exact .cons r (RpK.map r t)
    · simp only [if_neg z]
      exact .cons q (RpK.map r t)
theorem RpT.map {k : List Key} {v : V} {d : D} (r : p.Rp g v d) : ∀ {kvs : List (List Key × V)} {es : List (List Key × D)}, RpT p.K g.G g.am kvs es → RpT p.K g.G g.am (kvs.map fun kv => if kv.1 = k then (kv.1, v) else kv) (es.map fun e => if e.1 = k then (e.1, d) else e)
  | _, _, .nil => .nil
  | (k', u) :: kvs, (_, e) :: es, .cons q t => by
    rw [List.map_cons, List.map_cons]
    by_cases z : k' = k
    · simp only [z, if_true]
      exact .cons r (RpT.map r t)
    · simp only [if_neg z]
      exact .cons q (RpT.map r t)
theorem RpK.snoc {k : Key} {v : V} {d : D} (r : p.Rp g v d) : ∀ {kvs : List (Key × V)} {es : List (Key × D)}, RpK p.K g.G g.am kvs es → RpK p.K g.G g.am (kvs ++ [(k, v)]) (es ++ [(k, d)])
  | _, _, .nil => .cons r .nil
  | _, _, .cons q t => .cons q (RpK.snoc r t)
theorem RpT.snoc {k : List Key} {v : V} {d : D} (r : p.Rp g v d) : ∀ {kvs : List (List Key × V)} {es : List (List Key × D)}, RpT p.K g.G g.am kvs es → RpT p.K g.G g.am (kvs ++ [(k, v)]) (es ++ [(k, d)])
  | _, _, .nil => .cons r .nil
  | _, _, .cons q t => .cons q (RpT.snoc r t)
theorem RpK.put {k : Key} {v : V} {d : D} {kvs : List (Key × V)} {es : List (Key × D)} (h : RpK p.K g.G g.am kvs es) (r : p.Rp g v d) : RpK p.K g.G g.am (putK kvs k v) (putE es k d) := by
  unfold putK putE
  rw [any_keys k kvs, any_keys k es, h.keys]
  by_cases z : ((es.map (·.1)).any fun x => decide (x = k)) = true
  · rw [if_pos z, if_pos z]
    exact RpK.map r h
  · rw [if_neg z, if_neg z]
    exact RpK.snoc r h
theorem RpT.put {k : List Key} {v : V} {d : D} {kvs : List (List Key × V)} {es : List (List Key × D)} (h : RpT p.K g.G g.am kvs es) (r : p.Rp g v d) : RpT p.K g.G g.am (putK kvs k v) (putE es k d) := by
  unfold putK putE
  rw [any_keys k kvs, any_keys k es, h.keys]
  by_cases z : ((es.map (·.1)).any fun x => decide (x = k)) = true
  · rw [if_pos z, if_pos z]
    exact RpT.map r h
  · rw [if_neg z, if_neg z]
    exact RpT.snoc r h
theorem RpK.length {kvs : List (Key × V)} {es : List (Key × D)} (h : RpK p.K g.G g.am kvs es) : kvs.length = es.length := by
  have := congrArg List.length h.keys
  rwa [List.length_map, List.length_map] at this
theorem RpT.length {kvs : List (List Key × V)} {es : List (List Key × D)} (h : RpT p.K g.G g.am kvs es) : kvs.length = es.length := by
  have := congrArg List.length h.keys
  rwa [List.length_map, List.length_map] at this
/-! keys -/
theorem TopR.key {v : V} {x : D} {k : Key} (h : TopR p g H v x) (e : keyD x = some k) : v = kV k := by
  cases x with
  | int i => cases e; exact h.int
  | str s => cases e; exact h.str
  | _ => cases e
theorem Rp.key {v : V} {x : D} {k : Key} (h : p.Rp g v x) (e : keyD x = some k) : v = kV k := TopR.key (H := fun _ => none) (.inl h) e
theorem Rps.keys : ∀ {vs : List V} {ds : List D} {ks : List Key}, p.Rps g vs ds → keysD ds = some ks → vs = ks.map kV
  | _, [], ks, .nil, e => by cases e; rfl
  | _, d :: ds, ks, .cons r t, e => by
    unfold keysD at e
    cases e1 : keyD d with
    | none => rw [e1] at e; cases e
    | some k =>
      cases e2 : keysD ds with
      | none => rw [e1, e2] at e; cases e
      | some ks' =>
        rw [e1, e2] at e
        cases e
        rw [List.map_cons, Rps.keys t e2, Rp.key r e1]
theorem TopR.dct {v : V} {es : List (Key × D)} (w : Wf p g H) (h : TopR p g H v (.dct es)) : ∃ a kvs, v = .ref a ∧ Rd H a (.dK kvs) ∧ RpK p.K g.G g.am kvs es := by
  rcases h with h | ⟨a, rfl, _, kvs, e, r⟩
  · cases h with
    | dK s r => exact ⟨_, _, rfl, .inr ⟨_, w.sub _ _ s⟩, r⟩
  · exact ⟨a, kvs, rfl, .inl e, r⟩
theorem TopR.dcT {v : V} {es : List (List Key × D)} (w : Wf p g H) (h : TopR p g H v (.dcT es)) : ∃ a kvs, v = .ref a ∧ Rd H a (.dT kvs) ∧ RpT p.K g.G g.am kvs es := by
  rcases h with h | ⟨a, rfl, _, kvs, e, r⟩
  · cases h with
    | dT s r => exact ⟨_, _, rfl, .inr ⟨_, w.sub _ _ s⟩, r⟩
  · exact ⟨a, kvs, rfl, .inl e, r⟩
end
/-- what a dict holds at a key; none: no dict, or no key of its kind -/
def lookD : D → D → Option (Option D)
  | .dct es, k => (keyD k).map (getE es)
  | .dcT es, .tup ks => (keysD ks).map (getE es)
  | _, _ => none
/-- a cell's container -/
def conD : D → M D
  | .ref k => getC k >>= fun c => match c with
    | .lst ds => pure (.lst ds)
    | .dct es => pure (.dct es)
    | .dcT es => pure (.dcT es)
    | _ => stuck
  | d => pure d
theorem conD_post {p : Pg} {g : Gs} {H : Hp} {v : V} {d : D} {ok : D → Store → Prop} {ex : Nat → Store → Prop} (w : Wf p g H) (h : TopR p g H v d) (q : (conD d g.st).Post ok ex) :
    (∃ c, ok c g.st ∧ (TopR p g H v c ∨ ∃ a, v = .ref a ∧ Own p g H a c)) := by
  cases d with
  | ref k =>
    obtain ⟨a, rfl, e⟩ := h.ref
    obtain ⟨c, e2, r⟩ := w.at_ref e
    have q : ((getC k >>= fun c => match c with
      | .lst ds => pure (.lst ds)
      | .dct es => pure (.dct es)
      | .dcT es => pure (.dcT es)
      | _ => stuck) g.st).Post ok ex := q
    rw [bind_run] at q
    unfold getC at q
    rw [e2] at q
    cases c with
    | lst ds => exact ⟨.lst ds, q, .inr ⟨a, rfl, r⟩⟩
    | dct es => exact ⟨.dct es, q, .inr ⟨a, rfl, r⟩⟩
    | dcT es => exact ⟨.dcT es, q, .inr ⟨a, rfl, r⟩⟩
    | ins _ _ => exact False.elim q
  | _ => exact ⟨_, q, .inl h⟩
/-- .. it is read -/
theorem look_ok {p : Pg} {g : Gs} {H : Hp} {v vk : V} {c k : D} {o : Option D} (w : Wf p g H) (h : TopR p g H v c ∨ ∃ a, v = .ref a ∧ Own p g H a c) (hk : TopR p g H vk k) (e : lookD c k = some o) :
    ∃ a ov, v = .ref a ∧ IsD H a ∧ DGet H a vk ov ∧ (∀ d, o = some d → ∃ u, ov = some u ∧ p.Rp g u d) ∧ (o = none → ov = none) := by
  cases c with
  | dct es =>
    have e : (keyD k).map (getE es) = some o := by cases k <;> exact e
    obtain ⟨κ, ek, eo⟩ := Option.map_eq_some_iff.mp e
    obtain ⟨a, kvs, rfl, rd, r⟩ : ∃ a kvs, v = .ref a ∧ Rd H a (.dK kvs) ∧ RpK p.K g.G g.am kvs es := by
      rcases h with h | ⟨a, rfl, kvs, e, r⟩
      · exact h.dct w
      · exact ⟨a, kvs, rfl, .inl e, r⟩
    obtain ⟨h1, h2⟩ := r.get κ
    rw [hk.key ek]
    exact ⟨a, valV kvs κ, rfl, .inl ⟨kvs, rd⟩, .inl ⟨kvs, κ, rd, rfl, rfl⟩, fun d ed => h1 d (eo.trans ed), fun ed => h2 (eo.trans ed)⟩
  | dcT es =>
    cases k with
    | tup ks =>
      have e : (keysD ks).map (getE es) = some o := e
      obtain ⟨κ, ek, eo⟩ := Option.map_eq_some_iff.mp e
      obtain ⟨a, kvs, rfl, rd, r⟩ : ∃ a kvs, v = .ref a ∧ Rd H a (.dT kvs) ∧ RpT p.K g.G g.am kvs es := by
        rcases h with h | ⟨a, rfl, kvs, e, r⟩
        · exact h.dcT w
        · exact ⟨a, kvs, rfl, .inl e, r⟩
      obtain ⟨h1, h2⟩ := r.get κ
      obtain ⟨b, xs, rfl, eb, rx⟩ := hk.tupH w
      have ex := Rps.keys rx ek
      subst ex
      exact ⟨a, valV kvs κ, rfl, .inr ⟨kvs, rd⟩, .inr ⟨kvs, κ, b, rd, rfl, eb, rfl⟩, fun d ed => h1 d (eo.trans ed), fun ed => h2 (eo.trans ed)⟩
    | _ => cases e
  | _ => cases e
def dgetM (d k : D) : M D := conD d >>= fun c => match lookD c k with
  | some (some x) => pure x
  | _ => stuck
def dinM (neg : Bool) (k d : D) : M Bool := conD d >>= fun c => match lookD c k with
  | some o => pure (if neg then !o.isSome else o.isSome)
  | none => stuck
def dget2M (d k x : D) : M D := conD d >>= fun c => match lookD c k with
  | some o => pure (o.getD x)
  | none => stuck
section
variable {S : Sta} {ρ : Ev} {a b c e o : Expr} {ma mb mc m mo : M D} {pos p apos cpos spos : Pos} {R : Rel}
theorem hu1 {Y : Dyn} (ok : OkY S Y) : (S.cx Y).A.units + 1 < cLine := hu_of ok.room
theorem op_dget {p : Pg} : Op2 p (fun x y H Q => ∃ a v, x = .ref a ∧ DGet H a y (some v) ∧ Q v H) dgetM (RE p) := by
  intro g H x y vx vy Q E w hx hy q
  obtain ⟨c, q, h⟩ := conD_post w hx (post_bind q)
  cases e : lookD c y with
  | none => rw [e] at q; exact False.elim q
  | some o =>
    cases o with
    | none => rw [e] at q; exact False.elim q
    | some d =>
      rw [e] at q
      obtain ⟨a, ov, rfl, _, dg, h1, _⟩ := look_ok w h hy e
      obtain ⟨u, rfl, r⟩ := h1 d rfl
      exact ⟨a, u, rfl, dg, Pv.now w (post_pure q) r⟩
theorem ee_dget (ha : EL S ρ a ma) (hb : EL S ρ b mb) (hs : NoSl b := by exact fun _ _ => rfl) : EE S ρ (.Subscript a b pos) (ma >>= fun x => mb >>= fun y => dgetM x y) :=
  ex_bin back_RE ha hb (fun Y ok ta tb h1 h2 => pe_dget (hu1 ok) h1 h2 hs) op_dget
def rDin (neg : Bool) : R2 := fun y x H Q => ∃ a o, x = .ref a ∧ DGet H a y o ∧ Q (.bl (if neg then !o.isSome else o.isSome)) H
theorem op_din {p : Pg} (neg : Bool) : Op2B p (rDin neg) (dinM neg) := by
  intro g H y x vy vx Q E w hy hx q
  obtain ⟨c, q, h⟩ := conD_post w hx (post_bind q)
  cases e : lookD c y with
  | none => rw [e] at q; exact False.elim q
  | some o =>
    rw [e] at q
    obtain ⟨a, ov, rfl, _, dg, h1, h2⟩ := look_ok w h hy e
    have eo : ov.isSome = o.isSome := by
      cases o with
      | none => rw [h2 rfl]; rfl
      | some d => obtain ⟨u, rfl, _⟩ := h1 d rfl; rfl
    refine ⟨a, ov, rfl, dg, ?_⟩
    rw [eo]
    exact (post_pure q) rfl
theorem ee_din (ha : EL S ρ a ma) (hb : EL S ρ b mb) (hm : behindInMarks .In b = false := by first | exact nobehind _ (by decide) (by decide) | rfl) : EE S ρ (.Compare a [.In] [b] pos) (ma >>= fun x => mb >>= fun y => dinM false x y >>= fun b => pure (.bl b)) :=
  ex_binB ha hb (fun Y ok ta tb h1 h2 => pe_cmp (pc_din (hu1 ok) h1 h2) (hm)) (op_din false)
theorem ee_dnin (ha : EL S ρ a ma) (hb : EL S ρ b mb) (hm : behindInMarks .NotIn b = false := by first | exact nobehind _ (by decide) (by decide) | rfl) : EE S ρ (.Compare a [.NotIn] [b] pos) (ma >>= fun x => mb >>= fun y => dinM true x y >>= fun b => pure (.bl b)) :=
  ex_binB ha hb (fun Y ok ta tb h1 h2 => pe_cmp (pc_dnotin (hu1 ok) h1 h2) (hm)) (op_din true)
theorem et_din (ha : EL S ρ a ma) (hb : EL S ρ b mb) (hm : behindInMarks .In b = false := by first | exact nobehind _ (by decide) (by decide) | rfl) : ET S ρ (.Compare a [.In] [b] pos) (ma >>= fun x => mb >>= fun y => dinM false x y) :=
  et_binB ha hb (fun Y ok ta tb h1 h2 => pt_cmp (pc_din (hu1 ok) h1 h2) hm) (op_din false)
theorem et_dnin (ha : EL S ρ a ma) (hb : EL S ρ b mb) (hm : behindInMarks .NotIn b = false := by first | exact nobehind _ (by decide) (by decide) | rfl) : ET S ρ (.Compare a [.NotIn] [b] pos) (ma >>= fun x => mb >>= fun y => dinM true x y) :=
  et_binB ha hb (fun Y ok ta tb h1 h2 => pt_cmp (pc_dnotin (hu1 ok) h1 h2) hm) (op_din true)
end
end DL
set_option maxHeartbeats 1000000
namespace DL
open PySem PySem.Spec PyProof.Rows L2
/-! ### targets that write to cells: a field, an item, and tuples of these -/
theorem pg_attr {X : Cx} {o : Expr} {f : Str} {pos : Pos} {to : TE} (ho : PE X o to) : PG X (.Attribute o f pos) (fun v σ H Q => to σ H fun x H1 => ∃ a C dx fs, x = .ref a ∧ H1 a = some (.ins C dx fs) ∧ Cls X.K C ∧ NoAttr X.K C f ∧ fs.length < 1000 ∧ Q σ (upd H1 a (.ins C dx (putF f v fs)))) := by
  refine ⟨fun pins s σ H v u Q I r h => ?_⟩
  rw [assign_Attribute]
  refine wpAny_bind (wpAny_holding (thn (ho.run pins s σ H _ I h) fun ov s1 ⟨x, H1, I1, rx, a, C, dx, fs, ex, ea, c, n, l, q⟩ => ?_))
  subst ex
  obtain rfl : ov = Value.ref a := rx
  exact wpAny_bind (wpAny_standAt (wpAny_bind (wpAny_holding (setattr_ok I1 ea c n l r fun s3 I3 => wpAny_release ⟨σ, _, I3, q⟩))))
def TW (S : Sta) (ρ : Ev) (tg : Expr) (w : D → M Unit) : Prop := ∀ Y, OkY S Y → PG (S.cx Y) tg (fun v σ H Q => ∃ F g d, ER S.pg F ρ σ g H ∧ S.pg.Rp g v d ∧ (w d g.st).Post (fun _ st' => ∀ g' H', g'.st = st' → Stp S.pg g H g' H' → Q σ H') (Px S Y g H))
def TWs (S : Sta) (ρ : Ev) (tgs : List Expr) (w : List D → M Unit) : Prop := ∀ Y, OkY S Y → PGs (S.cx Y) tgs (fun vs σ H Q => ∃ F g ds, ER S.pg F ρ σ g H ∧ S.pg.Rps g vs ds ∧ (w ds g.st).Post (fun _ st' => ∀ g' H', g'.st = st' → Stp S.pg g H g' H' → Q σ H') (Px S Y g H))
def wnil : List D → M Unit
  | [] => pure ()
  | _ => stuck
def wcons (w : D → M Unit) (ws : List D → M Unit) : List D → M Unit
  | d :: ds => w d >>= fun _ => ws ds
  | [] => stuck
def wtup (n : Nat) (ws : List D → M Unit) : D → M Unit
  | .tup ds => if ds.length = n then ws ds else stuck
  | _ => stuck
section
variable {S : Sta} {ρ : Ev} {a b c o e ie tg : Expr} {tgs : List Expr} {ma mb mc m mo mv : M D} {pos p apos cpos spos tpos : Pos} {N B : Type} {shN : N → Ev} {shB : B → Ev} {rest : List Stmt} {f : Str} {ci : Nat} {fl : List Str}
theorem tw_fld (hc : ClsD S.pg ci fl) (hf : f ∈ fl) (ho : EE S ρ o mo) : TW S ρ (.Attribute o f pos) (fun d => mo >>= fun x => setF ci f x d) := fun Y ok =>
  (pg_attr (X := S.cx Y) (ho Y ok)).pre fun v σ H Q ⟨F, g, y, E, r, q⟩ => rdX.bind E q fun x u g2 H2 s2 E2 r2 q => by
    unfold setF at q
    obtain ⟨kk, a, dx, fvs, fs, rfl, rfl, hk, h1, h2, h3, q⟩ := insD_post E2.wf (.inl r2) (post_bind q)
    by_cases z : fs.length < 1000
    · simp only [if_pos z] at q
      have st := Stp.wrtI (fs := putD f y fs) E2.wf hk h1 h2 (RpF.put (f := f) (p := S.pg) (g := { g2 with st := g2.st.set kk (.ins ci (putD f y fs)) }) (r.mono s2.gle s2.aml) h3)
      exact ⟨a, _, dx, fvs, rfl, h1, hc.cls, hc.no f hf, by rw [h3.len]; exact z, q _ _ rfl (s2.trans E.wf st)⟩
    · simp only [if_neg z] at q
      exact False.elim q
theorem tw_cset (ho : EE S ρ o mo) (hb : EE S ρ b mb)
    (ha2 : ∀ (env : Env) v, assign (.Subscript o b spos) env v = (do
      let ov ← holding [v] (eval o env)
      let iv ← holding [v, ov] (eval b env)
      standAt spos
      holding [v, ov, iv] (setItem ov iv v)
      release [v, ov, iv] [])) : TW S ρ (.Subscript o b spos) (fun d => mo >>= fun x => mb >>= fun i => cellSet x i d) := fun Y ok =>
  (pg_sub (X := S.cx Y) (ho Y ok) (hb Y ok) set_list (ha2 _)).pre fun v σ H Q ⟨F, g, y, E, r, q⟩ => rdX.bind E q fun x u g2 H2 s2 E2 r2 q => rdX.bind E2 (q.imp (fun _ _ q => q) fun _ _ q => q.back E.wf s2) fun i w g3 H3 s3 E3 r3 q => by
    unfold cellSet at q
    obtain ⟨kk, a, xs, ds, rfl, hk, hx, rx, q⟩ := celL_post E3.wf (r2.mono s3.gle s3.aml) (post_bind q)
    obtain ⟨n, rfl, q⟩ := intG_post (post_bind q)
    obtain rfl := TopR.int (H := H3) (.inl r3)
    obtain ⟨j, ej, q⟩ := setL_post (post_bind q)
    have ry := (r.mono s2.gle s2.aml).mono s3.gle s3.aml
    have st : Stp S.pg g3 H3 { g3 with st := g3.st.set kk (.lst (ds.set j y)) } (upd H3 a (.lst (xs.set j v))) :=
      Stp.wrt E3.wf hk hx (fun _ z => by cases z) (fun _ z => by cases z) ⟨_, upd_same, rx.set ry j⟩
    exact ⟨a, xs, n, j, rfl, rfl, hx, by rw [rx.length]; exact ej, q _ _ rfl ((s2.trans E.wf s3).trans E.wf st)⟩
theorem tws_nil : TWs S ρ [] wnil := fun Y ok => pgs_nil.pre fun vs σ H Q ⟨F, g, ds, E, r, q⟩ => by
  cases r with
  | nil => exact ⟨rfl, q g H rfl (.refl E.wf)⟩
  | cons _ _ => exact False.elim q
theorem tws_cons {w : D → M Unit} {ws : List D → M Unit} (h1 : TW S ρ tg w) (h2 : TWs S ρ tgs ws) (hs : ∀ env : Env, (assignEach (tg :: tgs) env).map (·.2) = assign tg env :: (assignEach tgs env).map (·.2)) : TWs S ρ (tg :: tgs) (wcons w ws) := fun Y ok =>
  (pgs_cons (h1 Y ok) (h2 Y ok) (hs _)).pre fun vs σ H Q ⟨F, g, ds, E, r, q⟩ => by
    cases r with
    | nil => exact False.elim q
    | @cons v0 vr d ds r rr =>
      refine ⟨_, _, rfl, F, g, d, E, r, (post_bind (m := w d) q).imp (fun _ st' q g1 H1 e s1 => ?_) fun _ _ q => q⟩
      subst e
      exact ⟨F, g1, ds, E.step s1, rr.mono s1.gle s1.aml, q.imp (fun _ st' q g2 H2 e s2 => q g2 H2 e (s1.trans E.wf s2)) fun _ _ q => q.back E.wf s1⟩
theorem tw_tup {ws : List D → M Unit} {n k : Nat} (h : TWs S ρ tgs ws) (hn : ∀ env : Env, (assignEach tgs env).length = n) (hst : ∀ env : Env, (assignEach tgs env).findIdx? (·.1) = none) : TW S ρ (.Tuple tgs k pos) (wtup n ws) := fun Y ok =>
  (pg_tup (X := S.cx Y) (n := n) rfl (h Y ok) (hn _) (hst _)).pre fun v σ H Q ⟨F, g, d, E, r, q⟩ => by
    cases d with
    | tup ds =>
      obtain ⟨a, us, rfl, s, r⟩ := TopR.tup (H := H) E.wf (.inl r)
      have q : ((if ds.length = n then ws ds else stuck) g.st).Post _ _ := q
      by_cases z : ds.length = n
      · rw [if_pos z] at q
        exact ⟨a, us, rfl, s, by rw [r.length]; exact z, F, g, ds, E, r, q⟩
      · rw [if_neg z] at q
        exact False.elim q
    | _ => exact False.elim q
theorem sb_asgW {w : D → M Unit} {k : M (Out N B)} (he : EE S ρ e m) (hg : TW S ρ tg w) (hr : SB S ρ rest k shN shB)
    (hs : ∀ env : Env, env.scope = S.sc → swapsWithSole [tg] e pos.line env = pure false) (hw : ∀ env : Env, env.scope = S.sc → swappedStores [tg] e env = pure none) (h1 : ∀ env : Env, (assignEach [tg] env).map (·.2) = [assign tg env]) :
    SB S ρ (.Assign [tg] e pos :: rest) (m >>= fun y => w y >>= fun _ => k) shN shB := fun Y ok => by
  refine (pss_cons (ps_asg (X := S.cx Y) (he Y ok) (hg Y ok) (hs _ rfl) (hw _ rfl) (h1 _)) (hr Y ok)).pre fun Dd σ H ⟨F, g, E, q⟩ => ?_
  refine rdS.expr E q fun y v g1 H1 s1 E1 r1 q => ⟨F, g1, y, E1, r1, (post_bind q).imp (fun _ st' q g2 H2 e s2 => ?_) fun _ _ q => PxO.of E1 q⟩
  subst e
  exact ⟨F, g2, E1.step s2, q.imp (fun _ _ q => q.back s2.ltr) fun _ _ q => q⟩
/-! ### o.append(e), o a list with a cell -/
def cellApp (x y : D) : M Unit := celL x >>= fun kd => if kd.2.length < sizeLine then setC kd.1 (.lst (kd.2 ++ [y])) else stuck
theorem ee_capp (ho : EE S ρ o mo) (he : EE S ρ e m) (hs : NoStar [e] := by intro _; rfl) (hline : (apos.endLine == cpos.line) = true := by rfl) (hba : ∀ env : Env, attributeBase o "append" env (eval o env) = eval o env := by intro _; rfl) :
    EE S ρ (.Call (.Attribute o "append" apos) [e] [] cpos) (mo >>= fun x => celL x >>= fun _ => m >>= fun y => cellApp x y >>= fun _ => pure .non) := fun Y ok => by
  refine (pe_bm (X := S.cx Y) (cpos := cpos) (apos := apos) PySem.F.plainAttrs_list PySem.F.slot_list_append PySem.F.type_list_append mt_append (ho Y ok) (pa_cons (he Y ok) pa_nil (hs _)) (hba _) (by rw [hs _]; rfl) hline (hs _) (by rfl)).pre fun σ H Q ⟨F, g, E, q⟩ => ?_
  refine rdX.bind E q fun x v g1 H1 s1 E1 r1 q => ?_
  obtain ⟨k0, a, us, ds0, rfl, hk0, hx0, rx0, q⟩ := celL_post E1.wf r1 (post_bind q)
  refine ⟨.inl ⟨rfl, us, SqL.of hx0⟩, rdX.bind E1 (q.imp (fun _ _ q => q) fun _ _ q => q.back E.wf s1) fun y w g2 H2 s2 E2 r2 q => ?_⟩
  unfold cellApp at q
  rw [bind_assoc'] at q
  obtain ⟨k, a2, xs, ds, e2, hk, hx, rx, q⟩ := celL_post E2.wf (r1.mono s2.gle s2.aml) (post_bind q)
  cases e2
  by_cases z : ds.length < sizeLine
  · simp only [if_pos z] at q
    have q := post_setC q
    have st : Stp S.pg g2 H2 { g2 with st := g2.st.set k (.lst (ds ++ [y])) } (upd H2 a (.lst (xs ++ [w]))) :=
      Stp.wrt E2.wf hk hx (fun _ z => by cases z) (fun _ z => by cases z) ⟨_, upd_same, rx.append (.cons r2 .nil)⟩
    exact ⟨a, xs, w, rfl, rfl, hx, by rw [rx.length]; exact z, (post_pure q) _ _ _ rfl (s1.trans E.wf (s2.trans E1.wf st)) .non⟩
  · simp only [if_neg z] at q
    exact False.elim q
end
/-! ### xs[i::k] -/
def stepV {α : Type} (xs : List α) (lo : Option Int) (st : Int) : List α := (sliceRange (sliceBounds lo none (some st) xs.length).1 (sliceBounds lo none (some st) xs.length).2.1 (sliceBounds lo none (some st) xs.length).2.2).filterMap (xs[·]?)
theorem vals_pick {xs : List V} {us : List Value} (r : Vals xs us) : ∀ l : List Nat, Vals (l.filterMap (xs[·]?)) (l.filterMap (us[·]?))
  | [] => .nil
  | i :: l => by
    rw [List.filterMap_cons, List.filterMap_cons]
    cases e : xs[i]? with
    | none =>
      have : us[i]? = none := by
        rw [List.getElem?_eq_none_iff] at e ⊢
        have := r.length
        omega
      rw [this]
      exact vals_pick r l
    | some x =>
      obtain ⟨u, eu, ru⟩ := r.get e
      rw [eu]
      exact .cons ru (vals_pick r l)
theorem rps_pick {p : Pg} {g : Gs} {xs : List V} {us : List D} (r : p.Rps g xs us) : ∀ l : List Nat, p.Rps g (l.filterMap (xs[·]?)) (l.filterMap (us[·]?))
  | [] => .nil
  | i :: l => by
    rw [List.filterMap_cons, List.filterMap_cons]
    cases e : xs[i]? with
    | none =>
      have : us[i]? = none := by
        rw [List.getElem?_eq_none_iff] at e ⊢
        have := r.length
        omega
      rw [this]
      exact rps_pick r l
    | some x =>
      obtain ⟨u, eu, ru⟩ := r.getV e
      rw [eu]
      exact .cons ru (rps_pick r l)
theorem stepV_le {α : Type} (xs : List α) (lo : Option Int) (st : Int) : (stepV xs lo st).length ≤ xs.length := by
  unfold stepV
  refine Nat.le_trans (List.length_filterMap_le _ _) (sliceRange_length_le _ _ _ _ (fun hc => ?_) fun hc => ?_)
  · simp only [sliceBounds] at hc ⊢
    simp only [hc, if_true]
    constructor
    · cases lo with
      | none => simp
      | some i => dsimp only; omega
    · simp
  · simp only [sliceBounds] at hc ⊢
    simp only [hc, if_false]
    constructor
    · cases lo with
      | none => simp
      | some i => dsimp only; omega
    · simp
def tStepL (K : PySem.W.Frag) (te : TE) (tl : TO) (st : Int) : TE := fun σ H Q => te σ H fun x H1 => tl σ H1 fun lo H2 => ∃ a xs, x = .ref a ∧ SqL K H2 a xs ∧ ∀ p, H2 p = none → Q (.ref p) (upd H2 p (.lst (stepV xs lo st)))
theorem pe_stepL {X : Cx} {e : Expr} {lo : Option Expr} {te : TE} {tl : TO} {st : Int} {k : Nat} {p1 p3 pos : Pos} (he : PE X e te) (hl : PO X lo tl) (h0 : st ≠ 0) : PE X (.Subscript e (.Slice lo none (some (.Constant (.int st) k p1)) p3) pos) (tStepL X.K te tl st) := by
  refine ⟨fun pins s σ H Q I h => ?_⟩
  refine Subscript_ (thn (he.run pins s σ H _ I h) fun v s1 ⟨x, H1, I1, r1, q1⟩ => ?_)
  refine wpAny_Slice (thn (hl.run pins s1 σ H1 _ I1 q1) fun vl s2 ⟨l, H2, I2, pl, a, xs, ex, hx, q⟩ => ?_)
  subst ex
  cases r1
  refine thn (po_none.run pins s2 σ H2 (fun o H3 => o = none ∧ H3 = H2) I2 ⟨rfl, rfl⟩) fun vu s3 ⟨u, H3, I3, pu, eu, e3⟩ => ?_
  subst eu e3
  refine thn ((po_some pe_int : PO X (some (.Constant (.int st) k p1)) (tPart (tC (.int st)))).run pins s3 σ H3 (fun o H4 => o = some st ∧ H4 = H3) I3 ⟨st, rfl, rfl, rfl⟩) fun vs s4 ⟨o, H4, I4, ps, eo, e4⟩ => ?_
  subst eo e4
  have I5 : Inv X pins σ H4 { s4 with heap := s4.heap.push { cls := .type "slice", data := .fields #[vl, vu, vs] } } := I4.kept (t' := s4.toks) fun b ob q => Heap.get?_push_of_some _ q
  obtain ⟨its, r, ht, hz⟩ := I5.list hx
  have hlen := r.length
  show wpAny (model X.prog X.w) X.A (subscriptTail e (.Slice lo none (some (.Constant (.int st) k p1)) p3) (.ref a) (.ref s4.heap.objs.size)) (EP X pins σ Q) X.xe { s4 with heap := s4.heap.push { cls := .type "slice", data := .fields #[vl, vu, vs] } }
  refine tail_any (ops := [.ref a, .ref s4.heap.objs.size]) ht.isList.typeIs (PySem.slot_list_getitem.lookup) ?_ (by with_unfolding_all rfl)
  refine wpAny_getItem_list_slice ht.isList (Heap.IsSliceOf.new _ vl vu vs) pl pu ps (by intro z; cases z; exact h0 rfl) ?_ (by rw [List.size_toArray]; omega)
  refine ⟨.ref _, _, I5.laid (t' := s4.toks) (o := .lst (stepV xs l st)) (fun b ob q => Heap.get?_push_of_some _ q) (Nat.le_refl _) ?_, rfl, q _ (I5.hok.fresh (Nat.le_refl _))⟩
  refine ⟨Nat.le_trans (stepV_le xs l st) hz, _, 0, ?_, Heap.get?_push_size _ rfl⟩
  have := vals_pick r (sliceRange (sliceBounds l none (some st) xs.length).1 (sliceBounds l none (some st) xs.length).2.1 (sliceBounds l none (some st) xs.length).2.2)
  rw [hlen] at this
  unfold stepV
  rw [hlen]
  simpa using this
/-- a list, or a list with a cell -/
def lstC : D → M (List D)
  | .lst ds => pure ds
  | .rls ds => pure ds
  | .ref k => getC k >>= fun c => match c with
    | .lst ds => pure ds
    | _ => stuck
  | _ => stuck
theorem lstC_post {p : Pg} {g : Gs} {H : Hp} {v : V} {d : D} {ok : List D → Store → Prop} {ex : Nat → Store → Prop} (w : Wf p g H) (h : TopR p g H v d) (q : (lstC d g.st).Post ok ex) :
    ∃ a us ds, v = .ref a ∧ SqL p.K H a us ∧ p.Rps g us ds ∧ ok ds g.st := by
  cases d with
  | lst ds =>
    obtain ⟨a, us, rfl, s, r⟩ := h.lst w
    exact ⟨a, us, ds, rfl, SqL.of s, r, q⟩
  | rls ds =>
    obtain ⟨a, us, rfl, s, r⟩ := h.rls w
    exact ⟨a, us, ds, rfl, s, r, q⟩
  | ref k =>
    obtain ⟨a, rfl, e⟩ := h.ref
    obtain ⟨c, e2, r⟩ := w.at_ref e
    have q : ((getC k >>= fun c => match c with
      | .lst ds => pure ds
      | _ => stuck) g.st).Post ok ex := q
    rw [bind_run] at q
    unfold getC at q
    rw [e2] at q
    cases c with
    | lst ds =>
      obtain ⟨xs, ex, rx⟩ := r
      exact ⟨a, xs, ds, rfl, SqL.of ex, rx, q⟩
    | _ => exact False.elim q
  | _ => exact False.elim q
section
variable {S : Sta} {ρ : Ev} {a : Expr} {lo : Option Expr} {ma : M D} {ml : M (Option Int)} {pos p1 p3 : Pos} {k : Nat} {st : Int}
theorem en_stepL (ha : EL S ρ a ma) (hl : EO S ρ lo ml) (h0 : st ≠ 0 := by decide) : EN S ρ (.Subscript a (.Slice lo none (some (.Constant (.int st) k p1)) p3) pos) (ma >>= fun x => ml >>= fun l => lstC x >>= fun ds => pure (.lst (stepV ds l st))) := fun Y ok =>
  (pe_stepL (X := S.cx Y) (ha Y ok) (hl Y ok) h0).pre fun σ H Q ⟨F, g, E, q⟩ => rdX.bind E q fun x v g' H' s E' r q =>
    ⟨F, g', E', (post_bind q).imp (fun l st' q g2 H2 e s2 => by
      subst e
      have E2 := E'.step s2
      obtain ⟨a, us, ds, rfl, sq, rr, q⟩ := lstC_post E2.wf (r.step E'.wf s2) (post_bind q)
      refine ⟨a, us, rfl, sq, fun l2 hl => (post_pure q) _ g2 _ rfl ((s.trans E.wf s2).trans E.wf (Stp.laid E2.wf hl)) ⟨l2, rfl, ⟨_, upd_same, ?_⟩, E2.wf.freeG hl, E2.wf.freeA hl, (s.trans E.wf s2).none_of E.wf hl⟩⟩
      have := rps_pick rr (sliceRange (sliceBounds l none (some st) us.length).1 (sliceBounds l none (some st) us.length).2.1 (sliceBounds l none (some st) us.length).2.2)
      unfold stepV
      rw [← rr.length]
      exact this) fun _ _ q => q.back E.wf s⟩
end
end DL
set_option maxHeartbeats 1000000
namespace DL
open PySem PySem.Spec PyProof.Rows L2
/-! ### zip of any number of lists and tuples -/
theorem forIn_yields {α β : Type} {M : Model} {A : Around} {E : Value → Shared → Prop} {f : α → β → Sem (ForInStep β)} {Q : β → Shared → Prop} (P : Nat → β → Shared → Prop) :
    ∀ (xs : List α) (i : Nat) (b : β) (s : Shared), (∀ j x b s, xs[j]? = some x → P (i + j) b s → wpAny M A (f x b) (fun r s' => ∃ b', r = .yield b' ∧ P (i + j + 1) b' s') E s) → (∀ b s, P (i + xs.length) b s → Q b s) → P i b s → wpAny M A (forIn xs b f) Q E s
  | [], i, b, s, _, hq, p => by
    rw [List.forIn_nil]
    exact wpAny_pure (hq b s p)
  | x :: xs, i, b, s, h, hq, p => by
    rw [List.forIn_cons]
    refine wpAny_bind (wpAny_mono (h 0 x b s rfl p) (fun r s' h' => ?_) fun _ _ e => e)
    obtain ⟨b', rfl, p'⟩ := h'
    refine forIn_yields P xs (i + 1) b' s' (fun j y b s hy p => ?_) (fun b s p => hq b s ?_) p'
    · have := h (j + 1) y b s hy (by rw [show i + (j + 1) = i + 1 + j from by omega]; exact p)
      rw [show i + (j + 1) = i + 1 + j from by omega] at this
      exact this
    · rw [List.length_cons, show i + (xs.length + 1) = i + 1 + xs.length from by omega]
      exact p
abbrev ZAs := List (Bool × Nat)
/-- what the sources hold -/
def ZSrc (h : Heap) (as : ZAs) (xss : List (Array Value)) : Prop := as.length = xss.length ∧ ∀ (j : Nat) a xs, as[j]? = some a → xss[j]? = some xs → AsG a.1 h a.2 xs
structure ZSt (h : Heap) (b : Nat) (as : ZAs) (own : Value) (t : Nat) : Prop where
  z : IsZip h (b + as.length + 2) (b + as.length) (b + as.length + 1) own
  ti : h.get? (b + as.length) = some { cls := .type "tuple", data := .seq ((List.range as.length).map fun j => Value.ref (b + j)).toArray }
  to : ∃ ys : Array Value, ys.size = as.length ∧ h.get? (b + as.length + 1) = some { cls := .type "tuple", data := .seq ys }
  it : ∀ (j : Nat) a, as[j]? = some a → ItG a.1 h (b + j) a.2 t
theorem AsG.moved {k : Bool} {h h' : Heap} {a : Addr} {xs : Array Value} (x : AsG k h a xs) (e : ∀ o, h.get? a = some o → h'.get? a = some o) : AsG k h' a xs := by
  cases k
  · exact Heap.IsTuple.at x e
  · exact Heap.IsList.at x e
theorem ZSrc.moved {h h' : Heap} {as : ZAs} {xss : List (Array Value)} (x : ZSrc h as xss) (e : ∀ a ∈ as, ∀ o, h.get? a.2 = some o → h'.get? a.2 = some o) : ZSrc h' as xss :=
  ⟨x.1, fun j a xs h1 h2 => (x.2 j a xs h1 h2).moved (e a (List.mem_of_getElem? h1))⟩
/-- within the loop of a turn: i of the iterators are moved -/
structure ZLp (h0 h : Heap) (b : Nat) (as : ZAs) (xss : List (Array Value)) (t i : Nat) (ys : Array Value) : Prop where
  z : IsZip h (b + as.length + 2) (b + as.length) (b + as.length + 1) .ellipsis
  ti : h.get? (b + as.length) = some { cls := .type "tuple", data := .seq ((List.range as.length).map fun j => Value.ref (b + j)).toArray }
  to : h.get? (b + as.length + 1) = some { cls := .type "tuple", data := .seq ys }
  sz : ys.size = as.length
  it : ∀ (j : Nat) a, as[j]? = some a → ItG a.1 h (b + j) a.2 (if j < i then t + 1 else t)
  src : ZSrc h as xss
  ys : ∀ (j : Nat) xs, j < i → xss[j]? = some xs → ys[j]? = xs[t]?
  hs : h.objs.size = h0.objs.size
  fr : ∀ c o, c < b ∨ b + as.length + 3 ≤ c → h0.get? c = some o → h.get? c = some o
section
variable {prog : Program} {w : World} {A : Around} {E : Value → Shared → Prop} {s : Shared} {b : Nat} {as : ZAs} {xss : List (Array Value)} {t : Nat}
theorem zipIdx_refs {n i : Nat} {x : Value × Nat} (h : ((List.range n).map fun j => Value.ref (b + j)).zipIdx[i]? = some x) : i < n ∧ x = (.ref (b + i), i) := by
  rw [List.getElem?_zipIdx, List.getElem?_map] at h
  by_cases z : i < n
  · rw [List.getElem?_range z] at h
    simp at h
    exact ⟨z, h.symm⟩
  · rw [List.getElem?_eq_none (by rw [List.length_range]; omega)] at h
    cases h
theorem ZLp.step {h0 h h' : Heap} {i : Nat} {ys : Array Value} {a : Bool × Nat} {xs : Array Value} {x : Value} (L : ZLp h0 h b as xss t i ys) (hb : ∀ a ∈ as, a.2 < b) (ha : as[i]? = some a) (hx : xss[i]? = some xs) (hxt : xs[t]? = some x)
    (st' : ItG a.1 h' (b + i) a.2 (t + 1)) (sb : Heap.SameBut (b + i) h h') : ∀ h'', h''.get? (b + as.length + 1) = some { cls := .type "tuple", data := .seq (ys.setIfInBounds i x) } → Heap.SameBut (b + as.length + 1) h' h'' → ZLp h0 h'' b as xss t (i + 1) (ys.setIfInBounds i x) := by
  intro h'' hT sb2
  have hi : i < as.length := (List.getElem?_eq_some_iff.mp ha).1
  have up : ∀ c o, c ≠ b + i → c ≠ b + as.length + 1 → h.get? c = some o → h''.get? c = some o := fun c o c1 c2 e => sb2.extBut _ _ c2 (sb.extBut _ _ c1 e)
  have hlt : ∀ a ∈ as, a.2 ≠ b + i ∧ a.2 ≠ b + as.length + 1 := fun a ha => by have := hb a ha; omega
  refine ⟨up _ _ (by (first | omega | (show @Ne Nat _ _; omega))) (by (first | omega | (show @Ne Nat _ _; omega))) L.z, up _ _ (by (first | omega | (show @Ne Nat _ _; omega))) (by (first | omega | (show @Ne Nat _ _; omega))) L.ti, hT, by rw [Array.size_setIfInBounds]; exact L.sz, fun j a' hj => ?_, L.src.moved fun a ha o e => up _ o (hlt a ha).1 (hlt a ha).2 e, fun j zs hj hz => ?_, by rw [sb2.1, sb.1]; exact L.hs, fun c o hc e => up c o (by (first | omega | (show @Ne Nat _ _; omega))) (by (first | omega | (show @Ne Nat _ _; omega))) (L.fr c o hc e)⟩
  · have hjl : j < as.length := (List.getElem?_eq_some_iff.mp hj).1
    by_cases z : j = i
    · subst z
      rw [if_pos (by (first | omega | (show @Ne Nat _ _; omega)))]
      rw [ha] at hj
      cases hj
      exact st'.moved fun o e => sb2.extBut _ _ (by (first | omega | (show @Ne Nat _ _; omega))) e
    · have := (L.it j a' hj).moved (h' := h'') fun o e => up _ o (by (first | omega | (show @Ne Nat _ _; omega))) (by (first | omega | (show @Ne Nat _ _; omega))) e
      by_cases z2 : j < i
      · rw [if_pos z2] at this
        rw [if_pos (by (first | omega | (show @Ne Nat _ _; omega)))]
        exact this
      · rw [if_neg z2] at this
        rw [if_neg (by (first | omega | (show @Ne Nat _ _; omega)))]
        exact this
  · by_cases z : j = i
    · subst z
      rw [hx] at hz
      cases hz
      rw [hxt, Array.getElem?_setIfInBounds_self, if_pos (by rw [L.sz]; exact hi)]
    · rw [Array.getElem?_setIfInBounds_ne (by (first | omega | (show @Ne Nat _ _; omega)))]
      exact L.ys j zs (by (first | omega | (show @Ne Nat _ _; omega))) hz
theorem zipN_item {Q : Value → Shared → Prop} (hh : A.handled = none) (hn : 0 < as.length) (hl : as.length ≤ 8) (st : ZSt s.heap b as .none t) (src : ZSrc s.heap as xss) (hb : ∀ a ∈ as, a.2 < b) (hlt : ∀ xs ∈ xss, t < xs.size)
    (hQ : ∀ h' tk (ys : Array Value), ys.size = as.length → (∀ (j : Nat) xs, xss[j]? = some xs → ys[j]? = xs[t]?) → ZSt h' b as (rawInt s.heap.objs.size) (t + 1) → h'.get? s.heap.objs.size = some { cls := .type "tuple", data := .seq ys } → h'.objs.size = s.heap.objs.size + 1 →
      (∀ c o, c < b ∨ b + as.length + 3 ≤ c → s.heap.get? c = some o → h'.get? c = some o) → Q (.ref s.heap.objs.size) { s with heap := h', toks := tk }) :
    wpAny (model prog w) A (Builtin.«zip.__next__» ⟨[.ref (b + as.length + 2)], []⟩) (fun fin s' => ∃ v, fin = .done (.ret v) ∧ Q v s') E s := by
  obtain ⟨hp, g, d, tk0, os⟩ := s
  obtain ⟨ys0, hys, hto⟩ := st.to
  show wpAny _ _ (field (.ref (b + as.length + 2)) 2 >>= _) _ _ _
  refine wpAny_bind (wpAny_field st.z rfl (x := .bool false) rfl ?_)
  show wpAny _ _ (field (.ref (b + as.length + 2)) 3 >>= _) _ _ _
  refine wpAny_bind (wpAny_field st.z rfl (x := .ref (b + as.length)) rfl ?_)
  refine wpAny_bind (wpAny_seqItems st.ti rfl ?_)
  have hne : ((List.range as.length).map fun j => Value.ref (b + j)).toArray.isEmpty = false := by
    cases h : as.length with
    | zero => omega
    | succ n => simp [List.range_succ_eq_map]
  simp only [hne, Bool.false_eq_true, if_false]
  show wpAny _ _ (Builtin.SmallTypes.ownedTupleIsFree (.ref (b + as.length + 2)) >>= _) _ _ _
  refine wpAny_bind ?_
  unfold Builtin.SmallTypes.ownedTupleIsFree
  refine wpAny_bind (wpAny_field st.z rfl (x := .none) rfl (wpAny_pure ?_))
  simp only [if_true]
  refine wpAny_bind (wpAny_rule ?_)
  refine wpAny_bind (wpAny_field st.z rfl (x := .ref (b + as.length + 1)) rfl ?_)
  refine wpAny_bind (wpAny_setField_rec st.z (by simp) fun g0 hz0 hs0 => ?_)
  replace hz0 : IsZip g0 (b + as.length + 2) (b + as.length) (b + as.length + 1) .ellipsis := hz0
  replace hs0 : Heap.SameBut (b + as.length + 2) hp g0 := hs0
  have lt2 : ∀ a ∈ as, a.2 ≠ b + as.length + 2 := fun a ha => by have := hb a ha; omega
  have L0 : ZLp hp g0 b as xss t 0 ys0 := ⟨hz0, hs0.extBut _ _ (by (first | omega | (show @Ne Nat _ _; omega))) st.ti, hs0.extBut _ _ (by (first | omega | (show @Ne Nat _ _; omega))) hto, hys, fun j a hj => (st.it j a hj).moved fun o e => hs0.extBut _ _ (by have := (List.getElem?_eq_some_iff.mp hj).1; (first | omega | (show @Ne Nat _ _; omega))) e,
    src.moved fun a ha o e => hs0.extBut _ _ (lt2 a ha) e, fun j xs hj => absurd hj (Nat.not_lt_zero _), hs0.1, fun c o hc e => hs0.extBut _ _ (by (first | omega | (show @Ne Nat _ _; omega))) e⟩
  refine wpAny_bind ?_
  refine forIn_yields (fun i r s' => r = ⟨none, PUnit.unit⟩ ∧ ∃ h tk ys, s' = ⟨h, g, d, tk, os⟩ ∧ ZLp hp h b as xss t i ys) _ 0 _ _ (fun j x r s' hx ⟨hr, h, tk, ys, es, L⟩ => ?_) (fun r s' ⟨hr, h, tk, ys, es, L⟩ => ?_) ⟨rfl, g0, tk0, ys0, rfl, L0⟩
  · subst hr es
    rw [Nat.zero_add] at L ⊢
    obtain ⟨hj, rfl⟩ := zipIdx_refs hx
    obtain ⟨a, ha⟩ : ∃ a, as[j]? = some a := ⟨_, List.getElem?_eq_getElem hj⟩
    obtain ⟨xs, hxs⟩ : ∃ xs, xss[j]? = some xs := ⟨_, List.getElem?_eq_getElem (by rw [← src.1]; exact hj)⟩
    have hax := hb a (List.mem_of_getElem? ha)
    refine wpAny_bind (wpAny_onRaise ?_)
    show wpAny _ _ (Builtin.SmallTypes.nextOf (.ref (b + j)) >>= _) _ _ ⟨h, g, d, tk, os⟩
    have it0 := L.it j a ha
    rw [if_neg (Nat.lt_irrefl j)] at it0
    refine wpAny_bind ((draws_G (P := prog) (w := w) (A := A) a.1 hh (b + j) a.2 (by (first | omega | (show @Ne Nat _ _; omega))) xs).item t _ _ _ (hlt xs (List.mem_of_getElem? hxs)) ⟨it0, L.src.2 j a xs ha hxs⟩ fun x1 h1 tk1 hx1 sn1 sb1 => wpAny_pure ?_)
    replace sb1 : Heap.SameBut (b + j) h h1 := sb1
    have hU : h1.get? (b + as.length + 1) = some { cls := .type "tuple", data := .seq ys } := sb1.extBut _ _ (by (first | omega | (show @Ne Nat _ _; omega))) L.to
    refine wpAny_bind (wpAny_seqItems (s := ⟨h1, g, d, tk1, os⟩) hU rfl ?_)
    refine wpAny_bind (wpAny_updateSeq (s := ⟨h1, g, d, tk1, os⟩) hU rfl ?_ (by rw [L.sz, sizeLine_eq]; omega) (by rw [Array.size_setIfInBounds, L.sz, sizeLine_eq]; omega))
    refine wpAny_bind (wpAny_letGo (wpAny_pure ?_))
    exact ⟨_, rfl, rfl, _, tk1, _, rfl, L.step hb ha hxs hx1 sn1.1 sb1 _ (by rw [Heap.get?_update_self _ hU rfl]; simp [Obj.mapSeq]) (Heap.SameBut.update ..)⟩
  · subst hr es
    rw [Nat.zero_add, List.length_zipIdx, List.length_map, List.length_range] at L
    refine wpAny_bind (wpAny_seqItems (s := ⟨h, g, d, tk, os⟩) L.to rfl ?_)
    refine wpAny_bind (wpAny_newTuple ?_ (by rw [Array.length_toList, L.sz, sizeLine_eq]; omega))
    have hsz : h.objs.size = hp.objs.size := L.hs
    have hzlt : b + as.length + 2 < h.objs.size := Heap.lt_size L.z
    have eT : ys.toList.toArray = ys := by simp
    rw [eT]
    show wpAny _ _ (Builtin.SmallTypes.ownedTupleHandOut (.ref (b + as.length + 2)) (.ref h.objs.size) >>= _) _ _ ⟨h.push { cls := .type "tuple", data := .seq ys }, g, d, tk, os⟩
    refine wpAny_bind ?_
    unfold Builtin.SmallTypes.ownedTupleHandOut
    have hz₆ : IsZip (h.push { cls := .type "tuple", data := .seq ys }) (b + as.length + 2) (b + as.length) (b + as.length + 1) .ellipsis := Heap.get?_push_of_some _ L.z
    refine wpAny_bind (wpAny_setField_rec hz₆ (by simp) fun h₇ hz₇ hs₇ => ?_)
    replace hz₇ : IsZip h₇ (b + as.length + 2) (b + as.length) (b + as.length + 1) (rawInt h.objs.size) := hz₇
    refine wpAny_setField_rec hz₇ (by simp) fun h₈ hz₈ hs₈ => ?_
    replace hz₈ : IsZip h₈ (b + as.length + 2) (b + as.length) (b + as.length + 1) (rawInt h.objs.size) := hz₈
    replace hs₇ : Heap.SameBut (b + as.length + 2) (h.push { cls := .type "tuple", data := .seq ys }) h₇ := hs₇
    replace hs₈ : Heap.SameBut (b + as.length + 2) h₇ h₈ := hs₈
    have up : ∀ c o, c ≠ b + as.length + 2 → h.get? c = some o → h₈.get? c = some o := fun c o c1 e => hs₈.extBut _ _ c1 (hs₇.extBut _ _ c1 (Heap.get?_push_of_some _ e))
    have hT₈ : h₈.get? h.objs.size = some { cls := .type "tuple", data := .seq ys } := hs₈.extBut _ _ (Nat.ne_of_gt hzlt) (hs₇.extBut _ _ (Nat.ne_of_gt hzlt) (Heap.get?_push_size _ rfl))
    have hz8 : h₈.objs.size = h.objs.size + 1 := by rw [hs₈.1, hs₇.1, Heap.size_push]
    rw [hsz] at hz₈ hT₈ hz8
    refine wpAny_pure ⟨_, rfl, ?_⟩
    show Q (.ref h.objs.size) ⟨h₈, g, d, tk, os⟩
    rw [hsz]
    refine hQ h₈ tk ys L.sz (fun j xs hx => L.ys j xs (by have := (List.getElem?_eq_some_iff.mp hx).1; rw [src.1]; exact this) hx) ⟨hz₈, up _ _ (by (first | omega | (show @Ne Nat _ _; omega))) L.ti, ⟨ys, L.sz, up _ _ (by (first | omega | (show @Ne Nat _ _; omega))) L.to⟩, fun j a hj => ?_⟩ hT₈ hz8 fun c o hc e => up c o (by (first | omega | (show @Ne Nat _ _; omega))) (L.fr c o hc e)
    have hjl := (List.getElem?_eq_some_iff.mp hj).1
    have := L.it j a hj
    rw [if_pos hjl] at this
    exact this.moved fun o e => up _ o (by (first | omega | (show @Ne Nat _ _; omega))) e
theorem zipN_end {Q : Fin → Shared → Prop} (hh : A.handled = none) (hn : 0 < as.length) (hl : as.length ≤ 8) (st : ZSt s.heap b as .none t) (src : ZSrc s.heap as xss) (hb : ∀ a ∈ as, a.2 < b) {j0 : Nat} {xs0 : Array Value} (hj0 : xss[j0]? = some xs0) (h0 : xs0.size = t) (hlt : ∀ (j : Nat) xs, j < j0 → xss[j]? = some xs → t < xs.size)
    (hE : ∀ h' tk e, (∀ c o, c < b ∨ b + as.length + 3 ≤ c → s.heap.get? c = some o → h'.get? c = some o) → (∃ o, h'.get? e = some o ∧ o.cls = .type "StopIteration") → E (.ref e) { s with heap := h', toks := tk }) :
    wpAny (model prog w) A (Builtin.«zip.__next__» ⟨[.ref (b + as.length + 2)], []⟩) Q E s := by
  obtain ⟨hp, g, d, tk0, os⟩ := s
  obtain ⟨ys0, hys, hto⟩ := st.to
  show wpAny _ _ (field (.ref (b + as.length + 2)) 2 >>= _) _ _ _
  refine wpAny_bind (wpAny_field st.z rfl (x := .bool false) rfl ?_)
  show wpAny _ _ (field (.ref (b + as.length + 2)) 3 >>= _) _ _ _
  refine wpAny_bind (wpAny_field st.z rfl (x := .ref (b + as.length)) rfl ?_)
  refine wpAny_bind (wpAny_seqItems st.ti rfl ?_)
  have hne : ((List.range as.length).map fun j => Value.ref (b + j)).toArray.isEmpty = false := by
    cases h : as.length with
    | zero => omega
    | succ n => simp [List.range_succ_eq_map]
  simp only [hne, Bool.false_eq_true, if_false]
  show wpAny _ _ (Builtin.SmallTypes.ownedTupleIsFree (.ref (b + as.length + 2)) >>= _) _ _ _
  refine wpAny_bind ?_
  unfold Builtin.SmallTypes.ownedTupleIsFree
  refine wpAny_bind (wpAny_field st.z rfl (x := .none) rfl (wpAny_pure ?_))
  simp only [if_true]
  refine wpAny_bind (wpAny_rule ?_)
  refine wpAny_bind (wpAny_field st.z rfl (x := .ref (b + as.length + 1)) rfl ?_)
  refine wpAny_bind (wpAny_setField_rec st.z (by simp) fun g0 hz0 hs0 => ?_)
  replace hz0 : IsZip g0 (b + as.length + 2) (b + as.length) (b + as.length + 1) .ellipsis := hz0
  replace hs0 : Heap.SameBut (b + as.length + 2) hp g0 := hs0
  have lt2 : ∀ a ∈ as, a.2 ≠ b + as.length + 2 := fun a ha => by have := hb a ha; omega
  have L0 : ZLp hp g0 b as xss t 0 ys0 := ⟨hz0, hs0.extBut _ _ (by (first | omega | (show @Ne Nat _ _; omega))) st.ti, hs0.extBut _ _ (by (first | omega | (show @Ne Nat _ _; omega))) hto, hys, fun j a hj => (st.it j a hj).moved fun o e => hs0.extBut _ _ (by have := (List.getElem?_eq_some_iff.mp hj).1; (first | omega | (show @Ne Nat _ _; omega))) e,
    src.moved fun a ha o e => hs0.extBut _ _ (lt2 a ha) e, fun j xs hj => absurd hj (Nat.not_lt_zero _), hs0.1, fun c o hc e => hs0.extBut _ _ (by (first | omega | (show @Ne Nat _ _; omega))) e⟩
  have hj0l : j0 < as.length := by rw [src.1]; exact (List.getElem?_eq_some_iff.mp hj0).1
  refine wpAny_bind ?_
  refine forIn_yields (fun i r s' => i ≤ j0 ∧ r = ⟨none, PUnit.unit⟩ ∧ ∃ h tk ys, s' = ⟨h, g, d, tk, os⟩ ∧ ZLp hp h b as xss t i ys) _ 0 _ _ (fun j x r s' hx ⟨hle, hr, h, tk, ys, es, L⟩ => ?_) (fun r s' ⟨hle, hr, h, tk, ys, es, L⟩ => ?_) ⟨Nat.zero_le _, rfl, g0, tk0, ys0, rfl, L0⟩
  · subst hr es
    rw [Nat.zero_add] at L hle ⊢
    obtain ⟨hj, rfl⟩ := zipIdx_refs hx
    obtain ⟨a, ha⟩ : ∃ a, as[j]? = some a := ⟨_, List.getElem?_eq_getElem hj⟩
    obtain ⟨xs, hxs⟩ : ∃ xs, xss[j]? = some xs := ⟨_, List.getElem?_eq_getElem (by rw [← src.1]; exact hj)⟩
    have hax := hb a (List.mem_of_getElem? ha)
    refine wpAny_bind (wpAny_onRaise ?_)
    show wpAny _ _ (Builtin.SmallTypes.nextOf (.ref (b + j)) >>= _) _ _ ⟨h, g, d, tk, os⟩
    have it0 := L.it j a ha
    rw [if_neg (Nat.lt_irrefl j)] at it0
    by_cases z : j = j0
    · subst z
      rw [hj0] at hxs
      cases hxs
      subst h0
      refine wpAny_bind ((draws_G (P := prog) (w := w) (A := A) a.1 hh (b + j) a.2 (by (first | omega | (show @Ne Nat _ _; omega))) xs0).done ⟨h, g, d, tk, os⟩ _ _ ⟨it0, L.src.2 j a xs0 ha hj0⟩ fun q e hq he => ?_)
      replace hq : Heap.ExtBut (b + j) h q := hq
      obtain ⟨oe, hoe, hce⟩ := he
      replace hoe : q.get? e = some oe := hoe
      have hzq : IsZip q (b + as.length + 2) (b + as.length) (b + as.length + 1) .ellipsis := hq _ _ (by (first | omega | (show @Ne Nat _ _; omega))) L.z
      have hez : e ≠ b + as.length + 2 := fun x => by subst x; rw [hzq] at hoe; cases hoe; simp at hce
      refine wpAny_setField_rec (s := ⟨q, g, d, tk, os⟩) hzq (by simp) fun q' _ hq' => ?_
      replace hq' : Heap.SameBut (b + as.length + 2) q q' := hq'
      exact hE q' tk e (fun c o hc x => hq'.extBut _ _ (by (first | omega | (show @Ne Nat _ _; omega))) (hq _ _ (by (first | omega | (show @Ne Nat _ _; omega))) (L.fr c o hc x))) ⟨oe, hq'.extBut _ _ hez hoe, hce⟩
    · refine wpAny_bind ((draws_G (P := prog) (w := w) (A := A) a.1 hh (b + j) a.2 (by (first | omega | (show @Ne Nat _ _; omega))) xs).item t _ _ _ (hlt j xs (by omega) hxs) ⟨it0, L.src.2 j a xs ha hxs⟩ fun x1 h1 tk1 hx1 sn1 sb1 => wpAny_pure ?_)
      replace sb1 : Heap.SameBut (b + j) h h1 := sb1
      have hU : h1.get? (b + as.length + 1) = some { cls := .type "tuple", data := .seq ys } := sb1.extBut _ _ (by (first | omega | (show @Ne Nat _ _; omega))) L.to
      refine wpAny_bind (wpAny_seqItems (s := ⟨h1, g, d, tk1, os⟩) hU rfl ?_)
      refine wpAny_bind (wpAny_updateSeq (s := ⟨h1, g, d, tk1, os⟩) hU rfl ?_ (by rw [L.sz, sizeLine_eq]; omega) (by rw [Array.size_setIfInBounds, L.sz, sizeLine_eq]; omega))
      refine wpAny_bind (wpAny_letGo (wpAny_pure ?_))
      exact ⟨_, rfl, by omega, rfl, _, tk1, _, rfl, L.step hb ha hxs hx1 sn1.1 sb1 _ (by rw [Heap.get?_update_self _ hU rfl]; simp [Obj.mapSeq]) (Heap.SameBut.update ..)⟩
  · rw [Nat.zero_add, List.length_zipIdx, List.length_map, List.length_range] at hle
    omega
theorem pyNext_zipN_item {Q : Option Value → Shared → Prop} (hh : A.handled = none) (hn : 0 < as.length) (hl : as.length ≤ 8) (st : ZSt s.heap b as .none t) (src : ZSrc s.heap as xss) (hb : ∀ a ∈ as, a.2 < b) (hlt : ∀ xs ∈ xss, t < xs.size)
    (hQ : ∀ h' tk (ys : Array Value), ys.size = as.length → (∀ (j : Nat) xs, xss[j]? = some xs → ys[j]? = xs[t]?) → ZSt h' b as (rawInt s.heap.objs.size) (t + 1) → h'.get? s.heap.objs.size = some { cls := .type "tuple", data := .seq ys } → h'.objs.size = s.heap.objs.size + 1 →
      (∀ c o, c < b ∨ b + as.length + 3 ≤ c → s.heap.get? c = some o → h'.get? c = some o) → Q (some (.ref s.heap.objs.size)) { s with heap := h', toks := tk }) :
    wpAny (model prog w) A (pyNext (.ref (b + as.length + 2))) Q E s := by
  have hT : s.TypeIs (.ref (b + as.length + 2)) "zip" := ⟨_, st.z, rfl⟩
  unfold pyNext
  exact wpAny_bind (wpAny_attempt (wpAny_callSpecial?_slot (name := Str.ofString "__next__") hT F.slot_zip_next
    (wpAny_call_entry F.slot_zip_next hT F.entry_zip_next
      (zipN_item hh hn hl st src hb hlt fun h' tk ys y1 y2 b1 b2 b3 b4 => wpAny_pure (hQ h' tk ys y1 y2 b1 b2 b3 b4)) (F.args_zip_next_1 _))))
theorem pyNext_zipN_end {Q : Option Value → Shared → Prop} (hh : A.handled = none) (hn : 0 < as.length) (hl : as.length ≤ 8) (st : ZSt s.heap b as .none t) (src : ZSrc s.heap as xss) (hb : ∀ a ∈ as, a.2 < b) {j0 : Nat} {xs0 : Array Value} (hj0 : xss[j0]? = some xs0) (h0 : xs0.size = t) (hlt : ∀ (j : Nat) xs, j < j0 → xss[j]? = some xs → t < xs.size)
    (hQ : ∀ h' tk, (∀ c o, c < b ∨ b + as.length + 3 ≤ c → s.heap.get? c = some o → h'.get? c = some o) → Q none { s with heap := h', toks := tk }) : wpAny (model prog w) A (pyNext (.ref (b + as.length + 2))) Q E s := by
  have hT : s.TypeIs (.ref (b + as.length + 2)) "zip" := ⟨_, st.z, rfl⟩
  unfold pyNext
  refine wpAny_bind (wpAny_attempt (wpAny_callSpecial?_slot (name := Str.ofString "__next__") hT F.slot_zip_next
    (wpAny_call_entry F.slot_zip_next hT F.entry_zip_next (zipN_end hh hn hl st src hb hj0 h0 hlt fun h' tk e hk he => ?_) (F.args_zip_next_1 _))))
  obtain ⟨o, ho, hc⟩ := he
  refine wpAny_bind (wpAny_isInstance (T := "StopIteration") (b := true) ⟨o, ho, hc⟩ isSubtype_stop ?_)
  exact wpAny_pure (hQ _ _ hk)
/-! its beginning -/
theorem typeCall_zipN : ∀ args : List Value, args.length ≤ 8 → checkTypeCall "zip" ⟨args, []⟩ = pure ()
  | [], _ => by kernel_rfl
  | [_], _ => by kernel_rfl
  | [_, _], _ => by kernel_rfl
  | [_, _, _], _ => by kernel_rfl
  | [_, _, _, _], _ => by kernel_rfl
  | [_, _, _, _, _], _ => by kernel_rfl
  | [_, _, _, _, _, _], _ => by kernel_rfl
  | [_, _, _, _, _, _, _], _ => by kernel_rfl
  | [_, _, _, _, _, _, _, _], _ => by kernel_rfl
  | _ :: _ :: _ :: _ :: _ :: _ :: _ :: _ :: _ :: _, h => by simp at h
theorem newCall_zipN : ∀ args : List Value, args.length ≤ 8 → checkBuiltinCall "zip.__new__" ⟨.type "zip" :: args, []⟩ = pure ()
  | [], _ => by kernel_rfl
  | [_], _ => by kernel_rfl
  | [_, _], _ => by kernel_rfl
  | [_, _, _], _ => by kernel_rfl
  | [_, _, _, _], _ => by kernel_rfl
  | [_, _, _, _, _], _ => by kernel_rfl
  | [_, _, _, _, _, _], _ => by kernel_rfl
  | [_, _, _, _, _, _, _], _ => by kernel_rfl
  | [_, _, _, _, _, _, _, _], _ => by kernel_rfl
  | _ :: _ :: _ :: _ :: _ :: _ :: _ :: _ :: _ :: _, h => by simp at h
theorem args_object_initN (obj : Value) : ∀ args : List Value, args.length ≤ 8 → argsOk "object.__init__" ⟨obj :: args, []⟩
  | [], _ => by unfold argsOk; kernel_rfl
  | [_], _ => by unfold argsOk; kernel_rfl
  | [_, _], _ => by unfold argsOk; kernel_rfl
  | [_, _, _], _ => by unfold argsOk; kernel_rfl
  | [_, _, _, _], _ => by unfold argsOk; kernel_rfl
  | [_, _, _, _, _], _ => by unfold argsOk; kernel_rfl
  | [_, _, _, _, _, _], _ => by unfold argsOk; kernel_rfl
  | [_, _, _, _, _, _, _], _ => by unfold argsOk; kernel_rfl
  | [_, _, _, _, _, _, _, _], _ => by unfold argsOk; kernel_rfl
  | _ :: _ :: _ :: _ :: _ :: _ :: _ :: _ :: _ :: _, h => by simp at h
theorem newClass_zip (args : List Value) : Builtin.SmallTypes.newClass "zip" ⟨.type "zip" :: args, []⟩ = pure (.type "zip", args) := by
  unfold Builtin.SmallTypes.newClass
  simp only [isType, sub_zip, pure_bind, Bool.not_true, Bool.false_eq_true, if_false]
/-- the heap once i of the iterators are made -/
structure ZBg (h0 h : Heap) (as : ZAs) (i : Nat) : Prop where
  sz : h.objs.size = h0.objs.size + i
  it : ∀ (j : Nat) a, j < i → as[j]? = some a → h.get? (h0.objs.size + j) = some (obG a.1 a.2)
  fr : ∀ c o, h0.get? c = some o → h.get? c = some o
theorem obG_free (k : Bool) (a : Addr) : (obG k a).isFreed = false := by cases k <;> rfl
section
variable {prog : Program} {w : World} {A : Around} {E : Value → Shared → Prop} {s : Shared} {as : ZAs} {xss : List (Array Value)}
theorem ZBg.iterAll {Q : List Value → Shared → Prop} (src : ZSrc s.heap as xss) (hQ : ∀ h', ZBg s.heap h' as as.length → Q ((List.range as.length).map fun j => Value.ref (s.heap.objs.size + j)) { s with heap := h' }) :
    wpAny (model prog w) A (Builtin.SmallTypes.iterAll (as.map fun a => Value.ref a.2)) Q E s := by
  obtain ⟨hp, g, d, tk, os⟩ := s
  unfold Builtin.SmallTypes.iterAll
  refine wpAny_bind ?_
  refine forIn_yields (fun i r s' => i ≤ as.length ∧ r.toList = ((List.range i).map fun j => Value.ref (hp.objs.size + j)) ∧ ∃ h, s' = ⟨h, g, d, tk, os⟩ ∧ ZBg hp h as i) _ 0 _ _ (fun j x r s' hx ⟨hle, hr, h, es, Z⟩ => ?_) (fun r s' ⟨hle, hr, h, es, Z⟩ => ?_) ⟨Nat.zero_le _, rfl, hp, rfl, rfl, fun j a hj => absurd hj (Nat.not_lt_zero _), fun c o e => e⟩
  · subst es
    rw [Nat.zero_add] at Z hr hle ⊢
    rw [List.getElem?_map] at hx
    cases ha : as[j]? with
    | none => rw [ha] at hx; cases hx
    | some a =>
      rw [ha] at hx
      cases hx
      have hj : j < as.length := (List.getElem?_eq_some_iff.mp ha).1
      obtain ⟨xs, hxs⟩ : ∃ xs, xss[j]? = some xs := ⟨_, List.getElem?_eq_getElem (by rw [← src.1]; exact hj)⟩
      refine wpAny_bind (wpAny_holding ((begins_G a.1 a.2 xs).iter prog w A E ⟨h, g, d, tk, os⟩ _ ((src.2 j a xs ha hxs).moved fun o e => Z.fr _ o e) ?_))
      refine wpAny_pure ⟨_, rfl, by omega, ?_, _, rfl, by rw [Heap.size_push, Z.sz]; omega, fun k a' hk ha' => ?_, fun c o e => Heap.get?_push_of_some _ (Z.fr c o e)⟩
      · rw [Array.toList_push, hr, List.range_succ, List.map_append]
        show _ = _ ++ [Value.ref (hp.objs.size + j)]
        rw [← Z.sz]
      · by_cases z : k = j
        · subst z
          rw [ha] at ha'
          cases ha'
          have := Heap.get?_push_size (h := h) (o := obG a.1 a.2) (obG_free a.1 a.2)
          rw [Z.sz] at this
          exact this
        · exact Heap.get?_push_of_some _ (Z.it k a' (by omega) ha')
  · subst es
    rw [Nat.zero_add, List.length_map] at Z hr
    refine wpAny_pure ?_
    show Q r.toList _
    rw [hr]
    exact hQ h Z
theorem zipN_new {Q : Value → Shared → Prop} (hl : as.length ≤ 8) (src : ZSrc s.heap as xss)
    (hQ : ∀ h', ZSt h' s.heap.objs.size as .none 0 → h'.objs.size = s.heap.objs.size + as.length + 3 → (∀ c o, s.heap.get? c = some o → h'.get? c = some o) → Q (.ref (s.heap.objs.size + as.length + 2)) { s with heap := h' }) :
    wpAny (model prog w) A (Builtin.«zip.__new__» ⟨.type "zip" :: as.map fun a => Value.ref a.2, []⟩) (fun fin s' => ∃ v, fin = .done (.ret v) ∧ Q v s') E s := by
  unfold Builtin.«zip.__new__»
  refine wpAny_bind (wpAny_of_eq (newClass_zip _) ?_)
  dsimp only [List.length_nil]
  rw [if_neg (by decide)]
  refine wpAny_bind (ZBg.iterAll src fun h Z => ?_)
  obtain ⟨hp, g, d, tk, os⟩ := s
  have sl : as.length ≤ sizeLine := by rw [sizeLine_eq]; omega
  refine wpAny_bind (wpAny_newTuple ?_ (by rw [List.length_map, List.length_range]; exact sl))
  refine wpAny_bind (wpAny_newTuple ?_ (by rw [List.length_map, List.length_map, List.length_range]; exact sl))
  have eN : (((List.range as.length).map fun j => Value.ref (hp.objs.size + j)).map fun _ => Value.none).toArray.size = as.length := by rw [List.size_toArray, List.length_map, List.length_map, List.length_range]
  refine wpAny_bind ?_
  unfold Builtin.SmallTypes.newRecord
  have hz := Z.sz
  replace hz : h.objs.size = hp.objs.size + as.length := hz
  have hQ' : ∀ h', ZSt h' hp.objs.size as .none 0 → h'.objs.size = hp.objs.size + as.length + 3 → (∀ c o, hp.get? c = some o → h'.get? c = some o) → Q (.ref (hp.objs.size + as.length + 2)) ⟨h', g, d, tk, os⟩ := hQ
  generalize hT : ((List.range as.length).map fun j => Value.ref (hp.objs.size + j)) = refs
  have lr : refs.length = as.length := by rw [← hT, List.length_map, List.length_range]
  generalize hT2 : (refs.map fun _ => Value.none) = nons
  have ln : nons.length = as.length := by rw [← hT2, List.length_map, lr]
  refine wpAny_newObj_type ?_ (by show (5 : Nat) ≤ sizeLine + 2; decide)
  refine wpAny_pure ⟨_, rfl, ?_⟩
  have e1 : (h.push { cls := .type "tuple", data := .seq refs.toArray }).objs.size = hp.objs.size + as.length + 1 := by rw [Heap.size_push, hz]
  have e2 : ((h.push { cls := .type "tuple", data := .seq refs.toArray }).push { cls := .type "tuple", data := .seq nons.toArray }).objs.size = hp.objs.size + as.length + 2 := by rw [Heap.size_push, e1]
  show Q (.ref ((h.push { cls := .type "tuple", data := .seq refs.toArray }).push { cls := .type "tuple", data := .seq nons.toArray }).objs.size) _
  rw [e2]
  refine hQ' _ ⟨?_, ?_, ⟨nons.toArray, by rw [List.size_toArray, ln], ?_⟩, fun j a hj => ?_⟩ (by rw [Heap.size_push, e2]) fun c o e => Heap.get?_push_of_some _ (Heap.get?_push_of_some _ (Heap.get?_push_of_some _ (Z.fr c o e)))
  · have := Heap.get?_push_size (h := (h.push { cls := .type "tuple", data := .seq refs.toArray }).push { cls := .type "tuple", data := .seq nons.toArray }) (o := { cls := .type "zip", data := .fields #[.none, .bool false, .bool false, .ref h.objs.size, .ref (h.push { cls := .type "tuple", data := .seq refs.toArray }).objs.size] }) rfl
    rw [e2] at this
    exact this.trans (by rw [e1, hz])
  · rw [hT]
    have := Heap.get?_push_size (h := h) (o := { cls := .type "tuple", data := .seq refs.toArray }) rfl
    rw [hz] at this
    exact Heap.get?_push_of_some _ (Heap.get?_push_of_some _ this)
  · have := Heap.get?_push_size (h := h.push { cls := .type "tuple", data := .seq refs.toArray }) (o := { cls := .type "tuple", data := .seq nons.toArray }) rfl
    rw [e1] at this
    exact Heap.get?_push_of_some _ this
  · have hjl := (List.getElem?_eq_some_iff.mp hj).1
    exact obG_it (Heap.get?_push_of_some _ (Heap.get?_push_of_some _ (Heap.get?_push_of_some _ (Z.it j a hjl hj))))
theorem zipN_begins {Q : Value → Shared → Prop} (hl : as.length ≤ 8) (src : ZSrc s.heap as xss)
    (hQ : ∀ h', ZSt h' s.heap.objs.size as .none 0 → h'.objs.size = s.heap.objs.size + as.length + 3 → (∀ c o, s.heap.get? c = some o → h'.get? c = some o) → Q (.ref (s.heap.objs.size + as.length + 2)) { s with heap := h' }) :
    wpAny (model prog w) A (call (.type "zip") (as.map fun a => Value.ref a.2)) Q E s := by
  have ll : (as.map fun a => Value.ref a.2).length ≤ 8 := by rw [List.length_map]; exact hl
  refine callType_new (S := fun _ R s' => s' = s ∧ ∀ h', ZSt h' s.heap.objs.size as .none 0 → h'.objs.size = s.heap.objs.size + as.length + 3 → (∀ c o, s.heap.get? c = some o → h'.get? c = some o) → R (.ok (.ret (.ref (s.heap.objs.size + as.length + 2)))) { s with heap := h' })
    F.called_zip (by decide) (typeCall_zipN _ ll) (newCall_zipN _ ll) (fun obj => args_object_initN obj _ ll) F.entry_zip_new (fun prog' w' A' R s' ⟨es, h⟩ => ?_) ⟨rfl, fun h' st hs hk => ⟨⟨_, st.z, rfl⟩, hQ h' st hs hk⟩⟩
  subst es
  exact wpAny_mono (zipN_new (Q := fun v s' => R (.ok (.ret v)) s') (E := fun e s' => R (.error e) s') hl src fun h' st hs hk => h h' st hs hk) (fun fin s' ⟨v, e, q⟩ => by subst e; exact q) fun _ _ e => e
end
end
/-! the turns once a tuple that was handed out lives on -/
structure ZS2 (h : Heap) (b : Nat) (as : ZAs) (t : Nat) : Prop where
  z : ∃ (a : Nat) (f : Bool) (oa : Obj), h.get? (b + as.length + 2) = some { cls := .type "zip", data := .fields #[rawInt a, .bool f, .bool false, .ref (b + as.length), .ref (b + as.length + 1)] } ∧ h.get? a = some oa ∧ b + as.length + 3 ≤ a
  ti : h.get? (b + as.length) = some { cls := .type "tuple", data := .seq ((List.range as.length).map fun j => Value.ref (b + j)).toArray }
  it : ∀ (j : Nat) a, as[j]? = some a → ItG a.1 h (b + j) a.2 t
/-- within the loop of such a turn -/
structure ZL2 (h0 h : Heap) (b : Nat) (as : ZAs) (xss : List (Array Value)) (t i : Nat) (ys : Array Value) : Prop where
  z : ∃ (a : Nat) (f : Bool) (oa : Obj), h.get? (b + as.length + 2) = some { cls := .type "zip", data := .fields #[rawInt a, .bool f, .bool false, .ref (b + as.length), .ref (b + as.length + 1)] } ∧ h.get? a = some oa ∧ b + as.length + 3 ≤ a
  ti : h.get? (b + as.length) = some { cls := .type "tuple", data := .seq ((List.range as.length).map fun j => Value.ref (b + j)).toArray }
  sz : ys.size = i
  it : ∀ (j : Nat) a, as[j]? = some a → ItG a.1 h (b + j) a.2 (if j < i then t + 1 else t)
  src : ZSrc h as xss
  ys : ∀ (j : Nat) xs, j < i → xss[j]? = some xs → ys[j]? = xs[t]?
  hs : h.objs.size = h0.objs.size
  fr : ∀ c o, c < b ∨ b + as.length + 3 ≤ c → h0.get? c = some o → h.get? c = some o
section
variable {prog : Program} {w : World} {A : Around} {E : Value → Shared → Prop} {s : Shared} {b : Nat} {as : ZAs} {xss : List (Array Value)} {t : Nat}
theorem ZL2.step {h0 h h' : Heap} {i : Nat} {ys : Array Value} {a : Bool × Nat} {xs : Array Value} {x : Value} (L : ZL2 h0 h b as xss t i ys) (hb : ∀ a ∈ as, a.2 < b) (ha : as[i]? = some a) (hx : xss[i]? = some xs) (hxt : xs[t]? = some x)
    (st' : ItG a.1 h' (b + i) a.2 (t + 1)) (sb : Heap.SameBut (b + i) h h') : ZL2 h0 h' b as xss t (i + 1) (ys.push x) := by
  have hi : i < as.length := (List.getElem?_eq_some_iff.mp ha).1
  have up : ∀ c o, c ≠ b + i → h.get? c = some o → h'.get? c = some o := fun c o c1 e => sb.extBut _ _ c1 e
  have hlt : ∀ a ∈ as, a.2 ≠ b + i := fun a ha => by have := hb a ha; omega
  obtain ⟨az, f, oa, z1, z2, z3⟩ := L.z
  refine ⟨⟨az, f, oa, up _ _ (by (first | omega | (show @Ne Nat _ _; omega))) z1, up _ _ (by (first | omega | (show @Ne Nat _ _; omega))) z2, z3⟩, up _ _ (by (first | omega | (show @Ne Nat _ _; omega))) L.ti, by rw [Array.size_push, L.sz], fun j a' hj => ?_, L.src.moved fun a ha o e => up _ o (hlt a ha) e, fun j zs hj hz => ?_, by rw [sb.1]; exact L.hs, fun c o hc e => up c o (by (first | omega | (show @Ne Nat _ _; omega))) (L.fr c o hc e)⟩
  · by_cases z : j = i
    · subst z
      rw [if_pos (by (first | omega | (show @Ne Nat _ _; omega)))]
      rw [ha] at hj
      cases hj
      exact st'
    · have := (L.it j a' hj).moved (h' := h') fun o e => up _ o (by (first | omega | (show @Ne Nat _ _; omega))) e
      by_cases z2 : j < i
      · rw [if_pos z2] at this
        rw [if_pos (by (first | omega | (show @Ne Nat _ _; omega)))]
        exact this
      · rw [if_neg z2] at this
        rw [if_neg (by (first | omega | (show @Ne Nat _ _; omega)))]
        exact this
  · by_cases z : j = i
    · subst z
      rw [hx] at hz
      cases hz
      rw [hxt, ← L.sz, Array.getElem?_push_size]
    · rw [Array.getElem?_push, if_neg (by rw [L.sz]; exact z)]
      exact L.ys j zs (by (first | omega | (show @Ne Nat _ _; omega))) hz
theorem loadIfAlive_some {a : Addr} {o : Obj} {Q : Option Obj → Shared → Prop} (ho : s.heap.get? a = some o) (h : Q (some o) s) : wpAny (model prog w) A (loadIfAlive a) Q E s := by
  have h' : Q (s.heap.get? a) s := by rw [ho]; exact h
  exact fun _ _ _ => h'
theorem zipN_item2 {Q : Value → Shared → Prop} (hh : A.handled = none) (hn : 0 < as.length) (hl : as.length ≤ 8) (st : ZS2 s.heap b as t) (src : ZSrc s.heap as xss) (hb : ∀ a ∈ as, a.2 < b) (hlt : ∀ xs ∈ xss, t < xs.size)
    (hQ : ∀ h' tk (ys : Array Value), ys.size = as.length → (∀ (j : Nat) xs, xss[j]? = some xs → ys[j]? = xs[t]?) → ZS2 h' b as (t + 1) → h'.get? s.heap.objs.size = some { cls := .type "tuple", data := .seq ys } → h'.objs.size = s.heap.objs.size + 1 →
      (∀ c o, c < b ∨ b + as.length + 3 ≤ c → s.heap.get? c = some o → h'.get? c = some o) → Q (.ref s.heap.objs.size) { s with heap := h', toks := tk }) :
    wpAny (model prog w) A (Builtin.«zip.__next__» ⟨[.ref (b + as.length + 2)], []⟩) (fun fin s' => ∃ v, fin = .done (.ret v) ∧ Q v s') E s := by
  obtain ⟨hp, g, d, tk0, os⟩ := s
  obtain ⟨az, f, oa, z1, z2, z3⟩ := st.z
  show wpAny _ _ (field (.ref (b + as.length + 2)) 2 >>= _) _ _ _
  refine wpAny_bind (wpAny_field z1 rfl (x := .bool false) rfl ?_)
  show wpAny _ _ (field (.ref (b + as.length + 2)) 3 >>= _) _ _ _
  refine wpAny_bind (wpAny_field z1 rfl (x := .ref (b + as.length)) rfl ?_)
  refine wpAny_bind (wpAny_seqItems st.ti rfl ?_)
  have hne : ((List.range as.length).map fun j => Value.ref (b + j)).toArray.isEmpty = false := by
    cases h : as.length with
    | zero => omega
    | succ n => simp [List.range_succ_eq_map]
  simp only [hne, Bool.false_eq_true, if_false]
  show wpAny _ _ (Builtin.SmallTypes.ownedTupleIsFree (.ref (b + as.length + 2)) >>= _) _ _ _
  refine wpAny_bind ?_
  unfold Builtin.SmallTypes.ownedTupleIsFree
  refine wpAny_bind (wpAny_field z1 rfl (x := rawInt az) rfl ?_)
  show wpAny _ _ (loadIfAlive ((az : Int).toNat) >>= _) _ _ _
  rw [Int.toNat_natCast]
  refine wpAny_bind (loadIfAlive_some z2 ?_)
  simp only [Option.isNone_some, Bool.false_eq_true, if_false]
  refine wpAny_bind (wpAny_field z1 rfl (x := .bool f) rfl ?_)
  have lt2 : ∀ a ∈ as, a.2 ≠ b + as.length + 2 := fun a ha => by have := hb a ha; omega
  have L00 : ZL2 hp hp b as xss t 0 #[] := ⟨⟨az, f, oa, z1, z2, z3⟩, st.ti, rfl, st.it, src, fun j xs hj => absurd hj (Nat.not_lt_zero _), rfl, fun c o _ e => e⟩
  have flag : wpAny (model prog w) A (if (Value.bool f != Value.bool true) = true then do
      setField (.ref (b + as.length + 2)) 1 (.bool true)
      pure false
    else pure false) (fun r s' => r = false ∧ ∃ g0, s' = ⟨g0, g, d, tk0, os⟩ ∧ ZL2 hp g0 b as xss t 0 #[]) E ⟨hp, g, d, tk0, os⟩ := by
    cases f with
    | true =>
      rw [if_neg (show ¬ ((Value.bool true != Value.bool true) = true) from Bool.false_ne_true)]
      exact wpAny_pure ⟨rfl, hp, rfl, L00⟩
    | false =>
      rw [if_pos (show (Value.bool false != Value.bool true) = true from rfl)]
      refine wpAny_bind (wpAny_setField_rec z1 (by simp) fun h₃ he₃ hs₃ => wpAny_pure ⟨rfl, h₃, rfl, ?_⟩)
      replace hs₃ : Heap.SameBut (b + as.length + 2) hp h₃ := hs₃
      exact ⟨⟨az, true, oa, he₃, hs₃.extBut _ _ (by (first | omega | (show @Ne Nat _ _; omega))) z2, z3⟩, hs₃.extBut _ _ (by (first | omega | (show @Ne Nat _ _; omega))) st.ti, rfl, fun j a hj => (st.it j a hj).moved fun o e => hs₃.extBut _ _ (by have := (List.getElem?_eq_some_iff.mp hj).1; (first | omega | (show @Ne Nat _ _; omega))) e,
        src.moved fun a ha o e => hs₃.extBut _ _ (lt2 a ha) e, fun j xs hj => absurd hj (Nat.not_lt_zero _), hs₃.1, fun c o hc e => hs₃.extBut _ _ (by (first | omega | (show @Ne Nat _ _; omega))) e⟩
  refine wpAny_mono flag (fun r s' ⟨hr, g0, es, L0⟩ => ?_) fun _ _ e => e
  subst hr es
  simp only [Bool.false_eq_true, if_false]
  refine wpAny_bind ?_
  rw [List.forIn_toArray]
  refine forIn_yields (fun i r s' => ∃ h tk ys, r = ⟨none, ys⟩ ∧ s' = ⟨h, g, d, tk, os⟩ ∧ ZL2 hp h b as xss t i ys) _ 0 _ _ (fun j x r s' hx ⟨h, tk, ys, hr, es, L⟩ => ?_) (fun r s' ⟨h, tk, ys, hr, es, L⟩ => ?_) ⟨g0, tk0, #[], rfl, rfl, L0⟩
  · subst hr es
    rw [Nat.zero_add] at L ⊢
    obtain ⟨hj, rfl⟩ : j < as.length ∧ x = .ref (b + j) := by
      rw [List.getElem?_map] at hx
      by_cases z : j < as.length
      · rw [List.getElem?_range z] at hx
        exact ⟨z, (Option.some.inj hx).symm⟩
      · rw [List.getElem?_eq_none (by rw [List.length_range]; omega)] at hx
        cases hx
    obtain ⟨a, ha⟩ : ∃ a, as[j]? = some a := ⟨_, List.getElem?_eq_getElem hj⟩
    obtain ⟨xs, hxs⟩ : ∃ xs, xss[j]? = some xs := ⟨_, List.getElem?_eq_getElem (by rw [← src.1]; exact hj)⟩
    have hax := hb a (List.mem_of_getElem? ha)
    refine wpAny_bind (wpAny_holding ?_)
    show wpAny _ _ (Builtin.SmallTypes.nextOf (.ref (b + j)) >>= _) _ _ ⟨h, g, d, tk, os⟩
    have it0 := L.it j a ha
    rw [if_neg (Nat.lt_irrefl j)] at it0
    refine wpAny_bind ((draws_G (P := prog) (w := w) (A := A) a.1 hh (b + j) a.2 (by (first | omega | (show @Ne Nat _ _; omega))) xs).item t _ _ _ (hlt xs (List.mem_of_getElem? hxs)) ⟨it0, L.src.2 j a xs ha hxs⟩ fun x1 h1 tk1 hx1 sn1 sb1 => wpAny_pure ?_)
    exact wpAny_pure ⟨_, rfl, h1, tk1, _, rfl, rfl, L.step hb ha hxs hx1 sn1.1 sb1⟩
  · subst hr es
    rw [Nat.zero_add, List.length_map, List.length_range] at L
    refine wpAny_bind (wpAny_newTuple ?_ (by rw [Array.length_toList, L.sz, sizeLine_eq]; omega))
    have hsz : h.objs.size = hp.objs.size := L.hs
    have eT : ys.toList.toArray = ys := by simp
    rw [eT]
    refine wpAny_pure ⟨_, rfl, ?_⟩
    show Q (.ref h.objs.size) ⟨h.push { cls := .type "tuple", data := .seq ys }, g, d, tk, os⟩
    have up : ∀ c o, h.get? c = some o → (h.push { cls := .type "tuple", data := .seq ys }).get? c = some o := fun c o e => Heap.get?_push_of_some _ e
    have hT := Heap.get?_push_size (h := h) (o := { cls := .type "tuple", data := .seq ys }) rfl
    have hs2 : (h.push { cls := .type "tuple", data := .seq ys }).objs.size = h.objs.size + 1 := Heap.size_push ..
    rw [hsz] at hT hs2 ⊢
    obtain ⟨az, f, oa, z1, z2, z3⟩ := L.z
    refine hQ _ tk ys L.sz (fun j xs hx => L.ys j xs (by have := (List.getElem?_eq_some_iff.mp hx).1; rw [src.1]; exact this) hx) ⟨⟨az, f, oa, up _ _ z1, up _ _ z2, z3⟩, up _ _ L.ti, fun j a hj => ?_⟩ hT hs2 fun c o hc e => up c o (L.fr c o hc e)
    have hjl := (List.getElem?_eq_some_iff.mp hj).1
    have := L.it j a hj
    rw [if_pos hjl] at this
    exact this.moved fun o e => up _ o e
theorem zipN_end2 {Q : Fin → Shared → Prop} (hh : A.handled = none) (hn : 0 < as.length) (hl : as.length ≤ 8) (st : ZS2 s.heap b as t) (src : ZSrc s.heap as xss) (hb : ∀ a ∈ as, a.2 < b) {j0 : Nat} {xs0 : Array Value} (hj0 : xss[j0]? = some xs0) (h0 : xs0.size = t) (hlt : ∀ (j : Nat) xs, j < j0 → xss[j]? = some xs → t < xs.size)
    (hE : ∀ h' tk e, (∀ c o, c < b ∨ b + as.length + 3 ≤ c → s.heap.get? c = some o → h'.get? c = some o) → (∃ o, h'.get? e = some o ∧ o.cls = .type "StopIteration") → E (.ref e) { s with heap := h', toks := tk }) :
    wpAny (model prog w) A (Builtin.«zip.__next__» ⟨[.ref (b + as.length + 2)], []⟩) Q E s := by
  obtain ⟨hp, g, d, tk0, os⟩ := s
  obtain ⟨az, f, oa, z1, z2, z3⟩ := st.z
  show wpAny _ _ (field (.ref (b + as.length + 2)) 2 >>= _) _ _ _
  refine wpAny_bind (wpAny_field z1 rfl (x := .bool false) rfl ?_)
  show wpAny _ _ (field (.ref (b + as.length + 2)) 3 >>= _) _ _ _
  refine wpAny_bind (wpAny_field z1 rfl (x := .ref (b + as.length)) rfl ?_)
  refine wpAny_bind (wpAny_seqItems st.ti rfl ?_)
  have hne : ((List.range as.length).map fun j => Value.ref (b + j)).toArray.isEmpty = false := by
    cases h : as.length with
    | zero => omega
    | succ n => simp [List.range_succ_eq_map]
  simp only [hne, Bool.false_eq_true, if_false]
  show wpAny _ _ (Builtin.SmallTypes.ownedTupleIsFree (.ref (b + as.length + 2)) >>= _) _ _ _
  refine wpAny_bind ?_
  unfold Builtin.SmallTypes.ownedTupleIsFree
  refine wpAny_bind (wpAny_field z1 rfl (x := rawInt az) rfl ?_)
  show wpAny _ _ (loadIfAlive ((az : Int).toNat) >>= _) _ _ _
  rw [Int.toNat_natCast]
  refine wpAny_bind (loadIfAlive_some z2 ?_)
  simp only [Option.isNone_some, Bool.false_eq_true, if_false]
  refine wpAny_bind (wpAny_field z1 rfl (x := .bool f) rfl ?_)
  have lt2 : ∀ a ∈ as, a.2 ≠ b + as.length + 2 := fun a ha => by have := hb a ha; omega
  have L00 : ZL2 hp hp b as xss t 0 #[] := ⟨⟨az, f, oa, z1, z2, z3⟩, st.ti, rfl, st.it, src, fun j xs hj => absurd hj (Nat.not_lt_zero _), rfl, fun c o _ e => e⟩
  have flag : wpAny (model prog w) A (if (Value.bool f != Value.bool true) = true then do
      setField (.ref (b + as.length + 2)) 1 (.bool true)
      pure false
    else pure false) (fun r s' => r = false ∧ ∃ g0, s' = ⟨g0, g, d, tk0, os⟩ ∧ ZL2 hp g0 b as xss t 0 #[]) E ⟨hp, g, d, tk0, os⟩ := by
    cases f with
    | true =>
      rw [if_neg (show ¬ ((Value.bool true != Value.bool true) = true) from Bool.false_ne_true)]
      exact wpAny_pure ⟨rfl, hp, rfl, L00⟩
    | false =>
      rw [if_pos (show (Value.bool false != Value.bool true) = true from rfl)]
      refine wpAny_bind (wpAny_setField_rec z1 (by simp) fun h₃ he₃ hs₃ => wpAny_pure ⟨rfl, h₃, rfl, ?_⟩)
      replace hs₃ : Heap.SameBut (b + as.length + 2) hp h₃ := hs₃
      exact ⟨⟨az, true, oa, he₃, hs₃.extBut _ _ (by (first | omega | (show @Ne Nat _ _; omega))) z2, z3⟩, hs₃.extBut _ _ (by (first | omega | (show @Ne Nat _ _; omega))) st.ti, rfl, fun j a hj => (st.it j a hj).moved fun o e => hs₃.extBut _ _ (by have := (List.getElem?_eq_some_iff.mp hj).1; (first | omega | (show @Ne Nat _ _; omega))) e,
        src.moved fun a ha o e => hs₃.extBut _ _ (lt2 a ha) e, fun j xs hj => absurd hj (Nat.not_lt_zero _), hs₃.1, fun c o hc e => hs₃.extBut _ _ (by (first | omega | (show @Ne Nat _ _; omega))) e⟩
  have hj0l : j0 < as.length := by rw [src.1]; exact (List.getElem?_eq_some_iff.mp hj0).1
  refine wpAny_mono flag (fun r s' ⟨hr, g0, es, L0⟩ => ?_) fun _ _ e => e
  subst hr es
  simp only [Bool.false_eq_true, if_false]
  refine wpAny_bind ?_
  rw [List.forIn_toArray]
  refine forIn_yields (fun i r s' => i ≤ j0 ∧ ∃ h tk ys, r = ⟨none, ys⟩ ∧ s' = ⟨h, g, d, tk, os⟩ ∧ ZL2 hp h b as xss t i ys) _ 0 _ _ (fun j x r s' hx ⟨hle, h, tk, ys, hr, es, L⟩ => ?_) (fun r s' ⟨hle, h, tk, ys, hr, es, L⟩ => ?_) ⟨Nat.zero_le _, g0, tk0, #[], rfl, rfl, L0⟩
  · subst hr es
    rw [Nat.zero_add] at L hle ⊢
    obtain ⟨hj, rfl⟩ : j < as.length ∧ x = .ref (b + j) := by
      rw [List.getElem?_map] at hx
      by_cases z : j < as.length
      · rw [List.getElem?_range z] at hx
        exact ⟨z, (Option.some.inj hx).symm⟩
      · rw [List.getElem?_eq_none (by rw [List.length_range]; omega)] at hx
        cases hx
    obtain ⟨a, ha⟩ : ∃ a, as[j]? = some a := ⟨_, List.getElem?_eq_getElem hj⟩
    obtain ⟨xs, hxs⟩ : ∃ xs, xss[j]? = some xs := ⟨_, List.getElem?_eq_getElem (by rw [← src.1]; exact hj)⟩
    have hax := hb a (List.mem_of_getElem? ha)
    refine wpAny_bind (wpAny_holding ?_)
    show wpAny _ _ (Builtin.SmallTypes.nextOf (.ref (b + j)) >>= _) _ _ ⟨h, g, d, tk, os⟩
    have it0 := L.it j a ha
    rw [if_neg (Nat.lt_irrefl j)] at it0
    by_cases z : j = j0
    · subst z
      rw [hj0] at hxs
      cases hxs
      subst h0
      refine wpAny_bind ((draws_G (P := prog) (w := w) (A := A) a.1 hh (b + j) a.2 (by (first | omega | (show @Ne Nat _ _; omega))) xs0).done ⟨h, g, d, tk, os⟩ _ _ ⟨it0, L.src.2 j a xs0 ha hj0⟩ fun q e hq he => ?_)
      replace hq : Heap.ExtBut (b + j) h q := hq
      exact hE q tk e (fun c o hc x => hq _ _ (by (first | omega | (show @Ne Nat _ _; omega))) (L.fr c o hc x)) he
    · refine wpAny_bind ((draws_G (P := prog) (w := w) (A := A) a.1 hh (b + j) a.2 (by (first | omega | (show @Ne Nat _ _; omega))) xs).item t _ _ _ (hlt j xs (by omega) hxs) ⟨it0, L.src.2 j a xs ha hxs⟩ fun x1 h1 tk1 hx1 sn1 sb1 => wpAny_pure ?_)
      exact wpAny_pure ⟨_, rfl, by omega, h1, tk1, _, rfl, rfl, L.step hb ha hxs hx1 sn1.1 sb1⟩
  · rw [Nat.zero_add, List.length_map, List.length_range] at hle
    omega
/-- before a turn of a zip whose tuples all live on -/
def ZS (h : Heap) (b : Nat) (as : ZAs) (t : Nat) : Prop := ZSt h b as .none t ∨ ZS2 h b as t
theorem pyNext_zipS_item {Q : Option Value → Shared → Prop} (hh : A.handled = none) (hn : 0 < as.length) (hl : as.length ≤ 8) (st : ZS s.heap b as t) (src : ZSrc s.heap as xss) (hb : ∀ a ∈ as, a.2 < b) (hlt : ∀ xs ∈ xss, t < xs.size)
    (hQ : ∀ h' tk (ys : Array Value), ys.size = as.length → (∀ (j : Nat) xs, xss[j]? = some xs → ys[j]? = xs[t]?) → ZS h' b as (t + 1) → h'.get? s.heap.objs.size = some { cls := .type "tuple", data := .seq ys } → h'.objs.size = s.heap.objs.size + 1 →
      (∀ c o, c < b ∨ b + as.length + 3 ≤ c → s.heap.get? c = some o → h'.get? c = some o) → Q (some (.ref s.heap.objs.size)) { s with heap := h', toks := tk }) :
    wpAny (model prog w) A (pyNext (.ref (b + as.length + 2))) Q E s := by
  rcases st with st | st
  · have hlt2 : b + as.length + 2 < s.heap.objs.size := Heap.lt_size st.z
    exact pyNext_zipN_item hh hn hl st src hb hlt fun h' tk ys y1 y2 st' hT hs hk => hQ h' tk ys y1 y2 (.inr ⟨⟨_, false, _, st'.z, hT, by omega⟩, st'.ti, st'.it⟩) hT hs hk
  · obtain ⟨az, f, oa, z1, z2, z3⟩ := id st.z
    have hT : s.TypeIs (.ref (b + as.length + 2)) "zip" := ⟨_, z1, rfl⟩
    unfold pyNext
    exact wpAny_bind (wpAny_attempt (wpAny_callSpecial?_slot (name := Str.ofString "__next__") hT F.slot_zip_next
      (wpAny_call_entry F.slot_zip_next hT F.entry_zip_next
        (zipN_item2 hh hn hl st src hb hlt fun h' tk ys y1 y2 b1 b2 b3 b4 => wpAny_pure (hQ h' tk ys y1 y2 (.inr b1) b2 b3 b4)) (F.args_zip_next_1 _))))
theorem pyNext_zipS_end {Q : Option Value → Shared → Prop} (hh : A.handled = none) (hn : 0 < as.length) (hl : as.length ≤ 8) (st : ZS s.heap b as t) (src : ZSrc s.heap as xss) (hb : ∀ a ∈ as, a.2 < b) {j0 : Nat} {xs0 : Array Value} (hj0 : xss[j0]? = some xs0) (h0 : xs0.size = t) (hlt : ∀ (j : Nat) xs, j < j0 → xss[j]? = some xs → t < xs.size)
    (hQ : ∀ h' tk, (∀ c o, c < b ∨ b + as.length + 3 ≤ c → s.heap.get? c = some o → h'.get? c = some o) → Q none { s with heap := h', toks := tk }) : wpAny (model prog w) A (pyNext (.ref (b + as.length + 2))) Q E s := by
  rcases st with st | st
  · exact pyNext_zipN_end hh hn hl st src hb hj0 h0 hlt hQ
  · obtain ⟨az, f, oa, z1, z2, z3⟩ := id st.z
    have hT : s.TypeIs (.ref (b + as.length + 2)) "zip" := ⟨_, z1, rfl⟩
    unfold pyNext
    refine wpAny_bind (wpAny_attempt (wpAny_callSpecial?_slot (name := Str.ofString "__next__") hT F.slot_zip_next
      (wpAny_call_entry F.slot_zip_next hT F.entry_zip_next (zipN_end2 hh hn hl st src hb hj0 h0 hlt fun h' tk e hk he => ?_) (F.args_zip_next_1 _))))
    obtain ⟨o, ho, hc⟩ := he
    refine wpAny_bind (wpAny_isInstance (T := "StopIteration") (b := true) ⟨o, ho, hc⟩ isSubtype_stop ?_)
    exact wpAny_pure (hQ _ _ hk)
end
end DL
set_option maxHeartbeats 1000000
namespace DL
open PySem PySem.Spec PyProof.Rows L2
/-! ### list(zip(..)) -/
theorem zip_no_len : typeLookup (.type "zip") "__len__" = pure none := by rw [typeLookup_type, builtinLookup_eq_fast]; kernel_rfl
theorem zip_no_hint : typeLookup (.type "zip") "__length_hint__" = pure none := by rw [typeLookup_type, builtinLookup_eq_fast]; kernel_rfl
/-- the tuples that were made, at rising addresses -/
structure ZG (xss : List (Array Value)) (lo : Nat) (h : Heap) (ts : List Nat) : Prop where
  rise : ts.Pairwise (· < ·)
  above : ∀ a ∈ ts, lo < a
  at' : ∀ (j : Nat) (a : Nat), ts[j]? = some a → ∃ ys : Array Value, h.get? a = some { cls := .type "tuple", data := .seq ys } ∧ ys.size = xss.length ∧ ∀ (k : Nat) xs, xss[k]? = some xs → ys[k]? = xs[j]?
theorem ZG.there {xss : List (Array Value)} {lo : Nat} {h : Heap} {ts : List Nat} (g : ZG xss lo h ts) {a : Nat} (ha : a ∈ ts) : a < h.objs.size := by
  obtain ⟨j, hj⟩ := List.mem_iff_getElem?.mp ha
  obtain ⟨_, e, _⟩ := g.at' j a hj
  exact Heap.lt_size e
theorem ZG.moved {xss : List (Array Value)} {lo : Nat} {h h' : Heap} {ts : List Nat} (g : ZG xss lo h ts) (e : ∀ c o, lo < c → h.get? c = some o → h'.get? c = some o) : ZG xss lo h' ts :=
  ⟨g.rise, g.above, fun j a hj => by obtain ⟨ys, e1, e2, e3⟩ := g.at' j a hj; exact ⟨ys, e _ _ (g.above a (List.mem_of_getElem? hj)) e1, e2, e3⟩⟩
theorem ZS.moved {h h' : Heap} {b : Nat} {as : ZAs} {t S : Nat} (st : ZS h b as t) (hS : b + as.length + 3 ≤ S) (hSo : ∀ c o, c ≠ S → h.get? c = some o → h'.get? c = some o) (hal : ∀ o, h.get? S = some o → ∃ o', h'.get? S = some o') : ZS h' b as t := by
  rcases st with st | st
  · obtain ⟨ys, y1, y2⟩ := st.to
    exact .inl ⟨hSo _ _ (by (first | omega | (show @Ne Nat _ _; omega))) st.z, hSo _ _ (by (first | omega | (show @Ne Nat _ _; omega))) st.ti, ⟨ys, y1, hSo _ _ (by (first | omega | (show @Ne Nat _ _; omega))) y2⟩, fun j a hj => (st.it j a hj).moved fun o e => hSo _ _ (by have := (List.getElem?_eq_some_iff.mp hj).1; (first | omega | (show @Ne Nat _ _; omega))) e⟩
  · obtain ⟨az, f, oa, z1, z2, z3⟩ := st.z
    obtain ⟨oa', z2'⟩ : ∃ o', h'.get? az = some o' := by
      by_cases z : az = S
      · subst z; exact hal _ z2
      · exact ⟨_, hSo _ _ z z2⟩
    exact .inr ⟨⟨az, f, oa', hSo _ _ (by (first | omega | (show @Ne Nat _ _; omega))) z1, z2', z3⟩, hSo _ _ (by (first | omega | (show @Ne Nat _ _; omega))) st.ti, fun j a hj => (st.it j a hj).moved fun o e => hSo _ _ (by have := (List.getElem?_eq_some_iff.mp hj).1; (first | omega | (show @Ne Nat _ _; omega))) e⟩
section
variable {prog : Program} {w : World} {A : Around} {E : Value → Shared → Prop} {s : Shared} {b S n m : Nat} {as : ZAs} {xss : List (Array Value)} {R : Result → Shared → Prop}
/-- the shortest source ends at m, at j0 the first such -/
structure ZEnd (xss : List (Array Value)) (m : Nat) : Prop where
  le : ∀ xs ∈ xss, m ≤ xs.size
  at' : ∃ (j0 : Nat) (xs0 : Array Value), xss[j0]? = some xs0 ∧ xs0.size = m ∧ ∀ (j : Nat) xs, j < j0 → xss[j]? = some xs → m < xs.size
theorem zl_loop (hh : A.handled = none) (hn : 0 < as.length) (hl : as.length ≤ 8) (hb : ∀ a ∈ as, a.2 < b) (hS : b + as.length + 3 ≤ S) (hm : ZEnd xss m) (hms : m ≤ sizeLine) (res : Value) {h₁ : Heap}
    (hR : ∀ h' tk acc c ts, (∀ c o, c < b ∨ b + as.length + 3 ≤ c → c ≠ S → h₁.get? c = some o → h'.get? c = some o) → h'.get? S = some { cls := .type "list", dict := none, data := .seq acc c, slots := #[] } → ts.length = m → ZG xss S h' ts →
      acc.toList = ts.map Value.ref → R (.ok (.ret res)) { s with heap := h', toks := tk }) :
    ∀ (k i : Nat) (h : Heap) (tk c : Nat) (acc : Array Value) (ts : List Nat), m - i = k → i ≤ m → ZS h b as i → ZSrc h as xss → (∀ c o, c < b ∨ b + as.length + 3 ≤ c → c ≠ S → h₁.get? c = some o → h.get? c = some o) →
      h.get? S = some { cls := .type "list", dict := none, data := .seq acc c, slots := #[] } → acc.toList = ts.map Value.ref → ts.length = i → ZG xss S h ts →
      codeAny (model prog w) A (.builtin "list.extend.loop" ⟨[.ref S, .ref (b + as.length + 2), res], []⟩) R { s with heap := h, toks := tk } := by
  intro k
  induction k with
  | zero =>
    intro i h tk c acc ts hk hi hst hD hkeep hSo hacc hal hG
    have hin : i = m := by omega
    subst hin
    obtain ⟨j0, xs0, e1, e2, e3⟩ := hm.at'
    refine codeAny_builtin PySem.F.entry_extend_loop ?_
    rw [Around.under_plainId PySem.F.plain_extend_loop _]
    show wpAny _ A.in1 (pyNext (.ref (b + as.length + 2)) >>= _) _ _ _
    refine wpAny_bind (pyNext_zipS_end (s := { s with heap := h, toks := tk }) (A := A.in1) hh hn hl hst hD hb e1 e2 e3 fun h' tk' he => ?_)
    exact wpAny_pure (hR h' tk' acc c ts (fun c o hc n e => he c o hc (hkeep c o hc n e)) (he S _ (.inr hS) hSo) hal (hG.moved fun c o hc e => he c o (.inr (by omega)) e) hacc)
  | succ k ih =>
    intro i h tk c acc ts hk hi hst hD hkeep hSo hacc hal hG
    have hlt : i < m := by omega
    have hsz : acc.size = i := by rw [← Array.length_toList, hacc, List.length_map, hal]
    refine codeAny_builtin PySem.F.entry_extend_loop ?_
    rw [Around.under_plainId PySem.F.plain_extend_loop _]
    show wpAny _ A.in1 (pyNext (.ref (b + as.length + 2)) >>= _) _ _ _
    refine wpAny_bind (pyNext_zipS_item (s := { s with heap := h, toks := tk }) hh hn hl hst hD hb (fun xs hx => Nat.lt_of_lt_of_le hlt (hm.le xs hx)) fun h' tk' ys hys hyx hst' ht hz hkp => ?_)
    dsimp only at ht hz hkp ⊢
    have hS' := hkp S _ (.inr hS) hSo
    have up : ∀ b o, b ≠ S → h'.get? b = some o → (h'.update S (Obj.mapSeq (·.push (Value.ref h.objs.size)))).get? b = some o := fun b o hb e => (Heap.get?_update_other _ _ (Ne.symm hb)).trans e
    have hSl : S < h.objs.size := Heap.lt_size hSo
    have hSx : (h'.update S (Obj.mapSeq (·.push (Value.ref h.objs.size)))).get? S = _ := Heap.get?_update_self _ hS' rfl
    have src' : ZSrc h' as xss := hD.moved fun a ha o e => hkp _ _ (.inl (hb a ha)) e
    show wpAny _ A.in1 (updateSeq S (·.push (Value.ref h.objs.size)) >>= _) _ _ _
    refine wpAny_bind ?_
    refine wpAny_updateSeq hS' rfl (wpAny_pure ⟨plainId_quiet PySem.F.plain_extend_loop _, ih (i + 1) _ tk' _ (acc.push (Value.ref h.objs.size)) (ts ++ [h.objs.size]) (by omega) hlt (hst'.moved hS up fun o _ => ⟨_, hSx⟩)
      (src'.moved fun a ha o e => up _ _ (by have := hb a ha; (first | omega | (show @Ne Nat _ _; omega))) e)
      (fun c o hc n e => up c o n (hkp c o hc (hkeep c o hc n e))) hSx (by rw [Array.toList_push, hacc, List.map_append]; rfl) (by rw [List.length_append, hal]; rfl) ⟨?_, ?_, ?_⟩⟩) (by rw [hsz]; omega) (by show (acc.push (Value.ref h.objs.size)).size ≤ sizeLine + 1; rw [Array.size_push, hsz]; omega)
    · refine List.pairwise_append.mpr ⟨hG.rise, List.pairwise_singleton _ _, fun a ha b hb => ?_⟩
      rw [List.mem_singleton.mp hb]
      exact hG.there ha
    · intro a ha
      rcases List.mem_append.mp ha with ha | ha
      · exact hG.above a ha
      · rw [List.mem_singleton.mp ha]; exact hSl
    · intro j a hj
      rcases Nat.lt_trichotomy j ts.length with h1 | h1 | h1
      · rw [List.getElem?_append_left h1] at hj
        obtain ⟨ys', e1, e2, e3⟩ := hG.at' j a hj
        have hb := hG.above a (List.mem_of_getElem? hj)
        exact ⟨ys', up a _ (Nat.ne_of_gt hb) (hkp a _ (.inr (by omega)) e1), e2, e3⟩
      · subst h1
        have hb : h.objs.size = a := by simpa using hj
        subst hb
        exact ⟨ys, up _ _ (Nat.ne_of_gt hSl) ht, by rw [hys, hD.1], fun k xs hx => by rw [hal]; exact hyx k xs hx⟩
      · have hnone : (ts ++ [h.objs.size])[j]? = none := List.getElem?_eq_none (by rw [List.length_append, List.length_singleton]; omega)
        rw [hnone] at hj; cases hj
theorem ZS.typeIs {t : Nat} (st : ZS s.heap b as t) : s.TypeIs (.ref (b + as.length + 2)) "zip" := by
  rcases st with st | st
  · exact ⟨_, st.z, rfl⟩
  · obtain ⟨_, _, _, z1, _⟩ := st.z
    exact ⟨_, z1, rfl⟩
theorem zl_extend (hh : A.handled = none) (hn : 0 < as.length) (hl : as.length ≤ 8) (hb : ∀ a ∈ as, a.2 < b) (hS : b + as.length + 3 ≤ S) (hm : ZEnd xss m) (hms : m ≤ sizeLine) (res : Value) (c₀ : Nat) (hst : ZSt s.heap b as .none 0) (src : ZSrc s.heap as xss)
    (hSo : s.heap.get? S = some { cls := .type "list", data := .seq #[] c₀ })
    (hR : ∀ h' tk acc c ts, (∀ c o, c < b ∨ b + as.length + 3 ≤ c → c ≠ S → s.heap.get? c = some o → h'.get? c = some o) → h'.get? S = some { cls := .type "list", dict := none, data := .seq acc c, slots := #[] } → ts.length = m → ZG xss S h' ts →
      acc.toList = ts.map Value.ref → R (.ok (.ret res)) { s with heap := h', toks := tk }) :
    wpAny (model prog w) A.in1 (Builtin.List.listExtendWith (.ref S) (.ref (b + as.length + 2)) res)
      (fun fin s' => match fin with | .done f => R (.ok f) s' | .again c' => c'.quiet = true ∧ codeAny (model prog w) A c' R s') (fun e s' => R (.error e) s') s := by
  have hSI : S ≠ b + as.length + 2 := by omega
  have hT : s.TypeIs (.ref (b + as.length + 2)) "zip" := ⟨_, hst.z, rfl⟩
  unfold Builtin.List.listExtendWith
  refine wpAny_bind (wpAny_typeOf hT ?_)
  have h1 : Builtin.List.listSameRef (.ref S) (.ref (b + as.length + 2)) = false := by simp [Builtin.List.listSameRef]; exact hSI
  have h2 : (Value.type "zip" == Value.type "list") = false := by decide
  have h3 : (Value.type "zip" == Value.type "tuple") = false := by decide
  simp only [h1, h2, h3, Bool.or_false, Bool.false_eq_true, if_false]
  refine wpAny_bind (wpAny_pyIter_zip hst.z ?_)
  refine wpAny_bind (wpAny_holding ?_)
  unfold Builtin.List.listLengthHint
  refine wpAny_bind (wpAny_specialOf hT zip_no_len ?_)
  show wpAny _ A.in1 (specialOf (Value.ref (b + as.length + 2)) (Str.ofString "__length_hint__") >>= _) _ _ _
  refine wpAny_bind (wpAny_specialOf hT zip_no_hint ?_)
  refine wpAny_pure ?_
  show wpAny _ A.in1 (rule "list.extend.makes-room" >>= fun _ => Builtin.List.listTouch (.ref S) >>= fun _ =>
    again (.builtin "list.extend.loop" ⟨[.ref S, .ref (b + as.length + 2), res], []⟩)) _ _ _
  refine wpAny_bind (wpAny_rule ?_)
  refine wpAny_bind ?_
  show wpAny _ A.in1 (updateSeq S (·.push .none) >>= fun _ => updateSeq S (·.pop)) _ _ _
  refine wpAny_bind (wpAny_updateSeq hSo rfl ?_)
  have hS₂ := Heap.get?_update_self (Obj.mapSeq (·.push Value.none)) hSo rfl
  refine wpAny_updateSeq (hz := by seq_fits) hS₂ rfl ?_
  have hS₃ := Heap.get?_update_self (Obj.mapSeq (·.pop)) hS₂ rfl
  have oth : ∀ b o, b ≠ S → s.heap.get? b = some o → ((s.heap.update S (Obj.mapSeq (·.push Value.none))).update S (Obj.mapSeq (·.pop))).get? b = some o :=
    fun b o hb e => (Heap.get?_update_other _ _ (Ne.symm hb)).trans ((Heap.get?_update_other _ _ (Ne.symm hb)).trans e)
  refine wpAny_pure ⟨plainId_quiet F.plain_extend_loop _, zl_loop (h₁ := s.heap) hh hn hl hb hS hm hms res hR m 0 _ s.toks _ #[] [] (Nat.sub_zero _) (Nat.zero_le _) (ZS.moved (.inl hst) hS oth fun o _ => ⟨_, hS₃⟩) (src.moved fun a ha o e => oth _ _ (by have := hb a ha; (first | omega | (show @Ne Nat _ _; omega))) e)
    (fun c o _ n e => oth c o n e) hS₃ rfl rfl ⟨List.Pairwise.nil, (fun _ ha => nomatch ha), (fun j a hj => by simp at hj)⟩⟩
theorem zl_init (hh : A.handled = none) (hn : 0 < as.length) (hl : as.length ≤ 8) (hb : ∀ a ∈ as, a.2 < b) (hS : b + as.length + 3 ≤ S) (hm : ZEnd xss m) (hms : m ≤ sizeLine) (hst : ZSt s.heap b as .none 0) (src : ZSrc s.heap as xss)
    (hSo : s.heap.get? S = some { cls := .type "list", data := .seq #[] })
    (hR : ∀ h' tk acc c ts, (∀ c o, c < b ∨ b + as.length + 3 ≤ c → c ≠ S → s.heap.get? c = some o → h'.get? c = some o) → h'.get? S = some { cls := .type "list", dict := none, data := .seq acc c, slots := #[] } → ts.length = m → ZG xss S h' ts →
      acc.toList = ts.map Value.ref → R (.ok (.ret .none)) { s with heap := h', toks := tk }) :
    wpAny (model prog w) A.in1 (Builtin.«list.__init__» ⟨[.ref S, .ref (b + as.length + 2)], []⟩)
      (fun fin s' => match fin with | .done f => R (.ok f) s' | .again c' => c'.quiet = true ∧ codeAny (model prog w) A c' R s') (fun e s' => R (.error e) s') s := by
  show wpAny _ A.in1 (do let old ← Builtin.List.listItems (.ref S); Builtin.List.listUpdate (.ref S) (fun _ => #[]); letGo old.toList.reverse; Builtin.List.listExtendWith (.ref S) (.ref (b + as.length + 2)) .none) _ _ s
  refine wpAny_bind ?_
  unfold Builtin.List.listItems
  refine wpAny_bind (wpAny_seqItems hSo rfl (wpAny_pure ?_))
  show wpAny _ A.in1 (updateSeq S (fun _ => #[]) >>= fun _ => letGo (#[] : Array Value).toList.reverse >>= fun _ => Builtin.List.listExtendWith (.ref S) (.ref (b + as.length + 2)) .none) _ _ s
  refine wpAny_bind (wpAny_updateSeq hSo rfl ?_)
  have hS₂ := Heap.get?_update_self (Obj.mapSeq (fun _ => (#[] : Array Value))) hSo rfl
  have oth : ∀ b o, b ≠ S → s.heap.get? b = some o → (s.heap.update S (Obj.mapSeq (fun _ => (#[] : Array Value)))).get? b = some o :=
    fun b o hb e => (Heap.get?_update_other _ _ (Ne.symm hb)).trans e
  refine wpAny_bind (wpAny_letGo ?_)
  obtain ⟨ys, y1, y2⟩ := hst.to
  refine zl_extend (s := { s with heap := s.heap.update S (Obj.mapSeq (fun _ => (#[] : Array Value))) }) hh hn hl hb hS hm hms .none _ ⟨oth _ _ (by (first | omega | (show @Ne Nat _ _; omega))) hst.z, oth _ _ (by (first | omega | (show @Ne Nat _ _; omega))) hst.ti, ⟨ys, y1, oth _ _ (by (first | omega | (show @Ne Nat _ _; omega))) y2⟩, fun j a hj => (hst.it j a hj).moved fun o e => oth _ _ (by have := (List.getElem?_eq_some_iff.mp hj).1; (first | omega | (show @Ne Nat _ _; omega))) e⟩
    (src.moved fun a ha o e => oth _ _ (by have := hb a ha; (first | omega | (show @Ne Nat _ _; omega))) e) hS₂ fun h' tk acc c ts hk hS' hl hG hacc => ?_
  exact hR h' tk acc c ts (fun c o hc n e => hk c o hc n (oth c o n e)) hS' hl hG hacc
/-- list(z), z a new zip -/
theorem zl_call {Q : Value → Shared → Prop} (hh : A.handled = none) (hn : 0 < as.length) (hl : as.length ≤ 8) (hb : ∀ a ∈ as, a.2 < b) (hst : ZSt s.heap b as .none 0) (src : ZSrc s.heap as xss) (hm : ZEnd xss m) (hms : m ≤ sizeLine)
    (hQ : ∀ h' tk acc c ts, (∀ c o, c < b ∨ b + as.length + 3 ≤ c → s.heap.get? c = some o → h'.get? c = some o) → h'.get? s.heap.objs.size = some { cls := .type "list", dict := none, data := .seq acc c, slots := #[] } → ts.length = m → ZG xss s.heap.objs.size h' ts →
      acc.toList = ts.map Value.ref → Q (.ref s.heap.objs.size) { s with heap := h', toks := tk }) :
    wpAny (model prog w) A (call (.type "list") [.ref (b + as.length + 2)]) Q E s := by
  have hzl : b + as.length + 2 < s.heap.objs.size := Heap.lt_size hst.z
  refine callType_codes (Q₁ := fun obj s₁ => obj = .ref s.heap.objs.size ∧ s₁ = { s with heap := s.heap.push { cls := .type "list", data := .seq #[] } }) F.called_list (F.typeCall_list_1 _) F.entry_list_init
    (code_list_new _ ⟨rfl, rfl⟩) fun obj s₁ h₁ => ?_
  obtain ⟨rfl, rfl⟩ := h₁
  have hS : (s.heap.push { cls := .type "list", data := .seq #[] }).get? s.heap.objs.size = some { cls := .type "list", data := .seq #[] } := Heap.get?_push_size _ rfl
  have up : ∀ c o, s.heap.get? c = some o → (s.heap.push { cls := .type "list", data := .seq #[] }).get? c = some o := fun c o e => Heap.get?_push_of_some _ e
  obtain ⟨ys, y1, y2⟩ := hst.to
  refine ⟨⟨_, hS, rfl⟩, F.args_list_init_2 _ _, zl_init (s := { s with heap := s.heap.push { cls := .type "list", data := .seq #[] } }) (S := s.heap.objs.size) hh hn hl hb (by omega) hm hms ⟨up _ _ hst.z, up _ _ hst.ti, ⟨ys, y1, up _ _ y2⟩, fun j a hj => (hst.it j a hj).moved fun o e => up _ _ e⟩
    (src.moved fun a ha o e => up _ _ e) hS fun h' tk acc c ts hk hS' hl hG hacc => ?_⟩
  exact ⟨rfl, hQ h' tk acc c ts (fun c o hc e => hk c o hc (Nat.ne_of_lt (Heap.lt_size e)) (up c o e)) hS' hl hG hacc⟩
end
end DL
set_option maxHeartbeats 1000000
namespace DL
open PySem PySem.Spec PyProof.Rows L2
/-! ### several objects laid at once -/
theorem inv_grow {X : Cx} {pins : List (Addr × Obj)} {σ : L2.St} {H H' : Hp} {s : Shared} {h' : Heap} {tk : Nat} (I : Inv X pins σ H s) (hk : ∀ b o, s.heap.get? b = some o → h'.get? b = some o) (kp : ∀ b u, H b = some u → H' b = some u)
    (old : ∀ b o, s.heap.get? b = some o → H b = none → H' b = none) (ok : ∀ b u, H' b = some u → H b = some u ∨ ObjOk X.prog X.w H' h' b u) : Inv X pins σ H' { s with heap := h', toks := tk } := by
  refine I.call' (ch := []) rfl ⟨fun b o q _ _ _ => hk b o q, fun b o q _ _ _ => ⟨o.slots, hk b o q⟩, fun b o q n _ => old b o q n, fun b o q _ => ⟨o, hk b o q⟩, fun b xs q => kp b _ q, fun b o u q => kp b _ q, fun b ps q => ⟨#[], by rw [kp b _ q]; simp⟩⟩ (fun b u q => ?_) I.bare fun b z => by simp at z
  rcases ok b u q with h | h
  · exact (I.hok b u h).stay (fun d v _ y => hk d v y) (fun d y => kp d _ y) fun d xs y => kp d _ y
  · exact h
def updL : Hp → List (Nat × HO) → Hp
  | H, [] => H
  | H, (a, o) :: r => updL (upd H a o) r
theorem updL_off {b : Nat} : ∀ {l : List (Nat × HO)} {H : Hp}, b ∉ l.map (·.1) → updL H l b = H b
  | [], _, _ => rfl
  | (a, o) :: r, H, h => by
    rw [List.map_cons, List.mem_cons, not_or] at h
    show updL (upd H a o) r b = H b
    rw [updL_off h.2, upd_ne h.1]
theorem updL_at {b : Nat} {u : HO} : ∀ {l : List (Nat × HO)} {H : Hp}, (l.map (·.1)).Nodup → (b, u) ∈ l → updL H l b = some u
  | (a, o) :: r, H, nd, h => by
    rw [List.map_cons, List.nodup_cons] at nd
    show updL (upd H a o) r b = some u
    rcases List.mem_cons.mp h with e | h
    · cases e
      rw [updL_off nd.1, upd_same]
    · exact updL_at nd.2 h
theorem updL_cases {b : Nat} {u : HO} {l : List (Nat × HO)} {H : Hp} (nd : (l.map (·.1)).Nodup) (e : updL H l b = some u) : (b, u) ∈ l ∨ (b ∉ l.map (·.1) ∧ H b = some u) := by
  by_cases z : b ∈ l.map (·.1)
  · obtain ⟨⟨a, o⟩, h1, h2⟩ := List.mem_map.mp z
    cases h2
    rw [updL_at nd h1] at e
    cases e
    exact .inl h1
  · rw [updL_off z] at e
    exact .inr ⟨z, e⟩
/-- the columns of rows -/
def colV {α : Type} (d : α) (xss : List (List α)) (j : Nat) : List α := xss.map fun xs => (xs[j]?).getD d
/-- m: the shortest row's length -/
structure MinL {α : Type} (xss : List (List α)) (m : Nat) : Prop where
  le : ∀ xs ∈ xss, m ≤ xs.length
  at' : ∃ (j0 : Nat) (xs0 : List α), xss[j0]? = some xs0 ∧ xs0.length = m ∧ ∀ (j : Nat) xs, j < j0 → xss[j]? = some xs → m < xs.length
/-- tuples at the addresses -/
def TupsAt (K : PySem.W.Frag) (H : Hp) (as : List Addr) (xss : List (List V)) : Prop := as.length = xss.length ∧ ∀ (j : Nat) a xs, as[j]? = some a → xss[j]? = some xs → SqT K H a xs
section
variable {X : Cx}
theorem tups_heap {pins : List (Addr × Obj)} {σ : L2.St} {H : Hp} {s : Shared} (I : Inv X pins σ H s) : ∀ {as : List Addr} {xss : List (List V)}, TupsAt X.K H as xss →
    ∃ uss : List (List Value), uss.length = xss.length ∧ (∀ (j : Nat) xs, xss[j]? = some xs → ∃ us, uss[j]? = some us ∧ Vals xs us ∧ xs.length ≤ sizeLine) ∧ ∀ (j : Nat) a us, as[j]? = some a → uss[j]? = some us → s.heap.IsTuple a us.toArray ∧ a < s.heap.objs.size
  | [], [], _ => ⟨[], rfl, fun j xs h => by simp at h, fun j a us h => by simp at h⟩
  | [], _ :: _, h => by have := h.1; simp at this
  | _ :: _, [], h => by have := h.1; simp at this
  | a :: as, xs :: xss, h => by
    obtain ⟨uss, l, h1, h2⟩ := tups_heap I (as := as) (xss := xss) ⟨by have := h.1; simpa using this, fun j a xs e1 e2 => h.2 (j + 1) a xs (by simpa using e1) (by simpa using e2)⟩
    obtain ⟨its, rv, p, hz⟩ := I.tuple (h.2 0 a xs rfl rfl)
    obtain ⟨o, ho, _⟩ := id p
    refine ⟨its :: uss, by simp [l], fun j ys e => ?_, fun j b us e1 e2 => ?_⟩
    · cases j with
      | zero => cases e; exact ⟨its, rfl, rv, hz⟩
      | succ j => exact h1 j ys (by simpa using e)
    · cases j with
      | zero => cases e1; cases e2; exact ⟨p, Heap.lt_size ho⟩
      | succ j => exact h2 j b us (by simpa using e1) (by simpa using e2)
/-- list(zip(*e)) -/
def tLZS (K : PySem.W.Frag) (te : TE) : TE := fun σ H Q => te σ H fun x H1 => ∃ (a : Addr) (as : List Addr) (xss : List (List V)) (m : Nat), x = .ref a ∧ (SqT K H1 a (as.map V.ref) ∨ SqL K H1 a (as.map V.ref)) ∧ 0 < as.length ∧ as.length ≤ 8 ∧ TupsAt K H1 as xss ∧ MinL xss m ∧
  ∀ (p : Nat) (ts : List Nat), H1 p = none → (∀ t ∈ ts, H1 t = none) → (p :: ts).Nodup → ts.length = m → Q (.ref p) (updL H1 ((p, .lst (ts.map V.ref)) :: ts.zip ((List.range m).map fun j => HO.tup (colV .non xss j))))
theorem zip_keeper {M : Model} {h : Heap} : PySem.W.Looks M h (keeperOf (.type "zip")) .machine := PySem.W.Looks.now
theorem refs_vals : ∀ {as : List Addr} {us : List Value}, Vals (as.map V.ref) us → us = as.map Value.ref
  | [], _, .nil => rfl
  | a :: as, _, .cons r t => by
    rw [List.map_cons, ← refs_vals t]
    rw [show _ = Value.ref a from r]
theorem vals_col {xss : List (List V)} {uss : List (List Value)} {j : Nat} {ys : List Value} (hl : ys.length = xss.length) (hj : ∀ xs ∈ xss, j < xs.length) (h1 : ∀ (k : Nat) xs, xss[k]? = some xs → ∃ us, uss[k]? = some us ∧ Vals xs us ∧ xs.length ≤ sizeLine)
    (h2 : ∀ (k : Nat) us, uss[k]? = some us → ys[k]? = us[j]?) : Vals (colV .non xss j) ys := by
  have gen : ∀ (n : Nat) (xss : List (List V)) (ys : List Value), ys.length = xss.length → (∀ (k : Nat) xs, xss[k]? = some xs → ∃ v u, xs[j]? = some v ∧ ys[k]? = some u ∧ RelV v u) → Vals (colV .non xss j) ys := by
    intro n xss
    induction xss with
    | nil =>
      intro ys hl _
      cases ys with
      | nil => exact .nil
      | cons _ _ => simp at hl
    | cons xs xss ih =>
      intro ys hl h
      cases ys with
      | nil => simp at hl
      | cons y ys =>
        obtain ⟨v, u, e1, e2, r⟩ := h 0 xs rfl
        cases e2
        show Vals (((xs[j]?).getD .non) :: colV .non xss j) (y :: ys)
        rw [e1]
        exact .cons r (ih ys (by simpa using hl) fun k zs hz => by simpa using h (k + 1) zs (by simpa using hz))
  refine gen 0 xss ys hl fun k xs hx => ?_
  obtain ⟨us, eu, r, _⟩ := h1 k xs hx
  obtain ⟨v, ev⟩ : ∃ v, xs[j]? = some v := ⟨_, List.getElem?_eq_getElem (hj xs (List.mem_of_getElem? hx))⟩
  obtain ⟨u, eu2, ru⟩ := r.get ev
  exact ⟨v, u, ev, by rw [h2 k us eu]; exact eu2, ru⟩
theorem pe_listZipS {e : Expr} {te : TE} {p p2 p3 p4 pos : Pos} (hc : X.calm = true) (he : PE X e te) (hg : Gl X "list") (hm : X.mg "list" = none) (hg2 : Gl X "zip") (hm2 : X.mg "zip" = none)
    (hst : starEach [.Starred e p3] X.env = [(true, eval e X.env)]) (hs : starEach [.Call (.Name "zip" p2) [.Starred e p3] [] p4] X.env = (false, eval (.Call (.Name "zip" p2) [.Starred e p3] [] p4) X.env) :: starEach [] X.env) :
    PE X (.Call (.Name "list" p) [.Call (.Name "zip" p2) [.Starred e p3] [] p4] [] pos) (tLZS X.K te) := by
  refine ⟨fun pins s σ H Q I hq => ?_⟩
  refine wpAny_Call_Name_kw (ld_blt I hg hm PyProof.Rows.boot_list ?_)
  refine PyProof.Rows.callWith_type1 ?_ hs rfl
  rw [hs]
  show wpAny _ _ (spliced ((false, eval (.Call (.Name "zip" p2) [.Starred e p3] [] p4) X.env) :: backTo pos (starEach [] X.env))) _ _ s
  refine Calls.spliced_cons ?_
  refine wpAny_Call_Name_kw (ld_blt I hg2 hm2 PyProof.Rows.boot_zip ?_)
  rw [hst]
  refine PySem.W.ks_call (P := fun _ => True) rfl (fun h _ => ⟨.machine, .inr (.inl rfl), zip_keeper⟩) (PySem.W.ks_lone (thn (he.run pins s σ H _ I hq) fun v s1 ⟨y, H1, I1, ry, a, as, xss, m, ey, hx, hn, hl, hT, hM, q⟩ => ?_))
  subst ey
  obtain rfl : v = Value.ref a := ry
  refine StX.star_any I1 hx fun us s2 I2 rv => ⟨True.intro, ?_⟩
  have eus := refs_vals rv
  subst eus
  obtain ⟨uss, lu, hu1, hu2⟩ := tups_heap I2 hT
  -- the sources
  have la : (as.map fun a => ((false, a) : Bool × Nat)).length = as.length := List.length_map ..
  have hb : ∀ a ∈ (as.map fun a => ((false, a) : Bool × Nat)), a.2 < s2.heap.objs.size := fun a ha => by
    obtain ⟨a0, m0, rfl⟩ := List.mem_map.mp ha
    obtain ⟨j, hj⟩ := List.mem_iff_getElem?.mp m0
    have hjl : j < uss.length := by rw [lu, ← hT.1]; exact (List.getElem?_eq_some_iff.mp hj).1
    exact (hu2 j a0 _ hj (List.getElem?_eq_getElem hjl)).2
  have src : ZSrc s2.heap (as.map fun a => ((false, a) : Bool × Nat)) (uss.map List.toArray) := ⟨by rw [la, List.length_map, lu, hT.1], fun j a xs e1 e2 => by
    rw [List.getElem?_map] at e1 e2
    cases f1 : as[j]? with
    | none => rw [f1] at e1; cases e1
    | some a0 =>
      cases f2 : uss[j]? with
      | none => rw [f2] at e2; cases e2
      | some us0 =>
        rw [f1] at e1
        rw [f2] at e2
        cases e1
        cases e2
        exact (hu2 j a0 us0 f1 f2).1⟩
  have hh := I2.ok.hd hc
  have szs : ∀ (j : Nat) xs us, xss[j]? = some xs → uss[j]? = some us → us.length = xs.length ∧ xs.length ≤ sizeLine := fun j xs us e1 e2 => by
    obtain ⟨us', e3, r, hz⟩ := hu1 j xs e1
    rw [e2] at e3
    cases e3
    exact ⟨r.length.symm, hz⟩
  obtain ⟨j0, xs0, hj0, hm0, hj1⟩ := hM.at'
  have hu0 : ∃ us0, uss[j0]? = some us0 := by obtain ⟨us', e3, _⟩ := hu1 j0 xs0 hj0; exact ⟨us', e3⟩
  obtain ⟨us0, hu0⟩ := hu0
  have hms : m ≤ sizeLine := by rw [← hm0]; exact (szs j0 xs0 us0 hj0 hu0).2
  have xof : ∀ (j : Nat) us, uss[j]? = some us → ∃ xs, xss[j]? = some xs := fun j us e => ⟨_, List.getElem?_eq_getElem (by rw [← lu]; exact (List.getElem?_eq_some_iff.mp e).1)⟩
  have mend : ZEnd (uss.map List.toArray) m := by
    refine ⟨fun ar ha => ?_, j0, us0.toArray, by rw [List.getElem?_map, hu0]; rfl, by rw [List.size_toArray, (szs j0 xs0 us0 hj0 hu0).1, hm0], fun j ar hj e => ?_⟩
    · obtain ⟨us, mu, rfl⟩ := List.mem_map.mp ha
      obtain ⟨j, hj⟩ := List.mem_iff_getElem?.mp mu
      obtain ⟨xs, hx⟩ := xof j us hj
      rw [List.size_toArray, (szs j xs us hx hj).1]
      exact hM.le xs (List.mem_of_getElem? hx)
    · rw [List.getElem?_map] at e
      cases f2 : uss[j]? with
      | none => rw [f2] at e; cases e
      | some us =>
        rw [f2] at e
        cases e
        obtain ⟨xs, hx⟩ := xof j us f2
        rw [List.size_toArray, (szs j xs us hx f2).1]
        exact hj1 j xs hj hx
  have eargs : ([] : List Value) ++ as.map Value.ref = (as.map fun a => ((false, a) : Bool × Nat)).map fun a => Value.ref a.2 := by rw [List.nil_append, List.map_map]; rfl
  show wpAny _ _ (call (.type "zip") ([] ++ as.map Value.ref)) _ _ _
  rw [eargs]
  refine zipN_begins (by rw [la]; exact hl) src fun h1 zst hz1 hk1 => ?_
  refine Calls.spliced_nil ?_
  refine zl_call (s := { s2 with heap := h1 }) hh (by rw [la]; exact hn) (by rw [la]; exact hl) hb zst (src.moved fun a ha o e => hk1 _ o e) mend hms fun h' tk acc c ts hk hS htl hG hacc => ?_
  dsimp only at hk hS hG ⊢
  have kp : ∀ c o, s2.heap.get? c = some o → h'.get? c = some o := fun c o e => hk c o (.inl (Heap.lt_size e)) (hk1 c o e)
  have hlo : s2.heap.objs.size ≤ h1.objs.size := by rw [hz1]; omega
  have new : ∀ t, h1.objs.size ≤ t → H1 t = none := fun t ht => I2.hok.fresh (Nat.le_trans hlo ht)
  have nd : (h1.objs.size :: ts).Nodup := List.nodup_cons.mpr ⟨fun z => Nat.lt_irrefl _ (hG.above _ z), hG.rise.imp fun h => Nat.ne_of_lt h⟩
  have lz : ((ts.zip ((List.range m).map fun j => HO.tup (colV .non xss j))).map (·.1)) = ts := by
    rw [List.map_fst_zip (by rw [List.length_map, List.length_range, htl]; exact Nat.le_refl _)]
  have nd2 : ((((h1.objs.size, HO.lst (ts.map V.ref)) :: ts.zip ((List.range m).map fun j => HO.tup (colV .non xss j))) : List (Nat × HO)).map (·.1)).Nodup := by
    rw [List.map_cons, lz]
    exact nd
  refine ⟨.ref h1.objs.size, _, inv_grow (tk := tk) (h' := h') (H' := updL H1 ((h1.objs.size, HO.lst (ts.map V.ref)) :: ts.zip ((List.range m).map fun j => HO.tup (colV .non xss j)))) I2 kp (fun b u e => ?_) (fun b o e n => ?_) fun b u e => ?_, rfl, q _ _ (new _ (Nat.le_refl _)) (fun t ht => new t (Nat.le_of_lt (hG.above t ht))) nd htl⟩
  · rw [updL_off]
    · exact e
    · rw [List.map_cons, lz]
      intro z
      have : H1 b = none := by
        rcases List.mem_cons.mp z with z | z
        · rw [z]; exact new _ (Nat.le_refl _)
        · exact new _ (Nat.le_of_lt (hG.above _ z))
      rw [this] at e
      cases e
  · rw [updL_off]
    · exact n
    · rw [List.map_cons, lz]
      have hb : b < s2.heap.objs.size := Heap.lt_size e
      intro z
      rcases List.mem_cons.mp z with z | z
      · exact absurd hb (Nat.not_lt.mpr (by rw [z]; exact hlo))
      · exact absurd hb (Nat.not_lt.mpr (Nat.le_trans hlo (Nat.le_of_lt (hG.above _ z))))
  · rcases updL_cases nd2 e with h | ⟨_, h⟩
    · right
      rcases List.mem_cons.mp h with h | h
      · cases h
        refine ⟨by rw [List.length_map, htl]; exact hms, acc.toList, c, by rw [hacc]; exact LiI.vals_refs ts, ?_⟩
        rw [Array.toArray_toList]
        exact hS
      · obtain ⟨j, hj⟩ := List.mem_iff_getElem?.mp h
        rw [List.getElem?_zip_eq_some] at hj
        obtain ⟨e1, e2⟩ := hj
        rw [List.getElem?_map] at e2
        cases f : (List.range m)[j]? with
        | none => rw [f] at e2; cases e2
        | some j' =>
          rw [f] at e2
          cases e2
          have hjm : j < m := by have := (List.getElem?_eq_some_iff.mp f).1; rwa [List.length_range] at this
          rw [List.getElem?_range hjm] at f
          cases f
          obtain ⟨ys, y1, y2, y3⟩ := hG.at' j b e1
          have ly : ys.size = xss.length := by rw [y2, List.length_map, lu]
          refine ⟨?_, ys.toList, vals_col (by rw [Array.length_toList, ly]) (fun xs hx => Nat.lt_of_lt_of_le hjm (hM.le xs hx)) hu1 fun k us hk => ?_, ⟨_, y1, rfl, 0, by simp⟩⟩
          · show (colV _ _ _).length ≤ _
            unfold colV
            rw [List.length_map, ← hT.1, sizeLine_eq]
            omega
          · have := y3 k us.toArray (by rw [List.getElem?_map, hk]; rfl)
            simpa using this
    · exact .inl h
end
end DL
set_option maxHeartbeats 1000000
namespace DL
open PySem PySem.Spec PyProof.Rows L2
/-! ### list(zip(*x)), by data -/
def tupsM : List D → M (List (List D))
  | [] => pure []
  | .tup ds :: r => tupsM r >>= fun x => pure (ds :: x)
  | _ => stuck
def minL {α : Type} : List (List α) → Nat
  | [] => 0
  | [xs] => xs.length
  | xs :: ys :: r => min xs.length (minL (ys :: r))
theorem minL_ok {α : Type} : ∀ {xss : List (List α)}, xss ≠ [] → MinL xss (minL xss)
  | [], h => absurd rfl h
  | [xs], _ => ⟨fun ys h => by rw [List.mem_singleton.mp h]; exact Nat.le_refl _, 0, xs, rfl, rfl, fun j _ h => absurd h (Nat.not_lt_zero _)⟩
  | xs :: ys :: r, _ => by
    have ih := minL_ok (xss := ys :: r) (by simp)
    have e : minL (xs :: ys :: r) = min xs.length (minL (ys :: r)) := rfl
    rw [e]
    by_cases z : xs.length ≤ minL (ys :: r)
    · rw [Nat.min_eq_left z]
      refine ⟨fun zs h => ?_, 0, xs, rfl, rfl, fun j _ h => absurd h (Nat.not_lt_zero _)⟩
      rcases List.mem_cons.mp h with h | h
      · rw [h]; exact Nat.le_refl _
      · exact Nat.le_trans z (ih.le zs h)
    · have z' : minL (ys :: r) < xs.length := by omega
      rw [Nat.min_eq_right (by omega)]
      obtain ⟨j0, xs0, e1, e2, e3⟩ := ih.at'
      refine ⟨fun zs h => ?_, j0 + 1, xs0, by simpa using e1, e2, fun j zs hj hz => ?_⟩
      · rcases List.mem_cons.mp h with h | h
        · rw [h]; omega
        · exact ih.le zs h
      · cases j with
        | zero => cases hz; exact z'
        | succ j => exact e3 j zs (by omega) (by simpa using hz)
theorem minL_same {α β : Type} {xss : List (List α)} {yss : List (List β)} {m : Nat} (hl : xss.length = yss.length) (h : ∀ (j : Nat) xs ys, xss[j]? = some xs → yss[j]? = some ys → xs.length = ys.length) (M : MinL yss m) : MinL xss m := by
  have of : ∀ (j : Nat) xs, xss[j]? = some xs → ∃ ys, yss[j]? = some ys := fun j xs e => ⟨_, List.getElem?_eq_getElem (by rw [← hl]; exact (List.getElem?_eq_some_iff.mp e).1)⟩
  obtain ⟨j0, ys0, e1, e2, e3⟩ := M.at'
  obtain ⟨xs0, e4⟩ : ∃ xs0, xss[j0]? = some xs0 := ⟨_, List.getElem?_eq_getElem (by rw [hl]; exact (List.getElem?_eq_some_iff.mp e1).1)⟩
  refine ⟨fun xs hx => ?_, j0, xs0, e4, by rw [h j0 xs0 ys0 e4 e1]; exact e2, fun j xs hj hx => ?_⟩
  · obtain ⟨j, hj⟩ := List.mem_iff_getElem?.mp hx
    obtain ⟨ys, hy⟩ := of j xs hj
    rw [h j xs ys hj hy]
    exact M.le ys (List.mem_of_getElem? hy)
  · obtain ⟨ys, hy⟩ := of j xs hx
    rw [h j xs ys hx hy]
    exact e3 j ys hj hy
def colsD (dss : List (List D)) : List D := (List.range (minL dss)).map fun j => .tup (colV .non dss j)
def zipSD (d : D) : M D := items d >>= fun ds => tupsM ds >>= fun dss => if 0 < dss.length ∧ dss.length ≤ 8 then pure (.lst (colsD dss)) else stuck
section
variable {p : Pg} {g : Gs} {H : Hp}
theorem tupsM_ok {s : Store} {ex : Nat → Store → Prop} : ∀ {ds : List D} {ok : List (List D) → Store → Prop}, (tupsM ds s).Post ok ex → ∃ dss, ds = dss.map D.tup ∧ ok dss s
  | [], ok, q => ⟨[], rfl, q⟩
  | d :: r, ok, q => by
    cases d with
    | tup ds =>
      have q := post_bind (m := tupsM r) (f := fun x => pure (ds :: x)) q
      obtain ⟨dss, e, q⟩ := tupsM_ok q
      exact ⟨ds :: dss, by rw [e]; rfl, q⟩
    | _ => exact False.elim q
theorem tups_of (w : Wf p g H) : ∀ {us : List V} {dss : List (List D)}, p.Rps g us (dss.map D.tup) → ∃ (as : List Addr) (xss : List (List V)), us = as.map V.ref ∧ xss.length = dss.length ∧ TupsAt p.K H as xss ∧ ∀ (j : Nat) xs ds, xss[j]? = some xs → dss[j]? = some ds → p.Rps g xs ds
  | _, [], .nil => ⟨[], [], rfl, rfl, ⟨rfl, fun j a xs h => by simp at h⟩, fun j xs ds h => by simp at h⟩
  | _, ds :: dss, .cons r t => by
    obtain ⟨as, xss, e, l, h1, h2⟩ := tups_of w t
    obtain ⟨a, xs, rfl, s, rr⟩ := TopR.tup (H := H) w (.inl r)
    refine ⟨a :: as, xs :: xss, by rw [e]; rfl, by simp [l], ⟨by simp [h1.1], fun j b ys e1 e2 => ?_⟩, fun j ys es e1 e2 => ?_⟩
    · cases j with
      | zero => cases e1; cases e2; exact s
      | succ j => exact h1.2 j b ys (by simpa using e1) (by simpa using e2)
    · cases j with
      | zero => cases e1; cases e2; exact rr
      | succ j => exact h2 j ys es (by simpa using e1) (by simpa using e2)
/-- tuples laid one after another, all frozen -/
theorem news_tups : ∀ {l : List (Nat × List V × List D)} {g : Gs} {H : Hp}, Wf p g H → (∀ x ∈ l, H x.1 = none) → (l.map (·.1)).Nodup → (∀ x ∈ l, p.Rps g x.2.1 x.2.2) →
    ∃ g', g'.st = g.st ∧ g'.am = g.am ∧ (∀ a, a ∉ l.map (·.1) → g'.G a = g.G a) ∧ Stp p g H g' (updL H (l.map fun x => (x.1, HO.tup x.2.1))) ∧ p.Rps g' (l.map fun x => V.ref x.1) (l.map fun x => D.tup x.2.2)
  | [], g, H, w, _, _, _ => ⟨g, rfl, rfl, fun _ _ => rfl, .refl w, .nil⟩
  | (t, xs, ds) :: l, g, H, w, hn, nd, hr => by
    rw [List.map_cons, List.nodup_cons] at nd
    have s := Stp.new (o := .tup xs) w (hn _ (.head _))
    have r0 := hr _ (.head _)
    obtain ⟨g', e1, e2, e3, st, rr⟩ := news_tups (l := l) s.wf (fun x hx => by
      rw [upd_ne (fun z => nd.1 (by rw [← z]; exact List.mem_map_of_mem hx))]
      exact hn x (.tail _ hx)) nd.2 (fun x hx => (hr x (.tail _ hx)).mono s.gle s.aml)
    refine ⟨g', e1, e2, fun a ha => ?_, s.trans w st, .cons ((Rp.tup (K := p.K) (am := g.am) upd_same (r0.mono s.gle s.aml) : p.Rp { g with G := upd g.G t (.tup xs) } (.ref t) (.tup ds)).mono st.gle st.aml) rr⟩
    rw [List.map_cons, List.mem_cons, not_or] at ha
    rw [e3 a ha.2]
    show upd g.G t (.tup xs) a = g.G a
    rw [upd_ne ha.1]
theorem rps_col {xss : List (List V)} {dss : List (List D)} {j : Nat} (hl : xss.length = dss.length) (h : ∀ (k : Nat) xs ds, xss[k]? = some xs → dss[k]? = some ds → p.Rps g xs ds) (hj : ∀ ds ∈ dss, j < ds.length) : p.Rps g (colV .non xss j) (colV .non dss j) := by
  induction dss generalizing xss with
  | nil =>
    cases xss with
    | nil => exact .nil
    | cons _ _ => simp at hl
  | cons ds dss ih =>
    cases xss with
    | nil => simp at hl
    | cons xs xss =>
      have r := h 0 xs ds rfl rfl
      obtain ⟨d, ed⟩ : ∃ d, ds[j]? = some d := ⟨_, List.getElem?_eq_getElem (hj ds (.head _))⟩
      obtain ⟨v, ev, rv⟩ := r.get ed
      show p.Rps g (((xs[j]?).getD .non) :: colV .non xss j) (((ds[j]?).getD .non) :: colV .non dss j)
      rw [ed, ev]
      exact .cons rv (ih (by simpa using hl) (fun k xs ds e1 e2 => h (k + 1) xs ds (by simpa using e1) (by simpa using e2)) fun ds hd => hj ds (.tail _ hd))
end
section
variable {S : Sta} {ρ : Ev} {a : Expr} {ma : M D} {pos q q2 q3 q4 : Pos}
theorem en_lzs (hg : Glb S "list") (hm : S.pg.mg "list" = none) (hg2 : Glb S "zip") (hm2 : S.pg.mg "zip" = none) (ha : EL S ρ a ma) (hst : ∀ env : Env, starEach [.Starred a q3] env = [(true, eval a env)] := by exact fun _ => rfl)
    (hs : NoStar [.Call (.Name "zip" q2) [.Starred a q3] [] q4] := by exact fun _ => rfl) : EN S ρ (.Call (.Name "list" q) [.Call (.Name "zip" q2) [.Starred a q3] [] q4] [] pos) (ma >>= zipSD) := fun Y ok =>
  (pe_listZipS (X := S.cx Y) rfl (ha Y ok) hg hm hg2 hm2 (hst _) (hs _)).pre fun σ H Q ⟨F, g, E, q⟩ => rdX.bind E q fun x v g' H' s E' r q => by
    unfold zipSD at q
    obtain ⟨a, us, ds, rfl, hq, rr, q⟩ := items_ok E'.wf r (post_bind q)
    obtain ⟨dss, e0, q5⟩ := tupsM_ok (post_bind q)
    subst e0
    replace q := q5
    clear q5
    by_cases z : 0 < dss.length ∧ dss.length ≤ 8
    · rw [if_pos z] at q
      obtain ⟨as, xss, rfl, lx, hT, hR⟩ := tups_of E'.wf rr
      have lad : as.length = dss.length := by rw [hT.1, lx]
      have hM : MinL dss (minL dss) := minL_ok (by intro e; rw [e] at z; simp at z)
      have hMx : MinL xss (minL dss) := minL_same lx (fun j xs ds e1 e2 => (hR j xs ds e1 e2).length) hM
      refine ⟨a, as, xss, minL dss, rfl, hq, by rw [lad]; exact z.1, by rw [lad]; exact z.2, hT, hMx, fun p ts hp hts nd htl => ?_⟩
      have nd' := List.nodup_cons.mp nd
      have s1 := Stp.laid (o := .lst (ts.map V.ref)) E'.wf hp
      -- the tuples
      have key := news_tups (p := S.pg) (l := ts.zip ((List.range (minL dss)).map fun j => (colV V.non xss j, colV D.non dss j))) s1.wf (fun x hx => by
        have hx1 : x.1 ∈ ts := (List.of_mem_zip hx).1
        rw [upd_ne (fun z => nd'.1 (by rw [← z]; exact hx1))]
        exact hts _ hx1) (by
        rw [List.map_fst_zip (by rw [List.length_map, List.length_range, htl]; exact Nat.le_refl _)]
        exact nd'.2) (fun x hx => by
        obtain ⟨j, hj, e⟩ := List.mem_map.mp (List.of_mem_zip hx).2
        rw [← e]
        exact (rps_col lx hR fun ds hd => Nat.lt_of_lt_of_le (List.mem_range.mp hj) (hM.le ds hd)))
      obtain ⟨g2, e1, e2, e3, st, rr2⟩ := key
      have zz : ∀ {α β γ : Type} (f : β → γ) (l : List α) (m : List β), (l.zip m).map (fun x => (x.1, f x.2)) = l.zip (m.map f) := fun f l m => by
        rw [List.zip_map_right]
        rfl
      have eH : ((ts.zip ((List.range (minL dss)).map fun j => (colV V.non xss j, colV D.non dss j))).map fun x => (x.1, HO.tup x.2.1)) = ts.zip ((List.range (minL dss)).map fun j => HO.tup (colV .non xss j)) := by
        rw [zz (fun x : List V × List D => HO.tup x.1), List.map_map]
        rfl
      have eV : ((ts.zip ((List.range (minL dss)).map fun j => (colV V.non xss j, colV D.non dss j))).map fun x => V.ref x.1) = ts.map V.ref := by
        have : (fun x : Nat × List V × List D => V.ref x.1) = V.ref ∘ Prod.fst := rfl
        rw [this, ← List.map_map, List.map_fst_zip (by rw [List.length_map, List.length_range, htl]; exact Nat.le_refl _)]
      have eD : ((ts.zip ((List.range (minL dss)).map fun j => (colV V.non xss j, colV D.non dss j))).map fun x => D.tup x.2.2) = colsD dss := by
        have : (fun x : Nat × List V × List D => D.tup x.2.2) = (fun y : List V × List D => D.tup y.2) ∘ Prod.snd := rfl
        rw [this, ← List.map_map, List.map_snd_zip (by rw [List.length_map, List.length_range, htl]; exact Nat.le_refl _), List.map_map]
        rfl
      rw [eH] at st
      rw [eV, eD] at rr2
      refine (post_pure q) _ g2 _ e1 (s.trans E.wf (s1.trans E'.wf st)) ⟨p, rfl, ⟨ts.map V.ref, ?_, rr2⟩, ?_, ?_, s.none_of E.wf hp⟩
      · show updL (upd H' p (.lst (ts.map V.ref))) _ p = _
        rw [updL_off (by rw [List.map_fst_zip (by rw [List.length_map, List.length_range, htl]; exact Nat.le_refl _)]; exact nd'.1), upd_same]
      · rw [e3 p (by rw [List.map_fst_zip (by rw [List.length_map, List.length_range, htl]; exact Nat.le_refl _)]; exact nd'.1)]
        exact E'.wf.freeG hp
      · rw [e2]
        exact E'.wf.freeA hp
    · rw [if_neg z] at q
      exact False.elim q
end
end DL
set_option maxHeartbeats 1000000
namespace DL
open PySem PySem.Spec PyProof.Rows L2
/-! ### the walk of zip of any number -/
def SrcV (K : PySem.W.Frag) (H : Hp) (as : ZAs) (xss : List (List V)) : Prop := as.length = xss.length ∧ ∀ (j : Nat) a xs, as[j]? = some a → xss[j]? = some xs → SqG a.1 K H a.2 xs
def ItzN (K : PySem.W.Frag) (as : ZAs) : It :=
  ⟨fun i H => ∃ xss : List (List V), SrcV K H as xss ∧ ∀ xs ∈ xss, i < xs.length,
    fun i H v H' => ∃ T ys, v = .ref T ∧ H T = none ∧ H' = upd H T (.tup ys) ∧ ys.length = as.length ∧ ∀ xss, SrcV K H as xss → ∀ (k : Nat) xs, xss[k]? = some xs → ys[k]? = xs[i]?,
    fun i H => ∃ xss : List (List V), SrcV K H as xss ∧ MinL xss i⟩
section
variable {X : Cx}
theorem srcs_heap {pins : List (Addr × Obj)} {σ : L2.St} {H : Hp} {s : Shared} (I : Inv X pins σ H s) : ∀ {as : ZAs} {xss : List (List V)}, SrcV X.K H as xss →
    ∃ uss : List (List Value), uss.length = xss.length ∧ (∀ (j : Nat) xs, xss[j]? = some xs → ∃ us, uss[j]? = some us ∧ Vals xs us) ∧ ZSrc s.heap as (uss.map List.toArray) ∧ ∀ a ∈ as, a.2 < s.heap.objs.size
  | [], [], _ => ⟨[], rfl, fun j xs h => by simp at h, ⟨rfl, fun j a us h => by simp at h⟩, fun a h => nomatch h⟩
  | [], _ :: _, h => by have := h.1; simp at this
  | _ :: _, [], h => by have := h.1; simp at this
  | a :: as, xs :: xss, h => by
    obtain ⟨uss, l, h1, h2, h3⟩ := srcs_heap I (as := as) (xss := xss) ⟨by have := h.1; simpa using this, fun j a xs e1 e2 => h.2 (j + 1) a xs (by simpa using e1) (by simpa using e2)⟩
    obtain ⟨its, rv, p, lt⟩ := (h.2 0 a xs rfl rfl).heap I
    refine ⟨its :: uss, by simp [l], fun j ys e => ?_, ⟨by simpa using h2.1, fun j b us e1 e2 => ?_⟩, fun b hb => ?_⟩
    · cases j with
      | zero => cases e; exact ⟨its, rfl, rv⟩
      | succ j => exact h1 j ys (by simpa using e)
    · cases j with
      | zero => cases e1; cases e2; exact p
      | succ j => exact h2.2 j b us (by simpa using e1) (by simpa using e2)
    · rcases List.mem_cons.mp hb with e | hb
      · rw [e]; exact lt
      · exact h3 b hb
theorem SrcV.inj {pins : List (Addr × Obj)} {σ : L2.St} {H : Hp} {s : Shared} (I : Inv X pins σ H s) {as : ZAs} {xss yss : List (List V)} (h1 : SrcV X.K H as xss) (h2 : SrcV X.K H as yss) : xss = yss := by
  refine List.ext_getElem? fun j => ?_
  have l : xss.length = yss.length := by rw [← h1.1, h2.1]
  by_cases z : j < xss.length
  · obtain ⟨a, ha⟩ : ∃ a, as[j]? = some a := ⟨_, List.getElem?_eq_getElem (by rw [h1.1]; exact z)⟩
    rw [List.getElem?_eq_getElem z, List.getElem?_eq_getElem (by omega)]
    congr 1
    exact (h1.2 j a _ ha (List.getElem?_eq_getElem z)).inj I (h2.2 j a _ ha (List.getElem?_eq_getElem (by omega)))
  · rw [List.getElem?_eq_none (by omega), List.getElem?_eq_none (by omega)]
end
theorem zfp_mem {b n c : Nat} : c ∈ (List.range (n + 3)).map (b + ·) ↔ b ≤ c ∧ c < b + n + 3 := by
  rw [List.mem_map]
  constructor
  · rintro ⟨j, hj, rfl⟩
    have := List.mem_range.mp hj
    omega
  · intro h
    exact ⟨c - b, List.mem_range.mpr (by omega), by omega⟩
theorem znot {b n c : Nat} (h : ¬ (b ≤ c ∧ c < b + n + 3)) : c < b ∨ b + n + 3 ≤ c := by omega
theorem zne {b n c : Nat} (h : ¬ (b ≤ c ∧ c < b + n + 3)) : c ≠ b + n + 2 := by omega
theorem zlt {b n c s : Nat} (h : b ≤ c ∧ c < b + n + 3) (h2 : b + n + 2 < s) : c < s := by omega
theorem ZSt.live {h : Heap} {b : Nat} {as : ZAs} {own : Value} {t : Nat} (st : ZSt h b as own t) {c : Nat} (hc : b ≤ c ∧ c < b + as.length + 3) : ∃ o, h.get? c = some o ∧ ∀ v, o.data ≠ .cell v := by
  by_cases z : c < b + as.length
  · obtain ⟨a, ha⟩ : ∃ a, as[c - b]? = some a := ⟨_, List.getElem?_eq_getElem (by omega)⟩
    have := (st.it (c - b) a ha).live
    rw [show b + (c - b) = c from by omega] at this
    exact this
  · rcases (show c = b + as.length ∨ c = b + as.length + 1 ∨ c = b + as.length + 2 by omega) with e | e | e
    · subst e; exact ⟨_, st.ti, fun v q => by cases q⟩
    · subst e; obtain ⟨ys, _, e⟩ := st.to; exact ⟨_, e, fun v q => by cases q⟩
    · subst e; exact ⟨_, st.z, fun v q => by cases q⟩
theorem ZSt.moved {h h' : Heap} {b : Nat} {as : ZAs} {own : Value} {t : Nat} (st : ZSt h b as own t) (k : ∀ c o, b ≤ c → c < b + as.length + 3 → h.get? c = some o → h'.get? c = some o) : ZSt h' b as own t := by
  obtain ⟨ys, y1, y2⟩ := st.to
  exact ⟨k _ _ (by omega) (by omega) st.z, k _ _ (by omega) (by omega) st.ti, ⟨ys, y1, k _ _ (by omega) (by omega) y2⟩, fun j a hj => (st.it j a hj).moved fun o e => k _ _ (by omega) (by have := (List.getElem?_eq_some_iff.mp hj).1; omega) e⟩
theorem turn_zipN {P : Program} {w : World} {K : PySem.W.Frag} {elts : List Expr} {kk : Nat} {tpos : Pos} {b : Nat} {as : ZAs} (hn : 0 < as.length) (hl : as.length ≤ 8) (hb : ∀ a ∈ as, a.2 < b) :
    Turn P w K (.Tuple elts kk tpos) (ItzN K as) ((List.range (as.length + 3)).map (b + ·)) (b + as.length + 2) (fun i h => ZSt h b as .none i) where
  mem := zfp_mem.mpr (by omega)
  obj := fun i h st c hc => st.live (zfp_mem.mp hc)
  keep := fun i h h' st k => st.moved fun c o h1 h2 e => k c (zfp_mem.mpr ⟨h1, h2⟩) o e
  item := by
    intro X hP hw hK hc i pins s σ H E I hf st hg
    subst hP hw hK
    obtain ⟨xss, sx, hx⟩ := hg
    obtain ⟨uss, lu, hu1, src, hlt⟩ := srcs_heap I sx
    have hzl : b + as.length + 2 < s.heap.objs.size := Heap.lt_size st.z
    refine pyNext_zipN_item (I.ok.hd hc) hn hl st src hb (fun ar ha => ?_) fun h' tk ys hys hyx st' hT hsz hk => ?_
    · obtain ⟨us, mu, rfl⟩ := List.mem_map.mp ha
      obtain ⟨j, hj⟩ := List.mem_iff_getElem?.mp mu
      obtain ⟨xs, ex⟩ : ∃ xs, xss[j]? = some xs := ⟨_, List.getElem?_eq_getElem (by rw [← lu]; exact (List.getElem?_eq_some_iff.mp hj).1)⟩
      obtain ⟨us', eu, r⟩ := hu1 j xs ex
      rw [hj] at eu
      cases eu
      rw [List.size_toArray, ← r.length]
      exact hx xs (List.mem_of_getElem? ex)
    refine ⟨_, rfl, wpAny_letOwnedTupleGo_zip (s := { s with heap := h', toks := tk }) st'.z fun h'' z'' sb => ?_⟩
    have keep : ∀ c o, c ≠ b + as.length + 2 → h'.get? c = some o → h''.get? c = some o := fun c o n e => (sb.2 c n).trans e
    have hT2 : h''.get? s.heap.objs.size = some { cls := .type "tuple", data := .seq ys } := keep _ _ (Nat.ne_of_gt hzl) hT
    have rv : Vals (colV .non xss i) ys.toList := vals_col (by rw [Array.length_toList, hys, sx.1]) hx (fun k xs e => by
      obtain ⟨us, eu, r⟩ := hu1 k xs e
      obtain ⟨a, ha⟩ : ∃ a, as[k]? = some a := ⟨_, List.getElem?_eq_getElem (by rw [sx.1]; exact (List.getElem?_eq_some_iff.mp e).1)⟩
      refine ⟨us, eu, r, ?_⟩
      have := sx.2 k a xs ha e
      cases hk : a.1 with
      | true =>
        rw [hk] at this
        obtain ⟨_, _, _, hz⟩ := I.list this
        exact hz
      | false =>
        rw [hk] at this
        obtain ⟨_, _, _, hz⟩ := I.tuple this
        exact hz) (fun k us e => by
      have := hyx k us.toArray (by rw [List.getElem?_map, e]; rfl)
      simpa using this)
    have new : ObjOk X.prog X.w (upd H s.heap.objs.size (.tup (colV .non xss i))) h'' s.heap.objs.size (.tup (colV .non xss i)) :=
      ⟨by unfold colV; rw [List.length_map, ← sx.1, sizeLine_eq]; omega, ys.toList, rv, ⟨_, hT2, rfl, 0, by simp⟩⟩
    have I1 : Inv X pins σ (upd H s.heap.objs.size (.tup (colV .non xss i))) { s with heap := h'', toks := tk } :=
      I.turnedNew (ch := (List.range (as.length + 3)).map (b + ·)) (fun c o hb q => by
        have hb' : ¬ (b ≤ c ∧ c < b + as.length + 3) := fun z => hb (zfp_mem.mpr z)
        exact keep c o (zne hb') (hk c o (znot hb') q)) hf (Nat.le_refl _) new
    refine ⟨.ref s.heap.objs.size, _, I1, rfl, ⟨_, _, rfl, I.hok.fresh (Nat.le_refl _), rfl, by unfold colV; rw [List.length_map, sx.1], fun yss hyss k xs e => ?_⟩, ?_, fun c hcm => ?_⟩
    · have := hyss.inj I sx
      subst this
      unfold colV
      rw [List.getElem?_map, e]
      have := hx xs (List.mem_of_getElem? e)
      show some ((xs[i]?).getD .non) = xs[i]?
      rw [List.getElem?_eq_getElem this]
      rfl
    · obtain ⟨zs, z1, z2⟩ := st'.to
      exact ⟨z'', keep _ _ (by (first | omega | (show @Ne Nat _ _; omega))) st'.ti, ⟨zs, z1, keep _ _ (by (first | omega | (show @Ne Nat _ _; omega))) z2⟩, fun j a hj => (st'.it j a hj).moved fun o e => keep _ _ (by have := (List.getElem?_eq_some_iff.mp hj).1; (first | omega | (show @Ne Nat _ _; omega))) e⟩
    · have hm := zfp_mem.mp hcm
      have hlt : c < s.heap.objs.size := zlt hm hzl
      rw [upd_ne (Nat.ne_of_lt hlt)]
      exact (hf c hcm).1
  done := by
    intro X hP hw hK hc i pins s σ H E I hf st hg
    subst hP hw hK
    obtain ⟨xss, sx, hM⟩ := hg
    obtain ⟨uss, lu, hu1, src, hlt⟩ := srcs_heap I sx
    obtain ⟨j0, xs0, e1, e2, e3⟩ := hM.at'
    obtain ⟨us0, eu0, r0⟩ := hu1 j0 xs0 e1
    refine pyNext_zipN_end (I.ok.hd hc) hn hl st src hb (j0 := j0) (xs0 := us0.toArray) (by rw [List.getElem?_map, eu0]; rfl) (by rw [List.size_toArray, ← r0.length, e2]) (fun j ar hj e => ?_) fun h' tk hk => ⟨rfl, I.turnedL (ch := (List.range (as.length + 3)).map (b + ·)) (fun c o hb q => ?_) hf⟩
    · rw [List.getElem?_map] at e
      cases f2 : uss[j]? with
      | none => rw [f2] at e; cases e
      | some us =>
        rw [f2] at e
        cases e
        obtain ⟨xs, ex⟩ : ∃ xs, xss[j]? = some xs := ⟨_, List.getElem?_eq_getElem (by rw [← lu]; exact (List.getElem?_eq_some_iff.mp f2).1)⟩
        obtain ⟨us', eu, r⟩ := hu1 j xs ex
        rw [f2] at eu
        cases eu
        rw [List.size_toArray, ← r.length]
        exact e3 j xs hj ex
    · have hb' : ¬ (b ≤ c ∧ c < b + as.length + 3) := fun z => hb (zfp_mem.mpr z)
      exact hk c o (znot hb') q
  self := fun A i s Q E st h => wpAny_pyIter_zip st.z h
def iZipN (K : PySem.W.Frag) (ta : TA) : TI := fun σ H R => ta σ H fun vs H1 => ∃ (as : ZAs) (xss : List (List V)), vs = as.map (fun a => V.ref a.2) ∧ 0 < as.length ∧ as.length ≤ 8 ∧ SrcV K H1 as xss ∧ R (ItzN K as) H1
theorem refs_vals2 : ∀ {as : ZAs} {us : List Value}, Vals (as.map fun a => V.ref a.2) us → us = as.map fun a => Value.ref a.2
  | [], _, .nil => rfl
  | a :: as, _, .cons r t => by
    rw [List.map_cons, ← refs_vals2 t]
    rw [show _ = Value.ref a.2 from r]
theorem pi_zipN {X : Cx} {e : Expr} {es : List Expr} {ta : TA} {p pos tpos : Pos} {elts : List Expr} {kk : Nat} (hg : Gl X "zip") (hm : X.mg "zip" = none) (ha : PA X (e :: es) ta)
    (hs : starEach (e :: es) X.env = (false, eval e X.env) :: starEach es X.env) (hpl : (backTo pos (starEach es X.env)).any (·.1) = false) :
    PI X (.Tuple elts kk tpos) (.Call (.Name "zip" p) (e :: es) [] pos) (iZipN X.K ta) := by
  refine ⟨fun pins s σ H R I h => Call_ (ld_blt I hg hm PyProof.Rows.boot_zip (PyProof.Rows.callWith_type1 (thn (ha.run pos pins s σ H _ I h) fun us s1 q0 => ?_) hs hpl))⟩
  obtain ⟨vs, H1, I1, r1, as, xss, ex, hn, hl, sx, q⟩ := q0
  subst ex
  have := refs_vals2 r1
  subst this
  obtain ⟨uss, lu, hu1, src, hlt⟩ := srcs_heap I1 sx
  refine zipN_begins hl src fun h' st hsz hk => wpAny_pyIter_zip st.z ?_
  have I2 : Inv X pins σ H1 { s1 with heap := h' } := I1.kept (t' := s1.toks) hk
  exact ⟨s1.heap.objs.size + as.length + 2, (List.range (as.length + 3)).map (s1.heap.objs.size + ·), _, _, H1, rfl, I2, turn_zipN hn hl hlt, st, fun c hcm => by
    have := zfp_mem.mp hcm
    exact I1.fpOk this.1 (I1.hok.fresh this.1), q⟩
end DL
set_option maxHeartbeats 1000000
namespace DL
open PySem PySem.Spec PyProof.Rows L2
/-! ### zip of three, by data -/
theorem colsD_len (dss : List (List D)) : (colsD dss).length = minL dss := by unfold colsD; rw [List.length_map, List.length_range]
theorem wk_zipN {p : Pg} {T : Tm} {as : ZAs} {uss : List (List V)} {dss : List (List D)} (hl : as.length = dss.length) (lu : uss.length = dss.length) (hn : dss ≠ []) (h : ∀ (j : Nat) a us ds, as[j]? = some a → uss[j]? = some us → dss[j]? = some ds → SqW p T a.1 a.2 us ds) :
    Wk p T (ItzN p.K as) (colsD dss) := by
  have third : ∀ (j : Nat), j < dss.length → ∃ a us ds, as[j]? = some a ∧ uss[j]? = some us ∧ dss[j]? = some ds := fun j hj =>
    ⟨_, _, _, List.getElem?_eq_getElem (by omega), List.getElem?_eq_getElem (by omega), List.getElem?_eq_getElem hj⟩
  have src : ∀ g H, Wf p g H → T g H → SrcV p.K H as uss := fun g H w t => ⟨by rw [hl, lu], fun j a xs e1 e2 => by
    obtain ⟨_, _, ds, _, _, e3⟩ := third j (by have := (List.getElem?_eq_some_iff.mp e1).1; omega)
    exact (h j a xs ds e1 e2 e3 g H w t).1⟩
  have len : ∀ g H, Wf p g H → T g H → ∀ (j : Nat) us ds, uss[j]? = some us → dss[j]? = some ds → us.length = ds.length := fun g H w t j us ds e2 e3 => by
    obtain ⟨a, _, _, e1, _, _⟩ := third j (List.getElem?_eq_some_iff.mp e3).1
    exact (h j a us ds e1 e2 e3 g H w t).2.length
  have hM := minL_ok hn
  refine ⟨fun i g H hi w t => ⟨uss, src g H w t, fun us hu => ?_⟩, fun g H w t => ⟨uss, src g H w t, ?_⟩, fun i g H x H' hi w t y => ?_⟩
  · rw [colsD_len] at hi
    obtain ⟨j, hj⟩ := List.mem_iff_getElem?.mp hu
    obtain ⟨_, _, ds, _, _, e3⟩ := third j (by have := (List.getElem?_eq_some_iff.mp hj).1; omega)
    rw [len g H w t j us ds hj e3]
    exact Nat.lt_of_lt_of_le hi (hM.le ds (List.mem_of_getElem? e3))
  · rw [colsD_len]
    exact minL_same lu (len g H w t) hM
  · rw [colsD_len] at hi
    obtain ⟨T', ys, rfl, hT, rfl, ly, hy⟩ := y
    have hy := hy uss (src g H w t)
    have rys : p.Rps g ys (colV .non dss i) := by
      have gen : ∀ (ys : List V) (es : List D), ys.length = es.length → (∀ (k : Nat) e, es[k]? = some e → ∃ v, ys[k]? = some v ∧ p.Rp g v e) → p.Rps g ys es := by
        intro ys
        induction ys with
        | nil =>
          intro es hl _
          cases es with
          | nil => exact .nil
          | cons _ _ => simp at hl
        | cons y ys ih =>
          intro es hl h
          cases es with
          | nil => simp at hl
          | cons e es =>
            obtain ⟨v, ev, r⟩ := h 0 e rfl
            cases ev
            exact .cons r (ih es (by simpa using hl) fun k e he => by simpa using h (k + 1) e (by simpa using he))
      refine gen ys _ (by unfold colV; rw [List.length_map, ly, hl]) fun k e he => ?_
      unfold colV at he
      rw [List.getElem?_map] at he
      cases ed : dss[k]? with
      | none => rw [ed] at he; cases he
      | some ds =>
        rw [ed] at he
        cases he
        obtain ⟨a, us, _, e1, e2, _⟩ := third k (List.getElem?_eq_some_iff.mp ed).1
        have r := (h k a us ds e1 e2 ed g H w t).2
        have hil : i < ds.length := Nat.lt_of_lt_of_le hi (hM.le ds (List.mem_of_getElem? ed))
        obtain ⟨v, ev, rv⟩ := r.get (List.getElem?_eq_getElem hil)
        refine ⟨v, by rw [hy k us e2]; exact ev, ?_⟩
        show p.Rp g v ((ds[i]?).getD .non)
        rw [List.getElem?_eq_getElem hil]
        exact rv
    have s := Stp.new (o := .tup ys) w hT
    refine ⟨{ g with G := upd g.G T' (.tup ys) }, .tup (colV .non dss i), rfl, s, ?_, .tup upd_same (rys.mono s.gle s.aml)⟩
    unfold colsD
    rw [List.getElem?_map, List.getElem?_range hi]
    rfl
def zip3M (ma mb mc : M D) : M (List D) := ma >>= fun x => mb >>= fun y => mc >>= fun z => items x >>= fun xs => items y >>= fun ys => items z >>= fun zs => pure (colsD [xs, ys, zs])
section
variable {S : Sta} {ρ : Ev} {a b c tg it e : Expr} {ma mb mc m : M D} {mi : M (List D)} {pos p tpos : Pos} {elts : List Expr} {kk : Nat}
theorem ei_zip3 (hg : Glb S "zip") (hm : S.pg.mg "zip" = none) (ha : EE S ρ a ma) (hb : EE S ρ b mb) (hc : EE S ρ c mc) (hs : NoStar [a, b, c] := by intro _; rfl) (hs2 : NoStar [b, c] := by intro _; rfl) (hs3 : NoStar [c] := by intro _; rfl) :
    EI S ρ (TL S.pg) (.Tuple elts kk tpos) (.Call (.Name "zip" p) [a, b, c] [] pos) (zip3M ma mb mc) := fun Y ok =>
  (pi_zipN (X := S.cx Y) hg hm (pa_cons (ha Y ok) (pa_cons (hb Y ok) (pa_cons (hc Y ok) pa_nil (hs3 _)) (by rw [hs3 _]; exact hs2 _)) (by rw [hs2 _]; exact hs _)) (by rw [hs2 _]; exact hs _) (by rw [hs2 _]; rfl)).pre fun σ H Q ⟨F, g, E, q⟩ =>
    rdX.bind E q fun x v g' H' s E' r q => rdX.bind E' (q.imp (fun _ _ q => q) fun _ _ q => q.back E.wf s) fun y u g2 H2 s2 E2 r2 q => rdX.bind E2 (q.imp (fun _ _ q => q) fun _ _ q => q.back E'.wf s2) fun z t g3 H3 s3 E3 r3 q => by
      obtain ⟨k1, a1, us, ds, e1, w1, q⟩ := items_K (sq_strong (H := H') r) (post_bind q)
      obtain ⟨k2, b1, vs, es, e2, w2, q⟩ := items_K (sq_strong (H := H2) r2) (post_bind q)
      obtain ⟨k3, c1, ws, fs, e3, w3, q⟩ := items_K (sq_strong (H := H3) r3) (post_bind q)
      subst e1 e2 e3
      have w1' : SqW S.pg (TL S.pg g3 H3) k1 a1 us ds := fun g H w t => w1 g H w ((s2.ltr.trans s3.ltr).trans t)
      have w2' : SqW S.pg (TL S.pg g3 H3) k2 b1 vs es := fun g H w t => w2 g H w (s3.ltr.trans t)
      refine ⟨[(k1, a1), (k2, b1), (k3, c1)], [us, vs, ws], rfl, Nat.succ_pos _, Nat.le_of_ble_eq_true rfl, ⟨rfl, fun j a xs h1 h2 => ?_⟩, (post_pure q) _ g3 H3 rfl ((s.trans E.wf s2).trans E.wf s3) (wk_zipN (uss := [us, vs, ws]) rfl rfl (by simp) fun j a xs zs h1 h2 h3 => ?_)⟩
      · have t0 : TL S.pg g3 H3 g3 H3 := Ltr.refl g3
        rcases j with _ | _ | _ | j
        · cases h1; cases h2; exact (w1' g3 H3 E3.wf t0).1
        · cases h1; cases h2; exact (w2' g3 H3 E3.wf t0).1
        · cases h1; cases h2; exact (w3 g3 H3 E3.wf t0).1
        · simp at h1
      · rcases j with _ | _ | _ | j
        · cases h1; cases h2; cases h3; exact w1'
        · cases h1; cases h2; cases h3; exact w2'
        · cases h1; cases h2; cases h3; exact w3
        · simp at h1
end
/-! ### a name that may be unbound -/
def mayb : Option D → Sl
  | none => .un
  | some d => .sh d
def unM : Option D → M D
  | none => stuck
  | some d => pure d
section
variable {S : Sta} {ρ : Ev} {pos : Pos}
theorem evm (i : Nat) {x : Str} {o : Option D} (hs : ρ[i]? = some (mayb o) := by rfl) (hN : S.N[i]? = some x := by rfl) (hv : Vis S.sc x := by first | exact Or.inl rfl | exact Or.inr (Or.inl rfl) | exact Or.inr (Or.inr rfl))
    (hd : (x == ("__debug__" : Str)) = false := by decide) (hcd : (x == ("__classdict__" : Str)) = false := by decide) : EE S ρ (.Name x pos) (unM o) := by
  cases o with
  | none => exact fun Y ok => ⟨fun pins s σ H Q I ⟨F, g, E, q⟩ => False.elim q⟩
  | some d => exact ee_var i hs hN hv hd hcd
end
section
variable {S : Sta} {ρ : Ev} {e tg : Expr} {m : M D} {pos : Pos} {N B : Type} {shN : N → Ev} {shB : B → Ev} {rest : List Stmt}
theorem s_setT {u : D → M (List D)} {ix : List Nat} {k : List D → M (Out N B)} (he : EE S ρ e m) (hg : TG S tg u ix) (pu : Pure1 u) (hlen : Len1 u ix.length) (hr : ∀ ds, ds.length = ix.length → SB S (setE ρ ix ds) rest (k ds) shN shB)
    (hs : ∀ env : Env, env.scope = S.sc → swapsWithSole [tg] e pos.line env = pure false := by exact fun _ _ => rfl) (hw : ∀ env : Env, env.scope = S.sc → swappedStores [tg] e env = pure none := by exact fun _ _ => rfl) (h1 : ∀ env : Env, (assignEach [tg] env).map (·.2) = [assign tg env] := by exact fun _ => rfl) :
    SB S ρ (.Assign [tg] e pos :: rest) (m >>= fun d => u d >>= k) shN shB := sb_asgT he hg pu hlen hr hs hw h1
theorem s_raise {c : Nat} {x m : Str} {q p2 rpos : Pos} {j : Nat} (h : ExD S.pg c x) (hg : Glb S x := by exact rfl) (hdb : (x == ("__debug__" : Str)) = false := by decide) :
    SB S ρ (.Raise (some (.Call (.Name x q) [.Constant (.str m) j p2] [] pos)) none rpos :: rest) (raise c : M (Out N B)) shN shB := sb_raise h hg hdb
theorem s_try {J : Type} {shJ : J → Ev} {body : List Stmt} {q q2 np hpos rpos cpos : Pos} {cs : List Nat} {n : Str} {m : M (Out J B)} {k : J → M (Out N B)} (i : Nat) (FN : ErrFn S.pg cs) (C : ErrCls S.pg cs) (hnd : S.N.Nodup) (hb : SB S ρ body m shJ shB) (hr : ∀ j, SB S (shJ j) rest (k j) shN shB)
    (hS : S.dfn = true := by exact rfl) (hlv : 1 ≤ S.lv := by exact Nat.le_of_ble_eq_true rfl) (hN : S.N[i]? = some n := by exact rfl) (hln : S.sc.names.lookup n = some .local := by exact rfl) (hgM : Glb S "MaieuticError" := by exact rfl) (hgE : Glb S "_law_error" := by exact rfl)
    (hd : (n == ("__debug__" : Str)) = false := by decide) (hcd : (n == ("__classdict__" : Str)) = false := by decide) :
    SB S ρ (.Try body [.ExceptHandler (some (.Name "MaieuticError" np)) (some n) [.Return (some (.Call (.Name "_law_error" q) [.Name n q2] [] cpos)) rpos] hpos] [] [] pos :: rest) (tryE cs m >>= seqO k) shN shB := sb_try hS FN C hlv hnd hN hln hgM hgE hd hcd hb hr
theorem s_asgW {w : D → M Unit} {k : M (Out N B)} (he : EE S ρ e m) (hg : TW S ρ tg w) (hr : SB S ρ rest k shN shB)
    (hs : ∀ env : Env, env.scope = S.sc → swapsWithSole [tg] e pos.line env = pure false := by exact fun _ _ => rfl) (hw : ∀ env : Env, env.scope = S.sc → swappedStores [tg] e env = pure none := by exact fun _ _ => rfl) (h1 : ∀ env : Env, (assignEach [tg] env).map (·.2) = [assign tg env] := by exact fun _ => rfl) :
    SB S ρ (.Assign [tg] e pos :: rest) (m >>= fun y => w y >>= fun _ => k) shN shB := sb_asgW he hg hr hs hw h1
end
end DL
set_option maxHeartbeats 1000000
namespace DL
open PySem PySem.Spec PyProof.Rows L2
/-! ### max, min, sum of a tuple of ints -/
section
variable {prog : Program} {w : World} {A : Around} {E : Value → Shared → Prop} {s : Shared} {l : Addr} {its : List Value} {ns : List Int} {Q : Value → Shared → Prop}
theorem iter_intTup {xs : Array (Int × Tok)} {R : Value → Shared → Prop} (hl : s.heap.IsTuple l (intItems xs))
    (h : ∀ s₂, s₂ = { s with heap := s.heap.push { cls := .type "tuple_iterator", data := .fields #[.ref l, .int 0 0] } } → (s₂.heap.IsTupleIter s.heap.objs.size l 0 ∧ s₂.heap.IsTuple l (intItems xs)) → (∀ b ∈ [s.heap.objs.size, l], b < s₂.heap.objs.size) → l ≠ s.heap.objs.size → R (.ref s.heap.objs.size) s₂) :
    wpAny (model prog w) A (pyIter (.ref l)) R E s := by
  refine wpAny_pyIter_tuple hl (h _ rfl ⟨⟨_, Heap.get?_push_size _ rfl, rfl, rfl⟩, hl.push _⟩ (fun b hb => ?_) ?_)
  · have hlt : l < s.heap.objs.size := by obtain ⟨o, ho, _⟩ := hl; exact Heap.lt_size ho
    simp only [List.mem_cons, List.not_mem_nil, or_false] at hb
    rw [Heap.size_push]
    rcases hb with e | e
    · rw [e]; exact Nat.lt_succ_self _
    · rw [e]; exact Nat.lt_succ_of_lt hlt
  · obtain ⟨o, ho, _⟩ := hl
    exact Nat.ne_of_lt (Heap.lt_size ho)
theorem max_rawT (hh : A.handled = none) (hl : s.heap.IsTuple l its.toArray) (hi : IntsAre its ns) (hne : 0 < ns.length)
    (h : ∀ h' tk M t', (∀ b o, s.heap.get? b = some o → h'.get? b = some o) → M ∈ ns → (∀ a, a ∈ ns → a ≤ M) → Q (.int M t') { s with heap := h', toks := tk }) : wpAny (model prog w) A (call (.builtin "max") [.ref l]) Q E s := by
  obtain ⟨xs, e⟩ := hi.allInts.items
  have hn : numsOf (intItems xs).toList = ns := by rw [← e]; exact hi.numsOf
  rw [nums_intItems] at hn
  subst hn
  rw [e] at hl
  have hsz : 0 < xs.size := by simpa using hne
  refine call_max_walk (iter_intTup hl fun s₂ e st hfp hlI => ?_)
  subst e
  refine ⟨_, _, _, _, _, _, _, rfl, Walks.tuple (A := A.in1) hh _ l hlI (intItems xs), st, hfp, by simpa [intItems] using hne, CmpOf.ints_gt (numAt xs) (fun _ _ => intItems_at), fun v h' tk hP hk => ?_⟩
  have hv : (intItems xs)[argBest (fun i j => decide (numAt xs i > numAt xs j)) (xs.size - 1)]? = some v := by simpa [intItems] using hP
  obtain ⟨t, rfl⟩ := intItems_at hv
  obtain ⟨h1, h2⟩ := argBest_gt (numAt xs) (xs.size - 1)
  refine h h' tk _ t (fun b o e => hk b o (fun hm => ?_) (Heap.get?_push_of_some _ e)) ?_ fun a ha => ?_
  · rcases List.mem_cons.mp hm with e1 | hm
    · exact absurd (e1 ▸ Heap.lt_size e) (Nat.lt_irrefl _)
    · cases hm
  · rw [numAt_eq]; exact PySem.getD_mem (by rw [List.length_map, Array.length_toList]; omega)
  · obtain ⟨j, hj, rfl⟩ := mem_getD ha
    rw [List.length_map, Array.length_toList] at hj
    rw [← numAt_eq]; exact h2 j (by omega)
theorem min_rawT (hh : A.handled = none) (hl : s.heap.IsTuple l its.toArray) (hi : IntsAre its ns) (hne : 0 < ns.length)
    (h : ∀ h' tk M t', (∀ b o, s.heap.get? b = some o → h'.get? b = some o) → M ∈ ns → (∀ a, a ∈ ns → M ≤ a) → Q (.int M t') { s with heap := h', toks := tk }) : wpAny (model prog w) A (call (.builtin "min") [.ref l]) Q E s := by
  obtain ⟨xs, e⟩ := hi.allInts.items
  have hn : numsOf (intItems xs).toList = ns := by rw [← e]; exact hi.numsOf
  rw [nums_intItems] at hn
  subst hn
  rw [e] at hl
  have hsz : 0 < xs.size := by simpa using hne
  refine call_min_walk (iter_intTup hl fun s₂ e st hfp hlI => ?_)
  subst e
  refine ⟨_, _, _, _, _, _, _, rfl, Walks.tuple (A := A.in1) hh _ l hlI (intItems xs), st, hfp, by simpa [intItems] using hne, CmpOf.ints_lt (numAt xs) (fun _ _ => intItems_at), fun v h' tk hP hk => ?_⟩
  have hv : (intItems xs)[argBest (fun i j => decide (numAt xs i < numAt xs j)) (xs.size - 1)]? = some v := by simpa [intItems] using hP
  obtain ⟨t, rfl⟩ := intItems_at hv
  obtain ⟨h1, h2⟩ := argBest_lt (numAt xs) (xs.size - 1)
  refine h h' tk _ t (fun b o e => hk b o (fun hm => ?_) (Heap.get?_push_of_some _ e)) ?_ fun a ha => ?_
  · rcases List.mem_cons.mp hm with e1 | hm
    · exact absurd (e1 ▸ Heap.lt_size e) (Nat.lt_irrefl _)
    · cases hm
  · rw [numAt_eq]; exact PySem.getD_mem (by rw [List.length_map, Array.length_toList]; omega)
  · obtain ⟨j, hj, rfl⟩ := mem_getD ha
    rw [List.length_map, Array.length_toList] at hj
    rw [← numAt_eq]; exact h2 j (by omega)
theorem sum_rawT (hh : A.handled = none) (hl : s.heap.IsTuple l its.toArray) (hi : IntsAre its ns)
    (h : ∀ h' tk t', (∀ b o, s.heap.get? b = some o → h'.get? b = some o) → Q (.int ns.sum t') { s with heap := h', toks := tk }) : wpAny (model prog w) A (call (.builtin "sum") [.ref l]) Q E s := by
  obtain ⟨xs, e⟩ := hi.allInts.items
  have hn : numsOf (intItems xs).toList = ns := by rw [← e]; exact hi.numsOf
  rw [nums_intItems] at hn
  rw [e] at hl
  refine call_sum_walkG (iter_intTup hl fun s₂ e st hfp hlI => ?_)
  subst e
  refine ⟨_, _, _, _, _, _, numAt xs, rfl, Walks.tuple (A := A.in1) hh _ l hlI (intItems xs), st, hfp, (fun _ _ => intItems_at), fun h' tk t' hk => ?_⟩
  have := h h' tk t' fun b o e => hk b o (fun hm => by
    rcases List.mem_cons.mp hm with e1 | hm
    · exact absurd (e1 ▸ Heap.lt_size e) (Nat.lt_irrefl _)
    · cases hm) (Heap.get?_push_of_some _ e)
  rw [preSum_eq, List.take_of_length_le (by simp [intItems]), hn]
  exact this
end
def rMaxT (K : PySem.W.Frag) : List V → Hp → VK → Prop := fun vs H Q => ∃ (a : Addr) (ns : List Int), vs = [V.ref a] ∧ (SqL K H a (ns.map V.int) ∨ SqT K H a (ns.map V.int)) ∧ 0 < ns.length ∧ ∀ m, m ∈ ns → (∀ y, y ∈ ns → y ≤ m) → Q (.int m) H
def rMinT (K : PySem.W.Frag) : List V → Hp → VK → Prop := fun vs H Q => ∃ (a : Addr) (ns : List Int), vs = [V.ref a] ∧ (SqL K H a (ns.map V.int) ∨ SqT K H a (ns.map V.int)) ∧ 0 < ns.length ∧ ∀ m, m ∈ ns → (∀ y, y ∈ ns → m ≤ y) → Q (.int m) H
def rSumT (K : PySem.W.Frag) : List V → Hp → VK → Prop := fun vs H Q => ∃ (a : Addr) (ns : List Int), vs = [V.ref a] ∧ (SqL K H a (ns.map V.int) ∨ SqT K H a (ns.map V.int)) ∧ Q (.int ns.sum) H
section
variable {X : Cx}
theorem cr_sumT (hc : X.calm = true) : CallR X (.builtin "sum") (rSumT X.K) := by
  intro pins s σ H vs us Q I r h
  obtain ⟨a, ns, rfl, hs | hs, q⟩ := h
  · exact cr_sum hc pins s σ H [V.ref a] us Q I r ⟨a, ns, rfl, hs, q⟩
  · obtain ⟨its, rv, hl, _⟩ := I.tuple hs
    rw [Vals.ref1 r]
    exact sum_rawT (I.ok.hd hc) hl rv.ints fun h' tk t' hk => ⟨.int _, H, I.kept hk, ⟨_, rfl⟩, q⟩
theorem cr_maxT (hc : X.calm = true) : CallR X (.builtin "max") (rMaxT X.K) := by
  intro pins s σ H vs us Q I r h
  obtain ⟨a, ns, rfl, hs | hs, hne, q⟩ := h
  · exact cr_max hc pins s σ H [V.ref a] us Q I r ⟨a, ns, rfl, hs, hne, q⟩
  · obtain ⟨its, rv, hl, _⟩ := I.tuple hs
    rw [Vals.ref1 r]
    exact max_rawT (I.ok.hd hc) hl rv.ints hne fun h' tk m t' hk h1 h2 => ⟨.int _, H, I.kept hk, ⟨_, rfl⟩, q m h1 h2⟩
theorem cr_minT (hc : X.calm = true) : CallR X (.builtin "min") (rMinT X.K) := by
  intro pins s σ H vs us Q I r h
  obtain ⟨a, ns, rfl, hs | hs, hne, q⟩ := h
  · exact cr_min hc pins s σ H [V.ref a] us Q I r ⟨a, ns, rfl, hs, hne, q⟩
  · obtain ⟨its, rv, hl, _⟩ := I.tuple hs
    rw [Vals.ref1 r]
    exact min_rawT (I.ok.hd hc) hl rv.ints hne fun h' tk m t' hk h1 h2 => ⟨.int _, H, I.kept hk, ⟨_, rfl⟩, q m h1 h2⟩
end
/-- the ints of a list or a tuple -/
def intsOf : D → Option (List Int)
  | .lst ds => dints ds
  | .rls ds => dints ds
  | .tup ds => dints ds
  | .rtp ds => dints ds
  | _ => none
def maxV (x : D) : M D := match intsOf x with
  | some ns => if ns.isEmpty then stuck else pure (.int (maxI ns))
  | none => stuck
def minV (x : D) : M D := match intsOf x with
  | some ns => if ns.isEmpty then stuck else pure (.int (minI ns))
  | none => stuck
def sumV (x : D) : M D := match intsOf x with
  | some ns => pure (.int ns.sum)
  | none => stuck
theorem intsOf_ok {p : Pg} {g : Gs} {H : Hp} {v : V} {x : D} {ns : List Int} (w : Wf p g H) (hx : TopR p g H v x) (e : intsOf x = some ns) : ∃ a, v = .ref a ∧ (SqL p.K H a (ns.map V.int) ∨ SqT p.K H a (ns.map V.int)) := by
  cases x with
  | lst ds =>
    obtain ⟨a, us, rfl, s, r⟩ := hx.lst w
    rw [ints_eq e] at r
    have := r.toInts
    subst this
    exact ⟨a, rfl, .inl (SqL.of s)⟩
  | rls ds =>
    obtain ⟨a, us, rfl, s, r⟩ := hx.rls w
    rw [ints_eq e] at r
    have := r.toInts
    subst this
    exact ⟨a, rfl, .inl s⟩
  | tup ds =>
    obtain ⟨a, us, rfl, s, r⟩ := hx.tup w
    rw [ints_eq e] at r
    have := r.toInts
    subst this
    exact ⟨a, rfl, .inr s⟩
  | rtp ds =>
    obtain ⟨a, us, rfl, s, r⟩ := hx.rtp w
    rw [ints_eq e] at r
    have := r.toInts
    subst this
    exact ⟨a, rfl, .inr s⟩
  | _ => cases e
theorem op_maxV {p : Pg} : Op1C p (rMaxT p.K) maxV (RE p) := by
  intro g H x vx Q E w hx q
  unfold maxV at q
  cases e : intsOf x with
  | none => simp only [e] at q; exact False.elim q
  | some ns =>
    simp only [e] at q
    obtain ⟨a, rfl, s⟩ := intsOf_ok w hx e
    cases ns with
    | nil => exact False.elim q
    | cons n r =>
      refine ⟨a, n :: r, rfl, s, Nat.succ_pos _, fun m hm hle => ?_⟩
      have e2 : m = maxI (n :: r) := Int.le_antisymm (maxI_ge hm) (hle _ (maxI_mem (List.cons_ne_nil _ _)))
      rw [e2]
      exact Pv.now w (post_pure q) (.int _)
theorem op_minV {p : Pg} : Op1C p (rMinT p.K) minV (RE p) := by
  intro g H x vx Q E w hx q
  unfold minV at q
  cases e : intsOf x with
  | none => simp only [e] at q; exact False.elim q
  | some ns =>
    simp only [e] at q
    obtain ⟨a, rfl, s⟩ := intsOf_ok w hx e
    cases ns with
    | nil => exact False.elim q
    | cons n r =>
      refine ⟨a, n :: r, rfl, s, Nat.succ_pos _, fun m hm hle => ?_⟩
      have e2 : m = minI (n :: r) := Int.le_antisymm (hle _ (minI_mem (List.cons_ne_nil _ _))) (minI_le hm)
      rw [e2]
      exact Pv.now w (post_pure q) (.int _)
theorem op_sumV {p : Pg} : Op1C p (rSumT p.K) sumV (RE p) := by
  intro g H x vx Q E w hx q
  unfold sumV at q
  cases e : intsOf x with
  | none => simp only [e] at q; exact False.elim q
  | some ns =>
    simp only [e] at q
    obtain ⟨a, rfl, s⟩ := intsOf_ok w hx e
    exact ⟨a, ns, rfl, s, Pv.now w (post_pure q) (.int _)⟩
section
variable {S : Sta} {ρ : Ev} {a : Expr} {ma : M D} {pos p : Pos}
theorem ee_maxV (B : Blt S "max" (.builtin "max")) (ha : EL S ρ a ma) (hs : NoStar [a] := by intro _; rfl) : EE S ρ (.Call (.Name "max" p) [a] [] pos) (ma >>= maxV) := ex_b1 back_RE (fun Y _ => cr_maxT rfl) op_maxV B ha hs
theorem ee_minV (B : Blt S "min" (.builtin "min")) (ha : EL S ρ a ma) (hs : NoStar [a] := by intro _; rfl) : EE S ρ (.Call (.Name "min" p) [a] [] pos) (ma >>= minV) := ex_b1 back_RE (fun Y _ => cr_minT rfl) op_minV B ha hs
theorem ee_sumV (B : Blt S "sum" (.builtin "sum")) (ha : EL S ρ a ma) (hs : NoStar [a] := by intro _; rfl) : EE S ρ (.Call (.Name "sum" p) [a] [] pos) (ma >>= sumV) := ex_b1 back_RE (fun Y _ => cr_sumT rfl) op_sumV B ha hs
end
end DL
namespace DL
open PySem PySem.Spec PyProof.Rows L2
/-! ### defs whose calls are known to stand outside of any repr -/
structure FnG (P : Program) (w : World) (K : PySem.W.Frag) (mg : Str → Option Value) (base : Heap) (k : Nat) (f : Addr) (fd : FuncData) (ps : List Str) (sp : Sp) : Prop where
  len : ∀ vs H Q E, sp vs H Q E → vs.length = ps.length
  run : ∀ (A : Around) (outer : List Env) (s : Shared) (H : Hp) (args : Args) (us : List Value) (vs : List V) (Q : VK) (E : XK), A.guards = some [] → Room k A → Env0 P w K mg base A outer s H →
    BindsTo s fd args (ps.zip us) → Vals vs us → sp vs H Q E → codeAny (model P w) A (.call (.ref f) args) (CR (L2N.CX P w) outer P w H s Q E) s
theorem FnG.of {p : Pg} {k : Nat} {f : Addr} {fd : FuncData} {ps : List Str} {sp : Sp} (F : FnOk p.P p.w p.K p.mg p.base (L2N.CX p.P p.w) k f fd ps sp) : FnG p.P p.w p.K p.mg p.base k f fd ps sp := ⟨F.len, fun A o s H a us vs Q E _ => F.run A o s H a us vs Q E⟩
theorem FnG.imp {P : Program} {w : World} {K : PySem.W.Frag} {mg : Str → Option Value} {base : Heap} {k : Nat} {f : Addr} {fd : FuncData} {ps : List Str} {sp sp' : Sp} (F : FnG P w K mg base k f fd ps sp) (h : ∀ vs H Q E, sp' vs H Q E → sp vs H Q E) : FnG P w K mg base k f fd ps sp' :=
  ⟨fun _ _ _ _ q => F.len _ _ _ _ (h _ _ _ _ q), fun A o s H a us vs Q E hg hr he hb hv hs => F.run A o s H a us vs Q E hg hr he hb hv (h _ _ _ _ hs)⟩
theorem fng_of {p : Pg} {k : Nat} {x qual : Str} {st : Stmt} {f : Addr} {fd : FuncData} {N ps : List Str} {ks : List AK} {Nn B : Type} {shN : Nn → Ev} {shB : B → Ev} {body : List D → M (Out Nn B)}
    (Fn : Fun p.K x qual st f fd) (Sc : FnScope N ps (defScope st)) (hks : ks.length = ps.length)
    (h : ∀ ds, ds.length = ks.length → SB ⟨p, N, defScope st, fun _ => true, k, true, true⟩ (argE ks ds ++ List.replicate (N.length - ks.length) .un) (defBody st) (body ds) shN shB) : FnG p.P p.w p.K p.mg p.base (k + 1) f fd ps (spD p ks fun ds => runF (body ds)) := by
  obtain ⟨_, _, _, _, _, _, cdv, _, _, rfl, lk, hcd⟩ := Fn.ex
  refine ⟨fun vs H Q E q => by obtain ⟨g, ds, w, r, q⟩ := q; rw [r.len.1, hks], fun A outer s H args us vs Q E hg hr e0 hb r hsp => ?_⟩
  have hl : vs.length = ps.length := by obtain ⟨g, ds, w, r, q⟩ := hsp; rw [r.len.1, hks]
  obtain ⟨t, ht, hq⟩ := body_run (qual := qual) (f := f) Sc hks h cdv A outer s H vs Q E (hr.deeper _) (fun _ => hg) hsp
  have kin : p.K.In s.heap := e0.mod.kin.keeps fun _ _ e => (e0.bs _ _ e).1
  refine codeAny_call_function hr.depth (kin _ _ lk) rfl Sc.co Sc.gen rfl (PySem.W.codeRec_of kin hcd) (hb _ _ _ _ (wpAny_newFunctionEnv_cells Sc.kind (fun y hy => ?_) fun env he s1 x => ?_))
  · obtain ⟨n, v⟩ := y
    cases Sc.par n (List.of_mem_zip hy).1 with
    | inl q => exact Or.inl q
    | inr q => exact Or.inr ⟨q, PySem.W.cellsFrom_some _ _ _ (.inl q)⟩
  · subst he
    have start := inv_start (CX := L2N.CX p.P p.w) (E := E) Sc hr.hd e0 hl r x
    refine ⟨(e0.mod.nolimit.keeps fun _ _ e => (e0.bs _ _ e).1).keeps x.toInCall.keep, codeAny_func (wpAny_mono (ht.run [] s1 (L2.start N vs) H _ start hq) (fun fl s' hs => ?_) fun _ _ hs => hs)⟩
    cases fl with
    | ret u => obtain ⟨v, σ', H', J, rv, q⟩ := hs; exact ⟨v, H', J.os, J.bare, J.base, J.hok, rv, q⟩
    | next => obtain ⟨σ', H', J, q⟩ := hs; exact ⟨V.non, H', J.os, J.bare, J.base, J.hok, rfl, q⟩
    | brk => exact False.elim hs.choose_spec.choose_spec.2
    | cont => exact False.elim hs.choose_spec.choose_spec.2
structure FncG (p : Pg) (k : Nat) (x : Str) (ks : List AK) (F : List D → M D) : Prop where
  ex : ∃ f fd ps, FnG p.P p.w p.K p.mg p.base k f fd ps (spD p ks F) ∧ p.mg x = some (.ref f) ∧ PySem.W.keepIn p.K (.ref f) = true ∧ Binds p.K fd ps []
theorem fncG_of {p : Pg} {k : Nat} {x : Str} {f : Addr} {fd : FuncData} {ps : List Str} {ks : List AK} {F : List D → M D} (h : FnG p.P p.w p.K p.mg p.base k f fd ps (spD p ks F)) (hm : p.mg x = some (.ref f)) (kp : PySem.W.keepIn p.K (.ref f) = true) (hb : Binds p.K fd ps []) : FncG p k x ks F :=
  ⟨f, fd, ps, h, hm, kp, hb⟩
section
variable {S : Sta} {ρ : Ev} {e : Expr} {es : List Expr} {p pos : Pos} {ms : M (List D)} {ks : List AK}
theorem ee_callG {x : Str} {k : Nat} {F : List D → M D} (fn : FncG S.pg k x ks F) (hgd : S.gd = true) (hk : k ≤ S.lv) (hg : Glb S x) (ha : EAk S ρ ks (e :: es) ms) (hs : ∀ env : Env, starEach (e :: es) env = (false, eval e env) :: starEach es env) (hpl : ∀ env : Env, (backTo pos (starEach es env)).any (·.1) = false)
    (hdb : (x == ("__debug__" : Str)) = false := by decide) : EE S ρ (.Call (.Name x p) (e :: es) [] pos) (ms >>= F) := fun Y ok => by
  obtain ⟨f, fd, ps, FO, hm, hkp, hb⟩ := fn.ex
  refine ⟨fun pins s σ H Q I ⟨Fm, g, E, q⟩ => wpAny_Call_Name_kw (ld_glob I hg hm ?_ hdb)⟩
  refine PySem.W.callWith_K (h₀ := (S.cx Y).base) I.ok.mod.kin hkp (thn ((ha Y ok).run pos pins s σ H (fun vs H1 => spD S.pg ks F vs H1 Q fun c d H' => Y.W c d H') I ⟨Fm, g, E, ?_⟩) fun us s1 ⟨vs, H1, I1, r, q1⟩ => ⟨I1.kIn, ?_⟩) (hs _) (hpl _)
  · exact (post_bind q).imp (fun ds st' q vs g' H' e s' r => ⟨g', ds, (s'.wf), r, by rw [e]; exact q.imp (fun _ _ q => q.back back_RE E.wf s') fun _ _ q => Px.back E.wf s' q⟩) fun _ _ q => q
  · have hl : us.length = ps.length := by rw [← r.length]; exact FO.len _ _ _ _ q1
    have bnd := hb s1 us I1.kIn (by rw [List.append_nil]; exact hl)
    rw [List.append_nil] at bnd
    refine wpAny_call (codeAny_mono (FO.run Y.A Y.stack s1 H1 ⟨us, []⟩ us vs Q _ (ok.gd hgd) (ok.room.mono hk) I1.env0 bnd r q1) fun r s' hq => ?_)
    cases r with
    | error ex => exact L2N.passes_call (X := S.cx Y) (E := fun cls d H' => Y.W cls d H') ok.takes (fun _ _ _ _ h => h) pins σ H1 s1 ex s' I1 hq
    | ok fl =>
      cases fl with
      | ret u => exact I1.after hq
      | next => exact False.elim hq
      | brk => exact False.elim hq
      | cont => exact False.elim hq
theorem xcallG {x : Str} {k : Nat} {F : List D → M D} (fn : FncG S.pg k x ks F) (ha : EAk S ρ ks (e :: es) ms) (hgd : S.gd = true := by rfl) (hk : k ≤ S.lv := by exact Nat.le_of_ble_eq_true rfl) (hg : Glb S x := by rfl)
    (hs : ∀ env : Env, starEach (e :: es) env = (false, eval e env) :: starEach es env := by intro _; rfl) (hpl : ∀ env : Env, (backTo pos (starEach es env)).any (·.1) = false := by intro _; rfl) (hdb : (x == ("__debug__" : Str)) = false := by decide) :
    EE S ρ (.Call (.Name x p) (e :: es) [] pos) (ms >>= F) := ee_callG fn hgd hk hg ha hs hpl hdb
end
/-! ### the law's own call -/
section
variable {P : Program} {w : World} {K : PySem.W.Frag} {mg mb : Str → Option Value} {k : Nat} {fa a : Addr} {fd : FuncData} {x : Str} {s1 : Shared} {vs : List Value} {ns : List Int}
theorem lawG_at (H : Hp) (ha : s1.heap.get? a = some { cls := .type "list", data := .seq vs.toArray }) (own : ∀ b u, H b = some u → b = a) (nk : ∀ u, H a = some u → K.lookup a = none) (only : Only H) (sq : SqL K H a (ns.map V.int)) (hok : HOk P w H s1.heap)
    (KX : K.In s1.heap) (gm : s1.heap.Ns mainGlobals mg) (gb : s1.heap.Ns builtinsNs mb) (bb : ∀ x : Str, x ≠ "__name__" → mb x = bootBuiltins x) (lim : s1.heap.NoLimit) (gens : s1.gens = #[]) (hr : Room k callerA) (hl : ns.length ≤ 63)
    (F : ∀ base : Heap, K.In base → base.Ns mainGlobals mg → FnG P w K mg base k fa fd [x] (spLaw K)) (hbind : ∀ (s : Shared) (u : Value), BindsTo s fd ⟨[u], []⟩ [(x, u)]) :
    codeAny (model P w) callerA (.call (.ref fa) ⟨[.ref a], []⟩) (fun r s' => r = .ok (.ret (.bool true)) ∧ OldK s1.heap s'.heap ∧ s'.os = s1.os ∧ AllBare s'.gens) s1 := by
  have dicts : ∀ {b : Addr} {m : Str → Option Value}, s1.heap.Ns b m → (hidT s1.heap H).Ns b m := by
    rintro b m ⟨o, es, ep, e, d, r⟩
    refine ⟨o, es, ep, hidT_get e ?_, d, r⟩
    match q : H b with
    | none => rfl
    | some u =>
      obtain rfl := own b u q
      obtain rfl := Option.some.inj (e.symm.trans ha)
      exact nomatch d
  have frag : K.In (hidT s1.heap H) := by
    intro b o e
    refine hidT_get (KX b o e) ?_
    match q : H b with
    | none => rfl
    | some u =>
      obtain rfl := own b u q
      rw [nk u q] at e
      exact nomatch e
  have md : Mod K mg (hidT s1.heap H) := ⟨frag, dicts gm, ⟨mb, dicts gb, bb⟩, lim.imp fun _ z => ⟨dicts z.1, z.2⟩⟩
  have e0 : Env0 P w K mg (hidT s1.heap H) callerA [] s1 H := ⟨rfl, md, fun _ _ e => of_hidT e, Nat.le_of_eq (hidT_size _ _), trivial, nofun, hok, .of_eq gens⟩
  refine codeAny_mono ((F _ frag (dicts gm)).run callerA [] s1 H _ [.ref a] [.ref a] (fun v _ => v = .bl true) (fun _ _ _ => False) rfl hr e0 (hbind s1 _) (.cons rfl .nil) ⟨a, ns, rfl, hl, sq, fun _ => rfl⟩) ?_
  rintro (e | fl) s' h
  · exact (cx_no (P := P) (w := w) h).elim
  · match fl, h with
    | .ret u, ⟨v, H', os, bare, un, hok', r', q⟩ =>
      obtain rfl : v = .bl true := q
      obtain rfl : u = Value.bool true := r'
      refine ⟨rfl, OldK.of_keep fun b o e => ?_, os, bare⟩
      match q : H b with
      | none => exact un.keep b o e q nofun nofun
      | some u =>
        rcases only b with z | ⟨ob, xs, z⟩
        · exact nomatch z.symm.trans q
        · have e2 := (hok' b _ (un.frzs b ob _ z)).1
          have e1 := (hok b _ z).1
          rw [e] at e1
          obtain rfl := Option.some.inj e1
          exact e2
theorem lawG (ha : s1.heap.get? a = some { cls := .type "list", data := .seq vs.toArray }) (hi : IntsAre vs ns)
    (KX : K.In s1.heap) (gm : s1.heap.Ns mainGlobals mg) (gb : s1.heap.Ns builtinsNs mb) (bb : ∀ x : Str, x ≠ "__name__" → mb x = bootBuiltins x) (lim : s1.heap.NoLimit) (gens : s1.gens = #[]) (hr : Room k callerA) (hl : ns.length ≤ 63)
    (F : ∀ base : Heap, K.In base → base.Ns mainGlobals mg → FnG P w K mg base k fa fd [x] (spLaw K)) (hbind : ∀ (s : Shared) (u : Value), BindsTo s fd ⟨[u], []⟩ [(x, u)]) :
    codeAny (model P w) callerA (.call (.ref fa) ⟨[.ref a], []⟩) (fun r s' => r = .ok (.ret (.bool true)) ∧ OldK s1.heap s'.heap ∧ s'.os = s1.os ∧ AllBare s'.gens) s1 := by
  have big : ns.length ≤ sizeLine := Nat.le_trans hl (by decide)
  match h : K.lookup a with
  | some o =>
    obtain rfl := Option.some.inj ((KX a o h).symm.trans ha)
    refine lawG_at (fun _ => none) ha nofun nofun (fun _ => .inl rfl) (.inr ⟨_, vs.toArray, _, h, rfl, rfl, rfl, ?_, by simpa using vals_ints hi⟩) nofun KX gm gb bb lim gens hr hl F hbind
    rw [List.size_toArray, hi.length]
    exact big
  | none =>
    refine lawG_at (upd (fun _ => none) a (.frz { cls := .type "list", data := .seq vs.toArray } (.lst (ns.map V.int)))) ha (fun b u q => ?_) (fun _ _ => h) (fun b => ?_) (.inl (.inr ⟨_, upd_same⟩)) (fun b u q => ?_) KX gm gb bb lim gens hr hl F hbind
    · by_cases z : b = a
      · exact z
      · rw [upd_ne z] at q
        exact nomatch q
    · by_cases z : b = a
      · subst z
        exact .inr ⟨_, _, upd_same⟩
      · exact .inl (upd_ne z)
    · by_cases z : b = a
      · subst z
        rw [upd_same] at q
        obtain rfl := Option.some.inj q
        exact ⟨ha, Nat.le_trans (Nat.le_of_eq (List.length_map ..)) big, vs, _, vals_ints hi, ha⟩
      · rw [upd_ne z] at q
        exact nomatch q
theorem walk_ofG {l : PySem.W.OpenLaw} {k : Nat} {q : Program} {loose : List Str} {XP : (Str → Option Value) → Heap → Prop} {YP : World → Heap → Prop} {d : DefRec} {K : Params → PySem.W.Frag} {x : Str}
    (hn : l.most = some 63) (hdf : d.params.defaults = []) (hr : Room k callerA) (hY : ∀ (w : World) (h : Heap), YP w h → (K w.params).In h)
    (F : ∀ (w : World) (mg : Str → Option Value) (fa : Addr) (h : Heap), (K w.params).In h → h.Ns mainGlobals mg → mg d.name = some (.ref fa) →
      ∃ fd : FuncData, (∀ (s : Shared) (u : Value), BindsTo s fd ⟨[u], []⟩ [(x, u)]) ∧ ∀ base : Heap, (K w.params).In base → base.Ns mainGlobals mg → FnG l.prog w (K w.params) mg base k fa fd [x] (spLaw (K w.params))) :
    PySem.W.WalkO q loose XP YP l.row.toRowW d [] (fun f vs => PySem.call f vs) := by
  refine Att.attach_call hn hdf ?_
  intro w s0 s1 mg mb fa o pm cd doc a vs ns G Y _ _ _ hmg hobj hints hlen hg
  obtain ⟨fd, hb, hF⟩ := F w mg fa _ (hY w _ Y) G.T.g hmg
  exact lawG hobj hints (hY w _ Y) G.T.g G.T.b G.T.builtins G.T.nolimit hg hr hlen hF hb
end
end DL
namespace DL
open PySem PySem.Spec PyProof.Rows L2
/-! ### repr of plain data -/
mutual
def pyD : D → Option PyData
  | .non => some .none
  | .bl b => some (.bool b)
  | .int i => some (.int i)
  | .str x => some (.str x)
  | .tup xs => (pyDs xs).map .tuple
  | .lst xs => (pyDs xs).map .list
  | _ => none
def pyDs : List D → Option (List PyData)
  | [] => some []
  | d :: ds => (pyD d).bind fun a => (pyDs ds).bind fun b => some (a :: b)
end
section
variable {p : Pg} {g : Gs} {H : Hp} {h : Heap}
mutual
theorem rp_reads (wf : Wf p g H) (ok : HOk p.P p.w H h) : ∀ {v : V} {d : D} {pd : PyData} {u : Value}, p.Rp g v d → pyD d = some pd → RelV v u → ∃ as, Reads h u pd as
  | _, _, _, _, .non, e, r => by
    simp only [pyD, Option.some.injEq] at e
    subst e
    obtain rfl := r
    exact ⟨_, .none⟩
  | _, _, _, _, .bl b, e, r => by
    simp only [pyD, Option.some.injEq] at e
    subst e
    obtain rfl := r
    exact ⟨_, .bool b⟩
  | _, _, _, _, .int i, e, r => by
    simp only [pyD, Option.some.injEq] at e
    subst e
    obtain ⟨t, rfl⟩ := r
    exact ⟨_, .int i t⟩
  | _, _, _, _, .str x, e, r => by
    simp only [pyD, Option.some.injEq] at e
    subst e
    obtain ⟨t, rfl⟩ := r
    exact ⟨_, .str x t⟩
  | _, _, _, _, .tup (a := a) s rs, e, r => by
    simp only [pyD, Option.map_eq_some_iff] at e
    obtain ⟨ps, e, rfl⟩ := e
    obtain rfl := r
    obtain ⟨_, its, rv, o, h1, h2, n, h3⟩ := ok _ _ (wf.sub _ _ s)
    obtain ⟨as, h4⟩ := rps_reads wf ok rs e rv
    exact ⟨_, .tuple h1 h2 h3 (by rw [List.toList_toArray]; exact h4)⟩
  | _, _, _, _, .lst (a := a) s rs, e, r => by
    simp only [pyD, Option.map_eq_some_iff] at e
    obtain ⟨ps, e, rfl⟩ := e
    obtain rfl := r
    obtain ⟨_, its, n, rv, h1⟩ := ok _ _ (wf.sub _ _ s)
    obtain ⟨as, h4⟩ := rps_reads wf ok rs e rv
    exact ⟨_, .list h1 rfl rfl (by rw [List.toList_toArray]; exact h4)⟩
  | _, _, _, _, .rtp _ _, e, _ => by simp [pyD] at e
  | _, _, _, _, .rls _ _, e, _ => by simp [pyD] at e
  | _, _, _, _, .dK _ _, e, _ => by simp [pyD] at e
  | _, _, _, _, .dT _ _, e, _ => by simp [pyD] at e
  | _, _, _, _, .ref _, e, _ => by simp [pyD] at e
theorem rps_reads (wf : Wf p g H) (ok : HOk p.P p.w H h) : ∀ {vs : List V} {ds : List D} {ps : List PyData} {us : List Value}, p.Rps g vs ds → pyDs ds = some ps → Vals vs us → ∃ as, ReadsAll h us ps as
  | _, _, _, _, .nil, e, .nil => by
    simp only [pyDs, Option.some.injEq] at e
    subst e
    exact ⟨_, .nil⟩
  | _, _, _, _, .cons r rs, e, .cons rv rvs => by
    simp only [pyDs, Option.bind_eq_some_iff] at e
    obtain ⟨q, e1, qs, e2, e3⟩ := e
    cases e3
    obtain ⟨as, h1⟩ := rp_reads wf ok r e1 rv
    obtain ⟨bs, h2⟩ := rps_reads wf ok rs e2 rvs
    exact ⟨_, .cons h1 h2⟩
end
theorem top_reads (wf : Wf p g H) (ok : HOk p.P p.w H h) {v : V} {d : D} {pd : PyData} {u : Value} (r : TopR p g H v d) (e : pyD d = some pd) (rv : RelV v u) : ∃ as, Reads h u pd as := by
  rcases r with r | ⟨a, rfl, _, o⟩
  · exact rp_reads wf ok r e rv
  · obtain rfl := rv
    cases d with
    | lst ds =>
      obtain ⟨xs, e1, rs⟩ := o
      simp only [pyD, Option.map_eq_some_iff] at e
      obtain ⟨ps, e, rfl⟩ := e
      obtain ⟨_, its, n, rv, h1⟩ := ok _ _ e1
      obtain ⟨as, h4⟩ := rps_reads wf ok rs e rv
      exact ⟨_, .list h1 rfl rfl (by rw [List.toList_toArray]; exact h4)⟩
    | dct es => simp [pyD] at e
    | dcT es => simp [pyD] at e
    | _ => exact o.elim
end
/-- what repr can show here -/
def shows (q : PyData) : Bool := q.layable0 && q.intsShort 13 && q.showable
def reprD (d : D) : M D := match d with
  | .lst _ => (match pyD d with
    | some q => if shows q = true then pure (.str q.shown) else stuck
    | none => stuck)
  | _ => stuck
theorem reads_ref {h : Heap} {u : Value} {xs : List PyData} {as : List Addr} (r : Reads h u (.list xs) as) : ∃ a, u = .ref a := by
  cases r with
  | list _ _ _ _ => exact ⟨_, rfl⟩
section
variable {S : Sta} {ρ : Ev} {a : Expr} {ma : M D} {p pos : Pos} {x : Str}
def rReprD (P : Pg) : List V → Hp → VK → Prop := fun xs H Q => ∃ g v d q, xs = [v] ∧ Wf P g H ∧ TopR P g H v (.lst d) ∧ pyD (.lst d) = some q ∧ shows q = true ∧ Q (.str q.shown) H
theorem call_reprD {Y : Dyn} (ok : OkY S Y) (hgd : S.gd = true) : CallR (S.cx Y) (.builtin "repr") (rReprD S.pg) := by
  intro pins s σ H xs us Q I r ⟨g, v, d, q, e, wf, t, e1, hs, hq⟩
  subst e
  cases r with
  | cons rv rn =>
    cases rn
    obtain ⟨as, rd⟩ := top_reads wf I.hok t e1 rv
    simp only [pyD, Option.map_eq_some_iff] at e1
    obtain ⟨ps, _, rfl⟩ := e1
    obtain ⟨a, rfl⟩ := reads_ref rd
    simp only [shows, Bool.and_eq_true] at hs
    have hd : (PyData.list ps).depth ≤ 64 := PyData.depth_le_of_layable hs.1.1
    have hu : (S.cx Y).A.units + 200 < cLine := by have := ok.room.un; show Y.A.units + 200 < _; omega
    refine repr_of_reads' rd hs.2 (PyData.noDict_hsm (PyData.hasDict_of_layable hs.1.1)) (ok.gd hgd) (by omega) (fun _ _ e => e) (fun h' u tk hk => ?_) (Nat.le_trans (PyData.shown_le_of_layable0 hs.1.1 hs.1.2) (by decide))
    exact ⟨.str _, H, I.kept hk, ⟨_, rfl⟩, hq⟩
theorem ee_repr (B : Blt S x (.builtin "repr")) (ha : EL S ρ a ma) (hgd : S.gd = true := by rfl) (hs : NoStar [a] := by intro _; rfl) : EE S ρ (.Call (.Name x p) [a] [] pos) (ma >>= reprD) :=
  ex_b1 back_RE (fun Y ok => call_reprD ok hgd) (fun g H x vx Q E wf t q => by
    cases x with
    | lst ds =>
      have q' : ((match pyD (.lst ds) with
        | some q => if shows q = true then (pure (.str q.shown) : M D) else stuck
        | none => stuck) g.st).Post (Pv S.pg (RE S.pg) g H Q) E := q
      cases e1 : pyD (.lst ds) with
      | none => rw [e1] at q'; exact q'.elim
      | some pd =>
        rw [e1] at q'
        by_cases h1 : shows pd = true
        · have q2 : ((if shows pd = true then (pure (.str pd.shown) : M D) else stuck) g.st).Post (Pv S.pg (RE S.pg) g H Q) E := q'
          rw [if_pos h1] at q2
          exact ⟨g, vx, _, _, rfl, wf, t, e1, h1, (post_pure q2) (.str _) g H rfl (.refl wf) (.str _)⟩
        · have q2 : ((if shows pd = true then (pure (.str pd.shown) : M D) else stuck) g.st).Post (Pv S.pg (RE S.pg) g H Q) E := q'
          rw [if_neg h1] at q2
          exact q2.elim
    | _ => exact q.elim) B ha hs
end
theorem b_repr {S : Sta} (m : S.pg.mg "repr" = none) (g : Glb S "repr" := by rfl) : Blt S "repr" (.builtin "repr") := .mk' g m PyProof.Rows.boot_repr
end DL
namespace DL
/-! ### plain facts about the mirrors -/
structure Wp {α : Type} (m : M α) (s : Store) (Q : α → Store → Prop) : Prop where
  run : (m s).Post Q fun _ _ => False
section
variable {α β : Type} {m : M α} {f : α → M β} {s : Store}
theorem wp_bind {Q : β → Store → Prop} (h : Wp m s fun a s' => Wp (f a) s' Q) : Wp (m >>= f) s Q := by
  have h := h.run
  refine ⟨?_⟩
  rw [bind_run]
  cases e : m s with
  | ok a s' => rw [e] at h; exact h.run
  | exc c s' => rw [e] at h; exact h
  | stuck => rw [e] at h; exact h
theorem wp_pure {a : α} {Q : α → Store → Prop} (h : Q a s) : Wp (pure a) s Q := ⟨h⟩
theorem wp_imp {Q R : α → Store → Prop} (h : Wp m s Q) (k : ∀ a s, Q a s → R a s) : Wp m s R := ⟨Res.Post.imp h.run k fun _ _ e => e⟩
theorem wp_ok {a : α} {s' : Store} {Q : α → Store → Prop} (h : m s = .ok a s') (q : Q a s') : Wp m s Q := by
  refine ⟨?_⟩
  rw [h]
  exact q
theorem wp_get {Q : α → Store → Prop} (h : Wp m s Q) : ∃ a s', m s = .ok a s' ∧ Q a s' := by
  have h := h.run
  cases e : m s with
  | ok a s' => rw [e] at h; exact ⟨a, s', rfl, h⟩
  | exc c s' => rw [e] at h; exact h.elim
  | stuck => rw [e] at h; exact h.elim
theorem wp_go {a : α} {s' : Store} {Q : β → Store → Prop} (h : m s = .ok a s') (q : Wp (f a) s' Q) : Wp (m >>= f) s Q := wp_bind (wp_ok h q)
end
@[simp] theorem p0_ap {α : Type} (f : M α) : p0 f [] = f := Eq.trans rfl rfl
@[simp] theorem p1_ap {α : Type} (f : D → M α) (a : D) : p1 f [a] = f a := Eq.trans rfl rfl
@[simp] theorem p2_ap {α : Type} (f : D → D → M α) (a b : D) : p2 f [a, b] = f a b := Eq.trans rfl rfl
@[simp] theorem p3_ap {α : Type} (f : D → D → D → M α) (a b c : D) : p3 f [a, b, c] = f a b c := Eq.trans rfl rfl
@[simp] theorem p4_ap {α : Type} (f : D → D → D → D → M α) (a b c d : D) : p4 f [a, b, c, d] = f a b c d := Eq.trans rfl rfl
@[simp] theorem p5_ap {α : Type} (f : D → D → D → D → D → M α) (a b c d e : D) : p5 f [a, b, c, d, e] = f a b c d e := Eq.trans rfl rfl
@[simp] theorem p6_ap {α : Type} (f : D → D → D → D → D → D → M α) (a b c d e g : D) : p6 f [a, b, c, d, e, g] = f a b c d e g := Eq.trans rfl rfl
@[simp] theorem nm_ap (a : D) : nm a = pure [a] := Eq.trans rfl rfl
@[simp] theorem un0_ap : un0 [] = pure [] := Eq.trans rfl rfl
@[simp] theorem unc_ap (u : D → M (List D)) (us : List D → M (List D)) (d : D) (ds : List D) : unc u us (d :: ds) = (u d >>= fun a => us ds >>= fun b => pure (a ++ b)) := Eq.trans rfl rfl
@[simp] theorem unT_ap (us : List D → M (List D)) (ds : List D) : unT us (.tup ds) = us ds := Eq.trans rfl rfl
@[simp] theorem runF_rt {N B : Type} (d : D) : runF (pure (.rt d) : M (Out N B)) = pure d := Eq.trans rfl rfl
@[simp] theorem runF_nx {N B : Type} (n : N) : runF (pure (.nx n) : M (Out N B)) = pure .non := Eq.trans rfl rfl
@[simp] theorem runF_bind {α N B : Type} (m : M α) (f : α → M (Out N B)) : runF (m >>= f) = m >>= fun a => runF (f a) := by
  unfold runF
  rw [bind_assoc']
@[simp] theorem runF_ite {N B : Type} (c : Prop) [Decidable c] (a b : M (Out N B)) : runF (if c then a else b) = if c then runF a else runF b := by
  split <;> rfl
@[simp] theorem ite_bind {α β : Type} (c : Prop) [Decidable c] (a b : M α) (f : α → M β) : ((if c then a else b) >>= f) = if c then a >>= f else b >>= f := by
  split <;> rfl
theorem bool_ite {α : Type} (b : Bool) (x y : α) : (if b = true then x else y) = cond b x y := by cases b <;> rfl
/-! ints -/
section
variable (i j : Int)
@[simp] theorem add_ii : addD (.int i) (.int j) = pure (.int (i + j)) := Eq.trans rfl rfl
@[simp] theorem sub_ii : subD (.int i) (.int j) = pure (.int (i - j)) := Eq.trans rfl rfl
@[simp] theorem and_ii : andD (.int i) (.int j) = pure (.int (PySem.Builtin.bitAnd i j)) := Eq.trans rfl rfl
@[simp] theorem or_ii : orD (.int i) (.int j) = pure (.int (PySem.Builtin.bitOr i j)) := Eq.trans rfl rfl
@[simp] theorem xor_ii : xorD (.int i) (.int j) = pure (.int (PySem.Builtin.bitXor i j)) := Eq.trans rfl rfl
@[simp] theorem lt_ii : ltB (.int i) (.int j) = pure (decide (i < j)) := Eq.trans rfl rfl
@[simp] theorem le_ii : leB (.int i) (.int j) = pure (decide (i ≤ j)) := Eq.trans rfl rfl
@[simp] theorem gt_ii : gtB (.int i) (.int j) = pure (decide (j < i)) := Eq.trans rfl rfl
@[simp] theorem ge_ii : geB (.int i) (.int j) = pure (decide (j ≤ i)) := Eq.trans rfl rfl
@[simp] theorem eq_ii : eqB (.int i) (.int j) = pure (i == j) := Eq.trans rfl rfl
@[simp] theorem ne_ii : neB (.int i) (.int j) = pure (!(i == j)) := Eq.trans rfl rfl
@[simp] theorem neg_i : negD (.int i) = pure (.int (-i)) := Eq.trans rfl rfl
@[simp] theorem inv_i : invD (.int i) = pure (.int (PySem.Builtin.bitNot i)) := Eq.trans rfl rfl
@[simp] theorem int_i : intD (.int i) = pure (.int i) := Eq.trans rfl rfl
@[simp] theorem int_b (b : Bool) : intD (.bl b) = pure (.int (if b then 1 else 0)) := Eq.trans rfl rfl
@[simp] theorem abs_i : absD (.int i) = pure (.int (if i < 0 then -i else i)) := Eq.trans rfl rfl
@[simp] theorem max2_ii : max2D (.int i) (.int j) = pure (.int (if j > i then j else i)) := Eq.trans rfl rfl
@[simp] theorem min2_ii : min2D (.int i) (.int j) = pure (.int (if j < i then j else i)) := Eq.trans rfl rfl
@[simp] theorem intM_i : intM (.int i) = pure (some i) := Eq.trans rfl rfl
@[simp] theorem intG_i : intG (.int i) = pure i := Eq.trans rfl rfl
@[simp] theorem truth_b (b : Bool) : truth (.bl b) = pure b := Eq.trans rfl rfl
@[simp] theorem truth_i : truth (.int i) = pure (i != 0) := Eq.trans rfl rfl
@[simp] theorem truth_n : truth .non = pure false := Eq.trans rfl rfl
theorem mul_ii (h : (-(2 ^ 64) < i ∧ i < 2 ^ 64) ∨ (-(2 ^ 64) < j ∧ j < 2 ^ 64)) : mulD (.int i) (.int j) = pure (.int (i * j)) := by
  show (if mulC i j = true then (pure (.int (i * j)) : M D) else stuck) = _
  rw [if_pos (by unfold mulC; exact decide_eq_true h)]
theorem div_ii (h : 0 < j) (h2 : j < 1073741824) : divD (.int i) (.int j) = pure (.int (i / j)) := by
  show (if divC i j = true then (pure (.int (i / j)) : M D) else stuck) = _
  rw [if_pos (by unfold divC; exact decide_eq_true ⟨h, h2⟩)]
theorem mod_ii (h : 0 < j) : modD (.int i) (.int j) = pure (.int (i % j)) := by
  show (if modC i j = true then (pure (.int (i % j)) : M D) else stuck) = _
  rw [if_pos (by unfold modC; exact decide_eq_true h)]
theorem shl_ii (h : 0 ≤ j) (h2 : j ≤ 1000000) (h3 : i.natAbs < 2 ^ 64) : shlD (.int i) (.int j) = pure (.int (i * 2 ^ j.toNat)) := by
  show (if powC i j = true then (pure (.int (i * 2 ^ j.toNat)) : M D) else stuck) = _
  rw [if_pos (by unfold powC; exact decide_eq_true ⟨h, h2, h3⟩)]
theorem shr_ii (h : 0 ≤ j) : shrD (.int i) (.int j) = pure (.int (i / 2 ^ j.toNat)) := by
  show (if shrC i j = true then (pure (.int (i / 2 ^ j.toNat)) : M D) else stuck) = _
  rw [if_pos (by unfold shrC; exact decide_eq_true h)]
theorem pow_ii (h : 0 ≤ j) (h2 : j ≤ 1000000) (h3 : i.natAbs < 2 ^ 64) : powD (.int i) (.int j) = pure (.int (i ^ j.toNat)) := by
  show (if powC i j = true then (pure (.int (i ^ j.toNat)) : M D) else stuck) = _
  rw [if_pos (by unfold powC; exact decide_eq_true ⟨h, h2, h3⟩)]
theorem range1_i (n : Nat) (h : n < 2 ^ 62) : range1 (.int (n : Nat)) = pure (rangeL 0 n) := by
  show (if bnd (n : Nat) = true then (pure (rangeL 0 ((n : Nat) : Int).toNat) : M (List D)) else stuck) = _
  rw [if_pos (by unfold bnd; exact decide_eq_true ⟨by omega, by omega⟩), Int.toNat_natCast]
theorem range1_z (j : Int) (h0 : 0 ≤ j) (h : j < 2 ^ 62) : range1 (.int j) = pure (rangeL 0 j.toNat) := by
  show (if bnd j = true then (pure (rangeL 0 j.toNat) : M (List D)) else stuck) = _
  rw [if_pos (by unfold bnd; exact decide_eq_true ⟨by omega, by omega⟩)]
end
/-! sequences -/
section
variable (ds : List D)
@[simp] theorem items_t : items (.tup ds) = pure ds := Eq.trans rfl rfl
@[simp] theorem items_l : items (.lst ds) = pure ds := Eq.trans rfl rfl
@[simp] theorem items_r : items (.rls ds) = pure ds := Eq.trans rfl rfl
@[simp] theorem len_t : lenD (.tup ds) = pure (.int ds.length) := Eq.trans rfl rfl
@[simp] theorem len_l : lenD (.lst ds) = pure (.int ds.length) := Eq.trans rfl rfl
@[simp] theorem len_r : lenD (.rls ds) = pure (.int ds.length) := Eq.trans rfl rfl
@[simp] theorem lst_l : lstD (.lst ds) = pure ds := Eq.trans rfl rfl
@[simp] theorem lstO_l : lstO (.lst ds) = pure ds := Eq.trans rfl rfl
@[simp] theorem tuple_l : tupleD (.lst ds) = pure (.tup ds) := Eq.trans rfl rfl
@[simp] theorem tuple_t : tupleD (.tup ds) = pure (.tup ds) := Eq.trans rfl rfl
@[simp] theorem list_t : listD (.tup ds) = pure (.lst ds) := Eq.trans rfl rfl
@[simp] theorem rev_t : revD (.tup ds) = pure (.tup ds.reverse) := Eq.trans rfl rfl
theorem mkT_ok (h : ds.length ≤ 2 ^ 24) : mkT ds = pure (.tup ds) := if_pos h
theorem mkL_ok (h : ds.length ≤ 2 ^ 24) : mkL ds = pure (.lst ds) := if_pos h
@[simp] theorem mkT0 : mkT [] = pure (.tup []) := Eq.trans rfl rfl
@[simp] theorem mkL0 : mkL [] = pure (.lst []) := Eq.trans rfl rfl
@[simp] theorem mkT1 (a : D) : mkT [a] = pure (.tup [a]) := Eq.trans rfl rfl
@[simp] theorem mkL1 (a : D) : mkL [a] = pure (.lst [a]) := Eq.trans rfl rfl
@[simp] theorem mkT2 (a b : D) : mkT [a, b] = pure (.tup [a, b]) := Eq.trans rfl rfl
@[simp] theorem mkL2 (a b : D) : mkL [a, b] = pure (.lst [a, b]) := Eq.trans rfl rfl
@[simp] theorem mkT3 (a b c : D) : mkT [a, b, c] = pure (.tup [a, b, c]) := Eq.trans rfl rfl
@[simp] theorem mkL3 (a b c : D) : mkL [a, b, c] = pure (.lst [a, b, c]) := Eq.trans rfl rfl
@[simp] theorem mkT4 (a b c d : D) : mkT [a, b, c, d] = pure (.tup [a, b, c, d]) := Eq.trans rfl rfl
@[simp] theorem mkL4 (a b c d : D) : mkL [a, b, c, d] = pure (.lst [a, b, c, d]) := Eq.trans rfl rfl
@[simp] theorem mkT5 (a b c d e : D) : mkT [a, b, c, d, e] = pure (.tup [a, b, c, d, e]) := Eq.trans rfl rfl
@[simp] theorem mkL5 (a b c d e : D) : mkL [a, b, c, d, e] = pure (.lst [a, b, c, d, e]) := Eq.trans rfl rfl
theorem app_ok (d : D) (h : ds.length < 2 ^ 24) : appL ds d = pure (.lst (ds ++ [d])) := if_pos h
theorem cat_ok (es : List D) (h : ds.length + es.length ≤ 2 ^ 24) : catD (.lst ds) (.lst es) = pure (.lst (ds ++ es)) := if_pos h
theorem add_tt (es : List D) (h : ds.length + es.length ≤ 2 ^ 24) : addD (.tup ds) (.tup es) = pure (.tup (ds ++ es)) := if_pos h
theorem sum_ints (ns : List Int) : sumD (.lst (ns.map .int)) = pure (.int ns.sum) := by
  unfold sumD
  simp only [ints_map]
theorem all_bools (bs : List Bool) : allD (.lst (bs.map .bl)) = pure (.bl (bs.all id)) := by
  unfold allD
  simp only [bools_map]
theorem any_bools (bs : List Bool) : anyD (.lst (bs.map .bl)) = pure (.bl (bs.any id)) := by
  unfold anyD
  simp only [bools_map]
theorem sorted_ints (ns : List Int) : sortedD (.lst (ns.map .int)) = pure (.lst ((isort ns).map .int)) := sorted_li ns
theorem sortedRev_ints (ns : List Int) : sortedRevD (.lst (ns.map .int)) = pure (.lst ((isort ns).reverse.map .int)) := by
  unfold sortedRevD
  simp only [ints_map]
end
/-! loops -/
theorem wp_for {Z B : Type} {step : Z → D → M (Out Z Z)} {Q : Out Z B → Store → Prop} (I : List D → Z → Store → Prop) : ∀ (xs : List D) (z : Z) (s : Store), I xs z s →
    (∀ x r z s, I (x :: r) z s → Wp (step z x) s fun o s' => match o with
      | .nx z' => I r z' s'
      | .ct z' => I r z' s'
      | .bk z' => Q (.nx z') s'
      | .rt d => Q (.rt d) s') → (∀ z s, I [] z s → Q (.nx z) s) → Wp (forL step z xs) s Q
  | [], z, s, i, _, d => ⟨d z s i⟩
  | x :: r, z, s, i, h, d => by
    unfold forL
    refine wp_bind (wp_imp (h x r z s i) fun o s' q => ?_)
    cases o with
    | nx z' => exact wp_for I r z' s' q h d
    | ct z' => exact wp_for I r z' s' q h d
    | bk z' => exact ⟨q⟩
    | rt d => exact ⟨q⟩
theorem forL_pure {Z B : Type} {step : Z → D → M (Out Z Z)} {g : Z → D → Z} : ∀ (xs : List D) (z : Z), (∀ z x, x ∈ xs → step z x = pure (.nx (g z x))) → (forL step z xs : M (Out Z B)) = pure (.nx (xs.foldl g z))
  | [], z, _ => rfl
  | x :: r, z, h => by
    unfold forL
    rw [h z x List.mem_cons_self, pure_bind']
    exact forL_pure r (g z x) fun z y hy => h z y (List.mem_cons_of_mem _ hy)
/-- a loop over ints -/
theorem forL_ints {Z B : Type} {step : Z → D → M (Out Z Z)} {g : Z → Int → Z} : ∀ (ns : List Int) (z : Z), (∀ z n, n ∈ ns → step z (.int n) = pure (.nx (g z n))) → (forL step z (ns.map D.int) : M (Out Z B)) = pure (.nx (ns.foldl g z))
  | [], z, _ => rfl
  | n :: r, z, h => by
    rw [List.map_cons]
    unfold forL
    rw [h z n List.mem_cons_self, pure_bind']
    exact forL_ints r (g z n) fun z y hy => h z y (List.mem_cons_of_mem _ hy)
/-! comprehensions -/
theorem compM_pure {α : Type} {f : D → M (Option D)} {to : α → D} {g : α → Option D} : ∀ (xs : List α), (∀ x ∈ xs, f (to x) = pure (g x)) → compM f (xs.map to) = pure (xs.filterMap g)
  | [], _ => rfl
  | x :: r, h => by
    have e : noexc (pure (g x) : M (Option D)) = pure (g x) := rfl
    rw [List.map_cons, compM, h x List.mem_cons_self, e, pure_bind', compM_pure r fun y hy => h y (List.mem_cons_of_mem _ hy), pure_bind', List.filterMap_cons]
    cases g x <;> rfl
theorem filterMap_all {α β : Type} (g : α → β) (xs : List α) : xs.filterMap (fun x => some (g x)) = xs.map g := by
  induction xs with
  | nil => rfl
  | cons x r ih => rw [List.filterMap_cons, ih, List.map_cons]
theorem filterMap_le {α β : Type} (g : α → Option β) (xs : List α) : (xs.filterMap g).length ≤ xs.length := List.length_filterMap_le g xs
/-- a comprehension, each item by itself; c the test, g what is put in -/
theorem lcM_pure {α : Type} {mi : M (List D)} {u : D → M (List D)} {mt : List D → M Bool} {me : List D → M D} {to : α → D} {xs : List α} (c : α → Bool) (g : α → D) (hi : mi = pure (xs.map to)) (hl : xs.length ≤ 2 ^ 24)
    (h : ∀ x ∈ xs, (u (to x) >>= fun ds => mt ds >>= fun b => if b = true then me ds >>= fun d => pure (some d) else pure none) = pure (if c x then some (g x) else none)) : lcM mi u mt me = pure (.lst ((xs.filter c).map g)) := by
  unfold lcM
  rw [hi, pure_bind', compM_pure (g := fun x => if c x then some (g x) else none) xs h, pure_bind']
  have e : xs.filterMap (fun x => if c x = true then some (g x) else none) = (xs.filter c).map g := by
    clear h hi hl
    induction xs with
    | nil => rfl
    | cons x r ih =>
      rw [List.filterMap_cons, List.filter_cons]
      by_cases z : c x = true
      · simp only [z, if_true, List.map_cons, ih]
      · simp only [z, ih]
        rfl
  rw [e]
  exact mkL_ok _ (Nat.le_trans (by rw [List.length_map]; exact List.length_filter_le _ _) hl)
/-- .. without a test -/
theorem lcM_map {α : Type} {mi : M (List D)} {u : D → M (List D)} {mt : List D → M Bool} {me : List D → M D} {to : α → D} {xs : List α} (g : α → D) (hi : mi = pure (xs.map to)) (hl : xs.length ≤ 2 ^ 24)
    (h : ∀ x ∈ xs, (u (to x) >>= fun ds => mt ds >>= fun b => if b = true then me ds >>= fun d => pure (some d) else pure none) = pure (some (g x))) : lcM mi u mt me = pure (.lst (xs.map g)) := by
  rw [lcM_pure (fun _ => true) g hi hl (fun x hx => by rw [h x hx]; rfl)]
  congr 2
  rw [List.filter_eq_self.mpr fun _ _ => rfl]
theorem rangeL_eq (n : Nat) : rangeL 0 n = (List.range n).map fun (i : Nat) => D.int (i : Nat) := by
  unfold rangeL
  refine List.map_congr_left fun i _ => ?_
  rw [Int.zero_add]
/-! ### the drawn numbers -/
/-- n more draws may be had; rest: the other cells -/
def Drw (n : Nat) (rest : Store) (s : Store) : Prop := ∃ (ns : List Int) (t : Nat), s = .lst [.lst (ns.map .int), .int (t : Nat)] :: rest ∧ 0 < ns.length ∧ ns.length ≤ 5000 ∧ t + n ≤ 2 ^ 60
theorem Drw.less {n m : Nat} {rest s : Store} (h : Drw n rest s) (l : m ≤ n) : Drw m rest s := by
  obtain ⟨ns, t, e, a, b, c⟩ := h
  exact ⟨ns, t, e, a, b, by omega⟩
end DL
/-! ### bits of numbers from nought -/
namespace DL
theorem split2 (a : Nat) : a = 2 * (a / 2) + a % 2 := by omega
theorem or_xor_and : ∀ (a b : Nat), (a ||| b) = (a ^^^ b) + (a &&& b) ∧ a + b = (a ^^^ b) + 2 * (a &&& b)
  | a, b => by
    by_cases h : a = 0
    · subst h
      simp
    · obtain ⟨ih1, ih2⟩ := or_xor_and (a / 2) (b / 2)
      have e1 := split2 (a ||| b)
      have e2 := split2 (a ^^^ b)
      have e3 := split2 (a &&& b)
      rw [Nat.or_div_two] at e1
      rw [Nat.xor_div_two] at e2
      rw [Nat.and_div_two] at e3
      have m1 := @Nat.or_mod_two_eq_one a b
      have m2 := @Nat.xor_mod_two_eq_one a b
      have m3 := @Nat.and_mod_two_eq_one a b
      have l1 : (a ||| b) % 2 < 2 := Nat.mod_lt _ (by omega)
      have l2 : (a ^^^ b) % 2 < 2 := Nat.mod_lt _ (by omega)
      have l3 : (a &&& b) % 2 < 2 := Nat.mod_lt _ (by omega)
      generalize (a ||| b) = p at *
      generalize (a ^^^ b) = q at *
      generalize (a &&& b) = r at *
      generalize (a / 2 ||| b / 2) = p' at *
      generalize (a / 2 ^^^ b / 2) = q' at *
      generalize (a / 2 &&& b / 2) = r' at *
      by_cases ha : a % 2 = 1 <;> by_cases hb : b % 2 = 1
      · have := m1.mpr (.inl ha)
        have := m3.mpr ⟨ha, hb⟩
        have : q % 2 ≠ 1 := fun z => (m2.mp z) ⟨fun _ => hb, fun _ => ha⟩
        omega
      · have := m1.mpr (.inl ha)
        have : r % 2 ≠ 1 := fun z => hb (m3.mp z).2
        have := m2.mpr fun z => hb (z.mp ha)
        omega
      · have := m1.mpr (.inr hb)
        have : r % 2 ≠ 1 := fun z => ha (m3.mp z).1
        have := m2.mpr fun z => ha (z.mpr hb)
        omega
      · have : p % 2 ≠ 1 := fun z => (m1.mp z).elim ha hb
        have : r % 2 ≠ 1 := fun z => ha (m3.mp z).1
        have : q % 2 ≠ 1 := fun z => (m2.mp z) ⟨fun y => absurd y ha, fun y => absurd y hb⟩
        omega
termination_by a => a
decreasing_by omega
theorem band_nat (a b : Nat) : PySem.Builtin.bitAnd (a : Int) (b : Int) = ((a &&& b : Nat) : Int) := by
  unfold PySem.Builtin.bitAnd
  rw [decide_eq_true (Int.natCast_nonneg a), decide_eq_true (Int.natCast_nonneg b)]
  show (((a : Int).toNat &&& (b : Int).toNat : Nat) : Int) = _
  rw [Int.toNat_natCast, Int.toNat_natCast]
theorem bor_nat (a b : Nat) : PySem.Builtin.bitOr (a : Int) (b : Int) = ((a ||| b : Nat) : Int) := by
  unfold PySem.Builtin.bitOr
  have e : PySem.Builtin.bitAnd (PySem.Builtin.bitNot (a : Int)) (PySem.Builtin.bitNot (b : Int)) = PySem.Builtin.bitNot ((a ||| b : Nat) : Int) := by
    unfold PySem.Builtin.bitAnd PySem.Builtin.bitNot
    have h1 : decide (0 ≤ -(a : Int) - 1) = false := decide_eq_false (by omega)
    have h2 : decide (0 ≤ -(b : Int) - 1) = false := decide_eq_false (by omega)
    rw [h1, h2]
    have e1 : (-(-(a : Int) - 1) - 1).toNat = a := by omega
    have e2 : (-(-(b : Int) - 1) - 1).toNat = b := by omega
    show -(((-(-(a : Int) - 1) - 1).toNat ||| (-(-(b : Int) - 1) - 1).toNat : Nat) : Int) - 1 = _
    rw [e1, e2]
  rw [e]
  unfold PySem.Builtin.bitNot
  omega
theorem bxor_nat (a b : Nat) : PySem.Builtin.bitXor (a : Int) (b : Int) = ((a ^^^ b : Nat) : Int) := by
  unfold PySem.Builtin.bitXor
  rw [bor_nat, band_nat, (or_xor_and a b).1]
  omega
/-- adding a power that is not there -/
theorem pow_add_bit {e s : Nat} (h : s.testBit e = false) (i : Nat) : (2 ^ e + s).testBit i = (decide (e = i) || s.testBit i) := by
  have z : 2 ^ e &&& s = 0 := by
    refine Nat.eq_of_testBit_eq fun j => ?_
    rw [Nat.testBit_and, Nat.testBit_two_pow, Nat.zero_testBit]
    by_cases q : e = j
    · subst q; rw [h, Bool.and_false]
    · rw [decide_eq_false q, Bool.false_and]
  have e2 := (or_xor_and (2 ^ e) s).2
  have e1 := (or_xor_and (2 ^ e) s).1
  rw [z] at e1 e2
  have : 2 ^ e + s = (2 ^ e ||| s) := by omega
  rw [this, Nat.testBit_or, Nat.testBit_two_pow]
theorem sum_pows : ∀ {L : List Nat}, L.Nodup → ∀ i, ((L.map (2 ^ ·)).sum).testBit i = decide (i ∈ L)
  | [], _, i => by
    rw [List.map_nil, List.sum_nil, Nat.zero_testBit]
    exact (decide_eq_false List.not_mem_nil).symm
  | e :: L, h, i => by
    obtain ⟨h1, h2⟩ := List.nodup_cons.mp h
    have ih := sum_pows h2
    rw [List.map_cons, List.sum_cons, pow_add_bit (by rw [ih e]; exact decide_eq_false h1), ih i]
    by_cases z : e = i
    · subst z
      rw [decide_eq_true rfl, Bool.true_or, decide_eq_true List.mem_cons_self]
    · rw [decide_eq_false z, Bool.false_or]
      by_cases y : i ∈ L
      · rw [decide_eq_true y, decide_eq_true (List.mem_cons_of_mem _ y)]
      · rw [decide_eq_false y, decide_eq_false fun q => (List.mem_cons.mp q).elim (fun q => z q.symm) y]
/-! lists of numbers as data -/
def ni (n : Nat) : D := .int (n : Int)
def en (l : List Nat) : List D := l.map ni
theorem en_ints (l : List Nat) : en l = (l.map fun (n : Nat) => (n : Int)).map .int := by
  unfold en
  rw [List.map_map]
  rfl
theorem en_len (l : List Nat) : (en l).length = l.length := List.length_map _
theorem en_app (l m : List Nat) : en (l ++ m) = en l ++ en m := List.map_append
theorem range_en (n : Nat) : rangeL 0 n = en (List.range n) := rangeL_eq n
theorem sum_cast (l : List Nat) : (l.map fun (n : Nat) => (n : Int)).sum = ((l.sum : Nat) : Int) := by
  induction l with
  | nil => rfl
  | cons x l ih => rw [List.map_cons, List.sum_cons, List.sum_cons, ih, Int.natCast_add]
theorem sum_en (l : List Nat) : sumD (.lst (en l)) = pure (ni l.sum) := by
  rw [en_ints, sum_ints, sum_cast]
  rfl
/-! comparing -/
theorem toPs_int : ∀ l : List Int, toPs (l.map .int) = l.map PySem.PyData.int
  | [] => by rw [List.map_nil, List.map_nil, toPs]
  | x :: l => by rw [List.map_cons, List.map_cons, toPs, toPs_int l, toP]
theorem canLay_ints : ∀ l : List Int, PySem.PyData.canLayAll0 (l.map PySem.PyData.int) = true
  | [] => by rw [List.map_nil, PySem.PyData.canLayAll0]
  | x :: l => by rw [List.map_cons, PySem.PyData.canLayAll0, canLay_ints l, PySem.PyData.canLay0]; rfl
theorem depth_ints : ∀ l : List Int, PySem.PyData.depthAll (l.map PySem.PyData.int) = 0
  | [] => by rw [List.map_nil, PySem.PyData.depthAll]
  | x :: l => by rw [List.map_cons, PySem.PyData.depthAll, depth_ints l, PySem.PyData.depth]; rfl
theorem eqv_ints : ∀ l m : List Int, PySem.PyData.eqvAll (l.map PySem.PyData.int) (m.map PySem.PyData.int) = decide (l = m)
  | [], [] => by rw [List.map_nil, PySem.PyData.eqvAll]; rfl
  | [], _ :: _ => by rw [List.map_nil, List.map_cons, PySem.PyData.eqvAll]; rfl
  | _ :: _, [] => by rw [List.map_nil, List.map_cons, PySem.PyData.eqvAll]; rfl
  | x :: l, y :: m => by
    rw [List.map_cons, List.map_cons, PySem.PyData.eqvAll, eqv_ints l m, PySem.PyData.eqv]
    by_cases h : x = y
    · subst h
      by_cases k : l = m
      · subst k; simp
      · simp [k]
    · simp [h]
theorem shaped_tup_ints (l : List Int) : PySem.SeqAt.shaped (toP (.tup (l.map .int))) = true := by
  rw [toP, toPs_int, PySem.SeqAt.shaped, PySem.PyData.canLay0, canLay_ints, PySem.PyData.depth, depth_ints]
  rfl
theorem shaped_lst_ints (l : List Int) : PySem.SeqAt.shaped (toP (.lst (l.map .int))) = true := by
  rw [toP, toPs_int, PySem.SeqAt.shaped, PySem.PyData.canLay0, canLay_ints, PySem.PyData.depth, depth_ints]
  rfl
theorem shaped_int (i : Int) : PySem.SeqAt.shaped (toP (.int i)) = true := by
  rw [toP, PySem.SeqAt.shaped, PySem.PyData.canLay0, PySem.PyData.depth]
  rfl
theorem shaped_bl (i : Bool) : PySem.SeqAt.shaped (toP (.bl i)) = true := by
  rw [toP, PySem.SeqAt.shaped, PySem.PyData.canLay0, PySem.PyData.depth]
  rfl
theorem eqB_of {x y : D} (hx : PySem.SeqAt.shaped (toP x) = true) (hy : PySem.SeqAt.shaped (toP y) = true) : eqB x y = pure (PySem.PyData.eqv (toP x) (toP y)) := by
  unfold eqB
  rw [hx, hy]
  rfl
theorem neB_of {x y : D} (hx : PySem.SeqAt.shaped (toP x) = true) (hy : PySem.SeqAt.shaped (toP y) = true) : neB x y = pure (!PySem.PyData.eqv (toP x) (toP y)) := by
  unfold neB
  rw [hx, hy]
  rfl
theorem eq_tt (l m : List Int) : eqB (.tup (l.map .int)) (.tup (m.map .int)) = pure (decide (l = m)) := by
  rw [eqB_of (shaped_tup_ints l) (shaped_tup_ints m), toP, toP, toPs_int, toPs_int, PySem.PyData.eqv, eqv_ints]
theorem ne_tt (l m : List Int) : neB (.tup (l.map .int)) (.tup (m.map .int)) = pure (!decide (l = m)) := by
  rw [neB_of (shaped_tup_ints l) (shaped_tup_ints m), toP, toP, toPs_int, toPs_int, PySem.PyData.eqv, eqv_ints]
theorem eq_ll (l m : List Int) : eqB (.lst (l.map .int)) (.lst (m.map .int)) = pure (decide (l = m)) := by
  rw [eqB_of (shaped_lst_ints l) (shaped_lst_ints m), toP, toP, toPs_int, toPs_int, PySem.PyData.eqv, eqv_ints]
theorem ne_ll (l m : List Int) : neB (.lst (l.map .int)) (.lst (m.map .int)) = pure (!decide (l = m)) := by
  rw [neB_of (shaped_lst_ints l) (shaped_lst_ints m), toP, toP, toPs_int, toPs_int, PySem.PyData.eqv, eqv_ints]
theorem eq_bb (a b : Bool) : eqB (.bl a) (.bl b) = pure (a == b) := by
  rw [eqB_of (shaped_bl a) (shaped_bl b), toP, toP, PySem.PyData.eqv]
theorem ne_bb (a b : Bool) : neB (.bl a) (.bl b) = pure (!(a == b)) := by
  rw [neB_of (shaped_bl a) (shaped_bl b), toP, toP, PySem.PyData.eqv]
theorem cast_inj {l m : List Nat} : (l.map fun (n : Nat) => (n : Int)) = (m.map fun (n : Nat) => (n : Int)) ↔ l = m := by
  constructor
  · intro h
    induction l generalizing m with
    | nil => cases m with
      | nil => rfl
      | cons _ _ => simp at h
    | cons x l ih => cases m with
      | nil => simp at h
      | cons y m =>
        rw [List.map_cons, List.map_cons] at h
        injection h with h1 h2
        rw [ih h2, Int.ofNat.inj h1]
  · intro h
    rw [h]
theorem eq_ten (l m : List Nat) : eqB (.tup (en l)) (.tup (en m)) = pure (decide (l = m)) := by
  rw [en_ints, en_ints, eq_tt]
  simp only [cast_inj]
theorem ne_ten (l m : List Nat) : neB (.tup (en l)) (.tup (en m)) = pure (!decide (l = m)) := by
  rw [en_ints, en_ints, ne_tt]
  simp only [cast_inj]
theorem eq_len (l m : List Nat) : eqB (.lst (en l)) (.lst (en m)) = pure (decide (l = m)) := by
  rw [en_ints, en_ints, eq_ll]
  simp only [cast_inj]
theorem ne_len (l m : List Nat) : neB (.lst (en l)) (.lst (en m)) = pure (!decide (l = m)) := by
  rw [en_ints, en_ints, ne_ll]
  simp only [cast_inj]
theorem inSeq_ints (neg : Bool) (i : Int) (l : List Int) : inSeq neg (.int i) (l.map .int) = pure (if neg then !l.contains i else l.contains i) := by
  unfold inSeq
  have h1 := shaped_lst_ints l
  rw [toP] at h1
  rw [shaped_int, h1, Bool.and_self, if_pos rfl]
  have e : ((l.map D.int).any fun z => PySem.PyData.eqv (toP z) (toP (.int i))) = l.contains i := by
    rw [Bool.eq_iff_iff, List.any_eq_true, List.contains_iff_mem]
    constructor
    · rintro ⟨z, hz, h⟩
      obtain ⟨j, hj, rfl⟩ := List.mem_map.mp hz
      rw [toP, toP, PySem.PyData.eqv, beq_iff_eq] at h
      rwa [← h]
    · intro h
      exact ⟨_, List.mem_map.mpr ⟨i, h, rfl⟩, by rw [toP, PySem.PyData.eqv, beq_self_eq_true]⟩
  simp only [e]
theorem contains_cast (l : List Nat) (n : Nat) : (l.map fun (n : Nat) => (n : Int)).contains (n : Int) = l.contains n := by
  rw [Bool.eq_iff_iff, List.contains_iff_mem, List.contains_iff_mem, List.mem_map]
  constructor
  · rintro ⟨m, hm, h⟩
    rwa [← Int.ofNat.inj h]
  · intro h
    exact ⟨n, h, rfl⟩
theorem in_l (n : Nat) (l : List Nat) : inB false (ni n) (.lst (en l)) = pure (l.contains n) := by
  show inSeq false (.int n) (en l) = _
  rw [en_ints, inSeq_ints, contains_cast]
  rfl
theorem nin_l (n : Nat) (l : List Nat) : inB true (ni n) (.lst (en l)) = pure (!l.contains n) := by
  show inSeq true (.int n) (en l) = _
  rw [en_ints, inSeq_ints, contains_cast]
  rfl
theorem in_t (n : Nat) (l : List Nat) : inB false (ni n) (.tup (en l)) = pure (l.contains n) := in_l n l
theorem nin_t (n : Nat) (l : List Nat) : inB true (ni n) (.tup (en l)) = pure (!l.contains n) := nin_l n l
/-! operators on numbers from nought -/
theorem and_nn (a b : Nat) : andD (ni a) (ni b) = pure (ni (a &&& b)) := by
  show (pure (.int (PySem.Builtin.bitAnd (a : Int) (b : Int))) : M D) = _
  rw [band_nat]
  rfl
theorem or_nn (a b : Nat) : orD (ni a) (ni b) = pure (ni (a ||| b)) := by
  show (pure (.int (PySem.Builtin.bitOr (a : Int) (b : Int))) : M D) = _
  rw [bor_nat]
  rfl
theorem xor_nn (a b : Nat) : xorD (ni a) (ni b) = pure (ni (a ^^^ b)) := by
  show (pure (.int (PySem.Builtin.bitXor (a : Int) (b : Int))) : M D) = _
  rw [bxor_nat]
  rfl
theorem add_nn (a b : Nat) : addD (ni a) (ni b) = pure (ni (a + b)) := by
  show (pure (.int ((a : Int) + (b : Int))) : M D) = _
  rw [← Int.natCast_add]
  rfl
theorem eq_nn (a b : Nat) : eqB (ni a) (ni b) = pure (a == b) := by
  show (eqB (.int (a : Int)) (.int (b : Int))) = _
  rw [eq_ii]
  congr 1
  rw [Bool.eq_iff_iff, beq_iff_eq, beq_iff_eq]
  exact ⟨fun h => Int.ofNat.inj h, fun h => by rw [h]⟩
theorem ne_nn (a b : Nat) : neB (ni a) (ni b) = pure (!(a == b)) := by
  show (neB (.int (a : Int)) (.int (b : Int))) = _
  rw [ne_ii]
  congr 2
  rw [Bool.eq_iff_iff, beq_iff_eq, beq_iff_eq]
  exact ⟨fun h => Int.ofNat.inj h, fun h => by rw [h]⟩
theorem le_nn (a b : Nat) : leB (ni a) (ni b) = pure (decide (a ≤ b)) := by
  show (leB (.int (a : Int)) (.int (b : Int))) = _
  rw [le_ii]
  simp only [Int.ofNat_le]
theorem lt_nn (a b : Nat) : ltB (ni a) (ni b) = pure (decide (a < b)) := by
  show (ltB (.int (a : Int)) (.int (b : Int))) = _
  rw [lt_ii]
  simp only [Int.ofNat_lt]
theorem gt_nn (a b : Nat) : gtB (ni a) (ni b) = pure (decide (b < a)) := by
  show (gtB (.int (a : Int)) (.int (b : Int))) = _
  rw [gt_ii]
  simp only [Int.ofNat_lt]
theorem shl_nn (a k : Nat) (ha : a < 2 ^ 64) (h : k ≤ 1000000) : shlD (ni a) (ni k) = pure (ni (a * 2 ^ k)) := by
  show (shlD (.int (a : Int)) (.int (k : Int))) = _
  rw [shl_ii _ _ (by omega) (by omega) (by rw [Int.natAbs_natCast]; exact ha), Int.toNat_natCast]
  show _ = (pure (.int (((a * 2 ^ k : Nat)) : Int)) : M D)
  rw [Int.natCast_mul, Int.natCast_pow]
  rfl
theorem shr_nn (a k : Nat) : shrD (ni a) (ni k) = pure (ni (a / 2 ^ k)) := by
  show (shrD (.int (a : Int)) (.int (k : Int))) = _
  rw [shr_ii _ _ (by omega), Int.toNat_natCast]
  show _ = (pure (.int (((a / 2 ^ k : Nat)) : Int)) : M D)
  rw [Int.natCast_ediv, Int.natCast_pow]
  rfl
theorem n0 : D.int 0 = ni 0 := rfl
theorem n1 : D.int 1 = ni 1 := rfl
theorem and_1 (a : Nat) : a &&& 1 = a % 2 := by
  have := Nat.and_two_pow_sub_one_eq_mod a 1
  exact this
theorem bit_eq (a k : Nat) : a / 2 ^ k % 2 = if a.testBit k then 1 else 0 := by
  rw [Nat.testBit_eq_decide_div_mod_eq]
  by_cases h : a / 2 ^ k % 2 = 1
  · rw [decide_eq_true h, if_pos rfl, h]
  · rw [decide_eq_false h, if_neg Bool.false_ne_true]
    omega
theorem range1_n (n : Nat) (h : n < 2 ^ 62) : range1 (ni n) = pure (en (List.range n)) := by
  rw [← range_en]
  exact range1_i n h
theorem at_en {l : List Nat} {k : Nat} (h : k < l.length) : ixD (.lst (en l)) (ni k) = pure (ni (l.getD k 0)) := by
  show ixL (en l) (k : Int) = _
  unfold ixL
  have hg : (en l)[k]? = some (ni (l.getD k 0)) := by
    unfold en
    rw [List.getElem?_map, List.getElem?_eq_getElem h, List.getD_eq_getElem?_getD, List.getElem?_eq_getElem h]
    rfl
  rw [L2.atI_nat hg]
theorem at_enT {l : List Nat} {k : Nat} (h : k < l.length) : ixD (.tup (en l)) (ni k) = pure (ni (l.getD k 0)) := at_en h
end DL
/-! ### data alike -/
namespace DL
open PySem (PyData)
mutual
theorem eqv_refl : ∀ d : PyData, d.canLay0 = true → PyData.eqv d d = true
  | .none, _ => by rw [PyData.eqv]
  | .bool b, _ => by rw [PyData.eqv]; exact beq_self_eq_true b
  | .int i, _ => by rw [PyData.eqv]; exact beq_self_eq_true i
  | .str x, _ => by rw [PyData.eqv]; exact beq_self_eq_true x
  | .list xs, h => by
    rw [PyData.eqv]
    exact eqvAll_refl xs (by rw [PyData.canLay0] at h; exact h)
  | .tuple xs, h => by
    rw [PyData.eqv]
    exact eqvAll_refl xs (by rw [PyData.canLay0] at h; exact h)
  | .dict _, h => by rw [PyData.canLay0] at h; cases h
theorem eqvAll_refl : ∀ ds : List PyData, PyData.canLayAll0 ds = true → PyData.eqvAll ds ds = true
  | [], _ => by rw [PyData.eqvAll]
  | d :: r, h => by
    rw [PyData.canLayAll0, Bool.and_eq_true] at h
    rw [PyData.eqvAll, eqv_refl d h.1, eqvAll_refl r h.2]
    rfl
end
/-- data that may be compared, n deep at most -/
def Sh (n : Nat) (x : D) : Prop := (toP x).canLay0 = true ∧ (toP x).depth ≤ n
theorem Sh.non {n : Nat} : Sh n .non := by
  unfold Sh
  rw [toP, PyData.canLay0, PyData.depth]
  exact ⟨rfl, Nat.zero_le n⟩
theorem Sh.bl {n : Nat} {b : Bool} : Sh n (.bl b) := by
  unfold Sh
  rw [toP, PyData.canLay0, PyData.depth]
  exact ⟨rfl, Nat.zero_le n⟩
theorem Sh.int {n : Nat} {i : Int} : Sh n (.int i) := by
  unfold Sh
  rw [toP, PyData.canLay0, PyData.depth]
  exact ⟨rfl, Nat.zero_le n⟩
theorem Sh.ni {n m : Nat} : Sh n (DL.ni m) := Sh.int
theorem Sh.str {n : Nat} {x : PySem.Str} (h : PySem.PyData.canLay0 (.str x) = true) : Sh n (.str x) := by
  unfold Sh
  rw [toP, PyData.depth]
  exact ⟨h, Nat.zero_le n⟩
theorem sh_all {n : Nat} : ∀ {xs : List D}, (∀ x ∈ xs, Sh n x) → PyData.canLayAll0 (toPs xs) = true ∧ PyData.depthAll (toPs xs) ≤ n
  | [], _ => by
    rw [toPs, PyData.canLayAll0, PyData.depthAll]
    exact ⟨rfl, Nat.zero_le n⟩
  | x :: r, h => by
    obtain ⟨h1, h2⟩ := h x List.mem_cons_self
    obtain ⟨h3, h4⟩ := sh_all (xs := r) fun y hy => h y (List.mem_cons_of_mem _ hy)
    rw [toPs, PyData.canLayAll0, PyData.depthAll, h1, h3]
    exact ⟨rfl, Nat.max_le.mpr ⟨h2, h4⟩⟩
theorem Sh.tup {n : Nat} {xs : List D} (h : ∀ x ∈ xs, Sh n x) : Sh (n + 1) (.tup xs) := by
  unfold Sh
  rw [toP, PyData.canLay0, PyData.depth]
  exact ⟨(sh_all h).1, Nat.succ_le_succ (sh_all h).2⟩
theorem Sh.lst {n : Nat} {xs : List D} (h : ∀ x ∈ xs, Sh n x) : Sh (n + 1) (.lst xs) := by
  unfold Sh
  rw [toP, PyData.canLay0, PyData.depth]
  exact ⟨(sh_all h).1, Nat.succ_le_succ (sh_all h).2⟩
theorem Sh.ten {n : Nat} (l : List Nat) : Sh (n + 1) (.tup (en l)) := Sh.tup fun x hx => by
  obtain ⟨m, _, rfl⟩ := List.mem_map.mp hx
  exact Sh.ni
theorem Sh.len {n : Nat} (l : List Nat) : Sh (n + 1) (.lst (en l)) := Sh.lst fun x hx => by
  obtain ⟨m, _, rfl⟩ := List.mem_map.mp hx
  exact Sh.ni
theorem Sh.ok {n : Nat} {x : D} (h : Sh n x) (k : n ≤ 64) : PySem.SeqAt.shaped (toP x) = true := by
  unfold PySem.SeqAt.shaped
  rw [h.1, decide_eq_true (Nat.le_trans h.2 k)]
  rfl
def eqD (x y : D) : Bool := PyData.eqv (toP x) (toP y)
def eqDs (xs ys : List D) : Bool := PyData.eqvAll (toPs xs) (toPs ys)
theorem eqB_sh {n m : Nat} {x y : D} (hx : Sh n x) (hy : Sh m y) (hn : n ≤ 64 := by decide) (hm : m ≤ 64 := by decide) : eqB x y = pure (eqD x y) := eqB_of (hx.ok hn) (hy.ok hm)
theorem neB_sh {n m : Nat} {x y : D} (hx : Sh n x) (hy : Sh m y) (hn : n ≤ 64 := by decide) (hm : m ≤ 64 := by decide) : neB x y = pure (!eqD x y) := neB_of (hx.ok hn) (hy.ok hm)
theorem eqD_refl {n : Nat} {x : D} (h : Sh n x) : eqD x x = true := eqv_refl _ h.1
theorem eqB_self {n : Nat} {x : D} (h : Sh n x) (hn : n ≤ 64 := by decide) : eqB x x = pure true := by rw [eqB_sh h h hn hn, eqD_refl h]
theorem neB_self {n : Nat} {x : D} (h : Sh n x) (hn : n ≤ 64 := by decide) : neB x x = pure false := by rw [neB_sh h h hn hn, eqD_refl h]; rfl
theorem eqD_ii (i j : Int) : eqD (.int i) (.int j) = (i == j) := by unfold eqD; rw [toP, toP, PyData.eqv]
theorem eqD_bb (a b : Bool) : eqD (.bl a) (.bl b) = (a == b) := by unfold eqD; rw [toP, toP, PyData.eqv]
theorem eqD_bi (a : Bool) (j : Int) : eqD (.bl a) (.int j) = ((if a then 1 else 0) == j) := by unfold eqD; rw [toP, toP, PyData.eqv]
theorem eqD_ib (i : Int) (b : Bool) : eqD (.int i) (.bl b) = (i == (if b then 1 else 0)) := by unfold eqD; rw [toP, toP, PyData.eqv]
theorem eqD_ss (x y : PySem.Str) : eqD (.str x) (.str y) = (x == y) := by unfold eqD; rw [toP, toP, PyData.eqv]
theorem eqD_tt (xs ys : List D) : eqD (.tup xs) (.tup ys) = eqDs xs ys := by unfold eqD eqDs; rw [toP, toP, PyData.eqv]
theorem eqD_ll (xs ys : List D) : eqD (.lst xs) (.lst ys) = eqDs xs ys := by unfold eqD eqDs; rw [toP, toP, PyData.eqv]
theorem eqDs_nn : eqDs [] [] = true := by unfold eqDs; rw [toPs, PyData.eqvAll]
theorem eqDs_cc (x y : D) (xs ys : List D) : eqDs (x :: xs) (y :: ys) = (eqD x y && eqDs xs ys) := by unfold eqD eqDs; rw [toPs, toPs, PyData.eqvAll]
theorem eqDs_nc (y : D) (ys : List D) : eqDs [] (y :: ys) = false := by unfold eqDs; rw [toPs, toPs, PyData.eqvAll]
theorem eqDs_cn (y : D) (ys : List D) : eqDs (y :: ys) [] = false := by unfold eqDs; rw [toPs, toPs, PyData.eqvAll]
theorem eqDs_map {α : Type} [DecidableEq α] {f : α → D} (h : ∀ x y, eqD (f x) (f y) = decide (x = y)) : ∀ l m : List α, eqDs (l.map f) (m.map f) = decide (l = m)
  | [], [] => by rw [List.map_nil, eqDs_nn]; rfl
  | [], y :: m => by rw [List.map_nil, List.map_cons, eqDs_nc]; rfl
  | x :: l, [] => by rw [List.map_nil, List.map_cons, eqDs_cn]; rfl
  | x :: l, y :: m => by
    rw [List.map_cons, List.map_cons, eqDs_cc, h, eqDs_map h l m, Bool.eq_iff_iff, Bool.and_eq_true, decide_eq_true_iff, decide_eq_true_iff, decide_eq_true_iff, List.cons.injEq]
theorem eqD_ni (a b : Nat) : eqD (ni a) (ni b) = decide (a = b) := by
  show eqD (.int a) (.int b) = _
  rw [eqD_ii, Bool.eq_iff_iff, beq_iff_eq, decide_eq_true_iff]
  exact ⟨fun h => Int.ofNat.inj h, fun h => by rw [h]⟩
theorem eqD_ten (l m : List Nat) : eqD (.tup (en l)) (.tup (en m)) = decide (l = m) := by
  rw [eqD_tt]
  exact eqDs_map eqD_ni l m
theorem eqD_len (l m : List Nat) : eqD (.lst (en l)) (.lst (en m)) = decide (l = m) := by
  rw [eqD_ll]
  exact eqDs_map eqD_ni l m
theorem eqB_ss {x y : PySem.Str} (hx : PySem.PyData.canLay0 (.str x) = true) (hy : PySem.PyData.canLay0 (.str y) = true) : eqB (.str x) (.str y) = pure (x == y) := by
  rw [eqB_sh (n := 0) (m := 0) (Sh.str hx) (Sh.str hy), eqD_ss]
theorem strOk_of {x : PySem.Str} (h : PySem.PyData.strOk x = true) : PySem.PyData.canLay0 (.str x) = true := by rw [PyData.canLay0]; exact h
end DL
/-! ### loops and comprehensions over numbers, draws in comprehensions -/
namespace DL
theorem forL_en {Z B : Type} {step : Z → D → M (Out Z Z)} {g : Z → Nat → Z} {P : Z → Prop} : ∀ (ns : List Nat) (z : Z), P z → (∀ z n, P z → n ∈ ns → step z (ni n) = pure (.nx (g z n)) ∧ P (g z n)) → (forL step z (en ns) : M (Out Z B)) = pure (.nx (ns.foldl g z)) ∧ P (ns.foldl g z)
  | [], z, hz, _ => ⟨rfl, hz⟩
  | n :: r, z, hz, h => by
    obtain ⟨h1, h2⟩ := h z n hz List.mem_cons_self
    have ih := forL_en (B := B) r (g z n) h2 fun z y hz hy => h z y hz (List.mem_cons_of_mem _ hy)
    refine ⟨?_, ih.2⟩
    show forL step z (ni n :: en r) = _
    unfold forL
    rw [h1, pure_bind']
    exact ih.1
theorem forL_nn {B : Type} {step : D → D → M (Out D D)} {g : Nat → Nat → Nat} {P : Nat → Prop} : ∀ (ns : List Nat) (z : Nat), P z → (∀ z n, P z → n ∈ ns → step (ni z) (ni n) = pure (.nx (ni (g z n))) ∧ P (g z n)) → (forL step (ni z) (en ns) : M (Out D B)) = pure (.nx (ni (ns.foldl g z))) ∧ P (ns.foldl g z)
  | [], z, hz, _ => ⟨rfl, hz⟩
  | n :: r, z, hz, h => by
    obtain ⟨h1, h2⟩ := h z n hz List.mem_cons_self
    have ih := forL_nn (B := B) r (g z n) h2 fun z y hz hy => h z y hz (List.mem_cons_of_mem _ hy)
    refine ⟨?_, ih.2⟩
    show forL step (ni z) (ni n :: en r) = _
    unfold forL
    rw [h1, pure_bind']
    exact ih.1
theorem forL_ln {B : Type} {step : D → D → M (Out D D)} {g : List Nat → Nat → List Nat} {P : List Nat → Prop} : ∀ (ns : List Nat) (z : List Nat), P z → (∀ z n, P z → n ∈ ns → step (.lst (en z)) (ni n) = pure (.nx (.lst (en (g z n)))) ∧ P (g z n)) → (forL step (.lst (en z)) (en ns) : M (Out D B)) = pure (.nx (.lst (en (ns.foldl g z)))) ∧ P (ns.foldl g z)
  | [], z, hz, _ => ⟨rfl, hz⟩
  | n :: r, z, hz, h => by
    obtain ⟨h1, h2⟩ := h z n hz List.mem_cons_self
    have ih := forL_ln (B := B) r (g z n) h2 fun z y hz hy => h z y hz (List.mem_cons_of_mem _ hy)
    refine ⟨?_, ih.2⟩
    show forL step (.lst (en z)) (ni n :: en r) = _
    unfold forL
    rw [h1, pure_bind']
    exact ih.1
theorem forL_lr {B : Type} {step : D → D → M (Out D D)} {g : List Nat → Nat → List Nat} {P : List Nat → List Nat → Prop} : ∀ (ns : List Nat) (z : List Nat), P ns z → (∀ z n r, P (n :: r) z → n ∈ ns → step (.lst (en z)) (ni n) = pure (.nx (.lst (en (g z n)))) ∧ P r (g z n)) → (forL step (.lst (en z)) (en ns) : M (Out D B)) = pure (.nx (.lst (en (ns.foldl g z)))) ∧ P [] (ns.foldl g z)
  | [], z, hz, _ => ⟨rfl, hz⟩
  | n :: r, z, hz, h => by
    obtain ⟨h1, h2⟩ := h z n r hz List.mem_cons_self
    have ih := forL_lr (B := B) r (g z n) h2 fun z y r hz hy => h z y r hz (List.mem_cons_of_mem _ hy)
    refine ⟨?_, ih.2⟩
    show forL step (.lst (en z)) (ni n :: en r) = _
    unfold forL
    rw [h1, pure_bind']
    exact ih.1
theorem bind_eq {α β : Type} {m m' : M α} {f : α → M β} {r : M β} (h : m = m') (h2 : m' >>= f = r) : m >>= f = r := by rw [h]; exact h2
theorem mkL_en {l : List Nat} (h : l.length ≤ 2 ^ 24) : mkL (en l) = pure (.lst (en l)) := mkL_ok _ (by rw [en_len]; exact h)
theorem mkT_en {l : List Nat} (h : l.length ≤ 2 ^ 24) : mkT (en l) = pure (.tup (en l)) := mkT_ok _ (by rw [en_len]; exact h)
theorem lcM_en {xs : List Nat} {mi : M (List D)} {u : D → M (List D)} {mt : List D → M Bool} {me : List D → M D} (c : Nat → Bool) (g : Nat → Nat) (hi : mi = pure (en xs)) (hl : xs.length ≤ 2 ^ 24)
    (h : ∀ x ∈ xs, (u (ni x) >>= fun ds => mt ds >>= fun b => if b = true then me ds >>= fun d => pure (some d) else pure none) = pure (if c x then some (ni (g x)) else none)) : lcM mi u mt me = pure (.lst (en ((xs.filter c).map g))) := by
  rw [lcM_pure (to := ni) c (fun x => ni (g x)) hi hl h]
  unfold en
  rw [List.map_map]
  rfl
theorem lcM_enm {xs : List Nat} {mi : M (List D)} {u : D → M (List D)} {mt : List D → M Bool} {me : List D → M D} (g : Nat → Nat) (hi : mi = pure (en xs)) (hl : xs.length ≤ 2 ^ 24)
    (h : ∀ x ∈ xs, (u (ni x) >>= fun ds => mt ds >>= fun b => if b = true then me ds >>= fun d => pure (some d) else pure none) = pure (some (ni (g x)))) : lcM mi u mt me = pure (.lst (en (xs.map g))) := by
  rw [lcM_map (to := ni) (fun x => ni (g x)) hi hl h]
  unfold en
  rw [List.map_map]
  rfl
theorem foldl_put {α : Type} (c : Nat → Bool) (g : Nat → α) : ∀ (xs : List Nat) (acc : List α), xs.foldl (fun f j => if c j = true then f ++ [g j] else f) acc = acc ++ (xs.filter c).map g
  | [], acc => (List.append_nil acc).symm
  | x :: xs, acc => by
    rw [List.foldl_cons, foldl_put c g xs, List.filter_cons]
    by_cases h : c x = true
    · rw [if_pos h, if_pos h, List.map_cons, List.append_assoc]
      rfl
    · rw [if_neg h, if_neg h]
theorem wp_comp {f : D → M (Option D)} {J : List D → List D → Store → Prop} : ∀ (xs acc : List D) (s : Store), J xs acc s → (∀ x r acc s, J (x :: r) acc s → Wp (f x) s fun o s' => J r (acc ++ o.toList) s') → Wp (compM f xs) s fun ys s' => J [] (acc ++ ys) s'
  | [], acc, s, j, _ => wp_pure (by rw [List.append_nil]; exact j)
  | x :: r, acc, s, j, h => by
    obtain ⟨o, s', e, j'⟩ := wp_get (h x r acc s j)
    have e2 : noexc (f x) s = .ok o s' := by
      unfold noexc
      rw [e]
    unfold compM
    refine wp_go e2 (wp_bind (wp_imp (wp_comp r (acc ++ o.toList) s' j' h) fun ys s'' q => wp_pure ?_))
    cases o with
    | none => simpa [addO] using q
    | some d => simpa [addO] using q
theorem wp_lc {mi : M (List D)} {u : D → M (List D)} {mt : List D → M Bool} {me : List D → M D} {s : Store} {J : List D → List D → Store → Prop} {Q : D → Store → Prop} (hi : Wp mi s fun xs s' => J xs [] s')
    (h : ∀ x r acc s, J (x :: r) acc s → Wp (u x >>= fun ds => mt ds >>= fun b => if b = true then me ds >>= fun d => pure (some d) else pure none) s fun o s' => J r (acc ++ o.toList) s')
    (he : ∀ ys s', J [] ys s' → ys.length ≤ 2 ^ 24 ∧ Q (.lst ys) s') : Wp (lcM mi u mt me) s Q := by
  unfold lcM
  refine wp_bind (wp_imp hi fun xs s' j => wp_bind (wp_imp (wp_comp xs [] s' j h) fun ys s'' q => ?_))
  rw [List.nil_append] at q
  obtain ⟨h1, h2⟩ := he ys s'' q
  rw [mkL_ok _ h1]
  exact wp_pure h2
theorem len_ten (l : List Nat) : lenD (.tup (en l)) = pure (ni l.length) := by
  rw [len_t, en_len]
  rfl
theorem add_ten {l m : List Nat} (h : l.length + m.length ≤ 2 ^ 24) : addD (.tup (en l)) (.tup (en m)) = pure (.tup (en (l ++ m))) := by
  rw [add_tt _ _ (by rw [en_len, en_len]; exact h), en_app]
theorem wp_eq {α β : Type} {m m' : M α} {f : α → M β} {s : Store} {Q : β → Store → Prop} (h : m = m') (q : Wp (m' >>= f) s Q) : Wp (m >>= f) s Q := by rw [h]; exact q
theorem forL_thru {B : Type} {step : Unit → D → M (Out Unit Unit)} : ∀ (xs : List D), (∀ x ∈ xs, step () x = pure (.nx ())) → (forL step () xs : M (Out Unit B)) = pure (.nx ())
  | [], _ => rfl
  | x :: r, h => by
    unfold forL
    rw [h x List.mem_cons_self, pure_bind']
    exact forL_thru r fun y hy => h y (List.mem_cons_of_mem _ hy)
theorem int_bn (b : Bool) : intD (.bl b) = pure (ni (if b = true then 1 else 0)) := by cases b <;> rfl
theorem len_len (l : List Nat) : lenD (.lst (en l)) = pure (ni l.length) := by
  rw [len_l, en_len]
  rfl
/-- what is true of each -/
theorem lcM_bool {xs : List Nat} {mi : M (List D)} {u : D → M (List D)} {mt : List D → M Bool} {me : List D → M D} (p : Nat → Bool) (hi : mi = pure (en xs)) (hl : xs.length ≤ 2 ^ 24)
    (h : ∀ x ∈ xs, (u (ni x) >>= fun ds => mt ds >>= fun b => if b = true then me ds >>= fun d => pure (some d) else pure none) = pure (some (.bl (p x)))) : lcM mi u mt me = pure (.lst ((xs.map p).map .bl)) := by
  rw [lcM_map (to := ni) (fun x => .bl (p x)) hi hl h, List.map_map]
  rfl
theorem lcM_any {xs : List Nat} {mi : M (List D)} {u : D → M (List D)} {mt : List D → M Bool} {me : List D → M D} (p : Nat → Bool) (hi : mi = pure (en xs)) (hl : xs.length ≤ 2 ^ 24)
    (h : ∀ x ∈ xs, (u (ni x) >>= fun ds => mt ds >>= fun b => if b = true then me ds >>= fun d => pure (some d) else pure none) = pure (some (.bl (p x)))) : (lcM mi u mt me >>= anyD) = pure (.bl (xs.any p)) := by
  rw [lcM_bool p hi hl h, pure_bind', any_bools, List.any_map]
  rfl
theorem lcM_all {xs : List Nat} {mi : M (List D)} {u : D → M (List D)} {mt : List D → M Bool} {me : List D → M D} (p : Nat → Bool) (hi : mi = pure (en xs)) (hl : xs.length ≤ 2 ^ 24)
    (h : ∀ x ∈ xs, (u (ni x) >>= fun ds => mt ds >>= fun b => if b = true then me ds >>= fun d => pure (some d) else pure none) = pure (some (.bl (p x)))) : (lcM mi u mt me >>= allD) = pure (.bl (xs.all p)) := by
  rw [lcM_bool p hi hl h, pure_bind', all_bools, List.all_map]
  rfl
theorem c0 : D.int 0 = ni 0 := rfl
theorem c1 : D.int 1 = ni 1 := rfl
theorem c2 : D.int 2 = ni 2 := rfl
theorem c3 : D.int 3 = ni 3 := rfl
theorem c4 : D.int 4 = ni 4 := rfl
theorem c5 : D.int 5 = ni 5 := rfl
theorem c6 : D.int 6 = ni 6 := rfl
theorem c7 : D.int 7 = ni 7 := rfl
theorem c8 : D.int 8 = ni 8 := rfl
theorem sub_nn {a b : Nat} (h : b ≤ a) : subD (ni a) (ni b) = pure (ni (a - b)) := by
  show (pure (.int ((a : Int) - (b : Int))) : M D) = _
  rw [← Int.ofNat_sub h]
  rfl
theorem int_n (a : Nat) : intD (ni a) = pure (ni a) := Eq.trans rfl rfl
theorem truth_n' (a : Nat) : truth (ni a) = pure (!(a == 0)) := by
  show (truth (.int (a : Int))) = _
  rw [truth_i]
  cases a <;> rfl
end DL
namespace DL
/-- a loop, its state by a code -/
theorem forL_by {A α Z B : Type} {enc : A → Z} {to : α → D} {step : Z → D → M (Out Z Z)} {g : A → α → A} {P : List α → A → Prop} : ∀ (xs : List α) (a : A), P xs a →
    (∀ a x r, P (x :: r) a → x ∈ xs → step (enc a) (to x) = pure (.nx (enc (g a x))) ∧ P r (g a x)) → (forL step (enc a) (xs.map to) : M (Out Z B)) = pure (.nx (enc (xs.foldl g a))) ∧ P [] (xs.foldl g a)
  | [], a, ha, _ => ⟨rfl, ha⟩
  | x :: r, a, ha, h => by
    obtain ⟨h1, h2⟩ := h a x r ha List.mem_cons_self
    have ih := forL_by (B := B) (enc := enc) (to := to) (step := step) (g := g) (P := P) r (g a x) h2 fun a y t hp hy => h a y t hp (List.mem_cons_of_mem _ hy)
    refine ⟨?_, ih.2⟩
    rw [List.map_cons]
    unfold forL
    rw [h1, pure_bind']
    exact ih.1
theorem uniqI_len : ∀ l : List Int, (uniqI l).length ≤ l.length
  | [] => Nat.le_refl _
  | x :: r => by
    unfold uniqI
    have := uniqI_len r
    split
    · rw [List.length_cons]; omega
    · rw [List.length_cons, List.length_cons]; omega
end DL
namespace DL
theorem all_b (xs : List Nat) (p : Nat → Bool) : allD (.lst ((xs.map p).map .bl)) = pure (.bl (xs.all p)) := by
  rw [all_bools, List.all_map]
  rfl
theorem any_b (xs : List Nat) (p : Nat → Bool) : anyD (.lst ((xs.map p).map .bl)) = pure (.bl (xs.any p)) := by
  rw [any_bools, List.any_map]
  rfl
end DL
namespace DL
theorem addI_nn (a b : Nat) : addI (ni a) (ni b) = pure (ni (a + b)) := by
  show (pure (.int ((a : Int) + (b : Int))) : M D) = _
  rw [← Int.natCast_add]
  rfl
theorem bit_truth (x t : Nat) : (!(x / 2 ^ t &&& 1 == 0)) = x.testBit t := by
  rw [and_1, bit_eq]
  cases x.testBit t <;> rfl
theorem app_en {l : List Nat} {a : Nat} (h : l.length < 2 ^ 24) : appL (en l) (ni a) = pure (.lst (en (l ++ [a]))) := by
  rw [app_ok _ _ (by rw [en_len]; exact h), en_app]
  rfl
theorem ext_ok {ds es : List D} (h : ds.length + es.length ≤ 2 ^ 24) : extL ds (.lst es) = pure (.lst (ds ++ es)) := if_pos h
theorem ext_en {l m : List Nat} (h : l.length + m.length ≤ 2 ^ 24) : extL (en l) (.lst (en m)) = pure (.lst (en (l ++ m))) := by
  rw [ext_ok (by rw [en_len, en_len]; exact h), en_app]
end DL
namespace DL
theorem forL_go {A α Z B R : Type} {enc : A → Z} {to : α → D} {step : Z → D → M (Out Z Z)} {g : A → α → A} {P : List α → A → Prop} {k : Out Z B → M R} {r : M R} (xs : List α) (a : A) (hp : P xs a)
    (h : ∀ a x r, P (x :: r) a → x ∈ xs → step (enc a) (to x) = pure (.nx (enc (g a x))) ∧ P r (g a x)) (q : P [] (xs.foldl g a) → k (.nx (enc (xs.foldl g a))) = r) : (forL step (enc a) (xs.map to) >>= k) = r := by
  have key := forL_by (B := B) xs a hp h
  rw [key.1, pure_bind']
  exact q key.2
end DL
namespace DL
/-- a loop that gives the first one -/
theorem forL_find {step : Unit → D → M (Out Unit Unit)} {p : Nat → Bool} {g : Nat → D} : ∀ (xs : List Nat), (∀ x ∈ xs, step () (ni x) = pure (if p x = true then .rt (g x) else .nx ())) → (forL step () (en xs) : M (Out Unit Unit)) = pure (match xs.find? p with
    | some x => .rt (g x)
    | none => .nx ())
  | [], _ => rfl
  | x :: r, h => by
    show forL step () (ni x :: en r) = _
    unfold forL
    rw [h x List.mem_cons_self, pure_bind', List.find?_cons]
    by_cases z : p x = true
    · rw [if_pos z, z]
    · rw [if_neg z, Bool.not_eq_true _ |>.mp z]
      exact forL_find r fun y hy => h y (List.mem_cons_of_mem _ hy)
end DL
namespace DL
/-- a while loop; n tells how many turns are left at most -/
theorem wp_while {Z B : Type} {t : Z → M Bool} {step : Z → M (Out Z Z)} {Q : Out Z B → Store → Prop} (I : Nat → Z → Store → Prop)
    (h : ∀ n z s, I n z s → Wp (t z) s fun b s' => if b = true then Wp (step z) s' fun o s'' => match o with
      | .nx z' => ∃ m, m < n ∧ I m z' s''
      | .ct z' => ∃ m, m < n ∧ I m z' s''
      | .bk z' => Q (.nx z') s''
      | .rt d => Q (.rt d) s''
    else Q (.nx z) s') : ∀ (fuel n : Nat) (z : Z) (s : Store), I n z s → n < fuel → Wp (whileL t step fuel z) s Q
  | 0, n, z, s, _, hn => by omega
  | fuel + 1, n, z, s, i, hn => by
    unfold whileL
    refine wp_bind (wp_imp (h n z s i) fun b s' q => ?_)
    by_cases e : b = true
    · rw [if_pos e] at q ⊢
      refine wp_bind (wp_imp q fun o s'' q2 => ?_)
      cases o with
      | nx z' =>
        obtain ⟨m, l, j⟩ := q2
        exact wp_while I h fuel m z' s'' j (by omega)
      | ct z' =>
        obtain ⟨m, l, j⟩ := q2
        exact wp_while I h fuel m z' s'' j (by omega)
      | bk z' => exact ⟨q2⟩
      | rt d => exact ⟨q2⟩
    · rw [if_neg e] at q ⊢
      exact ⟨q⟩
end DL
namespace DL
theorem sl1 {i : Nat} {r : List Nat} : slL (some 1) none (.lst (en (i :: r))) = pure (.lst (en r)) := by
  show (pure (.lst (cut (en (i :: r)) (some 1) none)) : M D) = _
  unfold cut
  rw [HT.sIx_none, show HT.sIx (en (i :: r)).length 0 (some 1) = min 1 (en (i :: r)).length from HT.sIx_nat _ _ 1]
  rw [en_len, List.length_cons, show min 1 (r.length + 1) = 1 by omega]
  show (pure (.lst (((en r).take _))) : M D) = _
  rw [List.take_of_length_le (by rw [en_len]; omega)]
end DL
namespace DL
theorem at_row {N k : Nat} {f : Nat → Bool} (h : k < N) : ixD (.lst (((List.range N).map f).map .bl)) (ni k) = pure (.bl (f k)) := by
  show ixL _ (k : Int) = _
  unfold ixL
  have hg : (((List.range N).map f).map D.bl)[k]? = some (.bl (f k)) := by
    rw [List.getElem?_map, List.getElem?_map, List.getElem?_range h]
    rfl
  rw [show L2.atI (((List.range N).map f).map D.bl) (k : Int) = some (.bl (f k)) from L2.atI_nat hg]
theorem len_row {N : Nat} {f : Nat → Bool} : lenD (.lst (((List.range N).map f).map .bl)) = pure (ni N) := by
  rw [len_l, List.length_map, List.length_map, List.length_range, ni]
theorem Sh.row {n : Nat} (l : List Bool) : Sh (n + 1) (.lst (l.map .bl)) := Sh.lst fun x hx => by
  obtain ⟨m, _, rfl⟩ := List.mem_map.mp hx
  exact Sh.bl
end DL
namespace DL
theorem intM_n (k : Nat) : intM (ni k) = pure (some (k : Int)) := Eq.trans rfl rfl
theorem cut_hi {α : Type} (l : List α) (k : Nat) : cut l none (some (k : Int)) = l.take k := by
  unfold cut
  rw [HT.sIx_none, show HT.sIx l.length l.length (some (k : Int)) = min k l.length from HT.sIx_nat _ _ k, List.drop_zero, Nat.sub_zero]
  by_cases h : k ≤ l.length
  · rw [Nat.min_eq_left h]
  · rw [Nat.min_eq_right (by omega), List.take_of_length_le (Nat.le_refl _), List.take_of_length_le (by omega)]
theorem cut_lo {α : Type} (l : List α) (k : Nat) : cut l (some (k : Int)) none = l.drop k := by
  unfold cut
  rw [HT.sIx_none, show HT.sIx l.length 0 (some (k : Int)) = min k l.length from HT.sIx_nat _ _ k, List.take_of_length_le (by rw [List.length_drop]; omega)]
  by_cases h : k ≤ l.length
  · rw [Nat.min_eq_left h]
  · rw [Nat.min_eq_right (by omega), List.drop_of_length_le (Nat.le_refl _), List.drop_of_length_le (by omega)]
theorem slT_hi (l : List Nat) (k : Nat) : slT none (some (k : Int)) (.tup (en l)) = pure (.tup (en (l.take k))) := by
  show (pure (.tup (cut (en l) none (some (k : Int)))) : M D) = _
  rw [cut_hi]
  unfold en
  rw [List.map_take]
theorem slT_lo (l : List Nat) (k : Nat) : slT (some (k : Int)) none (.tup (en l)) = pure (.tup (en (l.drop k))) := by
  show (pure (.tup (cut (en l) (some (k : Int)) none)) : M D) = _
  rw [cut_lo]
  unfold en
  rw [List.map_drop]
theorem mul_nn {a b : Nat} (h : a < 2 ^ 64) : mulD (ni a) (ni b) = pure (ni (a * b)) := by
  show mulD (.int a) (.int b) = _
  rw [mul_ii _ _ (.inl (by omega)), ← Int.natCast_mul]
  rfl
theorem Drw.snoc {n : Nat} {rest s : Store} (h : Drw n rest s) (C : Cell) : Drw n (rest ++ [C]) (s ++ [C]) := by
  obtain ⟨ns, t, rfl, a, b, d⟩ := h
  exact ⟨ns, t, rfl, a, b, d⟩
end DL
/-! ### sets as numbers, least sets, crossing sets -/
namespace Bd
open DL
/-- what is in the one, not in the other -/
def sdf (a b : Nat) : Nat := a ^^^ (a &&& b)
theorem sdf_bit (a b i : Nat) : (sdf a b).testBit i = (a.testBit i && !b.testBit i) := by
  unfold sdf
  rw [Nat.testBit_xor, Nat.testBit_and]
  cases a.testBit i <;> cases b.testBit i <;> rfl
def Sub (a b : Nat) : Prop := ∀ i, a.testBit i = true → b.testBit i = true
def sub (a b : Nat) : Bool := sdf a b == 0
theorem zero_iff {a : Nat} : a = 0 ↔ ∀ i, a.testBit i = false := ⟨fun h i => by rw [h, Nat.zero_testBit], fun h => Nat.eq_of_testBit_eq fun i => by rw [h i, Nat.zero_testBit]⟩
theorem sub_iff {a b : Nat} : sub a b = true ↔ Sub a b := by
  unfold sub
  rw [beq_iff_eq, zero_iff]
  constructor
  · intro h i hi
    have := h i
    rw [sdf_bit, hi] at this
    cases e : b.testBit i
    · rw [e] at this; cases this
    · rfl
  · intro h i
    rw [sdf_bit]
    cases e : a.testBit i
    · rfl
    · rw [h i e]; rfl
def meet (a b : Nat) : Bool := !(a &&& b == 0)
theorem meet_iff {a b : Nat} : meet a b = true ↔ ∃ i, a.testBit i = true ∧ b.testBit i = true := by
  unfold meet
  constructor
  · intro h
    refine Classical.byContradiction fun z => ?_
    have : a &&& b = 0 := zero_iff.mpr fun i => by
      rw [Nat.testBit_and]
      cases ha : a.testBit i
      · rfl
      · cases hb : b.testBit i
        · rfl
        · exact (z ⟨i, ha, hb⟩).elim
    rw [this] at h
    cases h
  · rintro ⟨i, ha, hb⟩
    cases h : (a &&& b == 0)
    · rfl
    · have := zero_iff.mp (beq_iff_eq.mp h) i
      rw [Nat.testBit_and, ha, hb] at this
      cases this
theorem Sub.refl (a : Nat) : Sub a a := fun _ h => h
theorem Sub.trans {a b c : Nat} (h : Sub a b) (k : Sub b c) : Sub a c := fun i x => k i (h i x)
theorem Sub.anti {a b : Nat} (h : Sub a b) (k : Sub b a) : a = b := Nat.eq_of_testBit_eq fun i => by
  cases e : a.testBit i
  · cases f : b.testBit i
    · rfl
    · rw [k i f] at e; cases e
  · rw [h i e]
theorem Sub.le {a b : Nat} (h : Sub a b) : a ≤ b := by
  have : a = a &&& b := Nat.eq_of_testBit_eq fun i => by
    rw [Nat.testBit_and]
    cases e : a.testBit i
    · rfl
    · rw [h i e]; rfl
  rw [this]
  exact Nat.and_le_right
theorem sub_lt {a b c : Nat} (h : Sub a b) (k : b < 2 ^ c) : a < 2 ^ c := Nat.lt_of_le_of_lt h.le k
theorem zero_sub (a : Nat) : Sub 0 a := fun i h => by rw [Nat.zero_testBit] at h; cases h
theorem or_bit (a b i : Nat) : (a ||| b).testBit i = (a.testBit i || b.testBit i) := Nat.testBit_or a b i
theorem or_sub {a b c : Nat} : Sub (a ||| b) c ↔ Sub a c ∧ Sub b c := by
  constructor
  · intro h
    exact ⟨fun i x => h i (by rw [or_bit, x]; rfl), fun i x => h i (by rw [or_bit, x, Bool.or_true])⟩
  · rintro ⟨h, k⟩ i x
    rw [or_bit, Bool.or_eq_true] at x
    exact x.elim (h i) (k i)
theorem sub_orL (a b : Nat) : Sub a (a ||| b) := (or_sub.mp (Sub.refl _)).1
theorem sub_orR (a b : Nat) : Sub b (a ||| b) := (or_sub.mp (Sub.refl _)).2
theorem pow_bit (k i : Nat) : (2 ^ k).testBit i = decide (k = i) := Nat.testBit_two_pow
/-- Meets -/
def Meets (a b : Nat) : Prop := ∃ i, a.testBit i = true ∧ b.testBit i = true
theorem Meets.symm {a b : Nat} (h : Meets a b) : Meets b a := by obtain ⟨i, x, y⟩ := h; exact ⟨i, y, x⟩
theorem Meets.mono {a b c : Nat} (h : Meets a b) (k : Sub a c) : Meets c b := by obtain ⟨i, x, y⟩ := h; exact ⟨i, k i x, y⟩
/-- all but these, of c things -/
def co (c x : Nat) : Nat := sdf (2 ^ c - 1) x
theorem co_bit (c x i : Nat) : (co c x).testBit i = (decide (i < c) && !x.testBit i) := by
  unfold co
  rw [sdf_bit, Nat.testBit_two_pow_sub_one]
theorem co_lt (c x : Nat) : co c x < 2 ^ c := by
  have : Sub (co c x) (2 ^ c - 1) := fun i h => by
    unfold co at h
    rw [sdf_bit, Bool.and_eq_true] at h
    exact h.1
  have := this.le
  have := Nat.two_pow_pos c
  omega
theorem bit_lt {x c i : Nat} (h : x < 2 ^ c) (k : x.testBit i = true) : i < c := by
  refine Classical.byContradiction fun z => ?_
  rw [Nat.testBit_lt_two_pow (Nat.lt_of_lt_of_le h (Nat.pow_le_pow_right (by omega) (by omega)))] at k
  cases k
theorem co_co {c x : Nat} (h : x < 2 ^ c) : co c (co c x) = x := Nat.eq_of_testBit_eq fun i => by
  rw [co_bit, co_bit]
  by_cases z : i < c
  · rw [decide_eq_true z, Bool.true_and, Bool.true_and, Bool.not_not]
  · rw [decide_eq_false z]
    cases e : x.testBit i
    · rfl
    · exact (z (bit_lt h e)).elim
/-- a set lies within what another leaves out just if they do not meet -/
theorem sub_co {c a b : Nat} (h : a < 2 ^ c) : Sub a (co c b) ↔ ¬ Meets a b := by
  constructor
  · rintro k ⟨i, x, y⟩
    have := k i x
    rw [co_bit, y, Bool.not_true, Bool.and_false] at this
    cases this
  · intro k i x
    rw [co_bit, decide_eq_true (bit_lt h x), Bool.true_and]
    cases e : b.testBit i
    · rfl
    · exact (k ⟨i, x, e⟩).elim
theorem meets_co {c a b : Nat} (h : a < 2 ^ c) : Meets a (co c b) ↔ ¬ Sub a b := by
  constructor
  · rintro ⟨i, x, y⟩ k
    rw [co_bit, k i x, Bool.not_true, Bool.and_false] at y
    cases y
  · intro k
    refine Classical.byContradiction fun z => k fun i x => ?_
    refine Classical.byContradiction fun q => z ⟨i, x, ?_⟩
    rw [co_bit, decide_eq_true (bit_lt h x)]
    cases e : b.testBit i
    · rfl
    · exact (q e).elim
theorem co_mono {c a b : Nat} (h : Sub a b) : Sub (co c b) (co c a) := fun i x => by
  rw [co_bit, Bool.and_eq_true] at x
  rw [co_bit, x.1]
  cases e : a.testBit i
  · rfl
  · rw [h i e] at x; cases x.2
/-! ### ascending lists, least ones -/
def usort (l : List Nat) : List Nat := (ssort (l.map fun (n : Nat) => (n : Int))).map Int.toNat
theorem usort_cast (l : List Nat) : (usort l).map (fun (n : Nat) => (n : Int)) = ssort (l.map fun (n : Nat) => (n : Int)) := by
  unfold usort
  rw [List.map_map]
  refine (List.map_congr_left (g := id) fun x hx => ?_).trans (List.map_id _)
  obtain ⟨n, _, rfl⟩ := List.mem_map.mp (ssort_mem.mp hx)
  rfl
theorem usort_mem {l : List Nat} {x : Nat} : x ∈ usort l ↔ x ∈ l := by
  constructor
  · intro h
    obtain ⟨i, hi, rfl⟩ := List.mem_map.mp h
    obtain ⟨n, hn, rfl⟩ := List.mem_map.mp (ssort_mem.mp hi)
    exact hn
  · intro h
    exact List.mem_map.mpr ⟨(x : Int), ssort_mem.mpr (List.mem_map.mpr ⟨x, h, rfl⟩), rfl⟩
def Asc (l : List Nat) : Prop := l.Pairwise (· < ·)
theorem usort_asc (l : List Nat) : Asc (usort l) := by
  have h := ssort_lt (l.map fun (n : Nat) => (n : Int))
  rw [← usort_cast] at h
  rw [List.pairwise_map] at h
  exact h.imp fun k => by omega
theorem asc_eq {a b : List Nat} (ha : Asc a) (hb : Asc b) (h : ∀ x, x ∈ a ↔ x ∈ b) : a = b := by
  have h1 : (a.map fun (n : Nat) => (n : Int)) = b.map fun (n : Nat) => (n : Int) := by
    refine lt_unique ?_ ?_ fun x => ?_
    · rw [List.pairwise_map]; exact ha.imp fun k => by omega
    · rw [List.pairwise_map]; exact hb.imp fun k => by omega
    · constructor
      · intro q
        obtain ⟨n, hn, rfl⟩ := List.mem_map.mp q
        exact List.mem_map.mpr ⟨n, (h n).mp hn, rfl⟩
      · intro q
        obtain ⟨n, hn, rfl⟩ := List.mem_map.mp q
        exact List.mem_map.mpr ⟨n, (h n).mpr hn, rfl⟩
  have := congrArg (List.map Int.toNat) h1
  rw [List.map_map, List.map_map] at this
  simpa [Function.comp_def] using this
theorem usort_id {l : List Nat} (h : Asc l) : usort l = l := asc_eq (usort_asc l) h fun _ => usort_mem
theorem Asc.nodup {l : List Nat} (h : Asc l) : l.Nodup := List.nodup_iff_pairwise_ne.mpr (h.imp fun k => by omega)
/-- no more than the numbers there are -/
theorem asc_lenF {n : Nat} : ∀ (l : List Nat) (m : Nat), Asc l → (∀ x ∈ l, m ≤ x ∧ x < n) → m ≤ n → l.length + m ≤ n
  | [], m, _, _, h => by rw [List.length_nil]; omega
  | x :: r, m, h, k, _ => by
    have h1 := k x List.mem_cons_self
    have h2 := List.pairwise_cons.mp h
    have := asc_lenF r (x + 1) h2.2 (fun y hy => ⟨h2.1 y hy, (k y (List.mem_cons_of_mem _ hy)).2⟩) (by omega)
    rw [List.length_cons]
    omega
theorem asc_len {l : List Nat} {n : Nat} (h : Asc l) (k : ∀ x ∈ l, x < n) : l.length ≤ n := by
  have := asc_lenF l 0 h (fun x hx => ⟨Nat.zero_le x, k x hx⟩) (Nat.zero_le n)
  omega
def least (l : List Nat) : List Nat := (usort l).filter fun x => !((usort l).any fun y => !(y == x) && sub y x)
def Brd (l : List Nat) : Prop := Asc l ∧ ∀ a ∈ l, ∀ b ∈ l, Sub a b → a = b
def Up (l : List Nat) (x : Nat) : Prop := ∃ t ∈ l, Sub t x
def up (l : List Nat) (x : Nat) : Bool := l.any fun t => sub t x
theorem up_iff {l : List Nat} {x : Nat} : up l x = true ↔ Up l x := by
  unfold up Up
  rw [List.any_eq_true]
  constructor
  · rintro ⟨t, h, k⟩; exact ⟨t, h, sub_iff.mp k⟩
  · rintro ⟨t, h, k⟩; exact ⟨t, h, sub_iff.mpr k⟩
theorem Up.mono {l : List Nat} {x y : Nat} (h : Up l x) (k : Sub x y) : Up l y := by
  obtain ⟨t, a, b⟩ := h
  exact ⟨t, a, b.trans k⟩
theorem least_mem {l : List Nat} {x : Nat} : x ∈ least l ↔ x ∈ l ∧ ∀ y ∈ l, Sub y x → y = x := by
  unfold least
  rw [List.mem_filter, usort_mem, Bool.not_eq_true', List.any_eq_false]
  refine and_congr_right fun _ => ?_
  constructor
  · intro h y hy k
    have := h y (usort_mem.mpr hy)
    rw [Bool.and_eq_true, sub_iff] at this
    refine Classical.byContradiction fun z => this ⟨?_, k⟩
    rw [Bool.not_eq_true', beq_eq_false_iff_ne]
    exact z
  · intro h y hy k
    rw [Bool.and_eq_true, sub_iff] at k
    have := h y (usort_mem.mp hy) k.2
    rw [this, beq_self_eq_true] at k
    cases k.1
theorem least_sub {l : List Nat} {x : Nat} (h : x ∈ least l) : x ∈ l := (least_mem.mp h).1
theorem least_brd (l : List Nat) : Brd (least l) :=
  ⟨List.Pairwise.filter _ (usort_asc l), fun a ha b hb k => (least_mem.mp hb).2 a (least_sub ha) k⟩
theorem least_below {l : List Nat} : ∀ (n x : Nat), x ≤ n → x ∈ l → ∃ t ∈ least l, Sub t x
  | n, x, hn, hx => by
    by_cases h : ∀ y ∈ l, Sub y x → y = x
    · exact ⟨x, least_mem.mpr ⟨hx, h⟩, Sub.refl x⟩
    · obtain ⟨y, hy⟩ := Classical.not_forall.mp h
      obtain ⟨h1, h2⟩ := Classical.not_imp.mp hy
      obtain ⟨h3, h4⟩ := Classical.not_imp.mp h2
      have h5 := h3.le
      obtain ⟨t, ht, k⟩ := least_below y y (Nat.le_refl y) h1
      exact ⟨t, ht, k.trans h3⟩
termination_by n x => x
decreasing_by omega
theorem least_up {l : List Nat} {x : Nat} : Up (least l) x ↔ Up l x := by
  constructor
  · rintro ⟨t, h, k⟩
    exact ⟨t, least_sub h, k⟩
  · rintro ⟨t, h, k⟩
    obtain ⟨u, hu, q⟩ := least_below t t (Nat.le_refl t) h
    exact ⟨u, hu, q.trans k⟩
/-- a border is known by what it makes true -/
theorem brd_sub {a b : List Nat} (ha : Brd a) (h : ∀ x, Up a x ↔ Up b x) {x : Nat} (hx : x ∈ a) : x ∈ b := by
  obtain ⟨u, hu, k⟩ := (h x).mp ⟨x, hx, Sub.refl x⟩
  obtain ⟨t, ht, q⟩ := (h u).mpr ⟨u, hu, Sub.refl u⟩
  have := ha.2 t ht x hx (q.trans k)
  subst this
  rwa [q.anti k]
theorem brd_eq {a b : List Nat} (ha : Brd a) (hb : Brd b) (h : ∀ x, Up a x ↔ Up b x) : a = b :=
  asc_eq ha.1 hb.1 fun _ => ⟨brd_sub ha h, brd_sub hb fun x => (h x).symm⟩
/-- .. of c things -/
theorem brd_eqc {c : Nat} {a b : List Nat} (ha : Brd a) (hb : Brd b) (la : ∀ x ∈ a, x < 2 ^ c) (lb : ∀ x ∈ b, x < 2 ^ c) (h : ∀ x, x < 2 ^ c → (Up a x ↔ Up b x)) : a = b := by
  have key : ∀ {l : List Nat} (_ : ∀ x ∈ l, x < 2 ^ c) (x : Nat), Up l x ↔ Up l (x &&& (2 ^ c - 1)) := by
    intro l hl x
    constructor
    · rintro ⟨t, ht, k⟩
      refine ⟨t, ht, fun i hi => ?_⟩
      rw [Nat.testBit_and, k i hi, Nat.testBit_two_pow_sub_one, decide_eq_true (bit_lt (hl t ht) hi)]
      rfl
    · intro k
      refine k.mono fun i hi => ?_
      rw [Nat.testBit_and, Bool.and_eq_true] at hi
      exact hi.1
  refine brd_eq ha hb fun x => ?_
  rw [key la, key lb]
  refine h _ ?_
  have := @Nat.and_le_right x (2 ^ c - 1)
  have := Nat.two_pow_pos c
  omega
theorem least_id {l : List Nat} (h : Brd l) : least l = l := brd_eq (least_brd l) h fun _ => least_up
theorem least_congr {a b : List Nat} (h : ∀ x, Up a x ↔ Up b x) : least a = least b := brd_eq (least_brd a) (least_brd b) fun x => by rw [least_up, least_up, h]
theorem brd_sublist {a b : List Nat} (h : Brd b) (k : a.Sublist b) : Brd a := ⟨List.Pairwise.sublist k h.1, fun x hx y hy => h.2 x (k.subset hx) y (k.subset hy)⟩
/-! ### crossing sets -/
def things (x : Nat) : List Nat := (List.range x.log2.succ).filter x.testBit
theorem things_mem {x i : Nat} : i ∈ things x ↔ x.testBit i = true := by
  unfold things
  rw [List.mem_filter, List.mem_range]
  refine ⟨fun h => h.2, fun h => ⟨?_, h⟩⟩
  have hx : x ≠ 0 := fun z => by rw [z, Nat.zero_testBit] at h; cases h
  refine bit_lt ?_ h
  exact (Nat.log2_lt hx).mp (Nat.lt_succ_self _)
def cstep (found : List Nat) (one : Nat) : List Nat := least (found.foldl (fun rows row => if meet row one = true then rows ++ [row] else rows ++ (things one).map fun thing => row ||| 2 ^ thing) [])
def crossing (sets : List Nat) : List Nat := sets.foldl cstep [0]
def Tr (sets : List Nat) (x : Nat) : Prop := ∀ s ∈ sets, Meets x s
theorem cfold_mem {one y : Nat} : ∀ (found acc : List Nat), y ∈ found.foldl (fun rows row => if meet row one = true then rows ++ [row] else rows ++ (things one).map fun thing => row ||| 2 ^ thing) acc ↔ y ∈ acc ∨ ∃ row ∈ found, if meet row one = true then y = row else ∃ i, one.testBit i = true ∧ y = row ||| 2 ^ i
  | [], acc => by simp
  | r :: found, acc => by
    rw [List.foldl_cons, cfold_mem found]
    simp only [List.mem_cons, exists_eq_or_imp]
    by_cases h : meet r one = true
    · rw [if_pos h, if_pos h, List.mem_append, List.mem_singleton, or_assoc]
    · rw [if_neg h, if_neg h, List.mem_append, List.mem_map, or_assoc]
      refine or_congr Iff.rfl (or_congr ?_ Iff.rfl)
      constructor
      · rintro ⟨i, hi, e⟩; exact ⟨i, things_mem.mp hi, e.symm⟩
      · rintro ⟨i, hi, e⟩; exact ⟨i, things_mem.mpr hi, e.symm⟩
theorem cstep_up {found : List Nat} {one x : Nat} : Up (cstep found one) x ↔ Up found x ∧ Meets x one := by
  unfold cstep
  rw [least_up]
  constructor
  · rintro ⟨t, h, k⟩
    obtain h | ⟨row, hr, h⟩ := (cfold_mem found []).mp h
    · cases h
    · by_cases z : meet row one = true
      · rw [if_pos z] at h
        subst h
        exact ⟨⟨t, hr, k⟩, (Meets.mono (meet_iff.mp z) k)⟩
      · rw [if_neg z] at h
        obtain ⟨i, hi, rfl⟩ := h
        obtain ⟨k1, k2⟩ := or_sub.mp k
        exact ⟨⟨row, hr, k1⟩, i, k2 i (by rw [pow_bit, decide_eq_true rfl]), hi⟩
  · rintro ⟨⟨row, hr, k⟩, m⟩
    by_cases z : meet row one = true
    · exact ⟨row, (cfold_mem found []).mpr (.inr ⟨row, hr, by rw [if_pos z]⟩), k⟩
    · obtain ⟨i, x1, x2⟩ := m
      refine ⟨row ||| 2 ^ i, (cfold_mem found []).mpr (.inr ⟨row, hr, by rw [if_neg z]; exact ⟨i, x2, rfl⟩⟩), or_sub.mpr ⟨k, fun j hj => ?_⟩⟩
      rw [pow_bit, decide_eq_true_eq] at hj
      subst hj
      exact x1
theorem cfold_up {x : Nat} : ∀ (sets found : List Nat), Up (sets.foldl cstep found) x ↔ Up found x ∧ Tr sets x
  | [], found => ⟨fun h => ⟨h, fun _ q => by cases q⟩, fun h => h.1⟩
  | s :: sets, found => by
    rw [List.foldl_cons, cfold_up sets, cstep_up, and_assoc]
    refine and_congr_right fun _ => ?_
    constructor
    · rintro ⟨a, b⟩ t ht
      rcases List.mem_cons.mp ht with rfl | ht
      · exact a
      · exact b t ht
    · intro h
      exact ⟨h s List.mem_cons_self, fun t ht => h t (List.mem_cons_of_mem _ ht)⟩
theorem crossing_up {sets : List Nat} {x : Nat} : Up (crossing sets) x ↔ Tr sets x := by
  unfold crossing
  rw [cfold_up]
  exact ⟨fun h => h.2, fun h => ⟨⟨0, List.mem_singleton.mpr rfl, zero_sub x⟩, h⟩⟩
theorem brd0 : Brd [0] := ⟨List.pairwise_singleton _ _, fun a ha b hb _ => by rw [List.mem_singleton.mp ha, List.mem_singleton.mp hb]⟩
theorem cfold_brd : ∀ (sets found : List Nat), Brd found → Brd (sets.foldl cstep found)
  | [], _, h => h
  | s :: sets, found, _ => cfold_brd sets (cstep found s) (least_brd _)
theorem crossing_brd (sets : List Nat) : Brd (crossing sets) := cfold_brd sets [0] brd0
theorem cstep_lt {c : Nat} {found : List Nat} {one : Nat} (h : ∀ x ∈ found, x < 2 ^ c) (k : one < 2 ^ c) : ∀ x ∈ cstep found one, x < 2 ^ c := fun x hx => by
  unfold cstep at hx
  obtain q | ⟨row, hr, q⟩ := (cfold_mem found []).mp (least_sub hx)
  · cases q
  · by_cases z : meet row one = true
    · rw [if_pos z] at q
      rw [q]; exact h row hr
    · rw [if_neg z] at q
      obtain ⟨i, hi, rfl⟩ := q
      exact Nat.or_lt_two_pow (h row hr) (Nat.pow_lt_pow_right (by omega) (bit_lt k hi))
theorem cfold_lt {c : Nat} : ∀ (sets found : List Nat), (∀ x ∈ found, x < 2 ^ c) → (∀ x ∈ sets, x < 2 ^ c) → ∀ x ∈ sets.foldl cstep found, x < 2 ^ c
  | [], _, h, _ => h
  | s :: sets, found, h, k => cfold_lt sets (cstep found s) (cstep_lt h (k s List.mem_cons_self)) fun x hx => k x (List.mem_cons_of_mem _ hx)
theorem crossing_lt {c : Nat} {sets : List Nat} (k : ∀ x ∈ sets, x < 2 ^ c) : ∀ x ∈ crossing sets, x < 2 ^ c :=
  cfold_lt sets [0] (fun x hx => by rw [List.mem_singleton.mp hx]; exact Nat.two_pow_pos c) k
theorem tr_mono {sets : List Nat} {x y : Nat} (h : Tr sets x) (k : Sub x y) : Tr sets y := fun s hs => (h s hs).mono k
/-- crossing twice -/
theorem tr_tr {c : Nat} {sets : List Nat} (k : ∀ x ∈ sets, x < 2 ^ c) {x : Nat} : Tr (crossing sets) x ↔ Up sets x := by
  constructor
  · intro h
    refine Classical.byContradiction fun z => ?_
    have t : Tr sets (co c x) := fun s hs => (meets_co (k s hs)).mpr (fun q => z ⟨s, hs, q⟩) |>.symm
    obtain ⟨s, hs, q⟩ := crossing_up.mpr t
    obtain ⟨i, a, b⟩ := h s hs
    have := q i b
    rw [co_bit, a, Bool.not_true, Bool.and_false] at this
    cases this
  · rintro ⟨t, ht, q⟩ s hs
    exact ((crossing_up.mp ⟨s, hs, Sub.refl s⟩ t ht).symm).mono q
theorem crossing_two {c : Nat} {sets : List Nat} (hb : Brd sets) (k : ∀ x ∈ sets, x < 2 ^ c) : crossing (crossing sets) = sets :=
  brd_eq (crossing_brd _) hb fun x => by rw [crossing_up, tr_tr k]
/-- what crosses, by what is true -/
theorem tr_up {sets : List Nat} {x : Nat} : Tr sets x ↔ ∀ y, Up sets y → Meets x y := by
  constructor
  · rintro h y ⟨t, ht, k⟩
    exact ((h t ht).symm.mono k).symm
  · intro h s hs
    exact h s ⟨s, hs, Sub.refl s⟩
theorem crossing_congr {a b : List Nat} (h : ∀ x, Up a x ↔ Up b x) : crossing a = crossing b :=
  brd_eq (crossing_brd _) (crossing_brd _) fun x => by
    rw [crossing_up, crossing_up, tr_up, tr_up]
    exact forall_congr' fun y => by rw [h]
theorem crossing_inj {c : Nat} {a b : List Nat} (ha : Brd a) (hb : Brd b) (la : ∀ x ∈ a, x < 2 ^ c) (lb : ∀ x ∈ b, x < 2 ^ c) (h : crossing a = crossing b) : a = b := by
  rw [← crossing_two ha la, ← crossing_two hb lb, h]
/-- sorted -/
def srt (l : List Nat) : List Nat := (isort (l.map fun (n : Nat) => (n : Int))).map Int.toNat
theorem srt_cast (l : List Nat) : (srt l).map (fun (n : Nat) => (n : Int)) = isort (l.map fun (n : Nat) => (n : Int)) := by
  unfold srt
  rw [List.map_map]
  refine (List.map_congr_left (g := id) fun x hx => ?_).trans (List.map_id _)
  obtain ⟨n, _, rfl⟩ := List.mem_map.mp ((isort_perm _).mem_iff.mp hx)
  rfl
theorem srt_perm (l : List Nat) : (srt l).Perm l := by
  have h := (isort_perm (l.map fun (n : Nat) => (n : Int))).map Int.toNat
  rw [List.map_map] at h
  exact h.trans (by rw [show (Int.toNat ∘ fun (n : Nat) => (n : Int)) = id from rfl, List.map_id])
theorem srt_mem {l : List Nat} {x : Nat} : x ∈ srt l ↔ x ∈ l := (srt_perm l).mem_iff
theorem srt_asc {l : List Nat} (h : l.Nodup) : Asc (srt l) := by
  have h1 : (srt l).Nodup := (srt_perm l).nodup_iff.mpr h
  have h2 := isort_sorted (l.map fun (n : Nat) => (n : Int))
  rw [← srt_cast, List.pairwise_map] at h2
  exact ((List.nodup_iff_pairwise_ne.mp h1).and h2).imp fun k => by
    have k1 := k.1
    have k2 := k.2
    omega
/-- the greatest false sets -/
def falses (c : Nat) (trues : List Nat) : List Nat := srt ((crossing trues).map (co c))
def Down (l : List Nat) (x : Nat) : Prop := ∃ t ∈ l, Sub x t
def down (l : List Nat) (x : Nat) : Bool := l.any fun t => sub x t
theorem down_iff {l : List Nat} {x : Nat} : down l x = true ↔ Down l x := by
  unfold down Down
  rw [List.any_eq_true]
  constructor
  · rintro ⟨t, h, k⟩; exact ⟨t, h, sub_iff.mp k⟩
  · rintro ⟨t, h, k⟩; exact ⟨t, h, sub_iff.mpr k⟩
theorem falses_mem {c : Nat} {trues : List Nat} {x : Nat} : x ∈ falses c trues ↔ ∃ s ∈ crossing trues, co c s = x := by
  unfold falses
  rw [srt_mem, List.mem_map]
theorem falses_lt {c : Nat} {trues : List Nat} : ∀ x ∈ falses c trues, x < 2 ^ c := fun x hx => by
  obtain ⟨s, _, rfl⟩ := falses_mem.mp hx
  exact co_lt c s
theorem falses_down {c : Nat} {trues : List Nat} (k : ∀ x ∈ trues, x < 2 ^ c) {x : Nat} (hx : x < 2 ^ c) : Down (falses c trues) x ↔ ¬ Up trues x := by
  rw [← tr_tr k]
  constructor
  · rintro ⟨f, hf, q⟩ t
    obtain ⟨s, hs, rfl⟩ := falses_mem.mp hf
    exact (sub_co hx).mp q (t s hs)
  · intro h
    refine Classical.byContradiction fun z => h fun s hs => Classical.byContradiction fun q => z ⟨co c s, falses_mem.mpr ⟨s, hs, rfl⟩, (sub_co hx).mpr q⟩
theorem co_inj {c a b : Nat} (ha : a < 2 ^ c) (hb : b < 2 ^ c) (h : co c a = co c b) : a = b := by rw [← co_co ha, ← co_co hb, h]
theorem falses_brd {c : Nat} {trues : List Nat} (k : ∀ x ∈ trues, x < 2 ^ c) : Brd (falses c trues) := by
  have l := crossing_lt k
  constructor
  · refine srt_asc ?_
    rw [List.nodup_iff_pairwise_ne, List.pairwise_map]
    have := (crossing_brd trues).1
    refine List.Pairwise.imp_of_mem (fun {a b} ha hb (q : a < b) e => ?_) this
    have := co_inj (l a ha) (l b hb) e
    omega
  · intro a ha b hb q
    obtain ⟨s, hs, rfl⟩ := falses_mem.mp ha
    obtain ⟨t, ht, rfl⟩ := falses_mem.mp hb
    have q2 := co_mono (c := c) q
    rw [co_co (l s hs), co_co (l t ht)] at q2
    rw [(crossing_brd trues).2 t ht s hs q2]
theorem falses_back {c : Nat} {trues : List Nat} (hb : Brd trues) (k : ∀ x ∈ trues, x < 2 ^ c) : crossing ((falses c trues).map (co c)) = trues := by
  have l := crossing_lt k
  have e : crossing ((falses c trues).map (co c)) = crossing (crossing trues) := crossing_congr fun x => by
    unfold Up
    constructor
    · rintro ⟨t, ht, q⟩
      obtain ⟨f, hf, rfl⟩ := List.mem_map.mp ht
      obtain ⟨s, hs, rfl⟩ := falses_mem.mp hf
      exact ⟨s, hs, by rwa [co_co (l s hs)] at q⟩
    · rintro ⟨t, ht, q⟩
      exact ⟨t, List.mem_map.mpr ⟨co c t, falses_mem.mpr ⟨t, ht, rfl⟩, co_co (l t ht)⟩, q⟩
  rw [e, crossing_two hb k]
theorem falses_inj {c : Nat} {a b : List Nat} (ha : Brd a) (hb : Brd b) (la : ∀ x ∈ a, x < 2 ^ c) (lb : ∀ x ∈ b, x < 2 ^ c) (h : falses c a = falses c b) : a = b := by
  rw [← falses_back ha la, ← falses_back hb lb, h]
/-! ### an asker for a border -/
structure Ask where
  t : List Nat
  f : List Nat
  asks : Nat
  here : Option Nat
  left : List Nat
  bit : Bool
def ans (t f : List Nat) (x : Nat) : Option Bool := if up t x = true then some true else if down f x = true then some false else none
def tried (h i : Nat) (b : Bool) : Nat := if b = true then sdf h (2 ^ i) else h ||| 2 ^ i
def goA (t f : List Nat) (asks : Nat) (b : Bool) : Nat → List Nat → Ask
  | h, [] => if b = true then ⟨srt (t ++ [h]), f, asks, none, [], b⟩ else ⟨t, srt (f ++ [h]), asks, none, [], b⟩
  | h, i :: r => match ans t f (tried h i b) with
    | none => ⟨t, f, asks, some h, i :: r, b⟩
    | some k => goA t f asks b (if k = b then tried h i b else h) r
theorem go_none {t f : List Nat} {asks : Nat} {b : Bool} {h i : Nat} {r : List Nat} (e : ans t f (tried h i b) = none) : goA t f asks b h (i :: r) = ⟨t, f, asks, some h, i :: r, b⟩ := by
  rw [goA, e]
theorem go_some {t f : List Nat} {asks : Nat} {b k : Bool} {h i : Nat} {r : List Nat} (e : ans t f (tried h i b) = some k) : goA t f asks b h (i :: r) = goA t f asks b (if k = b then tried h i b else h) r := by
  rw [goA, e]
def fo (c : Nat) (t f : List Nat) : Option Nat := (List.range (2 ^ c)).find? fun x => !(up t x) && !(down f x)
def stepA (c : Nat) (a : Ask) : Option Nat := match a.here with
  | some h => match a.left with
    | i :: _ => some (tried h i a.bit)
    | [] => none
  | none => fo c a.t a.f
def tellA (c : Nat) (a : Ask) (b : Bool) (x : Nat) : Ask := match a.here with
  | none => goA a.t a.f (a.asks + 1) b x (if b = true then things x else (List.range c).filter fun i => !(things x).contains i)
  | some h => goA a.t a.f (a.asks + 1) a.bit (if b = a.bit then x else h) a.left.tail
section
variable {c : Nat} {T : List Nat}
structure Known (c : Nat) (T t f : List Nat) : Prop where
  ta : Asc t
  ts : ∀ x ∈ t, x ∈ T
  fa : Asc f
  fs : ∀ x ∈ f, x ∈ falses c T
structure Here (c : Nat) (T t f : List Nat) (asks : Nat) (b : Bool) (h : Nat) (left : List Nat) : Prop where
  lt : h < 2 ^ c
  ok : up T h = b
  op : ans t f h = none
  ll : ∀ i ∈ left, i < c
  st : ∀ i, i < c → h.testBit i = b → i ∈ left ∨ up T (tried h i b) = !b
  few : asks + left.length ≤ (t.length + f.length) * (c + 1) + (c + 1)
  lc : left.length ≤ c
structure Inv (c : Nat) (T : List Nat) (a : Ask) : Prop where
  kn : Known c T a.t a.f
  no : a.here = none → a.asks ≤ (a.t.length + a.f.length) * (c + 1)
  yes : ∀ h, a.here = some h → Here c T a.t a.f a.asks a.bit h a.left ∧ ∃ i r, a.left = i :: r ∧ ans a.t a.f (tried h i a.bit) = none
theorem tried_lt {h i : Nat} {b : Bool} (l : h < 2 ^ c) (k : i < c) : tried h i b < 2 ^ c := by
  unfold tried
  by_cases z : b = true
  · rw [if_pos z]
    refine sub_lt (b := h) (fun j q => ?_) l
    rw [sdf_bit, Bool.and_eq_true] at q
    exact q.1
  · rw [if_neg z]
    exact Nat.or_lt_two_pow l (Nat.pow_lt_pow_right (by omega) k)
theorem tried_bit {h i j : Nat} {b : Bool} : (tried h i b).testBit j = if i = j then !b else h.testBit j := by
  unfold tried
  cases b
  · rw [if_neg (by decide), or_bit, pow_bit]
    by_cases z : i = j
    · rw [if_pos z, decide_eq_true z, Bool.or_true]; rfl
    · rw [if_neg z, decide_eq_false z, Bool.or_false]
  · rw [if_pos rfl, sdf_bit, pow_bit]
    by_cases z : i = j
    · rw [if_pos z, decide_eq_true z, Bool.not_true, Bool.and_false]
    · rw [if_neg z, decide_eq_false z, Bool.not_false, Bool.and_true]
theorem up_false {l : List Nat} {x : Nat} : up l x = false ↔ ¬ Up l x := by rw [← up_iff]; exact Bool.eq_false_iff
theorem down_false {l : List Nat} {x : Nat} : down l x = false ↔ ¬ Down l x := by rw [← down_iff]; exact Bool.eq_false_iff
theorem tried_mono {h i j : Nat} {b : Bool} (q : up T (tried h i b) = !b) : up T (tried (tried h j b) i b) = !b := by
  cases b
  · refine up_iff.mpr ((up_iff.mp q).mono fun k x => ?_)
    rw [tried_bit] at x ⊢
    rw [tried_bit]
    by_cases z : i = k
    · rw [if_pos z]; rfl
    · rw [if_neg z] at x ⊢
      by_cases y : j = k
      · rw [if_pos y]; rfl
      · rw [if_neg y]; exact x
  · refine up_false.mpr fun u => (up_false.mp q) (u.mono fun k x => ?_)
    rw [tried_bit] at x ⊢
    rw [tried_bit] at x
    by_cases z : i = k
    · rw [if_pos z] at x; cases x
    · rw [if_neg z] at x ⊢
      by_cases y : j = k
      · rw [if_pos y] at x; cases x
      · rw [if_neg y] at x; exact x
theorem ans_none {t f : List Nat} {x : Nat} : ans t f x = none ↔ ¬ Up t x ∧ ¬ Down f x := by
  unfold ans
  rw [← up_iff, ← down_iff]
  by_cases h : up t x = true
  · rw [if_pos h]
    exact ⟨fun z => (by cases z), fun z => (z.1 h).elim⟩
  · rw [if_neg h]
    by_cases k : down f x = true
    · rw [if_pos k]
      exact ⟨fun z => (by cases z), fun z => (z.2 k).elim⟩
    · rw [if_neg k]
      exact ⟨fun _ => ⟨h, k⟩, fun _ => rfl⟩
theorem up_of {t : List Nat} (ts : ∀ x ∈ t, x ∈ T) {x : Nat} (h : Up t x) : Up T x := by
  obtain ⟨u, hu, k⟩ := h
  exact ⟨u, ts u hu, k⟩
theorem not_up_of (kT : ∀ x ∈ T, x < 2 ^ c) {f : List Nat} (fs : ∀ x ∈ f, x ∈ falses c T) {x : Nat} (h : Down f x) : ¬ Up T x := by
  obtain ⟨u, hu, k⟩ := h
  have l := falses_lt u (fs u hu)
  exact (falses_down kT (sub_lt k l)).mp ⟨u, fs u hu, k⟩
/-- what is known is right -/
theorem ans_some (kT : ∀ x ∈ T, x < 2 ^ c) {t f : List Nat} (kn : Known c T t f) {x : Nat} {k : Bool} (h : ans t f x = some k) : up T x = k := by
  unfold ans at h
  by_cases z : up t x = true
  · rw [if_pos z] at h
    cases h
    exact up_iff.mpr (up_of kn.ts (up_iff.mp z))
  · rw [if_neg z] at h
    by_cases y : down f x = true
    · rw [if_pos y] at h
      cases h
      exact up_false.mpr (not_up_of kT kn.fs (down_iff.mp y))
    · rw [if_neg y] at h
      cases h
/-- .. and never what is tried by -/
theorem known_not {t f : List Nat} {h i : Nat} {b k : Bool} (op : ans t f h = none) (hk : ans t f (tried h i b) = some k) : k = !b := by
  obtain ⟨o1, o2⟩ := ans_none.mp op
  unfold ans at hk
  by_cases z : up t (tried h i b) = true
  · rw [if_pos z] at hk
    cases hk
    cases b
    · rfl
    · refine (o1 ((up_iff.mp z).mono fun j x => ?_)).elim
      rw [tried_bit] at x
      by_cases q : i = j
      · rw [if_pos q] at x; cases x
      · rw [if_neg q] at x; exact x
  · rw [if_neg z] at hk
    by_cases y : down f (tried h i b) = true
    · rw [if_pos y] at hk
      cases hk
      cases b
      · obtain ⟨u, hu, q⟩ := down_iff.mp y
        refine (o2 ⟨u, hu, Sub.trans (fun j x => ?_) q⟩).elim
        rw [tried_bit]
        by_cases w : i = j
        · rw [if_pos w]; rfl
        · rw [if_neg w]; exact x
      · rfl
    · rw [if_neg y] at hk
      cases hk
theorem add_true {t f : List Nat} {asks h : Nat} (kT : ∀ x ∈ T, x < 2 ^ c) (H : Here c T t f asks true h []) : h ∈ T := by
  obtain ⟨u, hu, k⟩ := up_iff.mp H.ok
  have : u = h := k.anti fun i x => by
    refine Classical.byContradiction fun z => ?_
    rcases H.st i (bit_lt H.lt x) x with q | q
    · cases q
    · refine (up_false.mp q) ⟨u, hu, fun j y => ?_⟩
      rw [tried_bit]
      by_cases w : i = j
      · subst w; exact (z y).elim
      · rw [if_neg w]; exact k j y
  rwa [← this]
theorem add_false {t f : List Nat} {asks h : Nat} (kT : ∀ x ∈ T, x < 2 ^ c) (H : Here c T t f asks false h []) : h ∈ falses c T := by
  obtain ⟨u, hu, k⟩ := (falses_down kT H.lt).mpr (up_false.mp H.ok)
  have lu := falses_lt u hu
  have : h = u := k.anti fun i x => by
    cases e : h.testBit i
    · rcases H.st i (bit_lt lu x) e with q | q
      · cases q
      · refine ((falses_down kT (tried_lt H.lt (bit_lt lu x))).mp ⟨u, hu, fun j y => ?_⟩ (up_iff.mp q)).elim
        rw [tried_bit] at y
        by_cases w : i = j
        · subst w; exact x
        · rw [if_neg w] at y; exact k j y
    · rfl
  rwa [this]
theorem go_inv (kT : ∀ x ∈ T, x < 2 ^ c) {t f : List Nat} {asks : Nat} {b : Bool} (kn : Known c T t f) : ∀ (left : List Nat) (h : Nat), Here c T t f asks b h left → Inv c T (goA t f asks b h left)
  | [], h, H => by
    have few := H.few
    obtain ⟨o1, o2⟩ := ans_none.mp H.op
    unfold goA
    by_cases z : b = true
    · subst z
      rw [if_pos rfl]
      have nd : (t ++ [h]).Nodup := List.nodup_append.mpr ⟨kn.ta.nodup, List.nodup_cons.mpr ⟨fun q => (by cases q), List.nodup_nil⟩, fun a ha b hb e => by
        rw [List.mem_singleton] at hb
        subst hb e
        exact o1 ⟨a, ha, Sub.refl a⟩⟩
      refine ⟨⟨srt_asc nd, fun x hx => ?_, kn.fa, kn.fs⟩, fun _ => ?_, fun h q => by cases q⟩
      · rcases List.mem_append.mp (srt_mem.mp hx) with q | q
        · exact kn.ts x q
        · rw [List.mem_singleton] at q
          subst q
          exact add_true kT H
      · show asks ≤ ((srt (t ++ [h])).length + f.length) * (c + 1)
        rw [(srt_perm _).length_eq, List.length_append, List.length_singleton]
        have e : (t.length + 1 + f.length) * (c + 1) = (t.length + f.length) * (c + 1) + (c + 1) := by
          rw [show t.length + 1 + f.length = (t.length + f.length) + 1 by omega, Nat.succ_mul]
        rw [e]
        exact few
    · have z : b = false := Bool.eq_false_iff.mpr z
      subst z
      rw [if_neg (by decide)]
      have nd : (f ++ [h]).Nodup := List.nodup_append.mpr ⟨kn.fa.nodup, List.nodup_cons.mpr ⟨fun q => (by cases q), List.nodup_nil⟩, fun a ha b hb e => by
        rw [List.mem_singleton] at hb
        subst hb e
        exact o2 ⟨a, ha, Sub.refl a⟩⟩
      refine ⟨⟨kn.ta, kn.ts, srt_asc nd, fun x hx => ?_⟩, fun _ => ?_, fun h q => by cases q⟩
      · rcases List.mem_append.mp (srt_mem.mp hx) with q | q
        · exact kn.fs x q
        · rw [List.mem_singleton] at q
          subst q
          exact add_false kT H
      · show asks ≤ (t.length + (srt (f ++ [h])).length) * (c + 1)
        rw [(srt_perm _).length_eq, List.length_append, List.length_singleton]
        have e : (t.length + (f.length + 1)) * (c + 1) = (t.length + f.length) * (c + 1) + (c + 1) := by
          rw [show t.length + (f.length + 1) = (t.length + f.length) + 1 by omega, Nat.succ_mul]
        rw [e]
        exact few
  | i :: r, h, H => by
    unfold goA
    cases e : ans t f (tried h i b) with
    | none => exact ⟨kn, fun q => (by cases q), fun h' q => (by cases q; exact ⟨H, i, r, rfl, e⟩)⟩
    | some k =>
      have k1 := known_not H.op e
      have k2 := ans_some kT kn e
      have : ¬ k = b := by rw [k1]; cases b <;> decide
      show Inv c T (goA t f asks b (if k = b then tried h i b else h) r)
      rw [if_neg this]
      refine go_inv kT kn r h ⟨H.lt, H.ok, H.op, fun j hj => H.ll j (List.mem_cons_of_mem _ hj), fun j l hj => ?_, ?_, ?_⟩
      · rcases H.st j l hj with q | q
        · rcases List.mem_cons.mp q with rfl | q
          · exact .inr (k2.trans k1)
          · exact .inl q
        · exact .inr q
      · have := H.few
        rw [List.length_cons] at this
        omega
      · have := H.lc
        rw [List.length_cons] at this
        omega
theorem fo_some {t f : List Nat} {x : Nat} (h : fo c t f = some x) : x < 2 ^ c ∧ ans t f x = none := by
  have h1 := List.find?_some h
  have h2 := List.mem_range.mp (List.mem_of_find?_eq_some h)
  rw [Bool.and_eq_true, Bool.not_eq_true', Bool.not_eq_true'] at h1
  exact ⟨h2, ans_none.mpr ⟨up_false.mp h1.1, down_false.mp h1.2⟩⟩
theorem fo_none {t f : List Nat} (h : fo c t f = none) {x : Nat} (hx : x < 2 ^ c) : Up t x ∨ Down f x := by
  have h1 := List.find?_eq_none.mp h x (List.mem_range.mpr hx)
  rw [Bool.and_eq_true, Bool.not_eq_true', Bool.not_eq_true'] at h1
  refine Classical.byContradiction fun z => h1 ⟨up_false.mpr fun q => z (.inl q), down_false.mpr fun q => z (.inr q)⟩
theorem things_len {x : Nat} (h : x < 2 ^ c) : (things x).length ≤ c := by
  refine asc_len (List.Pairwise.filter _ ?_) fun i hi => bit_lt h (things_mem.mp hi)
  exact List.pairwise_lt_range
theorem tell_inv (kT : ∀ x ∈ T, x < 2 ^ c) {a : Ask} (I : Inv c T a) {x : Nat} (h : stepA c a = some x) : x < 2 ^ c ∧ Inv c T (tellA c a (up T x) x) := by
  unfold stepA at h
  unfold tellA
  cases e : a.here with
  | none =>
    rw [e] at h
    obtain ⟨h1, h2⟩ := fo_some h
    have few := I.no e
    have lc : (if up T x = true then things x else (List.range c).filter fun i => !(things x).contains i).length ≤ c := by
      by_cases z : up T x = true
      · rw [if_pos z]
        exact things_len h1
      · rw [if_neg z]
        have := List.length_filter_le (fun i => !(things x).contains i) (List.range c)
        rwa [List.length_range] at this
    refine ⟨h1, go_inv kT I.kn _ _ ⟨h1, rfl, h2, fun i hi => ?_, fun i l hi => .inl ?_, ?_, lc⟩⟩
    · by_cases z : up T x = true
      · rw [if_pos z] at hi
        exact bit_lt h1 (things_mem.mp hi)
      · rw [if_neg z] at hi
        exact List.mem_range.mp (List.mem_filter.mp hi).1
    · by_cases z : up T x = true
      · rw [if_pos z]
        exact things_mem.mpr (hi.trans z)
      · rw [if_neg z]
        refine List.mem_filter.mpr ⟨List.mem_range.mpr l, ?_⟩
        rw [Bool.not_eq_true', ← Bool.not_eq_true, List.contains_iff_mem, things_mem, hi]
        exact z
    · by_cases z : up T x = true
      · rw [if_pos z]
        have := things_len h1
        omega
      · rw [if_neg z]
        have := List.length_filter_le (fun i => !(things x).contains i) (List.range c)
        rw [List.length_range] at this
        omega
  | some hh =>
    rw [e] at h
    obtain ⟨H, i, r, e2, op⟩ := I.yes hh e
    rw [e2] at h
    have hx : tried hh i a.bit = x := Option.some.inj h
    subst hx
    have hi : i < c := H.ll i (by rw [e2]; exact List.mem_cons_self)
    have lx : tried hh i a.bit < 2 ^ c := tried_lt H.lt hi
    have few := H.few
    have lc := H.lc
    rw [e2, List.length_cons] at few lc
    refine ⟨lx, ?_⟩
    show Inv c T (goA a.t a.f (a.asks + 1) a.bit (if up T (tried hh i a.bit) = a.bit then tried hh i a.bit else hh) a.left.tail)
    rw [e2, List.tail_cons]
    by_cases z : up T (tried hh i a.bit) = a.bit
    · rw [if_pos z]
      refine go_inv kT I.kn _ _ ⟨lx, z, op, fun j hj => H.ll j (by rw [e2]; exact List.mem_cons_of_mem _ hj), fun j l hj => ?_, by omega, by omega⟩
      rw [tried_bit] at hj
      by_cases w : i = j
      · rw [if_pos w] at hj
        cases hb : a.bit <;> rw [hb] at hj <;> cases hj
      · rw [if_neg w] at hj
        rcases H.st j l hj with q | q
        · rw [e2] at q
          rcases List.mem_cons.mp q with q | q
          · exact (w q.symm).elim
          · exact .inl q
        · exact .inr (tried_mono q)
    · rw [if_neg z]
      refine go_inv kT I.kn _ _ ⟨H.lt, H.ok, H.op, fun j hj => H.ll j (by rw [e2]; exact List.mem_cons_of_mem _ hj), fun j l hj => ?_, by omega, by omega⟩
      rcases H.st j l hj with q | q
      · rw [e2] at q
        rcases List.mem_cons.mp q with rfl | q
        · refine .inr ?_
          cases hb : a.bit <;> rw [hb] at z
          · exact Bool.not_eq_false _ |>.mp z
          · exact Bool.eq_false_iff.mpr z
        · exact .inl q
      · exact .inr q
/-- nothing more is asked: both borders are known -/
theorem end_known (kT : ∀ x ∈ T, x < 2 ^ c) (hT : Brd T) {a : Ask} (I : Inv c T a) (h : stepA c a = none) : a.here = none ∧ a.t = T ∧ a.f = falses c T ∧ a.asks ≤ (T.length + (falses c T).length) * (c + 1) := by
  unfold stepA at h
  cases e : a.here with
  | some hh =>
    rw [e] at h
    obtain ⟨_, i, r, e2, _⟩ := I.yes hh e
    rw [e2] at h
    cases h
  | none =>
    rw [e] at h
    have et : a.t = T := asc_eq I.kn.ta hT.1 fun x => ⟨I.kn.ts x, fun hx => by
      rcases fo_none h (kT x hx) with ⟨u, hu, q⟩ | q
      · have := hT.2 u (I.kn.ts u hu) x hx q
        rwa [← this]
      · exact (not_up_of kT I.kn.fs q ⟨x, hx, Sub.refl x⟩).elim⟩
    have ef : a.f = falses c T := asc_eq I.kn.fa (falses_brd kT).1 fun x => ⟨I.kn.fs x, fun hx => by
      have lx := falses_lt x hx
      rcases fo_none h lx with q | ⟨u, hu, q⟩
      · exact ((falses_down kT lx).mp ⟨x, hx, Sub.refl x⟩ (up_of I.kn.ts q)).elim
      · have := (falses_brd kT).2 x hx u (I.kn.fs u hu) q
        rwa [this]⟩
    have := I.no e
    rw [et, ef] at this
    exact ⟨rfl, et, ef, this⟩
def startA : Ask := ⟨[], [], 0, none, [], false⟩
theorem start_inv : Inv c T startA := ⟨⟨List.Pairwise.nil, fun x h => (by cases h), List.Pairwise.nil, fun x h => (by cases h)⟩, fun _ => Nat.zero_le _, fun h q => (by cases q)⟩
/-- the answers, one behind the other -/
inductive Run (c : Nat) (T : List Nat) : Nat → Ask → Ask → Prop
  | done {a : Ask} : stepA c a = none → Run c T 0 a a
  | more {n : Nat} {a b : Ask} {x : Nat} : stepA c a = some x → x < 2 ^ c → Run c T n (tellA c a (up T x) x) b → Run c T (n + 1) a b
theorem go_asks {t f : List Nat} {asks : Nat} {b : Bool} : ∀ (left : List Nat) (h : Nat), (goA t f asks b h left).asks = asks
  | [], h => by unfold goA; split <;> rfl
  | i :: r, h => by
    unfold goA
    cases ans t f (tried h i b) with
    | none => rfl
    | some k => exact go_asks r _
theorem tell_asks (a : Ask) (b : Bool) (x : Nat) : (tellA c a b x).asks = a.asks + 1 := by
  unfold tellA
  cases a.here <;> exact go_asks _ _
theorem inv_asks (kT : ∀ x ∈ T, x < 2 ^ c) (hT : Brd T) {a : Ask} (I : Inv c T a) : a.asks ≤ (2 ^ c + 2 ^ c) * (c + 1) + (c + 1) := by
  have l1 : a.t.length ≤ 2 ^ c := asc_len I.kn.ta fun x hx => kT x (I.kn.ts x hx)
  have l2 : a.f.length ≤ 2 ^ c := asc_len I.kn.fa fun x hx => falses_lt x (I.kn.fs x hx)
  have l3 : (a.t.length + a.f.length) * (c + 1) ≤ (2 ^ c + 2 ^ c) * (c + 1) := Nat.mul_le_mul_right _ (by omega)
  cases e : a.here with
  | none => have := I.no e; omega
  | some h => have := (I.yes h e).1.few; omega
theorem run_end (kT : ∀ x ∈ T, x < 2 ^ c) (hT : Brd T) : ∀ (m : Nat) (a : Ask), Inv c T a → (2 ^ c + 2 ^ c) * (c + 1) + (c + 1) + 1 ≤ m + a.asks → ∃ n b, Run c T n a b ∧ Inv c T b ∧ stepA c b = none ∧ n ≤ m
  | 0, a, I, h => by
    have := inv_asks kT hT I
    omega
  | m + 1, a, I, h => by
    cases e : stepA c a with
    | none => exact ⟨0, a, .done e, I, e, Nat.zero_le _⟩
    | some x =>
      obtain ⟨lx, I2⟩ := tell_inv kT I e
      obtain ⟨n, b, r, j, s, l⟩ := run_end kT hT m _ I2 (by rw [tell_asks]; omega)
      exact ⟨n + 1, b, .more e lx r, j, s, by omega⟩
end
end Bd
/-! ### sets as data -/
namespace Bd
open DL
theorem inv_n (b : Nat) : invD (ni b) = pure (.int (PySem.Builtin.bitNot (b : Int))) := Eq.trans rfl rfl
theorem and_inv (a b : Nat) : andD (ni a) (.int (PySem.Builtin.bitNot (b : Int))) = pure (ni (sdf a b)) := by
  show (pure (.int (PySem.Builtin.bitAnd (a : Int) (PySem.Builtin.bitNot (b : Int)))) : M D) = _
  have e : PySem.Builtin.bitAnd (a : Int) (PySem.Builtin.bitNot (b : Int)) = ((sdf a b : Nat) : Int) := by
    unfold PySem.Builtin.bitAnd PySem.Builtin.bitNot
    have h1 : decide (0 ≤ (a : Int)) = true := decide_eq_true (by omega)
    have h2 : decide (0 ≤ -(b : Int) - 1) = false := decide_eq_false (by omega)
    have e2 : (-(-(b : Int) - 1) - 1).toNat = b := by omega
    rw [h1, h2]
    show (a : Int) - (((a : Int).toNat &&& (-(-(b : Int) - 1) - 1).toNat : Nat) : Int) = _
    rw [e2, Int.toNat_natCast]
    have e3 := (or_xor_and a (a &&& b)).2
    have e4 : a &&& (a &&& b) = a &&& b := by rw [← Nat.and_assoc, Nat.and_self]
    rw [e4] at e3
    unfold sdf
    omega
  rw [e]
  rfl
theorem sorted_en (l : List Nat) : sortedD (.lst (en l)) = pure (.lst (en (srt l))) := by
  rw [en_ints, sorted_ints, ← srt_cast, ← en_ints]
theorem sorted_ten (l : List Nat) : sortedD (.tup (en l)) = pure (.lst (en (srt l))) := by
  rw [en_ints, sorted_ti, ← srt_cast, ← en_ints]
theorem ssort_len {l : List Nat} (h : l.length ≤ 4000) : ssortI (.lst (en l)) = pure (.lst (en (usort l))) := by
  rw [en_ints]
  show (match dints ((l.map fun (n : Nat) => (n : Int)).map .int) with
    | some ns => if ns.length ≤ 4000 then (pure (.lst ((ssort ns).map D.int)) : M D) else stuck
    | none => stuck) = _
  rw [ints_map]
  show (if (l.map fun (n : Nat) => (n : Int)).length ≤ 4000 then (pure (.lst ((ssort (l.map fun (n : Nat) => (n : Int))).map D.int)) : M D) else stuck) = _
  rw [if_pos (by rw [List.length_map]; exact h), ← usort_cast, ← en_ints]
theorem ssort_ten {l : List Nat} (h : l.length ≤ 4000) : ssortI (.tup (en l)) = pure (.lst (en (usort l))) := ssort_len h
end Bd
namespace Bd
open DL
theorem usort_len (l : List Nat) : (usort l).length ≤ l.length := by
  unfold usort ssort
  rw [List.length_map, (isort_perm _).length_eq]
  have := uniqI_len (l.map fun (n : Nat) => (n : Int))
  rwa [List.length_map] at this
theorem least_len (l : List Nat) : (least l).length ≤ l.length := Nat.le_trans (List.length_filter_le _ _) (usort_len l)
theorem pow8 {c : Nat} (h : c ≤ 8) : 2 ^ c ≤ 256 := Nat.le_trans (Nat.pow_le_pow_right (by omega) h) (by decide)
theorem brd_len {c : Nat} {l : List Nat} (h : Asc l) (k : ∀ x ∈ l, x < 2 ^ c) (c8 : c ≤ 8) : l.length ≤ 256 := Nat.le_trans (asc_len h k) (pow8 c8)
end Bd
namespace Bd
open DL
theorem upL {t : List Nat} {x : Nat} (h : t.length ≤ 2 ^ 24) : lcM (pure (en t)) nm (p1 fun _ => (pure true : M Bool)) (p1 fun v => (invD (ni x) >>= fun y => andD v y >>= fun z => eqB z (D.int 0) >>= fun b => (pure (D.bl b) : M D))) = pure (.lst ((t.map fun y => sub y x).map .bl)) := by
  refine lcM_bool (xs := t) (fun y => sub y x) rfl h fun y _ => ?_
  simp only [nm_ap, p1_ap, pure_bind', if_true, inv_n, and_inv, c0, eq_nn]
  rfl
theorem downL {t : List Nat} {x : Nat} (h : t.length ≤ 2 ^ 24) : lcM (pure (en t)) nm (p1 fun _ => (pure true : M Bool)) (p1 fun v => (invD v >>= fun y => andD (ni x) y >>= fun z => eqB z (D.int 0) >>= fun b => (pure (D.bl b) : M D))) = pure (.lst ((t.map fun y => sub x y).map .bl)) := by
  refine lcM_bool (xs := t) (fun y => sub x y) rfl h fun y _ => ?_
  simp only [nm_ap, p1_ap, pure_bind', if_true, inv_n, and_inv, c0, eq_nn]
  rfl
theorem coL {t : List Nat} {c : Nat} (h : t.length ≤ 2 ^ 24) : lcM (pure (en t)) nm (p1 fun _ => (pure true : M Bool)) (p1 fun v => (invD v >>= fun y => andD (ni (2 ^ c - 1)) y)) = pure (.lst (en (t.map (co c)))) := by
  refine lcM_enm (xs := t) (co c) rfl h fun y _ => ?_
  simp only [nm_ap, p1_ap, pure_bind', if_true, inv_n, and_inv]
  rfl
end Bd
/-! ### an object's cell -/
namespace DL
section
variable {β : Type} {k c : Nat} {s : Store} {fs : List (PySem.Str × D)} {f : PySem.Str} {d : D} {C : Cell}
theorem getC_at (hk : k < s.length) : getC k (s.set k C) = .ok C (s.set k C) := by
  unfold getC
  rw [List.getElem?_set_self hk]
theorem insD_at (hk : k < s.length) : insD c (.ref k) (s.set k (.ins c fs)) = .ok (k, fs) (s.set k (.ins c fs)) := by
  show (getC k >>= _) _ = _
  rw [bind_ok (getC_at hk)]
  show (if c = c then (pure (k, fs) : M _) else stuck) _ = _
  rw [if_pos rfl]
  rfl
theorem fld_at (hk : k < s.length) (h : fs.lookup f = some d) : fldD c f (.ref k) (s.set k (.ins c fs)) = .ok d (s.set k (.ins c fs)) := by
  unfold fldD
  rw [bind_ok (insD_at hk)]
  show lookM f fs _ = _
  unfold lookM
  rw [h]
  rfl
theorem setF_at (hk : k < s.length) (h : fs.length < 1000) : setF c f (.ref k) d (s.set k (.ins c fs)) = .ok () (s.set k (.ins c (putD f d fs))) := by
  unfold setF
  rw [bind_ok (insD_at hk)]
  show (if fs.length < 1000 then setC k (.ins c (putD f d fs)) else stuck) _ = _
  rw [if_pos h]
  show Res.ok () ((s.set k _).set k _) = _
  rw [List.set_set]
theorem mth_at {fm : PySem.Str} {ms : M (List D)} {FM : List D → M D} (hk : k < s.length) (h : fs.lookup fm = none) : mthM c fm (pure (.ref k)) ms FM (s.set k (.ins c fs)) = (ms >>= fun vs => FM (.ref k :: vs)) (s.set k (.ins c fs)) := by
  unfold mthM
  rw [pure_bind', bind_ok (insD_at hk)]
  show (noF fm fs >>= _) _ = _
  unfold noF
  rw [h]
  rfl
theorem bind_at {α β : Type} {m m' : M α} {s : Store} (h : m s = m' s) (g : α → M β) : (m >>= g) s = (m' >>= g) s := by rw [bind_run, bind_run, h]
theorem lcM_at {β : Type} {mi mi' : M (List D)} {u : D → M (List D)} {mt : List D → M Bool} {me : List D → M D} {s : Store} (h : mi s = mi' s) (g : D → M β) : (lcM mi u mt me >>= g) s = (lcM mi' u mt me >>= g) s := bind_at (bind_at h _) g
theorem wp_at {β : Type} {m m' : M β} {s s' : Store} {Q : β → Store → Prop} (h : m s = m' s') : Wp m s Q = Wp m' s' Q := propext ⟨fun q => ⟨by rw [← h]; exact q.run⟩, fun q => ⟨by rw [h]; exact q.run⟩⟩
theorem set_len {C : Cell} : (s.set k C).length = s.length := List.length_set
end
end DL
namespace DL
theorem set_end (s : Store) (C D' : Cell) : (s ++ [C]).set s.length D' = s ++ [D'] := by
  rw [List.set_append_right _ _ (Nat.le_refl _), Nat.sub_self]
  rfl
theorem end_lt (s : Store) (C : Cell) : s.length < (s ++ [C]).length := by rw [List.length_append, List.length_singleton]; omega
/-- a new object -/
theorem mk_at {ci : Nat} {vs : List D} {FM : List D → M D} {s : Store} {Q : D → Store → Prop} (h : Wp (FM (.ref s.length :: vs)) ((s ++ [Cell.ins ci []]).set s.length (Cell.ins ci [])) fun d s' => d = .non ∧ Q (.ref s.length) s') : Wp (mkM ci (pure vs) FM) s Q := by
  unfold mkM
  rw [pure_bind']
  refine wp_go (a := s.length) (s' := s ++ [Cell.ins ci []]) rfl ?_
  rw [set_end] at h
  refine wp_bind (wp_imp h ?_)
  rintro d s' ⟨rfl, q⟩
  exact wp_pure q
end DL
/-! ### texts of plain data -/
namespace DL
open PySem PySem.Spec PyProof.Rows L2
def okS (x : Str) : Bool := PyData.strOk x
theorem okS_app {a b : Str} (ha : okS a = true) (hb : okS b = true) : okS (a ++ b) = true := by
  unfold okS PyData.strOk at *
  rw [Str.cps_append, Array.all_append, ha, hb]
  rfl
theorem okS_of (s : String) : okS (Str.ofString s) = true := by
  unfold okS PyData.strOk
  rw [Array.all_eq_true']
  intro x hx
  rw [← Array.mem_toList_iff, Str.ofString_eq_toList, List.toList_toArray] at hx
  obtain ⟨c, _, rfl⟩ := List.mem_map.mp hx
  refine decide_eq_true ?_
  rcases c.valid with h | ⟨_, h⟩
  · exact Nat.lt_trans h (by decide)
  · exact h
theorem okS_from : ∀ (ts : List Str) (k : Nat) (acc : Str), okS acc = true → (∀ t ∈ ts, okS t = true) → okS (textFrom k acc ts) = true
  | [], _, _, h, _ => h
  | t :: r, k, acc, h, ht => okS_from r (k + 1) _ (okS_app (okS_app h (okS_of _)) (ht t List.mem_cons_self)) fun u hu => ht u (List.mem_cons_of_mem _ hu)
theorem okS_join : ∀ ts : List Str, (∀ t ∈ ts, okS t = true) → okS (Str.join ", " ts) = true
  | [], _ => by unfold Str.join okS PyData.strOk Str.empty; simp
  | [x], h => h x List.mem_cons_self
  | x :: y :: r, h => okS_app (okS_app (h x List.mem_cons_self) (okS_of ", ")) (okS_join (y :: r) fun t ht => h t (List.mem_cons_of_mem _ ht))
theorem okS_list {ts : List Str} (h : ∀ t ∈ ts, okS t = true) : okS (listText ts) = true := okS_app (okS_from ts 0 _ (okS_of "[") h) (okS_of "]")
theorem okS_tuple {ts : List Str} (h : ∀ t ∈ ts, okS t = true) : okS (tupleText ts) = true := okS_app (okS_app (okS_of "(") (okS_join ts h)) (okS_of _)
/-- what repr can show, and what it shows -/
structure Shw (n w : Nat) (q : PyData) : Prop where
  c : q.canLay0 = true
  d : q.depth ≤ n
  w : q.weight ≤ w
  i : q.intsShort 13 = true
  s : q.showable = true
  o : okS q.shown = true
structure ShwA (n w : Nat) (qs : List PyData) : Prop where
  c : PyData.canLayAll0 qs = true
  d : PyData.depthAll qs ≤ n
  w : PyData.weightAll qs ≤ qs.length * (w + 1)
  i : PyData.intsShortAll 13 qs = true
  s : PyData.showableAll qs = true
  o : ∀ t ∈ PyData.shownAll qs, okS t = true
def Rk (n w : Nat) (d : D) : Prop := ∃ q, pyD d = some q ∧ Shw n w q
theorem rks {n w : Nat} : ∀ {ds : List D}, (∀ d ∈ ds, Rk n w d) → ∃ qs, pyDs ds = some qs ∧ qs.length = ds.length ∧ ShwA n w qs
  | [], _ => ⟨[], by rw [pyDs], rfl, ⟨by rw [PyData.canLayAll0], by rw [PyData.depthAll]; exact Nat.zero_le _, by rw [PyData.weightAll]; exact Nat.zero_le _, by rw [PyData.intsShortAll], by rw [PyData.showableAll], fun t ht => by rw [PyData.shownAll] at ht; cases ht⟩⟩
  | d :: ds, h => by
    obtain ⟨q, e, a⟩ := h d List.mem_cons_self
    obtain ⟨qs, es, l, b⟩ := rks (ds := ds) fun x hx => h x (List.mem_cons_of_mem _ hx)
    refine ⟨q :: qs, by rw [pyDs, e, es]; rfl, by rw [List.length_cons, List.length_cons, l], ⟨?_, ?_, ?_, ?_, ?_, ?_⟩⟩
    · rw [PyData.canLayAll0, a.c, b.c]; rfl
    · rw [PyData.depthAll]; exact Nat.max_le.mpr ⟨a.d, b.d⟩
    · rw [PyData.weightAll, List.length_cons, Nat.add_mul, Nat.one_mul]
      have := a.w
      have := b.w
      omega
    · rw [PyData.intsShortAll, a.i, b.i]; rfl
    · rw [PyData.showableAll, a.s, b.s]; rfl
    · intro t ht
      rw [PyData.shownAll] at ht
      rcases List.mem_cons.mp ht with rfl | ht
      · exact a.o
      · exact b.o t ht
theorem Rk.tup {n w : Nat} {ds : List D} (h : ∀ d ∈ ds, Rk n w d) : Rk (n + 1) (ds.length * (w + 1)) (.tup ds) := by
  obtain ⟨qs, e, l, a⟩ := rks h
  refine ⟨.tuple qs, by rw [pyD, e]; rfl, ⟨by rw [PyData.canLay0]; exact a.c, ?_, by rw [PyData.weight, ← l]; exact a.w, by rw [PyData.intsShort]; exact a.i, by rw [PyData.showable]; exact a.s, by rw [PyData.shown]; exact okS_tuple a.o⟩⟩
  have := a.d
  rw [PyData.depth]
  omega
theorem Rk.lst {n w : Nat} {ds : List D} (h : ∀ d ∈ ds, Rk n w d) : Rk (n + 1) (ds.length * (w + 1)) (.lst ds) := by
  obtain ⟨qs, e, l, a⟩ := rks h
  refine ⟨.list qs, by rw [pyD, e]; rfl, ⟨by rw [PyData.canLay0]; exact a.c, ?_, by rw [PyData.weight, ← l]; exact a.w, by rw [PyData.intsShort]; exact a.i, by rw [PyData.showable]; exact a.s, by rw [PyData.shown]; exact okS_list a.o⟩⟩
  have := a.d
  rw [PyData.depth]
  omega
theorem Rk.mono {n w n' w' : Nat} {d : D} (h : Rk n w d) (hn : n ≤ n') (hw : w ≤ w') : Rk n' w' d := by
  obtain ⟨q, e, a⟩ := h
  exact ⟨q, e, ⟨a.c, Nat.le_trans a.d hn, Nat.le_trans a.w hw, a.i, a.s, a.o⟩⟩
theorem Rk.ni {n m : Nat} (h : m < 2 ^ 20) : Rk n 20 (.int (m : Int)) := by
  have hm : (m : Int).natAbs = m := Int.natAbs_natCast m
  have l : m ≠ 0 → m.log2 < 20 := fun z => (Nat.log2_lt z).mpr h
  have l2 : m.log2 < 1920 := by
    by_cases z : m = 0
    · subst z; decide
    · have := l z; omega
  refine ⟨.int m, by rw [pyD], ⟨by rw [PyData.canLay0], by rw [PyData.depth]; exact Nat.zero_le _, ?_, ?_, ?_, ?_⟩⟩
  · rw [PyData.weight]
    split
    · exact Nat.zero_le _
    · rename_i z
      have z : m ≠ 0 := fun y => z (by rw [y]; rfl)
      have := l z
      rw [hm]
      omega
  · rw [PyData.intsShort]
    exact decide_eq_true (PyData.shown_int_le (by rw [hm]; omega))
  · rw [PyData.showable, hm]
    exact decide_eq_true l2
  · rw [PyData.shown]
    exact okS_of _
theorem Rk.bl {n : Nat} (b : Bool) : Rk n 0 (.bl b) := ⟨.bool b, by rw [pyD], ⟨by rw [PyData.canLay0], by rw [PyData.depth]; exact Nat.zero_le _, by rw [PyData.weight]; exact Nat.le_refl _, by rw [PyData.intsShort], by rw [PyData.showable], by rw [PyData.shown]; cases b <;> exact okS_of _⟩⟩
theorem Rk.non {n : Nat} : Rk n 0 .non := ⟨.none, by rw [pyD], ⟨by rw [PyData.canLay0], by rw [PyData.depth]; exact Nat.zero_le _, by rw [PyData.weight]; exact Nat.le_refl _, by rw [PyData.intsShort], by rw [PyData.showable], by rw [PyData.shown]; exact okS_of _⟩⟩
theorem Rk.str {n : Nat} {x : Str} (h : PyData.strOk x = true) (k : okS (reprText x) = true) (l : x.cps.size ≤ 20) : Rk n 20 (.str x) := ⟨.str x, by rw [pyD], ⟨by rw [PyData.canLay0]; exact h, by rw [PyData.depth]; exact Nat.zero_le _, by rw [PyData.weight]; exact l, by rw [PyData.intsShort], by rw [PyData.showable], by rw [PyData.shown]; exact k⟩⟩
/-- the text of a list -/
theorem repr_ok {n w : Nat} {ds : List D} (h : Rk n w (.lst ds)) (hn : n ≤ 64 := by decide) (hw : w ≤ 2 ^ 20 := by decide) : ∃ t : Str, reprD (.lst ds) = pure (.str t) ∧ PySem.PyData.canLay0 (.str t) = true := by
  obtain ⟨q, e, a⟩ := h
  have s : shows q = true := by
    unfold shows PyData.layable0
    rw [a.c, a.i, a.s, decide_eq_true (Nat.le_trans a.d hn), decide_eq_true (Nat.le_trans a.w hw)]
    rfl
  refine ⟨q.shown, ?_, by rw [PyData.canLay0]; exact a.o⟩
  show (match pyD (.lst ds) with
    | some q => if shows q = true then (pure (.str q.shown) : M D) else stuck
    | none => stuck) = _
  rw [e]
  show (if shows q = true then (pure (.str q.shown) : M D) else stuck) = _
  rw [if_pos s]
end DL
namespace K09
open PySem PySem.Spec PyProof.Rows L2 DL
def topS (i : Nat) : Stmt := PySem.Challenge.pw_askcraft_k09_whole_border_askers.main.body.getD i (.Pass ⟨0, 0, 0, 0⟩)
structure Txt (p : Pg) : Prop where
  b_abs : p.mg "abs" = none
  b_all : p.mg "all" = none
  b_any : p.mg "any" = none
  b_int : p.mg "int" = none
  b_len : p.mg "len" = none
  b_list : p.mg "list" = none
  b_range : p.mg "range" = none
  b_repr : p.mg "repr" = none
  b_set : p.mg "set" = none
  b_sorted : p.mg "sorted" = none
  b_tuple : p.mg "tuple" = none
  c_MAX_THINGS : ∃ t, p.mg "MAX_THINGS" = some (.int 8 t)
  k_BorderAsker : ClsD p 0 ["count", "trues", "falses", "asks", "here", "left", "bit"]
  x_NotAllowed : ExD p 101 "NotAllowed"
  x_Wrong : ExD p 103 "Wrong"
  em : ErrCls p [101, 103]
abbrev s_check_count : Stmt := topS 9
theorem sc_check_count : FnScope ["count"] ["count"] (defScope s_check_count) := ⟨rfl, rfl, rfl, by decide +kernel, rfl, by decide +kernel, by decide +kernel⟩
def b_check_count : List D → M (Out Unit Unit) := p1 (fun a1 => (((chainM (pure (D.int 1) : M D) (pure (a1) : M D) leB (pure (D.int 8) : M D) leB) >>= fun b2 => (pure (!b2) : M Bool)) >>= fun b4 => (if b4 = true then ((raise 101) : M (Out (Unit) _)) else (pure (.nx ()))) >>= seqO fun s3 => (pure (.nx ()))))
def m_check_count (ds : List D) : M D := runF (b_check_count ds)
theorem o_check_count {p : Pg} (T : Txt p) {f : Addr} {fd : FuncData} (F : Fun p.K "check_count" "check_count" s_check_count f fd)  : FnOk p.P p.w p.K p.mg p.base (L2N.CX p.P p.w) 1 f fd ["count"] (spD p [.v] m_check_count) :=
  fnok_of (k := 0) (N := ["count"]) (body := b_check_count) (shN := fun _ => [.un]) (shB := fun _ => []) F sc_check_count rfl (q1 (P := fun ds m => SB _ (argE _ ds ++ _) _ m _ _) (fun a1 => (show SB _ [.sh (a1)] _ _ _ _ from (sb_if (J := Unit) (shJ := fun s3 => [.sh (a1)]) (et_not (et_chain c_le c_le (el_of ee_int) (el_of (ev 0)) (el_of (eg T.c_MAX_THINGS)))) (s_raise T.x_NotAllowed) (sb_nil (.eq Le.nil)) fun s3 => (show SB _ [.sh (a1)] _ _ _ _ from (sb_nil (.un Le.nil)))))))
abbrev s_check_sets : Stmt := topS 10
theorem sc_check_sets : FnScope ["count", "sets", "one"] ["count", "sets"] (defScope s_check_sets) := ⟨rfl, rfl, rfl, by decide +kernel, rfl, by decide +kernel, by decide +kernel⟩
def b_check_sets : List D → M (Out Unit Unit) := p2 (fun a5 a6 => ((((pure (a5) : M D) >>= fun x7 => (pure [] : M (List D)) >>= fun xs8 => pure (x7 :: xs8)) >>= m_check_count) >>= fun u21 => (((((pure (a6) : M D) >>= listD) >>= fun x9 => ((pure (a6) : M D) >>= ssortI) >>= fun x10 => neB x9 x10) >>= fun b18 => if b18 = true then (pure true : M Bool) else ((((lcM ((pure (a6) : M D) >>= items) nm (p1 (fun v11 => (pure true : M Bool))) (p1 (fun v11 => ((chainM (pure (D.int 0) : M D) (pure (v11) : M D) leB ((pure (D.int 1) : M D) >>= fun x12 => (pure (a5) : M D) >>= fun x13 => shlD x12 x13) ltB) >>= fun b14 => (pure (D.bl b14) : M D))))) >>= allD) >>= truth) >>= fun b17 => (pure (!b17) : M Bool))) >>= fun b20 => (if b20 = true then ((raise 101) : M (Out (Unit) _)) else (pure (.nx ()))) >>= seqO fun s19 => (pure (.nx ())))))
def m_check_sets (ds : List D) : M D := runF (b_check_sets ds)
theorem o_check_sets {p : Pg} (T : Txt p) {f : Addr} {fd : FuncData} (F : Fun p.K "check_sets" "check_sets" s_check_sets f fd) (h_check_count : Fnc p 1 "check_count" [.v] m_check_count) : FnOk p.P p.w p.K p.mg p.base (L2N.CX p.P p.w) 2 f fd ["count", "sets"] (spD p [.v, .v] m_check_sets) :=
  fnok_of (k := 1) (N := ["count", "sets", "one"]) (body := b_check_sets) (shN := fun _ => [.un, .un, .un]) (shB := fun _ => []) F sc_check_sets rfl (q2 (P := fun ds m => SB _ (argE _ ds ++ _) _ m _ _) (fun a5 a6 => (show SB _ [.sh (a5), .sh (a6), .un] _ _ _ _ from (s_expr (el_of (xcall h_check_count (av (ev 0) eak_nil))) (show SB _ [.sh (a5), .sh (a6), .un] _ _ _ _ from (sb_if (J := Unit) (shJ := fun s19 => [.sh (a5), .sh (a6), .un]) (et_w (ew_or (tcmp c_ne (el_new (en_listc (b_list T.b_list) (el_of (ev 1)))) (el_new (en_ssetI (b_sorted T.b_sorted) (b_set T.b_set) (el_of (ev 1))))) (ew_or1 (et_not (ttr (el_of (ee_all (b_all T.b_all) (el_new (en_comp (c_lc sc_check_sets.nd [("one", 2)] (ei_read (el_of (ev 1))) (tn 2 sc_check_sets.nd) nm_pure nm_len (q1 (P := fun ds m => ETs (Sta.blk _ _) (setE (wipeE _ _) _ ds) _ m) (fun v11 => (show ETs _ [.sh (a5), .sh (a6), .sh (v11)] _ _ from ets_nil))) (q1 (P := fun ds m => EE (Sta.blk _ _) (setE (wipeE _ _) _ ds) _ m) (fun v11 => (show EE _ [.sh (a5), .sh (a6), .sh (v11)] _ _ from (ee_chain c_le c_lt (el_of ee_int) (el_of (ev 2)) (el_of (ee_shl (el_of ee_int) (el_of (ev 0)))))))))))))))))) (s_raise T.x_NotAllowed) (sb_nil (.eq (.eq (.un Le.nil)))) fun s19 => (show SB _ [.sh (a5), .sh (a6), .un] _ _ _ _ from (sb_nil (.un (.un (.un Le.nil)))))))))))
abbrev s_things_in : Stmt := topS 11
theorem sc_things_in : FnScope ["one", "found", "thing"] ["one"] (defScope s_things_in) := ⟨rfl, rfl, rfl, by decide +kernel, rfl, by decide +kernel, by decide +kernel⟩
def b_things_in : List D → M (Out Unit Unit) := p1 (fun a22 => (((pure [] : M (List D)) >>= mkL) >>= fun z23 => ((pure (D.int 0) : M D) >>= fun z24 => (whileL (fun (s25 : D × D) => (((pure (a22) : M D) >>= fun x26 => (pure (s25.2) : M D) >>= fun x27 => shrD x26 x27) >>= fun x28 => (pure (D.int 0) : M D) >>= fun x29 => gtB x28 x29)) (fun s25 => (((((pure (a22) : M D) >>= fun x30 => (pure (s25.2) : M D) >>= fun x31 => shrD x30 x31) >>= fun x32 => (pure (D.int 1) : M D) >>= fun x33 => andD x32 x33) >>= truth) >>= fun b40 => (if b40 = true then ((lstD s25.1 >>= fun ds37 => (pure (s25.2) : M D) >>= fun x36 => appL ds37 x36 >>= fun z35 => (pure (.nx (z35)))) : M (Out (D) _)) else (pure (.nx (s25.1)))) >>= seqO fun s34 => ((pure (D.int 1) : M D) >>= fun x38 => addI s25.2 x38 >>= fun z39 => (pure (.nx (s34, z39)))))) 1000 (z23, z24) >>= seqO fun s25 => ((pure (s25.1) : M D) >>= fun x41 => pure (.rt x41))))))
def m_things_in (ds : List D) : M D := runF (b_things_in ds)
theorem o_things_in {p : Pg} (T : Txt p) {f : Addr} {fd : FuncData} (F : Fun p.K "things_in" "things_in" s_things_in f fd)  : FnOk p.P p.w p.K p.mg p.base (L2N.CX p.P p.w) 1 f fd ["one"] (spD p [.v] m_things_in) :=
  fnok_of (k := 0) (N := ["one", "found", "thing"]) (body := b_things_in) (shN := fun _ => [.un, .un, .un]) (shB := fun _ => []) F sc_things_in rfl (q1 (P := fun ds m => SB _ (argE _ ds ++ _) _ m _ _) (fun a22 => (show SB _ [.sh (a22), .un, .un] _ _ _ _ from (s_setN 1 sc_things_in.nd (en_lst ea_nil) (fun z23 => (show SB _ [.sh (a22), .ow (z23), .un] _ _ _ _ from (s_set 2 sc_things_in.nd ee_int (fun z24 => (show SB _ [.sh (a22), .ow (z23), .sh (z24)] _ _ _ _ from (sb_while (Z := D × D) (sh := fun s25 => [.sh (a22), .ow (s25.1), .sh (s25.2)]) (fun s25 => (show ET _ [.sh (a22), .ow (s25.1), .sh (s25.2)] _ _ from (tcmp c_gt (el_of (ee_shr (el_of (ev 0)) (el_of (ev 2)))) (el_of ee_int)))) (.eq (.eq (.eq Le.nil))) (fun s25 => (show SB _ [.sh (a22), .ow (s25.1), .sh (s25.2)] _ _ _ _ from (sb_if (J := D) (shJ := fun s34 => [.sh (a22), .ow (s34), .sh (s25.2)]) (ttr (el_of (ee_and (el_of (ee_shr (el_of (ev 0)) (el_of (ev 2)))) (el_of ee_int)))) (s_append 1 (ev 2) fun z35 => (show SB _ [.sh (a22), .ow (z35), .sh (s25.2)] _ _ _ _ from (sb_nil (.eq (.eq (.eq Le.nil)))))) (sb_nil (.eq (.eq (.eq Le.nil)))) fun s34 => (show SB _ [.sh (a22), .ow (s34), .sh (s25.2)] _ _ _ _ from (s_aug 2 sc_things_in.nd ee_int fun z39 => (show SB _ [.sh (a22), .ow (s34), .sh (z39)] _ _ _ _ from (sb_nil (.eq (.eq (.eq Le.nil)))))))))) fun s25 => (show SB _ [.sh (a22), .ow (s25.1), .sh (s25.2)] _ _ _ _ from (sb_freeze 1 (by rfl) (show SB _ [.sh (a22), .sh (s25.1), .sh (s25.2)] _ _ _ _ from (sb_ret (ev 1)))))))))))))))
abbrev s_least_of : Stmt := topS 12
theorem sc_least_of : FnScope ["sets", "rows", "one", "other"] ["sets"] (defScope s_least_of) := ⟨rfl, rfl, rfl, by decide +kernel, rfl, by decide +kernel, by decide +kernel⟩
def b_least_of : List D → M (Out Unit Unit) := p1 (fun a42 => (((pure (a42) : M D) >>= ssortI) >>= fun z43 => (((lcM ((pure (z43) : M D) >>= items) nm (p1 (fun v44 => ((((lcM ((pure (z43) : M D) >>= items) nm (p1 (fun v45 => (pure true : M Bool))) (p1 (fun v45 => (((pure (v45) : M D) >>= fun x49 => (pure (v44) : M D) >>= fun x50 => neB x49 x50 >>= fun b48 => (pure (D.bl b48) : M D)) >>= fun x60 => truth x60 >>= fun b61 => if b61 = true then (((pure (v45) : M D) >>= fun x58 => ((pure (v44) : M D) >>= invD) >>= fun x59 => andD x58 x59) >>= fun x56 => (pure (D.int 0) : M D) >>= fun x57 => eqB x56 x57 >>= fun b55 => (pure (D.bl b55) : M D)) else (pure x60 : M D))))) >>= anyD) >>= truth) >>= fun b62 => (pure (!b62) : M Bool)))) (p1 (fun v44 => (pure (v44) : M D)))) >>= tupleD) >>= fun x63 => pure (.rt x63))))
def m_least_of (ds : List D) : M D := runF (b_least_of ds)
theorem o_least_of {p : Pg} (T : Txt p) {f : Addr} {fd : FuncData} (F : Fun p.K "least_of" "least_of" s_least_of f fd)  : FnOk p.P p.w p.K p.mg p.base (L2N.CX p.P p.w) 1 f fd ["sets"] (spD p [.v] m_least_of) :=
  fnok_of (k := 0) (N := ["sets", "rows", "one", "other"]) (body := b_least_of) (shN := fun _ => [.un, .un, .un, .un]) (shB := fun _ => []) F sc_least_of rfl (q1 (P := fun ds m => SB _ (argE _ ds ++ _) _ m _ _) (fun a42 => (show SB _ [.sh (a42), .un, .un, .un] _ _ _ _ from (s_set 1 sc_least_of.nd (ee_new (en_ssetI (b_sorted T.b_sorted) (b_set T.b_set) (el_of (ev 0)))) (fun z43 => (show SB _ [.sh (a42), .sh (z43), .un, .un] _ _ _ _ from (sb_ret (ee_tuplec (b_tuple T.b_tuple) (el_new (en_comp (c_lc sc_least_of.nd [("one", 2)] (ei_read (el_of (ev 1))) (tn 2 sc_least_of.nd) nm_pure nm_len (q1 (P := fun ds m => ETs (Sta.blk _ _) (setE (wipeE _ _) _ ds) _ m) (fun v44 => (show ETs _ [.sh (a42), .sh (z43), .sh (v44), .un] _ _ from (ets_one (et_not (ttr (el_of (ee_any (b_any T.b_any) (el_new (en_comp (c_lc sc_least_of.nd [("other", 3)] (ei_read (el_of (ev 1))) (tn 3 sc_least_of.nd) nm_pure nm_len (q1 (P := fun ds m => ETs (Sta.blk _ _) (setE (wipeE _ _) _ ds) _ m) (fun v45 => (show ETs _ [.sh (a42), .sh (z43), .sh (v44), .sh (v45)] _ _ from ets_nil))) (q1 (P := fun ds m => EE (Sta.blk _ _) (setE (wipeE _ _) _ ds) _ m) (fun v45 => (show EE _ [.sh (a42), .sh (z43), .sh (v44), .sh (v45)] _ _ from (ee_and2 (xcmp c_ne (el_of (ev 3)) (el_of (ev 2))) (ee_one (xcmp c_eq (el_of (ee_and (el_of (ev 3)) (el_of (ee_inv (el_of (ev 2)))))) (el_of ee_int)))))))))))))))))) (q1 (P := fun ds m => EE (Sta.blk _ _) (setE (wipeE _ _) _ ds) _ m) (fun v44 => (show EE _ [.sh (a42), .sh (z43), .sh (v44), .un] _ _ from (ev 2)))))))))))))))
abbrev s_check_border : Stmt := topS 13
theorem sc_check_border : FnScope ["count", "sets"] ["count", "sets"] (defScope s_check_border) := ⟨rfl, rfl, rfl, by decide +kernel, rfl, by decide +kernel, by decide +kernel⟩
def b_check_border : List D → M (Out Unit Unit) := p2 (fun a64 a65 => ((((pure (a64) : M D) >>= fun x68 => ((pure (a65) : M D) >>= fun x66 => (pure [] : M (List D)) >>= fun xs67 => pure (x66 :: xs67)) >>= fun xs69 => pure (x68 :: xs69)) >>= m_check_sets) >>= fun u76 => (((((pure (a65) : M D) >>= fun x70 => (pure [] : M (List D)) >>= fun xs71 => pure (x70 :: xs71)) >>= m_least_of) >>= fun x72 => ((pure (a65) : M D) >>= tupleD) >>= fun x73 => neB x72 x73) >>= fun b75 => (if b75 = true then ((raise 101) : M (Out (Unit) _)) else (pure (.nx ()))) >>= seqO fun s74 => (pure (.nx ())))))
def m_check_border (ds : List D) : M D := runF (b_check_border ds)
theorem o_check_border {p : Pg} (T : Txt p) {f : Addr} {fd : FuncData} (F : Fun p.K "check_border" "check_border" s_check_border f fd) (h_check_sets : Fnc p 2 "check_sets" [.v, .v] m_check_sets) (h_least_of : Fnc p 1 "least_of" [.v] m_least_of) : FnOk p.P p.w p.K p.mg p.base (L2N.CX p.P p.w) 3 f fd ["count", "sets"] (spD p [.v, .v] m_check_border) :=
  fnok_of (k := 2) (N := ["count", "sets"]) (body := b_check_border) (shN := fun _ => [.un, .un]) (shB := fun _ => []) F sc_check_border rfl (q2 (P := fun ds m => SB _ (argE _ ds ++ _) _ m _ _) (fun a64 a65 => (show SB _ [.sh (a64), .sh (a65)] _ _ _ _ from (s_expr (el_of (xcall h_check_sets (av (ev 0) (av (ev 1) eak_nil)))) (show SB _ [.sh (a64), .sh (a65)] _ _ _ _ from (sb_if (J := Unit) (shJ := fun s74 => [.sh (a64), .sh (a65)]) (tcmp c_ne (el_of (xcall h_least_of (av (ev 1) eak_nil))) (el_of (ee_tuplec (b_tuple T.b_tuple) (el_of (ev 1))))) (s_raise T.x_NotAllowed) (sb_nil (.eq (.eq Le.nil))) fun s74 => (show SB _ [.sh (a64), .sh (a65)] _ _ _ _ from (sb_nil (.un (.un Le.nil))))))))))
abbrev s_first_open : Stmt := topS 14
theorem sc_first_open : FnScope ["count", "trues", "falses", "one", "true", "false"] ["count", "trues", "falses"] (defScope s_first_open) := ⟨rfl, rfl, rfl, by decide +kernel, rfl, by decide +kernel, by decide +kernel⟩
def b_first_open : List D → M (Out Unit Unit) := p3 (fun a77 a78 a79 => ((((pure (D.int 1) : M D) >>= fun x80 => (pure (a77) : M D) >>= fun x81 => shlD x80 x81) >>= range1) >>= fun xs111 => forL (fun (s82 : Unit) x112 => nm x112 >>= p1 (fun v83 => ((((((lcM ((pure (a78) : M D) >>= items) nm (p1 (fun v84 => (pure true : M Bool))) (p1 (fun v84 => (((pure (v84) : M D) >>= fun x92 => ((pure (v83) : M D) >>= invD) >>= fun x93 => andD x92 x93) >>= fun x90 => (pure (D.int 0) : M D) >>= fun x91 => eqB x90 x91 >>= fun b89 => (pure (D.bl b89) : M D))))) >>= anyD) >>= truth) >>= fun b94 => (pure (!b94) : M Bool)) >>= fun b106 => if b106 = true then ((((lcM ((pure (a79) : M D) >>= items) nm (p1 (fun v95 => (pure true : M Bool))) (p1 (fun v95 => (((pure (v83) : M D) >>= fun x103 => ((pure (v95) : M D) >>= invD) >>= fun x104 => andD x103 x104) >>= fun x101 => (pure (D.int 0) : M D) >>= fun x102 => eqB x101 x102 >>= fun b100 => (pure (D.bl b100) : M D))))) >>= anyD) >>= truth) >>= fun b105 => (pure (!b105) : M Bool)) else (pure false : M Bool)) >>= fun b109 => (if b109 = true then (((pure (v83) : M D) >>= fun x108 => pure (.rt x108)) : M (Out (Unit) _)) else (pure (.nx ()))) >>= seqO fun s107 => (pure (.nx ()))))) () xs111 >>= seqO fun s82 => ((pure D.non : M D) >>= fun x110 => pure (.rt x110))))
def m_first_open (ds : List D) : M D := runF (b_first_open ds)
theorem o_first_open {p : Pg} (T : Txt p) {f : Addr} {fd : FuncData} (F : Fun p.K "first_open" "first_open" s_first_open f fd)  : FnOk p.P p.w p.K p.mg p.base (L2N.CX p.P p.w) 1 f fd ["count", "trues", "falses"] (spD p [.v, .v, .v] m_first_open) :=
  fnok_of (k := 0) (N := ["count", "trues", "falses", "one", "true", "false"]) (body := b_first_open) (shN := fun _ => [.un, .un, .un, .un, .un, .un]) (shB := fun _ => []) F sc_first_open rfl (q3 (P := fun ds m => SB _ (argE _ ds ++ _) _ m _ _) (fun a77 a78 a79 => (show SB _ [.sh (a77), .sh (a78), .sh (a79), .un, .un, .un] _ _ _ _ from (s_for (Z := Unit) (sh := fun s82 => [.sh (a77), .sh (a78), .sh (a79), .un, .un, .un]) (ei_range1 (by rfl) T.b_range (el_of (ee_shl (el_of ee_int) (el_of (ev 0))))) (tn 3 sc_first_open.nd) nm_pure nm_len (.eq (.eq (.eq (.un (.un (.un Le.nil)))))) (fun s82 => q1 (P := fun ds m => SB _ (setE _ _ ds) _ m _ _) (fun v83 => (show SB _ [.sh (a77), .sh (a78), .sh (a79), .sh (v83), .un, .un] _ _ _ _ from (sb_if (J := Unit) (shJ := fun s107 => [.sh (a77), .sh (a78), .sh (a79), .sh (v83), .un, .un]) (et_w (ew_and (et_not (ttr (el_of (ee_any (b_any T.b_any) (el_new (en_comp (c_lc sc_first_open.nd [("true", 4)] (ei_read (el_of (ev 1))) (tn 4 sc_first_open.nd) nm_pure nm_len (q1 (P := fun ds m => ETs (Sta.blk _ _) (setE (wipeE _ _) _ ds) _ m) (fun v84 => (show ETs _ [.sh (a77), .sh (a78), .sh (a79), .sh (v83), .sh (v84), .un] _ _ from ets_nil))) (q1 (P := fun ds m => EE (Sta.blk _ _) (setE (wipeE _ _) _ ds) _ m) (fun v84 => (show EE _ [.sh (a77), .sh (a78), .sh (a79), .sh (v83), .sh (v84), .un] _ _ from (xcmp c_eq (el_of (ee_and (el_of (ev 4)) (el_of (ee_inv (el_of (ev 3)))))) (el_of ee_int)))))))))))) (ew_and1 (et_not (ttr (el_of (ee_any (b_any T.b_any) (el_new (en_comp (c_lc sc_first_open.nd [("false", 5)] (ei_read (el_of (ev 2))) (tn 5 sc_first_open.nd) nm_pure nm_len (q1 (P := fun ds m => ETs (Sta.blk _ _) (setE (wipeE _ _) _ ds) _ m) (fun v95 => (show ETs _ [.sh (a77), .sh (a78), .sh (a79), .sh (v83), .un, .sh (v95)] _ _ from ets_nil))) (q1 (P := fun ds m => EE (Sta.blk _ _) (setE (wipeE _ _) _ ds) _ m) (fun v95 => (show EE _ [.sh (a77), .sh (a78), .sh (a79), .sh (v83), .un, .sh (v95)] _ _ from (xcmp c_eq (el_of (ee_and (el_of (ev 3)) (el_of (ee_inv (el_of (ev 5)))))) (el_of ee_int))))))))))))))) (sb_ret (ev 3)) (sb_nil (.eq (.eq (.eq (.eq (.un (.un Le.nil))))))) fun s107 => (show SB _ [.sh (a77), .sh (a78), .sh (a79), .sh (v83), .un, .un] _ _ _ _ from (sb_nil (.eq (.eq (.eq (.un (.un (.un Le.nil)))))))))))) fun s82 => (show SB _ [.sh (a77), .sh (a78), .sh (a79), .un, .un, .un] _ _ _ _ from (sb_ret ee_non))))))
abbrev s_BorderAsker___init__ : Stmt := inClass (topS 15) 0
theorem sc_BorderAsker___init__ : FnScope ["self", "count"] ["self", "count"] (defScope s_BorderAsker___init__) := ⟨rfl, rfl, rfl, by decide +kernel, rfl, by decide +kernel, by decide +kernel⟩
def b_BorderAsker___init__ : List D → M (Out Unit Unit) := p2 (fun a113 a114 => ((((pure (a114) : M D) >>= fun x115 => (pure [] : M (List D)) >>= fun xs116 => pure (x115 :: xs116)) >>= m_check_count) >>= fun u138 => ((pure (a114) : M D) >>= fun x117 => (pure (a113) : M D) >>= fun x118 => setF 0 "count" x118 x117 >>= fun u119 => (((pure [] : M (List D)) >>= mkT) >>= fun x120 => (pure (a113) : M D) >>= fun x121 => setF 0 "trues" x121 x120 >>= fun u122 => (((pure [] : M (List D)) >>= mkT) >>= fun x123 => (pure (a113) : M D) >>= fun x124 => setF 0 "falses" x124 x123 >>= fun u125 => ((pure (D.int 0) : M D) >>= fun x126 => (pure (a113) : M D) >>= fun x127 => setF 0 "asks" x127 x126 >>= fun u128 => ((pure D.non : M D) >>= fun x129 => (pure (a113) : M D) >>= fun x130 => setF 0 "here" x130 x129 >>= fun u131 => (((pure [] : M (List D)) >>= mkL) >>= fun x132 => (pure (a113) : M D) >>= fun x133 => setF 0 "left" x133 x132 >>= fun u134 => ((pure D.non : M D) >>= fun x135 => (pure (a113) : M D) >>= fun x136 => setF 0 "bit" x136 x135 >>= fun u137 => (pure (.nx ())))))))))))
def m_BorderAsker___init__ (ds : List D) : M D := runF (b_BorderAsker___init__ ds)
theorem o_BorderAsker___init__ {p : Pg} (T : Txt p) {f : Addr} {fd : FuncData} (F : Fun p.K "__init__" "BorderAsker.__init__" s_BorderAsker___init__ f fd) (h_check_count : Fnc p 1 "check_count" [.v] m_check_count) : FnOk p.P p.w p.K p.mg p.base (L2N.CX p.P p.w) 2 f fd ["self", "count"] (spD p [.v, .v] m_BorderAsker___init__) :=
  fnok_of (k := 1) (N := ["self", "count"]) (body := b_BorderAsker___init__) (shN := fun _ => [.un, .un]) (shB := fun _ => []) F sc_BorderAsker___init__ rfl (q2 (P := fun ds m => SB _ (argE _ ds ++ _) _ m _ _) (fun a113 a114 => (show SB _ [.sh (a113), .sh (a114)] _ _ _ _ from (s_expr (el_of (xcall h_check_count (av (ev 1) eak_nil))) (show SB _ [.sh (a113), .sh (a114)] _ _ _ _ from (s_fset T.k_BorderAsker (.head _) (ev 1) (ev 0) (show SB _ [.sh (a113), .sh (a114)] _ _ _ _ from (s_fset T.k_BorderAsker (.tail _ (.head _)) (ee_tup ea_nil) (ev 0) (show SB _ [.sh (a113), .sh (a114)] _ _ _ _ from (s_fset T.k_BorderAsker (.tail _ (.tail _ (.head _))) (ee_tup ea_nil) (ev 0) (show SB _ [.sh (a113), .sh (a114)] _ _ _ _ from (s_fset T.k_BorderAsker (.tail _ (.tail _ (.tail _ (.head _)))) ee_int (ev 0) (show SB _ [.sh (a113), .sh (a114)] _ _ _ _ from (s_fset T.k_BorderAsker (.tail _ (.tail _ (.tail _ (.tail _ (.head _))))) ee_non (ev 0) (show SB _ [.sh (a113), .sh (a114)] _ _ _ _ from (s_fset T.k_BorderAsker (.tail _ (.tail _ (.tail _ (.tail _ (.tail _ (.head _)))))) (ee_new (en_lst ea_nil)) (ev 0) (show SB _ [.sh (a113), .sh (a114)] _ _ _ _ from (s_fset T.k_BorderAsker (.tail _ (.tail _ (.tail _ (.tail _ (.tail _ (.tail _ (.head _))))))) ee_non (ev 0) (show SB _ [.sh (a113), .sh (a114)] _ _ _ _ from (sb_nil (.un (.un Le.nil))))))))))))))))))))))
abbrev s_BorderAsker_answer_of : Stmt := inClass (topS 15) 1
theorem sc_BorderAsker_answer_of : FnScope ["self", "one", "true", "false"] ["self", "one"] (defScope s_BorderAsker_answer_of) := ⟨rfl, rfl, rfl, by decide +kernel, rfl, by decide +kernel, by decide +kernel⟩
def b_BorderAsker_answer_of : List D → M (Out Unit Unit) := p2 (fun a139 a140 => ((((lcM (((pure (a139) : M D) >>= fldD 0 "trues") >>= items) nm (p1 (fun v141 => (pure true : M Bool))) (p1 (fun v141 => (((pure (v141) : M D) >>= fun x149 => ((pure (a140) : M D) >>= invD) >>= fun x150 => andD x149 x150) >>= fun x147 => (pure (D.int 0) : M D) >>= fun x148 => eqB x147 x148 >>= fun b146 => (pure (D.bl b146) : M D))))) >>= anyD) >>= truth) >>= fun b167 => (if b167 = true then (((pure (D.bl true) : M D) >>= fun x152 => pure (.rt x152)) : M (Out (Unit) _)) else (pure (.nx ()))) >>= seqO fun s151 => ((((lcM (((pure (a139) : M D) >>= fldD 0 "falses") >>= items) nm (p1 (fun v153 => (pure true : M Bool))) (p1 (fun v153 => (((pure (a140) : M D) >>= fun x161 => ((pure (v153) : M D) >>= invD) >>= fun x162 => andD x161 x162) >>= fun x159 => (pure (D.int 0) : M D) >>= fun x160 => eqB x159 x160 >>= fun b158 => (pure (D.bl b158) : M D))))) >>= anyD) >>= truth) >>= fun b166 => (if b166 = true then (((pure (D.bl false) : M D) >>= fun x164 => pure (.rt x164)) : M (Out (Unit) _)) else (pure (.nx ()))) >>= seqO fun s163 => ((pure D.non : M D) >>= fun x165 => pure (.rt x165)))))
def m_BorderAsker_answer_of (ds : List D) : M D := runF (b_BorderAsker_answer_of ds)
theorem o_BorderAsker_answer_of {p : Pg} (T : Txt p) {f : Addr} {fd : FuncData} (F : Fun p.K "answer_of" "BorderAsker.answer_of" s_BorderAsker_answer_of f fd)  : FnOk p.P p.w p.K p.mg p.base (L2N.CX p.P p.w) 1 f fd ["self", "one"] (spD p [.v, .v] m_BorderAsker_answer_of) :=
  fnok_of (k := 0) (N := ["self", "one", "true", "false"]) (body := b_BorderAsker_answer_of) (shN := fun _ => [.un, .un, .un, .un]) (shB := fun _ => []) F sc_BorderAsker_answer_of rfl (q2 (P := fun ds m => SB _ (argE _ ds ++ _) _ m _ _) (fun a139 a140 => (show SB _ [.sh (a139), .sh (a140), .un, .un] _ _ _ _ from (sb_if (J := Unit) (shJ := fun s151 => [.sh (a139), .sh (a140), .un, .un]) (ttr (el_of (ee_any (b_any T.b_any) (el_new (en_comp (c_lc sc_BorderAsker_answer_of.nd [("true", 2)] (ei_read (el_of (xfld T.k_BorderAsker (.tail _ (.head _)) (ev 0)))) (tn 2 sc_BorderAsker_answer_of.nd) nm_pure nm_len (q1 (P := fun ds m => ETs (Sta.blk _ _) (setE (wipeE _ _) _ ds) _ m) (fun v141 => (show ETs _ [.sh (a139), .sh (a140), .sh (v141), .un] _ _ from ets_nil))) (q1 (P := fun ds m => EE (Sta.blk _ _) (setE (wipeE _ _) _ ds) _ m) (fun v141 => (show EE _ [.sh (a139), .sh (a140), .sh (v141), .un] _ _ from (xcmp c_eq (el_of (ee_and (el_of (ev 2)) (el_of (ee_inv (el_of (ev 1)))))) (el_of ee_int))))))))))) (sb_ret ee_bl) (sb_nil (.eq (.eq (.un (.un Le.nil))))) fun s151 => (show SB _ [.sh (a139), .sh (a140), .un, .un] _ _ _ _ from (sb_if (J := Unit) (shJ := fun s163 => [.sh (a139), .sh (a140), .un, .un]) (ttr (el_of (ee_any (b_any T.b_any) (el_new (en_comp (c_lc sc_BorderAsker_answer_of.nd [("false", 3)] (ei_read (el_of (xfld T.k_BorderAsker (.tail _ (.tail _ (.head _))) (ev 0)))) (tn 3 sc_BorderAsker_answer_of.nd) nm_pure nm_len (q1 (P := fun ds m => ETs (Sta.blk _ _) (setE (wipeE _ _) _ ds) _ m) (fun v153 => (show ETs _ [.sh (a139), .sh (a140), .un, .sh (v153)] _ _ from ets_nil))) (q1 (P := fun ds m => EE (Sta.blk _ _) (setE (wipeE _ _) _ ds) _ m) (fun v153 => (show EE _ [.sh (a139), .sh (a140), .un, .sh (v153)] _ _ from (xcmp c_eq (el_of (ee_and (el_of (ev 1)) (el_of (ee_inv (el_of (ev 3)))))) (el_of ee_int))))))))))) (sb_ret ee_bl) (sb_nil (.eq (.eq (.un (.un Le.nil))))) fun s163 => (show SB _ [.sh (a139), .sh (a140), .un, .un] _ _ _ _ from (sb_ret ee_non))))))))
abbrev s_BorderAsker_tried : Stmt := inClass (topS 15) 2
theorem sc_BorderAsker_tried : FnScope ["self", "thing"] ["self"] (defScope s_BorderAsker_tried) := ⟨rfl, rfl, rfl, by decide +kernel, rfl, by decide +kernel, by decide +kernel⟩
def b_BorderAsker_tried : List D → M (Out Unit Unit) := p1 (fun a168 => (((pure (D.int 1) : M D) >>= fun x172 => (((pure (a168) : M D) >>= fldD 0 "left") >>= fun x170 => (pure (D.int 0) : M D) >>= fun x171 => ixD x170 x171) >>= fun x173 => shlD x172 x173) >>= fun z169 => (((((pure (a168) : M D) >>= fldD 0 "bit") >>= truth) >>= fun b178 => if b178 = true then (((pure (a168) : M D) >>= fldD 0 "here") >>= fun x174 => ((pure (z169) : M D) >>= invD) >>= fun x175 => andD x174 x175) else (((pure (a168) : M D) >>= fldD 0 "here") >>= fun x176 => (pure (z169) : M D) >>= fun x177 => orD x176 x177)) >>= fun x179 => pure (.rt x179))))
def m_BorderAsker_tried (ds : List D) : M D := runF (b_BorderAsker_tried ds)
theorem o_BorderAsker_tried {p : Pg} (T : Txt p) {f : Addr} {fd : FuncData} (F : Fun p.K "tried" "BorderAsker.tried" s_BorderAsker_tried f fd)  : FnOk p.P p.w p.K p.mg p.base (L2N.CX p.P p.w) 1 f fd ["self"] (spD p [.v] m_BorderAsker_tried) :=
  fnok_of (k := 0) (N := ["self", "thing"]) (body := b_BorderAsker_tried) (shN := fun _ => [.un, .un]) (shB := fun _ => []) F sc_BorderAsker_tried rfl (q1 (P := fun ds m => SB _ (argE _ ds ++ _) _ m _ _) (fun a168 => (show SB _ [.sh (a168), .un] _ _ _ _ from (s_set 1 sc_BorderAsker_tried.nd (ee_shl (el_of ee_int) (el_of (xix (el_of (xfld T.k_BorderAsker (.tail _ (.tail _ (.tail _ (.tail _ (.tail _ (.head _)))))) (ev 0))) (el_of ee_int)))) (fun z169 => (show SB _ [.sh (a168), .sh (z169)] _ _ _ _ from (sb_ret (ex_if back_RE (ttr (el_of (xfld T.k_BorderAsker (.tail _ (.tail _ (.tail _ (.tail _ (.tail _ (.tail _ (.head _))))))) (ev 0)))) (ee_and (el_of (xfld T.k_BorderAsker (.tail _ (.tail _ (.tail _ (.tail _ (.head _))))) (ev 0))) (el_of (ee_inv (el_of (ev 1))))) (ee_or (el_of (xfld T.k_BorderAsker (.tail _ (.tail _ (.tail _ (.tail _ (.head _))))) (ev 0))) (el_of (ev 1)))))))))))
abbrev s_BorderAsker_go_on : Stmt := inClass (topS 15) 3
theorem sc_BorderAsker_go_on : FnScope ["self", "known"] ["self"] (defScope s_BorderAsker_go_on) := ⟨rfl, rfl, rfl, by decide +kernel, rfl, by decide +kernel, by decide +kernel⟩
def b_BorderAsker_go_on : List D → M (Out Unit Unit) := p1 (fun a180 => (whileL (fun (s181 : Unit) => (((pure (a180) : M D) >>= fldD 0 "here") >>= fun x182 => (pure D.non : M D) >>= fun x183 => notNoneB x182 x183)) (fun s181 => (((((pure (a180) : M D) >>= fldD 0 "left") >>= lenD) >>= fun x184 => (pure (D.int 0) : M D) >>= fun x185 => eqB x184 x185) >>= fun b230 => (if b230 = true then (((((pure (a180) : M D) >>= fldD 0 "bit") >>= truth) >>= fun b209 => (if b209 = true then ((((((((pure (a180) : M D) >>= fldD 0 "trues") >>= fun x191 => items x191 >>= fun xs192 => (((pure (a180) : M D) >>= fldD 0 "here") >>= fun x188 => (pure [] : M (List D)) >>= fun xs189 => pure (x188 :: xs189)) >>= fun ys193 => pure (xs192 ++ ys193)) >>= mkT) >>= sortedD) >>= tupleD) >>= fun x194 => (pure (a180) : M D) >>= fun x195 => setF 0 "trues" x195 x194 >>= fun u196 => (pure (.nx ()))) : M (Out (Unit) _)) else (((((((pure (a180) : M D) >>= fldD 0 "falses") >>= fun x200 => items x200 >>= fun xs201 => (((pure (a180) : M D) >>= fldD 0 "here") >>= fun x197 => (pure [] : M (List D)) >>= fun xs198 => pure (x197 :: xs198)) >>= fun ys202 => pure (xs201 ++ ys202)) >>= mkT) >>= sortedD) >>= tupleD) >>= fun x203 => (pure (a180) : M D) >>= fun x204 => setF 0 "falses" x204 x203 >>= fun u205 => (pure (.nx ())))) >>= seqO fun s187 => ((pure D.non : M D) >>= fun x206 => (pure (a180) : M D) >>= fun x207 => setF 0 "here" x207 x206 >>= fun u208 => (pure (.rt D.non)))) : M (Out (Unit) _)) else (pure (.nx ()))) >>= seqO fun s186 => ((mthM 0 "answer_of" (pure (a180) : M D) ((mthM 0 "tried" (pure (a180) : M D) (pure []) m_BorderAsker_tried) >>= fun x211 => (pure [] : M (List D)) >>= fun xs212 => pure (x211 :: xs212)) m_BorderAsker_answer_of) >>= fun z210 => (((pure (z210) : M D) >>= fun x213 => (pure D.non : M D) >>= fun x214 => isNoneB x213 x214) >>= fun b229 => (if b229 = true then ((pure (.rt D.non)) : M (Out (Unit) _)) else (pure (.nx ()))) >>= seqO fun s215 => (((pure (z210) : M D) >>= fun x216 => ((pure (a180) : M D) >>= fldD 0 "bit") >>= fun x217 => eqB x216 x217) >>= fun b228 => (if b228 = true then (((mthM 0 "tried" (pure (a180) : M D) (pure []) m_BorderAsker_tried) >>= fun x219 => (pure (a180) : M D) >>= fun x220 => setF 0 "here" x220 x219 >>= fun u221 => (pure (.nx ()))) : M (Out (Unit) _)) else (pure (.nx ()))) >>= seqO fun s218 => ((((pure (a180) : M D) >>= fldD 0 "left") >>= fun x222 => ((pure (D.int 1) : M D) >>= intM) >>= fun l223 => (pure none : M (Option Int)) >>= fun h224 => slL l223 h224 x222) >>= fun x225 => (pure (a180) : M D) >>= fun x226 => setF 0 "left" x226 x225 >>= fun u227 => (pure (.nx ())))))))) 1000 () >>= seqO fun s181 => (pure (.nx ()))))
def m_BorderAsker_go_on (ds : List D) : M D := runF (b_BorderAsker_go_on ds)
theorem o_BorderAsker_go_on {p : Pg} (T : Txt p) {f : Addr} {fd : FuncData} (F : Fun p.K "go_on" "BorderAsker.go_on" s_BorderAsker_go_on f fd) (h_BorderAsker_answer_of : Mtd p 0 1 "answer_of" [.v, .v] m_BorderAsker_answer_of) (h_BorderAsker_tried : Mtd p 0 1 "tried" [.v] m_BorderAsker_tried) : FnOk p.P p.w p.K p.mg p.base (L2N.CX p.P p.w) 2 f fd ["self"] (spD p [.v] m_BorderAsker_go_on) :=
  fnok_of (k := 1) (N := ["self", "known"]) (body := b_BorderAsker_go_on) (shN := fun _ => [.un, .un]) (shB := fun _ => []) F sc_BorderAsker_go_on rfl (q1 (P := fun ds m => SB _ (argE _ ds ++ _) _ m _ _) (fun a180 => (show SB _ [.sh (a180), .un] _ _ _ _ from (sb_while (Z := Unit) (sh := fun s181 => [.sh (a180), .un]) (fun s181 => (show ET _ [.sh (a180), .un] _ _ from (tcmp c_nis (el_of (xfld T.k_BorderAsker (.tail _ (.tail _ (.tail _ (.tail _ (.head _))))) (ev 0))) (el_of ee_non)))) (.eq (.un Le.nil)) (fun s181 => (show SB _ [.sh (a180), .un] _ _ _ _ from (sb_if (J := Unit) (shJ := fun s186 => [.sh (a180), .un]) (tcmp c_eq (el_of (ee_len (b_len T.b_len) (el_of (xfld T.k_BorderAsker (.tail _ (.tail _ (.tail _ (.tail _ (.tail _ (.head _)))))) (ev 0))))) (el_of ee_int)) (sb_if (J := Unit) (shJ := fun s187 => [.sh (a180), .un]) (ttr (el_of (xfld T.k_BorderAsker (.tail _ (.tail _ (.tail _ (.tail _ (.tail _ (.tail _ (.head _))))))) (ev 0)))) (s_fset T.k_BorderAsker (.tail _ (.head _)) (ee_tuplec (b_tuple T.b_tuple) (el_new (en_sorted (b_sorted T.b_sorted) (el_of (ee_tup (ea_star (el_of (xfld T.k_BorderAsker (.tail _ (.head _)) (ev 0))) (ea_cons (xfld T.k_BorderAsker (.tail _ (.tail _ (.tail _ (.tail _ (.head _))))) (ev 0)) ea_nil))))))) (ev 0) (show SB _ [.sh (a180), .un] _ _ _ _ from (sb_nil (.eq (.un Le.nil))))) (s_fset T.k_BorderAsker (.tail _ (.tail _ (.head _))) (ee_tuplec (b_tuple T.b_tuple) (el_new (en_sorted (b_sorted T.b_sorted) (el_of (ee_tup (ea_star (el_of (xfld T.k_BorderAsker (.tail _ (.tail _ (.head _))) (ev 0))) (ea_cons (xfld T.k_BorderAsker (.tail _ (.tail _ (.tail _ (.tail _ (.head _))))) (ev 0)) ea_nil))))))) (ev 0) (show SB _ [.sh (a180), .un] _ _ _ _ from (sb_nil (.eq (.un Le.nil))))) fun s187 => (show SB _ [.sh (a180), .un] _ _ _ _ from (s_fset T.k_BorderAsker (.tail _ (.tail _ (.tail _ (.tail _ (.head _))))) ee_non (ev 0) (show SB _ [.sh (a180), .un] _ _ _ _ from sb_retN)))) (sb_nil (.eq (.un Le.nil))) fun s186 => (show SB _ [.sh (a180), .un] _ _ _ _ from (s_set 1 sc_BorderAsker_go_on.nd (xmeth T.k_BorderAsker h_BorderAsker_answer_of (ev 0) (av (xmeth0 T.k_BorderAsker h_BorderAsker_tried (ev 0)) eak_nil)) (fun z210 => (show SB _ [.sh (a180), .sh (z210)] _ _ _ _ from (sb_if (J := Unit) (shJ := fun s215 => [.sh (a180), .sh (z210)]) (tcmp c_is (el_of (ev 1)) (el_of ee_non)) sb_retN (sb_nil (.eq (.eq Le.nil))) fun s215 => (show SB _ [.sh (a180), .sh (z210)] _ _ _ _ from (sb_if (J := Unit) (shJ := fun s218 => [.sh (a180), .sh (z210)]) (tcmp c_eq (el_of (ev 1)) (el_of (xfld T.k_BorderAsker (.tail _ (.tail _ (.tail _ (.tail _ (.tail _ (.tail _ (.head _))))))) (ev 0)))) (s_fset T.k_BorderAsker (.tail _ (.tail _ (.tail _ (.tail _ (.head _))))) (xmeth0 T.k_BorderAsker h_BorderAsker_tried (ev 0)) (ev 0) (show SB _ [.sh (a180), .sh (z210)] _ _ _ _ from (sb_nil (.eq (.eq Le.nil))))) (sb_nil (.eq (.eq Le.nil))) fun s218 => (show SB _ [.sh (a180), .sh (z210)] _ _ _ _ from (s_fset T.k_BorderAsker (.tail _ (.tail _ (.tail _ (.tail _ (.tail _ (.head _)))))) (ee_new (en_slL (el_of (xfld T.k_BorderAsker (.tail _ (.tail _ (.tail _ (.tail _ (.tail _ (.head _)))))) (ev 0))) (eo_some (el_of ee_int)) eo_none)) (ev 0) (show SB _ [.sh (a180), .sh (z210)] _ _ _ _ from (sb_nil (.eq (.un Le.nil)))))))))))))))) fun s181 => (show SB _ [.sh (a180), .un] _ _ _ _ from (sb_nil (.un (.un Le.nil))))))))
abbrev s_BorderAsker_step : Stmt := inClass (topS 15) 4
theorem sc_BorderAsker_step : FnScope ["self", "found"] ["self"] (defScope s_BorderAsker_step) := ⟨rfl, rfl, rfl, by decide +kernel, rfl, by decide +kernel, by decide +kernel⟩
def b_BorderAsker_step : List D → M (Out Unit Unit) := p1 (fun a231 => ((((pure (a231) : M D) >>= fldD 0 "here") >>= fun x232 => (pure D.non : M D) >>= fun x233 => notNoneB x232 x233) >>= fun b270 => (if b270 = true then (((((pure (D.str "ask") : M D) >>= fun x238 => ((mthM 0 "tried" (pure (a231) : M D) (pure []) m_BorderAsker_tried) >>= fun x235 => (pure [] : M (List D)) >>= fun xs236 => pure (x235 :: xs236)) >>= fun xs239 => pure (x238 :: xs239)) >>= mkT) >>= fun x241 => pure (.rt x241)) : M (Out (Unit) _)) else (pure (.nx ()))) >>= seqO fun s234 => (((((pure (a231) : M D) >>= fldD 0 "count") >>= fun x247 => (((pure (a231) : M D) >>= fldD 0 "trues") >>= fun x245 => (((pure (a231) : M D) >>= fldD 0 "falses") >>= fun x243 => (pure [] : M (List D)) >>= fun xs244 => pure (x243 :: xs244)) >>= fun xs246 => pure (x245 :: xs246)) >>= fun xs248 => pure (x247 :: xs248)) >>= m_first_open) >>= fun z242 => (((pure (z242) : M D) >>= fun x249 => (pure D.non : M D) >>= fun x250 => isNoneB x249 x250) >>= fun b269 => (if b269 = true then (((((pure (D.str "known") : M D) >>= fun x258 => (((pure (a231) : M D) >>= fldD 0 "trues") >>= fun x255 => (((pure (a231) : M D) >>= fldD 0 "falses") >>= fun x252 => (pure [] : M (List D)) >>= fun xs253 => pure (x252 :: xs253)) >>= fun xs256 => pure (x255 :: xs256)) >>= fun xs259 => pure (x258 :: xs259)) >>= mkT) >>= fun x261 => pure (.rt x261)) : M (Out (Unit) _)) else (pure (.nx ()))) >>= seqO fun s251 => ((((pure (D.str "ask") : M D) >>= fun x265 => ((pure (z242) : M D) >>= fun x262 => (pure [] : M (List D)) >>= fun xs263 => pure (x262 :: xs263)) >>= fun xs266 => pure (x265 :: xs266)) >>= mkT) >>= fun x268 => pure (.rt x268))))))
def m_BorderAsker_step (ds : List D) : M D := runF (b_BorderAsker_step ds)
theorem o_BorderAsker_step {p : Pg} (T : Txt p) {f : Addr} {fd : FuncData} (F : Fun p.K "step" "BorderAsker.step" s_BorderAsker_step f fd) (h_BorderAsker_tried : Mtd p 0 1 "tried" [.v] m_BorderAsker_tried) (h_first_open : Fnc p 1 "first_open" [.v, .v, .v] m_first_open) : FnOk p.P p.w p.K p.mg p.base (L2N.CX p.P p.w) 2 f fd ["self"] (spD p [.v] m_BorderAsker_step) :=
  fnok_of (k := 1) (N := ["self", "found"]) (body := b_BorderAsker_step) (shN := fun _ => [.un, .un]) (shB := fun _ => []) F sc_BorderAsker_step rfl (q1 (P := fun ds m => SB _ (argE _ ds ++ _) _ m _ _) (fun a231 => (show SB _ [.sh (a231), .un] _ _ _ _ from (sb_if (J := Unit) (shJ := fun s234 => [.sh (a231), .un]) (tcmp c_nis (el_of (xfld T.k_BorderAsker (.tail _ (.tail _ (.tail _ (.tail _ (.head _))))) (ev 0))) (el_of ee_non)) (sb_ret (ee_tup (ea_cons ee_str (ea_cons (xmeth0 T.k_BorderAsker h_BorderAsker_tried (ev 0)) ea_nil)))) (sb_nil (.eq (.un Le.nil))) fun s234 => (show SB _ [.sh (a231), .un] _ _ _ _ from (s_set 1 sc_BorderAsker_step.nd (xcall h_first_open (av (xfld T.k_BorderAsker (.head _) (ev 0)) (av (xfld T.k_BorderAsker (.tail _ (.head _)) (ev 0)) (av (xfld T.k_BorderAsker (.tail _ (.tail _ (.head _))) (ev 0)) eak_nil)))) (fun z242 => (show SB _ [.sh (a231), .sh (z242)] _ _ _ _ from (sb_if (J := Unit) (shJ := fun s251 => [.sh (a231), .sh (z242)]) (tcmp c_is (el_of (ev 1)) (el_of ee_non)) (sb_ret (ee_tup (ea_cons ee_str (ea_cons (xfld T.k_BorderAsker (.tail _ (.head _)) (ev 0)) (ea_cons (xfld T.k_BorderAsker (.tail _ (.tail _ (.head _))) (ev 0)) ea_nil))))) (sb_nil (.eq (.eq Le.nil))) fun s251 => (show SB _ [.sh (a231), .sh (z242)] _ _ _ _ from (sb_ret (ee_tup (ea_cons ee_str (ea_cons (ev 1) ea_nil))))))))))))))
abbrev s_BorderAsker_tell : Stmt := inClass (topS 15) 5
theorem sc_BorderAsker_tell : FnScope ["self", "bit", "step", "inside", "thing"] ["self", "bit"] (defScope s_BorderAsker_tell) := ⟨rfl, rfl, rfl, by decide +kernel, rfl, by decide +kernel, by decide +kernel⟩
def b_BorderAsker_tell : List D → M (Out Unit Unit) := p2 (fun a271 a272 => ((mthM 0 "step" (pure (a271) : M D) (pure []) m_BorderAsker_step) >>= fun z273 => ((((pure (z273) : M D) >>= fun x274 => (pure (D.int 0) : M D) >>= fun x275 => ixD x274 x275) >>= fun x276 => (pure (D.str "known") : M D) >>= fun x277 => eqB x276 x277) >>= fun b324 => (if b324 = true then ((raise 103) : M (Out (Unit) _)) else (pure (.nx ()))) >>= seqO fun s278 => ((pure (a271) : M D) >>= fun x279 => fldD 0 "asks" x279 >>= fun u280 => (pure (D.int 1) : M D) >>= fun x281 => addI u280 x281 >>= fun z282 => setF 0 "asks" x279 z282 >>= fun u283 => ((((pure (a271) : M D) >>= fldD 0 "here") >>= fun x284 => (pure D.non : M D) >>= fun x285 => isNoneB x284 x285) >>= fun b323 => (if b323 = true then ((((pure (z273) : M D) >>= fun x287 => (pure (D.int 1) : M D) >>= fun x288 => ixD x287 x288) >>= fun x289 => (pure (a271) : M D) >>= fun x290 => setF 0 "here" x290 x289 >>= fun u291 => ((pure (a272) : M D) >>= fun x292 => (pure (a271) : M D) >>= fun x293 => setF 0 "bit" x293 x292 >>= fun u294 => (((((pure (z273) : M D) >>= fun x296 => (pure (D.int 1) : M D) >>= fun x297 => ixD x296 x297) >>= fun x298 => (pure [] : M (List D)) >>= fun xs299 => pure (x298 :: xs299)) >>= m_things_in) >>= fun z295 => ((((pure (a272) : M D) >>= truth) >>= fun b303 => if b303 = true then (pure (z295) : M D) else (lcM (((pure (a271) : M D) >>= fldD 0 "count") >>= range1) nm (p1 (fun v300 => ((pure (v300) : M D) >>= fun x301 => (pure (z295) : M D) >>= fun x302 => inB true x301 x302))) (p1 (fun v300 => (pure (v300) : M D))))) >>= fun x304 => (pure (a271) : M D) >>= fun x305 => setF 0 "left" x305 x304 >>= fun u306 => (pure (.nx ())))))) : M (Out (Unit) _)) else (((pure (a272) : M D) >>= fun x307 => ((pure (a271) : M D) >>= fldD 0 "bit") >>= fun x308 => eqB x307 x308) >>= fun b321 => (if b321 = true then ((((pure (z273) : M D) >>= fun x310 => (pure (D.int 1) : M D) >>= fun x311 => ixD x310 x311) >>= fun x312 => (pure (a271) : M D) >>= fun x313 => setF 0 "here" x313 x312 >>= fun u314 => (pure (.nx ()))) : M (Out (Unit) _)) else (pure (.nx ()))) >>= seqO fun s309 => ((((pure (a271) : M D) >>= fldD 0 "left") >>= fun x315 => ((pure (D.int 1) : M D) >>= intM) >>= fun l316 => (pure none : M (Option Int)) >>= fun h317 => slL l316 h317 x315) >>= fun x318 => (pure (a271) : M D) >>= fun x319 => setF 0 "left" x319 x318 >>= fun u320 => (pure (.nx ()))))) >>= seqO fun s286 => ((mthM 0 "go_on" (pure (a271) : M D) (pure []) m_BorderAsker_go_on) >>= fun u322 => (pure (.nx ()))))))))
def m_BorderAsker_tell (ds : List D) : M D := runF (b_BorderAsker_tell ds)
theorem o_BorderAsker_tell {p : Pg} (T : Txt p) {f : Addr} {fd : FuncData} (F : Fun p.K "tell" "BorderAsker.tell" s_BorderAsker_tell f fd) (h_BorderAsker_step : Mtd p 0 2 "step" [.v] m_BorderAsker_step) (h_things_in : Fnc p 1 "things_in" [.v] m_things_in) (h_BorderAsker_go_on : Mtd p 0 2 "go_on" [.v] m_BorderAsker_go_on) : FnOk p.P p.w p.K p.mg p.base (L2N.CX p.P p.w) 3 f fd ["self", "bit"] (spD p [.v, .v] m_BorderAsker_tell) :=
  fnok_of (k := 2) (N := ["self", "bit", "step", "inside", "thing"]) (body := b_BorderAsker_tell) (shN := fun _ => [.un, .un, .un, .un, .un]) (shB := fun _ => []) F sc_BorderAsker_tell rfl (q2 (P := fun ds m => SB _ (argE _ ds ++ _) _ m _ _) (fun a271 a272 => (show SB _ [.sh (a271), .sh (a272), .un, .un, .un] _ _ _ _ from (s_set 2 sc_BorderAsker_tell.nd (xmeth0 T.k_BorderAsker h_BorderAsker_step (ev 0)) (fun z273 => (show SB _ [.sh (a271), .sh (a272), .sh (z273), .un, .un] _ _ _ _ from (sb_if (J := Unit) (shJ := fun s278 => [.sh (a271), .sh (a272), .sh (z273), .un, .un]) (tcmp c_eq (el_of (xix (el_of (ev 2)) (el_of ee_int))) (el_of ee_str)) (s_raise T.x_Wrong) (sb_nil (.eq (.eq (.eq (.un (.un Le.nil)))))) fun s278 => (show SB _ [.sh (a271), .sh (a272), .sh (z273), .un, .un] _ _ _ _ from (s_faug T.k_BorderAsker (.tail _ (.tail _ (.tail _ (.head _)))) (ev 0) ee_int (show SB _ [.sh (a271), .sh (a272), .sh (z273), .un, .un] _ _ _ _ from (sb_if (J := Unit) (shJ := fun s286 => [.sh (a271), .sh (a272), .sh (z273), .un, .un]) (tcmp c_is (el_of (xfld T.k_BorderAsker (.tail _ (.tail _ (.tail _ (.tail _ (.head _))))) (ev 0))) (el_of ee_non)) (s_fset T.k_BorderAsker (.tail _ (.tail _ (.tail _ (.tail _ (.head _))))) (xix (el_of (ev 2)) (el_of ee_int)) (ev 0) (show SB _ [.sh (a271), .sh (a272), .sh (z273), .un, .un] _ _ _ _ from (s_fset T.k_BorderAsker (.tail _ (.tail _ (.tail _ (.tail _ (.tail _ (.tail _ (.head _))))))) (ev 1) (ev 0) (show SB _ [.sh (a271), .sh (a272), .sh (z273), .un, .un] _ _ _ _ from (s_set 3 sc_BorderAsker_tell.nd (xcall h_things_in (av (xix (el_of (ev 2)) (el_of ee_int)) eak_nil)) (fun z295 => (show SB _ [.sh (a271), .sh (a272), .sh (z273), .sh (z295), .un] _ _ _ _ from (s_fset T.k_BorderAsker (.tail _ (.tail _ (.tail _ (.tail _ (.tail _ (.head _)))))) (ex_if back_RE (ttr (el_of (ev 1))) (ev 3) (ee_new (en_comp (c_lc sc_BorderAsker_tell.nd [("thing", 4)] (ei_range1 (by rfl) T.b_range (el_of (xfld T.k_BorderAsker (.head _) (ev 0)))) (tn 4 sc_BorderAsker_tell.nd) nm_pure nm_len (q1 (P := fun ds m => ETs (Sta.blk _ _) (setE (wipeE _ _) _ ds) _ m) (fun v300 => (show ETs _ [.sh (a271), .sh (a272), .sh (z273), .sh (z295), .sh (v300)] _ _ from (ets_one (tcmp c_nin (el_of (ev 4)) (el_of (ev 3))))))) (q1 (P := fun ds m => EE (Sta.blk _ _) (setE (wipeE _ _) _ ds) _ m) (fun v300 => (show EE _ [.sh (a271), .sh (a272), .sh (z273), .sh (z295), .sh (v300)] _ _ from (ev 4)))))))) (ev 0) (show SB _ [.sh (a271), .sh (a272), .sh (z273), .sh (z295), .un] _ _ _ _ from (sb_nil (.eq (.eq (.eq (.un (.un Le.nil))))))))))))))) (sb_if (J := Unit) (shJ := fun s309 => [.sh (a271), .sh (a272), .sh (z273), .un, .un]) (tcmp c_eq (el_of (ev 1)) (el_of (xfld T.k_BorderAsker (.tail _ (.tail _ (.tail _ (.tail _ (.tail _ (.tail _ (.head _))))))) (ev 0)))) (s_fset T.k_BorderAsker (.tail _ (.tail _ (.tail _ (.tail _ (.head _))))) (xix (el_of (ev 2)) (el_of ee_int)) (ev 0) (show SB _ [.sh (a271), .sh (a272), .sh (z273), .un, .un] _ _ _ _ from (sb_nil (.eq (.eq (.eq (.un (.un Le.nil)))))))) (sb_nil (.eq (.eq (.eq (.un (.un Le.nil)))))) fun s309 => (show SB _ [.sh (a271), .sh (a272), .sh (z273), .un, .un] _ _ _ _ from (s_fset T.k_BorderAsker (.tail _ (.tail _ (.tail _ (.tail _ (.tail _ (.head _)))))) (ee_new (en_slL (el_of (xfld T.k_BorderAsker (.tail _ (.tail _ (.tail _ (.tail _ (.tail _ (.head _)))))) (ev 0))) (eo_some (el_of ee_int)) eo_none)) (ev 0) (show SB _ [.sh (a271), .sh (a272), .sh (z273), .un, .un] _ _ _ _ from (sb_nil (.eq (.eq (.eq (.un (.un Le.nil)))))))))) fun s286 => (show SB _ [.sh (a271), .sh (a272), .sh (z273), .un, .un] _ _ _ _ from (s_expr (el_of (xmeth0 T.k_BorderAsker h_BorderAsker_go_on (ev 0))) (show SB _ [.sh (a271), .sh (a272), .sh (z273), .un, .un] _ _ _ _ from (sb_nil (.un (.un (.un (.un (.un Le.nil))))))))))))))))))))
abbrev s_BorderAsker_asked : Stmt := inClass (topS 15) 6
theorem sc_BorderAsker_asked : FnScope ["self"] ["self"] (defScope s_BorderAsker_asked) := ⟨rfl, rfl, rfl, by decide +kernel, rfl, by decide +kernel, by decide +kernel⟩
def b_BorderAsker_asked : List D → M (Out Unit Unit) := p1 (fun a325 => (((pure (a325) : M D) >>= fldD 0 "asks") >>= fun x326 => pure (.rt x326)))
def m_BorderAsker_asked (ds : List D) : M D := runF (b_BorderAsker_asked ds)
theorem o_BorderAsker_asked {p : Pg} (T : Txt p) {f : Addr} {fd : FuncData} (F : Fun p.K "asked" "BorderAsker.asked" s_BorderAsker_asked f fd)  : FnOk p.P p.w p.K p.mg p.base (L2N.CX p.P p.w) 1 f fd ["self"] (spD p [.v] m_BorderAsker_asked) :=
  fnok_of (k := 0) (N := ["self"]) (body := b_BorderAsker_asked) (shN := fun _ => [.un]) (shB := fun _ => []) F sc_BorderAsker_asked rfl (q1 (P := fun ds m => SB _ (argE _ ds ++ _) _ m _ _) (fun a325 => (show SB _ [.sh (a325)] _ _ _ _ from (sb_ret (xfld T.k_BorderAsker (.tail _ (.tail _ (.tail _ (.head _)))) (ev 0))))))
abbrev s_asks_for : Stmt := topS 16
theorem sc_asks_for : FnScope ["count", "trues", "asker", "step", "true"] ["count", "trues"] (defScope s_asks_for) := ⟨rfl, rfl, rfl, by decide +kernel, rfl, by decide +kernel, by decide +kernel⟩
def b_asks_for : List D → M (Out Unit Unit) := p2 (fun a327 a328 => ((((pure (a327) : M D) >>= fun x331 => ((pure (a328) : M D) >>= fun x329 => (pure [] : M (List D)) >>= fun xs330 => pure (x329 :: xs330)) >>= fun xs332 => pure (x331 :: xs332)) >>= m_check_border) >>= fun u361 => ((mkM 0 ((pure (a327) : M D) >>= fun x334 => (pure [] : M (List D)) >>= fun xs335 => pure (x334 :: xs335)) m_BorderAsker___init__) >>= fun z333 => ((mthM 0 "step" (pure (z333) : M D) (pure []) m_BorderAsker_step) >>= fun z336 => (whileL (fun (s337 : D) => (((pure (s337) : M D) >>= fun x338 => (pure (D.int 0) : M D) >>= fun x339 => ixD x338 x339) >>= fun x340 => (pure (D.str "ask") : M D) >>= fun x341 => eqB x340 x341)) (fun s337 => ((mthM 0 "tell" (pure (z333) : M D) (((lcM ((pure (a328) : M D) >>= items) nm (p1 (fun v342 => (pure true : M Bool))) (p1 (fun v342 => (((pure (v342) : M D) >>= fun x354 => (((pure (s337) : M D) >>= fun x352 => (pure (D.int 1) : M D) >>= fun x353 => ixD x352 x353) >>= invD) >>= fun x355 => andD x354 x355) >>= fun x350 => (pure (D.int 0) : M D) >>= fun x351 => eqB x350 x351 >>= fun b349 => (pure (D.bl b349) : M D))))) >>= anyD) >>= fun x356 => (pure [] : M (List D)) >>= fun xs357 => pure (x356 :: xs357)) m_BorderAsker_tell) >>= fun u359 => ((mthM 0 "step" (pure (z333) : M D) (pure []) m_BorderAsker_step) >>= fun z358 => (pure (.nx (z358)))))) 3000 (z336) >>= seqO fun s337 => ((mthM 0 "asked" (pure (z333) : M D) (pure []) m_BorderAsker_asked) >>= fun x360 => pure (.rt x360)))))))
def m_asks_for (ds : List D) : M D := runF (b_asks_for ds)
theorem o_asks_for {p : Pg} (T : Txt p) {f : Addr} {fd : FuncData} (F : Fun p.K "asks_for" "asks_for" s_asks_for f fd) (h_check_border : Fnc p 3 "check_border" [.v, .v] m_check_border) (h_BorderAsker___init__ : Mkr p 0 2 "BorderAsker" [.v, .v] m_BorderAsker___init__) (h_BorderAsker_step : Mtd p 0 2 "step" [.v] m_BorderAsker_step) (h_BorderAsker_tell : Mtd p 0 3 "tell" [.v, .v] m_BorderAsker_tell) (h_BorderAsker_asked : Mtd p 0 1 "asked" [.v] m_BorderAsker_asked) : FnOk p.P p.w p.K p.mg p.base (L2N.CX p.P p.w) 4 f fd ["count", "trues"] (spD p [.v, .v] m_asks_for) :=
  fnok_of (k := 3) (N := ["count", "trues", "asker", "step", "true"]) (body := b_asks_for) (shN := fun _ => [.un, .un, .un, .un, .un]) (shB := fun _ => []) F sc_asks_for rfl (q2 (P := fun ds m => SB _ (argE _ ds ++ _) _ m _ _) (fun a327 a328 => (show SB _ [.sh (a327), .sh (a328), .un, .un, .un] _ _ _ _ from (s_expr (el_of (xcall h_check_border (av (ev 0) (av (ev 1) eak_nil)))) (show SB _ [.sh (a327), .sh (a328), .un, .un, .un] _ _ _ _ from (s_set 2 sc_asks_for.nd (xmake h_BorderAsker___init__ (av (ev 0) eak_nil)) (fun z333 => (show SB _ [.sh (a327), .sh (a328), .sh (z333), .un, .un] _ _ _ _ from (s_set 3 sc_asks_for.nd (xmeth0 T.k_BorderAsker h_BorderAsker_step (ev 2)) (fun z336 => (show SB _ [.sh (a327), .sh (a328), .sh (z333), .sh (z336), .un] _ _ _ _ from (sb_while (Z := D) (sh := fun s337 => [.sh (a327), .sh (a328), .sh (z333), .sh (s337), .un]) (fun s337 => (show ET _ [.sh (a327), .sh (a328), .sh (z333), .sh (s337), .un] _ _ from (tcmp c_eq (el_of (xix (el_of (ev 3)) (el_of ee_int))) (el_of ee_str)))) (.eq (.eq (.eq (.eq (.un Le.nil))))) (fun s337 => (show SB _ [.sh (a327), .sh (a328), .sh (z333), .sh (s337), .un] _ _ _ _ from (s_expr (el_of (xmeth T.k_BorderAsker h_BorderAsker_tell (ev 2) (av (ee_any (b_any T.b_any) (el_new (en_comp (c_lc sc_asks_for.nd [("true", 4)] (ei_read (el_of (ev 1))) (tn 4 sc_asks_for.nd) nm_pure nm_len (q1 (P := fun ds m => ETs (Sta.blk _ _) (setE (wipeE _ _) _ ds) _ m) (fun v342 => (show ETs _ [.sh (a327), .sh (a328), .sh (z333), .sh (s337), .sh (v342)] _ _ from ets_nil))) (q1 (P := fun ds m => EE (Sta.blk _ _) (setE (wipeE _ _) _ ds) _ m) (fun v342 => (show EE _ [.sh (a327), .sh (a328), .sh (z333), .sh (s337), .sh (v342)] _ _ from (xcmp c_eq (el_of (ee_and (el_of (ev 4)) (el_of (ee_inv (el_of (xix (el_of (ev 3)) (el_of ee_int))))))) (el_of ee_int))))))))) eak_nil))) (show SB _ [.sh (a327), .sh (a328), .sh (z333), .sh (s337), .un] _ _ _ _ from (s_set 3 sc_asks_for.nd (xmeth0 T.k_BorderAsker h_BorderAsker_step (ev 2)) (fun z358 => (show SB _ [.sh (a327), .sh (a328), .sh (z333), .sh (z358), .un] _ _ _ _ from (sb_nil (.eq (.eq (.eq (.eq (.un Le.nil))))))))))))) fun s337 => (show SB _ [.sh (a327), .sh (a328), .sh (z333), .sh (s337), .un] _ _ _ _ from (sb_ret (xmeth0 T.k_BorderAsker h_BorderAsker_asked (ev 2))))))))))))))))
abbrev s__law_same : Stmt := topS 18
theorem sc__law_same : FnScope ["told", "due"] ["told", "due"] (defScope s__law_same) := ⟨rfl, rfl, rfl, by decide +kernel, rfl, by decide +kernel, by decide +kernel⟩
def b__law_same : List D → M (Out Unit Unit) := p2 (fun a362 a363 => ((((((pure (a362) : M D) >>= fun x375 => (pure [] : M (List D)) >>= fun xs376 => pure (x375 :: xs376)) >>= mkL) >>= reprD) >>= fun x373 => ((((pure (a363) : M D) >>= fun x378 => (pure [] : M (List D)) >>= fun xs379 => pure (x378 :: xs379)) >>= mkL) >>= reprD) >>= fun x374 => eqB x373 x374 >>= fun b372 => (pure (D.bl b372) : M D)) >>= fun x381 => pure (.rt x381)))
def m__law_same (ds : List D) : M D := runF (b__law_same ds)
theorem o__law_same {p : Pg} (T : Txt p) {f : Addr} {fd : FuncData} (F : Fun p.K "_law_same" "_law_same" s__law_same f fd)  : FnG p.P p.w p.K p.mg p.base 1 f fd ["told", "due"] (spD p [.v, .v] m__law_same) :=
  fng_of (k := 0) (N := ["told", "due"]) (body := b__law_same) (shN := fun _ => [.un, .un]) (shB := fun _ => []) F sc__law_same rfl (q2 (P := fun ds m => SB _ (argE _ ds ++ _) _ m _ _) (fun a362 a363 => (show SB _ [.sh (a362), .sh (a363)] _ _ _ _ from (sb_ret (xcmp c_eq (el_of (ee_repr (b_repr T.b_repr) (el_new (en_lst (ea_cons (ev 0) ea_nil))))) (el_of (ee_repr (b_repr T.b_repr) (el_new (en_lst (ea_cons (ev 1) ea_nil))))))))))
abbrev s__law_stream : Stmt := topS 19
theorem sc__law_stream : FnScope ["script", "numbers", "cell", "rest", "k", "mixed"] ["script"] (defScope s__law_stream) := ⟨rfl, rfl, rfl, by decide +kernel, rfl, by decide +kernel, by decide +kernel⟩
def b__law_stream : List D → M (Out Unit Unit) := p1 (fun a382 => (((pure [] : M (List D)) >>= mkL) >>= fun z383 => ((((pure (a382) : M D) >>= fun x384 => (pure none : M (Option Int)) >>= fun l385 => ((pure (D.int 63) : M D) >>= intM) >>= fun h386 => slL l385 h386 x384) >>= items) >>= fun xs449 => forL (fun (s387 : D) x450 => nm x450 >>= p1 (fun v388 => ((((pure (v388) : M D) >>= intD) >>= absD) >>= fun z389 => (((pure (z389) : M D) >>= fun x392 => ((pure (D.int 10) : M D) >>= fun x390 => (pure (D.int 18) : M D) >>= fun x391 => powD x390 x391) >>= fun x393 => geB x392 x393) >>= fun b440 => (if b440 = true then ((((pure (D.int 60) : M D) >>= range1) >>= fun xs409 => forL (fun (s395 : D × D) x410 => nm x410 >>= p1 (fun v396 => (lstD s395.1 >>= fun ds401 => (((pure (s395.2) : M D) >>= intD) >>= fun x397 => (pure (D.int 1009) : M D) >>= fun x398 => modD x397 x398) >>= fun x400 => appL ds401 x400 >>= fun z399 => (((pure (s395.2) : M D) >>= fun x403 => (pure (D.int 1009) : M D) >>= fun x404 => divD x403 x404) >>= fun z402 => (((pure (z402) : M D) >>= fun x405 => (pure (D.int 0) : M D) >>= fun x406 => eqB x405 x406) >>= fun b408 => (if b408 = true then ((pure (.bk (z399, z402))) : M (Out (Unit) _)) else (pure (.nx ()))) >>= seqO fun s407 => (pure (.nx (z399, z402)))))))) (s387, z389) xs409 >>= seqO fun s395 => (pure (.nx (s395.1)))) : M (Out (D) _)) else ((((pure (z389) : M D) >>= intD) >>= fun x412 => (pure (D.int 2147483647) : M D) >>= fun x413 => modD x412 x413) >>= fun z411 => (((pure (D.int 10) : M D) >>= range1) >>= fun xs438 => forL (fun (s414 : D × D) x439 => nm x439 >>= p1 (fun v415 => (((((((pure (s414.2) : M D) >>= fun x417 => (pure (D.int 48271) : M D) >>= fun x418 => mulD x417 x418) >>= fun x421 => ((pure (D.int 7) : M D) >>= fun x419 => (pure (v415) : M D) >>= fun x420 => mulD x419 x420) >>= fun x422 => addD x421 x422) >>= fun x423 => (pure (D.int 11) : M D) >>= fun x424 => addD x423 x424) >>= intD) >>= fun x425 => (pure (D.int 2147483647) : M D) >>= fun x426 => modD x425 x426) >>= fun z416 => (lstD s414.1 >>= fun ds437 => ((((((pure (z416) : M D) >>= fun x427 => (pure (D.int 69621) : M D) >>= fun x428 => mulD x427 x428) >>= fun x429 => (pure (v415) : M D) >>= fun x430 => addD x429 x430) >>= intD) >>= fun x431 => (pure (D.int 2147483629) : M D) >>= fun x432 => modD x431 x432) >>= fun x433 => (pure (D.int 1009) : M D) >>= fun x434 => modD x433 x434) >>= fun x436 => appL ds437 x436 >>= fun z435 => (pure (.nx (z435, z416))))))) (s387, z411) xs438 >>= seqO fun s414 => (pure (.nx (s414.1)))))) >>= seqO fun s394 => (pure (.nx (s394))))))) (z383) xs449 >>= seqO fun s387 => ((((pure (s387) : M D) >>= lenD) >>= fun x441 => (pure (D.int 0) : M D) >>= fun x442 => eqB x441 x442) >>= fun b448 => (if b448 = true then ((lstD s387 >>= fun ds446 => (pure (D.int 0) : M D) >>= fun x445 => appL ds446 x445 >>= fun z444 => (pure (.nx (z444)))) : M (Out (D) _)) else (pure (.nx (s387)))) >>= seqO fun s443 => ((pure (s443) : M D) >>= fun x447 => pure (.rt x447))))))
def m__law_stream (ds : List D) : M D := runF (b__law_stream ds)
theorem o__law_stream {p : Pg} (T : Txt p) {f : Addr} {fd : FuncData} (F : Fun p.K "_law_stream" "_law_stream" s__law_stream f fd)  : FnOk p.P p.w p.K p.mg p.base (L2N.CX p.P p.w) 1 f fd ["script"] (spD p [.v] m__law_stream) :=
  fnok_of (k := 0) (N := ["script", "numbers", "cell", "rest", "k", "mixed"]) (body := b__law_stream) (shN := fun _ => [.un, .un, .un, .un, .un, .un]) (shB := fun _ => []) F sc__law_stream rfl (q1 (P := fun ds m => SB _ (argE _ ds ++ _) _ m _ _) (fun a382 => (show SB _ [.sh (a382), .un, .un, .un, .un, .un] _ _ _ _ from (s_setN 1 sc__law_stream.nd (en_lst ea_nil) (fun z383 => (show SB _ [.sh (a382), .ow (z383), .un, .un, .un, .un] _ _ _ _ from (s_for (Z := D) (sh := fun s387 => [.sh (a382), .ow (s387), .un, .un, .un, .un]) (ei_seq (ee_new (en_slL (el_of (ev 0)) eo_none (eo_some (el_of ee_int))))) (tn 2 sc__law_stream.nd) nm_pure nm_len (.eq (.eq (.un (.un (.un (.un Le.nil)))))) (fun s387 => q1 (P := fun ds m => SB _ (setE _ _ ds) _ m _ _) (fun v388 => (show SB _ [.sh (a382), .ow (s387), .sh (v388), .un, .un, .un] _ _ _ _ from (s_set 3 sc__law_stream.nd (ee_abs (b_abs T.b_abs) (el_of (ee_intc (b_int T.b_int) (el_of (ev 2))))) (fun z389 => (show SB _ [.sh (a382), .ow (s387), .sh (v388), .sh (z389), .un, .un] _ _ _ _ from (sb_if (J := D) (shJ := fun s394 => [.sh (a382), .ow (s394), .sh (v388), .un, .un, .un]) (tcmp c_ge (el_of (ev 3)) (el_of (ee_pow (el_of ee_int) (el_of ee_int)))) (s_for (Z := D × D) (sh := fun s395 => [.sh (a382), .ow (s395.1), .sh (v388), .sh (s395.2), .un, .un]) (ei_range1 (by rfl) T.b_range (el_of ee_int)) (tn 4 sc__law_stream.nd) nm_pure nm_len (.eq (.eq (.eq (.eq (.un (.un Le.nil)))))) (fun s395 => q1 (P := fun ds m => SB _ (setE _ _ ds) _ m _ _) (fun v396 => (show SB _ [.sh (a382), .ow (s395.1), .sh (v388), .sh (s395.2), .sh (v396), .un] _ _ _ _ from (s_append 1 (ee_mod (el_of (ee_intc (b_int T.b_int) (el_of (ev 3)))) (el_of ee_int)) fun z399 => (show SB _ [.sh (a382), .ow (z399), .sh (v388), .sh (s395.2), .sh (v396), .un] _ _ _ _ from (s_set 3 sc__law_stream.nd (ee_div (el_of (ev 3)) (el_of ee_int)) (fun z402 => (show SB _ [.sh (a382), .ow (z399), .sh (v388), .sh (z402), .sh (v396), .un] _ _ _ _ from (sb_if (J := Unit) (shJ := fun s407 => [.sh (a382), .ow (z399), .sh (v388), .sh (z402), .sh (v396), .un]) (tcmp c_eq (el_of (ev 3)) (el_of ee_int)) (sb_break (.eq (.eq (.eq (.eq (.un (.un Le.nil))))))) (sb_nil (.eq (.eq (.eq (.eq (.eq (.un Le.nil))))))) fun s407 => (show SB _ [.sh (a382), .ow (z399), .sh (v388), .sh (z402), .sh (v396), .un] _ _ _ _ from (sb_nil (.eq (.eq (.eq (.eq (.un (.un Le.nil))))))))))))))))) fun s395 => (show SB _ [.sh (a382), .ow (s395.1), .sh (v388), .sh (s395.2), .un, .un] _ _ _ _ from (sb_nil (.eq (.eq (.eq (.un (.un (.un Le.nil))))))))) (s_set 5 sc__law_stream.nd (ee_mod (el_of (ee_intc (b_int T.b_int) (el_of (ev 3)))) (el_of ee_int)) (fun z411 => (show SB _ [.sh (a382), .ow (s387), .sh (v388), .sh (z389), .un, .sh (z411)] _ _ _ _ from (s_for (Z := D × D) (sh := fun s414 => [.sh (a382), .ow (s414.1), .sh (v388), .sh (z389), .un, .sh (s414.2)]) (ei_range1 (by rfl) T.b_range (el_of ee_int)) (tn 4 sc__law_stream.nd) nm_pure nm_len (.eq (.eq (.eq (.eq (.un (.eq Le.nil)))))) (fun s414 => q1 (P := fun ds m => SB _ (setE _ _ ds) _ m _ _) (fun v415 => (show SB _ [.sh (a382), .ow (s414.1), .sh (v388), .sh (z389), .sh (v415), .sh (s414.2)] _ _ _ _ from (s_set 5 sc__law_stream.nd (ee_mod (el_of (ee_intc (b_int T.b_int) (el_of (ee_add (el_of (ee_add (el_of (ee_mul (el_of (ev 5)) (el_of ee_int))) (el_of (ee_mul (el_of ee_int) (el_of (ev 4)))))) (el_of ee_int))))) (el_of ee_int)) (fun z416 => (show SB _ [.sh (a382), .ow (s414.1), .sh (v388), .sh (z389), .sh (v415), .sh (z416)] _ _ _ _ from (s_append 1 (ee_mod (el_of (ee_mod (el_of (ee_intc (b_int T.b_int) (el_of (ee_add (el_of (ee_mul (el_of (ev 5)) (el_of ee_int))) (el_of (ev 4)))))) (el_of ee_int))) (el_of ee_int)) fun z435 => (show SB _ [.sh (a382), .ow (z435), .sh (v388), .sh (z389), .sh (v415), .sh (z416)] _ _ _ _ from (sb_nil (.eq (.eq (.eq (.eq (.un (.eq Le.nil))))))))))))))) fun s414 => (show SB _ [.sh (a382), .ow (s414.1), .sh (v388), .sh (z389), .un, .sh (s414.2)] _ _ _ _ from (sb_nil (.eq (.eq (.eq (.un (.un (.un Le.nil)))))))))))) fun s394 => (show SB _ [.sh (a382), .ow (s394), .sh (v388), .un, .un, .un] _ _ _ _ from (sb_nil (.eq (.eq (.un (.un (.un (.un Le.nil))))))))))))))) fun s387 => (show SB _ [.sh (a382), .ow (s387), .un, .un, .un, .un] _ _ _ _ from (sb_if (J := D) (shJ := fun s443 => [.sh (a382), .ow (s443), .un, .un, .un, .un]) (tcmp c_eq (el_of (ee_len (b_len T.b_len) (evo 1))) (el_of ee_int)) (s_append 1 ee_int fun z444 => (show SB _ [.sh (a382), .ow (z444), .un, .un, .un, .un] _ _ _ _ from (sb_nil (.eq (.eq (.un (.un (.un (.un Le.nil))))))))) (sb_nil (.eq (.eq (.un (.un (.un (.un Le.nil))))))) fun s443 => (show SB _ [.sh (a382), .ow (s443), .un, .un, .un, .un] _ _ _ _ from (sb_freeze 1 (by rfl) (show SB _ [.sh (a382), .sh (s443), .un, .un, .un, .un] _ _ _ _ from (sb_ret (ev 1))))))))))))))
abbrev s__law_next : Stmt := topS 20
theorem sc__law_next : FnScope ["state", "many", "turn"] ["state", "many"] (defScope s__law_next) := ⟨rfl, rfl, rfl, by decide +kernel, rfl, by decide +kernel, by decide +kernel⟩
def b__law_next : List D → M (Out Unit Unit) := p2 (fun a451 a452 => ((((pure (a451) : M D) >>= fun x453 => (pure (D.int 1) : M D) >>= fun x454 => ixD x453 x454) >>= fun x455 => (pure (D.int 1) : M D) >>= fun x456 => addD x455 x456) >>= fun x457 => (pure (a451) : M D) >>= fun x458 => (pure (D.int 1) : M D) >>= fun x459 => cellSet x458 x459 x457 >>= fun u460 => ((((pure (a451) : M D) >>= fun x462 => (pure (D.int 1) : M D) >>= fun x463 => ixD x462 x463) >>= fun x466 => (((pure (a451) : M D) >>= fun x464 => (pure (D.int 0) : M D) >>= fun x465 => ixD x464 x465) >>= lenD) >>= fun x467 => divD x466 x467) >>= fun z461 => ((((((((pure (a451) : M D) >>= fun x468 => (pure (D.int 0) : M D) >>= fun x469 => ixD x468 x469) >>= fun x476 => (((pure (a451) : M D) >>= fun x470 => (pure (D.int 1) : M D) >>= fun x471 => ixD x470 x471) >>= fun x474 => (((pure (a451) : M D) >>= fun x472 => (pure (D.int 0) : M D) >>= fun x473 => ixD x472 x473) >>= lenD) >>= fun x475 => modD x474 x475) >>= fun x477 => ixD x476 x477) >>= fun x480 => ((pure (z461) : M D) >>= fun x478 => (pure (D.int 389) : M D) >>= fun x479 => mulD x478 x479) >>= fun x481 => addD x480 x481) >>= fun x488 => ((((pure (a451) : M D) >>= fun x482 => (pure (D.int 1) : M D) >>= fun x483 => ixD x482 x483) >>= fun x484 => (pure (z461) : M D) >>= fun x485 => mulD x484 x485) >>= fun x486 => (pure (D.int 17) : M D) >>= fun x487 => mulD x486 x487) >>= fun x489 => addD x488 x489) >>= intD) >>= fun x490 => (pure (a452) : M D) >>= fun x491 => modD x490 x491) >>= fun x492 => pure (.rt x492)))))
def m__law_next (ds : List D) : M D := runF (b__law_next ds)
theorem o__law_next {p : Pg} (T : Txt p) {f : Addr} {fd : FuncData} (F : Fun p.K "_law_next" "_law_next" s__law_next f fd)  : FnOk p.P p.w p.K p.mg p.base (L2N.CX p.P p.w) 1 f fd ["state", "many"] (spD p [.v, .v] m__law_next) :=
  fnok_of (k := 0) (N := ["state", "many", "turn"]) (body := b__law_next) (shN := fun _ => [.un, .un, .un]) (shB := fun _ => []) F sc__law_next rfl (q2 (P := fun ds m => SB _ (argE _ ds ++ _) _ m _ _) (fun a451 a452 => (show SB _ [.sh (a451), .sh (a452), .un] _ _ _ _ from (s_cset (ee_add (el_of (xix (el_of (ev 0)) (el_of ee_int))) (el_of ee_int)) (ev 0) ee_int (show SB _ [.sh (a451), .sh (a452), .un] _ _ _ _ from (s_set 2 sc__law_next.nd (ee_div (el_of (xix (el_of (ev 0)) (el_of ee_int))) (el_of (ee_len (b_len T.b_len) (el_of (xix (el_of (ev 0)) (el_of ee_int)))))) (fun z461 => (show SB _ [.sh (a451), .sh (a452), .sh (z461)] _ _ _ _ from (sb_ret (ee_mod (el_of (ee_intc (b_int T.b_int) (el_of (ee_add (el_of (ee_add (el_of (xix (el_of (xix (el_of (ev 0)) (el_of ee_int))) (el_of (ee_mod (el_of (xix (el_of (ev 0)) (el_of ee_int))) (el_of (ee_len (b_len T.b_len) (el_of (xix (el_of (ev 0)) (el_of ee_int))))))))) (el_of (ee_mul (el_of (ev 2)) (el_of ee_int))))) (el_of (ee_mul (el_of (ee_mul (el_of (xix (el_of (ev 0)) (el_of ee_int))) (el_of (ev 2)))) (el_of ee_int))))))) (el_of (ev 1))))))))))))
abbrev s__law_error : Stmt := topS 21
theorem sc__law_error : FnScope ["e", "names", "one"] ["e"] (defScope s__law_error) := ⟨rfl, rfl, rfl, by decide +kernel, rfl, by decide +kernel, by decide +kernel⟩
theorem o__law_error {p : Pg} {f : Addr} {fd : FuncData} (F : Fun p.K "_law_error" "_law_error" s__law_error f fd) (hm : p.mg "_law_error" = some (.ref f)) (hb : Binds p.K fd ["e"] []) (hX : ErrFacts p.K p.mg p.cA [101, 103]) : ErrFn p [101, 103] :=
  err_fn F ⟨sc__law_error, rfl, rfl, by decide +kernel⟩ hm hb fun X a oe c hK hmg hsc hot hu hz hcs hf hp hN hfn => by
    have gl : ∀ x ∈ (["isinstance", "NotAllowed", "Missing", "Wrong", "BadForm", "Alike", "sum"] : List Str), X.env.scope.names.lookup x = some .globalImplicit := by rw [hsc]; decide +kernel
    exact err_block (cA := p.cA) (by rw [hK, hmg]; exact hX) hot hu hz hcs hf hp hN hfn (by rw [hsc]; rfl) (by rw [hsc]; rfl) (gl _ (by decide)) (gl _ (by decide)) (gl _ (by decide)) (gl _ (by decide)) (gl _ (by decide)) (gl _ (by decide)) (gl _ (by decide)) (by rw [hN, hsc]; exact blkOk_by (by kernel_rfl)) (by rw [hsc]; rfl) (by rw [hsc]; rfl) rfl
abbrev s__law_least : Stmt := topS 22
theorem sc__law_least : FnScope ["sets", "rows", "one", "other"] ["sets"] (defScope s__law_least) := ⟨rfl, rfl, rfl, by decide +kernel, rfl, by decide +kernel, by decide +kernel⟩
def b__law_least : List D → M (Out Unit Unit) := p1 (fun a493 => (((pure (a493) : M D) >>= ssortI) >>= fun z494 => (((lcM ((pure (z494) : M D) >>= items) nm (p1 (fun v495 => ((((lcM ((pure (z494) : M D) >>= items) nm (p1 (fun v496 => (pure true : M Bool))) (p1 (fun v496 => (((pure (v496) : M D) >>= fun x500 => (pure (v495) : M D) >>= fun x501 => neB x500 x501 >>= fun b499 => (pure (D.bl b499) : M D)) >>= fun x511 => truth x511 >>= fun b512 => if b512 = true then (((pure (v496) : M D) >>= fun x509 => ((pure (v495) : M D) >>= invD) >>= fun x510 => andD x509 x510) >>= fun x507 => (pure (D.int 0) : M D) >>= fun x508 => eqB x507 x508 >>= fun b506 => (pure (D.bl b506) : M D)) else (pure x511 : M D))))) >>= anyD) >>= truth) >>= fun b513 => (pure (!b513) : M Bool)))) (p1 (fun v495 => (pure (v495) : M D)))) >>= tupleD) >>= fun x514 => pure (.rt x514))))
def m__law_least (ds : List D) : M D := runF (b__law_least ds)
theorem o__law_least {p : Pg} (T : Txt p) {f : Addr} {fd : FuncData} (F : Fun p.K "_law_least" "_law_least" s__law_least f fd)  : FnOk p.P p.w p.K p.mg p.base (L2N.CX p.P p.w) 1 f fd ["sets"] (spD p [.v] m__law_least) :=
  fnok_of (k := 0) (N := ["sets", "rows", "one", "other"]) (body := b__law_least) (shN := fun _ => [.un, .un, .un, .un]) (shB := fun _ => []) F sc__law_least rfl (q1 (P := fun ds m => SB _ (argE _ ds ++ _) _ m _ _) (fun a493 => (show SB _ [.sh (a493), .un, .un, .un] _ _ _ _ from (s_set 1 sc__law_least.nd (ee_new (en_ssetI (b_sorted T.b_sorted) (b_set T.b_set) (el_of (ev 0)))) (fun z494 => (show SB _ [.sh (a493), .sh (z494), .un, .un] _ _ _ _ from (sb_ret (ee_tuplec (b_tuple T.b_tuple) (el_new (en_comp (c_lc sc__law_least.nd [("one", 2)] (ei_read (el_of (ev 1))) (tn 2 sc__law_least.nd) nm_pure nm_len (q1 (P := fun ds m => ETs (Sta.blk _ _) (setE (wipeE _ _) _ ds) _ m) (fun v495 => (show ETs _ [.sh (a493), .sh (z494), .sh (v495), .un] _ _ from (ets_one (et_not (ttr (el_of (ee_any (b_any T.b_any) (el_new (en_comp (c_lc sc__law_least.nd [("other", 3)] (ei_read (el_of (ev 1))) (tn 3 sc__law_least.nd) nm_pure nm_len (q1 (P := fun ds m => ETs (Sta.blk _ _) (setE (wipeE _ _) _ ds) _ m) (fun v496 => (show ETs _ [.sh (a493), .sh (z494), .sh (v495), .sh (v496)] _ _ from ets_nil))) (q1 (P := fun ds m => EE (Sta.blk _ _) (setE (wipeE _ _) _ ds) _ m) (fun v496 => (show EE _ [.sh (a493), .sh (z494), .sh (v495), .sh (v496)] _ _ from (ee_and2 (xcmp c_ne (el_of (ev 3)) (el_of (ev 2))) (ee_one (xcmp c_eq (el_of (ee_and (el_of (ev 3)) (el_of (ee_inv (el_of (ev 2)))))) (el_of ee_int)))))))))))))))))) (q1 (P := fun ds m => EE (Sta.blk _ _) (setE (wipeE _ _) _ ds) _ m) (fun v495 => (show EE _ [.sh (a493), .sh (z494), .sh (v495), .un] _ _ from (ev 2)))))))))))))))
abbrev s__law_greatest : Stmt := topS 23
theorem sc__law_greatest : FnScope ["sets", "rows", "one", "other"] ["sets"] (defScope s__law_greatest) := ⟨rfl, rfl, rfl, by decide +kernel, rfl, by decide +kernel, by decide +kernel⟩
def b__law_greatest : List D → M (Out Unit Unit) := p1 (fun a515 => (((pure (a515) : M D) >>= ssortI) >>= fun z516 => (((lcM ((pure (z516) : M D) >>= items) nm (p1 (fun v517 => ((((lcM ((pure (z516) : M D) >>= items) nm (p1 (fun v518 => (pure true : M Bool))) (p1 (fun v518 => (((pure (v518) : M D) >>= fun x522 => (pure (v517) : M D) >>= fun x523 => neB x522 x523 >>= fun b521 => (pure (D.bl b521) : M D)) >>= fun x533 => truth x533 >>= fun b534 => if b534 = true then (((pure (v517) : M D) >>= fun x531 => ((pure (v518) : M D) >>= invD) >>= fun x532 => andD x531 x532) >>= fun x529 => (pure (D.int 0) : M D) >>= fun x530 => eqB x529 x530 >>= fun b528 => (pure (D.bl b528) : M D)) else (pure x533 : M D))))) >>= anyD) >>= truth) >>= fun b535 => (pure (!b535) : M Bool)))) (p1 (fun v517 => (pure (v517) : M D)))) >>= tupleD) >>= fun x536 => pure (.rt x536))))
def m__law_greatest (ds : List D) : M D := runF (b__law_greatest ds)
theorem o__law_greatest {p : Pg} (T : Txt p) {f : Addr} {fd : FuncData} (F : Fun p.K "_law_greatest" "_law_greatest" s__law_greatest f fd)  : FnOk p.P p.w p.K p.mg p.base (L2N.CX p.P p.w) 1 f fd ["sets"] (spD p [.v] m__law_greatest) :=
  fnok_of (k := 0) (N := ["sets", "rows", "one", "other"]) (body := b__law_greatest) (shN := fun _ => [.un, .un, .un, .un]) (shB := fun _ => []) F sc__law_greatest rfl (q1 (P := fun ds m => SB _ (argE _ ds ++ _) _ m _ _) (fun a515 => (show SB _ [.sh (a515), .un, .un, .un] _ _ _ _ from (s_set 1 sc__law_greatest.nd (ee_new (en_ssetI (b_sorted T.b_sorted) (b_set T.b_set) (el_of (ev 0)))) (fun z516 => (show SB _ [.sh (a515), .sh (z516), .un, .un] _ _ _ _ from (sb_ret (ee_tuplec (b_tuple T.b_tuple) (el_new (en_comp (c_lc sc__law_greatest.nd [("one", 2)] (ei_read (el_of (ev 1))) (tn 2 sc__law_greatest.nd) nm_pure nm_len (q1 (P := fun ds m => ETs (Sta.blk _ _) (setE (wipeE _ _) _ ds) _ m) (fun v517 => (show ETs _ [.sh (a515), .sh (z516), .sh (v517), .un] _ _ from (ets_one (et_not (ttr (el_of (ee_any (b_any T.b_any) (el_new (en_comp (c_lc sc__law_greatest.nd [("other", 3)] (ei_read (el_of (ev 1))) (tn 3 sc__law_greatest.nd) nm_pure nm_len (q1 (P := fun ds m => ETs (Sta.blk _ _) (setE (wipeE _ _) _ ds) _ m) (fun v518 => (show ETs _ [.sh (a515), .sh (z516), .sh (v517), .sh (v518)] _ _ from ets_nil))) (q1 (P := fun ds m => EE (Sta.blk _ _) (setE (wipeE _ _) _ ds) _ m) (fun v518 => (show EE _ [.sh (a515), .sh (z516), .sh (v517), .sh (v518)] _ _ from (ee_and2 (xcmp c_ne (el_of (ev 3)) (el_of (ev 2))) (ee_one (xcmp c_eq (el_of (ee_and (el_of (ev 2)) (el_of (ee_inv (el_of (ev 3)))))) (el_of ee_int)))))))))))))))))) (q1 (P := fun ds m => EE (Sta.blk _ _) (setE (wipeE _ _) _ ds) _ m) (fun v517 => (show EE _ [.sh (a515), .sh (z516), .sh (v517), .un] _ _ from (ev 2)))))))))))))))
abbrev s__law_true : Stmt := topS 24
theorem sc__law_true : FnScope ["trues", "one", "true"] ["trues", "one"] (defScope s__law_true) := ⟨rfl, rfl, rfl, by decide +kernel, rfl, by decide +kernel, by decide +kernel⟩
def b__law_true : List D → M (Out Unit Unit) := p2 (fun a537 a538 => (((lcM ((pure (a537) : M D) >>= items) nm (p1 (fun v539 => (pure true : M Bool))) (p1 (fun v539 => (((pure (v539) : M D) >>= fun x547 => ((pure (a538) : M D) >>= invD) >>= fun x548 => andD x547 x548) >>= fun x545 => (pure (D.int 0) : M D) >>= fun x546 => eqB x545 x546 >>= fun b544 => (pure (D.bl b544) : M D))))) >>= anyD) >>= fun x549 => pure (.rt x549)))
def m__law_true (ds : List D) : M D := runF (b__law_true ds)
theorem o__law_true {p : Pg} (T : Txt p) {f : Addr} {fd : FuncData} (F : Fun p.K "_law_true" "_law_true" s__law_true f fd)  : FnOk p.P p.w p.K p.mg p.base (L2N.CX p.P p.w) 1 f fd ["trues", "one"] (spD p [.v, .v] m__law_true) :=
  fnok_of (k := 0) (N := ["trues", "one", "true"]) (body := b__law_true) (shN := fun _ => [.un, .un, .un]) (shB := fun _ => []) F sc__law_true rfl (q2 (P := fun ds m => SB _ (argE _ ds ++ _) _ m _ _) (fun a537 a538 => (show SB _ [.sh (a537), .sh (a538), .un] _ _ _ _ from (sb_ret (ee_any (b_any T.b_any) (el_new (en_comp (c_lc sc__law_true.nd [("true", 2)] (ei_read (el_of (ev 0))) (tn 2 sc__law_true.nd) nm_pure nm_len (q1 (P := fun ds m => ETs (Sta.blk _ _) (setE (wipeE _ _) _ ds) _ m) (fun v539 => (show ETs _ [.sh (a537), .sh (a538), .sh (v539)] _ _ from ets_nil))) (q1 (P := fun ds m => EE (Sta.blk _ _) (setE (wipeE _ _) _ ds) _ m) (fun v539 => (show EE _ [.sh (a537), .sh (a538), .sh (v539)] _ _ from (xcmp c_eq (el_of (ee_and (el_of (ev 2)) (el_of (ee_inv (el_of (ev 1)))))) (el_of ee_int)))))))))))))
abbrev s__law_border : Stmt := topS 25
theorem sc__law_border : FnScope ["state", "count", "kind", "k"] ["state", "count"] (defScope s__law_border) := ⟨rfl, rfl, rfl, by decide +kernel, rfl, by decide +kernel, by decide +kernel⟩
def b__law_border : List D → M (Out Unit Unit) := p2 (fun a550 a551 => ((((pure (a550) : M D) >>= fun x555 => ((pure (D.int 6) : M D) >>= fun x553 => (pure [] : M (List D)) >>= fun xs554 => pure (x553 :: xs554)) >>= fun xs556 => pure (x555 :: xs556)) >>= m__law_next) >>= fun z552 => (((pure (z552) : M D) >>= fun x557 => (pure (D.int 0) : M D) >>= fun x558 => eqB x557 x558) >>= fun b607 => (if b607 = true then (((((((pure [] : M (List D)) >>= mkT) >>= fun x566 => ((((pure (D.int 0) : M D) >>= fun x563 => (pure [] : M (List D)) >>= fun xs564 => pure (x563 :: xs564)) >>= mkT) >>= fun x560 => (pure [] : M (List D)) >>= fun xs561 => pure (x560 :: xs561)) >>= fun xs567 => pure (x566 :: xs567)) >>= mkL) >>= fun x573 => (((pure (a550) : M D) >>= fun x571 => ((pure (D.int 2) : M D) >>= fun x569 => (pure [] : M (List D)) >>= fun xs570 => pure (x569 :: xs570)) >>= fun xs572 => pure (x571 :: xs572)) >>= m__law_next) >>= fun x574 => ixD x573 x574) >>= fun x575 => pure (.rt x575)) : M (Out (Unit) _)) else (pure (.nx ()))) >>= seqO fun s559 => ((((lcM (((pure (D.int 1) : M D) >>= fun x580 => (((pure (a550) : M D) >>= fun x578 => ((pure (D.int 5) : M D) >>= fun x576 => (pure [] : M (List D)) >>= fun xs577 => pure (x576 :: xs577)) >>= fun xs579 => pure (x578 :: xs579)) >>= m__law_next) >>= fun x581 => addD x580 x581) >>= range1) nm (p1 (fun v582 => (pure true : M Bool))) (p1 (fun v582 => ((((pure (a550) : M D) >>= fun x587 => (((pure (D.int 1) : M D) >>= fun x583 => (pure (a551) : M D) >>= fun x584 => shlD x583 x584) >>= fun x585 => (pure [] : M (List D)) >>= fun xs586 => pure (x585 :: xs586)) >>= fun xs588 => pure (x587 :: xs588)) >>= m__law_next) >>= fun x602 => ((((pure (a550) : M D) >>= fun x593 => (((pure (D.int 1) : M D) >>= fun x589 => (pure (a551) : M D) >>= fun x590 => shlD x589 x590) >>= fun x591 => (pure [] : M (List D)) >>= fun xs592 => pure (x591 :: xs592)) >>= fun xs594 => pure (x593 :: xs594)) >>= m__law_next) >>= fun x600 => (((pure (z552) : M D) >>= fun x598 => (pure (D.int 3) : M D) >>= fun x599 => gtB x598 x599 >>= fun b597 => (pure (D.bl b597) : M D)) >>= intD) >>= fun x601 => mulD x600 x601) >>= fun x603 => orD x602 x603)))) >>= fun x604 => (pure [] : M (List D)) >>= fun xs605 => pure (x604 :: xs605)) >>= m__law_least) >>= fun x606 => pure (.rt x606)))))
def m__law_border (ds : List D) : M D := runF (b__law_border ds)
theorem o__law_border {p : Pg} (T : Txt p) {f : Addr} {fd : FuncData} (F : Fun p.K "_law_border" "_law_border" s__law_border f fd) (h__law_next : Fnc p 1 "_law_next" [.v, .v] m__law_next) (h__law_least : Fnc p 1 "_law_least" [.v] m__law_least) : FnOk p.P p.w p.K p.mg p.base (L2N.CX p.P p.w) 2 f fd ["state", "count"] (spD p [.v, .v] m__law_border) :=
  fnok_of (k := 1) (N := ["state", "count", "kind", "k"]) (body := b__law_border) (shN := fun _ => [.un, .un, .un, .un]) (shB := fun _ => []) F sc__law_border rfl (q2 (P := fun ds m => SB _ (argE _ ds ++ _) _ m _ _) (fun a550 a551 => (show SB _ [.sh (a550), .sh (a551), .un, .un] _ _ _ _ from (s_set 2 sc__law_border.nd (xcall h__law_next (av (ev 0) (av ee_int eak_nil))) (fun z552 => (show SB _ [.sh (a550), .sh (a551), .sh (z552), .un] _ _ _ _ from (sb_if (J := Unit) (shJ := fun s559 => [.sh (a550), .sh (a551), .sh (z552), .un]) (tcmp c_eq (el_of (ev 2)) (el_of ee_int)) (sb_ret (xix (el_new (en_lst (ea_cons (ee_tup ea_nil) (ea_cons (ee_tup (ea_cons ee_int ea_nil)) ea_nil)))) (el_of (xcall h__law_next (av (ev 0) (av ee_int eak_nil)))))) (sb_nil (.eq (.eq (.eq (.un Le.nil))))) fun s559 => (show SB _ [.sh (a550), .sh (a551), .sh (z552), .un] _ _ _ _ from (sb_ret (xcall h__law_least (av (ee_new (en_comp (c_lc sc__law_border.nd [("k", 3)] (ei_range1 (by rfl) T.b_range (el_of (ee_add (el_of ee_int) (el_of (xcall h__law_next (av (ev 0) (av ee_int eak_nil))))))) (tn 3 sc__law_border.nd) nm_pure nm_len (q1 (P := fun ds m => ETs (Sta.blk _ _) (setE (wipeE _ _) _ ds) _ m) (fun v582 => (show ETs _ [.sh (a550), .sh (a551), .sh (z552), .sh (v582)] _ _ from ets_nil))) (q1 (P := fun ds m => EE (Sta.blk _ _) (setE (wipeE _ _) _ ds) _ m) (fun v582 => (show EE _ [.sh (a550), .sh (a551), .sh (z552), .sh (v582)] _ _ from (ee_or (el_of (xcall h__law_next (av (ev 0) (av (ee_shl (el_of ee_int) (el_of (ev 1))) eak_nil)))) (el_of (ee_mul (el_of (xcall h__law_next (av (ev 0) (av (ee_shl (el_of ee_int) (el_of (ev 1))) eak_nil)))) (el_of (ee_intc (b_int T.b_int) (el_of (xcmp c_gt (el_of (ev 2)) (el_of ee_int)))))))))))))) eak_nil)))))))))))
abbrev s__law_falses : Stmt := topS 26
theorem sc__law_falses : FnScope ["count", "trues", "one"] ["count", "trues"] (defScope s__law_falses) := ⟨rfl, rfl, rfl, by decide +kernel, rfl, by decide +kernel, by decide +kernel⟩
def b__law_falses : List D → M (Out Unit Unit) := p2 (fun a608 a609 => ((((lcM (((pure (D.int 1) : M D) >>= fun x610 => (pure (a608) : M D) >>= fun x611 => shlD x610 x611) >>= range1) nm (p1 (fun v612 => (((((pure (a609) : M D) >>= fun x615 => ((pure (v612) : M D) >>= fun x613 => (pure [] : M (List D)) >>= fun xs614 => pure (x613 :: xs614)) >>= fun xs616 => pure (x615 :: xs616)) >>= m__law_true) >>= truth) >>= fun b617 => (pure (!b617) : M Bool)))) (p1 (fun v612 => (pure (v612) : M D)))) >>= fun x618 => (pure [] : M (List D)) >>= fun xs619 => pure (x618 :: xs619)) >>= m__law_greatest) >>= fun x620 => pure (.rt x620)))
def m__law_falses (ds : List D) : M D := runF (b__law_falses ds)
theorem o__law_falses {p : Pg} (T : Txt p) {f : Addr} {fd : FuncData} (F : Fun p.K "_law_falses" "_law_falses" s__law_falses f fd) (h__law_greatest : Fnc p 1 "_law_greatest" [.v] m__law_greatest) (h__law_true : Fnc p 1 "_law_true" [.v, .v] m__law_true) : FnOk p.P p.w p.K p.mg p.base (L2N.CX p.P p.w) 2 f fd ["count", "trues"] (spD p [.v, .v] m__law_falses) :=
  fnok_of (k := 1) (N := ["count", "trues", "one"]) (body := b__law_falses) (shN := fun _ => [.un, .un, .un]) (shB := fun _ => []) F sc__law_falses rfl (q2 (P := fun ds m => SB _ (argE _ ds ++ _) _ m _ _) (fun a608 a609 => (show SB _ [.sh (a608), .sh (a609), .un] _ _ _ _ from (sb_ret (xcall h__law_greatest (av (ee_new (en_comp (c_lc sc__law_falses.nd [("one", 2)] (ei_range1 (by rfl) T.b_range (el_of (ee_shl (el_of ee_int) (el_of (ev 0))))) (tn 2 sc__law_falses.nd) nm_pure nm_len (q1 (P := fun ds m => ETs (Sta.blk _ _) (setE (wipeE _ _) _ ds) _ m) (fun v612 => (show ETs _ [.sh (a608), .sh (a609), .sh (v612)] _ _ from (ets_one (et_not (ttr (el_of (xcall h__law_true (av (ev 1) (av (ev 2) eak_nil)))))))))) (q1 (P := fun ds m => EE (Sta.blk _ _) (setE (wipeE _ _) _ ds) _ m) (fun v612 => (show EE _ [.sh (a608), .sh (a609), .sh (v612)] _ _ from (ev 2))))))) eak_nil))))))
abbrev s__law_tell : Stmt := topS 27
theorem sc__law_tell : FnScope ["asker", "bit", "e"] ["asker", "bit"] (defScope s__law_tell) := ⟨rfl, rfl, rfl, by decide +kernel, rfl, by decide +kernel, by decide +kernel⟩
def b__law_tell : List D → M (Out Unit Unit) := p2 (fun a621 a622 => (tryE [101, 103] (((mthM 0 "tell" (pure (a621) : M D) ((pure (a622) : M D) >>= fun x624 => (pure [] : M (List D)) >>= fun xs625 => pure (x624 :: xs625)) m_BorderAsker_tell) >>= fun u626 => (pure (.nx ()))) : M (Out (Unit) _)) >>= seqO fun s623 => ((pure D.non : M D) >>= fun x627 => pure (.rt x627))))
def m__law_tell (ds : List D) : M D := runF (b__law_tell ds)
theorem o__law_tell {p : Pg} (T : Txt p) {f : Addr} {fd : FuncData} (F : Fun p.K "_law_tell" "_law_tell" s__law_tell f fd) (h__law_error : ErrFn p [101, 103]) (h_BorderAsker_tell : Mtd p 0 3 "tell" [.v, .v] m_BorderAsker_tell) : FnOk p.P p.w p.K p.mg p.base (L2N.CX p.P p.w) 4 f fd ["asker", "bit"] (spD p [.v, .v] m__law_tell) :=
  fnok_of (k := 3) (N := ["asker", "bit", "e"]) (body := b__law_tell) (shN := fun _ => [.un, .un, .un]) (shB := fun _ => []) F sc__law_tell rfl (q2 (P := fun ds m => SB _ (argE _ ds ++ _) _ m _ _) (fun a621 a622 => (show SB _ [.sh (a621), .sh (a622), .un] _ _ _ _ from (s_try (J := Unit) (shJ := fun s623 => [.sh (a621), .sh (a622), .un]) 2 h__law_error T.em sc__law_tell.nd (show SB _ [.sh (a621), .sh (a622), .un] _ _ _ _ from (s_expr (el_of (xmeth T.k_BorderAsker h_BorderAsker_tell (ev 0) (av (ev 1) eak_nil))) (show SB _ [.sh (a621), .sh (a622), .un] _ _ _ _ from (sb_nil (.eq (.eq (.un Le.nil))))))) fun s623 => (show SB _ [.sh (a621), .sh (a622), .un] _ _ _ _ from (sb_ret ee_non))))))
abbrev s__law_fits : Stmt := topS 28
theorem sc__law_fits : FnScope ["state", "count", "trues", "falses", "asker", "told", "turn", "step", "bit"] ["state"] (defScope s__law_fits) := ⟨rfl, rfl, rfl, by decide +kernel, rfl, by decide +kernel, by decide +kernel⟩
def b__law_fits : List D → M (Out Unit Unit) := p1 (fun a628 => (((pure (D.int 1) : M D) >>= fun x649 => (((pure (a628) : M D) >>= fun x647 => (((((pure (D.int 4) : M D) >>= fun x636 => ((pure (D.int 6) : M D) >>= fun x633 => ((pure (D.int 8) : M D) >>= fun x630 => (pure [] : M (List D)) >>= fun xs631 => pure (x630 :: xs631)) >>= fun xs634 => pure (x633 :: xs634)) >>= fun xs637 => pure (x636 :: xs637)) >>= mkL) >>= fun x643 => (((pure (a628) : M D) >>= fun x641 => ((pure (D.int 3) : M D) >>= fun x639 => (pure [] : M (List D)) >>= fun xs640 => pure (x639 :: xs640)) >>= fun xs642 => pure (x641 :: xs642)) >>= m__law_next) >>= fun x644 => ixD x643 x644) >>= fun x645 => (pure [] : M (List D)) >>= fun xs646 => pure (x645 :: xs646)) >>= fun xs648 => pure (x647 :: xs648)) >>= m__law_next) >>= fun x650 => addD x649 x650) >>= fun z629 => ((((pure (a628) : M D) >>= fun x654 => ((pure (z629) : M D) >>= fun x652 => (pure [] : M (List D)) >>= fun xs653 => pure (x652 :: xs653)) >>= fun xs655 => pure (x654 :: xs655)) >>= m__law_border) >>= fun z651 => ((((pure (z629) : M D) >>= fun x659 => ((pure (z651) : M D) >>= fun x657 => (pure [] : M (List D)) >>= fun xs658 => pure (x657 :: xs658)) >>= fun xs660 => pure (x659 :: xs660)) >>= m__law_falses) >>= fun z656 => ((mkM 0 ((pure (z629) : M D) >>= fun x662 => (pure [] : M (List D)) >>= fun xs663 => pure (x662 :: xs663)) m_BorderAsker___init__) >>= fun z661 => (((pure [] : M (List D)) >>= mkL) >>= fun z664 => (((pure (D.int 1500) : M D) >>= range1) >>= fun xs809 => forL (fun (s665 : D) x810 => nm x810 >>= p1 (fun v666 => ((mthM 0 "step" (pure (z661) : M D) (pure []) m_BorderAsker_step) >>= fun z667 => ((((pure (z667) : M D) >>= fun x668 => (mthM 0 "step" (pure (z661) : M D) (pure []) m_BorderAsker_step) >>= fun x669 => neB x668 x669) >>= fun b672 => if b672 = true then (pure true : M Bool) else ((mthM 0 "asked" (pure (z661) : M D) (pure []) m_BorderAsker_asked) >>= fun x670 => ((pure (s665) : M D) >>= lenD) >>= fun x671 => neB x670 x671)) >>= fun b724 => (if b724 = true then (((pure (D.bl false) : M D) >>= fun x674 => pure (.rt x674)) : M (Out (Unit) _)) else (pure (.nx ()))) >>= seqO fun s673 => ((((pure (z667) : M D) >>= fun x675 => (pure (D.int 0) : M D) >>= fun x676 => ixD x675 x676) >>= fun x677 => (pure (D.str "known") : M D) >>= fun x678 => eqB x677 x678) >>= fun b723 => (if b723 = true then ((pure (.bk (s665))) : M (Out (Unit) _)) else (pure (.nx ()))) >>= seqO fun s679 => (((((pure (z667) : M D) >>= fun x680 => (pure (D.int 0) : M D) >>= fun x681 => ixD x680 x681) >>= fun x682 => (pure (D.str "ask") : M D) >>= fun x683 => neB x682 x683) >>= fun b692 => if b692 = true then (pure true : M Bool) else ((((pure (z667) : M D) >>= lenD) >>= fun x684 => (pure (D.int 2) : M D) >>= fun x685 => neB x684 x685) >>= fun b691 => if b691 = true then (pure true : M Bool) else ((chainM (pure (D.int 0) : M D) ((pure (z667) : M D) >>= fun x686 => (pure (D.int 1) : M D) >>= fun x687 => ixD x686 x687) leB ((pure (D.int 1) : M D) >>= fun x688 => (pure (z629) : M D) >>= fun x689 => shlD x688 x689) ltB) >>= fun b690 => (pure (!b690) : M Bool)))) >>= fun b722 => (if b722 = true then (((pure (D.bl false) : M D) >>= fun x694 => pure (.rt x694)) : M (Out (Unit) _)) else (pure (.nx ()))) >>= seqO fun s693 => ((((pure (z651) : M D) >>= fun x700 => (((pure (z667) : M D) >>= fun x696 => (pure (D.int 1) : M D) >>= fun x697 => ixD x696 x697) >>= fun x698 => (pure [] : M (List D)) >>= fun xs699 => pure (x698 :: xs699)) >>= fun xs701 => pure (x700 :: xs701)) >>= m__law_true) >>= fun z695 => (lstD s665 >>= fun ds712 => ((((pure (z667) : M D) >>= fun x708 => (pure (D.int 1) : M D) >>= fun x709 => ixD x708 x709) >>= fun x705 => ((pure (z695) : M D) >>= fun x702 => (pure [] : M (List D)) >>= fun xs703 => pure (x702 :: xs703)) >>= fun xs706 => pure (x705 :: xs706)) >>= mkT) >>= fun x711 => appL ds712 x711 >>= fun z710 => (((((pure (z661) : M D) >>= fun x715 => ((pure (z695) : M D) >>= fun x713 => (pure [] : M (List D)) >>= fun xs714 => pure (x713 :: xs714)) >>= fun xs716 => pure (x715 :: xs716)) >>= m__law_tell) >>= fun x717 => (pure D.non : M D) >>= fun x718 => notNoneB x717 x718) >>= fun b721 => (if b721 = true then (((pure (D.bl false) : M D) >>= fun x720 => pure (.rt x720)) : M (Out (Unit) _)) else (pure (.nx ()))) >>= seqO fun s719 => (pure (.nx (z710)))))))))))) (z664) xs809 >>= seqO fun s665 => (((((((mthM 0 "step" (pure (z661) : M D) (pure []) m_BorderAsker_step) >>= fun x736 => ((((pure (D.str "known") : M D) >>= fun x731 => ((pure (z651) : M D) >>= fun x728 => ((pure (z656) : M D) >>= fun x725 => (pure [] : M (List D)) >>= fun xs726 => pure (x725 :: xs726)) >>= fun xs729 => pure (x728 :: xs729)) >>= fun xs732 => pure (x731 :: xs732)) >>= mkT) >>= fun x734 => (pure [] : M (List D)) >>= fun xs735 => pure (x734 :: xs735)) >>= fun xs737 => pure (x736 :: xs737)) >>= m__law_same) >>= truth) >>= fun b738 => (pure (!b738) : M Bool)) >>= fun b747 => if b747 = true then (pure true : M Bool) else (((pure (s665) : M D) >>= lenD) >>= fun x745 => ((((pure (z651) : M D) >>= lenD) >>= fun x739 => ((pure (z656) : M D) >>= lenD) >>= fun x740 => addD x739 x740) >>= fun x743 => ((pure (z629) : M D) >>= fun x741 => (pure (D.int 1) : M D) >>= fun x742 => addD x741 x742) >>= fun x744 => mulD x743 x744) >>= fun x746 => gtB x745 x746)) >>= fun b808 => (if b808 = true then (((pure (D.bl false) : M D) >>= fun x749 => pure (.rt x749)) : M (Out (Unit) _)) else (pure (.nx ()))) >>= seqO fun s748 => (((((((pure (z661) : M D) >>= fun x796 => ((pure (D.bl true) : M D) >>= fun x794 => (pure [] : M (List D)) >>= fun xs795 => pure (x794 :: xs795)) >>= fun xs797 => pure (x796 :: xs797)) >>= m__law_tell) >>= fun x791 => ((mthM 0 "asked" (pure (z661) : M D) (pure []) m_BorderAsker_asked) >>= fun x788 => ((((pure (z629) : M D) >>= fun x786 => ((pure (z651) : M D) >>= fun x784 => (pure [] : M (List D)) >>= fun xs785 => pure (x784 :: xs785)) >>= fun xs787 => pure (x786 :: xs787)) >>= m_asks_for) >>= fun x781 => (pure [] : M (List D)) >>= fun xs782 => pure (x781 :: xs782)) >>= fun xs789 => pure (x788 :: xs789)) >>= fun xs792 => pure (x791 :: xs792)) >>= mkL) >>= fun x779 => (((pure (D.str "wrong") : M D) >>= fun x804 => (((pure (s665) : M D) >>= lenD) >>= fun x801 => (((pure (s665) : M D) >>= lenD) >>= fun x798 => (pure [] : M (List D)) >>= fun xs799 => pure (x798 :: xs799)) >>= fun xs802 => pure (x801 :: xs802)) >>= fun xs805 => pure (x804 :: xs805)) >>= mkL) >>= fun x780 => eqB x779 x780 >>= fun b778 => (pure (D.bl b778) : M D)) >>= fun x807 => pure (.rt x807))))))))))
def m__law_fits (ds : List D) : M D := runF (b__law_fits ds)
theorem o__law_fits {p : Pg} (T : Txt p) {f : Addr} {fd : FuncData} (F : Fun p.K "_law_fits" "_law_fits" s__law_fits f fd) (h__law_next : Fnc p 1 "_law_next" [.v, .v] m__law_next) (h__law_border : Fnc p 2 "_law_border" [.v, .v] m__law_border) (h__law_falses : Fnc p 2 "_law_falses" [.v, .v] m__law_falses) (h_BorderAsker___init__ : Mkr p 0 2 "BorderAsker" [.v, .v] m_BorderAsker___init__) (h_BorderAsker_step : Mtd p 0 2 "step" [.v] m_BorderAsker_step) (h_BorderAsker_asked : Mtd p 0 1 "asked" [.v] m_BorderAsker_asked) (h__law_true : Fnc p 1 "_law_true" [.v, .v] m__law_true) (h__law_tell : Fnc p 4 "_law_tell" [.v, .v] m__law_tell) (h__law_same : FncG p 1 "_law_same" [.v, .v] m__law_same) (h_asks_for : Fnc p 4 "asks_for" [.v, .v] m_asks_for) : FnG p.P p.w p.K p.mg p.base 5 f fd ["state"] (spD p [.v] m__law_fits) :=
  fng_of (k := 4) (N := ["state", "count", "trues", "falses", "asker", "told", "turn", "step", "bit"]) (body := b__law_fits) (shN := fun _ => [.un, .un, .un, .un, .un, .un, .un, .un, .un]) (shB := fun _ => []) F sc__law_fits rfl (q1 (P := fun ds m => SB _ (argE _ ds ++ _) _ m _ _) (fun a628 => (show SB _ [.sh (a628), .un, .un, .un, .un, .un, .un, .un, .un] _ _ _ _ from (s_set 1 sc__law_fits.nd (ee_add (el_of ee_int) (el_of (xcall h__law_next (av (ev 0) (av (xix (el_new (en_lst (ea_cons ee_int (ea_cons ee_int (ea_cons ee_int ea_nil))))) (el_of (xcall h__law_next (av (ev 0) (av ee_int eak_nil))))) eak_nil))))) (fun z629 => (show SB _ [.sh (a628), .sh (z629), .un, .un, .un, .un, .un, .un, .un] _ _ _ _ from (s_set 2 sc__law_fits.nd (xcall h__law_border (av (ev 0) (av (ev 1) eak_nil))) (fun z651 => (show SB _ [.sh (a628), .sh (z629), .sh (z651), .un, .un, .un, .un, .un, .un] _ _ _ _ from (s_set 3 sc__law_fits.nd (xcall h__law_falses (av (ev 1) (av (ev 2) eak_nil))) (fun z656 => (show SB _ [.sh (a628), .sh (z629), .sh (z651), .sh (z656), .un, .un, .un, .un, .un] _ _ _ _ from (s_set 4 sc__law_fits.nd (xmake h_BorderAsker___init__ (av (ev 1) eak_nil)) (fun z661 => (show SB _ [.sh (a628), .sh (z629), .sh (z651), .sh (z656), .sh (z661), .un, .un, .un, .un] _ _ _ _ from (s_setN 5 sc__law_fits.nd (en_lst ea_nil) (fun z664 => (show SB _ [.sh (a628), .sh (z629), .sh (z651), .sh (z656), .sh (z661), .ow (z664), .un, .un, .un] _ _ _ _ from (s_for (Z := D) (sh := fun s665 => [.sh (a628), .sh (z629), .sh (z651), .sh (z656), .sh (z661), .ow (s665), .un, .un, .un]) (ei_range1 (by rfl) T.b_range (el_of ee_int)) (tn 6 sc__law_fits.nd) nm_pure nm_len (.eq (.eq (.eq (.eq (.eq (.eq (.un (.un (.un Le.nil))))))))) (fun s665 => q1 (P := fun ds m => SB _ (setE _ _ ds) _ m _ _) (fun v666 => (show SB _ [.sh (a628), .sh (z629), .sh (z651), .sh (z656), .sh (z661), .ow (s665), .sh (v666), .un, .un] _ _ _ _ from (s_set 7 sc__law_fits.nd (xmeth0 T.k_BorderAsker h_BorderAsker_step (ev 4)) (fun z667 => (show SB _ [.sh (a628), .sh (z629), .sh (z651), .sh (z656), .sh (z661), .ow (s665), .sh (v666), .sh (z667), .un] _ _ _ _ from (sb_if (J := Unit) (shJ := fun s673 => [.sh (a628), .sh (z629), .sh (z651), .sh (z656), .sh (z661), .ow (s665), .sh (v666), .sh (z667), .un]) (et_w (ew_or (tcmp c_ne (el_of (ev 7)) (el_of (xmeth0 T.k_BorderAsker h_BorderAsker_step (ev 4)))) (ew_or1 (tcmp c_ne (el_of (xmeth0 T.k_BorderAsker h_BorderAsker_asked (ev 4))) (el_of (ee_len (b_len T.b_len) (evo 5))))))) (sb_ret ee_bl) (sb_nil (.eq (.eq (.eq (.eq (.eq (.eq (.eq (.eq (.un Le.nil)))))))))) fun s673 => (show SB _ [.sh (a628), .sh (z629), .sh (z651), .sh (z656), .sh (z661), .ow (s665), .sh (v666), .sh (z667), .un] _ _ _ _ from (sb_if (J := Unit) (shJ := fun s679 => [.sh (a628), .sh (z629), .sh (z651), .sh (z656), .sh (z661), .ow (s665), .sh (v666), .sh (z667), .un]) (tcmp c_eq (el_of (xix (el_of (ev 7)) (el_of ee_int))) (el_of ee_str)) (sb_break (.eq (.eq (.eq (.eq (.eq (.eq (.un (.un (.un Le.nil)))))))))) (sb_nil (.eq (.eq (.eq (.eq (.eq (.eq (.eq (.eq (.un Le.nil)))))))))) fun s679 => (show SB _ [.sh (a628), .sh (z629), .sh (z651), .sh (z656), .sh (z661), .ow (s665), .sh (v666), .sh (z667), .un] _ _ _ _ from (sb_if (J := Unit) (shJ := fun s693 => [.sh (a628), .sh (z629), .sh (z651), .sh (z656), .sh (z661), .ow (s665), .sh (v666), .sh (z667), .un]) (et_w (ew_or (tcmp c_ne (el_of (xix (el_of (ev 7)) (el_of ee_int))) (el_of ee_str)) (ew_or (tcmp c_ne (el_of (ee_len (b_len T.b_len) (el_of (ev 7)))) (el_of ee_int)) (ew_or1 (et_not (et_chain c_le c_lt (el_of ee_int) (el_of (xix (el_of (ev 7)) (el_of ee_int))) (el_of (ee_shl (el_of ee_int) (el_of (ev 1)))))))))) (sb_ret ee_bl) (sb_nil (.eq (.eq (.eq (.eq (.eq (.eq (.eq (.eq (.un Le.nil)))))))))) fun s693 => (show SB _ [.sh (a628), .sh (z629), .sh (z651), .sh (z656), .sh (z661), .ow (s665), .sh (v666), .sh (z667), .un] _ _ _ _ from (s_set 8 sc__law_fits.nd (xcall h__law_true (av (ev 2) (av (xix (el_of (ev 7)) (el_of ee_int)) eak_nil))) (fun z695 => (show SB _ [.sh (a628), .sh (z629), .sh (z651), .sh (z656), .sh (z661), .ow (s665), .sh (v666), .sh (z667), .sh (z695)] _ _ _ _ from (s_append 5 (ee_tup (ea_cons (xix (el_of (ev 7)) (el_of ee_int)) (ea_cons (ev 8) ea_nil))) fun z710 => (show SB _ [.sh (a628), .sh (z629), .sh (z651), .sh (z656), .sh (z661), .ow (z710), .sh (v666), .sh (z667), .sh (z695)] _ _ _ _ from (sb_if (J := Unit) (shJ := fun s719 => [.sh (a628), .sh (z629), .sh (z651), .sh (z656), .sh (z661), .ow (z710), .sh (v666), .sh (z667), .sh (z695)]) (tcmp c_nis (el_of (xcall h__law_tell (av (ev 4) (av (ev 8) eak_nil)))) (el_of ee_non)) (sb_ret ee_bl) (sb_nil (.eq (.eq (.eq (.eq (.eq (.eq (.eq (.eq (.eq Le.nil)))))))))) fun s719 => (show SB _ [.sh (a628), .sh (z629), .sh (z651), .sh (z656), .sh (z661), .ow (z710), .sh (v666), .sh (z667), .sh (z695)] _ _ _ _ from (sb_nil (.eq (.eq (.eq (.eq (.eq (.eq (.un (.un (.un Le.nil))))))))))))))))))))))))))))) fun s665 => (show SB _ [.sh (a628), .sh (z629), .sh (z651), .sh (z656), .sh (z661), .ow (s665), .un, .un, .un] _ _ _ _ from (sb_if (J := Unit) (shJ := fun s748 => [.sh (a628), .sh (z629), .sh (z651), .sh (z656), .sh (z661), .ow (s665), .un, .un, .un]) (et_w (ew_or (et_not (ttr (el_of (xcallG h__law_same (av (xmeth0 T.k_BorderAsker h_BorderAsker_step (ev 4)) (av (ee_tup (ea_cons ee_str (ea_cons (ev 2) (ea_cons (ev 3) ea_nil)))) eak_nil)))))) (ew_or1 (tcmp c_gt (el_of (ee_len (b_len T.b_len) (evo 5))) (el_of (ee_mul (el_of (ee_add (el_of (ee_len (b_len T.b_len) (el_of (ev 2)))) (el_of (ee_len (b_len T.b_len) (el_of (ev 3)))))) (el_of (ee_add (el_of (ev 1)) (el_of ee_int))))))))) (sb_ret ee_bl) (sb_nil (.eq (.eq (.eq (.eq (.eq (.eq (.un (.un (.un Le.nil)))))))))) fun s748 => (show SB _ [.sh (a628), .sh (z629), .sh (z651), .sh (z656), .sh (z661), .ow (s665), .un, .un, .un] _ _ _ _ from (sb_ret (xcmp c_eq (el_new (en_lst (ea_cons (xcall h__law_tell (av (ev 4) (av ee_bl eak_nil))) (ea_cons (xmeth0 T.k_BorderAsker h_BorderAsker_asked (ev 4)) (ea_cons (xcall h_asks_for (av (ev 1) (av (ev 2) eak_nil))) ea_nil))))) (el_new (en_lst (ea_cons ee_str (ea_cons (ee_len (b_len T.b_len) (evo 5)) (ea_cons (ee_len (b_len T.b_len) (evo 5)) ea_nil)))))))))))))))))))))))))))))
abbrev s__law_made : Stmt := topS 29
theorem sc__law_made : FnScope ["count", "trues", "e"] ["count", "trues"] (defScope s__law_made) := ⟨rfl, rfl, rfl, by decide +kernel, rfl, by decide +kernel, by decide +kernel⟩
def b__law_made : List D → M (Out Unit Unit) := p2 (fun a811 a812 => (tryE [101, 103] ((((pure (a812) : M D) >>= fun x814 => (pure D.non : M D) >>= fun x815 => isNoneB x814 x815) >>= fun b837 => (if b837 = true then (((((pure (D.str "told") : M D) >>= fun x822 => ((mthM 0 "asked" (mkM 0 ((pure (a811) : M D) >>= fun x820 => (pure [] : M (List D)) >>= fun xs821 => pure (x820 :: xs821)) m_BorderAsker___init__) (pure []) m_BorderAsker_asked) >>= fun x817 => (pure [] : M (List D)) >>= fun xs818 => pure (x817 :: xs818)) >>= fun xs823 => pure (x822 :: xs823)) >>= mkT) >>= fun x825 => pure (.rt x825)) : M (Out (Unit) _)) else (pure (.nx ()))) >>= seqO fun s816 => ((((pure (D.str "told") : M D) >>= fun x833 => ((((pure (a811) : M D) >>= fun x831 => ((pure (a812) : M D) >>= fun x829 => (pure [] : M (List D)) >>= fun xs830 => pure (x829 :: xs830)) >>= fun xs832 => pure (x831 :: xs832)) >>= m_asks_for) >>= fun x826 => (pure [] : M (List D)) >>= fun xs827 => pure (x826 :: xs827)) >>= fun xs834 => pure (x833 :: xs834)) >>= mkT) >>= fun x836 => pure (.rt x836))) : M (Out (Unit) _)) >>= seqO fun s813 => (pure (.nx ()))))
def m__law_made (ds : List D) : M D := runF (b__law_made ds)
theorem o__law_made {p : Pg} (T : Txt p) {f : Addr} {fd : FuncData} (F : Fun p.K "_law_made" "_law_made" s__law_made f fd) (h__law_error : ErrFn p [101, 103]) (h_BorderAsker_asked : Mtd p 0 1 "asked" [.v] m_BorderAsker_asked) (h_BorderAsker___init__ : Mkr p 0 2 "BorderAsker" [.v, .v] m_BorderAsker___init__) (h_asks_for : Fnc p 4 "asks_for" [.v, .v] m_asks_for) : FnOk p.P p.w p.K p.mg p.base (L2N.CX p.P p.w) 5 f fd ["count", "trues"] (spD p [.v, .v] m__law_made) :=
  fnok_of (k := 4) (N := ["count", "trues", "e"]) (body := b__law_made) (shN := fun _ => [.un, .un, .un]) (shB := fun _ => []) F sc__law_made rfl (q2 (P := fun ds m => SB _ (argE _ ds ++ _) _ m _ _) (fun a811 a812 => (show SB _ [.sh (a811), .sh (a812), .un] _ _ _ _ from (s_try (J := Unit) (shJ := fun s813 => [.sh (a811), .sh (a812), .un]) 2 h__law_error T.em sc__law_made.nd (show SB _ [.sh (a811), .sh (a812), .un] _ _ _ _ from (sb_if (J := Unit) (shJ := fun s816 => [.sh (a811), .sh (a812), .un]) (tcmp c_is (el_of (ev 1)) (el_of ee_non)) (sb_ret (ee_tup (ea_cons ee_str (ea_cons (xmeth0 T.k_BorderAsker h_BorderAsker_asked (xmake h_BorderAsker___init__ (av (ev 0) eak_nil))) ea_nil)))) (sb_nil (.eq (.eq (.un Le.nil)))) fun s816 => (show SB _ [.sh (a811), .sh (a812), .un] _ _ _ _ from (sb_ret (ee_tup (ea_cons ee_str (ea_cons (xcall h_asks_for (av (ev 0) (av (ev 1) eak_nil))) ea_nil))))))) fun s813 => (show SB _ [.sh (a811), .sh (a812), .un] _ _ _ _ from (sb_nil (.un (.un (.un Le.nil)))))))))
abbrev s_law : Stmt := topS 30
theorem sc_law : FnScope ["script", "state", "turn"] ["script"] (defScope s_law) := ⟨rfl, rfl, rfl, by decide +kernel, rfl, by decide +kernel, by decide +kernel⟩
def b_law : List D → M (Out Unit Unit) := p1 (fun a838 => (((((((pure (a838) : M D) >>= fun x846 => (pure [] : M (List D)) >>= fun xs847 => pure (x846 :: xs847)) >>= m__law_stream) >>= fun x843 => ((pure (D.int 0) : M D) >>= fun x840 => (pure [] : M (List D)) >>= fun xs841 => pure (x840 :: xs841)) >>= fun xs844 => pure (x843 :: xs844)) >>= mkL) >>= celD) >>= fun z839 => (((pure (D.int 4) : M D) >>= range1) >>= fun xs982 => forL (fun (s848 : Unit) x983 => nm x983 >>= p1 (fun v849 => ((((((pure (z839) : M D) >>= fun x850 => (pure [] : M (List D)) >>= fun xs851 => pure (x850 :: xs851)) >>= m__law_fits) >>= truth) >>= fun b852 => (pure (!b852) : M Bool)) >>= fun b855 => (if b855 = true then (((pure (D.bl false) : M D) >>= fun x854 => pure (.rt x854)) : M (Out (Unit) _)) else (pure (.nx ()))) >>= seqO fun s853 => (pure (.nx ()))))) () xs982 >>= seqO fun s848 => (((((((pure (D.int 0) : M D) >>= fun x963 => ((pure D.non : M D) >>= fun x961 => (pure [] : M (List D)) >>= fun xs962 => pure (x961 :: xs962)) >>= fun xs964 => pure (x963 :: xs964)) >>= m__law_made) >>= fun x958 => ((((pure (D.int 9) : M D) >>= fun x956 => ((pure D.non : M D) >>= fun x954 => (pure [] : M (List D)) >>= fun xs955 => pure (x954 :: xs955)) >>= fun xs957 => pure (x956 :: xs957)) >>= m__law_made) >>= fun x951 => ((((pure (D.int 2) : M D) >>= fun x949 => ((((pure (D.int 0) : M D) >>= fun x944 => ((pure (D.int 1) : M D) >>= fun x941 => (pure [] : M (List D)) >>= fun xs942 => pure (x941 :: xs942)) >>= fun xs945 => pure (x944 :: xs945)) >>= mkT) >>= fun x947 => (pure [] : M (List D)) >>= fun xs948 => pure (x947 :: xs948)) >>= fun xs950 => pure (x949 :: xs950)) >>= m__law_made) >>= fun x938 => ((((pure (D.int 2) : M D) >>= fun x936 => ((((pure (D.int 4) : M D) >>= fun x931 => (pure [] : M (List D)) >>= fun xs932 => pure (x931 :: xs932)) >>= mkT) >>= fun x934 => (pure [] : M (List D)) >>= fun xs935 => pure (x934 :: xs935)) >>= fun xs937 => pure (x936 :: xs937)) >>= m__law_made) >>= fun x928 => ((((pure (D.int 1) : M D) >>= fun x926 => ((pure D.non : M D) >>= fun x924 => (pure [] : M (List D)) >>= fun xs925 => pure (x924 :: xs925)) >>= fun xs927 => pure (x926 :: xs927)) >>= m__law_made) >>= fun x921 => (pure [] : M (List D)) >>= fun xs922 => pure (x921 :: xs922)) >>= fun xs929 => pure (x928 :: xs929)) >>= fun xs939 => pure (x938 :: xs939)) >>= fun xs952 => pure (x951 :: xs952)) >>= fun xs959 => pure (x958 :: xs959)) >>= mkL) >>= fun x919 => (((((pure (D.str "refused") : M D) >>= fun x965 => (pure [] : M (List D)) >>= fun xs966 => pure (x965 :: xs966)) >>= mkL) >>= fun x968 => (pure (D.int 4) : M D) >>= fun x969 => repL x968 x969) >>= fun x979 => (((((pure (D.str "told") : M D) >>= fun x976 => ((pure (D.int 0) : M D) >>= fun x973 => (pure [] : M (List D)) >>= fun xs974 => pure (x973 :: xs974)) >>= fun xs977 => pure (x976 :: xs977)) >>= mkT) >>= fun x970 => (pure [] : M (List D)) >>= fun xs971 => pure (x970 :: xs971)) >>= mkL) >>= fun x980 => catD x979 x980) >>= fun x920 => eqB x919 x920 >>= fun b918 => (pure (D.bl b918) : M D)) >>= fun x981 => pure (.rt x981)))))
def m_law (ds : List D) : M D := runF (b_law ds)
theorem o_law {p : Pg} (T : Txt p) {f : Addr} {fd : FuncData} (F : Fun p.K "law" "law" s_law f fd) (h__law_stream : Fnc p 1 "_law_stream" [.v] m__law_stream) (h__law_fits : FncG p 5 "_law_fits" [.v] m__law_fits) (h__law_made : Fnc p 5 "_law_made" [.v, .v] m__law_made) : FnG p.P p.w p.K p.mg p.base 6 f fd ["script"] (spD p [.v] m_law) :=
  fng_of (k := 5) (N := ["script", "state", "turn"]) (body := b_law) (shN := fun _ => [.un, .un, .un]) (shB := fun _ => []) F sc_law rfl (q1 (P := fun ds m => SB _ (argE _ ds ++ _) _ m _ _) (fun a838 => (show SB _ [.sh (a838), .un, .un] _ _ _ _ from (s_set 1 sc_law.nd (ee_cell (en_lst (ea_cons (xcall h__law_stream (av (ev 0) eak_nil)) (ea_cons ee_int ea_nil)))) (fun z839 => (show SB _ [.sh (a838), .sh (z839), .un] _ _ _ _ from (s_for (Z := Unit) (sh := fun s848 => [.sh (a838), .sh (z839), .un]) (ei_range1 (by rfl) T.b_range (el_of ee_int)) (tn 2 sc_law.nd) nm_pure nm_len (.eq (.eq (.un Le.nil))) (fun s848 => q1 (P := fun ds m => SB _ (setE _ _ ds) _ m _ _) (fun v849 => (show SB _ [.sh (a838), .sh (z839), .sh (v849)] _ _ _ _ from (sb_if (J := Unit) (shJ := fun s853 => [.sh (a838), .sh (z839), .sh (v849)]) (et_not (ttr (el_of (xcallG h__law_fits (av (ev 1) eak_nil))))) (sb_ret ee_bl) (sb_nil (.eq (.eq (.eq Le.nil)))) fun s853 => (show SB _ [.sh (a838), .sh (z839), .sh (v849)] _ _ _ _ from (sb_nil (.eq (.eq (.un Le.nil))))))))) fun s848 => (show SB _ [.sh (a838), .sh (z839), .un] _ _ _ _ from (sb_ret (xcmp c_eq (el_new (en_lst (ea_cons (xcall h__law_made (av ee_int (av ee_non eak_nil))) (ea_cons (xcall h__law_made (av ee_int (av ee_non eak_nil))) (ea_cons (xcall h__law_made (av ee_int (av (ee_tup (ea_cons ee_int (ea_cons ee_int ea_nil))) eak_nil))) (ea_cons (xcall h__law_made (av ee_int (av (ee_tup (ea_cons ee_int ea_nil)) eak_nil))) (ea_cons (xcall h__law_made (av ee_int (av ee_non eak_nil))) ea_nil))))))) (el_new (en_cat (el_new (en_rep (el_new (en_lst (ea_cons ee_str ea_nil))) (el_of ee_int))) (el_new (en_lst (ea_cons (ee_tup (ea_cons ee_str (ea_cons ee_int ea_nil))) ea_nil)))))))))))))))
theorem all_mk {l : PySem.W.OpenLaw} {w : World} {K : PySem.W.Frag} {h : Heap} {mg : Str → Option Value} {fa C0 E100 E101 E102 E103 E104 E105 f0 f1 f2 f3 f4 f5 f6 f7 f8 f9 f10 f11 f12 f13 f14 f15 f16 f17 f18 f19 f20 f21 f22 f23 f24 f25 f26 : Addr} (X : K.In h) (G : h.Ns mainGlobals mg) (hfa : mg "law" = some (.ref fa))
    {od0 an0 od1 an1 od2 an2 od3 an3 od4 an4 od5 an5 od6 an6 od7 an7 od8 an8 od9 an9 od10 an10 od11 an11 od12 an12 od13 an13 od14 an14 od15 an15 od16 an16 od17 an17 od18 an18 od19 an19 od20 an20 od21 an21 od22 an22 od23 an23 od24 an24 od25 an25 od26 an26 : Option Addr} {sl0 sl1 sl2 sl3 sl4 sl5 sl6 sl7 sl8 sl9 sl10 sl11 sl12 sl13 sl14 sl15 sl16 sl17 sl18 sl19 sl20 sl21 sl22 sl23 sl24 sl25 sl26 : Array (Option Value)} {oc0 kV0 dc0 pm0 cd0 ct0 oc1 kV1 dc1 pm1 cd1 ct1 oc2 kV2 dc2 pm2 cd2 ct2 oc3 kV3 dc3 pm3 cd3 ct3 oc4 kV4 dc4 pm4 cd4 ct4 oc5 kV5 dc5 pm5 cd5 ct5 oc6 kV6 dc6 pm6 cd6 ct6 oc7 kV7 dc7 pm7 cd7 ct7 oc8 kV8 dc8 pm8 cd8 ct8 oc9 kV9 dc9 pm9 cd9 ct9 oc10 kV10 dc10 pm10 cd10 ct10 oc11 kV11 dc11 pm11 cd11 ct11 oc12 kV12 dc12 pm12 cd12 ct12 oc13 kV13 dc13 pm13 cd13 ct13 oc14 kV14 dc14 pm14 cd14 ct14 oc15 kV15 dc15 pm15 cd15 ct15 oc16 kV16 dc16 pm16 cd16 ct16 oc17 kV17 dc17 pm17 cd17 ct17 oc18 kV18 dc18 pm18 cd18 ct18 oc19 kV19 dc19 pm19 cd19 ct19 oc20 kV20 dc20 pm20 cd20 ct20 oc21 kV21 dc21 pm21 cd21 ct21 oc22 kV22 dc22 pm22 cd22 ct22 oc23 kV23 dc23 pm23 cd23 ct23 oc24 kV24 dc24 pm24 cd24 ct24 oc25 kV25 dc25 pm25 cd25 ct25 oc26 kV26 dc26 pm26 cd26 ct26 : Value} {t_MAX_THINGS : Tok}
    (a0 : PySem.W.nsIn K mainGlobals "check_count" = some (some (.ref f0)))
    (l0 : K.lookup f0 = some ⟨oc0, od0, .func (PySem.W.fnOf "check_count" "check_count" (defArgs s_check_count) (defBody s_check_count) (defScope s_check_count) .none kV0 dc0 pm0 an0 cd0 ct0), sl0⟩) (c0 : PySem.W.codeIn K cd0 "check_count" = true) (k0 : PySem.W.keepIn K (.ref f0) = true)
    (a1 : PySem.W.nsIn K mainGlobals "check_sets" = some (some (.ref f1)))
    (l1 : K.lookup f1 = some ⟨oc1, od1, .func (PySem.W.fnOf "check_sets" "check_sets" (defArgs s_check_sets) (defBody s_check_sets) (defScope s_check_sets) .none kV1 dc1 pm1 an1 cd1 ct1), sl1⟩) (c1 : PySem.W.codeIn K cd1 "check_sets" = true) (k1 : PySem.W.keepIn K (.ref f1) = true)
    (a2 : PySem.W.nsIn K mainGlobals "things_in" = some (some (.ref f2)))
    (l2 : K.lookup f2 = some ⟨oc2, od2, .func (PySem.W.fnOf "things_in" "things_in" (defArgs s_things_in) (defBody s_things_in) (defScope s_things_in) .none kV2 dc2 pm2 an2 cd2 ct2), sl2⟩) (c2 : PySem.W.codeIn K cd2 "things_in" = true) (k2 : PySem.W.keepIn K (.ref f2) = true)
    (a3 : PySem.W.nsIn K mainGlobals "least_of" = some (some (.ref f3)))
    (l3 : K.lookup f3 = some ⟨oc3, od3, .func (PySem.W.fnOf "least_of" "least_of" (defArgs s_least_of) (defBody s_least_of) (defScope s_least_of) .none kV3 dc3 pm3 an3 cd3 ct3), sl3⟩) (c3 : PySem.W.codeIn K cd3 "least_of" = true) (k3 : PySem.W.keepIn K (.ref f3) = true)
    (a4 : PySem.W.nsIn K mainGlobals "check_border" = some (some (.ref f4)))
    (l4 : K.lookup f4 = some ⟨oc4, od4, .func (PySem.W.fnOf "check_border" "check_border" (defArgs s_check_border) (defBody s_check_border) (defScope s_check_border) .none kV4 dc4 pm4 an4 cd4 ct4), sl4⟩) (c4 : PySem.W.codeIn K cd4 "check_border" = true) (k4 : PySem.W.keepIn K (.ref f4) = true)
    (a5 : PySem.W.nsIn K mainGlobals "first_open" = some (some (.ref f5)))
    (l5 : K.lookup f5 = some ⟨oc5, od5, .func (PySem.W.fnOf "first_open" "first_open" (defArgs s_first_open) (defBody s_first_open) (defScope s_first_open) .none kV5 dc5 pm5 an5 cd5 ct5), sl5⟩) (c5 : PySem.W.codeIn K cd5 "first_open" = true) (k5 : PySem.W.keepIn K (.ref f5) = true)
    (a6 : PySem.W.findIn K (.ref C0) "__init__" = some (some (.ref f6))) (i6 : PySem.W.isFn K (.ref f6) = true)
    (l6 : K.lookup f6 = some ⟨oc6, od6, .func (PySem.W.fnOf "__init__" "BorderAsker.__init__" (defArgs s_BorderAsker___init__) (defBody s_BorderAsker___init__) (defScope s_BorderAsker___init__) .none kV6 dc6 pm6 an6 cd6 ct6), sl6⟩) (c6 : PySem.W.codeIn K cd6 "BorderAsker.__init__" = true) (k6 : PySem.W.keepIn K (.ref f6) = true)
    (a7 : PySem.W.findIn K (.ref C0) "answer_of" = some (some (.ref f7))) (i7 : PySem.W.isFn K (.ref f7) = true)
    (l7 : K.lookup f7 = some ⟨oc7, od7, .func (PySem.W.fnOf "answer_of" "BorderAsker.answer_of" (defArgs s_BorderAsker_answer_of) (defBody s_BorderAsker_answer_of) (defScope s_BorderAsker_answer_of) .none kV7 dc7 pm7 an7 cd7 ct7), sl7⟩) (c7 : PySem.W.codeIn K cd7 "BorderAsker.answer_of" = true) (k7 : PySem.W.keepIn K (.ref f7) = true)
    (a8 : PySem.W.findIn K (.ref C0) "tried" = some (some (.ref f8))) (i8 : PySem.W.isFn K (.ref f8) = true)
    (l8 : K.lookup f8 = some ⟨oc8, od8, .func (PySem.W.fnOf "tried" "BorderAsker.tried" (defArgs s_BorderAsker_tried) (defBody s_BorderAsker_tried) (defScope s_BorderAsker_tried) .none kV8 dc8 pm8 an8 cd8 ct8), sl8⟩) (c8 : PySem.W.codeIn K cd8 "BorderAsker.tried" = true) (k8 : PySem.W.keepIn K (.ref f8) = true)
    (a9 : PySem.W.findIn K (.ref C0) "go_on" = some (some (.ref f9))) (i9 : PySem.W.isFn K (.ref f9) = true)
    (l9 : K.lookup f9 = some ⟨oc9, od9, .func (PySem.W.fnOf "go_on" "BorderAsker.go_on" (defArgs s_BorderAsker_go_on) (defBody s_BorderAsker_go_on) (defScope s_BorderAsker_go_on) .none kV9 dc9 pm9 an9 cd9 ct9), sl9⟩) (c9 : PySem.W.codeIn K cd9 "BorderAsker.go_on" = true) (k9 : PySem.W.keepIn K (.ref f9) = true)
    (a10 : PySem.W.findIn K (.ref C0) "step" = some (some (.ref f10))) (i10 : PySem.W.isFn K (.ref f10) = true)
    (l10 : K.lookup f10 = some ⟨oc10, od10, .func (PySem.W.fnOf "step" "BorderAsker.step" (defArgs s_BorderAsker_step) (defBody s_BorderAsker_step) (defScope s_BorderAsker_step) .none kV10 dc10 pm10 an10 cd10 ct10), sl10⟩) (c10 : PySem.W.codeIn K cd10 "BorderAsker.step" = true) (k10 : PySem.W.keepIn K (.ref f10) = true)
    (a11 : PySem.W.findIn K (.ref C0) "tell" = some (some (.ref f11))) (i11 : PySem.W.isFn K (.ref f11) = true)
    (l11 : K.lookup f11 = some ⟨oc11, od11, .func (PySem.W.fnOf "tell" "BorderAsker.tell" (defArgs s_BorderAsker_tell) (defBody s_BorderAsker_tell) (defScope s_BorderAsker_tell) .none kV11 dc11 pm11 an11 cd11 ct11), sl11⟩) (c11 : PySem.W.codeIn K cd11 "BorderAsker.tell" = true) (k11 : PySem.W.keepIn K (.ref f11) = true)
    (a12 : PySem.W.findIn K (.ref C0) "asked" = some (some (.ref f12))) (i12 : PySem.W.isFn K (.ref f12) = true)
    (l12 : K.lookup f12 = some ⟨oc12, od12, .func (PySem.W.fnOf "asked" "BorderAsker.asked" (defArgs s_BorderAsker_asked) (defBody s_BorderAsker_asked) (defScope s_BorderAsker_asked) .none kV12 dc12 pm12 an12 cd12 ct12), sl12⟩) (c12 : PySem.W.codeIn K cd12 "BorderAsker.asked" = true) (k12 : PySem.W.keepIn K (.ref f12) = true)
    (a13 : PySem.W.nsIn K mainGlobals "asks_for" = some (some (.ref f13)))
    (l13 : K.lookup f13 = some ⟨oc13, od13, .func (PySem.W.fnOf "asks_for" "asks_for" (defArgs s_asks_for) (defBody s_asks_for) (defScope s_asks_for) .none kV13 dc13 pm13 an13 cd13 ct13), sl13⟩) (c13 : PySem.W.codeIn K cd13 "asks_for" = true) (k13 : PySem.W.keepIn K (.ref f13) = true)
    (a14 : PySem.W.nsIn K mainGlobals "_law_same" = some (some (.ref f14)))
    (l14 : K.lookup f14 = some ⟨oc14, od14, .func (PySem.W.fnOf "_law_same" "_law_same" (defArgs s__law_same) (defBody s__law_same) (defScope s__law_same) .none kV14 dc14 pm14 an14 cd14 ct14), sl14⟩) (c14 : PySem.W.codeIn K cd14 "_law_same" = true) (k14 : PySem.W.keepIn K (.ref f14) = true)
    (a15 : PySem.W.nsIn K mainGlobals "_law_stream" = some (some (.ref f15)))
    (l15 : K.lookup f15 = some ⟨oc15, od15, .func (PySem.W.fnOf "_law_stream" "_law_stream" (defArgs s__law_stream) (defBody s__law_stream) (defScope s__law_stream) .none kV15 dc15 pm15 an15 cd15 ct15), sl15⟩) (c15 : PySem.W.codeIn K cd15 "_law_stream" = true) (k15 : PySem.W.keepIn K (.ref f15) = true)
    (a16 : PySem.W.nsIn K mainGlobals "_law_next" = some (some (.ref f16)))
    (l16 : K.lookup f16 = some ⟨oc16, od16, .func (PySem.W.fnOf "_law_next" "_law_next" (defArgs s__law_next) (defBody s__law_next) (defScope s__law_next) .none kV16 dc16 pm16 an16 cd16 ct16), sl16⟩) (c16 : PySem.W.codeIn K cd16 "_law_next" = true) (k16 : PySem.W.keepIn K (.ref f16) = true)
    (a17 : PySem.W.nsIn K mainGlobals "_law_error" = some (some (.ref f17)))
    (l17 : K.lookup f17 = some ⟨oc17, od17, .func (PySem.W.fnOf "_law_error" "_law_error" (defArgs s__law_error) (defBody s__law_error) (defScope s__law_error) .none kV17 dc17 pm17 an17 cd17 ct17), sl17⟩) (c17 : PySem.W.codeIn K cd17 "_law_error" = true) (k17 : PySem.W.keepIn K (.ref f17) = true)
    (a18 : PySem.W.nsIn K mainGlobals "_law_least" = some (some (.ref f18)))
    (l18 : K.lookup f18 = some ⟨oc18, od18, .func (PySem.W.fnOf "_law_least" "_law_least" (defArgs s__law_least) (defBody s__law_least) (defScope s__law_least) .none kV18 dc18 pm18 an18 cd18 ct18), sl18⟩) (c18 : PySem.W.codeIn K cd18 "_law_least" = true) (k18 : PySem.W.keepIn K (.ref f18) = true)
    (a19 : PySem.W.nsIn K mainGlobals "_law_greatest" = some (some (.ref f19)))
    (l19 : K.lookup f19 = some ⟨oc19, od19, .func (PySem.W.fnOf "_law_greatest" "_law_greatest" (defArgs s__law_greatest) (defBody s__law_greatest) (defScope s__law_greatest) .none kV19 dc19 pm19 an19 cd19 ct19), sl19⟩) (c19 : PySem.W.codeIn K cd19 "_law_greatest" = true) (k19 : PySem.W.keepIn K (.ref f19) = true)
    (a20 : PySem.W.nsIn K mainGlobals "_law_true" = some (some (.ref f20)))
    (l20 : K.lookup f20 = some ⟨oc20, od20, .func (PySem.W.fnOf "_law_true" "_law_true" (defArgs s__law_true) (defBody s__law_true) (defScope s__law_true) .none kV20 dc20 pm20 an20 cd20 ct20), sl20⟩) (c20 : PySem.W.codeIn K cd20 "_law_true" = true) (k20 : PySem.W.keepIn K (.ref f20) = true)
    (a21 : PySem.W.nsIn K mainGlobals "_law_border" = some (some (.ref f21)))
    (l21 : K.lookup f21 = some ⟨oc21, od21, .func (PySem.W.fnOf "_law_border" "_law_border" (defArgs s__law_border) (defBody s__law_border) (defScope s__law_border) .none kV21 dc21 pm21 an21 cd21 ct21), sl21⟩) (c21 : PySem.W.codeIn K cd21 "_law_border" = true) (k21 : PySem.W.keepIn K (.ref f21) = true)
    (a22 : PySem.W.nsIn K mainGlobals "_law_falses" = some (some (.ref f22)))
    (l22 : K.lookup f22 = some ⟨oc22, od22, .func (PySem.W.fnOf "_law_falses" "_law_falses" (defArgs s__law_falses) (defBody s__law_falses) (defScope s__law_falses) .none kV22 dc22 pm22 an22 cd22 ct22), sl22⟩) (c22 : PySem.W.codeIn K cd22 "_law_falses" = true) (k22 : PySem.W.keepIn K (.ref f22) = true)
    (a23 : PySem.W.nsIn K mainGlobals "_law_tell" = some (some (.ref f23)))
    (l23 : K.lookup f23 = some ⟨oc23, od23, .func (PySem.W.fnOf "_law_tell" "_law_tell" (defArgs s__law_tell) (defBody s__law_tell) (defScope s__law_tell) .none kV23 dc23 pm23 an23 cd23 ct23), sl23⟩) (c23 : PySem.W.codeIn K cd23 "_law_tell" = true) (k23 : PySem.W.keepIn K (.ref f23) = true)
    (a24 : PySem.W.nsIn K mainGlobals "_law_fits" = some (some (.ref f24)))
    (l24 : K.lookup f24 = some ⟨oc24, od24, .func (PySem.W.fnOf "_law_fits" "_law_fits" (defArgs s__law_fits) (defBody s__law_fits) (defScope s__law_fits) .none kV24 dc24 pm24 an24 cd24 ct24), sl24⟩) (c24 : PySem.W.codeIn K cd24 "_law_fits" = true) (k24 : PySem.W.keepIn K (.ref f24) = true)
    (a25 : PySem.W.nsIn K mainGlobals "_law_made" = some (some (.ref f25)))
    (l25 : K.lookup f25 = some ⟨oc25, od25, .func (PySem.W.fnOf "_law_made" "_law_made" (defArgs s__law_made) (defBody s__law_made) (defScope s__law_made) .none kV25 dc25 pm25 an25 cd25 ct25), sl25⟩) (c25 : PySem.W.codeIn K cd25 "_law_made" = true) (k25 : PySem.W.keepIn K (.ref f25) = true)
    (a26 : PySem.W.nsIn K mainGlobals "law" = some (some (.ref f26)))
    (l26 : K.lookup f26 = some ⟨oc26, od26, .func (PySem.W.fnOf "law" "law" (defArgs s_law) (defBody s_law) (defScope s_law) .none kV26 dc26 pm26 an26 cd26 ct26), sl26⟩) (c26 : PySem.W.codeIn K cd26 "law" = true) (k26 : PySem.W.keepIn K (.ref f26) = true)
    (aC0 : PySem.W.nsIn K mainGlobals "BorderAsker" = some (some (.ref C0))) (pg0 : PySem.W.plainGet K C0 Str.empty = true) (hd0 : PySem.W.hasDictIn K C0 = true) (po0 : PySem.W.plainOver K C0 = true) (sa0 : PySem.W.findIn K (.ref C0) "__setattr__" = some (some (.builtin "object.__setattr__"))) (mk0 : PySem.W.makesIn K C0 = true) (kc0 : PySem.W.keepIn K (.ref C0) = true)
    (n0_0 : PySem.W.findIn K (.ref C0) "count" = some none)
    (n0_1 : PySem.W.findIn K (.ref C0) "trues" = some none)
    (n0_2 : PySem.W.findIn K (.ref C0) "falses" = some none)
    (n0_3 : PySem.W.findIn K (.ref C0) "asks" = some none)
    (n0_4 : PySem.W.findIn K (.ref C0) "here" = some none)
    (n0_5 : PySem.W.findIn K (.ref C0) "left" = some none)
    (n0_6 : PySem.W.findIn K (.ref C0) "bit" = some none)
    (aE100 : PySem.W.nsIn K mainGlobals "MaieuticError" = some (some (.ref E100)))
    (aE101 : PySem.W.nsIn K mainGlobals "NotAllowed" = some (some (.ref E101)))
    (aE102 : PySem.W.nsIn K mainGlobals "Missing" = some (some (.ref E102)))
    (aE103 : PySem.W.nsIn K mainGlobals "Wrong" = some (some (.ref E103)))
    (aE104 : PySem.W.nsIn K mainGlobals "BadForm" = some (some (.ref E104)))
    (aE105 : PySem.W.nsIn K mainGlobals "Alike" = some (some (.ref E105)))
    (kE101 : PySem.W.keepIn K (.ref E101) = true)
    (xE101 : PySem.W.excIn K E101 bmVE "ValueError.__new__" = true)
    (sE101 : PySem.W.subIn K (.ref E101) (.type "BaseException") = some true)
    (tE101 : PySem.W.typeIn K (.ref E101) = some (.type "type"))
    (gE101 : PySem.W.findIn K (.ref E101) "__getattribute__" = some (some (.builtin "BaseException.__getattribute__")))
    (hE101 : PySem.W.findIn K (.ref E101) "__getattr__" = some none)
    (dE101 : PySem.W.hasDictIn K E101 = true)
    (cE101 : PySem.W.findIn K (.ref E101) "__class__" = some (some (.builtin "object.__class__")))
    (mE101 : PySem.W.mroIn K E101 (.type "object") = some true)
    (iE101_101 : PySem.W.kitOne K (.ref E101) (.ref E101) = some true)
    (iE101_102 : PySem.W.kitOne K (.ref E101) (.ref E102) = some false)
    (iE101_103 : PySem.W.kitOne K (.ref E101) (.ref E103) = some false)
    (iE101_104 : PySem.W.kitOne K (.ref E101) (.ref E104) = some false)
    (iE101_105 : PySem.W.kitOne K (.ref E101) (.ref E105) = some false)
    (eE101 : PySem.W.exmOne K (.ref E101) (.ref E100) = some true)
    (kE103 : PySem.W.keepIn K (.ref E103) = true)
    (xE103 : PySem.W.excIn K E103 bmVE "ValueError.__new__" = true)
    (sE103 : PySem.W.subIn K (.ref E103) (.type "BaseException") = some true)
    (tE103 : PySem.W.typeIn K (.ref E103) = some (.type "type"))
    (gE103 : PySem.W.findIn K (.ref E103) "__getattribute__" = some (some (.builtin "BaseException.__getattribute__")))
    (hE103 : PySem.W.findIn K (.ref E103) "__getattr__" = some none)
    (dE103 : PySem.W.hasDictIn K E103 = true)
    (cE103 : PySem.W.findIn K (.ref E103) "__class__" = some (some (.builtin "object.__class__")))
    (mE103 : PySem.W.mroIn K E103 (.type "object") = some true)
    (iE103_101 : PySem.W.kitOne K (.ref E103) (.ref E101) = some false)
    (iE103_102 : PySem.W.kitOne K (.ref E103) (.ref E102) = some false)
    (iE103_103 : PySem.W.kitOne K (.ref E103) (.ref E103) = some true)
    (iE103_104 : PySem.W.kitOne K (.ref E103) (.ref E104) = some false)
    (iE103_105 : PySem.W.kitOne K (.ref E103) (.ref E105) = some false)
    (eE103 : PySem.W.exmOne K (.ref E103) (.ref E100) = some true)
    (nE : PySem.W.specialIn K (.builtin "object.__class__") "__get__" = some (some (.builtin "getset_descriptor.__get__")))
    (vE : PySem.W.takesIn K (.builtin "object.__class__") = some true)
    (zb_abs : PySem.W.nsIn K mainGlobals "abs" = some none)
    (zb_all : PySem.W.nsIn K mainGlobals "all" = some none)
    (zb_any : PySem.W.nsIn K mainGlobals "any" = some none)
    (zb_int : PySem.W.nsIn K mainGlobals "int" = some none)
    (zb_isinstance : PySem.W.nsIn K mainGlobals "isinstance" = some none)
    (zb_len : PySem.W.nsIn K mainGlobals "len" = some none)
    (zb_list : PySem.W.nsIn K mainGlobals "list" = some none)
    (zb_range : PySem.W.nsIn K mainGlobals "range" = some none)
    (zb_repr : PySem.W.nsIn K mainGlobals "repr" = some none)
    (zb_set : PySem.W.nsIn K mainGlobals "set" = some none)
    (zb_sorted : PySem.W.nsIn K mainGlobals "sorted" = some none)
    (zb_sum : PySem.W.nsIn K mainGlobals "sum" = some none)
    (zb_tuple : PySem.W.nsIn K mainGlobals "tuple" = some none)
    (zc_MAX_THINGS : PySem.W.nsIn K mainGlobals "MAX_THINGS" = some (some (.int 8 t_MAX_THINGS)))
    (ok : LawOk m_law) : ∃ fd : FuncData, (∀ (s : Shared) (u : Value), BindsTo s fd ⟨[u], []⟩ [("script", u)]) ∧ ∀ base : Heap, K.In base → base.Ns mainGlobals mg → FnG l.prog w K mg base 6 fa fd ["script"] (spLaw K) := by
  cases hfa.symm.trans (PySem.W.mg_of X G a26)
  have F0 := fun_mk (st := s_check_count) l0 c0 k0
  have F1 := fun_mk (st := s_check_sets) l1 c1 k1
  have F2 := fun_mk (st := s_things_in) l2 c2 k2
  have F3 := fun_mk (st := s_least_of) l3 c3 k3
  have F4 := fun_mk (st := s_check_border) l4 c4 k4
  have F5 := fun_mk (st := s_first_open) l5 c5 k5
  have F6 := fun_mk (st := s_BorderAsker___init__) l6 c6 k6
  have F7 := fun_mk (st := s_BorderAsker_answer_of) l7 c7 k7
  have F8 := fun_mk (st := s_BorderAsker_tried) l8 c8 k8
  have F9 := fun_mk (st := s_BorderAsker_go_on) l9 c9 k9
  have F10 := fun_mk (st := s_BorderAsker_step) l10 c10 k10
  have F11 := fun_mk (st := s_BorderAsker_tell) l11 c11 k11
  have F12 := fun_mk (st := s_BorderAsker_asked) l12 c12 k12
  have F13 := fun_mk (st := s_asks_for) l13 c13 k13
  have F14 := fun_mk (st := s__law_same) l14 c14 k14
  have F15 := fun_mk (st := s__law_stream) l15 c15 k15
  have F16 := fun_mk (st := s__law_next) l16 c16 k16
  have F17 := fun_mk (st := s__law_error) l17 c17 k17
  have F18 := fun_mk (st := s__law_least) l18 c18 k18
  have F19 := fun_mk (st := s__law_greatest) l19 c19 k19
  have F20 := fun_mk (st := s__law_true) l20 c20 k20
  have F21 := fun_mk (st := s__law_border) l21 c21 k21
  have F22 := fun_mk (st := s__law_falses) l22 c22 k22
  have F23 := fun_mk (st := s__law_tell) l23 c23 k23
  have F24 := fun_mk (st := s__law_fits) l24 c24 k24
  have F25 := fun_mk (st := s__law_made) l25 c25 k25
  have F26 := fun_mk (st := s_law) l26 c26 k26
  refine ⟨PySem.W.fnOf "law" "law" (defArgs s_law) (defBody s_law) (defScope s_law) .none kV26 dc26 pm26 an26 cd26 ct26, fun s v => .of_eq rfl, fun base _ _ => ?_⟩
  let p : Pg := ⟨l.prog, w, K, mg, base, fun n => match n with | 0 => C0 | 100 => E100 | 101 => E101 | 102 => E102 | 103 => E103 | 104 => E104 | 105 => E105 | _ => fa⟩
  have T : Txt p := {
    b_abs := PySem.W.mg_none_of X G zb_abs,
    b_all := PySem.W.mg_none_of X G zb_all,
    b_any := PySem.W.mg_none_of X G zb_any,
    b_int := PySem.W.mg_none_of X G zb_int,
    b_len := PySem.W.mg_none_of X G zb_len,
    b_list := PySem.W.mg_none_of X G zb_list,
    b_range := PySem.W.mg_none_of X G zb_range,
    b_repr := PySem.W.mg_none_of X G zb_repr,
    b_set := PySem.W.mg_none_of X G zb_set,
    b_sorted := PySem.W.mg_none_of X G zb_sorted,
    b_tuple := PySem.W.mg_none_of X G zb_tuple,
    c_MAX_THINGS := ⟨_, PySem.W.mg_of X G zc_MAX_THINGS⟩,
    k_BorderAsker := ⟨⟨pg0, hd0, po0, sa0⟩, fun f hf => by
    simp only [List.mem_cons, List.not_mem_nil, or_false] at hf
    rcases hf with rfl | rfl | rfl | rfl | rfl | rfl | rfl
    · exact n0_0
    · exact n0_1
    · exact n0_2
    · exact n0_3
    · exact n0_4
    · exact n0_5
    · exact n0_6⟩,
    x_NotAllowed := ⟨PySem.W.mg_of X G aE101, kE101, xE101, sE101, tE101⟩,
    x_Wrong := ⟨PySem.W.mg_of X G aE103, kE103, xE103, sE103, tE103⟩,
    em := ⟨PySem.W.mg_of X G aE100, by
    intro c hc
    simp only [List.mem_cons, List.not_mem_nil, or_false] at hc
    rcases hc with rfl | rfl
    · exact eE101
    · exact eE103⟩ }
  have hE : ErrFacts p.K p.mg p.cA [101, 103] := ⟨PySem.W.mg_of X G aE101, PySem.W.mg_of X G aE102, PySem.W.mg_of X G aE103, PySem.W.mg_of X G aE104, PySem.W.mg_of X G aE105, PySem.W.mg_none_of X G zb_sum, PySem.W.mg_none_of X G zb_int, PySem.W.mg_none_of X G zb_isinstance, by
    intro c hc
    simp only [List.mem_cons, List.not_mem_nil, or_false] at hc
    rcases hc with rfl | rfl
    · exact ⟨gE101, hE101, sE101, dE101, cE101, nE, vE, mE101⟩
    · exact ⟨gE103, hE103, sE103, dE103, cE103, nE, vE, mE103⟩, by
    intro c hc
    simp only [List.mem_cons, List.not_mem_nil, or_false] at hc
    rcases hc with rfl | rfl
    · exact fun k hk => by
        simp only [List.mem_cons, List.not_mem_nil, or_false] at hk
        rcases hk with rfl | rfl | rfl | rfl | rfl
        · exact iE101_101
        · exact iE101_102
        · exact iE101_103
        · exact iE101_104
        · exact iE101_105
    · exact fun k hk => by
        simp only [List.mem_cons, List.not_mem_nil, or_false] at hk
        rcases hk with rfl | rfl | rfl | rfl | rfl
        · exact iE103_101
        · exact iE103_102
        · exact iE103_103
        · exact iE103_104
        · exact iE103_105⟩
  have h_check_count := fnc_of (p := p) (x := "check_count") (o_check_count (p := p) T F0 ) (PySem.W.mg_of X G a0) k0 (F0.binds (ps := ["count"]) fun _ _ _ _ _ _ us hl => match us, hl with | [_], _ => rfl)
  have h_check_sets := fnc_of (p := p) (x := "check_sets") (o_check_sets (p := p) T F1 h_check_count) (PySem.W.mg_of X G a1) k1 (F1.binds (ps := ["count", "sets"]) fun _ _ _ _ _ _ us hl => match us, hl with | [_, _], _ => rfl)
  have h_things_in := fnc_of (p := p) (x := "things_in") (o_things_in (p := p) T F2 ) (PySem.W.mg_of X G a2) k2 (F2.binds (ps := ["one"]) fun _ _ _ _ _ _ us hl => match us, hl with | [_], _ => rfl)
  have h_least_of := fnc_of (p := p) (x := "least_of") (o_least_of (p := p) T F3 ) (PySem.W.mg_of X G a3) k3 (F3.binds (ps := ["sets"]) fun _ _ _ _ _ _ us hl => match us, hl with | [_], _ => rfl)
  have h_check_border := fnc_of (p := p) (x := "check_border") (o_check_border (p := p) T F4 h_check_sets h_least_of) (PySem.W.mg_of X G a4) k4 (F4.binds (ps := ["count", "sets"]) fun _ _ _ _ _ _ us hl => match us, hl with | [_, _], _ => rfl)
  have h_first_open := fnc_of (p := p) (x := "first_open") (o_first_open (p := p) T F5 ) (PySem.W.mg_of X G a5) k5 (F5.binds (ps := ["count", "trues", "falses"]) fun _ _ _ _ _ _ us hl => match us, hl with | [_, _, _], _ => rfl)
  have h_BorderAsker___init__ := mkr_of (p := p) (c := 0) (x := "BorderAsker") (o_BorderAsker___init__ (p := p) T F6 h_check_count) ⟨mk0, a6, i6, kc0⟩ (F6.binds (ps := ["self", "count"]) fun _ _ _ _ _ _ us hl => match us, hl with | [_, _], _ => rfl) (PySem.W.mg_of X G aC0)
  have h_BorderAsker_answer_of := mtd_of (p := p) (c := 0) (m := "answer_of") (o_BorderAsker_answer_of (p := p) T F7 ) ⟨a7, i7, k7⟩ (F7.binds (ps := ["self", "one"]) fun _ _ _ _ _ _ us hl => match us, hl with | [_, _], _ => rfl)
  have h_BorderAsker_tried := mtd_of (p := p) (c := 0) (m := "tried") (o_BorderAsker_tried (p := p) T F8 ) ⟨a8, i8, k8⟩ (F8.binds (ps := ["self"]) fun _ _ _ _ _ _ us hl => match us, hl with | [_], _ => rfl)
  have h_BorderAsker_go_on := mtd_of (p := p) (c := 0) (m := "go_on") (o_BorderAsker_go_on (p := p) T F9 h_BorderAsker_answer_of h_BorderAsker_tried) ⟨a9, i9, k9⟩ (F9.binds (ps := ["self"]) fun _ _ _ _ _ _ us hl => match us, hl with | [_], _ => rfl)
  have h_BorderAsker_step := mtd_of (p := p) (c := 0) (m := "step") (o_BorderAsker_step (p := p) T F10 h_BorderAsker_tried h_first_open) ⟨a10, i10, k10⟩ (F10.binds (ps := ["self"]) fun _ _ _ _ _ _ us hl => match us, hl with | [_], _ => rfl)
  have h_BorderAsker_tell := mtd_of (p := p) (c := 0) (m := "tell") (o_BorderAsker_tell (p := p) T F11 h_BorderAsker_step h_things_in h_BorderAsker_go_on) ⟨a11, i11, k11⟩ (F11.binds (ps := ["self", "bit"]) fun _ _ _ _ _ _ us hl => match us, hl with | [_, _], _ => rfl)
  have h_BorderAsker_asked := mtd_of (p := p) (c := 0) (m := "asked") (o_BorderAsker_asked (p := p) T F12 ) ⟨a12, i12, k12⟩ (F12.binds (ps := ["self"]) fun _ _ _ _ _ _ us hl => match us, hl with | [_], _ => rfl)
  have h_asks_for := fnc_of (p := p) (x := "asks_for") (o_asks_for (p := p) T F13 h_check_border h_BorderAsker___init__ h_BorderAsker_step h_BorderAsker_tell h_BorderAsker_asked) (PySem.W.mg_of X G a13) k13 (F13.binds (ps := ["count", "trues"]) fun _ _ _ _ _ _ us hl => match us, hl with | [_, _], _ => rfl)
  have h__law_same := fncG_of (p := p) (x := "_law_same") (o__law_same (p := p) T F14 ) (PySem.W.mg_of X G a14) k14 (F14.binds (ps := ["told", "due"]) fun _ _ _ _ _ _ us hl => match us, hl with | [_, _], _ => rfl)
  have h__law_stream := fnc_of (p := p) (x := "_law_stream") (o__law_stream (p := p) T F15 ) (PySem.W.mg_of X G a15) k15 (F15.binds (ps := ["script"]) fun _ _ _ _ _ _ us hl => match us, hl with | [_], _ => rfl)
  have h__law_next := fnc_of (p := p) (x := "_law_next") (o__law_next (p := p) T F16 ) (PySem.W.mg_of X G a16) k16 (F16.binds (ps := ["state", "many"]) fun _ _ _ _ _ _ us hl => match us, hl with | [_, _], _ => rfl)
  have h__law_error := o__law_error (p := p) F17 (PySem.W.mg_of X G a17) (F17.binds (ps := ["e"]) fun _ _ _ _ _ _ us hl => match us, hl with | [_], _ => rfl) hE
  have h__law_least := fnc_of (p := p) (x := "_law_least") (o__law_least (p := p) T F18 ) (PySem.W.mg_of X G a18) k18 (F18.binds (ps := ["sets"]) fun _ _ _ _ _ _ us hl => match us, hl with | [_], _ => rfl)
  have h__law_greatest := fnc_of (p := p) (x := "_law_greatest") (o__law_greatest (p := p) T F19 ) (PySem.W.mg_of X G a19) k19 (F19.binds (ps := ["sets"]) fun _ _ _ _ _ _ us hl => match us, hl with | [_], _ => rfl)
  have h__law_true := fnc_of (p := p) (x := "_law_true") (o__law_true (p := p) T F20 ) (PySem.W.mg_of X G a20) k20 (F20.binds (ps := ["trues", "one"]) fun _ _ _ _ _ _ us hl => match us, hl with | [_, _], _ => rfl)
  have h__law_border := fnc_of (p := p) (x := "_law_border") (o__law_border (p := p) T F21 h__law_next h__law_least) (PySem.W.mg_of X G a21) k21 (F21.binds (ps := ["state", "count"]) fun _ _ _ _ _ _ us hl => match us, hl with | [_, _], _ => rfl)
  have h__law_falses := fnc_of (p := p) (x := "_law_falses") (o__law_falses (p := p) T F22 h__law_greatest h__law_true) (PySem.W.mg_of X G a22) k22 (F22.binds (ps := ["count", "trues"]) fun _ _ _ _ _ _ us hl => match us, hl with | [_, _], _ => rfl)
  have h__law_tell := fnc_of (p := p) (x := "_law_tell") (o__law_tell (p := p) T F23 h__law_error h_BorderAsker_tell) (PySem.W.mg_of X G a23) k23 (F23.binds (ps := ["asker", "bit"]) fun _ _ _ _ _ _ us hl => match us, hl with | [_, _], _ => rfl)
  have h__law_fits := fncG_of (p := p) (x := "_law_fits") (o__law_fits (p := p) T F24 h__law_next h__law_border h__law_falses h_BorderAsker___init__ h_BorderAsker_step h_BorderAsker_asked h__law_true h__law_tell h__law_same h_asks_for) (PySem.W.mg_of X G a24) k24 (F24.binds (ps := ["state"]) fun _ _ _ _ _ _ us hl => match us, hl with | [_], _ => rfl)
  have h__law_made := fnc_of (p := p) (x := "_law_made") (o__law_made (p := p) T F25 h__law_error h_BorderAsker_asked h_BorderAsker___init__ h_asks_for) (PySem.W.mg_of X G a25) k25 (F25.binds (ps := ["count", "trues"]) fun _ _ _ _ _ _ us hl => match us, hl with | [_, _], _ => rfl)
  exact (o_law (p := p) T F26 h__law_stream h__law_fits h__law_made).imp (law_sp (p := p) ok)
end K09
namespace K09
open DL Bd
/-! ### the drawn numbers of this law -/
theorem next_wp {n : Nat} {rest s : Store} {many : Int} {Q : D → Store → Prop} (d : Drw (n + 1) rest s) (hm : 0 < many) (q : ∀ (r : Int) s', 0 ≤ r → r < many → Drw n rest s' → Q (.int r) s') : Wp (m__law_next [.ref 0, .int many]) s Q := by
  obtain ⟨ns, t, rfl, h0, h1, h2⟩ := d
  have e0 : ∀ u : D, ixD (.ref 0) (.int 0) (.lst [.lst (ns.map .int), u] :: rest) = .ok (.lst (ns.map .int)) (.lst [.lst (ns.map .int), u] :: rest) := fun u => rfl
  have e1 : ∀ u : D, ixD (.ref 0) (.int 1) (.lst [.lst (ns.map .int), u] :: rest) = .ok u (.lst [.lst (ns.map .int), u] :: rest) := fun u => rfl
  have es : ∀ u v : D, cellSet (.ref 0) (.int 1) v (.lst [.lst (ns.map .int), u] :: rest) = .ok () (.lst [.lst (ns.map .int), v] :: rest) := fun u v => rfl
  have hl : (ns.map D.int).length = ns.length := List.length_map _
  have hlp : (0 : Int) < (ns.length : Nat) := by omega
  have hlq : ((ns.length : Nat) : Int) < 1073741824 := by omega
  -- the place
  have hix : ∃ v : Int, ∀ s : Store, ixD (.lst (ns.map .int)) (.int (((t : Nat) + 1 : Int) % (ns.length : Nat))) s = .ok (.int v) s := by
    have a1 : 0 ≤ ((t : Nat) + 1 : Int) % (ns.length : Nat) := Int.emod_nonneg _ (by omega)
    have a2 : ((t : Nat) + 1 : Int) % (ns.length : Nat) < (ns.length : Nat) := Int.emod_lt_of_pos _ hlp
    obtain ⟨k, ek⟩ : ∃ k : Nat, ((t : Nat) + 1 : Int) % (ns.length : Nat) = (k : Int) := ⟨(((t : Nat) + 1 : Int) % (ns.length : Nat)).toNat, by omega⟩
    rw [ek] at a2 ⊢
    have hk : k < ns.length := by omega
    refine ⟨ns[k], fun s => ?_⟩
    show ixL (ns.map .int) (k : Int) s = _
    unfold ixL
    have hg : (ns.map D.int)[k]? = some (.int ns[k]) := by
      rw [List.getElem?_map, List.getElem?_eq_getElem hk]
      rfl
    have : L2.atI (ns.map D.int) (k : Int) = some (.int ns[k]) := L2.atI_nat hg
    rw [this]
    rfl
  obtain ⟨v, hv⟩ := hix
  have hdiv : divD (.int ((t : Nat) + 1)) (.int (ns.length : Nat)) = pure (.int (((t : Nat) + 1 : Int) / (ns.length : Nat))) := div_ii _ _ hlp hlq
  have hmod : modD (.int ((t : Nat) + 1)) (.int (ns.length : Nat)) = pure (.int (((t : Nat) + 1 : Int) % (ns.length : Nat))) := mod_ii _ _ hlp
  have hm1 : ∀ i : Int, mulD (.int i) (.int 389) = pure (.int (i * 389)) := fun i => mul_ii _ _ (.inr ⟨by omega, by omega⟩)
  have hm2 : ∀ i : Int, mulD (.int i) (.int 17) = pure (.int (i * 17)) := fun i => mul_ii _ _ (.inr ⟨by omega, by omega⟩)
  have hm3 : ∀ i : Int, mulD (.int ((t : Nat) + 1)) (.int i) = pure (.int (((t : Nat) + 1 : Int) * i)) := fun i => mul_ii _ _ (.inl ⟨by omega, by omega⟩)
  have hm4 : ∀ i : Int, modD (.int i) (.int many) = pure (.int (i % many)) := fun i => mod_ii _ _ hm
  unfold m__law_next b__law_next
  simp only [p2_ap, pure_bind', bind_assoc', runF_bind, runF_rt]
  refine wp_go (e1 _) ?_
  rw [add_ii, pure_bind']
  refine wp_go (es _ _) (wp_go (e1 _) (wp_go (e0 _) ?_))
  simp only [len_l, pure_bind', hl, hdiv]
  refine wp_go (e0 _) (wp_go (e1 _) (wp_go (e0 _) ?_))
  simp only [len_l, pure_bind', hl, hmod]
  refine wp_go (hv _) ?_
  simp only [hm1, add_ii, pure_bind']
  refine wp_go (e1 _) ?_
  simp only [hm3, hm2, add_ii, int_i, hm4, pure_bind']
  exact wp_pure (q _ _ (Int.emod_nonneg _ (by omega)) (Int.emod_lt_of_pos _ hm) ⟨ns, t + 1, by simp, h0, h1, by omega⟩)
theorem stream_ok (ms : List Int) (hm : ms.length ≤ 63) (s : Store) : ∃ ns : List Int, m__law_stream [.rls (ms.map .int)] s = .ok (.lst (ns.map .int)) s ∧ 0 < ns.length ∧ ns.length ≤ 5000 := by
  have key : Wp (m__law_stream [.rls (ms.map .int)]) s fun d s' => ∃ ns : List Int, d = .lst (ns.map .int) ∧ s' = s ∧ 0 < ns.length ∧ ns.length ≤ 5000 := by
    have hcut : slL none (some 63) (.rls (ms.map .int)) = pure (.lst (ms.map .int)) := by
      show (pure (.lst (cut (ms.map .int) none (some 63))) : M D) = _
      unfold cut
      rw [HT.sIx_none, show HT.sIx (ms.map D.int).length (ms.map D.int).length (some 63) = min 63 (ms.map D.int).length from HT.sIx_nat _ _ 63]
      rw [List.drop_zero, List.length_map, Nat.sub_zero, List.take_of_length_le (by rw [List.length_map]; omega)]
    have hpow : powD (.int 10) (.int 18) = pure (.int (10 ^ 18)) := pow_ii _ _ (by omega) (by omega) (by decide)
    have hmd : ∀ i : Int, modD (.int i) (.int 1009) = pure (.int (i % 1009)) := fun i => mod_ii _ _ (by omega)
    have hdv : ∀ i : Int, divD (.int i) (.int 1009) = pure (.int (i / 1009)) := fun i => div_ii _ _ (by omega) (by omega)
    have hmd2 : ∀ i : Int, modD (.int i) (.int 2147483647) = pure (.int (i % 2147483647)) := fun i => mod_ii _ _ (by omega)
    have hmd3 : ∀ i : Int, modD (.int i) (.int 2147483629) = pure (.int (i % 2147483629)) := fun i => mod_ii _ _ (by omega)
    have hmu : ∀ i : Int, mulD (.int i) (.int 48271) = pure (.int (i * 48271)) := fun i => mul_ii _ _ (.inr ⟨by omega, by omega⟩)
    have hmu2 : ∀ i : Int, mulD (.int 7) (.int i) = pure (.int (7 * i)) := fun i => mul_ii _ _ (.inl ⟨by omega, by omega⟩)
    have hmu3 : ∀ i : Int, mulD (.int i) (.int 69621) = pure (.int (i * 69621)) := fun i => mul_ii _ _ (.inr ⟨by omega, by omega⟩)
    unfold m__law_stream b__law_stream
    simp only [p1_ap, pure_bind', bind_assoc', runF_bind, mkL0, intM_i, hcut, items_l, nm_ap]
    refine wp_bind (wp_for (fun xs z s' => s' = s ∧ ∃ (r ns : List Int), xs = r.map .int ∧ z = .lst (ns.map .int) ∧ ns.length + 60 * r.length ≤ 3780) _ _ _ ⟨rfl, ms, [], rfl, rfl, by simpa using by omega⟩ ?_ ?_)
    · rintro x xs z s' ⟨rfl, r, ns, e, rfl, hl⟩
      cases r with
      | nil => cases e
      | cons i r =>
        rw [List.map_cons] at e
        injection e with e1 e2
        subst e1 e2
        rw [List.length_cons] at hl
        simp only [int_i, abs_i, pure_bind', hpow, ge_ii]
        generalize (if i < 0 then -i else i) = a
        split
        · rw [show range1 (.int 60) = pure (rangeL 0 60) from range1_i 60 (by decide)]
          simp only [pure_bind', bind_assoc']
          refine wp_bind (wp_for (fun xs z s'' => s'' = s' ∧ ∃ (ks : List D) (ns' : List Int) (j : Int), xs = ks ∧ z = (.lst (ns'.map .int), .int j) ∧ ns'.length + ks.length ≤ ns.length + 60) _ _ _ ⟨rfl, _, ns, _, rfl, rfl, by rw [rangeL_len]; exact Nat.le_refl _⟩ ?_ ?_)
          · rintro x xs z s'' ⟨rfl, ks, ns', j, rfl, rfl, hl2⟩
            rw [List.length_cons] at hl2
            have ha : appL (ns'.map .int) (.int (j % 1009)) = pure (.lst ((ns' ++ [j % 1009]).map .int)) := by
              rw [app_ok _ _ (by rw [List.length_map]; omega), List.map_append]
              rfl
            simp only [lst_l, pure_bind', int_i, hmd, ha, hdv, eq_ii]
            split
            · exact ⟨rfl, _, _, rfl, rfl, by rw [List.length_append, List.length_singleton]; omega⟩
            · exact ⟨rfl, _, _, _, rfl, rfl, by rw [List.length_append, List.length_singleton]; omega⟩
          · rintro z s'' ⟨rfl, ks, ns', j, e, rfl, hl2⟩
            exact ⟨rfl, _, _, rfl, rfl, by omega⟩
        · rw [show range1 (.int 10) = pure (rangeL 0 10) from range1_i 10 (by decide)]
          simp only [pure_bind', bind_assoc', int_i, hmd2]
          refine wp_bind (wp_for (fun xs z s'' => s'' = s' ∧ ∃ (ks : List Int) (ns' : List Int) (j : Int), xs = ks.map .int ∧ z = (.lst (ns'.map .int), .int j) ∧ ns'.length + ks.length ≤ ns.length + 10) _ _ _ ⟨rfl, (List.range 10).map fun (i : Nat) => (i : Int), ns, _, by rw [rangeL_eq, List.map_map]; rfl, rfl, by simp⟩ ?_ ?_)
          · rintro x xs z s'' ⟨rfl, ks, ns', j, e, rfl, hl2⟩
            cases ks with
            | nil => cases e
            | cons k ks =>
              rw [List.map_cons] at e
              injection e with e1 e2
              subst e1 e2
              rw [List.length_cons] at hl2
              have ha : ∀ v : Int, appL (ns'.map .int) (.int v) = pure (.lst ((ns' ++ [v]).map .int)) := fun v => by
                rw [app_ok _ _ (by rw [List.length_map]; omega), List.map_append]
                rfl
              simp only [lst_l, pure_bind', int_i, hmd, hmd2, hmd3, hmu, hmu2, hmu3, ha, add_ii]
              exact ⟨rfl, _, _, _, rfl, rfl, by rw [List.length_append, List.length_singleton]; omega⟩
          · rintro z s'' ⟨rfl, ks, ns', j, e, rfl, hl2⟩
            exact ⟨rfl, _, _, rfl, rfl, by omega⟩
    · rintro z s' ⟨rfl, r, ns, e, rfl, hl⟩
      simp only [seqO_nx, len_l, pure_bind', eq_ii, runF_bind, List.length_map]
      split
      · rename_i h
        have : ns = [] := List.length_eq_zero_iff.mp (by simpa using h)
        subst this
        exact ⟨[0], rfl, rfl, by decide, by decide⟩
      · rename_i h
        have : ns.length ≠ 0 := by simpa using h
        exact ⟨ns, rfl, rfl, by omega, by omega⟩
  obtain ⟨_, _, e, ns, rfl, rfl, a, b⟩ := wp_get key
  exact ⟨ns, e, a, b⟩
/-! ### what the defs of borders compute -/
theorem ccM {c : Nat} (h1 : 1 ≤ c) (h8 : c ≤ 8) : m_check_count [ni c] = pure .non := by
  unfold m_check_count b_check_count
  simp only [p1_ap, pure_bind', bind_assoc', runF_bind, chainM]
  simp only [c1, c8, le_nn, pure_bind', decide_eq_true h1, decide_eq_true h8, if_true, Bool.not_true]
  rfl
theorem csM {c : Nat} {l : List Nat} (h1 : 1 ≤ c) (h8 : c ≤ 8) (ha : Asc l) (hl : ∀ x ∈ l, x < 2 ^ c) : m_check_sets [ni c, .tup (en l)] = pure .non := by
  have len := brd_len ha hl h8
  unfold m_check_sets b_check_sets
  simp only [p2_ap, pure_bind', bind_assoc', runF_bind, ccM h1 h8, list_t, ssort_ten (by omega : l.length ≤ 4000), usort_id ha, ne_len, decide_eq_true, Bool.not_true, items_t]
  rw [if_neg (by decide), lcM_bool (xs := l) (fun _ => true) rfl (by omega) fun x hx => ?_]
  · simp only [pure_bind', all_b, truth_b, bind_assoc']
    rw [show (l.all fun _ => true) = true from List.all_eq_true.mpr fun _ _ => rfl]
    rfl
  · simp only [nm_ap, p1_ap, pure_bind', if_true, chainM, bind_assoc']
    simp only [c0, c1, le_nn, pure_bind', decide_eq_true (Nat.zero_le x), if_true, shl_nn 1 c (by decide) (by omega), lt_nn, Nat.one_mul, decide_eq_true (hl x hx)]
theorem things_eq {x t : Nat} (h : x < 2 ^ t) : (List.range t).filter x.testBit = things x := by
  refine asc_eq (List.Pairwise.filter _ List.pairwise_lt_range) (List.Pairwise.filter _ List.pairwise_lt_range) fun i => ?_
  rw [things_mem, List.mem_filter, List.mem_range]
  exact ⟨fun q => q.2, fun q => ⟨bit_lt h q, q⟩⟩
theorem tw {x : Nat} (hx : x < 2 ^ 20) : ∀ (fuel t : Nat), t ≤ 20 → 21 ≤ t + fuel →
    ∃ T : D, (whileL (fun (s25 : D × D) => (shrD (ni x) s25.2 >>= fun x28 => gtB x28 (ni 0))) (fun s25 => (shrD (ni x) s25.2 >>= fun x32 => andD x32 (ni 1) >>= fun a => truth a >>= fun b40 => (if b40 = true then (lstD s25.1 >>= fun ds37 => appL ds37 s25.2 >>= fun z35 => (pure (.nx z35)) : M (Out D (D × D))) else pure (.nx s25.1)) >>= seqO fun s34 => (addI s25.2 (ni 1) >>= fun z39 => (pure (.nx (s34, z39)) : M (Out (D × D) (D × D)))))) fuel (.lst (en ((List.range t).filter x.testBit)), ni t) : M (Out (D × D) Unit)) = pure (.nx (.lst (en (things x)), T))
  | 0, t, h, k => by omega
  | fuel + 1, t, h, k => by
    unfold whileL
    simp only [shr_nn, pure_bind', gt_nn]
    by_cases z : 0 < x / 2 ^ t
    · have ht : t < 20 := by
        refine Classical.byContradiction fun q => ?_
        have : 2 ^ 20 ≤ 2 ^ t := Nat.pow_le_pow_right (by omega) (by omega)
        rw [Nat.div_eq_of_lt (by omega)] at z
        omega
      have len : ((List.range t).filter x.testBit).length < 2 ^ 24 := by
        have := List.length_filter_le x.testBit (List.range t)
        rw [List.length_range] at this
        omega
      obtain ⟨T, ih⟩ := tw hx fuel (t + 1) (by omega) (by omega)
      refine ⟨T, ?_⟩
      rw [List.range_succ, List.filter_append, List.filter_cons, List.filter_nil] at ih
      rw [decide_eq_true z, if_pos rfl]
      simp only [and_nn, pure_bind', truth_n', bit_truth]
      by_cases y : x.testBit t = true
      · rw [if_pos y] at ih
        rw [if_pos y, lst_l, pure_bind', app_en len, pure_bind', pure_bind', seqO_nx, addI_nn, pure_bind', pure_bind']
        exact ih
      · rw [if_neg y, List.append_nil] at ih
        rw [if_neg y, pure_bind', seqO_nx, addI_nn, pure_bind', pure_bind']
        exact ih
    · rw [decide_eq_false z, if_neg Bool.false_ne_true, things_eq]
      · exact ⟨_, rfl⟩
      · have p := Nat.two_pow_pos t
        refine Classical.byContradiction fun q => z (Nat.div_pos (by omega) p)
theorem thM {x : Nat} (hx : x < 2 ^ 20) : m_things_in [ni x] = pure (.lst (en (things x))) := by
  obtain ⟨T, h⟩ := tw hx 1000 0 (by omega) (by omega)
  unfold m_things_in b_things_in
  simp only [p1_ap, pure_bind', bind_assoc', runF_bind, mkL0]
  simp only [c0, c1]
  rw [show (D.lst [] : D) = .lst (en ((List.range 0).filter x.testBit)) from rfl, h]
  rfl
theorem lpW {l : List Nat} {x : Nat} (hl : l.length ≤ 4000) : lcM (pure (en (usort l))) nm (p1 fun _ => (pure true : M Bool)) (p1 fun v45 => (neB v45 (ni x) >>= fun b48 => (if b48 = true then (invD (ni x) >>= fun x59 => andD v45 x59 >>= fun x56 => eqB x56 (D.int 0) >>= fun b55 => (pure (D.bl b55) : M D)) else (pure (D.bl b48) : M D)))) = pure (.lst (((usort l).map fun y => !(y == x) && sub y x).map .bl)) := by
  have := usort_len l
  refine lcM_bool (xs := usort l) _ rfl (by omega) fun y hy => ?_
  simp only [nm_ap, p1_ap, pure_bind', if_true, ne_nn, bind_assoc']
  by_cases z : y = x
  · subst z
    simp
  · rw [beq_eq_false_iff_ne.mpr z, Bool.not_false, if_pos rfl, inv_n, pure_bind', and_inv, pure_bind', c0, eq_nn, pure_bind', pure_bind']
    rfl
theorem leM {l : List Nat} {d : D} (hl : l.length ≤ 4000) (hd : ssortI d = pure (.lst (en (usort l)))) : m_least_of [d] = pure (.tup (en (least l))) := by
  have len := usort_len l
  unfold m_least_of b_least_of
  simp only [p1_ap, pure_bind', bind_assoc', runF_bind, hd, items_l]
  rw [lcM_en (xs := usort l) (fun x => !((usort l).any fun y => !(y == x) && sub y x)) id rfl (by omega) fun x hx => ?_]
  · rw [List.map_id]
    rfl
  · simp only [nm_ap, p1_ap, pure_bind', bind_assoc', truth_b]
    rw [lpW hl, pure_bind', any_b, pure_bind', truth_b, pure_bind']
    split <;> rfl
theorem cbM {c : Nat} {l : List Nat} (h1 : 1 ≤ c) (h8 : c ≤ 8) (hb : Brd l) (hl : ∀ x ∈ l, x < 2 ^ c) : m_check_border [ni c, .tup (en l)] = pure .non := by
  have len := brd_len hb.1 hl h8
  unfold m_check_border b_check_border
  simp only [p2_ap, pure_bind', bind_assoc', runF_bind, csM h1 h8 hb.1 hl, leM (by omega : l.length ≤ 4000) (ssort_ten (by omega)), tuple_t, least_id hb, ne_ten, decide_eq_true, Bool.not_true]
  rfl
def opD : Option Nat → D
  | some x => ni x
  | none => .non
theorem foM {c : Nat} {t f : List Nat} (h8 : c ≤ 8) (ht : t.length ≤ 2 ^ 24) (hf : f.length ≤ 2 ^ 24) : m_first_open [ni c, .tup (en t), .tup (en f)] = pure (opD (fo c t f)) := by
  have p8 := pow8 h8
  unfold m_first_open b_first_open
  simp only [p3_ap, pure_bind', bind_assoc', runF_bind, c1]
  rw [shl_nn 1 c (by decide) (by omega), pure_bind', Nat.one_mul, range1_n _ (by omega), pure_bind']
  rw [forL_find (p := fun x => !(up t x) && !(down f x)) (g := ni) _ fun x _ => ?_]
  · rw [pure_bind']
    show runF (seqO _ (match fo c t f with
      | some x => .rt (ni x)
      | none => .nx ())) = _
    cases fo c t f <;> rfl
  · simp only [nm_ap, pure_bind', p1_ap, bind_assoc', items_t]
    rw [upL ht, pure_bind', any_b, pure_bind', truth_b, pure_bind']
    show (if (!up t x) = true then _ else _) >>= _ = _
    cases e : up t x
    · simp only [Bool.not_false, if_true, bind_assoc']
      rw [downL hf, pure_bind', any_b, pure_bind', truth_b, pure_bind']
      show (pure (!down f x) : M Bool) >>= _ = _
      rw [pure_bind']
      cases e2 : down f x <;> rfl
    · rfl
/-! the cell of an object: count, trues, falses, asks, here, left, bit -/
def bac (v0 v1 v2 v3 v4 v5 v6 : D) : Cell := .ins 0 [("count", v0), ("trues", v1), ("falses", v2), ("asks", v3), ("here", v4), ("left", v5), ("bit", v6)]
section
variable {k : Nat} {s : Store} {v0 v1 v2 v3 v4 v5 v6 x : D} (hk : k < s.length)
include hk
theorem bac_g_count {β : Type} (g : D → M β) : (fldD 0 "count" (.ref k) >>= g) (s.set k (bac v0 v1 v2 v3 v4 v5 v6)) = g v0 (s.set k (bac v0 v1 v2 v3 v4 v5 v6)) := bind_ok (fld_at hk rfl)
theorem bac_s_count {β : Type} (g : Unit → M β) : (setF 0 "count" (.ref k) x >>= g) (s.set k (bac v0 v1 v2 v3 v4 v5 v6)) = g () (s.set k (bac x v1 v2 v3 v4 v5 v6)) := bind_ok (setF_at hk (show 7 < 1000 by decide))
theorem bac_g_trues {β : Type} (g : D → M β) : (fldD 0 "trues" (.ref k) >>= g) (s.set k (bac v0 v1 v2 v3 v4 v5 v6)) = g v1 (s.set k (bac v0 v1 v2 v3 v4 v5 v6)) := bind_ok (fld_at hk rfl)
theorem bac_s_trues {β : Type} (g : Unit → M β) : (setF 0 "trues" (.ref k) x >>= g) (s.set k (bac v0 v1 v2 v3 v4 v5 v6)) = g () (s.set k (bac v0 x v2 v3 v4 v5 v6)) := bind_ok (setF_at hk (show 7 < 1000 by decide))
theorem bac_g_falses {β : Type} (g : D → M β) : (fldD 0 "falses" (.ref k) >>= g) (s.set k (bac v0 v1 v2 v3 v4 v5 v6)) = g v2 (s.set k (bac v0 v1 v2 v3 v4 v5 v6)) := bind_ok (fld_at hk rfl)
theorem bac_s_falses {β : Type} (g : Unit → M β) : (setF 0 "falses" (.ref k) x >>= g) (s.set k (bac v0 v1 v2 v3 v4 v5 v6)) = g () (s.set k (bac v0 v1 x v3 v4 v5 v6)) := bind_ok (setF_at hk (show 7 < 1000 by decide))
theorem bac_g_asks {β : Type} (g : D → M β) : (fldD 0 "asks" (.ref k) >>= g) (s.set k (bac v0 v1 v2 v3 v4 v5 v6)) = g v3 (s.set k (bac v0 v1 v2 v3 v4 v5 v6)) := bind_ok (fld_at hk rfl)
theorem bac_s_asks {β : Type} (g : Unit → M β) : (setF 0 "asks" (.ref k) x >>= g) (s.set k (bac v0 v1 v2 v3 v4 v5 v6)) = g () (s.set k (bac v0 v1 v2 x v4 v5 v6)) := bind_ok (setF_at hk (show 7 < 1000 by decide))
theorem bac_g_here {β : Type} (g : D → M β) : (fldD 0 "here" (.ref k) >>= g) (s.set k (bac v0 v1 v2 v3 v4 v5 v6)) = g v4 (s.set k (bac v0 v1 v2 v3 v4 v5 v6)) := bind_ok (fld_at hk rfl)
theorem bac_s_here {β : Type} (g : Unit → M β) : (setF 0 "here" (.ref k) x >>= g) (s.set k (bac v0 v1 v2 v3 v4 v5 v6)) = g () (s.set k (bac v0 v1 v2 v3 x v5 v6)) := bind_ok (setF_at hk (show 7 < 1000 by decide))
theorem bac_g_left {β : Type} (g : D → M β) : (fldD 0 "left" (.ref k) >>= g) (s.set k (bac v0 v1 v2 v3 v4 v5 v6)) = g v5 (s.set k (bac v0 v1 v2 v3 v4 v5 v6)) := bind_ok (fld_at hk rfl)
theorem bac_s_left {β : Type} (g : Unit → M β) : (setF 0 "left" (.ref k) x >>= g) (s.set k (bac v0 v1 v2 v3 v4 v5 v6)) = g () (s.set k (bac v0 v1 v2 v3 v4 x v6)) := bind_ok (setF_at hk (show 7 < 1000 by decide))
theorem bac_g_bit {β : Type} (g : D → M β) : (fldD 0 "bit" (.ref k) >>= g) (s.set k (bac v0 v1 v2 v3 v4 v5 v6)) = g v6 (s.set k (bac v0 v1 v2 v3 v4 v5 v6)) := bind_ok (fld_at hk rfl)
theorem bac_s_bit {β : Type} (g : Unit → M β) : (setF 0 "bit" (.ref k) x >>= g) (s.set k (bac v0 v1 v2 v3 v4 v5 v6)) = g () (s.set k (bac v0 v1 v2 v3 v4 v5 x)) := bind_ok (setF_at hk (show 7 < 1000 by decide))
theorem bac_l_count {β : Type} {u : D → M (List D)} {mt : List D → M Bool} {me : List D → M D} (g : D → M β) : (lcM (fldD 0 "count" (.ref k) >>= items) u mt me >>= g) (s.set k (bac v0 v1 v2 v3 v4 v5 v6)) = (lcM (items v0) u mt me >>= g) (s.set k (bac v0 v1 v2 v3 v4 v5 v6)) := lcM_at (bac_g_count hk items) g
theorem bac_l_trues {β : Type} {u : D → M (List D)} {mt : List D → M Bool} {me : List D → M D} (g : D → M β) : (lcM (fldD 0 "trues" (.ref k) >>= items) u mt me >>= g) (s.set k (bac v0 v1 v2 v3 v4 v5 v6)) = (lcM (items v1) u mt me >>= g) (s.set k (bac v0 v1 v2 v3 v4 v5 v6)) := lcM_at (bac_g_trues hk items) g
theorem bac_l_falses {β : Type} {u : D → M (List D)} {mt : List D → M Bool} {me : List D → M D} (g : D → M β) : (lcM (fldD 0 "falses" (.ref k) >>= items) u mt me >>= g) (s.set k (bac v0 v1 v2 v3 v4 v5 v6)) = (lcM (items v2) u mt me >>= g) (s.set k (bac v0 v1 v2 v3 v4 v5 v6)) := lcM_at (bac_g_falses hk items) g
theorem bac_l_asks {β : Type} {u : D → M (List D)} {mt : List D → M Bool} {me : List D → M D} (g : D → M β) : (lcM (fldD 0 "asks" (.ref k) >>= items) u mt me >>= g) (s.set k (bac v0 v1 v2 v3 v4 v5 v6)) = (lcM (items v3) u mt me >>= g) (s.set k (bac v0 v1 v2 v3 v4 v5 v6)) := lcM_at (bac_g_asks hk items) g
theorem bac_l_here {β : Type} {u : D → M (List D)} {mt : List D → M Bool} {me : List D → M D} (g : D → M β) : (lcM (fldD 0 "here" (.ref k) >>= items) u mt me >>= g) (s.set k (bac v0 v1 v2 v3 v4 v5 v6)) = (lcM (items v4) u mt me >>= g) (s.set k (bac v0 v1 v2 v3 v4 v5 v6)) := lcM_at (bac_g_here hk items) g
theorem bac_l_left {β : Type} {u : D → M (List D)} {mt : List D → M Bool} {me : List D → M D} (g : D → M β) : (lcM (fldD 0 "left" (.ref k) >>= items) u mt me >>= g) (s.set k (bac v0 v1 v2 v3 v4 v5 v6)) = (lcM (items v5) u mt me >>= g) (s.set k (bac v0 v1 v2 v3 v4 v5 v6)) := lcM_at (bac_g_left hk items) g
theorem bac_l_bit {β : Type} {u : D → M (List D)} {mt : List D → M Bool} {me : List D → M D} (g : D → M β) : (lcM (fldD 0 "bit" (.ref k) >>= items) u mt me >>= g) (s.set k (bac v0 v1 v2 v3 v4 v5 v6)) = (lcM (items v6) u mt me >>= g) (s.set k (bac v0 v1 v2 v3 v4 v5 v6)) := lcM_at (bac_g_bit hk items) g
theorem bac_wg_count {β : Type} {Q : β → Store → Prop} (g : D → M β) : Wp (fldD 0 "count" (.ref k) >>= g) (s.set k (bac v0 v1 v2 v3 v4 v5 v6)) Q = Wp (g v0) (s.set k (bac v0 v1 v2 v3 v4 v5 v6)) Q := wp_at (bac_g_count hk g)
theorem bac_ws_count {β : Type} {Q : β → Store → Prop} (g : Unit → M β) : Wp (setF 0 "count" (.ref k) x >>= g) (s.set k (bac v0 v1 v2 v3 v4 v5 v6)) Q = Wp (g ()) (s.set k (bac x v1 v2 v3 v4 v5 v6)) Q := wp_at (bac_s_count hk g)
theorem bac_wg_trues {β : Type} {Q : β → Store → Prop} (g : D → M β) : Wp (fldD 0 "trues" (.ref k) >>= g) (s.set k (bac v0 v1 v2 v3 v4 v5 v6)) Q = Wp (g v1) (s.set k (bac v0 v1 v2 v3 v4 v5 v6)) Q := wp_at (bac_g_trues hk g)
theorem bac_ws_trues {β : Type} {Q : β → Store → Prop} (g : Unit → M β) : Wp (setF 0 "trues" (.ref k) x >>= g) (s.set k (bac v0 v1 v2 v3 v4 v5 v6)) Q = Wp (g ()) (s.set k (bac v0 x v2 v3 v4 v5 v6)) Q := wp_at (bac_s_trues hk g)
theorem bac_wg_falses {β : Type} {Q : β → Store → Prop} (g : D → M β) : Wp (fldD 0 "falses" (.ref k) >>= g) (s.set k (bac v0 v1 v2 v3 v4 v5 v6)) Q = Wp (g v2) (s.set k (bac v0 v1 v2 v3 v4 v5 v6)) Q := wp_at (bac_g_falses hk g)
theorem bac_ws_falses {β : Type} {Q : β → Store → Prop} (g : Unit → M β) : Wp (setF 0 "falses" (.ref k) x >>= g) (s.set k (bac v0 v1 v2 v3 v4 v5 v6)) Q = Wp (g ()) (s.set k (bac v0 v1 x v3 v4 v5 v6)) Q := wp_at (bac_s_falses hk g)
theorem bac_wg_asks {β : Type} {Q : β → Store → Prop} (g : D → M β) : Wp (fldD 0 "asks" (.ref k) >>= g) (s.set k (bac v0 v1 v2 v3 v4 v5 v6)) Q = Wp (g v3) (s.set k (bac v0 v1 v2 v3 v4 v5 v6)) Q := wp_at (bac_g_asks hk g)
theorem bac_ws_asks {β : Type} {Q : β → Store → Prop} (g : Unit → M β) : Wp (setF 0 "asks" (.ref k) x >>= g) (s.set k (bac v0 v1 v2 v3 v4 v5 v6)) Q = Wp (g ()) (s.set k (bac v0 v1 v2 x v4 v5 v6)) Q := wp_at (bac_s_asks hk g)
theorem bac_wg_here {β : Type} {Q : β → Store → Prop} (g : D → M β) : Wp (fldD 0 "here" (.ref k) >>= g) (s.set k (bac v0 v1 v2 v3 v4 v5 v6)) Q = Wp (g v4) (s.set k (bac v0 v1 v2 v3 v4 v5 v6)) Q := wp_at (bac_g_here hk g)
theorem bac_ws_here {β : Type} {Q : β → Store → Prop} (g : Unit → M β) : Wp (setF 0 "here" (.ref k) x >>= g) (s.set k (bac v0 v1 v2 v3 v4 v5 v6)) Q = Wp (g ()) (s.set k (bac v0 v1 v2 v3 x v5 v6)) Q := wp_at (bac_s_here hk g)
theorem bac_wg_left {β : Type} {Q : β → Store → Prop} (g : D → M β) : Wp (fldD 0 "left" (.ref k) >>= g) (s.set k (bac v0 v1 v2 v3 v4 v5 v6)) Q = Wp (g v5) (s.set k (bac v0 v1 v2 v3 v4 v5 v6)) Q := wp_at (bac_g_left hk g)
theorem bac_ws_left {β : Type} {Q : β → Store → Prop} (g : Unit → M β) : Wp (setF 0 "left" (.ref k) x >>= g) (s.set k (bac v0 v1 v2 v3 v4 v5 v6)) Q = Wp (g ()) (s.set k (bac v0 v1 v2 v3 v4 x v6)) Q := wp_at (bac_s_left hk g)
theorem bac_wg_bit {β : Type} {Q : β → Store → Prop} (g : D → M β) : Wp (fldD 0 "bit" (.ref k) >>= g) (s.set k (bac v0 v1 v2 v3 v4 v5 v6)) Q = Wp (g v6) (s.set k (bac v0 v1 v2 v3 v4 v5 v6)) Q := wp_at (bac_g_bit hk g)
theorem bac_ws_bit {β : Type} {Q : β → Store → Prop} (g : Unit → M β) : Wp (setF 0 "bit" (.ref k) x >>= g) (s.set k (bac v0 v1 v2 v3 v4 v5 v6)) Q = Wp (g ()) (s.set k (bac v0 v1 v2 v3 v4 v5 x)) Q := wp_at (bac_s_bit hk g)
theorem bac_m {β : Type} {fm : PySem.Str} {ms : M (List D)} {FM : List D → M D} (h : [(("count" : PySem.Str), v0), (("trues" : PySem.Str), v1), (("falses" : PySem.Str), v2), (("asks" : PySem.Str), v3), (("here" : PySem.Str), v4), (("left" : PySem.Str), v5), (("bit" : PySem.Str), v6)].lookup fm = none) (g : D → M β) : (mthM 0 fm (pure (.ref k)) ms FM >>= g) (s.set k (bac v0 v1 v2 v3 v4 v5 v6)) = ((ms >>= fun vs => FM (.ref k :: vs)) >>= g) (s.set k (bac v0 v1 v2 v3 v4 v5 v6)) := bind_at (mth_at hk h) g
theorem bac_wm {β : Type} {Q : β → Store → Prop} {fm : PySem.Str} {ms : M (List D)} {FM : List D → M D} (h : [(("count" : PySem.Str), v0), (("trues" : PySem.Str), v1), (("falses" : PySem.Str), v2), (("asks" : PySem.Str), v3), (("here" : PySem.Str), v4), (("left" : PySem.Str), v5), (("bit" : PySem.Str), v6)].lookup fm = none) (g : D → M β) : Wp (mthM 0 fm (pure (.ref k)) ms FM >>= g) (s.set k (bac v0 v1 v2 v3 v4 v5 v6)) Q = Wp ((ms >>= fun vs => FM (.ref k :: vs)) >>= g) (s.set k (bac v0 v1 v2 v3 v4 v5 v6)) Q := wp_at (bac_m hk h g)
end
/-! ### what the asker computes -/
def opB : Option Bool → D
  | some b => .bl b
  | none => .non
section
variable {k : Nat} {s : Store} (hk : k < s.length)
include hk
theorem aoM {C N H L B : D} {t f : List Nat} {x : Nat} (ht : t.length ≤ 2 ^ 24) (hf : f.length ≤ 2 ^ 24) : m_BorderAsker_answer_of [.ref k, ni x] (s.set k (bac C (.tup (en t)) (.tup (en f)) N H L B)) = .ok (opB (ans t f x)) (s.set k (bac C (.tup (en t)) (.tup (en f)) N H L B)) := by
  have e1 := upL (t := t) (x := x) ht
  have e2 := downL (t := f) (x := x) hf
  have e3 : (t.any fun y => sub y x) = up t x := rfl
  have e4 : (f.any fun y => sub x y) = down f x := rfl
  unfold m_BorderAsker_answer_of b_BorderAsker_answer_of ans
  simp only [p2_ap, pure_bind', bind_assoc', runF_bind]
  rw [bac_l_trues hk, items_t, e1, pure_bind', any_b, pure_bind', truth_b, pure_bind', e3]
  by_cases z : up t x = true
  · simp only [if_pos z]
    rfl
  · simp only [if_neg z, pure_bind', seqO_nx, runF_bind, bind_assoc']
    rw [bac_l_falses hk, items_t, e2, pure_bind', any_b, pure_bind', truth_b, pure_bind', e4]
    by_cases y : down f x = true
    · simp only [if_pos y]
      rfl
    · simp only [if_neg y]
      rfl
theorem trM {C T F N B : D} {h i : Nat} {r : List Nat} {b : Bool} (hi : i ≤ 1000000) (hb : truth B = pure b) : m_BorderAsker_tried [.ref k] (s.set k (bac C T F N (ni h) (.lst (en (i :: r))) B)) = .ok (ni (tried h i b)) (s.set k (bac C T F N (ni h) (.lst (en (i :: r))) B)) := by
  have e1 : ixD (.lst (en (i :: r))) (ni 0) = pure (ni i) := at_en (by rw [List.length_cons]; omega)
  unfold m_BorderAsker_tried b_BorderAsker_tried tried
  simp only [p1_ap, pure_bind', bind_assoc', runF_bind, c0, c1]
  rw [bac_g_left hk, e1, pure_bind', shl_nn 1 i (by decide) hi, pure_bind', Nat.one_mul, bac_g_bit hk, hb, pure_bind']
  cases b
  · rw [if_neg (by decide), if_neg (by decide), bind_assoc', bac_g_here hk, or_nn, pure_bind', runF_rt]
    rfl
  · rw [if_pos rfl, if_pos rfl, bind_assoc', bac_g_here hk, inv_n, pure_bind', and_inv, pure_bind', runF_rt]
    rfl
/-- what the cell holds -/
def acl (C : D) (a : Ask) (B : D) : Cell := bac C (.tup (en a.t)) (.tup (en a.f)) (ni a.asks) (opD a.here) (.lst (en a.left)) B
theorem goM {C : D} {t f : List Nat} {asks h : Nat} {b : Bool} {B : D} {left : List Nat} (ht : t.length ≤ 2 ^ 20) (hf : f.length ≤ 2 ^ 20) (hl : ∀ i ∈ left, i ≤ 1000000) (h5 : left.length ≤ 500) (hb : truth B = pure b) (he : ∀ x : Bool, eqB (.bl x) B = pure (x == b)) :
    Wp (m_BorderAsker_go_on [.ref k]) (s.set k (bac C (.tup (en t)) (.tup (en f)) (ni asks) (ni h) (.lst (en left)) B)) fun d s' => d = .non ∧ s' = s.set k (acl C (goA t f asks b h left) B) := by
  unfold m_BorderAsker_go_on b_BorderAsker_go_on
  simp only [p1_ap, pure_bind', bind_assoc', runF_bind]
  refine wp_bind (wp_while (fun n _ st => ∃ h' left', n = left'.length ∧ (∀ i ∈ left', i ≤ 1000000) ∧ st = s.set k (bac C (.tup (en t)) (.tup (en f)) (ni asks) (ni h') (.lst (en left')) B) ∧ goA t f asks b h' left' = goA t f asks b h left) ?_ 1000 left.length () _ ⟨h, left, rfl, hl, rfl, rfl⟩ (by omega))
  rintro n ⟨⟩ st ⟨h', left', rfl, hl', rfl, eg⟩
  rw [bac_wg_here hk]
  rw [show notNoneB (ni h') .non = pure true from rfl]
  refine wp_pure ?_
  rw [if_pos rfl, bac_wg_left hk, len_len, pure_bind', c0, eq_nn, pure_bind']
  cases left' with
  | nil =>
    have tail : ∀ y : Nat, en t ++ [ni y] = en (t ++ [y]) := fun y => (en_app t [y]).symm
    have tail2 : ∀ y : Nat, en f ++ [ni y] = en (f ++ [y]) := fun y => (en_app f [y]).symm
    have m1 : ∀ y : Nat, mkT (en (t ++ [y])) = pure (.tup (en (t ++ [y]))) := fun y => mkT_en (by rw [List.length_append, List.length_singleton]; omega)
    have m2 : ∀ y : Nat, mkT (en (f ++ [y])) = pure (.tup (en (f ++ [y]))) := fun y => mkT_en (by rw [List.length_append, List.length_singleton]; omega)
    rw [show (([] : List Nat).length == 0) = true from rfl, if_pos rfl, bind_assoc', bac_wg_bit hk, hb, pure_bind']
    rw [← eg]
    unfold goA
    cases b
    · rw [if_neg (by decide), if_neg (by decide)]
      simp only [bind_assoc', bac_wg_falses hk, bac_wg_here hk, items_t, pure_bind', tail2, m2, sorted_ten, tuple_l, bac_ws_falses hk, bac_ws_here hk, seqO_nx]
      exact wp_pure ⟨rfl, rfl⟩
    · rw [if_pos rfl, if_pos rfl]
      simp only [bind_assoc', bac_wg_trues hk, bac_wg_here hk, items_t, pure_bind', tail, m1, sorted_ten, tuple_l, bac_ws_trues hk, bac_ws_here hk, seqO_nx]
      exact wp_pure ⟨rfl, rfl⟩
  | cons i r =>
    have hi := hl' i List.mem_cons_self
    have tr := trM hk (C := C) (T := .tup (en t)) (F := .tup (en f)) (N := ni asks) (h := h') (r := r) hi hb
    have ao := aoM hk (C := C) (N := ni asks) (H := ni h') (L := .lst (en (i :: r))) (B := B) (t := t) (f := f) (x := tried h' i b) (by omega) (by omega)
    rw [show ((i :: r).length == 0) = false from rfl, if_neg (by decide), pure_bind', seqO_nx, bac_wm hk rfl]
    simp only [bind_assoc']
    rw [bac_wm hk rfl]
    simp only [pure_bind', bind_assoc']
    refine wp_go tr (wp_go ao ?_)
    rw [← eg]
    cases e : ans t f (tried h' i b) with
    | none =>
      rw [show isNoneB (opB none) .non = pure true from rfl, pure_bind', if_pos rfl, pure_bind', go_none e]
      exact wp_pure ⟨rfl, rfl⟩
    | some q =>
      have sl := sl1 (i := i) (r := r)
      rw [show isNoneB (opB (some q)) .non = pure false from rfl, pure_bind', if_neg (by decide), pure_bind', seqO_nx, bac_wg_bit hk, show opB (some q) = .bl q from rfl, he, pure_bind']
      by_cases z : q = b
      · rw [show (q == b) = true from beq_iff_eq.mpr z, if_pos rfl, bind_assoc', bac_wm hk rfl]
        simp only [pure_bind', bind_assoc']
        refine wp_go tr ?_
        rw [bac_ws_here hk]
        simp only [pure_bind', seqO_nx, bac_wg_left hk, intM_i, sl, bac_ws_left hk]
        refine wp_pure ⟨r.length, by rw [List.length_cons]; omega, tried h' i b, r, rfl, fun j hj => hl' j (List.mem_cons_of_mem _ hj), rfl, ?_⟩
        rw [go_some e, if_pos z]
      · rw [show (q == b) = false from beq_eq_false_iff_ne.mpr z, if_neg (by decide)]
        simp only [pure_bind', seqO_nx, bac_wg_left hk, intM_i, sl, bac_ws_left hk]
        refine wp_pure ⟨r.length, by rw [List.length_cons]; omega, h', r, rfl, fun j hj => hl' j (List.mem_cons_of_mem _ hj), rfl, ?_⟩
        rw [go_some e, if_neg z]
end
def stpD (c : Nat) (a : Ask) : D := match stepA c a with
  | some x => .tup [.str "ask", ni x]
  | none => .tup [.str "known", .tup (en a.t), .tup (en a.f)]
theorem go_bit {t f : List Nat} {asks : Nat} {b : Bool} : ∀ (left : List Nat) (h : Nat), (goA t f asks b h left).bit = b
  | [], h => by unfold goA; split <;> rfl
  | i :: r, h => by
    unfold goA
    cases ans t f (tried h i b) with
    | none => rfl
    | some k => exact go_bit r _
section
variable {k c : Nat} {s : Store} {T : List Nat} {a : Ask} {eb : Bool → D} (hk : k < s.length) (c8 : c ≤ 8) (kT : ∀ x ∈ T, x < 2 ^ c) (I : Inv c T a) (ht : ∀ b, truth (eb b) = pure b)
include hk c8 kT I ht
theorem stM {B : D} (hB : ∀ h, a.here = some h → B = eb a.bit) : m_BorderAsker_step [.ref k] (s.set k (acl (ni c) a B)) = .ok (stpD c a) (s.set k (acl (ni c) a B)) := by
  have p8 := pow8 c8
  have lt : a.t.length ≤ 256 := Nat.le_trans (asc_len I.kn.ta fun x hx => kT x (I.kn.ts x hx)) p8
  have lf : a.f.length ≤ 256 := Nat.le_trans (asc_len I.kn.fa fun x hx => falses_lt x (I.kn.fs x hx)) p8
  suffices q : Wp (m_BorderAsker_step [.ref k]) (s.set k (acl (ni c) a B)) fun d s' => d = stpD c a ∧ s' = s.set k (acl (ni c) a B) by
    obtain ⟨d, s', e, rfl, rfl⟩ := wp_get q
    exact e
  unfold m_BorderAsker_step b_BorderAsker_step acl stpD stepA
  simp only [p1_ap, pure_bind', bind_assoc', runF_bind]
  rw [bac_wg_here hk]
  cases e : a.here with
  | some h =>
    obtain ⟨H, i, r, e2, _⟩ := I.yes h e
    have hi : i < c := H.ll i (by rw [e2]; exact List.mem_cons_self)
    have tr := trM hk (C := ni c) (T := .tup (en a.t)) (F := .tup (en a.f)) (N := ni a.asks) (h := h) (i := i) (r := r) (B := B) (b := a.bit) (by omega) (by rw [hB h e]; exact ht a.bit)
    rw [e2, show notNoneB (opD (some h)) .non = pure true from rfl, pure_bind', if_pos rfl]
    rw [show opD (some h) = ni h from rfl, bind_assoc', bac_wm hk rfl]
    simp only [pure_bind', bind_assoc']
    refine wp_go tr ?_
    rw [mkT2, pure_bind']
    exact wp_pure (a := D.tup [.str "ask", ni (tried h i a.bit)]) ⟨rfl, rfl⟩
  | none =>
    rw [show notNoneB (opD none) .non = pure false from rfl, pure_bind', if_neg (by decide), pure_bind', seqO_nx]
    simp only [runF_bind, bind_assoc', bac_wg_count hk, bac_wg_trues hk, bac_wg_falses hk, pure_bind', foM c8 (by omega : a.t.length ≤ 2 ^ 24) (by omega : a.f.length ≤ 2 ^ 24)]
    cases e3 : fo c a.t a.f with
    | none =>
      rw [show isNoneB (opD none) .non = pure true from rfl, pure_bind', if_pos rfl]
      simp only [bind_assoc', bac_wg_trues hk, bac_wg_falses hk, pure_bind', mkT3]
      exact wp_pure ⟨rfl, rfl⟩
    | some x =>
      rw [show isNoneB (opD (some x)) .non = pure false from rfl, pure_bind', if_neg (by decide), pure_bind', seqO_nx]
      simp only [runF_bind, bind_assoc', pure_bind', mkT2]
      exact wp_pure ⟨rfl, rfl⟩
theorem teM (hq : ∀ x b : Bool, eqB (.bl x) (eb b) = pure (x == b)) (he : ∀ x b : Bool, eqB (eb x) (eb b) = pure (x == b)) {B : D} (hB : ∀ h, a.here = some h → B = eb a.bit) {x : Nat} (hs : stepA c a = some x) (hx : x < 2 ^ c) (b : Bool) :
    Wp (m_BorderAsker_tell [.ref k, eb b]) (s.set k (acl (ni c) a B)) fun d s' => d = .non ∧ s' = s.set k (acl (ni c) (tellA c a b x) (eb (tellA c a b x).bit)) := by
  have p8 := pow8 c8
  have lt : a.t.length ≤ 256 := Nat.le_trans (asc_len I.kn.ta fun x hx => kT x (I.kn.ts x hx)) p8
  have lf : a.f.length ≤ 256 := Nat.le_trans (asc_len I.kn.fa fun x hx => falses_lt x (I.kn.fs x hx)) p8
  have st := stM hk c8 kT I ht hB
  have es : stpD c a = .tup [.str "ask", ni x] := by unfold stpD; rw [hs]
  rw [es] at st
  have x1 : ixD (.tup [.str "ask", ni x]) (ni 1) = pure (ni x) := rfl
  have x0 : ixD (.tup [.str "ask", ni x]) (ni 0) = pure (.str "ask") := rfl
  have en1 : eqB (.str "ask") (.str "known") = pure false := by
    rw [eqB_ss (strOk_of (by decide +kernel)) (strOk_of (by decide +kernel))]
    rfl
  have fin : ∀ (h0 : Nat) (L : List Nat) (bb : Bool), L.length ≤ c → (∀ i ∈ L, i ≤ 1000000) → tellA c a b x = goA a.t a.f (a.asks + 1) bb h0 L →
      Wp (runF (seqO (fun _ => mthM 0 "go_on" (pure (.ref k)) (pure []) m_BorderAsker_go_on >>= fun _ => (pure (.nx ()) : M (Out Unit Unit))) (.nx () : Out Unit Unit)))
        (s.set k (bac (ni c) (.tup (en a.t)) (.tup (en a.f)) (ni (a.asks + 1)) (ni h0) (.lst (en L)) (eb bb))) fun d s' => d = .non ∧ s' = s.set k (acl (ni c) (tellA c a b x) (eb (tellA c a b x).bit)) := by
    intro h0 L bb hL hl e
    rw [e, go_bit, seqO_nx]
    simp only [runF_bind]
    rw [bac_wm hk rfl]
    simp only [pure_bind', bind_assoc']
    refine wp_bind (wp_imp (goM hk (by omega) (by omega) hl (by omega) (ht bb) fun y => hq y bb) ?_)
    rintro d s' ⟨rfl, rfl⟩
    exact wp_pure ⟨rfl, rfl⟩
  unfold m_BorderAsker_tell b_BorderAsker_tell
  simp only [p2_ap, pure_bind', bind_assoc', runF_bind]
  unfold acl at st fin ⊢
  rw [bac_wm hk rfl]
  simp only [pure_bind', bind_assoc']
  refine wp_go st ?_
  simp only [c0, c1, x0, pure_bind', en1]
  rw [if_neg (by decide), pure_bind', seqO_nx]
  simp only [runF_bind, bind_assoc', bac_wg_asks hk, pure_bind', addI_nn, bac_ws_asks hk, bac_wg_here hk]
  cases e : a.here with
  | none =>
    rw [show isNoneB (opD none) .non = pure true from rfl, pure_bind', if_pos rfl]
    simp only [bind_assoc', x1, pure_bind', bac_ws_here hk, bac_ws_bit hk, thM (by have := Nat.pow_le_pow_right (n := 2) (by omega) c8; omega : x < 2 ^ 20), ht]
    have tl := things_len hx
    have lc : (if b = true then things x else (List.range c).filter fun i => !(things x).contains i).length ≤ c := by
      by_cases z : b = true
      · rw [if_pos z]
        exact tl
      · rw [if_neg z]
        have := List.length_filter_le (fun i => !(things x).contains i) (List.range c)
        rwa [List.length_range] at this
    have ll : ∀ i ∈ (if b = true then things x else (List.range c).filter fun i => !(things x).contains i), i ≤ 1000000 := by
      intro i hi
      by_cases z : b = true
      · rw [if_pos z] at hi
        have := bit_lt hx (things_mem.mp hi)
        omega
      · rw [if_neg z] at hi
        have := List.mem_range.mp (List.mem_filter.mp hi).1
        omega
    have et : tellA c a b x = goA a.t a.f (a.asks + 1) b x (if b = true then things x else (List.range c).filter fun i => !(things x).contains i) := by
      unfold tellA
      rw [e]
    by_cases z : b = true
    · rw [if_pos z] at et lc ll
      rw [if_pos z, pure_bind', bac_ws_left hk]
      exact fin x _ b lc ll et
    · rw [if_neg z] at et lc ll
      rw [if_neg z, wp_at (lcM_at (bac_g_count hk range1) _), range1_n c (by omega), lcM_en (xs := List.range c) (fun i => !(things x).contains i) id rfl (by rw [List.length_range]; omega) fun i _ => ?_]
      · rw [List.map_id, pure_bind', bac_ws_left hk]
        exact fin x _ b lc ll et
      · simp only [nm_ap, p1_ap, pure_bind', nin_l]
        split <;> rfl
  | some h =>
    obtain ⟨H, i, r, e2, op⟩ := I.yes h e
    have hx2 : x = tried h i a.bit := by
      unfold stepA at hs
      rw [e, e2] at hs
      exact (Option.some.inj hs).symm
    have lc := H.lc
    have ll := H.ll
    rw [e2] at lc ll
    rw [List.length_cons] at lc
    have et : tellA c a b x = goA a.t a.f (a.asks + 1) a.bit (if b = a.bit then x else h) r := by
      unfold tellA
      rw [e, e2]
      rfl
    have ll2 : ∀ j ∈ r, j ≤ 1000000 := fun j hj => by
      have := ll j (List.mem_cons_of_mem _ hj)
      omega
    rw [show isNoneB (opD (some h)) .non = pure false from rfl, pure_bind', if_neg (by decide)]
    simp only [bind_assoc', x1, pure_bind', bac_wg_bit hk, hB h e, he]
    by_cases z : b = a.bit
    · rw [if_pos z] at et
      rw [show (b == a.bit) = true from beq_iff_eq.mpr z, if_pos rfl, bind_assoc', bac_ws_here hk]
      simp only [pure_bind', seqO_nx, bind_assoc', bac_wg_left hk, c1.symm ▸ intM_i 1, e2, sl1, bac_ws_left hk]
      exact fin x r a.bit (by omega) ll2 et
    · rw [if_neg z] at et
      rw [show (b == a.bit) = false from beq_eq_false_iff_ne.mpr z, if_neg (by decide), pure_bind']
      simp only [pure_bind', seqO_nx, bind_assoc', bac_wg_left hk, c1.symm ▸ intM_i 1, e2, sl1, bac_ws_left hk]
      exact fin h r a.bit (by omega) ll2 et
end
/-! ### what the asker's makers and loops compute -/
theorem inM {c : Nat} {s : Store} (h1 : 1 ≤ c) (h8 : c ≤ 8) : Wp (mkM 0 (pure [ni c]) m_BorderAsker___init__) s fun d s' => d = .ref s.length ∧ s' = (s ++ [Cell.ins 0 []]).set s.length (acl (ni c) startA .non) := by
  have hk := end_lt s (Cell.ins 0 [])
  refine mk_at ?_
  unfold m_BorderAsker___init__ b_BorderAsker___init__
  simp only [p2_ap, pure_bind', bind_assoc', runF_bind, ccM h1 h8, mkT0, mkL0]
  refine wp_go (setF_at hk (show 0 < 1000 by decide)) ?_
  refine wp_go (setF_at hk (show 1 < 1000 by decide)) ?_
  refine wp_go (setF_at hk (show 2 < 1000 by decide)) ?_
  refine wp_go (setF_at hk (show 3 < 1000 by decide)) ?_
  refine wp_go (setF_at hk (show 4 < 1000 by decide)) ?_
  refine wp_go (setF_at hk (show 5 < 1000 by decide)) ?_
  refine wp_go (setF_at hk (show 6 < 1000 by decide)) ?_
  exact wp_pure ⟨rfl, trivial, rfl⟩
theorem asM {k : Nat} {s : Store} (hk : k < s.length) {C B : D} {a : Ask} : m_BorderAsker_asked [.ref k] (s.set k (acl C a B)) = .ok (ni a.asks) (s.set k (acl C a B)) := by
  unfold m_BorderAsker_asked b_BorderAsker_asked acl
  simp only [p1_ap, pure_bind', bind_assoc', runF_bind]
  rw [bac_g_asks hk]
  rfl
theorem ltrM {T : List Nat} {x : Nat} (h : T.length ≤ 2 ^ 24) : m__law_true [.tup (en T), ni x] = pure (.bl (up T x)) := by
  unfold m__law_true b__law_true
  simp only [p2_ap, pure_bind', bind_assoc', runF_bind, items_t]
  rw [upL h, pure_bind', any_b]
  rfl
theorem kk : eqB (.str "known") (.str "known") = pure true := by
  rw [eqB_ss (strOk_of (by decide +kernel)) (strOk_of (by decide +kernel))]
  rfl
theorem ak : eqB (.str "ask") (.str "known") = pure false := by
  rw [eqB_ss (strOk_of (by decide +kernel)) (strOk_of (by decide +kernel))]
  rfl
theorem aa : eqB (.str "ask") (.str "ask") = pure true := by
  rw [eqB_ss (strOk_of (by decide +kernel)) (strOk_of (by decide +kernel))]
  rfl
theorem ka : eqB (.str "known") (.str "ask") = pure false := by
  rw [eqB_ss (strOk_of (by decide +kernel)) (strOk_of (by decide +kernel))]
  rfl
theorem exc_go {α β : Type} {m : M α} {f : α → M β} {s s' : Store} {c : Nat} (h : m s = .exc c s') : (m >>= f) s = .exc c s' := by rw [bind_run, h]
/-! telling, within a try -/
section
variable {k c : Nat} {s : Store} {T : List Nat} {a : Ask} (hk : k < s.length) (c8 : c ≤ 8) (kT : ∀ x ∈ T, x < 2 ^ c) (I : Inv c T a)
include hk c8 kT I
theorem teK {B : D} (hB : ∀ h, a.here = some h → B = D.bl a.bit) (hs : stepA c a = none) (b : Bool) : m_BorderAsker_tell [.ref k, .bl b] (s.set k (acl (ni c) a B)) = .exc 103 (s.set k (acl (ni c) a B)) := by
  have st := stM hk c8 kT I truth_b hB
  have es : stpD c a = .tup [.str "known", .tup (en a.t), .tup (en a.f)] := by unfold stpD; rw [hs]
  rw [es] at st
  unfold m_BorderAsker_tell b_BorderAsker_tell
  simp only [p2_ap, pure_bind', bind_assoc', runF_bind]
  unfold acl at st ⊢
  rw [bac_m hk rfl]
  simp only [pure_bind', bind_assoc']
  rw [bind_ok st, c0, show ixD (.tup [.str "known", .tup (en a.t), .tup (en a.f)]) (ni 0) = pure (.str "known") from rfl, pure_bind', kk, pure_bind', if_pos rfl]
  rfl
theorem ltK {B : D} (hB : ∀ h, a.here = some h → B = D.bl a.bit) (hs : stepA c a = none) (b : Bool) : m__law_tell [.ref k, .bl b] (s.set k (acl (ni c) a B)) = .ok (.str "wrong") (s.set k (acl (ni c) a B)) := by
  have te := teK hk c8 kT I hB hs b
  unfold m__law_tell b__law_tell
  simp only [p2_ap, pure_bind', bind_assoc', runF_bind]
  have h1 : (mthM 0 "tell" (pure (.ref k)) (pure [.bl b]) m_BorderAsker_tell >>= fun _ => (pure (.nx ()) : M (Out Unit Unit))) (s.set k (acl (ni c) a B)) = .exc 103 (s.set k (acl (ni c) a B)) := by
    unfold acl at te ⊢
    rw [bac_m hk rfl, pure_bind']
    exact exc_go te
  have h2 : tryE [101, 103] (mthM 0 "tell" (pure (.ref k)) (pure [.bl b]) m_BorderAsker_tell >>= fun _ => (pure (.nx ()) : M (Out Unit Unit))) (s.set k (acl (ni c) a B)) = .ok (.rt (.str "wrong")) (s.set k (acl (ni c) a B)) := by
    unfold tryE
    rw [h1]
    rfl
  rw [bind_ok h2]
  rfl
theorem ltA {B : D} (hB : ∀ h, a.here = some h → B = D.bl a.bit) {x : Nat} (hs : stepA c a = some x) (hx : x < 2 ^ c) (b : Bool) : m__law_tell [.ref k, .bl b] (s.set k (acl (ni c) a B)) = .ok .non (s.set k (acl (ni c) (tellA c a b x) (.bl (tellA c a b x).bit))) := by
  obtain ⟨d, s', te, rfl, rfl⟩ := wp_get (teM hk c8 kT I truth_b (fun x b => eq_bb x b) (fun x b => eq_bb x b) hB hs hx b)
  unfold m__law_tell b__law_tell
  simp only [p2_ap, pure_bind', bind_assoc', runF_bind]
  have h1 : (mthM 0 "tell" (pure (.ref k)) (pure [.bl b]) m_BorderAsker_tell >>= fun _ => (pure (.nx ()) : M (Out Unit Unit))) (s.set k (acl (ni c) a B)) = .ok (.nx ()) (s.set k (acl (ni c) (tellA c a b x) (.bl (tellA c a b x).bit))) := by
    unfold acl at te ⊢
    rw [bac_m hk rfl, pure_bind']
    rw [bind_ok te]
    rfl
  have h2 : tryE [101, 103] (mthM 0 "tell" (pure (.ref k)) (pure [.bl b]) m_BorderAsker_tell >>= fun _ => (pure (.nx ()) : M (Out Unit Unit))) (s.set k (acl (ni c) a B)) = .ok (.nx ()) (s.set k (acl (ni c) (tellA c a b x) (.bl (tellA c a b x).bit))) := by
    unfold tryE
    rw [h1]
  rw [bind_ok h2, seqO_nx]
  rfl
end
section
variable {c : Nat} {T : List Nat} {s : Store} (h1 : 1 ≤ c) (h8 : c ≤ 8) (hT : Brd T) (kT : ∀ x ∈ T, x < 2 ^ c)
include h1 h8 hT kT
theorem afM {n : Nat} {b : Ask} (R : Run c T n startA b) (hn : n < 3000) (Q : D → Store → Prop) (q : ∀ C, Q (ni b.asks) (s ++ [C])) : Wp (m_asks_for [ni c, .tup (en T)]) s Q := by
  have len := brd_len hT.1 kT h8
  unfold m_asks_for b_asks_for
  simp only [p2_ap, pure_bind', bind_assoc', runF_bind, cbM h1 h8 hT kT]
  refine wp_bind (wp_imp (inM h1 h8) ?_)
  rintro d s' ⟨rfl, rfl⟩
  have hk := end_lt s (Cell.ins 0 [])
  have st0 := stM hk h8 kT (start_inv (T := T)) (eb := D.bl) truth_b (B := .non) (fun h q => (by cases q))
  unfold acl at st0 ⊢
  rw [bac_wm hk rfl]
  simp only [pure_bind', bind_assoc']
  refine wp_go st0 ?_
  refine wp_bind (wp_while (fun m z st => ∃ a B, z = stpD c a ∧ Run c T m a b ∧ Inv c T a ∧ (∀ h, a.here = some h → B = D.bl a.bit) ∧ st = (s ++ [Cell.ins 0 []]).set s.length (acl (ni c) a B)) ?_ 3000 n _ _ ⟨startA, .non, rfl, R, start_inv, fun h q => (by cases q), rfl⟩ hn)
  rintro m z st ⟨a, B, rfl, R, I, hB, rfl⟩
  cases R with
  | done e =>
    rw [show stpD c b = .tup [.str "known", .tup (en b.t), .tup (en b.f)] by unfold stpD; rw [e]]
    rw [c0, show ixD (.tup [.str "known", .tup (en b.t), .tup (en b.f)]) (ni 0) = pure (.str "known") from rfl, pure_bind', ka]
    refine wp_pure ?_
    rw [if_neg (by decide), seqO_nx]
    unfold acl
    rw [runF_bind, bac_wm hk rfl]
    simp only [pure_bind', bind_assoc']
    have as := asM hk (C := ni c) (B := B) (a := b)
    unfold acl at as
    refine wp_go as ?_
    rw [set_end]
    exact wp_pure (q _)
  | @more m _ _ x e lx R =>
    have es : stpD c a = .tup [.str "ask", ni x] := by unfold stpD; rw [e]
    rw [es]
    rw [c0, show ixD (.tup [.str "ask", ni x]) (ni 0) = pure (.str "ask") from rfl, pure_bind', aa]
    refine wp_pure ?_
    rw [if_pos rfl]
    unfold acl
    have te := teM hk h8 kT I truth_b (fun x b => eq_bb x b) (fun x b => eq_bb x b) hB e lx (up T x)
    unfold acl at te
    have st := stM hk h8 kT (tell_inv kT I e).2 (eb := D.bl) truth_b (B := .bl (tellA c a (up T x) x).bit) (fun _ _ => rfl)
    unfold acl at st
    rw [bac_wm hk rfl]
    rw [c1, show ixD (.tup [.str "ask", ni x]) (ni 1) = pure (ni x) from rfl]
    simp only [pure_bind', bind_assoc', items_t]
    rw [← c0, upL (by omega), pure_bind', any_b, pure_bind']
    refine wp_bind (wp_imp te ?_)
    rintro d st' ⟨rfl, rfl⟩
    rw [bac_wm hk rfl]
    simp only [pure_bind', bind_assoc']
    refine wp_go st (wp_pure ⟨m, Nat.lt_succ_self m, tellA c a (up T x) x, _, rfl, R, (tell_inv kT I e).2, fun _ _ => rfl, rfl⟩)
end
/-! ### the law's own defs -/
theorem llM {l : List Nat} {d : D} (hl : l.length ≤ 4000) (hd : ssortI d = pure (.lst (en (usort l)))) : m__law_least [d] = pure (.tup (en (least l))) := by
  have len := usort_len l
  unfold m__law_least b__law_least
  simp only [p1_ap, pure_bind', bind_assoc', runF_bind, hd, items_l]
  rw [lcM_en (xs := usort l) (fun x => !((usort l).any fun y => !(y == x) && sub y x)) id rfl (by omega) fun x hx => ?_]
  · rw [List.map_id]
    rfl
  · simp only [nm_ap, p1_ap, pure_bind', bind_assoc', truth_b]
    rw [lpW hl, pure_bind', any_b, pure_bind', truth_b, pure_bind']
    split <;> rfl
def great (l : List Nat) : List Nat := (usort l).filter fun x => !((usort l).any fun y => !(y == x) && sub x y)
theorem gpW {l : List Nat} {x : Nat} (hl : l.length ≤ 4000) : lcM (pure (en (usort l))) nm (p1 fun _ => (pure true : M Bool)) (p1 fun v => (neB v (ni x) >>= fun b => (pure (D.bl b) : M D) >>= fun y => truth y >>= fun t => if t = true then (invD v >>= fun w => andD (ni x) w >>= fun z => eqB z (D.int 0) >>= fun e => (pure (D.bl e) : M D)) else (pure y : M D))) = pure (.lst (((usort l).map fun y => !(y == x) && sub x y).map .bl)) := by
  have := usort_len l
  refine lcM_bool (xs := usort l) _ rfl (by omega) fun y hy => ?_
  simp only [nm_ap, p1_ap, pure_bind', if_true, ne_nn, bind_assoc', truth_b]
  by_cases z : y = x
  · subst z
    simp
  · rw [beq_eq_false_iff_ne.mpr z, Bool.not_false, if_pos rfl, inv_n, pure_bind', and_inv, pure_bind', c0, eq_nn, pure_bind']
    rfl
theorem lgM {l : List Nat} {d : D} (hl : l.length ≤ 4000) (hd : ssortI d = pure (.lst (en (usort l)))) : m__law_greatest [d] = pure (.tup (en (great l))) := by
  have len := usort_len l
  unfold m__law_greatest b__law_greatest
  simp only [p1_ap, pure_bind', bind_assoc', runF_bind, hd, items_l]
  rw [lcM_en (xs := usort l) (fun x => !((usort l).any fun y => !(y == x) && sub x y)) id rfl (by omega) fun x hx => ?_]
  · rw [List.map_id]
    rfl
  · simp only [nm_ap, p1_ap, pure_bind', bind_assoc', truth_b]
    have g := gpW (l := l) (x := x) hl
    simp only [pure_bind', truth_b] at g
    rw [g, pure_bind', any_b, pure_bind', truth_b, pure_bind']
    split <;> rfl
theorem great_mem {l : List Nat} {x : Nat} : x ∈ great l ↔ x ∈ l ∧ ∀ y ∈ l, Sub x y → y = x := by
  unfold great
  rw [List.mem_filter, usort_mem, Bool.not_eq_true', Bool.eq_false_iff, Ne, List.any_eq_true]
  refine and_congr Iff.rfl ⟨fun h y hy k => ?_, fun h ⟨y, hy, k⟩ => ?_⟩
  · refine Classical.byContradiction fun z => h ⟨y, usort_mem.mpr hy, ?_⟩
    rw [beq_eq_false_iff_ne.mpr z, sub_iff.mpr k]
    rfl
  · rw [Bool.and_eq_true, Bool.not_eq_true', beq_eq_false_iff_ne] at k
    exact k.1 (h y (usort_mem.mp hy) (sub_iff.mp k.2))
theorem great_asc (l : List Nat) : Asc (great l) := List.Pairwise.filter _ (usort_asc l)
theorem great_falses {c : Nat} {T : List Nat} (kT : ∀ x ∈ T, x < 2 ^ c) : great ((List.range (2 ^ c)).filter fun x => !up T x) = falses c T := by
  have mem : ∀ x, x ∈ (List.range (2 ^ c)).filter (fun x => !up T x) ↔ x < 2 ^ c ∧ ¬ Up T x := fun x => by
    rw [List.mem_filter, List.mem_range, Bool.not_eq_true', Bool.eq_false_iff, Ne, up_iff]
  refine asc_eq (great_asc _) (falses_brd kT).1 fun x => ?_
  rw [great_mem]
  constructor
  · rintro ⟨h, k⟩
    obtain ⟨lx, nx⟩ := (mem x).mp h
    obtain ⟨z, hz, sx⟩ := (falses_down kT lx).mpr nx
    have lz := falses_lt z hz
    have := k z ((mem z).mpr ⟨lz, (falses_down kT lz).mp ⟨z, hz, Sub.refl z⟩⟩) sx
    rw [← this]
    exact hz
  · intro h
    have lx := falses_lt x h
    refine ⟨(mem x).mpr ⟨lx, (falses_down kT lx).mp ⟨x, h, Sub.refl x⟩⟩, fun y hy sx => ?_⟩
    obtain ⟨ly, ny⟩ := (mem y).mp hy
    obtain ⟨z, hz, sy⟩ := (falses_down kT ly).mpr ny
    have e := (falses_brd kT).2 x h z hz (sx.trans sy)
    rw [← e] at sy
    exact sy.anti sx
theorem lfM {c : Nat} {T : List Nat} (h8 : c ≤ 8) (h : T.length ≤ 2 ^ 24) (kT : ∀ x ∈ T, x < 2 ^ c) : m__law_falses [ni c, .tup (en T)] = pure (.tup (en (falses c T))) := by
  have p8 := pow8 h8
  have fl := List.length_filter_le (fun x => !up T x) (List.range (2 ^ c))
  rw [List.length_range] at fl
  unfold m__law_falses b__law_falses
  simp only [p2_ap, pure_bind', bind_assoc', runF_bind, c1]
  rw [shl_nn 1 c (by decide) (by omega), pure_bind', Nat.one_mul, range1_n _ (by omega)]
  rw [lcM_en (xs := List.range (2 ^ c)) (fun x => !up T x) id rfl (by rw [List.length_range]; omega) fun x hx => ?_]
  · rw [pure_bind', List.map_id, lgM (by omega) (ssort_len (by omega)), great_falses kT]
    rfl
  · simp only [nm_ap, p1_ap, pure_bind', ltrM h, truth_b]
    split <;> rfl
/-! few are in a border -/
theorem sub_pair {a b : Nat} (h : a / 2 = b / 2) (e : a % 2 = 0) : Sub a b := fun i hi => by
  cases i with
  | zero =>
    rw [Nat.testBit_zero, decide_eq_true_eq] at hi
    omega
  | succ i =>
    rw [Nat.testBit_succ] at hi ⊢
    rw [← h]
    exact hi
theorem brd_half {c : Nat} {l : List Nat} (hb : Brd l) (k : ∀ x ∈ l, x < 2 ^ (c + 1)) : l.length ≤ 2 ^ c := by
  have ha : Asc (l.map (· / 2)) := List.pairwise_map.mpr (List.Pairwise.imp_of_mem (fun {a b} ma mb q => by
    have q : a < b := q
    show a / 2 < b / 2
    by_cases z : a / 2 = b / 2
    · have := hb.2 a ma b mb (sub_pair z (by omega))
      omega
    · omega) hb.1)
  have := asc_len (n := 2 ^ c) ha fun x hx => by
    obtain ⟨y, hy, rfl⟩ := List.mem_map.mp hx
    have := k y hy
    rw [Nat.pow_succ] at this
    show y / 2 < 2 ^ c
    omega
  rwa [List.length_map] at this
theorem brd_128 {c : Nat} {l : List Nat} (h1 : 1 ≤ c) (h8 : c ≤ 8) (hb : Brd l) (k : ∀ x ∈ l, x < 2 ^ c) : l.length ≤ 128 := by
  obtain ⟨j, rfl⟩ : ∃ j, c = j + 1 := ⟨c - 1, by omega⟩
  exact Nat.le_trans (brd_half hb k) (Nat.le_trans (Nat.pow_le_pow_right (by omega) (show j ≤ 7 by omega)) (by decide))
theorem run_asks {c : Nat} {T : List Nat} {n : Nat} {a b : Ask} (R : Run c T n a b) : b.asks = a.asks + n := by
  induction R with
  | done _ => rfl
  | more _ _ _ ih => rw [ih, tell_asks]; omega
/-! a drawn border -/
theorem next_n {n : Nat} {rest s : Store} {many : Nat} {Q : D → Store → Prop} (d : Drw (n + 1) rest s) (hm : 0 < many) (q : ∀ (r : Nat) s', r < many → Drw n rest s' → Q (ni r) s') : Wp (m__law_next [.ref 0, ni many]) s Q :=
  next_wp d (by omega) fun r s' h0 h1 hd => by
    obtain ⟨k, rfl⟩ := Int.eq_ofNat_of_zero_le h0
    exact q k s' (by omega) hd
theorem boM {n c : Nat} {rest s : Store} {Q : D → Store → Prop} (h8 : c ≤ 8) (d : Drw (n + 12) rest s) (q : ∀ T s', Brd T → (∀ x ∈ T, x < 2 ^ c) → T.length ≤ 5 → Drw n rest s' → Q (.tup (en T)) s') : Wp (m__law_border [.ref 0, ni c]) s Q := by
  have pc := Nat.two_pow_pos c
  have p8 := pow8 h8
  unfold m__law_border b__law_border
  simp only [p2_ap, pure_bind', bind_assoc', runF_bind]
  refine wp_bind (next_n (many := 6) (d.less (m := n + 11 + 1) (by omega)) (by omega) fun kind s1 hk hd1 => ?_)
  rw [c0, eq_nn, pure_bind']
  by_cases z : kind = 0
  · subst z
    rw [show ((0 : Nat) == 0) = true from rfl, if_pos rfl]
    simp only [mkT0, mkT1, mkL2, pure_bind', bind_assoc']
    refine wp_bind (next_n (many := 2) (hd1.less (m := n + 1) (by omega)) (by omega) fun w s2 hw hd2 => ?_)
    have : w = 0 ∨ w = 1 := by omega
    rcases this with rfl | rfl
    · exact wp_pure (q [] s2 ⟨List.Pairwise.nil, fun a ha => (by cases ha)⟩ (fun x hx => (by cases hx)) (by decide) hd2)
    · exact wp_pure (q [0] s2 brd0 (fun x hx => by rw [List.mem_singleton.mp hx]; exact pc) (by decide) hd2)
  · rw [beq_eq_false_iff_ne.mpr z, if_neg (by decide), pure_bind', seqO_nx]
    simp only [runF_bind, bind_assoc', pure_bind']
    refine wp_bind (wp_lc (J := fun xs acc s => ∃ l, acc = en l ∧ l.length + xs.length ≤ 5 ∧ (∀ x ∈ l, x < 2 ^ c) ∧ Drw (n + 2 * xs.length) rest s) (wp_bind (next_n (many := 5) (hd1.less (m := n + 10 + 1) (by omega)) (by omega) fun k s2 hk hd2 => ?_)) (fun x r acc s ⟨l, e, hl, hw, hd⟩ => ?_) fun ys s' ⟨l, e, hl, hw, hd⟩ => ⟨?_, ?_⟩)
    · rw [c1, add_nn, pure_bind', range1_n _ (by omega)]
      refine wp_pure ⟨[], rfl, ?_, fun x hx => (by cases hx), hd2.less ?_⟩
      · rw [en_len, List.length_range, List.length_nil]; omega
      · rw [en_len, List.length_range]; omega
    · rw [List.length_cons] at hl hd
      rw [nm_ap, pure_bind', p1_ap, pure_bind', if_pos rfl, p1_ap]
      rw [c1, shl_nn 1 c (by decide) (by omega), pure_bind', Nat.one_mul]
      simp only [pure_bind', bind_assoc']
      refine wp_bind (next_n (many := 2 ^ c) (hd.less (m := n + 2 * r.length + 1 + 1) (by omega)) pc fun a s3 ha hd3 => ?_)
      refine wp_bind (next_n (many := 2 ^ c) (hd3.less (m := n + 2 * r.length + 1) (by omega)) pc fun b s4 hb hd4 => ?_)
      rw [c3, gt_nn, pure_bind', int_bn, pure_bind']
      have e5 : mulD (ni b) (ni (if decide (3 < kind) = true then 1 else 0)) = pure (ni (b * if decide (3 < kind) = true then 1 else 0)) := by
        show mulD (.int b) (.int _) = _
        rw [mul_ii _ _ (.inl (by omega))]
        rw [← Int.natCast_mul]
        rfl
      rw [e5, pure_bind', or_nn, pure_bind']
      have hv : a ||| (b * if decide (3 < kind) = true then 1 else 0) < 2 ^ c := by
        refine Nat.or_lt_two_pow ha ?_
        split
        · rw [Nat.mul_one]; exact hb
        · rw [Nat.mul_zero]; exact pc
      refine wp_pure ⟨l ++ [a ||| (b * if decide (3 < kind) = true then 1 else 0)], by rw [e, en_app]; rfl, by rw [List.length_append, List.length_singleton]; omega, fun x hx => ?_, hd4⟩
      rcases List.mem_append.mp hx with h | h
      · exact hw x h
      · rw [List.mem_singleton.mp h]; exact hv
    · rw [e, en_len]; omega
    · subst e
      rw [llM (by omega) (ssort_len (by omega)), pure_bind', runF_rt]
      exact wp_pure (q _ _ (least_brd l) (fun x hx => hw x (least_sub hx)) (Nat.le_trans (least_len l) (by omega)) (hd.less (by omega)))
/-! ### one round -/
theorem saM {x : D} {n w : Nat} (h : Rk n w x) (hn : n + 1 ≤ 64) (hw : w + 1 ≤ 2 ^ 20) : m__law_same [x, x] = pure (.bl true) := by
  obtain ⟨t, e, k⟩ := repr_ok (Rk.lst (ds := [x]) (n := n) (w := w) fun y hy => by rw [List.mem_singleton.mp hy]; exact h) hn (by rw [List.length_singleton]; omega)
  unfold m__law_same b__law_same
  simp only [p2_ap, pure_bind', bind_assoc', runF_bind, mkL1, e]
  rw [eqB_self (n := 0) (Sh.str k), pure_bind', runF_rt]
theorem rk_en {l : List Nat} (h : l.length ≤ 128) (k : ∀ x ∈ l, x < 2 ^ 20) : Rk 1 2688 (.tup (en l)) :=
  (Rk.tup (n := 0) (w := 20) (ds := en l) fun d hd => by
    obtain ⟨x, hx, rfl⟩ := List.mem_map.mp hd
    exact Rk.ni (k x hx)).mono (Nat.le_refl _) (by rw [en_len]; omega)
theorem rk_known {T F : List Nat} (hT : T.length ≤ 128) (kT : ∀ x ∈ T, x < 2 ^ 20) (hF : F.length ≤ 128) (kF : ∀ x ∈ F, x < 2 ^ 20) : Rk 2 8067 (.tup [.str "known", .tup (en T), .tup (en F)]) :=
  (Rk.tup (n := 1) (w := 2688) (ds := [.str "known", .tup (en T), .tup (en F)]) fun d hd => by
    rcases List.mem_cons.mp hd with rfl | hd
    · exact (Rk.str (n := 1) (by decide +kernel) (by decide +kernel) (by decide +kernel)).mono (Nat.le_refl _) (by omega)
    · rcases List.mem_cons.mp hd with rfl | hd
      · exact rk_en hT kT
      · rw [List.mem_singleton.mp hd]
        exact rk_en hF kF).mono (Nat.le_refl _) (Nat.le_refl _)
theorem sh_stp {c : Nat} {a : Ask} : Sh 2 (stpD c a) := by
  unfold stpD
  cases stepA c a with
  | none =>
    refine Sh.tup fun x hx => ?_
    rcases List.mem_cons.mp hx with rfl | hx
    · exact Sh.str (strOk_of (by decide +kernel))
    · rcases List.mem_cons.mp hx with rfl | hx
      · exact Sh.ten _
      · rw [List.mem_singleton.mp hx]; exact Sh.ten _
  | some y =>
    refine Sh.tup fun x hx => ?_
    rcases List.mem_cons.mp hx with rfl | hx
    · exact Sh.str (strOk_of (by decide +kernel))
    · rw [List.mem_singleton.mp hx]; exact Sh.ni
theorem na : neB (.str "ask") (.str "ask") = pure false := neB_self (n := 0) (Sh.str (strOk_of (by decide +kernel)))
theorem fiM {n : Nat} {rest s : Store} {Q : D → Store → Prop} (d : Drw (n + 14) rest s) (q : ∀ rest' s', Drw n rest' s' → Q (.bl true) s') : Wp (m__law_fits [.ref 0]) s Q := by
  unfold m__law_fits b__law_fits
  simp only [p1_ap, pure_bind', bind_assoc', runF_bind, mkL3, mkL0]
  refine wp_bind (next_n (many := 3) (d.less (m := n + 13 + 1) (by omega)) (by omega) fun r s1 hr hd1 => ?_)
  rw [show D.lst [D.int 4, D.int 6, D.int 8] = .lst (en [4, 6, 8]) from rfl, at_en (by simpa using hr), pure_bind']
  have hm : 1 ≤ [4, 6, 8].getD r 0 ∧ [4, 6, 8].getD r 0 ≤ 8 := by
    have : r = 0 ∨ r = 1 ∨ r = 2 := by omega
    rcases this with rfl | rfl | rfl <;> decide
  generalize [4, 6, 8].getD r 0 = m at hm
  refine wp_bind (next_n (many := m) (hd1.less (m := n + 12 + 1) (by omega)) (by omega) fun k s2 hk hd2 => ?_)
  rw [c1, add_nn, pure_bind']
  generalize hc : 1 + k = c
  have h1 : 1 ≤ c := by omega
  have h8 : c ≤ 8 := by omega
  have p8 := pow8 h8
  have pc := Nat.two_pow_pos c
  refine wp_bind (boM (n := n) h8 (hd2.less (by omega)) fun T s3 hT kT l5 hd3 => ?_)
  have hF := falses_brd kT
  have kF : ∀ x ∈ falses c T, x < 2 ^ c := fun x hx => falses_lt x hx
  have lF := brd_128 h1 h8 hF kF
  have lm : (T.length + (falses c T).length) * (c + 1) ≤ 1197 := by
    have := Nat.mul_le_mul (show T.length + (falses c T).length ≤ 133 by omega) (show c + 1 ≤ 9 by omega)
    omega
  rw [lfM h8 (by omega) kT, pure_bind']
  refine wp_bind (wp_imp (inM h1 h8) ?_)
  rintro _ _ ⟨rfl, rfl⟩
  have hk := end_lt s3 (Cell.ins 0 [])
  have bnd := Nat.mul_le_mul (show 2 ^ c + 2 ^ c ≤ 512 by omega) (show c + 1 ≤ 9 by omega)
  obtain ⟨nn, b, R, Ib, sb, ln⟩ := run_end kT hT 5000 startA start_inv (by show (2 ^ c + 2 ^ c) * (c + 1) + (c + 1) + 1 ≤ 5000 + 0; omega)
  obtain ⟨_, et, ef, few⟩ := end_known kT hT Ib sb
  have ra : b.asks = nn := by rw [run_asks R]; show 0 + nn = nn; omega
  rw [show D.int 1500 = ni 1500 from rfl, range1_n 1500 (by decide), pure_bind']
  refine wp_bind (wp_imp (wp_for (Q := fun o st => ∃ (told : List D) (B : D), o = .nx (.lst told) ∧ told.length = b.asks ∧ (∀ h, b.here = some h → B = D.bl b.bit) ∧ st = (s3 ++ [Cell.ins 0 []]).set s3.length (acl (ni c) b B))
    (fun xs z st => ∃ (j : Nat) (a : Ask) (told : List D) (B : D), z = .lst told ∧ told.length = a.asks ∧ Run c T j a b ∧ j < xs.length ∧ Inv c T a ∧ (∀ h, a.here = some h → B = D.bl a.bit) ∧ st = (s3 ++ [Cell.ins 0 []]).set s3.length (acl (ni c) a B)) _ _ _ ⟨nn, startA, [], .non, rfl, rfl, R, by rw [en_len, List.length_range]; omega, start_inv, (fun h q => (by cases q)), rfl⟩ ?_ ?_) ?_)
  · rintro x r z st ⟨j, a, told, B, rfl, tl, R, hj, I, hB, rfl⟩
    have st := stM hk h8 kT I truth_b hB
    have as := asM hk (C := ni c) (B := B) (a := a)
    have sn := neB_self (sh_stp (c := c) (a := a))
    have ia := inv_asks kT hT I
    rw [nm_ap, pure_bind', p1_ap]
    have lt := @ltA
    unfold acl at st as lt ⊢
    rw [bac_wm hk rfl]
    simp only [pure_bind', bind_assoc']
    refine wp_go st ?_
    rw [bac_wm hk rfl]
    simp only [pure_bind', bind_assoc']
    refine wp_go st ?_
    rw [sn, pure_bind', if_neg Bool.false_ne_true, bind_assoc', bac_wm hk rfl]
    simp only [pure_bind', bind_assoc']
    refine wp_go as ?_
    rw [len_l, pure_bind', show D.int (told.length : Int) = ni a.asks by rw [tl]; rfl, ne_nn, beq_self_eq_true, pure_bind', Bool.not_true, if_neg Bool.false_ne_true, pure_bind', seqO_nx]
    cases R with
    | done e =>
      rw [show stpD c b = .tup [.str "known", .tup (en b.t), .tup (en b.f)] by unfold stpD; rw [e]]
      rw [c0, show ixD (.tup [.str "known", .tup (en b.t), .tup (en b.f)]) (ni 0) = pure (.str "known") from rfl, pure_bind', kk, pure_bind', if_pos rfl, pure_bind']
      exact wp_pure ⟨told, B, rfl, tl, hB, rfl⟩
    | @more j _ _ x e lx R =>
      rw [show stpD c a = .tup [.str "ask", ni x] by unfold stpD; rw [e]]
      rw [c0, show ixD (.tup [.str "ask", ni x]) (ni 0) = pure (.str "ask") from rfl, show ixD (.tup [.str "ask", ni x]) (ni 1) = pure (ni x) from rfl]
      simp only [pure_bind', ak, Bool.false_eq_true, if_false, seqO_nx, na, len_t, bind_assoc']
      rw [show D.int (([D.str "ask", ni x] : List D).length : Int) = ni 2 from rfl, c2, ne_nn, beq_self_eq_true, Bool.not_true, pure_bind', if_neg Bool.false_ne_true]
      simp only [chainM, pure_bind', bind_assoc', le_nn, decide_eq_true (Nat.zero_le x), if_true, shl_nn 1 c (by decide) (by omega), Nat.one_mul, lt_nn, decide_eq_true lx, Bool.not_true, Bool.false_eq_true, if_false, seqO_nx, ltrM (by omega : T.length ≤ 2 ^ 24), lst_l, mkT2]
      rw [DL.app_ok (ds := told) (D.tup [ni x, D.bl (up T x)]) (by rw [tl]; omega), pure_bind']
      refine wp_go (lt hk h8 kT I hB e lx (up T x)) ?_
      rw [show notNoneB .non .non = pure false from rfl, pure_bind', if_neg Bool.false_ne_true, pure_bind', seqO_nx]
      exact wp_pure ⟨j, tellA c a (up T x) x, _, _, rfl, by rw [List.length_append, List.length_singleton, tl, tell_asks], R, by rw [List.length_cons] at hj; omega, (tell_inv kT I e).2, fun _ _ => rfl, rfl⟩
  · rintro z st ⟨j, a, told, B, rfl, tl, R, hj, _⟩
    exact (Nat.not_lt_zero j hj).elim
  · rintro o st ⟨told, B, rfl, tl, hB, rfl⟩
    have st := stM hk h8 kT Ib truth_b hB
    have as := asM hk (C := ni c) (B := B) (a := b)
    have lk := ltK hk h8 kT Ib hB sb true
    rw [show stpD c b = .tup [.str "known", .tup (en b.t), .tup (en b.f)] by unfold stpD; rw [sb], et, ef] at st
    have sm := saM (rk_known (T := T) (F := falses c T) (by omega) (fun x hx => by have := kT x hx; omega) lF (fun x hx => by have := kF x hx; omega)) (by decide) (by decide)
    rw [seqO_nx]
    unfold acl at st as lk ⊢
    simp only [runF_bind]
    rw [bac_wm hk rfl]
    simp only [pure_bind', bind_assoc']
    refine wp_go st ?_
    rw [mkT3, pure_bind', sm, pure_bind', truth_b, pure_bind', Bool.not_true, if_neg Bool.false_ne_true]
    have tl' : D.int (told.length : Int) = ni b.asks := by rw [tl]; rfl
    have nl : ¬ (T.length + (falses c T).length) * (c + 1) < b.asks := by omega
    simp only [len_l, len_ten, pure_bind', bind_assoc', tl', add_nn, c1, mul_nn (by omega : T.length + (falses c T).length < 2 ^ 64), gt_nn, decide_eq_false nl, Bool.false_eq_true, if_false, seqO_nx, runF_bind]
    refine wp_go lk ?_
    rw [bac_wm hk rfl]
    simp only [pure_bind', bind_assoc']
    refine wp_go as ?_
    rw [set_end]
    refine wp_bind (afM h1 h8 hT kT R (by omega) _ fun C2 => ?_)
    have sh : Sh 1 (.lst [.str "wrong", ni b.asks, ni b.asks]) := Sh.lst fun x hx => by
      rcases List.mem_cons.mp hx with rfl | hx
      · exact Sh.str (strOk_of (by decide +kernel))
      · rcases List.mem_cons.mp hx with rfl | hx
        · exact Sh.ni
        · rw [List.mem_singleton.mp hx]; exact Sh.ni
    simp only [pure_bind', mkL3, eqB_self sh, runF_rt]
    exact wp_pure (q _ _ ((hd3.snoc _).snoc C2))
/-! ### what is refused -/
theorem cc0 : m_check_count [.int 0] = raise 101 := rfl
theorem cc9 : m_check_count [.int 9] = raise 101 := rfl
theorem md0 (s : Store) : m__law_made [.int 0, .non] s = .ok (.str "refused") (s ++ [Cell.ins 0 []]) := rfl
theorem md9 (s : Store) : m__law_made [.int 9, .non] s = .ok (.str "refused") (s ++ [Cell.ins 0 []]) := rfl
theorem cb2 : m_check_border [.int 2, .tup [.int 0, .int 1]] = raise 101 := by
  have e := csM (c := 2) (l := [0, 1]) (by decide) (by decide) (List.Pairwise.cons (fun x hx => by rw [List.mem_singleton.mp hx]; decide) (List.pairwise_singleton _ _)) (by decide)
  have l := leM (l := [0, 1]) (d := .tup (en [0, 1])) (by decide) (ssort_ten (by decide))
  rw [show least [0, 1] = [0] by decide +kernel] at l
  unfold m_check_border b_check_border
  simp only [p2_ap, pure_bind', bind_assoc', runF_bind]
  rw [show ([D.int 2, D.tup [.int 0, .int 1]] : List D) = [ni 2, .tup (en [0, 1])] from rfl, show D.tup [.int 0, .int 1] = .tup (en [0, 1]) from rfl, e, pure_bind', l, pure_bind', tuple_t, pure_bind', ne_ten, pure_bind']
  rfl
theorem cb4 : m_check_border [.int 2, .tup [.int 4]] = raise 101 := by
  have e : m_check_sets [.int 2, .tup [.int 4]] = raise 101 := by
    unfold m_check_sets b_check_sets
    simp only [p2_ap, pure_bind', bind_assoc', runF_bind]
    rw [show ([D.int 2] : List D) = [ni 2] from rfl, ccM (by decide) (by decide), pure_bind']
    rw [show D.tup [.int 4] = .tup (en [4]) from rfl, list_t, pure_bind', ssort_ten (by decide), pure_bind', usort_id (List.pairwise_singleton _ _), ne_len]
    rfl
  unfold m_check_border b_check_border
  simp only [p2_ap, pure_bind', bind_assoc', runF_bind]
  rw [e]
  rfl
theorem md2 (s : Store) : m__law_made [.int 2, .tup [.int 0, .int 1]] s = .ok (.str "refused") s := by
  have h : m_asks_for [.int 2, .tup [.int 0, .int 1]] s = .exc 101 s := by
    unfold m_asks_for b_asks_for
    simp only [p2_ap, pure_bind', bind_assoc', runF_bind]
    rw [cb2]
    rfl
  unfold m__law_made b__law_made
  simp only [p2_ap, pure_bind', bind_assoc', runF_bind]
  rw [show isNoneB (.tup [.int 0, .int 1]) .non = pure false from rfl]
  simp only [pure_bind', Bool.false_eq_true, if_false, seqO_nx]
  have h2 : (m_asks_for [.int 2, .tup [.int 0, .int 1]] >>= fun x => mkT [D.str "told", x] >>= fun y => (pure (.rt y) : M (Out Unit Unit))) s = .exc 101 s := exc_go h
  have h3 : tryE [101, 103] (m_asks_for [.int 2, .tup [.int 0, .int 1]] >>= fun x => mkT [D.str "told", x] >>= fun y => (pure (.rt y) : M (Out Unit Unit))) s = .ok (.rt (.str "refused")) s := by
    unfold tryE
    rw [h2]
    rfl
  rw [bind_ok h3]
  rfl
theorem md4 (s : Store) : m__law_made [.int 2, .tup [.int 4]] s = .ok (.str "refused") s := by
  have h : m_asks_for [.int 2, .tup [.int 4]] s = .exc 101 s := by
    unfold m_asks_for b_asks_for
    simp only [p2_ap, pure_bind', bind_assoc', runF_bind]
    rw [cb4]
    rfl
  unfold m__law_made b__law_made
  simp only [p2_ap, pure_bind', bind_assoc', runF_bind]
  rw [show isNoneB (.tup [.int 4]) .non = pure false from rfl]
  simp only [pure_bind', Bool.false_eq_true, if_false, seqO_nx]
  have h2 : (m_asks_for [.int 2, .tup [.int 4]] >>= fun x => mkT [D.str "told", x] >>= fun y => (pure (.rt y) : M (Out Unit Unit))) s = .exc 101 s := exc_go h
  have h3 : tryE [101, 103] (m_asks_for [.int 2, .tup [.int 4]] >>= fun x => mkT [D.str "told", x] >>= fun y => (pure (.rt y) : M (Out Unit Unit))) s = .ok (.rt (.str "refused")) s := by
    unfold tryE
    rw [h2]
    rfl
  rw [bind_ok h3]
  rfl
theorem md1 (s : Store) : ∃ C, m__law_made [.int 1, .non] s = .ok (.tup [.str "told", ni 0]) (s ++ [C]) := by
  obtain ⟨d, s', e, rfl, rfl⟩ := wp_get (inM (c := 1) (s := s) (by decide) (by decide))
  have hk := end_lt s (Cell.ins 0 [])
  have as := asM hk (C := ni 1) (B := .non) (a := startA)
  refine ⟨acl (ni 1) startA .non, ?_⟩
  rw [← set_end s (Cell.ins 0 [])]
  unfold m__law_made b__law_made
  simp only [p2_ap, pure_bind', bind_assoc', runF_bind]
  rw [show isNoneB .non .non = pure true from rfl]
  simp only [pure_bind', if_true, bind_assoc']
  have h1 : mthM 0 "asked" (mkM 0 (pure [.int 1]) m_BorderAsker___init__) (pure []) m_BorderAsker_asked s = .ok (ni 0) ((s ++ [Cell.ins 0 []]).set s.length (acl (ni 1) startA .non)) := by
    show (mkM 0 (pure [ni 1]) m_BorderAsker___init__ >>= fun x => insD 0 x >>= fun kf => noF "asked" kf.2 >>= fun _ => (pure [] : M (List D)) >>= fun vs => m_BorderAsker_asked (x :: vs)) s = _
    rw [bind_ok e]
    have := bac_m (v0 := ni 1) (v1 := .tup (en startA.t)) (v2 := .tup (en startA.f)) (v3 := ni startA.asks) (v4 := opD startA.here) (v5 := .lst (en startA.left)) (v6 := .non) (fm := "asked") (ms := pure []) (FM := m_BorderAsker_asked) hk rfl pure
    rw [bind_pure'] at this
    unfold mthM at this
    rw [pure_bind'] at this
    unfold acl at as ⊢
    refine Eq.trans this ?_
    rw [bind_pure', pure_bind']
    exact as
  have h3 : tryE [101, 103] ((mthM 0 "asked" (mkM 0 (pure [.int 1]) m_BorderAsker___init__) (pure []) m_BorderAsker_asked >>= fun x => mkT [D.str "told", x] >>= fun y => (pure (.rt y) : M (Out Unit Unit))) >>= seqO fun _ => m_asks_for [.int 1, .non] >>= fun x => mkT [D.str "told", x] >>= fun y => (pure (.rt y) : M (Out Unit Unit))) s = .ok (.rt (.tup [.str "told", ni 0])) ((s ++ [Cell.ins 0 []]).set s.length (acl (ni 1) startA .non)) := by
    unfold tryE
    rw [bind_assoc', bind_ok h1]
    rfl
  simp only [bind_assoc', pure_bind'] at h3
  rw [bind_ok h3]
  rfl
theorem law_ok : LawOk m_law := by
  intro ns hl
  obtain ⟨nums, e, h0, h1⟩ := stream_ok ns hl []
  suffices h : Wp (m_law [.rls (ns.map .int)]) [] fun d _ => d = .bl true from h.run
  unfold m_law b_law
  simp only [p1_ap, pure_bind', bind_assoc', runF_bind]
  refine wp_go e ?_
  rw [mkL2, pure_bind']
  refine wp_go (a := .ref 0) (s' := [.lst [.lst (nums.map .int), .int ((0 : Nat) : Int)]]) rfl ?_
  rw [c4, range1_n 4 (by decide), pure_bind']
  refine wp_bind (wp_for (fun xs _ s => ∃ rest, Drw (xs.length * 14) rest s) _ _ _ ⟨[], nums, 0, rfl, h0, h1, by rw [en_len]; decide⟩ ?_ ?_)
  · rintro x r ⟨⟩ s ⟨rest, hd⟩
    rw [List.length_cons] at hd
    rw [nm_ap, pure_bind', p1_ap]
    refine wp_bind (fiM (n := r.length * 14) (hd.less (by omega)) fun rest' s' hd' => ?_)
    rw [truth_b, pure_bind', Bool.not_true, if_neg Bool.false_ne_true, pure_bind', seqO_nx]
    exact wp_pure ⟨rest', hd'⟩
  · rintro z s ⟨rest, hd⟩
    rw [seqO_nx]
    simp only [mkT1, mkT2, mkL1, pure_bind', bind_assoc', runF_bind]
    refine wp_go (md0 _) (wp_go (md9 _) (wp_go (md2 _) (wp_go (md4 _) ?_)))
    obtain ⟨C, m1⟩ := md1 (s ++ [Cell.ins 0 []] ++ [Cell.ins 0 []])
    refine wp_go m1 ?_
    rw [mkL5, pure_bind']
    rw [show repL (.lst [.str "refused"]) (ni 4) = pure (.lst [.str "refused", .str "refused", .str "refused", .str "refused"]) from rfl, pure_bind']
    rw [show catD (.lst [.str "refused", .str "refused", .str "refused", .str "refused"]) (.lst [.tup [.str "told", .int 0]]) = pure (.lst [.str "refused", .str "refused", .str "refused", .str "refused", .tup [.str "told", ni 0]]) from rfl, pure_bind']
    have sr : Sh 1 (.str "refused") := Sh.str (strOk_of (by decide +kernel))
    have sh : Sh 2 (.lst [.str "refused", .str "refused", .str "refused", .str "refused", .tup [.str "told", ni 0]]) := Sh.lst fun x hx => by
      simp only [List.mem_cons, List.not_mem_nil, or_false] at hx
      rcases hx with rfl | rfl | rfl | rfl | rfl
      · exact sr
      · exact sr
      · exact sr
      · exact sr
      · exact Sh.tup fun x hx => by
          rcases List.mem_cons.mp hx with rfl | hx
          · exact Sh.str (strOk_of (by decide +kernel))
          · rw [List.mem_singleton.mp hx]; exact Sh.ni
    rw [eqB_self sh, pure_bind', runF_rt]
    exact wp_pure rfl
end K09
open PySem PySem.W PyProof.Rows
set_option maxHeartbeats 0
theorem PySem.Challenge.cw_askcraft_k09_whole_border_askers_holds : PySem.Challenge.rw_askcraft_k09_whole_border_askers.Holds := by
  w_on; o_law; k_head; (case hw => w_witness2)
  k_fill
  refine DL.walk_ofG (l := PySem.Challenge.rw_askcraft_k09_whole_border_askers) (k := 6) (x := "script") rfl rfl ⟨rfl, by decide, by decide⟩ (fun w h Y => PySem.W.kIn_of Y) ?F
  case F =>
    intro w mg fa h KX G hmg
    refine' K09.all_mk KX G hmg ?a0 ?l0 ?c0 ?k0 ?a1 ?l1 ?c1 ?k1 ?a2 ?l2 ?c2 ?k2 ?a3 ?l3 ?c3 ?k3 ?a4 ?l4 ?c4 ?k4 ?a5 ?l5 ?c5 ?k5 ?a6 ?i6 ?l6 ?c6 ?k6 ?a7 ?i7 ?l7 ?c7 ?k7 ?a8 ?i8 ?l8 ?c8 ?k8 ?a9 ?i9 ?l9 ?c9 ?k9 ?a10 ?i10 ?l10 ?c10 ?k10 ?a11 ?i11 ?l11 ?c11 ?k11 ?a12 ?i12 ?l12 ?c12 ?k12 ?a13 ?l13 ?c13 ?k13 ?a14 ?l14 ?c14 ?k14 ?a15 ?l15 ?c15 ?k15 ?a16 ?l16 ?c16 ?k16 ?a17 ?l17 ?c17 ?k17 ?a18 ?l18 ?c18 ?k18 ?a19 ?l19 ?c19 ?k19 ?a20 ?l20 ?c20 ?k20 ?a21 ?l21 ?c21 ?k21 ?a22 ?l22 ?c22 ?k22 ?a23 ?l23 ?c23 ?k23 ?a24 ?l24 ?c24 ?k24 ?a25 ?l25 ?c25 ?k25 ?a26 ?l26 ?c26 ?k26 ?aC0 ?pg0 ?hd0 ?po0 ?sa0 ?mk0 ?kc0 ?n0_0 ?n0_1 ?n0_2 ?n0_3 ?n0_4 ?n0_5 ?n0_6 ?aE100 ?aE101 ?aE102 ?aE103 ?aE104 ?aE105 ?kE101 ?xE101 ?sE101 ?tE101 ?gE101 ?hE101 ?dE101 ?cE101 ?mE101 ?iE101_101 ?iE101_102 ?iE101_103 ?iE101_104 ?iE101_105 ?eE101 ?kE103 ?xE103 ?sE103 ?tE103 ?gE103 ?hE103 ?dE103 ?cE103 ?mE103 ?iE103_101 ?iE103_102 ?iE103_103 ?iE103_104 ?iE103_105 ?eE103 ?nE ?vE ?zb_abs ?zb_all ?zb_any ?zb_int ?zb_isinstance ?zb_len ?zb_list ?zb_range ?zb_repr ?zb_set ?zb_sorted ?zb_sum ?zb_tuple ?zc_MAX_THINGS K09.law_ok
    (case aC0 => k_is); (case aE100 => k_is); (case aE101 => k_is); (case aE102 => k_is); (case aE103 => k_is); (case aE104 => k_is); (case aE105 => k_is); (case a0 => k_is); (case l0 => k_is); (case c0 => k_is); (case k0 => k_is); (case a1 => k_is); (case l1 => k_is); (case c1 => k_is); (case k1 => k_is); (case a2 => k_is); (case l2 => k_is); (case c2 => k_is); (case k2 => k_is); (case a3 => k_is); (case l3 => k_is); (case c3 => k_is); (case k3 => k_is); (case a4 => k_is); (case l4 => k_is); (case c4 => k_is); (case k4 => k_is); (case a5 => k_is); (case l5 => k_is); (case c5 => k_is); (case k5 => k_is); (case a6 => k_is); (case i6 => k_is); (case l6 => k_is); (case c6 => k_is); (case k6 => k_is); (case a7 => k_is); (case i7 => k_is); (case l7 => k_is); (case c7 => k_is); (case k7 => k_is); (case a8 => k_is); (case i8 => k_is); (case l8 => k_is); (case c8 => k_is); (case k8 => k_is); (case a9 => k_is); (case i9 => k_is); (case l9 => k_is); (case c9 => k_is); (case k9 => k_is); (case a10 => k_is); (case i10 => k_is); (case l10 => k_is); (case c10 => k_is); (case k10 => k_is); (case a11 => k_is); (case i11 => k_is); (case l11 => k_is); (case c11 => k_is); (case k11 => k_is); (case a12 => k_is); (case i12 => k_is); (case l12 => k_is); (case c12 => k_is); (case k12 => k_is); (case a13 => k_is); (case l13 => k_is); (case c13 => k_is); (case k13 => k_is); (case a14 => k_is); (case l14 => k_is); (case c14 => k_is); (case k14 => k_is); (case a15 => k_is); (case l15 => k_is); (case c15 => k_is); (case k15 => k_is); (case a16 => k_is); (case l16 => k_is); (case c16 => k_is); (case k16 => k_is); (case a17 => k_is); (case l17 => k_is); (case c17 => k_is); (case k17 => k_is); (case a18 => k_is); (case l18 => k_is); (case c18 => k_is); (case k18 => k_is); (case a19 => k_is); (case l19 => k_is); (case c19 => k_is); (case k19 => k_is); (case a20 => k_is); (case l20 => k_is); (case c20 => k_is); (case k20 => k_is); (case a21 => k_is); (case l21 => k_is); (case c21 => k_is); (case k21 => k_is); (case a22 => k_is); (case l22 => k_is); (case c22 => k_is); (case k22 => k_is); (case a23 => k_is); (case l23 => k_is); (case c23 => k_is); (case k23 => k_is); (case a24 => k_is); (case l24 => k_is); (case c24 => k_is); (case k24 => k_is); (case a25 => k_is); (case l25 => k_is); (case c25 => k_is); (case k25 => k_is); (case a26 => k_is); (case l26 => k_is); (case c26 => k_is); (case k26 => k_is); (case pg0 => k_is); (case hd0 => k_is); (case po0 => k_is); (case sa0 => k_is); (case mk0 => k_is); (case kc0 => k_is); (case n0_0 => k_is); (case n0_1 => k_is); (case n0_2 => k_is); (case n0_3 => k_is); (case n0_4 => k_is); (case n0_5 => k_is); (case n0_6 => k_is); (case kE101 => k_is); (case xE101 => k_exc); (case sE101 => k_is); (case tE101 => k_is); (case gE101 => k_is); (case hE101 => k_is); (case dE101 => k_is); (case cE101 => k_is); (case mE101 => k_is); (case iE101_101 => kit_is); (case iE101_102 => kit_is); (case iE101_103 => kit_is); (case iE101_104 => kit_is); (case iE101_105 => kit_is); (case eE101 => kts_exm); (case kE103 => k_is); (case xE103 => k_exc); (case sE103 => k_is); (case tE103 => k_is); (case gE103 => k_is); (case hE103 => k_is); (case dE103 => k_is); (case cE103 => k_is); (case mE103 => k_is); (case iE103_101 => kit_is); (case iE103_102 => kit_is); (case iE103_103 => kit_is); (case iE103_104 => kit_is); (case iE103_105 => kit_is); (case eE103 => kts_exm); (case nE => k_is); (case vE => k_is); (case zb_abs => k_is); (case zb_all => k_is); (case zb_any => k_is); (case zb_int => k_is); (case zb_isinstance => k_is); (case zb_len => k_is); (case zb_list => k_is); (case zb_range => k_is); (case zb_repr => k_is); (case zb_set => k_is); (case zb_sorted => k_is); (case zb_sum => k_is); (case zb_tuple => k_is); (case zc_MAX_THINGS => k_is)
