import PyProof.Rows.All
import Wide.All
import OpenK.AllK
import Wide.FinOn
import HandS.ForMost
import HandS.ForExc
import HandS.EndBits
import HandS.Wide
import HandS.IsInst
import HandS.Conv
import HandS.SortInts
import HandS.TupAny
import HandS.More
import HandS.WideBits
import HandS.SetFor
import HandS.Rev
import HandS.DictTup
import HandS.Strs
import HandS.Text
import HandS.Iter
import HandS.Dict
import HandS.ExcCtx
import HandS.TryOnly
import HandS.Defaults
import HandS.Star
import HandS.Property
import HandS.CallSlots
import HandS.Slots
import HandS.SlotsVar
import HandS.SlotsOwn
import HandS.Deep
import HandS.DeepEq
import HandS.DictComp
import HandS.SetKeys
import HandS.Set
import HandS.NoneIn
import HandS.JoinGen
import HandS.SortKw
import HandS.ReplaceDef
import HandS.Zip
import HandS.MakeKw
import HandS.MethStar
import HandS.ExcOwn
import HandS.ExcIs
import HandS.RaiseMore
import HandS.Small
import HandS.Deep
import HandS.Style
import KE.DataMinMax
import PyProof.CompFree
import KE.GoesEnum
import KE.DatumOrd
import HandS.Flow
import KE.KDictList
import HandS.ListItems
import PySem.Challenge.RW_phasor_k05_ring_division
set_option Elab.async false
set_option linter.all false
set_option maxRecDepth 100000
set_option maxHeartbeats 4000000
namespace Px
open PySem L2
inductive Mk where | frz | loan | own | ro
  deriving DecidableEq
inductive D where
  | non | bl (b : Bool) | int (i : Int) | str (x : Str)
  | tup (ds : List D)
  | lst (m : Mk) (ds : List D)
  | dk (m : Mk) (ks : List Key) (vs : List D)
  | dt (m : Mk) (ks : List (List Key)) (vs : List D)
  | obj (m : Mk) (c : Nat) (fs : List D)
  | cell (i : Nat)
inductive Cell where
  | lst (ds : List D) | dk (ks : List Key) (vs : List D) | dt (ks : List (List Key)) (vs : List D) | obj (c : Nat) (fs : List D) | gone
abbrev En := List (Option D)
abbrev Sto := List Cell
mutual
def D.pl : D → Bool
  | .non => true | .bl _ => true | .int _ => true | .str _ => true
  | .tup ds => plL ds
  | .lst m ds => (m == .frz || m == .ro) && plL ds
  | .dk m _ ds => (m == .frz || m == .ro) && plL ds
  | .dt m _ ds => (m == .frz || m == .ro) && plL ds
  | .obj m _ ds => (m == .frz || m == .ro) && plL ds
  | .cell _ => false
def plL : List D → Bool
  | [] => true
  | d :: ds => d.pl && plL ds
end
mutual
def D.noc : D → Bool
  | .non => true | .bl _ => true | .int _ => true | .str _ => true
  | .tup ds => nocL ds
  | .lst m ds => (m != .own) && nocL ds
  | .dk m _ ds => (m != .own) && nocL ds
  | .dt m _ ds => (m != .own) && nocL ds
  | .obj m _ ds => (m != .own) && nocL ds
  | .cell _ => false
def nocL : List D → Bool
  | [] => true
  | d :: ds => d.noc && nocL ds
end
mutual
def D.beq : D → D → Bool
  | .non, .non => true
  | .bl a, .bl b => a == b
  | .int a, .int b => decide (a = b)
  | .str a, .str b => decide (a = b)
  | .tup a, .tup b => beqL a b
  | .lst m a, .lst n b => decide (m = n) && beqL a b
  | .dk m k a, .dk n l b => decide (m = n) && decide (k = l) && beqL a b
  | .dt m k a, .dt n l b => decide (m = n) && decide (k = l) && beqL a b
  | .obj m k a, .obj n l b => decide (m = n) && decide (k = l) && beqL a b
  | .cell a, .cell b => decide (a = b)
  | _, _ => false
def beqL : List D → List D → Bool
  | [], [] => true
  | a :: r, b :: s => D.beq a b && beqL r s
  | _, _ => false
end
mutual
theorem D.eq_of_beq : ∀ a b : D, D.beq a b = true → a = b
  | .non, b, h => by cases b <;> first | rfl | exact nomatch (show false = true from h)
  | .bl a, b, h => by cases b <;> first | exact nomatch (show false = true from h) | exact congrArg D.bl (eq_of_beq (show (a == _) = true from h))
  | .int a, b, h => by cases b <;> first | exact nomatch (show false = true from h) | exact congrArg D.int (of_decide_eq_true (show decide (a = _) = true from h))
  | .str a, b, h => by cases b <;> first | exact nomatch (show false = true from h) | exact congrArg D.str (of_decide_eq_true (show decide (a = _) = true from h))
  | .cell a, b, h => by cases b <;> first | exact nomatch (show false = true from h) | exact congrArg D.cell (of_decide_eq_true (show decide (a = _) = true from h))
  | .tup a, b, h => by
    cases b with
    | tup c => exact congrArg D.tup (eq_of_beqL a c h)
    | _ => exact nomatch (show false = true from h)
  | .lst m a, b, h => by
    cases b with
    | lst n c =>
      obtain ⟨h1, h2⟩ := Bool.and_eq_true_iff.mp (show (decide (m = n) && beqL a c) = true from h)
      rw [eq_of_beqL a c h2, of_decide_eq_true h1]
    | _ => exact nomatch (show false = true from h)
  | .dk m k a, b, h => by
    cases b with
    | dk n l c =>
      obtain ⟨h1, h2⟩ := Bool.and_eq_true_iff.mp (show (decide (m = n) && decide (k = l) && beqL a c) = true from h)
      obtain ⟨h3, h4⟩ := Bool.and_eq_true_iff.mp h1
      rw [eq_of_beqL a c h2, of_decide_eq_true h3, of_decide_eq_true h4]
    | _ => exact nomatch (show false = true from h)
  | .dt m k a, b, h => by
    cases b with
    | dt n l c =>
      obtain ⟨h1, h2⟩ := Bool.and_eq_true_iff.mp (show (decide (m = n) && decide (k = l) && beqL a c) = true from h)
      obtain ⟨h3, h4⟩ := Bool.and_eq_true_iff.mp h1
      rw [eq_of_beqL a c h2, of_decide_eq_true h3, of_decide_eq_true h4]
    | _ => exact nomatch (show false = true from h)
  | .obj m k a, b, h => by
    cases b with
    | obj n l c =>
      obtain ⟨h1, h2⟩ := Bool.and_eq_true_iff.mp (show (decide (m = n) && decide (k = l) && beqL a c) = true from h)
      obtain ⟨h3, h4⟩ := Bool.and_eq_true_iff.mp h1
      rw [eq_of_beqL a c h2, of_decide_eq_true h3, of_decide_eq_true h4]
    | _ => exact nomatch (show false = true from h)
theorem eq_of_beqL : ∀ a b : List D, beqL a b = true → a = b
  | [], b, h => by cases b <;> first | rfl | exact nomatch (show false = true from h)
  | x :: r, b, h => by
    cases b with
    | nil => exact nomatch (show false = true from h)
    | cons y s =>
      obtain ⟨h1, h2⟩ := Bool.and_eq_true_iff.mp (show (D.beq x y && beqL r s) = true from h)
      rw [D.eq_of_beq x y h1, eq_of_beqL r s h2]
end
mutual
theorem D.beq_self : ∀ a : D, D.beq a a = true
  | .non => rfl
  | .bl a => (beq_self_eq_true a : (a == a) = true)
  | .int a => (decide_eq_true rfl : decide (a = a) = true)
  | .str a => (decide_eq_true rfl : decide (a = a) = true)
  | .cell a => (decide_eq_true rfl : decide (a = a) = true)
  | .tup a => beqL_self a
  | .lst m a => (Bool.and_eq_true_iff.mpr ⟨decide_eq_true rfl, beqL_self a⟩ : (decide (m = m) && beqL a a) = true)
  | .dk m k a => (Bool.and_eq_true_iff.mpr ⟨Bool.and_eq_true_iff.mpr ⟨decide_eq_true rfl, decide_eq_true rfl⟩, beqL_self a⟩ : (decide (m = m) && decide (k = k) && beqL a a) = true)
  | .dt m k a => (Bool.and_eq_true_iff.mpr ⟨Bool.and_eq_true_iff.mpr ⟨decide_eq_true rfl, decide_eq_true rfl⟩, beqL_self a⟩ : (decide (m = m) && decide (k = k) && beqL a a) = true)
  | .obj m k a => (Bool.and_eq_true_iff.mpr ⟨Bool.and_eq_true_iff.mpr ⟨decide_eq_true rfl, decide_eq_true rfl⟩, beqL_self a⟩ : (decide (m = m) && decide (k = k) && beqL a a) = true)
theorem beqL_self : ∀ a : List D, beqL a a = true
  | [] => rfl
  | x :: r => (Bool.and_eq_true_iff.mpr ⟨D.beq_self x, beqL_self r⟩ : (D.beq x x && beqL r r) = true)
end
def Cell.isLst (c : Option Cell) (ds : List D) : Bool := match c with | some (.lst es) => beqL es ds | _ => false
theorem Cell.isLst_self (ds : List D) : Cell.isLst (some (.lst ds)) ds = true := beqL_self ds
theorem Cell.eq_isLst {c : Option Cell} {ds : List D} (h : Cell.isLst c ds = true) : c = some (.lst ds) := by
  cases c with
  | none => simp [isLst] at h
  | some c =>
    cases c with
    | lst es => simp only [isLst] at h; rw [eq_of_beqL es ds h]
    | _ => simp [isLst] at h
inductive R (α : Type) where
  | ok (a : α) (st : Sto)
  | exc (c : Nat) (ds : List D) (en : En) (st : Sto)
  | bad
def R.bind {α β : Type} (r : R α) (f : α → Sto → R β) : R β := match r with
  | .ok a st => f a st
  | .exc c ds en st => .exc c ds en st
  | .bad => .bad
@[simp] theorem bind_ok {α β : Type} (a : α) (st : Sto) (f : α → Sto → R β) : (R.ok a st).bind f = f a st := rfl
@[simp] theorem bind_exc {α β : Type} (c : Nat) (ds : List D) (en : En) (st : Sto) (f : α → Sto → R β) : (R.exc c ds en st).bind f = .exc c ds en st := rfl
@[simp] theorem bind_bad {α β : Type} (f : α → Sto → R β) : (R.bad : R α).bind f = .bad := rfl
inductive Fl where | nx | bk | ct | rt (d : D)
abbrev XE := En → Sto → R D
abbrev XT := En → Sto → R Bool
abbrev XA := En → Sto → R (List D)
abbrev XS := En → Sto → R (Fl × En)
inductive RF where
  | ok (r : D) (ms : List D)
  | exc (c : Nat) (ds : List D) (ms : List D)
  | bad
mutual
def imp : D → Nat → D × List Cell
  | .tup ds, n => if nocL ds then (.tup ds, []) else let p := impL ds n; (.tup p.1, p.2)
  | .lst .own ds, n => if nocL ds then (.cell n, [.lst ds]) else let p := impL ds n; (.cell (n + p.2.length), p.2 ++ [.lst p.1])
  | .dk .own ks ds, n => if nocL ds then (.cell n, [.dk ks ds]) else let p := impL ds n; (.cell (n + p.2.length), p.2 ++ [.dk ks p.1])
  | .dt .own ks ds, n => if nocL ds then (.cell n, [.dt ks ds]) else let p := impL ds n; (.cell (n + p.2.length), p.2 ++ [.dt ks p.1])
  | .obj .own c ds, n => if nocL ds then (.cell n, [.obj c ds]) else let p := impL ds n; (.cell (n + p.2.length), p.2 ++ [.obj c p.1])
  | d, _ => (d, [])
def impL : List D → Nat → List D × List Cell
  | [], _ => ([], [])
  | d :: ds, n => let p := imp d n; let q := impL ds (n + p.2.length); (p.1 :: q.1, p.2 ++ q.2)
end
def mapO (f : D → Option (D × List Nat)) : List D → Option (List D × List Nat)
  | [] => some ([], [])
  | d :: r => match f d, mapO f r with
    | some p, some q => some (p.1 :: q.1, p.2 ++ q.2)
    | _, _ => none
def takeL (ok : D → Bool) (f : D → Option (D × List Nat)) (ds : List D) : Option (List D × List Nat) := if ds.all ok then some (ds, []) else mapO f ds
def take (ok : D → Bool) (st : Sto) : Nat → D → Option (D × List Nat)
  | 0, d => if ok d then some (d, []) else none
  | n + 1, d => if ok d then some (d, []) else match d with
    | .tup ds => (takeL ok (take ok st n) ds).map fun p => (.tup p.1, p.2)
    | .cell i => match st[i]? with
      | some (.lst ds) => (takeL ok (take ok st n) ds).map fun p => (.lst .own p.1, p.2 ++ [i])
      | some (.dk ks ds) => (takeL ok (take ok st n) ds).map fun p => (.dk .own ks p.1, p.2 ++ [i])
      | some (.dt ks ds) => (takeL ok (take ok st n) ds).map fun p => (.dt .own ks p.1, p.2 ++ [i])
      | some (.obj c ds) => (takeL ok (take ok st n) ds).map fun p => (.obj .own c p.1, p.2 ++ [i])
      | _ => none
    | _ => none
def mapS (f : D → Option D) : List D → Option (List D)
  | [] => some []
  | d :: r => match f d, mapS f r with
    | some p, some q => some (p :: q)
    | _, _ => none
def snapL (f : D → Option D) (ds : List D) : Option (List D) := if ds.all D.noc then some ds else mapS f ds
def snap (st : Sto) : Nat → D → Option D
  | 0, d => if d.noc then some d else none
  | n + 1, d => if d.noc then some d else match d with
    | .tup ds => (snapL (snap st n) ds).map .tup
    | .cell i => match st[i]? with
      | some (.lst ds) => (snapL (snap st n) ds).map (.lst .loan)
      | some (.dk ks ds) => (snapL (snap st n) ds).map (.dk .loan ks)
      | some (.dt ks ds) => (snapL (snap st n) ds).map (.dt .loan ks)
      | some (.obj c ds) => (snapL (snap st n) ds).map (.obj .loan c)
      | _ => none
    | _ => none
def goneAt : List Nat → Sto → Sto
  | [], st => st
  | j :: js, st => goneAt js (st.set j .gone)
structure GS where
  K : PySem.W.Frag
  cls : Nat → Addr
  flds : Nat → List Str
  exc : Nat → Addr
structure Gh where
  F : Hp
  L : Hp
  as : List Addr
def hp (g : Gh) : Mk → Hp
  | .frz => g.F
  | .loan => g.L
  | _ => fun _ => none
def lstAt (G : GS) (g : Gh) (m : Mk) (a : Addr) (vs : List V) : Prop := match m with
  | .frz => g.F a = some (.lst vs)
  | .loan => g.L a = some (.lst vs)
  | .ro => SqL G.K g.F a vs
  | .own => False
def hpD (g : Gh) (m : Mk) (a : Addr) (u : HO) : Prop := match m with
  | .frz => ∃ o, g.F a = some (.frz o u)
  | .loan => Rd g.L a u
  | _ => False
mutual
def Rep (G : GS) (g : Gh) : D → V → Prop
  | .non, v => v = .non
  | .bl b, v => v = .bl b
  | .int i, v => v = .int i
  | .str x, v => v = .str x
  | .tup ds, v => ∃ a vs, v = .ref a ∧ SqT G.K g.F a vs ∧ RepL G g ds vs
  | .lst m ds, v => ∃ a vs, v = .ref a ∧ lstAt G g m a vs ∧ RepL G g ds vs
  | .dk m ks us, v => ∃ a vs, v = .ref a ∧ hpD g m a (.dK (ks.zip vs)) ∧ ks.length = vs.length ∧ RepL G g us vs
  | .dt m ks us, v => ∃ a vs, v = .ref a ∧ hpD g m a (.dT (ks.zip vs)) ∧ ks.length = vs.length ∧ RepL G g us vs
  | .obj m c fs, v => ∃ a dx vs, v = .ref a ∧ hp g m a = some (.ins (G.cls c) dx ((G.flds c).zip vs)) ∧ vs.length ≤ (G.flds c).length ∧ RepL G g fs vs
  | .cell i, v => ∃ a, g.as[i]? = some a ∧ v = .ref a
def RepL (G : GS) (g : Gh) : List D → List V → Prop
  | [], vs => vs = []
  | d :: ds, vs => ∃ v r, vs = v :: r ∧ Rep G g d v ∧ RepL G g ds r
end
end Px
namespace Px
open PySem L2
structure Le (g g' : Gh) : Prop where
  F : Same g.F g'.F
  L : g'.L = g.L
  as : ∀ (i : Nat) (a : Addr), g.as[i]? = some a → g'.as[i]? = some a
  nf : ∀ a o, g'.F a = some o → g.F a = some o ∨ (g.L a = none ∨ ∃ xs, o = .tup xs ∧ g.L a = some (.tup xs))
theorem Le.refl (g : Gh) : Le g g := ⟨Same.refl _, rfl, fun _ _ h => h, fun _ _ h => .inl h⟩
theorem Le.trans {g h k : Gh} (a : Le g h) (b : Le h k) : Le g k :=
  ⟨a.F.trans b.F, b.L.trans a.L, fun i x q => b.as i x (a.as i x q), fun x o q => by
    rcases b.nf x o q with z | z
    · exact a.nf x o z
    · rw [a.L] at z; exact .inr z⟩
theorem rd_same {H H' : Hp} {a : Addr} {u : HO} (s : Same H H') (h : Rd H a u) : Rd H' a u := by
  rcases h with h | ⟨o, h⟩
  · exact .inl (s _ _ h)
  · exact .inr ⟨o, s _ _ h⟩
theorem seqL_same {K : PySem.W.Frag} {H H' : Hp} {a : Addr} {xs : List V} (e : Same H H') (h : SqL K H a xs) : SqL K H' a xs := e.seq h
theorem seqT_same {K : PySem.W.Frag} {H H' : Hp} {a : Addr} {xs : List V} (e : Same H H') (h : SqT K H a xs) : SqT K H' a xs := by
  rcases h with h | h
  · exact .inl (rd_same e h)
  · exact .inr h
theorem lstAt_mono {G : GS} {g g' : Gh} {m : Mk} {a : Addr} {vs : List V} (hF : Same g.F g'.F) (hL : Same g.L g'.L) (h : lstAt G g m a vs) : lstAt G g' m a vs := by
  cases m with
  | frz => exact hF _ _ h
  | loan => exact hL _ _ h
  | ro => exact seqL_same hF h
  | own => exact h
theorem hp_mono {g g' : Gh} {m : Mk} {a : Addr} {o : HO} (hF : Same g.F g'.F) (hL : Same g.L g'.L) (h : hp g m a = some o) : hp g' m a = some o := by
  cases m with
  | frz => exact hF _ _ h
  | loan => exact hL _ _ h
  | ro => exact h
  | own => exact h
theorem hpD_mono {g g' : Gh} {m : Mk} {a : Addr} {u : HO} (hF : Same g.F g'.F) (hL : Same g.L g'.L) (h : hpD g m a u) : hpD g' m a u := by
  cases m with
  | frz => obtain ⟨o, e⟩ := h; exact ⟨o, hF _ _ e⟩
  | loan => exact rd_same hL h
  | ro => exact h
  | own => exact h
section
variable {G : GS} {g g' : Gh}
mutual
theorem Rep.mono0 (hF : Same g.F g'.F) (hL : Same g.L g'.L) (ha : ∀ (i : Nat) (a : Addr), g.as[i]? = some a → g'.as[i]? = some a) : ∀ (d : D) (v : V), Rep G g d v → Rep G g' d v
  | .non, _, h => h
  | .bl _, _, h => h
  | .int _, _, h => h
  | .str _, _, h => h
  | .tup ds, v, ⟨a, vs, e, q, r⟩ => ⟨a, vs, e, seqT_same hF q, RepL.mono0 hF hL ha ds vs r⟩
  | .lst m ds, v, ⟨a, vs, e, q, r⟩ => ⟨a, vs, e, lstAt_mono hF hL q, RepL.mono0 hF hL ha ds vs r⟩
  | .dk m ks ds, v, ⟨a, vs, e, q, l, r⟩ => ⟨a, vs, e, hpD_mono hF hL q, l, RepL.mono0 hF hL ha ds vs r⟩
  | .dt m ks ds, v, ⟨a, vs, e, q, l, r⟩ => ⟨a, vs, e, hpD_mono hF hL q, l, RepL.mono0 hF hL ha ds vs r⟩
  | .obj m c ds, v, ⟨a, dx, vs, e, q, l, r⟩ => ⟨a, dx, vs, e, hp_mono hF hL q, l, RepL.mono0 hF hL ha ds vs r⟩
  | .cell i, v, ⟨a, q, e⟩ => ⟨a, ha _ _ q, e⟩
theorem RepL.mono0 (hF : Same g.F g'.F) (hL : Same g.L g'.L) (ha : ∀ (i : Nat) (a : Addr), g.as[i]? = some a → g'.as[i]? = some a) : ∀ (ds : List D) (vs : List V), RepL G g ds vs → RepL G g' ds vs
  | [], _, h => h
  | d :: ds, vs, ⟨v, r, e, p, q⟩ => ⟨v, r, e, Rep.mono0 hF hL ha d v p, RepL.mono0 hF hL ha ds r q⟩
end
theorem Rep.mono {d : D} {v : V} (l : Le g g') (h : Rep G g d v) : Rep G g' d v := Rep.mono0 l.F (by rw [l.L]; exact Same.refl _) l.as d v h
theorem RepL.mono {d : List D} {v : List V} (l : Le g g') (h : RepL G g d v) : RepL G g' d v := RepL.mono0 l.F (by rw [l.L]; exact Same.refl _) l.as d v h
mutual
theorem Rep.noc (hF : Same g.F g'.F) (hL : Same g.L g'.L) : ∀ (d : D) (v : V), d.noc = true → Rep G g d v → Rep G g' d v
  | .non, _, _, h => h
  | .bl _, _, _, h => h
  | .int _, _, _, h => h
  | .str _, _, _, h => h
  | .tup ds, v, n, ⟨a, vs, e, q, r⟩ => ⟨a, vs, e, seqT_same hF q, RepL.noc hF hL ds vs (by simpa [D.noc] using n) r⟩
  | .lst m ds, v, n, ⟨a, vs, e, q, r⟩ => ⟨a, vs, e, lstAt_mono hF hL q, RepL.noc hF hL ds vs (by simp [D.noc] at n; exact n.2) r⟩
  | .dk m ks ds, v, n, ⟨a, vs, e, q, l, r⟩ => ⟨a, vs, e, hpD_mono hF hL q, l, RepL.noc hF hL ds vs (by simp [D.noc] at n; exact n.2) r⟩
  | .dt m ks ds, v, n, ⟨a, vs, e, q, l, r⟩ => ⟨a, vs, e, hpD_mono hF hL q, l, RepL.noc hF hL ds vs (by simp [D.noc] at n; exact n.2) r⟩
  | .obj m c ds, v, n, ⟨a, dx, vs, e, q, l, r⟩ => ⟨a, dx, vs, e, hp_mono hF hL q, l, RepL.noc hF hL ds vs (by simp [D.noc] at n; exact n.2) r⟩
  | .cell i, v, n, _ => by simp [D.noc] at n
theorem RepL.noc (hF : Same g.F g'.F) (hL : Same g.L g'.L) : ∀ (ds : List D) (vs : List V), nocL ds = true → RepL G g ds vs → RepL G g' ds vs
  | [], _, _, h => h
  | d :: ds, vs, n, ⟨v, r, e, p, q⟩ => by
    simp [nocL] at n
    exact ⟨v, r, e, Rep.noc hF hL d v n.1 p, RepL.noc hF hL ds r n.2 q⟩
end
theorem plm {m : Mk} {b : Bool} (h : ((m == Mk.frz || m == Mk.ro) && b) = true) : (m = .frz ∨ m = .ro) ∧ b = true := by
  cases m <;> simp_all
mutual
theorem Rep.pl (hF : Same g.F g'.F) : ∀ (d : D) (v : V), d.pl = true → Rep G g d v → Rep G g' d v
  | .non, _, _, h => h
  | .bl _, _, _, h => h
  | .int _, _, _, h => h
  | .str _, _, _, h => h
  | .tup ds, v, n, ⟨a, vs, e, q, r⟩ => ⟨a, vs, e, seqT_same hF q, RepL.pl hF ds vs (by simpa [D.pl] using n) r⟩
  | .lst m ds, v, n, ⟨a, vs, e, q, r⟩ => ⟨a, vs, e, by
      rcases (plm (by simpa [D.pl] using n)).1 with rfl | rfl
      · exact hF _ _ q
      · exact seqL_same hF q, RepL.pl hF ds vs (plm (by simpa [D.pl] using n)).2 r⟩
  | .dk m ks ds, v, n, ⟨a, vs, e, q, l, r⟩ => ⟨a, vs, e, by
      rcases (plm (by simpa [D.pl] using n)).1 with rfl | rfl
      · obtain ⟨o, e⟩ := q; exact ⟨o, hF _ _ e⟩
      · exact q, l, RepL.pl hF ds vs (plm (by simpa [D.pl] using n)).2 r⟩
  | .dt m ks ds, v, n, ⟨a, vs, e, q, l, r⟩ => ⟨a, vs, e, by
      rcases (plm (by simpa [D.pl] using n)).1 with rfl | rfl
      · obtain ⟨o, e⟩ := q; exact ⟨o, hF _ _ e⟩
      · exact q, l, RepL.pl hF ds vs (plm (by simpa [D.pl] using n)).2 r⟩
  | .obj m c ds, v, n, ⟨a, dx, vs, e, q, l, r⟩ => ⟨a, dx, vs, e, by
      rcases (plm (by simpa [D.pl] using n)).1 with rfl | rfl
      · exact hF _ _ q
      · exact q, l, RepL.pl hF ds vs (plm (by simpa [D.pl] using n)).2 r⟩
  | .cell i, v, n, _ => by simp [D.pl] at n
theorem RepL.pl (hF : Same g.F g'.F) : ∀ (ds : List D) (vs : List V), plL ds = true → RepL G g ds vs → RepL G g' ds vs
  | [], _, _, h => h
  | d :: ds, vs, n, ⟨v, r, e, p, q⟩ => by
    simp [plL] at n
    exact ⟨v, r, e, Rep.pl hF d v n.1 p, RepL.pl hF ds r n.2 q⟩
end
end
mutual
theorem noc_of_pl : ∀ d : D, d.pl = true → d.noc = true
  | .non, _ => rfl | .bl _, _ => rfl | .int _, _ => rfl | .str _, _ => rfl
  | .tup ds, h => by simp only [D.noc]; exact nocL_of_plL ds (by simpa [D.pl] using h)
  | .lst m ds, h => by
    have q := plm (by simpa [D.pl] using h)
    simp only [D.noc]
    rw [nocL_of_plL ds q.2]
    rcases q.1 with rfl | rfl <;> rfl
  | .dk m _ ds, h => by
    have q := plm (by simpa [D.pl] using h)
    simp only [D.noc]
    rw [nocL_of_plL ds q.2]
    rcases q.1 with rfl | rfl <;> rfl
  | .dt m _ ds, h => by
    have q := plm (by simpa [D.pl] using h)
    simp only [D.noc]
    rw [nocL_of_plL ds q.2]
    rcases q.1 with rfl | rfl <;> rfl
  | .obj m _ ds, h => by
    have q := plm (by simpa [D.pl] using h)
    simp only [D.noc]
    rw [nocL_of_plL ds q.2]
    rcases q.1 with rfl | rfl <;> rfl
  | .cell _, h => by simp [D.pl] at h
theorem nocL_of_plL : ∀ ds : List D, plL ds = true → nocL ds = true
  | [], _ => rfl
  | d :: ds, h => by
    simp [plL] at h
    simp [nocL, noc_of_pl d h.1, nocL_of_plL ds h.2]
end
theorem all_pl : ∀ ds : List D, ds.all D.pl = plL ds
  | [] => rfl
  | d :: ds => by simp [plL, all_pl ds]
theorem all_noc : ∀ ds : List D, ds.all D.noc = nocL ds
  | [] => rfl
  | d :: ds => by simp [nocL, all_noc ds]
section
variable {G : GS} {g : Gh}
theorem RepL.length : ∀ {ds : List D} {vs : List V}, RepL G g ds vs → ds.length = vs.length
  | [], vs, h => by cases h; rfl
  | d :: ds, vs, ⟨v, r, e, _, q⟩ => by subst e; simp [RepL.length q]
theorem RepL.get : ∀ {ds : List D} {vs : List V} {i : Nat} {d : D}, RepL G g ds vs → ds[i]? = some d → ∃ v, vs[i]? = some v ∧ Rep G g d v
  | [], _, _, _, _, h => by simp at h
  | d :: ds, vs, 0, d', ⟨v, r, e, p, _⟩, h => by subst e; simp at h; subst h; exact ⟨v, rfl, p⟩
  | d :: ds, vs, i + 1, d', ⟨v, r, e, _, q⟩, h => by subst e; simpa using RepL.get (i := i) (d := d') q (by simpa using h)
theorem RepL.append : ∀ {ds es : List D} {vs us : List V}, RepL G g ds vs → RepL G g es us → RepL G g (ds ++ es) (vs ++ us)
  | [], _, _, _, h, q => by cases h; exact q
  | d :: ds, es, vs, us, ⟨v, r, e, p, q⟩, h => by subst e; exact ⟨v, r ++ us, rfl, p, q.append h⟩
theorem RepL.one {d : D} {v : V} (h : Rep G g d v) : RepL G g [d] [v] := ⟨v, [], rfl, h, rfl⟩
theorem RepL.set : ∀ {ds : List D} {vs : List V} {d : D} {v : V} (i : Nat), RepL G g ds vs → Rep G g d v → RepL G g (ds.set i d) (vs.set i v)
  | [], _, _, _, _, h, _ => by cases h; rfl
  | _ :: _, _, _, _, 0, ⟨v, r, e, _, q⟩, h => by subst e; exact ⟨_, r, rfl, h, q⟩
  | _ :: _, _, _, _, i + 1, ⟨v, r, e, p, q⟩, h => by subst e; exact ⟨v, _, rfl, p, RepL.set i q h⟩
theorem RepL.take : ∀ {ds : List D} {vs : List V} (n : Nat), RepL G g ds vs → RepL G g (ds.take n) (vs.take n)
  | _, _, 0, _ => by simp [RepL]
  | [], _, _ + 1, h => by cases h; simp [RepL]
  | _ :: _, _, n + 1, ⟨v, r, e, p, q⟩ => by subst e; exact ⟨v, r.take n, rfl, p, q.take n⟩
theorem RepL.drop : ∀ {ds : List D} {vs : List V} (n : Nat), RepL G g ds vs → RepL G g (ds.drop n) (vs.drop n)
  | _, _, 0, h => by simpa using h
  | [], _, _ + 1, h => by cases h; simp [RepL]
  | _ :: _, _, n + 1, ⟨v, r, e, p, q⟩ => by subst e; simpa using q.drop n
theorem RepL.reverse : ∀ {ds : List D} {vs : List V}, RepL G g ds vs → RepL G g ds.reverse vs.reverse
  | [], _, h => by cases h; simp [RepL]
  | d :: ds, _, ⟨v, r, e, p, q⟩ => by
    subst e
    rw [List.reverse_cons, List.reverse_cons]
    exact q.reverse.append (.one p)
theorem RepL.eraseIdx : ∀ {ds : List D} {vs : List V} (n : Nat), RepL G g ds vs → RepL G g (ds.eraseIdx n) (vs.eraseIdx n)
  | [], _, _, h => by cases h; simp [RepL]
  | _ :: _, _, 0, ⟨v, r, e, p, q⟩ => by subst e; simpa using q
  | _ :: _, _, n + 1, ⟨v, r, e, p, q⟩ => by subst e; exact ⟨v, _, rfl, p, q.eraseIdx n⟩
theorem RepL.replicate {d : D} {v : V} (h : Rep G g d v) : ∀ n : Nat, RepL G g (List.replicate n d) (List.replicate n v)
  | 0 => rfl
  | n + 1 => ⟨v, List.replicate n v, rfl, h, RepL.replicate h n⟩
theorem RepL.ints : ∀ (ns : List Int), RepL G g (ns.map D.int) (ns.map V.int)
  | [] => rfl
  | n :: ns => ⟨_, _, rfl, rfl, RepL.ints ns⟩
end
def CO (G : GS) (g : Gh) : Cell → HO → Prop
  | .lst ds, o => ∃ vs, o = .lst vs ∧ RepL G g ds vs
  | .dk ks us, o => ∃ vs, o = .dK (ks.zip vs) ∧ ks.length = vs.length ∧ RepL G g us vs
  | .dt ks us, o => ∃ vs, o = .dT (ks.zip vs) ∧ ks.length = vs.length ∧ RepL G g us vs
  | .obj c fs, o => ∃ dx vs, o = .ins (G.cls c) dx ((G.flds c).zip vs) ∧ vs.length ≤ (G.flds c).length ∧ RepL G g fs vs
  | .gone, _ => False
theorem co_tup {G : GS} {g : Gh} {c : Cell} {xs : List V} (h : CO G g c (.tup xs)) : False := by
  cases c with
  | lst ds => obtain ⟨vs, e, _⟩ := h; cases e
  | dk ks us => obtain ⟨vs, e, _⟩ := h; cases e
  | dt ks us => obtain ⟨vs, e, _⟩ := h; cases e
  | obj k fs => obtain ⟨dx, vs, e, _⟩ := h; cases e
  | gone => exact h
theorem CO.mono {G : GS} {g g' : Gh} {c : Cell} {o : HO} (l : Le g g') (h : CO G g c o) : CO G g' c o := by
  cases c with
  | lst ds => obtain ⟨vs, e, r⟩ := h; exact ⟨vs, e, r.mono l⟩
  | dk ks us => obtain ⟨vs, e, n, r⟩ := h; exact ⟨vs, e, n, r.mono l⟩
  | dt ks us => obtain ⟨vs, e, n, r⟩ := h; exact ⟨vs, e, n, r.mono l⟩
  | obj c fs => obtain ⟨dx, vs, e, n, r⟩ := h; exact ⟨dx, vs, e, n, r.mono l⟩
  | gone => exact h
def NoD (F : Hp) : Prop := ∀ a kvs, F a ≠ some (.dK kvs)
structure Rel (G : GS) (g : Gh) (en : En) (st : Sto) (σ : St) (H : Hp) : Prop where
  sF : Same g.F H
  sL : Same g.L H
  el : en.length = σ.length
  en : ∀ (i : Nat) (d : D), en[i]? = some (some d) → ∃ v, σ[i]? = some (some v) ∧ Rep G g d v
  cell : ∀ (i : Nat) (c : Cell), st[i]? = some c → c ≠ .gone → ∃ a o, g.as[i]? = some a ∧ H a = some o ∧ CO G g c o ∧ g.F a = none ∧ g.L a = none
  len : g.as.length = st.length
  inj : ∀ (i j : Nat) (c c' : Cell) (a : Addr), st[i]? = some c → st[j]? = some c' → c ≠ .gone → c' ≠ .gone → g.as[i]? = some a → g.as[j]? = some a → i = j
  nd : NoD g.F
section
variable {G : GS} {g : Gh} {en : En} {st : Sto} {σ : St} {H : Hp}
theorem Rel.tup (r : Rel G g en st σ H) {p : Addr} {ds : List D} {vs : List V} (hp : H p = none) (hr : RepL G g ds vs) :
    Le g { g with F := upd g.F p (.tup vs) } ∧ Rel G { g with F := upd g.F p (.tup vs) } en st σ (upd H p (.tup vs)) ∧ Rep G { g with F := upd g.F p (.tup vs) } (.tup ds) (.ref p) := by
  have fp : g.F p = none := r.sF.free hp
  have lp : g.L p = none := r.sL.free hp
  have sF : Same g.F (upd g.F p (.tup vs)) := fun b o e => by rw [upd_ne (ne_of_none e fp)]; exact e
  have l : Le g { g with F := upd g.F p (.tup vs) } := ⟨sF, rfl, fun _ _ h => h, fun a o h => by
    by_cases e : a = p
    · subst e; exact .inr (.inl lp)
    · have h' : upd g.F p (.tup vs) a = some o := h
      rw [upd_ne e] at h'; exact .inl h'⟩
  refine ⟨l, ⟨fun b o e => ?_, fun b o e => ?_, r.el, fun i d e => ?_, fun i c e n => ?_, r.len, r.inj, fun b k e => by
    have e' : upd g.F p (.tup vs) b = some (.dK k) := e
    by_cases q : b = p
    · subst q; rw [upd_same] at e'; cases e'
    · rw [upd_ne q] at e'; exact r.nd b k e'⟩, p, vs, rfl, SqT.of upd_same, hr.mono l⟩
  · have e' : upd g.F p (.tup vs) b = some o := e
    by_cases q : b = p
    · subst q; rw [upd_same] at e' ⊢; exact e'
    · rw [upd_ne q] at e' ⊢; exact r.sF _ _ e'
  · rw [upd_ne (ne_of_none e lp)]; exact r.sL _ _ e
  · obtain ⟨v, e1, e2⟩ := r.en i d e
    exact ⟨v, e1, e2.mono l⟩
  · obtain ⟨a, o, e1, e2, e3, e4, e5⟩ := r.cell i c e n
    have ne : a ≠ p := ne_of_none e2 hp
    exact ⟨a, o, e1, by rw [upd_ne ne]; exact e2, e3.mono l, by show upd g.F p _ a = none; rw [upd_ne ne]; exact e4, e5⟩
theorem Rel.new (r : Rel G g en st σ H) {p : Addr} {c : Cell} {o : HO} (hp : H p = none) (hc : CO G g c o) :
    Le g { g with as := g.as ++ [p] } ∧ Rel G { g with as := g.as ++ [p] } en (st ++ [c]) σ (upd H p o) ∧ Rep G { g with as := g.as ++ [p] } (.cell st.length) (.ref p) := by
  have fp : g.F p = none := r.sF.free hp
  have lp : g.L p = none := r.sL.free hp
  have l : Le g { g with as := g.as ++ [p] } := ⟨Same.refl _, rfl, fun i a h => by
    show (g.as ++ [p])[i]? = some a
    rw [List.getElem?_append_left (List.getElem?_eq_some_iff.mp h).1]; exact h, fun _ _ h => .inl h⟩
  have at_ : (g.as ++ [p])[st.length]? = some p := by rw [← r.len]; simp
  refine ⟨l, ⟨fun b o e => ?_, fun b o e => ?_, r.el, fun i d e => ?_, fun i c' e n => ?_, by simp [r.len], fun i j c1 c2 a e1 e2 n1 n2 a1 a2 => ?_, r.nd⟩, p, at_, rfl⟩
  · rw [upd_ne (ne_of_none e fp)]; exact r.sF _ _ e
  · rw [upd_ne (ne_of_none e lp)]; exact r.sL _ _ e
  · obtain ⟨v, e1, e2⟩ := r.en i d e
    exact ⟨v, e1, e2.mono l⟩
  · by_cases hi : i < st.length
    · rw [List.getElem?_append_left hi] at e
      obtain ⟨a, o', e1, e2, e3, e4, e5⟩ := r.cell i c' e n
      exact ⟨a, o', l.as _ _ e1, by rw [upd_ne (ne_of_none e2 hp)]; exact e2, e3.mono l, e4, e5⟩
    · have : i = st.length := by
        have := (List.getElem?_eq_some_iff.mp e).1
        simp at this; omega
      subst this
      simp at e; subst e
      exact ⟨p, o, at_, upd_same, hc.mono l, fp, lp⟩
  · have key : ∀ k ck, (st ++ [c])[k]? = some ck → ck ≠ .gone → (g.as ++ [p])[k]? = some a → (k < st.length ∧ st[k]? = some ck ∧ g.as[k]? = some a ∧ a ≠ p) ∨ (k = st.length ∧ a = p) := by
      intro k ck e n ea
      by_cases hk : k < st.length
      · rw [List.getElem?_append_left hk] at e
        rw [List.getElem?_append_left (by rw [r.len]; exact hk)] at ea
        obtain ⟨a', o', q1, q2, _⟩ := r.cell k ck e n
        rw [ea] at q1; cases q1
        exact .inl ⟨hk, e, ea, ne_of_none q2 hp⟩
      · have : k = st.length := by
          have := (List.getElem?_eq_some_iff.mp e).1
          simp at this; omega
        subst this
        rw [at_] at ea
        exact .inr ⟨rfl, (Option.some.inj ea).symm⟩
    rcases key i c1 e1 n1 a1 with ⟨h1, h2, h3, h4⟩ | ⟨h1, h2⟩ <;> rcases key j c2 e2 n2 a2 with ⟨k1, k2, k3, k4⟩ | ⟨k1, k2⟩
    · exact r.inj i j c1 c2 a h2 k2 n1 n2 h3 k3
    · exact absurd k2 h4
    · exact absurd h2 k4
    · omega
theorem Rel.put (r : Rel G g en st σ H) {i : Nat} {a : Addr} {c c' : Cell} {o : HO} (hi : st[i]? = some c) (hn : c ≠ .gone) (ha : g.as[i]? = some a) (hc : CO G g c' o) :
    Rel G g en (st.set i c') σ (upd H a o) := by
  obtain ⟨a', o', e1, e2, e3, e4, e5⟩ := r.cell i c hi hn
  rw [ha] at e1; cases e1
  have ilt : i < st.length := (List.getElem?_eq_some_iff.mp hi).1
  have sub : ∀ (j : Nat) (d : Cell), (st.set i c')[j]? = some d → d ≠ .gone → ∃ d', st[j]? = some d' ∧ d' ≠ .gone := fun j d e n => by
    by_cases q : i = j
    · subst q; exact ⟨c, hi, hn⟩
    · rw [List.getElem?_set_ne q] at e; exact ⟨d, e, n⟩
  refine ⟨fun b o e => ?_, fun b o e => ?_, r.el, r.en, fun j d e n => ?_, by simp [r.len], fun j k d1 d2 b q1 q2 n1 n2 b1 b2 => ?_, r.nd⟩
  · rw [upd_ne (ne_of_none e e4)]; exact r.sF _ _ e
  · rw [upd_ne (ne_of_none e e5)]; exact r.sL _ _ e
  · by_cases q : i = j
    · subst q
      rw [List.getElem?_set_self ilt] at e; cases e
      exact ⟨a, o, ha, upd_same, hc, e4, e5⟩
    · rw [List.getElem?_set_ne q] at e
      obtain ⟨b, u, f1, f2, f3, f4, f5⟩ := r.cell j d e n
      have nb : b ≠ a := fun z => q (r.inj i j c d a hi e hn n ha (by rw [← z]; exact f1))
      exact ⟨b, u, f1, by rw [upd_ne nb]; exact f2, f3, f4, f5⟩
  · obtain ⟨d1', q1', n1'⟩ := sub j d1 q1 n1
    obtain ⟨d2', q2', n2'⟩ := sub k d2 q2 n2
    exact r.inj j k d1' d2' b q1' q2' n1' n2' b1 b2
theorem Rel.setv (r : Rel G g en st σ H) {i : Nat} {d : D} {v : V} (h : Rep G g d v) : Rel G g (en.set i (some d)) st (σ.set i (some v)) H := by
  refine ⟨r.sF, r.sL, by simp [r.el], fun j e q => ?_, r.cell, r.len, r.inj, r.nd⟩
  by_cases hij : i = j
  · subst hij
    by_cases hl : i < en.length
    · rw [List.getElem?_set_self hl] at q
      have : e = d := by simpa using q.symm
      subst this
      exact ⟨v, List.getElem?_set_self (by rw [← r.el]; exact hl), h⟩
    · rw [List.getElem?_eq_none (by simpa using hl)] at q; cases q
  · rw [List.getElem?_set_ne hij] at q
    rw [List.getElem?_set_ne hij]
    exact r.en j e q
theorem Rel.weak (r : Rel G g en st σ H) {en' : En} (hl : en'.length = en.length) (h : ∀ (i : Nat) (d : D), en'[i]? = some (some d) → en[i]? = some (some d)) : Rel G g en' st σ H :=
  ⟨r.sF, r.sL, hl.trans r.el, fun i d e => r.en i d (h i d e), r.cell, r.len, r.inj, r.nd⟩
theorem Rel.isCell (r : Rel G g en st σ H) {i : Nat} {c : Cell} {v : V} (hi : st[i]? = some c) (hn : c ≠ .gone) (hv : Rep G g (.cell i) v) : ∃ a o, v = .ref a ∧ g.as[i]? = some a ∧ H a = some o ∧ CO G g c o := by
  obtain ⟨a, ha, e⟩ := hv
  obtain ⟨a', o, e1, e2, e3, _⟩ := r.cell i c hi hn
  rw [ha] at e1; cases e1
  exact ⟨a, o, e, ha, e2, e3⟩
end
end Px
namespace Px
open PySem PySem.Spec L2
def ExcRep (G : GS) (g : Gh) (H : Hp) (ds : List D) (d : Option Addr) : Prop := ds = [] ∧ d = none
def pX {α : Type} (G : GS) (W : WX) (g : Gh) (en : En) (σ : St) (r : R α) (K : α → Gh → Sto → Hp → Prop) : Prop := match r with
  | .ok a st => ∀ g' H', Le g g' → Rel G g' en st σ H' → K a g' st H'
  | .exc c ds en' st => ∀ g' σ' H' d, Le g g' → Rel G g' en' st σ' H' → ExcRep G g' H' ds d → W (.ref (G.exc c)) d σ' H'
  | .bad => False
theorem pX.weak {α : Type} {G : GS} {W : WX} {g g1 : Gh} {en : En} {σ : St} {r : R α} {K : α → Gh → Sto → Hp → Prop} (l : Le g g1) (h : pX G W g en σ r K) : pX G W g1 en σ r K := by
  cases r with
  | ok a st => exact fun g' H' l' R => h g' H' (l.trans l') R
  | exc c ds en' st => exact fun g' σ' H' d l' R e => h g' σ' H' d (l.trans l') R e
  | bad => exact h
theorem pX.bind {α β : Type} {G : GS} {W : WX} {g : Gh} {en : En} {σ : St} {r : R α} {f : α → Sto → R β} {K : β → Gh → Sto → Hp → Prop} (h : pX G W g en σ (r.bind f) K) :
    pX G W g en σ r fun a g1 st1 _ => pX G W g1 en σ (f a st1) K := by
  cases r with
  | ok a st => exact fun g' H' l R => pX.weak l h
  | exc c ds en' st => exact h
  | bad => exact h
theorem pX.imp {α : Type} {G : GS} {W : WX} {g : Gh} {en : En} {σ : St} {r : R α} {K K' : α → Gh → Sto → Hp → Prop} (h : pX G W g en σ r K)
    (hk : ∀ a st g' H', Le g g' → Rel G g' en st σ H' → K a g' st H' → K' a g' st H') : pX G W g en σ r K' := by
  cases r with
  | ok a st => exact fun g' H' l R => hk _ _ _ _ l R (h g' H' l R)
  | exc c ds en' st => exact h
  | bad => exact h
def tE (G : GS) (W : WX) (c : XE) : TE := fun σ H Q => ∃ g en st, Rel G g en st σ H ∧ pX G W g en σ (c en st) fun d g' _ H' => ∀ v, Rep G g' d v → Q v H'
def tT (G : GS) (W : WX) (c : XT) : TT := fun σ H Q => ∃ g en st, Rel G g en st σ H ∧ pX G W g en σ (c en st) fun b _ _ H' => Q b H'
def tA (G : GS) (W : WX) (c : XA) : TA := fun σ H Q => ∃ g en st, Rel G g en st σ H ∧ pX G W g en σ (c en st) fun ds g' _ H' => ∀ vs, RepL G g' ds vs → Q vs H'
def pS (G : GS) (W : WX) (g : Gh) (r : R (Fl × En)) (D : Ends) : Prop := match r with
  | .ok (fl, en) st => ∀ g' σ' H', Le g g' → Rel G g' en st σ' H' → (match fl with
    | .nx => D.nx σ' H'
    | .bk => D.bk σ' H'
    | .ct => D.ct σ' H'
    | .rt d => ∀ v, Rep G g' d v → D.rt v H')
  | .exc c ds en' st => ∀ g' σ' H' d, Le g g' → Rel G g' en' st σ' H' → ExcRep G g' H' ds d → W (.ref (G.exc c)) d σ' H'
  | .bad => False
theorem pS.weak {G : GS} {W : WX} {g g1 : Gh} {r : R (Fl × En)} {D : Ends} (l : Le g g1) (h : pS G W g r D) : pS G W g1 r D := by
  cases r with
  | ok a st => obtain ⟨fl, en⟩ := a; exact fun g' σ' H' l' R => h g' σ' H' (l.trans l') R
  | exc c ds en' st => exact fun g' σ' H' d l' R e => h g' σ' H' d (l.trans l') R e
  | bad => exact h
theorem pS.bind {α : Type} {G : GS} {W : WX} {g : Gh} {en : En} {σ : St} {r : R α} {f : α → Sto → R (Fl × En)} {D : Ends} (h : pS G W g (r.bind f) D) :
    pX G W g en σ r fun a g1 st1 _ => pS G W g1 (f a st1) D := by
  cases r with
  | ok a st => exact fun g' H' l R => pS.weak l h
  | exc c ds en' st => exact h
  | bad => exact h
def tS (G : GS) (W : WX) (c : XS) : TS := fun D σ H => ∃ g en st, Rel G g en st σ H ∧ pS G W g (c en st) D
structure SE (G : GS) (W : WX) (X : Cx) (e : Expr) (c : XE) : Prop where
  pe : PE X e (tE G W c)
structure SA (G : GS) (W : WX) (X : Cx) (es : List Expr) (c : XA) : Prop where
  pa : PA X es (tA G W c)
structure SB (G : GS) (W : WX) (X : Cx) (e : Expr) (c : XT) : Prop where
  pt : PT X e (tT G W c)
structure SS (G : GS) (W : WX) (X : Cx) (s : Stmt) (c : XS) : Prop where
  ps : PS X s (tS G W c)
structure SL (G : GS) (W : WX) (X : Cx) (ss : List Stmt) (c : XS) : Prop where
  ps : PSs X ss (tS G W c)
section
variable {X : Cx} {e : Expr}
theorem PE_imp {t t' : TE} (h : PE X e t) (i : ∀ σ H Q, t' σ H Q → t σ H Q) : PE X e t' := ⟨fun pins s σ H Q I w => h.run pins s σ H Q I (i _ _ _ w)⟩
theorem PT_imp {t t' : TT} (h : PT X e t) (i : ∀ σ H Q, t' σ H Q → t σ H Q) : PT X e t' := ⟨fun pins s σ H Q I w => h.run pins s σ H Q I (i _ _ _ w)⟩
theorem PW_imp {t t' : TT} (h : PW X e t) (i : ∀ σ H Q, t' σ H Q → t σ H Q) : PW X e t' := ⟨fun wh pins s σ H Q I w => h.run wh pins s σ H Q I (i _ _ _ w)⟩
theorem PA_imp {es : List Expr} {t t' : TA} (h : PA X es t) (i : ∀ σ H Q, t' σ H Q → t σ H Q) : PA X es t' := ⟨fun pos pins s σ H Q I w => h.run pos pins s σ H Q I (i _ _ _ w)⟩
theorem PS_imp {s : Stmt} {t t' : TS} (h : PS X s t) (i : ∀ D σ H, t' D σ H → t D σ H) : PS X s t' := ⟨fun pins st σ H D I w => h.run pins st σ H D I (i _ _ _ w)⟩
theorem PSs_imp {s : List Stmt} {t t' : TS} (h : PSs X s t) (i : ∀ D σ H, t' D σ H → t D σ H) : PSs X s t' := ⟨fun pins st σ H D I w => h.run pins st σ H D I (i _ _ _ w)⟩
theorem OpR_imp {f : Value → Value → Sem Value} {r r' : R2} (h : OpR X f r) (i : ∀ x y H Q, r' x y H Q → r x y H Q) : OpR X f r' := fun pins s σ H x y v u Q I rx ry w => h pins s σ H x y v u Q I rx ry (i _ _ _ _ w)
theorem UnR_imp {f : Value → Sem Value} {r r' : V → Hp → VK → Prop} (h : UnR X f r) (i : ∀ x H Q, r' x H Q → r x H Q) : UnR X f r' := fun pins s σ H x v Q I rx w => h pins s σ H x v Q I rx (i _ _ _ w)
theorem CallR_imp {f : Value} {r r' : List V → Hp → VK → Prop} (h : CallR X f r) (i : ∀ x H Q, r' x H Q → r x H Q) : CallR X f r' := fun pins s σ H x v Q I rx w => h pins s σ H x v Q I rx (i _ _ _ w)
end
def xvar (i : Nat) : XE := fun en st => match en[i]? with
  | some (some d) => .ok d st
  | _ => .bad
def xc (d : D) : XE := fun _ st => .ok d st
section
variable {G : GS} {W : WX} {X : Cx}
theorem se_var (i : Nat) {x : Str} {pos : Pos} (hN : X.N[i]? = some x := by rfl) (hv : Vis X.env.scope x := by first | exact Or.inl rfl | exact Or.inr (Or.inl rfl) | exact Or.inr (Or.inr rfl)) (hd : (x == ("__debug__" : Str)) = false := by decide)
    (hcd : (x == ("__classdict__" : Str)) = false := by decide) : SE G W X (.Name x pos) (xvar i) := by
  refine ⟨PE_imp (pe_var hN hv hd hcd) fun σ H Q ⟨g, en, st, R, h⟩ => ?_⟩
  unfold xvar at h
  cases e : en[i]? with
  | none => rw [e] at h; exact h.elim
  | some o =>
    cases o with
    | none => rw [e] at h; exact h.elim
    | some d =>
      rw [e] at h
      obtain ⟨v, q, r⟩ := R.en i d e
      exact ⟨v, q, h g H (Le.refl g) R v r⟩
theorem se_c {d : D} {v : V} {e : Expr} (h : PE X e (tC v)) (hr : ∀ g v', Rep G g d v' → v' = v := by intro _ _ h; exact h) (hr2 : ∀ g, Rep G g d v := by intro _; rfl) : SE G W X e (xc d) := by
  refine ⟨PE_imp h fun σ H Q ⟨g, en, st, R, h⟩ => ?_⟩
  exact h g H (Le.refl g) R v (hr2 g)
theorem se_int {i j pos} : SE G W X (.Constant (.int i) j pos) (xc (.int i)) := se_c pe_int
theorem se_bl {b j pos} : SE G W X (.Constant (.bool b) j pos) (xc (.bl b)) := se_c pe_bl
abbrev Op1 := D → Sto → R D
abbrev Op2 := D → D → Sto → R D
def x1 (f : Op1) (a : XE) : XE := fun en st => (a en st).bind fun x st => f x st
def x2 (f : Op2) (a b : XE) : XE := fun en st => (a en st).bind fun x st => (b en st).bind fun y st => f x y st
def rD (G : GS) (W : WX) (f : Op2) : R2 := fun v u H Q => ∃ g en st σ x y, Rel G g en st σ H ∧ Rep G g x v ∧ Rep G g y u ∧ pX G W g en σ (f x y st) fun d g' _ H' => ∀ v, Rep G g' d v → Q v H'
def rD1 (G : GS) (W : WX) (f : Op1) : V → Hp → VK → Prop := fun v H Q => ∃ g en st σ x, Rel G g en st σ H ∧ Rep G g x v ∧ pX G W g en σ (f x st) fun d g' _ H' => ∀ v, Rep G g' d v → Q v H'
theorem tOp_of {f : Op2} {a b : XE} {σ : St} {H : Hp} {Q : VK} (h : tE G W (x2 f a b) σ H Q) : tOp (rD G W f) (tE G W a) (tE G W b) σ H Q := by
  obtain ⟨g, en, st, R, h⟩ := h
  refine ⟨g, en, st, R, (pX.bind h).imp fun x st1 g1 H1 l1 R1 h1 v rv => ?_⟩
  refine ⟨g1, en, st1, R1, (pX.bind h1).imp fun y st2 g2 H2 l2 R2 h2 u ru => ?_⟩
  exact ⟨g2, en, st2, σ, x, y, R2, rv.mono l2, ru, h2⟩
theorem tUn_of {f : Op1} {a : XE} {σ : St} {H : Hp} {Q : VK} (h : tE G W (x1 f a) σ H Q) : tUn (rD1 G W f) (tE G W a) σ H Q := by
  obtain ⟨g, en, st, R, h⟩ := h
  refine ⟨g, en, st, R, (pX.bind h).imp fun x st1 g1 H1 l1 R1 h1 v rv => ?_⟩
  exact ⟨g1, en, st1, σ, x, R1, rv, h1⟩
theorem se_op {op : Operator} {f : Op2} {a b : Expr} {ca cb : XE} {pos : Pos} (ho : OpR X (binaryOp op) (rD G W f)) (ha : SE G W X a ca) (hb : SE G W X b cb) : SE G W X (.BinOp a op b pos) (x2 f ca cb) :=
  ⟨PE_imp (pe_op ho ha.pe hb.pe) fun _ _ _ h => tOp_of h⟩
theorem se_un {op : UnaryOp} {f : Op1} {a : Expr} {ca : XE} {pos : Pos} (ho : UnR X (unaryOp op) (rD1 G W f)) (ha : SE G W X a ca) : SE G W X (.UnaryOp op a pos) (x1 f ca) :=
  ⟨PE_imp (pe_un ho ha.pe) fun _ _ _ h => tUn_of h⟩
def oI (C : Int → Int → Bool) (k : Int → Int → D) : Op2 := fun x y st => match x, y with
  | .int i, .int j => if C i j then .ok (k i j) st else .bad
  | _, _ => .bad
def oI0 (k : Int → Int → D) : Op2 := fun x y st => match x, y with
  | .int i, .int j => .ok (k i j) st
  | _, _ => .bad
theorem rI_of {C : Int → Int → Bool} {C' : Int → Int → Prop} {k : Int → Int → D} {kv : Int → Int → V} (hC : ∀ i j, C i j = true → C' i j) (hk : ∀ g i j, Rep G g (k i j) (kv i j)) {v u : V} {H : Hp} {Q : VK} (h : rD G W (oI C k) v u H Q) : rI C' kv v u H Q := by
  obtain ⟨g, en, st, σ, x, y, R, rx, ry, h⟩ := h
  unfold oI at h
  cases x <;> try exact h.elim
  rename_i i
  cases y <;> try exact h.elim
  rename_i j
  simp only at h
  by_cases c : C i j = true
  · rw [if_pos c] at h
    exact ⟨i, j, rx, ry, hC i j c, h g H (Le.refl g) R _ (hk g i j)⟩
  · rw [if_neg c] at h; exact h.elim
theorem rI0_of {k : Int → Int → D} {kv : Int → Int → V} (hk : ∀ g i j, Rep G g (k i j) (kv i j)) {v u : V} {H : Hp} {Q : VK} (h : rD G W (oI0 k) v u H Q) : rI0 kv v u H Q := by
  obtain ⟨g, en, st, σ, x, y, R, rx, ry, h⟩ := h
  unfold oI0 at h
  cases x <;> try exact h.elim
  rename_i i
  cases y <;> try exact h.elim
  rename_i j
  exact ⟨i, j, rx, ry, h g H (Le.refl g) R _ (hk g i j)⟩
def absLe (i : Int) (n : Nat) : Bool := Nat.ble i.natAbs n
theorem absLe_iff {i : Int} {n : Nat} : absLe i n = true ↔ i.natAbs ≤ n := ⟨Nat.le_of_ble_eq_true, Nat.ble_eq_true_of_le⟩
def small64 (i : Int) : Bool := absLe i 18446744073709551615
def okMul (i j : Int) : Bool := small64 i || small64 j || decide (i.natAbs.log2 + j.natAbs.log2 < 100000000)
theorem okMul_ok {i j : Int} (h : okMul i j = true) : IntMulOk i j := by
  unfold okMul small64 at h
  simp only [Bool.or_eq_true, absLe_iff, decide_eq_true_eq] at h
  rcases h with (h | h) | h
  · exact CMul.ok (.inl (by omega))
  · exact CMul.ok (.inr (by omega))
  · have b : ∀ x : Int, Builtin.Int.intBits x ≤ x.natAbs.log2 + 1 := fun x => by
      unfold Builtin.Int.intBits
      split <;> omega
    have h1 := b i
    have h2 := b j
    have e : bitsLine = 134217728 := by decide
    unfold IntMulOk
    intro z
    rw [Bool.and_eq_true] at z
    have z2 := z.2
    unfold Builtin.Int.intTooBig at z2
    have z3 := of_decide_eq_true z2
    rw [e] at z3
    omega
theorem op_mulX : OpR X (binaryOp .Mult) (rI (fun i j => okMul i j = true) fun i j => .int (i * j)) := opI fun _ _ _ _ _ _ _ hc q => PyProof.Rows.mul_int q (okMul_ok hc)
def okDiv (_ j : Int) : Bool := decide (0 < j) && decide (j.natAbs.log2 < 9000)
def okMod (_ j : Int) : Bool := decide (0 < j)
def okShl (i j : Int) : Bool := decide (0 ≤ j) && absLe j 1000000 && absLe i 18446744073709551615
def okShr (_ j : Int) : Bool := decide (0 ≤ j)
def iSub : Op2 := oI0 fun i j => .int (i - j)
def iDiv : Op2 := oI okDiv fun i j => .int (i / j)
def iMod : Op2 := oI okMod fun i j => .int (i % j)
def iShl : Op2 := oI okShl fun i j => .int (i * 2 ^ j.toNat)
def iShr : Op2 := oI okShr fun i j => .int (i / 2 ^ j.toNat)
def iAnd : Op2 := oI0 fun i j => .int (Builtin.bitAnd i j)
def iOr : Op2 := oI0 fun i j => .int (Builtin.bitOr i j)
def iXor : Op2 := oI0 fun i j => .int (Builtin.bitXor i j)
theorem ho_sub : OpR X (binaryOp .Sub) (rD G W iSub) := OpR_imp op_sub fun _ _ _ _ h => rI0_of (k := fun i j => .int (i - j)) (kv := fun i j => .int (i - j)) (fun _ _ _ => rfl) h
theorem ho_div : OpR X (binaryOp .FloorDiv) (rD G W iDiv) := OpR_imp op_fdivW fun _ _ _ _ h => rI_of (C := okDiv) (k := fun i j => .int (i / j)) (kv := fun i j => .int (i / j)) (fun i j c => by
  unfold okDiv at c
  simp only [Bool.and_eq_true, decide_eq_true_eq] at c
  exact c) (fun _ _ _ => rfl) h
theorem ho_mod : OpR X (binaryOp .Mod) (rD G W iMod) := OpR_imp op_mod fun _ _ _ _ h => rI_of (C := okMod) (k := fun i j => .int (i % j)) (kv := fun i j => .int (i % j)) (fun i j c => of_decide_eq_true c) (fun _ _ _ => rfl) h
def oNeg : Op1 := fun x st => match x with
  | .int i => .ok (.int (-i)) st
  | _ => .bad
theorem ho_neg : UnR X (unaryOp .USub) (rD1 G W oNeg) := UnR_imp un_neg fun v H Q ⟨g, en, st, σ, x, R, rx, h⟩ => by
  unfold oNeg at h
  cases x <;> try exact h.elim
  rename_i i
  exact ⟨i, rx, h g H (Le.refl g) R _ rfl⟩
def lstOf (st : Sto) : D → Option (List D)
  | .cell i => match st[i]? with
    | some (.lst ds) => some ds
    | _ => none
  | .lst .frz ds => some ds
  | .lst .loan ds => some ds
  | _ => none
def seqOf (st : Sto) : D → Option (List D)
  | .lst .ro ds => some ds
  | d => lstOf st d
theorem lstOf_H {g : Gh} {en : En} {st : Sto} {σ : St} {H : Hp} {d : D} {v : V} {ds : List D} (R : Rel G g en st σ H) (r : Rep G g d v) (h : lstOf st d = some ds) : ∃ a vs, v = .ref a ∧ H a = some (.lst vs) ∧ RepL G g ds vs := by
  unfold lstOf at h
  cases d with
  | cell i =>
    simp only at h
    cases e : st[i]? with
    | none => rw [e] at h; cases h
    | some c =>
      rw [e] at h
      cases c <;> try cases h
      obtain ⟨a, o, e1, _, e3, vs, e4, e5⟩ := R.isCell e (by intro z; cases z) r
      exact ⟨a, vs, e1, by rw [e3, e4], e5⟩
  | lst m es =>
    obtain ⟨a, vs, e1, e2, e3⟩ := r
    cases m <;> simp only at h
    · cases h; exact ⟨a, vs, e1, R.sF _ _ e2, e3⟩
    · cases h; exact ⟨a, vs, e1, R.sL _ _ e2, e3⟩
    · cases h
    · cases h
  | _ => cases h
theorem seqOf_H {g : Gh} {en : En} {st : Sto} {σ : St} {H : Hp} {d : D} {v : V} {ds : List D} (R : Rel G g en st σ H) (r : Rep G g d v) (h : seqOf st d = some ds) : ∃ a vs, v = .ref a ∧ SqL G.K H a vs ∧ RepL G g ds vs := by
  unfold seqOf at h
  split at h
  · cases h
    obtain ⟨a, vs, e1, e2, e3⟩ := r
    exact ⟨a, vs, e1, seqL_same R.sF e2, e3⟩
  · obtain ⟨a, vs, e1, e2, e3⟩ := lstOf_H R r h
    exact ⟨a, vs, e1, SqL.of e2, e3⟩
theorem tup_H {g : Gh} {en : En} {st : Sto} {σ : St} {H : Hp} {v : V} {ds : List D} (R : Rel G g en st σ H) (r : Rep G g (.tup ds) v) : ∃ a vs, v = .ref a ∧ SqT G.K H a vs ∧ RepL G g ds vs := by
  obtain ⟨a, vs, e1, e2, e3⟩ := r
  exact ⟨a, vs, e1, seqT_same R.sF e2, e3⟩
def fitL (n : Nat) : Bool := decide (n ≤ 16777216)
def oAdd : Op2 := fun x y st => match x, y with
  | .int i, .int j => .ok (.int (i + j)) st
  | .str a, .str b => if fitL (a.length + b.length) then .ok (.str (a ++ b)) st else .bad
  | .tup a, .tup b => if fitL (a.length + b.length) then .ok (.tup (a ++ b)) st else .bad
  | x, y => match lstOf st x, lstOf st y with
    | some a, some b => if fitL (a.length + b.length) then .ok (.cell st.length) (st ++ [.lst (a ++ b)]) else .bad
    | _, _ => .bad
theorem fitL_ok {n : Nat} (h : fitL n = true) : n ≤ sizeLine := by
  rw [sizeLine_eq]; exact of_decide_eq_true h
theorem ho_add (hK : X.K = G.K) : OpR X (binaryOp .Add) (rD G W oAdd) := by
  refine OpR_imp (OpR.or op_add (OpR.or op_add_str (OpR.or op_cat L2.op_catA))) fun v u H Q ⟨g, en, st, σ, x, y, R, rx, ry, h⟩ => ?_
  have lists : ∀ a b, lstOf st x = some a → lstOf st y = some b → pX G W g en σ (if fitL (a.length + b.length) then .ok (.cell st.length) (st ++ [.lst (a ++ b)]) else .bad : Px.R D) (fun d g' _ H' => ∀ v, Rep G g' d v → Q v H') → rCat v u H Q := by
    intro a b ha hb h
    by_cases c : fitL (a.length + b.length) = true
    · rw [if_pos c] at h
      obtain ⟨p, vs, e1, e2, e3⟩ := lstOf_H R rx ha
      obtain ⟨q, us, f1, f2, f3⟩ := lstOf_H R ry hb
      refine ⟨p, q, vs, us, e1, f1, e2, f2, by rw [← e3.length, ← f3.length]; exact fitL_ok c, fun n hn => ?_⟩
      obtain ⟨l, R', r'⟩ := R.new (c := .lst (a ++ b)) hn ⟨vs ++ us, rfl, e3.append f3⟩
      exact h _ _ l R' _ r'
    · rw [if_neg c] at h; exact h.elim
  unfold oAdd at h
  split at h
  · exact .inl ⟨_, _, rx, ry, h g H (Le.refl g) R _ rfl⟩
  · rename_i a b
    refine .inr (.inl ?_)
    split at h
    · rename_i c
      exact ⟨a, b, rx, ry, fitL_ok c, h g H (Le.refl g) R _ rfl⟩
    · exact h.elim
  · rename_i a b
    refine .inr (.inr (.inr ?_))
    split at h
    · rename_i c
      obtain ⟨p, vs, e1, e2, e3⟩ := tup_H R rx
      obtain ⟨q, us, f1, f2, f3⟩ := tup_H R ry
      refine ⟨p, q, vs, us, e1, f1, by rw [hK]; exact e2, by rw [hK]; exact f2, by rw [← e3.length, ← f3.length]; exact fitL_ok c, fun z => ?_, fun z1 z2 => ?_, fun z1 z2 n hn => ?_⟩
      · subst z
        have : a = [] := List.length_eq_zero_iff.mp (by rw [e3.length]; rfl)
        subst this
        exact h g H (Le.refl _) R _ (by rw [← f1]; simpa using ry)
      · subst z2
        have : b = [] := List.length_eq_zero_iff.mp (by rw [f3.length]; rfl)
        subst this
        exact h g H (Le.refl _) R _ (by rw [← e1]; simpa using rx)
      · obtain ⟨l, R', r'⟩ := R.tup hn (e3.append f3)
        exact h _ _ l R' _ r'
    · exact h.elim
  · split at h
    · rename_i a b ha hb
      exact .inr (.inr (.inl (lists a b ha hb h)))
    · exact h.elim
def oMul : Op2 := fun x y st => match x, y with
  | .int i, .int j => if okMul i j then .ok (.int (i * j)) st else .bad
  | x, .int k => match lstOf st x with
    | some a => if small62 k && fitL (a.length * k.toNat) then .ok (.cell st.length) (st ++ [.lst (List.replicate k.toNat a).flatten]) else .bad
    | none => .bad
  | _, _ => .bad
where small62 (k : Int) : Bool := absLe k 4611686018427387903
theorem RepL.flatten {g : Gh} {ds : List D} {vs : List V} (h : RepL G g ds vs) : ∀ n : Nat, RepL G g (List.replicate n ds).flatten (List.replicate n vs).flatten
  | 0 => rfl
  | n + 1 => by
    rw [List.replicate_succ, List.replicate_succ, List.flatten_cons, List.flatten_cons]
    exact h.append (RepL.flatten h n)
end
end Px
namespace Px
open PySem PySem.Spec L2
section
variable {G : GS} {W : WX} {X : Cx}
theorem ho_mul : OpR X (binaryOp .Mult) (rD G W oMul) := by
  refine OpR_imp (OpR.or op_mulX op_rep) fun v u H Q ⟨g, en, st, σ, x, y, R, rx, ry, h⟩ => ?_
  unfold oMul at h
  split at h
  · rename_i i j
    split at h
    · rename_i c
      exact .inl ⟨i, j, rx, ry, c, h g H (Le.refl g) R _ rfl⟩
    · exact h.elim
  · rename_i k _
    refine .inr ?_
    split at h
    · rename_i a ha
      split at h
      · rename_i c
        simp only [Bool.and_eq_true, oMul.small62, absLe_iff, decide_eq_true_eq] at c
        obtain ⟨p, vs, e1, e2, e3⟩ := lstOf_H R rx ha
        refine ⟨p, k, vs, e1, ry, e2, by have := c.1; omega, by have := c.1; omega, by rw [← e3.length]; exact fitL_ok c.2, fun n hn => ?_⟩
        obtain ⟨l, R', r'⟩ := R.new (c := .lst (List.replicate k.toNat a).flatten) hn ⟨_, rfl, e3.flatten k.toNat⟩
        exact h _ _ l R' _ r'
      · exact h.elim
    · exact h.elim
  · exact h.elim
def Gh.lent (g : Gh) (H : Hp) : Gh := ⟨g.F, H, []⟩
theorem mapS_ok {g g' : Gh} {f : D → Option D} (hf : ∀ d e v, f d = some e → Rep G g d v → Rep G g' e v ∧ e.noc = true) : ∀ (ds es : List D) (vs : List V), mapS f ds = some es → RepL G g ds vs → RepL G g' es vs ∧ nocL es = true
  | [], es, vs, h, r => by cases h; exact ⟨r, rfl⟩
  | d :: ds, es, vs, h, ⟨v, vr, e1, e2, e3⟩ => by
    simp only [mapS] at h
    split at h
    · rename_i p q hp hq
      cases h
      obtain ⟨a1, a2⟩ := hf d p v hp e2
      obtain ⟨b1, b2⟩ := mapS_ok hf ds q vr hq e3
      exact ⟨⟨v, vr, e1, a1, b1⟩, by simp [nocL, a2, b2]⟩
    · cases h
theorem snapL_ok {g : Gh} {en : En} {st : Sto} {σ : L2.St} {H : Hp} {f : D → Option D} (R : Rel G g en st σ H) (hf : ∀ d e v, f d = some e → Rep G g d v → Rep G (g.lent H) e v ∧ e.noc = true) {ds es : List D} {vs : List V} (h : snapL f ds = some es) (r : RepL G g ds vs) : RepL G (g.lent H) es vs ∧ nocL es = true := by
  unfold snapL at h
  split at h
  · rename_i c
    rw [all_noc] at c
    cases h
    exact ⟨RepL.noc (g := g) (g' := g.lent H) (Same.refl _) R.sL ds vs c r, c⟩
  · exact mapS_ok hf ds es vs h r
theorem snap_ok {g : Gh} {en : En} {st : Sto} {σ : L2.St} {H : Hp} (R : Rel G g en st σ H) : ∀ (n : Nat) (d e : D) (v : V), snap st n d = some e → Rep G g d v → Rep G (g.lent H) e v ∧ e.noc = true
  | 0, d, e, v, h, r => by
    unfold snap at h
    split at h
    · rename_i c
      cases h
      exact ⟨Rep.noc (g := g) (g' := g.lent H) (Same.refl _) R.sL d v c r, c⟩
    · cases h
  | n + 1, d, e, v, h, r => by
    have ih := snap_ok R n
    unfold snap at h
    split at h
    · rename_i c
      cases h
      exact ⟨Rep.noc (g := g) (g' := g.lent H) (Same.refl _) R.sL d v c r, c⟩
    · split at h
      · rename_i ds _
        obtain ⟨es, he, rfl⟩ := Option.map_eq_some_iff.mp h
        obtain ⟨a, vs, e1, e2, e3⟩ := r
        obtain ⟨q1, q2⟩ := snapL_ok R ih he e3
        exact ⟨⟨a, vs, e1, e2, q1⟩, by simpa [D.noc] using q2⟩
      · rename_i i _
        split at h
        · rename_i ds hi
          obtain ⟨es, he, rfl⟩ := Option.map_eq_some_iff.mp h
          obtain ⟨a, o, e1, _, e3, vs, e4, e5⟩ := R.isCell hi (by intro z; cases z) r
          obtain ⟨q1, q2⟩ := snapL_ok R ih he e5
          exact ⟨⟨a, vs, e1, by subst e4; exact e3, q1⟩, by simp [D.noc, q2]⟩
        · rename_i ks ds hi
          obtain ⟨es, he, rfl⟩ := Option.map_eq_some_iff.mp h
          obtain ⟨a, o, e1, _, e3, vs, e4, e5, e6⟩ := R.isCell hi (by intro z; cases z) r
          obtain ⟨q1, q2⟩ := snapL_ok R ih he e6
          exact ⟨⟨a, vs, e1, by subst e4; exact .inl e3, e5, q1⟩, by simp [D.noc, q2]⟩
        · rename_i ks ds hi
          obtain ⟨es, he, rfl⟩ := Option.map_eq_some_iff.mp h
          obtain ⟨a, o, e1, _, e3, vs, e4, e5, e6⟩ := R.isCell hi (by intro z; cases z) r
          obtain ⟨q1, q2⟩ := snapL_ok R ih he e6
          exact ⟨⟨a, vs, e1, by subst e4; exact .inl e3, e5, q1⟩, by simp [D.noc, q2]⟩
        · rename_i c ds hi
          obtain ⟨es, he, rfl⟩ := Option.map_eq_some_iff.mp h
          obtain ⟨a, o, e1, _, e3, dx, vs, e4, e5, e6⟩ := R.isCell hi (by intro z; cases z) r
          obtain ⟨q1, q2⟩ := snapL_ok R ih he e6
          exact ⟨⟨a, dx, vs, e1, by subst e4; exact e3, e5, q1⟩, by simp [D.noc, q2]⟩
        · cases h
      · cases h
mutual
def pyD : D → Option PyData
  | .non => some .none
  | .bl b => some (.bool b)
  | .int i => some (.int i)
  | .str x => some (.str x)
  | .tup ds => (pyL ds).map .tuple
  | .lst m ds => if m = .own then none else (pyL ds).map .list
  | _ => none
def pyL : List D → Option (List PyData)
  | [] => some []
  | d :: ds => match pyD d, pyL ds with
    | some p, some q => some (p :: q)
    | _, _ => none
end
mutual
theorem pyD_ok {g : Gh} {H : Hp} (sF : Same g.F H) : ∀ (d : D) (v : V) (p : PyData), Rep G (g.lent H) d v → pyD d = some p → Dp G.K H v p
  | .non, _, _, r, h => by cases h; cases r; exact .non
  | .bl _, _, _, r, h => by cases h; cases r; exact .bl _
  | .int _, _, _, r, h => by cases h; cases r; exact .int _
  | .str _, _, _, r, h => by cases h; cases r; exact .str _
  | .tup ds, v, p, ⟨a, vs, e1, e2, e3⟩, h => by
    simp only [pyD] at h
    obtain ⟨q, hq, rfl⟩ := Option.map_eq_some_iff.mp h
    subst e1
    exact .tup (seqT_same sF e2) (pyL_ok sF ds vs q e3 hq)
  | .lst m ds, v, p, ⟨a, vs, e1, e2, e3⟩, h => by
    simp only [pyD] at h
    split at h
    · cases h
    · obtain ⟨q, hq, rfl⟩ := Option.map_eq_some_iff.mp h
      subst e1
      refine .lst ?_ (pyL_ok sF ds vs q e3 hq)
      cases m with
      | frz => exact SqL.of (sF _ _ e2)
      | loan => exact SqL.of e2
      | ro => exact seqL_same sF e2
      | own => exact e2.elim
  | .dk _ _ _, _, _, _, h => by cases h
  | .dt _ _ _, _, _, _, h => by cases h
  | .obj _ _ _, _, _, _, h => by cases h
  | .cell _, _, _, _, h => by cases h
theorem pyL_ok {g : Gh} {H : Hp} (sF : Same g.F H) : ∀ (ds : List D) (vs : List V) (ps : List PyData), RepL G (g.lent H) ds vs → pyL ds = some ps → DpAll G.K H vs ps
  | [], vs, ps, r, h => by cases h; cases r; exact .nil
  | d :: ds, vs, ps, ⟨v, vr, e1, e2, e3⟩, h => by
    simp only [pyL] at h
    split at h
    · rename_i p q hp hq
      cases h
      subst e1
      exact .cons (pyD_ok sF d v p e2 hp) (pyL_ok sF ds vr q e3 hq)
    · cases h
end
def eqD (st : Sto) (x y : D) : Option Bool := match x, y with
  | .int i, .int j => some (decide (i = j))
  | .str a, .str b => some (decide (a = b))
  | .bl a, .bl b => some (decide (a = b))
  | x, y => match snap st 8 x, snap st 8 y with
    | some a, some b => match pyD a, pyD b with
      | some p, some q => if SeqAt.shaped p && SeqAt.shaped q then some (PyData.eqv p q) else none
      | _, _ => none
    | _, _ => none
theorem eqD_ok {g : Gh} {en : En} {st : Sto} {σ : L2.St} {H : Hp} {x y : D} {v u : V} {b : Bool} (R : Rel G g en st σ H) (rx : Rep G g x v) (ry : Rep G g y u) (h : eqD st x y = some b) :
    (scal v u = true ∧ b = decide (v = u)) ∨ ∃ d e, Dp G.K H v d ∧ Dp G.K H u e ∧ SeqAt.shaped d = true ∧ SeqAt.shaped e = true ∧ b = PyData.eqv d e := by
  unfold eqD at h
  split at h
  · rename_i i j
    cases h; cases rx; cases ry
    refine .inl ⟨rfl, ?_⟩
    rw [dec_int, Bool.beq_eq_decide_eq]
  · rename_i i j
    cases h; cases rx; cases ry
    refine .inl ⟨rfl, ?_⟩
    rw [dec_str, Bool.beq_eq_decide_eq]
  · rename_i i j
    cases h; cases rx; cases ry
    refine .inl ⟨rfl, ?_⟩
    rw [dec_bl, Bool.beq_eq_decide_eq]
  · refine .inr ?_
    split at h
    · rename_i a c ha hc
      split at h
      · rename_i p q hp hq
        split at h
        · rename_i z
          simp only [Bool.and_eq_true] at z
          cases h
          exact ⟨p, q, pyD_ok R.sF a v p (snap_ok R _ _ _ _ ha rx).1 hp, pyD_ok R.sF c u q (snap_ok R _ _ _ _ hc ry).1 hq, z.1, z.2, rfl⟩
        · cases h
      · cases h
    · cases h
def oB (o : Option Bool) (st : Sto) : R D := match o with
  | some b => .ok (.bl b) st
  | none => .bad
def oEq : Op2 := fun x y st => oB (eqD st x y) st
def oNe : Op2 := fun x y st => oB ((eqD st x y).map (!·)) st
theorem ho_eq (hK : X.K = G.K) (hu : X.A.units + 64 < cLine) : OpR X (compareOp .Eq) (rD G W oEq) := by
  refine OpR_imp (OpR.or op_eq (op_eqD hu)) fun v u H Q ⟨g, en, st, σ, x, y, R, rx, ry, h⟩ => ?_
  unfold oEq oB at h
  cases e : eqD st x y with
  | none => rw [e] at h; exact h.elim
  | some b =>
    rw [e] at h
    have q := h g H (Le.refl g) R _ rfl
    rcases eqD_ok R rx ry e with ⟨h1, rfl⟩ | ⟨d, f, h1, h2, h3, h4, rfl⟩
    · exact .inl ⟨h1, q⟩
    · exact .inr ⟨d, f, by rw [hK]; exact h1, by rw [hK]; exact h2, h3, h4, q⟩
theorem ho_ne (hK : X.K = G.K) (hu : X.A.units + 64 < cLine) : OpR X (compareOp .NotEq) (rD G W oNe) := by
  refine OpR_imp (OpR.or op_ne (op_neD hu)) fun v u H Q ⟨g, en, st, σ, x, y, R, rx, ry, h⟩ => ?_
  unfold oNe oB at h
  cases e : eqD st x y with
  | none => rw [e] at h; exact h.elim
  | some b =>
    rw [e] at h
    have q := h g H (Le.refl g) R _ rfl
    rcases eqD_ok R rx ry e with ⟨h1, rfl⟩ | ⟨d, f, h1, h2, h3, h4, rfl⟩
    · exact .inl ⟨h1, q⟩
    · exact .inr ⟨d, f, by rw [hK]; exact h1, by rw [hK]; exact h2, h3, h4, q⟩
def iLt : Op2 := oI0 fun i j => .bl (decide (i < j))
def iLe : Op2 := oI0 fun i j => .bl (decide (i ≤ j))
def iGt : Op2 := oI0 fun i j => .bl (decide (j < i))
def iGe : Op2 := oI0 fun i j => .bl (decide (j ≤ i))
theorem ho_lt : OpR X (compareOp .Lt) (rD G W iLt) := OpR_imp op_lt fun _ _ _ _ h => rI0_of (k := fun i j => .bl (decide (i < j))) (kv := fun i j => .bl (decide (i < j))) (fun _ _ _ => rfl) h
def isNon : D → Bool
  | .non => true
  | _ => false
def oIs : Op2 := fun x y st => match y with
  | .non => .ok (.bl (isNon x)) st
  | _ => .bad
def oIsNot : Op2 := fun x y st => match y with
  | .non => .ok (.bl (!isNon x)) st
  | _ => .bad
def flD : D → Option V
  | .non => some .non
  | .bl b => some (.bl b)
  | .int i => some (.int i)
  | .str x => some (.str x)
  | _ => none
def flL : List D → Option (List V)
  | [] => some []
  | d :: ds => match flD d, flL ds with
    | some v, some vs => some (v :: vs)
    | _, _ => none
def itemsOf (st : Sto) : D → Option (List D)
  | .tup ds => some ds
  | d => seqOf st d
theorem itemsOf_H {g : Gh} {en : En} {st : Sto} {σ : L2.St} {H : Hp} {d : D} {v : V} {ds : List D} (R : Rel G g en st σ H) (r : Rep G g d v) (h : itemsOf st d = some ds) :
    ∃ a vs, v = .ref a ∧ (SqL G.K H a vs ∨ SqT G.K H a vs) ∧ RepL G g ds vs := by
  unfold itemsOf at h
  split at h
  · cases h
    obtain ⟨a, vs, e1, e2, e3⟩ := tup_H R r
    exact ⟨a, vs, e1, .inr e2, e3⟩
  · obtain ⟨a, vs, e1, e2, e3⟩ := seqOf_H R r h
    exact ⟨a, vs, e1, .inl e2, e3⟩
def inD (st : Sto) (x y : D) : Option Bool := match flD x, itemsOf st y with
  | some v, some ds => (flL ds).map (inV v)
  | _, _ => none
def oIn : Op2 := fun x y st => oB (inD st x y) st
def oNotIn : Op2 := fun x y st => oB ((inD st x y).map (!·)) st
def xt (c : XE) : XT := fun en st => (c en st).bind fun d st => match d with
  | .bl b => .ok b st
  | _ => .bad
def xb (c : XT) : XE := fun en st => (c en st).bind fun b st => .ok (.bl b) st
theorem tTest_of {c : XE} {t : TE} (h : ∀ σ H Q, tE G W c σ H Q → t σ H Q) {σ : L2.St} {H : Hp} {Q : Bool → Hp → Prop} (w : tT G W (xt c) σ H Q) : tTest t σ H Q := by
  obtain ⟨g, en, st, R, w⟩ := w
  refine h _ _ _ ⟨g, en, st, R, (pX.bind w).imp fun d st1 g1 H1 l1 R1 h1 v rv => ?_⟩
  cases d <;> try exact h1.elim
  rename_i b
  exact ⟨b, rv, h1 g1 H1 (Le.refl _) R1⟩
theorem se_cmp {op : CmpOp} {f : Op2} {a b : Expr} {ca cb : XE} {pos : Pos} (ho : OpR X (compareOp op) (rD G W f)) (ha : SE G W X a ca) (hb : SE G W X b cb) (hm : behindInMarks op b = false := by first | exact nomark _ | rfl) : SE G W X (.Compare a [op] [b] pos) (x2 f ca cb) :=
  ⟨PE_imp (pe_cmpR ho ha.pe hb.pe hm) fun _ _ _ h => tOp_of h⟩
theorem sb_cmp {op : CmpOp} {f : Op2} {a b : Expr} {ca cb : XE} {pos : Pos} (ho : OpR X (compareOp op) (rD G W f)) (ha : SE G W X a ca) (hb : SE G W X b cb) (hm : behindInMarks op b = false := by first | exact nomark _ | rfl) : SB G W X (.Compare a [op] [b] pos) (xt (x2 f ca cb)) :=
  ⟨PT_imp (pt_cmpR ho ha.pe hb.pe hm) fun _ _ _ h => tTest_of (fun _ _ _ w => tOp_of w) h⟩
theorem sb_val {e : Expr} {c : XE} (h : SE G W X e c) (he : ∀ whole, isTrue e X.env whole = (do let v ← whole; standAt e.pos; holding [v] (truthy v)) := by intro _; rfl) : SB G W X e (xt c) :=
  ⟨PT_imp (pt_val h.pe he) fun σ H Q w => by
    obtain ⟨g, en, st, R, w⟩ := w
    refine ⟨g, en, st, R, (pX.bind w).imp fun d st1 g1 H1 l1 R1 h1 v rv => ?_⟩
    cases d <;> try exact h1.elim
    rename_i b
    exact ⟨b, rv, h1 g1 H1 (Le.refl _) R1⟩⟩
def xch (f f' : Op2) (a b c : XE) : XE := fun en st => (a en st).bind fun x st => (b en st).bind fun y st => (f x y st).bind fun k st => match k with
  | .bl true => (c en st).bind fun z st => f' y z st
  | .bl false => .ok (.bl false) st
  | _ => .bad
structure SW (G : GS) (W : WX) (X : Cx) (e : Expr) (c : XT) : Prop where
  pw : PW X e (tT G W c)
def xand (a b : XT) : XT := fun en st => (a en st).bind fun k st => if k then b en st else .ok false st
def xor_ (a b : XT) : XT := fun en st => (a en st).bind fun k st => if k then .ok true st else b en st
def xnot (a : XT) : XT := fun en st => (a en st).bind fun k st => .ok (!k) st
theorem sw_one_and {a : Expr} {c : XT} {pos : Pos} (h : SB G W X a c) : SW G W X (.BoolOp .And [a] pos) c := ⟨pw_and1 h.pt⟩
theorem sw_one_or {a : Expr} {c : XT} {pos : Pos} (h : SB G W X a c) : SW G W X (.BoolOp .Or [a] pos) c := ⟨pw_or1 h.pt⟩
theorem sw_and {a b : Expr} {rest : List Expr} {ca cb : XT} {pos : Pos} (ha : SB G W X a ca) (hb : SW G W X (.BoolOp .And (b :: rest) pos) cb) : SW G W X (.BoolOp .And (a :: b :: rest) pos) (xand ca cb) :=
  ⟨PW_imp (pw_and ha.pt hb.pw) fun σ H Q ⟨g, en, st, R, h⟩ => by
    refine ⟨g, en, st, R, (pX.bind h).imp fun k st1 g1 H1 l1 R1 h1 => ?_⟩
    cases k with
    | true => rw [if_pos rfl]; exact ⟨g1, en, st1, R1, h1⟩
    | false => exact h1 g1 H1 (Le.refl _) R1⟩
theorem sw_or {a b : Expr} {rest : List Expr} {ca cb : XT} {pos : Pos} (ha : SB G W X a ca) (hb : SW G W X (.BoolOp .Or (b :: rest) pos) cb) : SW G W X (.BoolOp .Or (a :: b :: rest) pos) (xor_ ca cb) :=
  ⟨PW_imp (pw_or ha.pt hb.pw) fun σ H Q ⟨g, en, st, R, h⟩ => by
    refine ⟨g, en, st, R, (pX.bind h).imp fun k st1 g1 H1 l1 R1 h1 => ?_⟩
    cases k with
    | true => exact h1 g1 H1 (Le.refl _) R1
    | false => rw [if_neg Bool.false_ne_true]; exact ⟨g1, en, st1, R1, h1⟩⟩
theorem sb_w {e : Expr} {c : XT} (h : SW G W X e c) : SB G W X e c := ⟨h.pw.pt⟩
theorem sb_not {a : Expr} {c : XT} {pos : Pos} (h : SB G W X a c) : SB G W X (.UnaryOp .Not a pos) (xnot c) :=
  ⟨PT_imp (pt_not h.pt) fun σ H Q ⟨g, en, st, R, h⟩ => by
    refine ⟨g, en, st, R, (pX.bind h).imp fun k st1 g1 H1 l1 R1 h1 => ?_⟩
    exact h1 g1 H1 (Le.refl _) R1⟩
def vand (a b : XE) : XE := fun en st => (a en st).bind fun x st => match x with
  | .bl true => b en st
  | .bl false => .ok (.bl false) st
  | _ => .bad
def vor (a b : XE) : XE := fun en st => (a en st).bind fun x st => match x with
  | .bl false => b en st
  | .bl true => .ok (.bl true) st
  | _ => .bad
def vnot (a : XE) : XE := fun en st => (a en st).bind fun x st => match x with
  | .bl b => .ok (.bl (!b)) st
  | _ => .bad
theorem se_one {op : BoolOp} {a : Expr} {c : XE} {pos : Pos} (h : SE G W X a c) : SE G W X (.BoolOp op [a] pos) c := ⟨pe_one h.pe⟩
theorem se_and {a b : Expr} {rest : List Expr} {ca cb : XE} {pos : Pos} (ha : SE G W X a ca) (hb : SE G W X (.BoolOp .And (b :: rest) pos) cb) : SE G W X (.BoolOp .And (a :: b :: rest) pos) (vand ca cb) :=
  ⟨PE_imp (pe_and ha.pe hb.pe) fun σ H Q ⟨g, en, st, R, h⟩ => by
    refine ⟨g, en, st, R, (pX.bind h).imp fun x st1 g1 H1 l1 R1 h1 v rv => ?_⟩
    cases x <;> try exact h1.elim
    rename_i b
    refine ⟨b, rv, ?_⟩
    cases b with
    | true => rw [if_pos rfl]; exact ⟨g1, en, st1, R1, h1⟩
    | false => exact h1 g1 H1 (Le.refl _) R1 _ rfl⟩
theorem se_not {a : Expr} {c : XE} {pos : Pos} (h : SE G W X a c) : SE G W X (.UnaryOp .Not a pos) (vnot c) :=
  ⟨PE_imp (pe_not h.pe) fun σ H Q ⟨g, en, st, R, h⟩ => by
    refine ⟨g, en, st, R, (pX.bind h).imp fun x st1 g1 H1 l1 R1 h1 v rv => ?_⟩
    cases x <;> try exact h1.elim
    rename_i b
    exact ⟨b, rv, h1 g1 H1 (Le.refl _) R1 _ rfl⟩⟩
def xife (t : XT) (a b : XE) : XE := fun en st => (t en st).bind fun k st => if k then a en st else b en st
def xnil : XA := fun _ st => .ok [] st
def xcons (a : XE) (b : XA) : XA := fun en st => (a en st).bind fun x st => (b en st).bind fun xs st => .ok (x :: xs) st
theorem sa_nil : SA G W X [] xnil := ⟨PA_imp pa_nil fun σ H Q ⟨g, en, st, R, h⟩ => h g H (Le.refl _) R [] rfl⟩
theorem sa_cons {e : Expr} {es : List Expr} {a : XE} {b : XA} (ha : SE G W X e a) (hb : SA G W X es b) (hs : starEach (e :: es) X.env = (false, eval e X.env) :: starEach es X.env := by rfl) : SA G W X (e :: es) (xcons a b) :=
  ⟨PA_imp (pa_cons ha.pe hb.pa hs) fun σ H Q ⟨g, en, st, R, h⟩ => by
    refine ⟨g, en, st, R, (pX.bind h).imp fun x st1 g1 H1 l1 R1 h1 v rv => ?_⟩
    refine ⟨g1, en, st1, R1, (pX.bind h1).imp fun xs st2 g2 H2 l2 R2 h2 vs rvs => ?_⟩
    exact h2 g2 H2 (Le.refl _) R2 _ ⟨v, vs, rfl, rv.mono l2, rvs⟩⟩
def xtup (a : XA) : XE := fun en st => (a en st).bind fun xs st => if fitL xs.length then .ok (.tup xs) st else .bad
def xlst (a : XA) : XE := fun en st => (a en st).bind fun xs st => if fitL xs.length then .ok (.cell st.length) (st ++ [.lst xs]) else .bad
theorem se_tup {es : List Expr} {a : XA} {k : Nat} {pos : Pos} (h : SA G W X es a) : SE G W X (.Tuple es k pos) (xtup a) :=
  ⟨PE_imp (pe_tup h.pa) fun σ H Q ⟨g, en, st, R, h⟩ => by
    refine ⟨g, en, st, R, (pX.bind h).imp fun xs st1 g1 H1 l1 R1 h1 vs rvs => ?_⟩
    split at h1
    · rename_i c
      refine ⟨by rw [← rvs.length]; exact fitL_ok c, fun p hp => ?_⟩
      obtain ⟨l, R', r'⟩ := R1.tup hp rvs
      exact h1 _ _ l R' _ r'
    · exact h1.elim⟩
theorem se_lst {es : List Expr} {a : XA} {pos : Pos} (h : SA G W X es a) : SE G W X (.List es pos) (xlst a) :=
  ⟨PE_imp (pe_lst h.pa) fun σ H Q ⟨g, en, st, R, h⟩ => by
    refine ⟨g, en, st, R, (pX.bind h).imp fun xs st1 g1 H1 l1 R1 h1 vs rvs => ?_⟩
    split at h1
    · rename_i c
      refine ⟨by rw [← rvs.length]; exact fitL_ok c, fun p hp => ?_⟩
      obtain ⟨l, R', r'⟩ := R1.new (c := .lst xs) hp ⟨vs, rfl, rvs⟩
      exact h1 _ _ l R' _ r'
    · exact h1.elim⟩
theorem IxR_imp {r r' : R2} (h : IxR X r) (i : ∀ x y H Q, r' x y H Q → r x y H Q) : IxR X r' := fun a b pins s σ H x y v u Q I rx ry w hs => h a b pins s σ H x y v u Q I rx ry (i _ _ _ _ w) hs
theorem RepL.atI {g : Gh} {ds : List D} {vs : List V} {i : Int} {d : D} (r : RepL G g ds vs) (h : atI ds i = some d) : ∃ v, L2.atI vs i = some v ∧ Rep G g d v := by
  unfold L2.atI at h ⊢
  rw [← r.length]
  cases e : ixN ds.length i with
  | none => rw [e] at h; cases h
  | some j =>
    rw [e] at h
    obtain ⟨v, h1, h2⟩ := r.get (i := j) (d := d) h
    exact ⟨v, h1, h2⟩
def oIx : Op2 := fun x y st => match y with
  | .int i => match x with
    | .str z => if fitL z.length then match atI z.cps.toList i with
        | some c => .ok (.str ⟨#[c]⟩) st
        | none => .bad
      else .bad
    | x => match itemsOf st x with
      | some ds => match atI ds i with
        | some d => .ok d st
        | none => .bad
      | none => .bad
  | _ => .bad
theorem ho_ix (hK : X.K = G.K) : IxR X (rD G W oIx) := by
  refine IxR_imp ix_seq fun v u H Q ⟨g, en, st, σ, x, y, R, rx, ry, h⟩ => ?_
  unfold oIx at h
  cases y <;> try exact h.elim
  rename_i i
  cases ry
  simp only at h
  split at h
  · rename_i z
    split at h
    · rename_i c
      split at h
      · rename_i cc hc
        exact .inr (.inr ⟨z, i, cc, rx, rfl, fitL_ok c, hc, h g H (Le.refl _) R _ rfl⟩)
      · exact h.elim
    · exact h.elim
  · split at h
    · rename_i ds hds
      split at h
      · rename_i d hd
        obtain ⟨a, vs, e1, e2, e3⟩ := itemsOf_H R rx hds
        obtain ⟨w, e4, e5⟩ := e3.atI hd
        have q := h g H (Le.refl _) R _ e5
        rcases e2 with e2 | e2
        · exact .inl ⟨a, vs, i, w, e1, rfl, by rw [hK]; exact e2, e4, q⟩
        · exact .inr (.inl ⟨a, vs, i, w, e1, rfl, by rw [hK]; exact e2, e4, q⟩)
      · exact h.elim
    · exact h.elim
theorem se_ix {a b : Expr} {ca cb : XE} {pos : Pos} (hK : X.K = G.K) (ha : SE G W X a ca) (hb : SE G W X b cb) (hs : PlainIx b := by intro _ _; rfl) : SE G W X (.Subscript a b pos) (x2 oIx ca cb) :=
  ⟨PE_imp (pe_ix (ho_ix hK) ha.pe hb.pe hs) fun _ _ _ h => tOp_of h⟩
end
end Px
namespace Px
open PySem PySem.Spec L2
section
variable {G : GS} {W : WX} {X : Cx}
def snil : XS := fun en st => .ok (.nx, en) st
def sseq (a b : XS) : XS := fun en st => match a en st with
  | .ok (.nx, en1) st1 => b en1 st1
  | r => r
theorem sl_nil : SL G W X [] snil := ⟨PSs_imp pss_nil fun D σ H ⟨g, en, st, R, h⟩ => h g σ H (Le.refl g) R⟩
theorem sl_cons {s : Stmt} {ss : List Stmt} {a b : XS} (h1 : SS G W X s a) (h2 : SL G W X ss b) : SL G W X (s :: ss) (sseq a b) :=
  ⟨PSs_imp (pss_cons h1.ps h2.ps) fun D σ H ⟨g, en, st, R, h⟩ => by
    refine ⟨g, en, st, R, ?_⟩
    unfold sseq at h
    cases e : a en st with
    | ok p st1 =>
      obtain ⟨fl, en1⟩ := p
      rw [e] at h
      cases fl with
      | nx => exact fun g' σ' H' l R' => ⟨g', en1, st1, R', pS.weak l h⟩
      | bk => exact h
      | ct => exact h
      | rt d => exact h
    | exc c ds en' st' => rw [e] at h; exact h
    | bad => rw [e] at h; exact h⟩
theorem sl_one {s : Stmt} {a : XS} (h1 : SS G W X s a) : SL G W X [s] a := ⟨pss_one h1.ps⟩
def spass : XS := snil
def sbreak : XS := fun en st => .ok (.bk, en) st
def scont : XS := fun en st => .ok (.ct, en) st
def sexpr (c : XE) : XS := fun en st => (c en st).bind fun _ st => .ok (.nx, en) st
theorem ss_expr {e : Expr} {c : XE} {pos : Pos} (h : SE G W X e c) (hs : swapsWith e none pos.line X.env = pure false := by rfl) : SS G W X (.Expr e pos) (sexpr c) :=
  ⟨PS_imp (ps_expr h.pe hs) fun D σ H ⟨g, en, st, R, h⟩ => ⟨g, en, st, R, (pS.bind h).imp fun d st1 g1 H1 l1 R1 h1 v rv => h1 g1 σ H1 (Le.refl _) R1⟩⟩
def sret (c : XE) : XS := fun en st => (c en st).bind fun d st => .ok (.rt d, en) st
theorem ss_ret {e : Expr} {c : XE} {pos : Pos} (h : SE G W X e c) : SS G W X (.Return (some e) pos) (sret c) :=
  ⟨PS_imp (ps_ret h.pe) fun D σ H ⟨g, en, st, R, h⟩ => ⟨g, en, st, R, (pS.bind h).imp fun d st1 g1 H1 l1 R1 h1 v rv => h1 g1 σ H1 (Le.refl _) R1 v rv⟩⟩
def sretN : XS := fun en st => .ok (.rt .non, en) st
def sif (c : XT) (a b : XS) : XS := fun en st => (c en st).bind fun k st => if k then a en st else b en st
theorem ss_if {c : Expr} {a b : List Stmt} {tc : XT} {ta tb : XS} {pos : Pos} (hc : SB G W X c tc) (ha : SL G W X a ta) (hb : SL G W X b tb) : SS G W X (.If c a b pos) (sif tc ta tb) :=
  ⟨PS_imp (ps_if hc.pt ha.ps hb.ps) fun D σ H ⟨g, en, st, R, h⟩ => ⟨g, en, st, R, (pS.bind h).imp fun k st1 g1 H1 l1 R1 h1 => by
    cases k with
    | true => rw [if_pos rfl]; exact ⟨g1, en, st1, R1, h1⟩
    | false => rw [if_neg Bool.false_ne_true]; exact ⟨g1, en, st1, R1, h1⟩⟩⟩
def sset (i : Nat) (c : XE) : XS := fun en st => (c en st).bind fun d st => .ok (.nx, en.set i (some d)) st
theorem ss_set (i : Nat) {x : Str} {e : Expr} {c : XE} {pos pos' : Pos} (hN : X.N.Nodup) (h : SE G W X e c) (hi : X.N[i]? = some x := by rfl) (hx : Loc X.env.scope x := by first | exact Or.inl rfl | exact Or.inr rfl) (hs : swapsWith e (some (.Name x pos')) pos.line X.env = pure false := by rfl)
    (hf : X.fn x = true ∨ X.env.scope.names.lookup x = some .local := by first | exact .inl rfl | exact .inr rfl) : SS G W X (.Assign [.Name x pos'] e pos) (sset i c) :=
  ⟨PS_imp (ps_set hN hi hx h.pe hs hf) fun D σ H ⟨g, en, st, R, h⟩ => ⟨g, en, st, R, (pS.bind h).imp fun d st1 g1 H1 l1 R1 h1 v rv => h1 g1 _ H1 (Le.refl _) (R1.setv rv)⟩⟩
abbrev XG := D → En → Sto → R En
abbrev XGs := List D → En → Sto → R En
def pG (G : GS) (W : WX) (g : Gh) (r : R En) (Q : L2.St → Hp → Prop) : Prop := match r with
  | .ok en st => ∀ g' σ' H', Le g g' → Rel G g' en st σ' H' → Q σ' H'
  | .exc c ds en' st => ∀ g' σ' H' d, Le g g' → Rel G g' en' st σ' H' → ExcRep G g' H' ds d → W (.ref (G.exc c)) d σ' H'
  | .bad => False
theorem pG.weak {g g1 : Gh} {r : R En} {Q : L2.St → Hp → Prop} (l : Le g g1) (h : pG G W g r Q) : pG G W g1 r Q := by
  cases r with
  | ok a st => exact fun g' σ' H' l' R => h g' σ' H' (l.trans l') R
  | exc c ds en' st => exact fun g' σ' H' d l' R e => h g' σ' H' d (l.trans l') R e
  | bad => exact h
theorem pG.bind {α : Type} {g : Gh} {en : En} {σ : L2.St} {r : R α} {f : α → Sto → R En} {Q : L2.St → Hp → Prop} (h : pG G W g (r.bind f) Q) :
    pX G W g en σ r fun a g1 st1 _ => pG G W g1 (f a st1) Q := by
  cases r with
  | ok a st => exact fun g' H' l R => pG.weak l h
  | exc c ds en' st => exact h
  | bad => exact h
def tG (G : GS) (W : WX) (f : XG) : TG := fun v σ H Q => ∃ g en st d, Rel G g en st σ H ∧ Rep G g d v ∧ pG G W g (f d en st) Q
def tGs (G : GS) (W : WX) (f : XGs) : TGs := fun vs σ H Q => ∃ g en st ds, Rel G g en st σ H ∧ RepL G g ds vs ∧ pG G W g (f ds en st) Q
structure SG (G : GS) (W : WX) (X : Cx) (e : Expr) (c : XG) : Prop where
  pg : PG X e (tG G W c)
structure SGs (G : GS) (W : WX) (X : Cx) (es : List Expr) (c : XGs) : Prop where
  pg : PGs X es (tGs G W c)
theorem PG_imp {e : Expr} {t t' : TG} (h : PG X e t) (i : ∀ v σ H Q, t' v σ H Q → t v σ H Q) : PG X e t' := ⟨fun pins s σ H v u Q I r w => h.run pins s σ H v u Q I r (i _ _ _ _ w)⟩
theorem PGs_imp {e : List Expr} {t t' : TGs} (h : PGs X e t) (i : ∀ v σ H Q, t' v σ H Q → t v σ H Q) : PGs X e t' := ⟨fun pins s σ H v u Q I r w => h.run pins s σ H v u Q I r (i _ _ _ _ w)⟩
theorem PG_or {e : Expr} {t t' : TG} (h : PG X e t) (h' : PG X e t') : PG X e (fun v σ H Q => t v σ H Q ∨ t' v σ H Q) := ⟨fun pins s σ H v u Q I r w => w.elim (h.run pins s σ H v u Q I r) (h'.run pins s σ H v u Q I r)⟩
def gset (i : Nat) : XG := fun d en st => .ok (en.set i (some d)) st
theorem sg_name (i : Nat) {x : Str} {pos : Pos} (hN : X.N.Nodup) (hi : X.N[i]? = some x := by rfl) (hx : Loc X.env.scope x := by first | exact Or.inl rfl | exact Or.inr rfl) (hf : X.fn x = true ∨ X.env.scope.names.lookup x = some .local := by first | exact .inl rfl | exact .inr rfl) : SG G W X (.Name x pos) (gset i) :=
  ⟨PG_imp (pg_name hN hi hx hf) fun v σ H Q ⟨g, en, st, d, R, r, h⟩ => h g _ H (Le.refl _) (R.setv r)⟩
def gnil : XGs := fun ds en st => match ds with
  | [] => .ok en st
  | _ => .bad
def gcons (a : XG) (b : XGs) : XGs := fun ds en st => match ds with
  | d :: r => (a d en st).bind fun en st => b r en st
  | [] => .bad
theorem sgs_nil : SGs G W X [] gnil := ⟨PGs_imp pgs_nil fun vs σ H Q ⟨g, en, st, ds, R, r, h⟩ => by
  cases ds with
  | nil => exact ⟨r, h g σ H (Le.refl _) R⟩
  | cons d ds => exact h.elim⟩
theorem sgs_cons {e : Expr} {es : List Expr} {a : XG} {b : XGs} (h1 : SG G W X e a) (h2 : SGs G W X es b) (hs : (assignEach (e :: es) X.env).map (·.2) = assign e X.env :: (assignEach es X.env).map (·.2) := by rfl) : SGs G W X (e :: es) (gcons a b) :=
  ⟨PGs_imp (pgs_cons h1.pg h2.pg hs) fun vs σ H Q ⟨g, en, st, ds, R, r, h⟩ => by
    cases ds with
    | nil => exact h.elim
    | cons d ds =>
      obtain ⟨v, vr, e1, e2, e3⟩ := r
      refine ⟨v, vr, e1, g, en, st, d, R, e2, ?_⟩
      unfold gcons at h
      simp only at h
      cases e : a d en st with
      | ok en1 st1 => rw [e] at h; exact fun g' σ' H' l R' => ⟨g', en1, st1, ds, R', e3.mono l, pG.weak l h⟩
      | exc c xs en' st' => rw [e] at h; exact h
      | bad => rw [e] at h; exact h⟩
def gtup (n : Nat) (b : XGs) : XG := fun d en st => match itemsOf st d with
  | some ds => if ds.length = n then b ds en st else .bad
  | none => .bad
theorem sg_tup {es : List Expr} {k : Nat} {pos : Pos} {b : XGs} (n : Nat) (hK : X.K = G.K) (hc : X.calm = true) (h : SGs G W X es b) (hn : (assignEach es X.env).length = n := by rfl) (hst : (assignEach es X.env).findIdx? (·.1) = none := by rfl) : SG G W X (.Tuple es k pos) (gtup n b) :=
  ⟨PG_imp (PG_or (pg_tup (k := k) hc h.pg hn hst) (pg_lst hc h.pg hn hst)) fun v σ H Q ⟨g, en, st, d, R, r, h⟩ => by
    unfold gtup at h
    split at h
    · rename_i ds hds
      split at h
      · rename_i hl
        obtain ⟨a, vs, e1, e2, e3⟩ := itemsOf_H R r hds
        rcases e2 with e2 | e2
        · exact .inr ⟨a, vs, e1, by rw [hK]; exact e2, by rw [← e3.length, hl], g, en, st, ds, R, e3, h⟩
        · exact .inl ⟨a, vs, e1, by rw [hK]; exact e2, by rw [← e3.length, hl], g, en, st, ds, R, e3, h⟩
      · exact h.elim
    · exact h.elim⟩
def sasg (c : XE) (t : XG) : XS := fun en st => (c en st).bind fun d st => (t d en st).bind fun en st => .ok (.nx, en) st
theorem ss_asg {tg e : Expr} {c : XE} {t : XG} {pos : Pos} (he : SE G W X e c) (hg : SG G W X tg t) (hs : swapsWithSole [tg] e pos.line X.env = pure false := by rfl) (hw : swappedStores [tg] e X.env = pure none := by rfl)
    (h1 : (assignEach [tg] X.env).map (·.2) = [assign tg X.env] := by rfl) : SS G W X (.Assign [tg] e pos) (sasg c t) :=
  ⟨PS_imp (ps_asg he.pe hg.pg hs hw h1) fun D σ H ⟨g, en, st, R, h⟩ => ⟨g, en, st, R, (pS.bind h).imp fun d st1 g1 H1 l1 R1 h1 v rv => by
    refine ⟨g1, en, st1, d, R1, rv, ?_⟩
    cases e : t d en st1 with
    | ok en2 st2 => rw [e] at h1; exact fun g' σ' H' l R' => h1 g' σ' H' l R'
    | exc c xs en' st' => rw [e] at h1; exact h1
    | bad => rw [e] at h1; exact h1⟩⟩
def spar (i j : Nat) (a b : XE) : XS := fun en st => (a en st).bind fun x st => (b en st).bind fun y st => .ok (.nx, (en.set i (some x)).set j (some y)) st
abbrev Op3 := D → D → D → Sto → R Unit
def rD3 (G : GS) (W : WX) (f : Op3) : TSet := fun o i v H Q => ∃ g en st σ x y z, Rel G g en st σ H ∧ Rep G g x o ∧ Rep G g y i ∧ Rep G g z v ∧ pX G W g en σ (f x y z st) fun _ _ _ H' => Q H'
def gsub (f : Op3) (a b : XE) : XG := fun d en st => (a en st).bind fun x st => (b en st).bind fun y st => (f x y d st).bind fun _ st => .ok en st
theorem sg_sub {o i : Expr} {a b : XE} {f : Op3} {pos : Pos} (ho : SE G W X o a) (hi : SE G W X i b) (hf : PSet X (rD3 G W f))
    (ha : ∀ v, assign (.Subscript o i pos) X.env v = (do
      let ov ← holding [v] (eval o X.env)
      let iv ← holding [v, ov] (eval i X.env)
      standAt pos
      holding [v, ov, iv] (setItem ov iv v)
      release [v, ov, iv] []) := by intro _; rfl) : SG G W X (.Subscript o i pos) (gsub f a b) :=
  ⟨PG_imp (pg_sub ho.pe hi.pe hf ha) fun v σ H Q ⟨g, en, st, d, R, r, h⟩ => by
    refine ⟨g, en, st, R, (pG.bind h).imp fun x st1 g1 H1 l1 R1 h1 ov rov => ?_⟩
    refine ⟨g1, en, st1, R1, (pG.bind h1).imp fun y st2 g2 H2 l2 R2 h2 iv riv => ?_⟩
    refine ⟨g2, en, st2, σ, x, y, d, R2, rov.mono l2, riv, r.mono (l1.trans l2), (pG.bind h2).imp fun _ st3 g3 H3 l3 R3 h3 => ?_⟩
    exact h3 g3 σ H3 (Le.refl _) R3⟩
theorem PSet_imp {t t' : TSet} (h : PSet X t) (i : ∀ o i v H Q, t' o i v H Q → t o i v H Q) : PSet X t' := fun pins s σ H o j v ov iv u Q I ro ri rv w => h pins s σ H o j v ov iv u Q I ro ri rv (i _ _ _ _ _ w)
def oSetL : Op3 := fun x y z st => match x, y with
  | .cell i, .int k => match st[i]? with
    | some (.lst ds) => match ixN ds.length k with
      | some j => .ok () (st.set i (.lst (ds.set j z)))
      | none => .bad
    | _ => .bad
  | _, _ => .bad
theorem ho_setL : PSet X (rD3 G W oSetL) := PSet_imp set_list fun o i v H Q ⟨g, en, st, σ, x, y, z, R, rx, ry, rz, h⟩ => by
  unfold oSetL at h
  split at h
  · rename_i ci k
    split at h
    · rename_i ds hds
      split at h
      · rename_i j hj
        obtain ⟨a, ob, e1, e2, e3, vs, e4, e5⟩ := R.isCell hds (by intro w; cases w) rx
        subst e4
        exact ⟨a, vs, k, j, e1, ry, e3, by rw [← e5.length]; exact hj, h g _ (Le.refl _) (R.put hds (by intro w; cases w) e2 ⟨_, rfl, e5.set j rz⟩)⟩
      · exact h.elim
    · exact h.elim
  · exact h.elim
def saug (i : Nat) (f : Op2) (c : XE) : XS := fun en st => match en[i]? with
  | some (some x) => (c en st).bind fun y st => (f x y st).bind fun z st => .ok (.nx, en.set i (some z)) st
  | _ => .bad
def iAdd : Op2 := fun x y st => match x, y with
  | .int i, .int j => .ok (.int (i + j)) st
  | .str a, .str b => if fitL (a.length + b.length) then .ok (.str (a ++ b)) st else .bad
  | _, _ => .bad
def wloop (c : XT) (b : XS) : Nat → XS
  | 0 => fun _ _ => .bad
  | n + 1 => fun en st => (c en st).bind fun k st => if k then match b en st with
      | .ok (.nx, en) st => wloop c b n en st
      | .ok (.ct, en) st => wloop c b n en st
      | .ok (.bk, en) st => .ok (.nx, en) st
      | r => r
    else .ok (.nx, en) st
def swhile (fuel : En → Sto → Nat) (c : XT) (b : XS) : XS := fun en st => wloop c b (fuel en st) en st
structure Itm where
  its : List D
  src : List (Nat × List D)
def okSrc : List (Nat × List D) → Sto → Bool
  | [], _ => true
  | p :: r, st => Cell.isLst st[p.1]? p.2 && okSrc r st
abbrev XI := En → Sto → R Itm
def Walks (G : GS) (g0 : Gh) (it : Itm) (J : It) : Prop := ∀ g en st σ H (i : Nat), Le g0 g → Rel G g en st σ H → okSrc it.src st = true →
  (it.its.length ≤ i → J.stop i H) ∧ ∀ d, it.its[i]? = some d → J.go i H ∧ ∀ x H', J.yld i H x H' → ∃ g', Le g g' ∧ Rel G g' en st σ H' ∧ Rep G g' d x
def tI (G : GS) (W : WX) (c : XI) : TI := fun σ H K => ∃ g en st, Rel G g en st σ H ∧ pX G W g en σ (c en st) fun it g' _ H' => ∀ J, Walks G g' it J → K J H'
structure SI (G : GS) (W : WX) (X : Cx) (tg iter : Expr) (c : XI) : Prop where
  pi : PI X tg iter (tI G W c)
theorem PI_imp {tg iter : Expr} {t t' : TI} (h : PI X tg iter t) (i : ∀ σ H K, t' σ H K → t σ H K) : PI X tg iter t' := ⟨fun pins s σ H K I w => h.run pins s σ H K I (i _ _ _ w)⟩
theorem PI_or {tg iter : Expr} {t t' : TI} (h : PI X tg iter t) (h' : PI X tg iter t') : PI X tg iter (fun σ H K => t σ H K ∨ t' σ H K) := ⟨fun pins s σ H K I w => w.elim (h.run pins s σ H K I) (h'.run pins s σ H K I)⟩
def lsrc (st : Sto) : D → Option Itm
  | .cell i => match st[i]? with
    | some (.lst ds) => some ⟨ds, [(i, ds)]⟩
    | _ => none
  | .lst m ds => if m = .own then none else some ⟨ds, []⟩
  | _ => none
theorem lsrc_H {g0 : Gh} {st0 : Sto} {d : D} {v : V} {it : Itm} (r : Rep G g0 d v) (h : lsrc st0 d = some it) :
    ∃ a, v = .ref a ∧ ∀ g en st σ H, Le g0 g → Rel G g en st σ H → okSrc it.src st = true → ∃ vs, SqL G.K H a vs ∧ RepL G g it.its vs := by
  unfold lsrc at h
  split at h
  · rename_i i
    split at h
    · rename_i ds hds
      cases h
      obtain ⟨a, ha, rfl⟩ := r
      refine ⟨a, rfl, fun g en st σ H l R q => ?_⟩
      have e := Cell.eq_isLst (by simpa [okSrc] using q)
      obtain ⟨a', o, e1, e2, e3, vs, e4, e5⟩ := R.isCell e (by intro w; cases w) ⟨a, l.as _ _ ha, rfl⟩
      cases e1
      subst e4
      exact ⟨vs, SqL.of e3, e5⟩
    · cases h
  · rename_i m ds
    split at h
    · cases h
    · cases h
      obtain ⟨a, vs, rfl, e2, e3⟩ := r
      refine ⟨a, rfl, fun g en st σ H l R q => ⟨vs, ?_, e3.mono l⟩⟩
      cases m with
      | frz => exact SqL.of (R.sF _ _ (l.F _ _ e2))
      | loan => exact SqL.of (R.sL _ _ (by rw [l.L]; exact e2))
      | ro => exact seqL_same R.sF (seqL_same l.F e2)
      | own => exact e2.elim
  · cases h
theorem lsrc_ok {st : Sto} {d : D} {it : Itm} (hit : lsrc st d = some it) : okSrc it.src st = true := by
  unfold lsrc at hit
  split at hit
  · split at hit
    · rename_i hds
      cases hit
      show (Cell.isLst _ _ && okSrc [] _) = true
      rw [hds, Cell.isLst_self]
      rfl
    · cases hit
  · split at hit
    · cases hit
    · cases hit; rfl
  · cases hit
theorem walks_list {g0 : Gh} {st0 : Sto} {d : D} {a : Addr} {it : Itm} (r : Rep G g0 d (.ref a)) (h : lsrc st0 d = some it) : Walks G g0 it (Itl G.K a) := by
  obtain ⟨a', e, q⟩ := lsrc_H r h
  cases e
  intro g en st σ H i l R ok
  obtain ⟨vs, e1, e2⟩ := q g en st σ H l R ok
  refine ⟨fun hi => ⟨vs, e1, by rw [← e2.length]; exact hi⟩, fun d hd => ?_⟩
  obtain ⟨x, hx, rx⟩ := e2.get hd
  refine ⟨⟨vs, x, e1, hx⟩, fun y H' z => ?_⟩
  obtain ⟨rfl, z⟩ := z
  have := z vs e1
  rw [hx] at this; cases this
  exact ⟨g, Le.refl _, R, rx⟩
theorem walks_tup {g0 : Gh} {ds : List D} {a : Addr} (r : Rep G g0 (.tup ds) (.ref a)) : Walks G g0 ⟨ds, []⟩ (Itt G.K a) := by
  intro g en st σ H i l R ok
  obtain ⟨a', vs, e, e1, e2⟩ := tup_H R (r.mono l)
  cases e
  refine ⟨fun hi => ⟨vs, e1, by rw [← e2.length]; exact hi⟩, fun d hd => ?_⟩
  obtain ⟨x, hx, rx⟩ := e2.get hd
  refine ⟨⟨vs, x, e1, hx⟩, fun y H' z => ?_⟩
  obtain ⟨rfl, z⟩ := z
  have := z vs e1
  rw [hx] at this; cases this
  exact ⟨g, Le.refl _, R, rx⟩
def signs (z : Str) : List D := z.cps.toList.map fun c => .str ⟨#[c]⟩
theorem walks_str {g0 : Gh} {z : Str} : Walks G g0 ⟨signs z, []⟩ (Its z) := by
  intro g en st σ H i l R ok
  refine ⟨fun hi => ?_, fun d hd => ?_⟩
  · show z.cps.size ≤ i
    simpa [signs] using hi
  · have hd : (z.cps.toList.map fun c => D.str ⟨#[c]⟩)[i]? = some d := hd
    rw [List.getElem?_map] at hd
    obtain ⟨c, hc, rfl⟩ := Option.map_eq_some_iff.mp hd
    have hlt : i < z.cps.size := by
      have := (List.getElem?_eq_some_iff.mp hc).1
      simpa using this
    refine ⟨hlt, fun y H' w => ?_⟩
    obtain ⟨rfl, c', hc', rfl⟩ := w
    have : z.cps.toList[i]? = some c' := by simpa using hc'
    rw [hc] at this; cases this
    exact ⟨g, Le.refl _, R, rfl⟩
def iany (c : XE) : XI := fun en st => (c en st).bind fun d st => match d with
  | .tup ds => .ok ⟨ds, []⟩ st
  | .str z => .ok ⟨signs z, []⟩ st
  | d => match lsrc st d with
    | some it => .ok it st
    | none => .bad
theorem si_any {tg e : Expr} {c : XE} (hK : X.K = G.K) (h : SE G W X e c) : SI G W X tg e (iany c) :=
  ⟨PI_imp (PI_or (pi_list h.pe) (PI_or (pi_tup h.pe) (pi_str h.pe))) fun σ H K ⟨g, en, st, R, w⟩ => by
    unfold iany at w
    cases e : c en st with
    | bad => rw [e] at w; exact w.elim
    | exc c ds en' st' =>
      rw [e] at w
      exact .inl ⟨g, en, st, R, by rw [e]; exact w⟩
    | ok d st1 =>
      rw [e, bind_ok] at w
      split at w
      · rename_i ds
        refine .inr (.inl ⟨g, en, st, R, ?_⟩)
        rw [e]
        intro g' H' l R' v rv
        obtain ⟨a, vs, rfl, e1, e2⟩ := tup_H R' rv
        exact ⟨a, rfl, ⟨vs, by rw [hK]; exact e1⟩, by rw [hK]; exact w g' H' l R' _ (walks_tup rv)⟩
      · rename_i z
        refine .inr (.inr ⟨g, en, st, R, ?_⟩)
        rw [e]
        intro g' H' l R' v rv
        exact ⟨z, rv, w g' H' l R' _ walks_str⟩
      · split at w
        · rename_i it hit
          refine .inl ⟨g, en, st, R, ?_⟩
          rw [e]
          intro g' H' l R' v rv
          obtain ⟨a, rfl, q⟩ := lsrc_H rv hit
          have ok : okSrc it.src st1 = true := lsrc_ok hit
          obtain ⟨vs, e1, e2⟩ := q g' en st1 σ H' (Le.refl _) R' ok
          exact ⟨a, rfl, ⟨vs, by rw [hK]; exact e1⟩, by rw [hK]; exact w g' H' l R' _ (walks_list rv hit)⟩
        · exact w.elim⟩
def rngL (lo : Int) (n : Nat) : List D := (List.range n).map fun (k : Nat) => .int (lo + ((k : Nat) : Int))
theorem rngL_get {lo : Int} {n i : Nat} {d : D} (h : (rngL lo n)[i]? = some d) : i < n ∧ d = .int (lo + (i : Int)) := by
  unfold rngL at h
  rw [List.getElem?_map] at h
  obtain ⟨k, hk, rfl⟩ := Option.map_eq_some_iff.mp h
  obtain ⟨hl, e⟩ := List.getElem?_eq_some_iff.mp hk
  simp at hl e
  subst e
  exact ⟨hl, rfl⟩
theorem rngL_len {lo : Int} {n : Nat} : (rngL lo n).length = n := by simp [rngL]
theorem walks_rng {g0 : Gh} {lo : Int} {n : Nat} : Walks G g0 ⟨rngL lo n, []⟩ (Itr lo n) := by
  intro g en st σ H i l R ok
  refine ⟨fun hi => by rw [rngL_len] at hi; exact hi, fun d hd => ?_⟩
  obtain ⟨h1, rfl⟩ := rngL_get hd
  refine ⟨h1, fun y H' w => ?_⟩
  obtain ⟨rfl, rfl⟩ := w
  exact ⟨g, Le.refl _, R, rfl⟩
def ok62 (i : Int) : Bool := absLe i 4611686018427387903
theorem ok62_iff {i : Int} : ok62 i = true ↔ -(2 ^ 62) < i ∧ i < 2 ^ 62 := by
  unfold ok62
  rw [absLe_iff]
  omega
def irng1 (c : XA) : XI := fun en st => (c en st).bind fun ds st => match ds with
  | [.int j] => if ok62 j then .ok ⟨rngL 0 j.toNat, []⟩ st else .bad
  | _ => .bad
def irng2 (c : XA) : XI := fun en st => (c en st).bind fun ds st => match ds with
  | [.int i, .int j] => if ok62 i && ok62 j then .ok ⟨rngL i (j - i).toNat, []⟩ st else .bad
  | _ => .bad
theorem si_rng1 {tg a : Expr} {c : XA} {p pos : Pos} (hm : X.mg "range" = none) (ha : SA G W X [a] c) (hg : Gl X "range" := by rfl) (hs : starEach [a] X.env = [(false, eval a X.env)] := by rfl) : SI G W X tg (.Call (.Name "range" p) [a] [] pos) (irng1 c) :=
  ⟨PI_imp (pi_range1 hg hm ha.pa hs) fun σ H K ⟨g, en, st, R, w⟩ => by
    refine ⟨g, en, st, R, (pX.bind w).imp fun ds st1 g1 H1 l1 R1 h1 vs rvs => ?_⟩
    split at h1
    · rename_i j
      split at h1
      · rename_i c
        simp only [ok62_iff, Bool.and_eq_true, decide_eq_true_eq] at c
        obtain ⟨v, r, rfl, rfl, rfl⟩ := rvs
        exact ⟨j, rfl, by omega, c.2, h1 g1 H1 (Le.refl _) R1 _ walks_rng⟩
      · exact h1.elim
    · exact h1.elim⟩
def floop (src : List (Nat × List D)) (t : XG) (b : XS) : List D → XS
  | [] => fun en st => if okSrc src st then .ok (.nx, en) st else .bad
  | d :: ds => fun en st => if okSrc src st then (t d en st).bind fun en st => match b en st with
      | .ok (.nx, en) st => floop src t b ds en st
      | .ok (.ct, en) st => floop src t b ds en st
      | .ok (.bk, en) st => .ok (.nx, en) st
      | r => r
    else .bad
def sfor (c : XI) (t : XG) (b : XS) : XS := fun en st => (c en st).bind fun it st => floop it.src t b it.its en st
theorem ss_for {tg iter : Expr} {body : List Stmt} {c : XI} {t : XG} {b : XS} {pos : Pos} (hp : PassesOwn (model X.prog X.w) X.A X.env X.xe) (hc : X.calm = true) (hi : SI G W X tg iter c) (hg : SG G W X tg t) (hb : SL G W X body b)
    (hs : ∀ x, foldedSetIterable iter X.env x = pure x := by intro _; rfl) : SS G W X (.For tg iter body [] pos) (sfor c t b) :=
  ⟨PS_imp (ps_for hp hc hi.pi hg.pg hb.ps hs) fun D σ H ⟨g, en, st, R, h⟩ => by
    refine ⟨g, en, st, R, (pS.bind h).imp fun it st1 g1 H1 l1 R1 h1 J hJ => ?_⟩
    refine ⟨fun i m σ H => ∃ g en st, Le g1 g ∧ Rel G g en st σ H ∧ m = it.its.length - i ∧ i ≤ it.its.length ∧ pS G W g (floop it.src t b (it.its.drop i) en st) D,
      ⟨it.its.length, g1, en, st1, Le.refl _, R1, by simp, Nat.zero_le _, by simpa using h1⟩, ?_⟩
    rintro i m σ H ⟨g, en, st, l, R, rfl, hi, h⟩
    by_cases hlt : i < it.its.length
    · have hd : it.its[i]? = some it.its[i] := by simp [hlt]
      rw [List.drop_eq_getElem_cons hlt] at h
      unfold floop at h
      by_cases ok : okSrc it.src st = true
      · rw [if_pos ok] at h
        obtain ⟨_, q⟩ := hJ g en st σ H i l R ok
        obtain ⟨go, yl⟩ := q _ hd
        refine .inr ⟨go, fun σ' H' => ∃ g en st, Le g1 g ∧ Rel G g en st σ' H' ∧ pS G W g (floop it.src t b (it.its.drop (i + 1)) en st) D, fun σ' H' ⟨g', en', st', l', R', h'⟩ => ⟨_, by omega, g', en', st', l', R', rfl, hlt, h'⟩, fun x H' y => ?_⟩
        obtain ⟨g2, l2, R2, r2⟩ := yl x H' y
        refine ⟨g2, en, st, it.its[i], R2, r2, ?_⟩
        cases e : t it.its[i] en st with
        | bad => rw [e] at h; exact h.elim
        | exc c ds en' st' => rw [e] at h; exact fun g' σ' H' d l' R' z => h g' σ' H' d (l2.trans l') R' z
        | ok en2 st2 =>
          rw [e, bind_ok] at h
          intro g3 σ3 H3 l3 R3
          refine ⟨g3, en2, st2, R3, ?_⟩
          have l13 : Le g g3 := l2.trans l3
          cases e2 : b en2 st2 with
          | bad => rw [e2] at h; exact h.elim
          | exc c ds en' st' => rw [e2] at h; exact fun g' σ' H' d l' R' z => h g' σ' H' d (l13.trans l') R' z
          | ok p st4 =>
            obtain ⟨fl, en4⟩ := p
            rw [e2] at h
            cases fl with
            | nx => exact fun g' σ' H' l' R' => ⟨g', en4, st4, l.trans (l13.trans l'), R', pS.weak (l13.trans l') h⟩
            | ct => exact fun g' σ' H' l' R' => ⟨g', en4, st4, l.trans (l13.trans l'), R', pS.weak (l13.trans l') h⟩
            | bk => exact fun g' σ' H' l' R' => h g' σ' H' (l13.trans l') R'
            | rt d => exact fun g' σ' H' l' R' => h g' σ' H' (l13.trans l') R'
      · rw [if_neg ok] at h; exact h.elim
    · have e : i = it.its.length := by omega
      subst e
      rw [List.drop_length] at h
      unfold floop at h
      by_cases ok : okSrc it.src st = true
      · rw [if_pos ok] at h
        exact .inl ⟨(hJ g en st σ H _ l R ok).1 (Nat.le_refl _), h g σ H (Le.refl _) R⟩
      · rw [if_neg ok] at h; exact h.elim⟩
end
end Px
namespace Px
open PySem PySem.Spec L2
def shapeO (G : GS) : Cell → List V → HO → Prop
  | .lst _, vs, o => o = .lst vs
  | .dk ks _, vs, o => o = .dK (ks.zip vs) ∧ ks.length = vs.length
  | .dt ks _, vs, o => o = .dT (ks.zip vs) ∧ ks.length = vs.length
  | .obj c _, vs, o => (∃ dx, o = .ins (G.cls c) dx ((G.flds c).zip vs)) ∧ vs.length ≤ (G.flds c).length
  | .gone, _, _ => False
def Cell.items : Cell → List D
  | .lst ds => ds | .dk _ ds => ds | .dt _ ds => ds | .obj _ ds => ds | .gone => []
def Cell.with (c : Cell) (es : List D) : Cell := match c with
  | .lst _ => .lst es | .dk ks _ => .dk ks es | .dt ks _ => .dt ks es | .obj k _ => .obj k es | .gone => .gone
theorem shapeO_with {G : GS} {c : Cell} {es : List D} {vs : List V} {o : HO} : shapeO G (c.with es) vs o = shapeO G c vs o := by cases c <;> rfl
theorem CO_of {G : GS} {g : Gh} {c : Cell} {vs : List V} {o : HO} (h : shapeO G c vs o) (r : RepL G g c.items vs) : CO G g c o := by
  cases c with
  | lst ds => exact ⟨vs, h, r⟩
  | dk ks ds => exact ⟨vs, h.1, h.2, r⟩
  | dt ks ds => exact ⟨vs, h.1, h.2, r⟩
  | obj c ds => obtain ⟨⟨dx, e⟩, l⟩ := h; exact ⟨dx, vs, e, l, r⟩
  | gone => exact h
theorem CO_to {G : GS} {g : Gh} {c : Cell} {o : HO} (h : CO G g c o) : ∃ vs, shapeO G c vs o ∧ RepL G g c.items vs := by
  cases c with
  | lst ds => obtain ⟨vs, e, r⟩ := h; exact ⟨vs, e, r⟩
  | dk ks ds => obtain ⟨vs, e, l, r⟩ := h; exact ⟨vs, ⟨e, l⟩, r⟩
  | dt ks ds => obtain ⟨vs, e, l, r⟩ := h; exact ⟨vs, ⟨e, l⟩, r⟩
  | obj c ds => obtain ⟨dx, vs, e, l, r⟩ := h; exact ⟨vs, ⟨⟨dx, e⟩, l⟩, r⟩
  | gone => exact h.elim
def OwnAt (G : GS) (g : Gh) (H : Hp) (c : Cell) (T : List V → List Addr → Prop) (v : V) (fp : List Addr) : Prop :=
  ∃ a vs o fp', v = .ref a ∧ H a = some o ∧ shapeO G c vs o ∧ g.F a = none ∧ g.L a = none ∧ T vs fp' ∧ fp = fp' ++ [a]
mutual
def RepT (ok : D → Bool) (G : GS) (g : Gh) (H : Hp) : D → V → List Addr → Prop
  | .tup ds, v, fp => ∃ a vs, v = .ref a ∧ SqT G.K g.F a vs ∧ RepTL ok G g H ds vs fp
  | .lst .own ds, v, fp => OwnAt G g H (.lst ds) (RepTL ok G g H ds) v fp
  | .dk .own ks ds, v, fp => OwnAt G g H (.dk ks ds) (RepTL ok G g H ds) v fp
  | .dt .own ks ds, v, fp => OwnAt G g H (.dt ks ds) (RepTL ok G g H ds) v fp
  | .obj .own c ds, v, fp => OwnAt G g H (.obj c ds) (RepTL ok G g H ds) v fp
  | d, v, fp => ok d = true ∧ d.noc = true ∧ Rep G g d v ∧ fp = []
def RepTL (ok : D → Bool) (G : GS) (g : Gh) (H : Hp) : List D → List V → List Addr → Prop
  | [], vs, fp => vs = [] ∧ fp = []
  | d :: ds, vs, fp => ∃ v r f1 f2, vs = v :: r ∧ RepT ok G g H d v f1 ∧ RepTL ok G g H ds r f2 ∧ fp = f1 ++ f2
end
structure Tr (ok : D → Bool) (G : GS) (g gg : Gh) : Prop where
  F : Same g.F gg.F
  leaf : ∀ d v, ok d = true → d.noc = true → Rep G g d v → Rep G gg d v
section
variable {ok : D → Bool} {G : GS} {g gg : Gh} {H : Hp}
inductive Kind : D → Prop where
  | tup (ds : List D) : Kind (.tup ds)
  | own (d : D) (c : Cell) (h : ∀ ok G g H v fp, RepT ok G g H d v fp = OwnAt G g H c (RepTL ok G g H c.items) v fp) (hn : d.noc = false)
      (hi : ∀ n, imp d n = if nocL c.items then (.cell n, [c]) else (.cell (n + (impL c.items n).2.length), (impL c.items n).2 ++ [c.with (impL c.items n).1])) (hc : c ≠ .gone) : Kind d
  | leaf (d : D) (h : ∀ ok G g H v fp, RepT ok G g H d v fp = (ok d = true ∧ d.noc = true ∧ Rep G g d v ∧ fp = [])) (hi : ∀ n, imp d n = (d, [])) : Kind d
theorem kind (d : D) : Kind d := by
  cases d with
  | non => exact .leaf _ (fun _ _ _ _ _ _ => rfl) fun _ => rfl
  | bl b => exact .leaf _ (fun _ _ _ _ _ _ => rfl) fun _ => rfl
  | int i => exact .leaf _ (fun _ _ _ _ _ _ => rfl) fun _ => rfl
  | str x => exact .leaf _ (fun _ _ _ _ _ _ => rfl) fun _ => rfl
  | tup ds => exact .tup ds
  | lst m ds =>
    cases m with
    | own => exact .own _ (.lst ds) (fun _ _ _ _ _ _ => rfl) rfl (fun _ => rfl) (by intro z; cases z)
    | _ => exact .leaf _ (fun _ _ _ _ _ _ => rfl) fun _ => rfl
  | dk m ks ds =>
    cases m with
    | own => exact .own _ (.dk ks ds) (fun _ _ _ _ _ _ => rfl) rfl (fun _ => rfl) (by intro z; cases z)
    | _ => exact .leaf _ (fun _ _ _ _ _ _ => rfl) fun _ => rfl
  | dt m ks ds =>
    cases m with
    | own => exact .own _ (.dt ks ds) (fun _ _ _ _ _ _ => rfl) rfl (fun _ => rfl) (by intro z; cases z)
    | _ => exact .leaf _ (fun _ _ _ _ _ _ => rfl) fun _ => rfl
  | obj m c ds =>
    cases m with
    | own => exact .own _ (.obj c ds) (fun _ _ _ _ _ _ => rfl) rfl (fun _ => rfl) (by intro z; cases z)
    | _ => exact .leaf _ (fun _ _ _ _ _ _ => rfl) fun _ => rfl
  | cell i => exact .leaf _ (fun _ _ _ _ _ _ => rfl) fun _ => rfl
mutual
theorem RepT.ofNoc (t : Tr ok G g gg) : ∀ (d : D) (v : V) (fp : List Addr), d.noc = true → RepT ok G g H d v fp → fp = [] ∧ Rep G gg d v
  | .tup ds, v, fp, n, ⟨a, vs, e, q, r⟩ => by
    obtain ⟨e1, e2⟩ := RepTL.ofNoc t ds vs fp (by simpa [D.noc] using n) r
    exact ⟨e1, a, vs, e, seqT_same t.F q, e2⟩
  | .lst m ds, v, fp, n, h => by
    rcases kind (.lst m ds) with _ | ⟨_, c, k, hn, _, _⟩ | ⟨_, k, _⟩
    · rw [n] at hn; cases hn
    · rw [k] at h; exact ⟨h.2.2.2, t.leaf _ _ h.1 h.2.1 h.2.2.1⟩
  | .dk m ks ds, v, fp, n, h => by
    rcases kind (.dk m ks ds) with _ | ⟨_, c, k, hn, _, _⟩ | ⟨_, k, _⟩
    · rw [n] at hn; cases hn
    · rw [k] at h; exact ⟨h.2.2.2, t.leaf _ _ h.1 h.2.1 h.2.2.1⟩
  | .dt m ks ds, v, fp, n, h => by
    rcases kind (.dt m ks ds) with _ | ⟨_, c, k, hn, _, _⟩ | ⟨_, k, _⟩
    · rw [n] at hn; cases hn
    · rw [k] at h; exact ⟨h.2.2.2, t.leaf _ _ h.1 h.2.1 h.2.2.1⟩
  | .obj m c ds, v, fp, n, h => by
    rcases kind (.obj m c ds) with _ | ⟨_, c, k, hn, _, _⟩ | ⟨_, k, _⟩
    · rw [n] at hn; cases hn
    · rw [k] at h; exact ⟨h.2.2.2, t.leaf _ _ h.1 h.2.1 h.2.2.1⟩
  | .non, v, fp, n, h => ⟨h.2.2.2, t.leaf _ _ h.1 h.2.1 h.2.2.1⟩
  | .bl _, v, fp, n, h => ⟨h.2.2.2, t.leaf _ _ h.1 h.2.1 h.2.2.1⟩
  | .int _, v, fp, n, h => ⟨h.2.2.2, t.leaf _ _ h.1 h.2.1 h.2.2.1⟩
  | .str _, v, fp, n, h => ⟨h.2.2.2, t.leaf _ _ h.1 h.2.1 h.2.2.1⟩
  | .cell _, v, fp, n, h => ⟨h.2.2.2, t.leaf _ _ h.1 h.2.1 h.2.2.1⟩
theorem RepTL.ofNoc (t : Tr ok G g gg) : ∀ (ds : List D) (vs : List V) (fp : List Addr), nocL ds = true → RepTL ok G g H ds vs fp → fp = [] ∧ RepL G gg ds vs
  | [], vs, fp, n, ⟨e1, e2⟩ => ⟨e2, e1⟩
  | d :: ds, vs, fp, n, ⟨v, r, f1, f2, e1, e2, e3, e4⟩ => by
    simp [nocL] at n
    obtain ⟨a1, a2⟩ := RepT.ofNoc t d v f1 n.1 e2
    obtain ⟨b1, b2⟩ := RepTL.ofNoc t ds r f2 n.2 e3
    exact ⟨by rw [e4, a1, b1]; rfl, v, r, e1, a2, b2⟩
end
def CellsAt (G : GS) (g gg : Gh) (H : Hp) (cs : List Cell) (fp : List Addr) : Prop :=
  ∀ (k : Nat) (c : Cell), cs[k]? = some c → c ≠ .gone ∧ ∃ a o, fp[k]? = some a ∧ H a = some o ∧ CO G gg c o ∧ g.F a = none ∧ g.L a = none
theorem CellsAt.append {cs cs' : List Cell} {fp fp' : List Addr} (h : CellsAt G g gg H cs fp) (h' : CellsAt G g gg H cs' fp') (l : cs.length = fp.length) : CellsAt G g gg H (cs ++ cs') (fp ++ fp') := by
  intro k c e
  by_cases hk : k < cs.length
  · rw [List.getElem?_append_left hk] at e
    rw [List.getElem?_append_left (by omega)]
    exact h k c e
  · rw [List.getElem?_append_right (by omega)] at e
    rw [List.getElem?_append_right (by omega), ← l]
    exact h' _ c e
theorem CellsAt.nil : CellsAt G g gg H [] [] := fun k c e => by simp at e
theorem CellsAt.one {c : Cell} {a : Addr} {o : HO} (hn : c ≠ .gone) (h : H a = some o) (hc : CO G gg c o) (hF : g.F a = none) (hL : g.L a = none) : CellsAt G g gg H [c] [a] := fun k d e => by
  cases k with
  | zero => simp at e; subst e; exact ⟨hn, a, o, rfl, h, hc, hF, hL⟩
  | succ k => simp at e
def Pre (as : List Addr) (gg : Gh) : Prop := ∀ (i : Nat) (a : Addr), as[i]? = some a → gg.as[i]? = some a
theorem Pre.left {as bs : List Addr} (h : Pre (as ++ bs) gg) : Pre as gg := fun i a e => h i a (by rw [List.getElem?_append_left (List.getElem?_eq_some_iff.mp e).1]; exact e)
mutual
theorem imp_ok (t : Tr ok G g gg) : ∀ (d : D) (v : V) (fp as : List Addr), RepT ok G g H d v fp → Pre (as ++ fp) gg →
    (imp d as.length).2.length = fp.length ∧ Rep G gg (imp d as.length).1 v ∧ CellsAt G g gg H (imp d as.length).2 fp
  | .tup ds, v, fp, as, ⟨a, vs, e, q, r⟩, hp => by
    by_cases n : nocL ds = true
    · obtain ⟨rfl, e2⟩ := RepTL.ofNoc t ds vs fp n r
      have hi : imp (.tup ds) as.length = (.tup ds, []) := by simp only [imp]; rw [if_pos n]
      rw [hi]
      exact ⟨rfl, ⟨a, vs, e, seqT_same t.F q, e2⟩, .nil⟩
    · obtain ⟨h1, h2, h3⟩ := impL_ok t ds vs fp as r hp
      have hi : imp (.tup ds) as.length = (.tup (impL ds as.length).1, (impL ds as.length).2) := by simp only [imp]; rw [if_neg n]
      rw [hi]
      exact ⟨h1, ⟨a, vs, e, seqT_same t.F q, h2⟩, h3⟩
  | .lst .own ds, v, fp, as, ⟨a, vs, o, fp', e1, e2, e3, e4, e5, e6, e7⟩, hp => by
    subst e7
    have hat : gg.as[as.length + fp'.length]? = some a := hp _ _ (by rw [← List.append_assoc, List.getElem?_append_right (by simp)]; simp)
    by_cases n : nocL ds = true
    · obtain ⟨rfl, q⟩ := RepTL.ofNoc t ds vs fp' n e6
      have hi : imp (.lst .own ds) as.length = (.cell as.length, [.lst ds]) := by simp only [imp]; rw [if_pos n]
      rw [hi]
      exact ⟨rfl, ⟨a, by simpa using hat, e1⟩, .one (by intro z; cases z) e2 (CO_of e3 q) e4 e5⟩
    · obtain ⟨h1, h2, h3⟩ := impL_ok t ds vs fp' as e6 (by rw [← List.append_assoc] at hp; exact hp.left)
      have hi : imp (.lst .own ds) as.length = (.cell (as.length + (impL ds as.length).2.length), (impL ds as.length).2 ++ [.lst (impL ds as.length).1]) := by simp only [imp]; rw [if_neg n]
      rw [hi]
      refine ⟨by simp [h1], ⟨a, by rw [h1]; exact hat, e1⟩, h3.append (.one (by intro z; cases z) e2 (CO_of (vs := vs) (by exact e3) h2) e4 e5) h1⟩
  | .dk .own ks ds, v, fp, as, ⟨a, vs, o, fp', e1, e2, e3, e4, e5, e6, e7⟩, hp => by
    subst e7
    have hat : gg.as[as.length + fp'.length]? = some a := hp _ _ (by rw [← List.append_assoc, List.getElem?_append_right (by simp)]; simp)
    by_cases n : nocL ds = true
    · obtain ⟨rfl, q⟩ := RepTL.ofNoc t ds vs fp' n e6
      have hi : imp (.dk .own ks ds) as.length = (.cell as.length, [.dk ks ds]) := by simp only [imp]; rw [if_pos n]
      rw [hi]
      exact ⟨rfl, ⟨a, by simpa using hat, e1⟩, .one (by intro z; cases z) e2 (CO_of e3 q) e4 e5⟩
    · obtain ⟨h1, h2, h3⟩ := impL_ok t ds vs fp' as e6 (by rw [← List.append_assoc] at hp; exact hp.left)
      have hi : imp (.dk .own ks ds) as.length = (.cell (as.length + (impL ds as.length).2.length), (impL ds as.length).2 ++ [.dk ks (impL ds as.length).1]) := by simp only [imp]; rw [if_neg n]
      rw [hi]
      refine ⟨by simp [h1], ⟨a, by rw [h1]; exact hat, e1⟩, h3.append (.one (by intro z; cases z) e2 (CO_of (vs := vs) (by exact e3) h2) e4 e5) h1⟩
  | .dt .own ks ds, v, fp, as, ⟨a, vs, o, fp', e1, e2, e3, e4, e5, e6, e7⟩, hp => by
    subst e7
    have hat : gg.as[as.length + fp'.length]? = some a := hp _ _ (by rw [← List.append_assoc, List.getElem?_append_right (by simp)]; simp)
    by_cases n : nocL ds = true
    · obtain ⟨rfl, q⟩ := RepTL.ofNoc t ds vs fp' n e6
      have hi : imp (.dt .own ks ds) as.length = (.cell as.length, [.dt ks ds]) := by simp only [imp]; rw [if_pos n]
      rw [hi]
      exact ⟨rfl, ⟨a, by simpa using hat, e1⟩, .one (by intro z; cases z) e2 (CO_of e3 q) e4 e5⟩
    · obtain ⟨h1, h2, h3⟩ := impL_ok t ds vs fp' as e6 (by rw [← List.append_assoc] at hp; exact hp.left)
      have hi : imp (.dt .own ks ds) as.length = (.cell (as.length + (impL ds as.length).2.length), (impL ds as.length).2 ++ [.dt ks (impL ds as.length).1]) := by simp only [imp]; rw [if_neg n]
      rw [hi]
      refine ⟨by simp [h1], ⟨a, by rw [h1]; exact hat, e1⟩, h3.append (.one (by intro z; cases z) e2 (CO_of (vs := vs) (by exact e3) h2) e4 e5) h1⟩
  | .obj .own c ds, v, fp, as, ⟨a, vs, o, fp', e1, e2, e3, e4, e5, e6, e7⟩, hp => by
    subst e7
    have hat : gg.as[as.length + fp'.length]? = some a := hp _ _ (by rw [← List.append_assoc, List.getElem?_append_right (by simp)]; simp)
    by_cases n : nocL ds = true
    · obtain ⟨rfl, q⟩ := RepTL.ofNoc t ds vs fp' n e6
      have hi : imp (.obj .own c ds) as.length = (.cell as.length, [.obj c ds]) := by simp only [imp]; rw [if_pos n]
      rw [hi]
      exact ⟨rfl, ⟨a, by simpa using hat, e1⟩, .one (by intro z; cases z) e2 (CO_of e3 q) e4 e5⟩
    · obtain ⟨h1, h2, h3⟩ := impL_ok t ds vs fp' as e6 (by rw [← List.append_assoc] at hp; exact hp.left)
      have hi : imp (.obj .own c ds) as.length = (.cell (as.length + (impL ds as.length).2.length), (impL ds as.length).2 ++ [.obj c (impL ds as.length).1]) := by simp only [imp]; rw [if_neg n]
      rw [hi]
      refine ⟨by simp [h1], ⟨a, by rw [h1]; exact hat, e1⟩, h3.append (.one (by intro z; cases z) e2 (CO_of (vs := vs) (by exact e3) h2) e4 e5) h1⟩
  | .non, v, fp, as, h, hp => by obtain ⟨h1, h2, h3, rfl⟩ := h; exact ⟨rfl, t.leaf _ _ h1 h2 h3, .nil⟩
  | .bl _, v, fp, as, h, hp => by obtain ⟨h1, h2, h3, rfl⟩ := h; exact ⟨rfl, t.leaf _ _ h1 h2 h3, .nil⟩
  | .int _, v, fp, as, h, hp => by obtain ⟨h1, h2, h3, rfl⟩ := h; exact ⟨rfl, t.leaf _ _ h1 h2 h3, .nil⟩
  | .str _, v, fp, as, h, hp => by obtain ⟨h1, h2, h3, rfl⟩ := h; exact ⟨rfl, t.leaf _ _ h1 h2 h3, .nil⟩
  | .cell _, v, fp, as, h, hp => by obtain ⟨h1, h2, h3, rfl⟩ := h; exact ⟨rfl, t.leaf _ _ h1 h2 h3, .nil⟩
  | .lst .frz _, v, fp, as, h, hp => by obtain ⟨h1, h2, h3, rfl⟩ := h; exact ⟨rfl, t.leaf _ _ h1 h2 h3, .nil⟩
  | .lst .loan _, v, fp, as, h, hp => by obtain ⟨h1, h2, h3, rfl⟩ := h; exact ⟨rfl, t.leaf _ _ h1 h2 h3, .nil⟩
  | .lst .ro _, v, fp, as, h, hp => by obtain ⟨h1, h2, h3, rfl⟩ := h; exact ⟨rfl, t.leaf _ _ h1 h2 h3, .nil⟩
  | .dk .frz _ _, v, fp, as, h, hp => by obtain ⟨h1, h2, h3, rfl⟩ := h; exact ⟨rfl, t.leaf _ _ h1 h2 h3, .nil⟩
  | .dk .loan _ _, v, fp, as, h, hp => by obtain ⟨h1, h2, h3, rfl⟩ := h; exact ⟨rfl, t.leaf _ _ h1 h2 h3, .nil⟩
  | .dk .ro _ _, v, fp, as, h, hp => by obtain ⟨h1, h2, h3, rfl⟩ := h; exact ⟨rfl, t.leaf _ _ h1 h2 h3, .nil⟩
  | .dt .frz _ _, v, fp, as, h, hp => by obtain ⟨h1, h2, h3, rfl⟩ := h; exact ⟨rfl, t.leaf _ _ h1 h2 h3, .nil⟩
  | .dt .loan _ _, v, fp, as, h, hp => by obtain ⟨h1, h2, h3, rfl⟩ := h; exact ⟨rfl, t.leaf _ _ h1 h2 h3, .nil⟩
  | .dt .ro _ _, v, fp, as, h, hp => by obtain ⟨h1, h2, h3, rfl⟩ := h; exact ⟨rfl, t.leaf _ _ h1 h2 h3, .nil⟩
  | .obj .frz _ _, v, fp, as, h, hp => by obtain ⟨h1, h2, h3, rfl⟩ := h; exact ⟨rfl, t.leaf _ _ h1 h2 h3, .nil⟩
  | .obj .loan _ _, v, fp, as, h, hp => by obtain ⟨h1, h2, h3, rfl⟩ := h; exact ⟨rfl, t.leaf _ _ h1 h2 h3, .nil⟩
  | .obj .ro _ _, v, fp, as, h, hp => by obtain ⟨h1, h2, h3, rfl⟩ := h; exact ⟨rfl, t.leaf _ _ h1 h2 h3, .nil⟩
theorem impL_ok (t : Tr ok G g gg) : ∀ (ds : List D) (vs : List V) (fp as : List Addr), RepTL ok G g H ds vs fp → Pre (as ++ fp) gg →
    (impL ds as.length).2.length = fp.length ∧ RepL G gg (impL ds as.length).1 vs ∧ CellsAt G g gg H (impL ds as.length).2 fp
  | [], vs, fp, as, ⟨e1, e2⟩, hp => by subst e1; subst e2; exact ⟨rfl, rfl, .nil⟩
  | d :: ds, vs, fp, as, ⟨v, r, f1, f2, e1, e2, e3, e4⟩, hp => by
    subst e4
    obtain ⟨h1, h2, h3⟩ := imp_ok t d v f1 as e2 (by rw [← List.append_assoc] at hp; exact hp.left)
    have hl : (as ++ f1).length = as.length + (imp d as.length).2.length := by rw [List.length_append, h1]
    obtain ⟨k1, k2, k3⟩ := impL_ok t ds r f2 (as ++ f1) e3 (by rw [List.append_assoc]; exact hp)
    rw [hl] at k1 k2 k3
    refine ⟨?_, ⟨v, r, e1, ?_, ?_⟩, ?_⟩
    · simp only [impL, List.length_append]; omega
    · exact h2
    · exact k2
    · exact h3.append k3 h1
end
end
end Px
namespace Px
open PySem PySem.Spec L2
def AtJs (g : Gh) (st : Sto) (js : List Nat) (fp : List Addr) : Prop :=
  js.length = fp.length ∧ ∀ (k i : Nat), js[k]? = some i → ∃ a c, fp[k]? = some a ∧ g.as[i]? = some a ∧ st[i]? = some c ∧ c ≠ .gone
theorem AtJs.nil {g : Gh} {st : Sto} : AtJs g st [] [] := ⟨rfl, fun k i h => by simp at h⟩
theorem AtJs.append {g : Gh} {st : Sto} {js ks : List Nat} {fp fq : List Addr} (h : AtJs g st js fp) (h' : AtJs g st ks fq) : AtJs g st (js ++ ks) (fp ++ fq) := by
  refine ⟨by simp [h.1, h'.1], fun k i e => ?_⟩
  by_cases hk : k < js.length
  · rw [List.getElem?_append_left hk] at e
    rw [List.getElem?_append_left (by rw [← h.1]; exact hk)]
    exact h.2 k i e
  · rw [List.getElem?_append_right (by omega)] at e
    rw [List.getElem?_append_right (by rw [← h.1]; omega), ← h.1]
    exact h'.2 _ i e
theorem AtJs.one {g : Gh} {st : Sto} {i : Nat} {a : Addr} {c : Cell} (ha : g.as[i]? = some a) (hc : st[i]? = some c) (hn : c ≠ .gone) : AtJs g st [i] [a] := ⟨rfl, fun k j h => by
  cases k with
  | zero => simp at h; subst h; exact ⟨a, c, rfl, ha, hc, hn⟩
  | succ k => simp at h⟩
theorem AtJs.nodup {G : GS} {g : Gh} {en : En} {st : Sto} {σ : L2.St} {H : Hp} (R : Rel G g en st σ H) {js : List Nat} {fp : List Addr} (h : AtJs g st js fp) (hn : js.Nodup) : fp.Nodup := by
  refine List.pairwise_iff_getElem.mpr fun i j hi hj hij e => ?_
  have hi' : i < js.length := by rw [h.1]; exact hi
  have hj' : j < js.length := by rw [h.1]; exact hj
  obtain ⟨a, c, e1, e2, e3, e4⟩ := h.2 i js[i] (List.getElem?_eq_getElem hi')
  obtain ⟨b, d, f1, f2, f3, f4⟩ := h.2 j js[j] (List.getElem?_eq_getElem hj')
  rw [List.getElem?_eq_getElem hi] at e1
  rw [List.getElem?_eq_getElem hj] at f1
  have ea : a = b := by rw [← Option.some.inj e1, ← Option.some.inj f1]; exact e
  subst ea
  have := R.inj _ _ c d a e3 f3 e4 f4 e2 f2
  exact absurd ((List.getElem_inj hn).mp this) (by omega)
section
variable {ok : D → Bool} {G : GS} {g gt : Gh} {en : En} {st : Sto} {σ : L2.St} {H : Hp}
structure Into (ok : D → Bool) (G : GS) (g gt : Gh) : Prop where
  F : gt.F = g.F
  noc : ∀ d, ok d = true → d.noc = true
  sub : ∀ ds, ok (.tup ds) = true → ∀ d ∈ ds, ok d = true
  leaf : ∀ d v, ok d = true → Rep G g d v → Rep G gt d v
mutual
theorem leafT (i : Into ok G g gt) : ∀ (d : D) (v : V), ok d = true → Rep G g d v → RepT ok G gt H d v []
  | .tup ds, v, h, ⟨a, vs, e, q, r⟩ => ⟨a, vs, e, by rw [i.F]; exact q, leafTL i ds vs (i.sub ds h) r⟩
  | .lst m ds, v, h, r => by
    rcases kind (.lst m ds) with _ | ⟨_, c, k, hn, _, _⟩ | ⟨_, k, _⟩
    · rw [i.noc _ h] at hn; cases hn
    · rw [k]; exact ⟨h, i.noc _ h, i.leaf _ _ h r, rfl⟩
  | .dk m ks ds, v, h, r => by
    rcases kind (.dk m ks ds) with _ | ⟨_, c, k, hn, _, _⟩ | ⟨_, k, _⟩
    · rw [i.noc _ h] at hn; cases hn
    · rw [k]; exact ⟨h, i.noc _ h, i.leaf _ _ h r, rfl⟩
  | .dt m ks ds, v, h, r => by
    rcases kind (.dt m ks ds) with _ | ⟨_, c, k, hn, _, _⟩ | ⟨_, k, _⟩
    · rw [i.noc _ h] at hn; cases hn
    · rw [k]; exact ⟨h, i.noc _ h, i.leaf _ _ h r, rfl⟩
  | .obj m c ds, v, h, r => by
    rcases kind (.obj m c ds) with _ | ⟨_, c, k, hn, _, _⟩ | ⟨_, k, _⟩
    · rw [i.noc _ h] at hn; cases hn
    · rw [k]; exact ⟨h, i.noc _ h, i.leaf _ _ h r, rfl⟩
  | .non, v, h, r => ⟨h, rfl, i.leaf _ _ h r, rfl⟩
  | .bl _, v, h, r => ⟨h, rfl, i.leaf _ _ h r, rfl⟩
  | .int _, v, h, r => ⟨h, rfl, i.leaf _ _ h r, rfl⟩
  | .str _, v, h, r => ⟨h, rfl, i.leaf _ _ h r, rfl⟩
  | .cell j, v, h, r => by have := i.noc _ h; simp [D.noc] at this
theorem leafTL (i : Into ok G g gt) : ∀ (ds : List D) (vs : List V), (∀ d ∈ ds, ok d = true) → RepL G g ds vs → RepTL ok G gt H ds vs []
  | [], vs, _, r => ⟨r, rfl⟩
  | d :: ds, vs, h, ⟨v, vr, e, r1, r2⟩ => ⟨v, vr, [], [], e, leafT i d v (h d List.mem_cons_self) r1, leafTL i ds vr (fun x hx => h x (List.mem_cons_of_mem _ hx)) r2, rfl⟩
end
def Taken (ok : D → Bool) (G : GS) (g : Gh) (st : Sto) (H : Hp) (d : D) (v : V) (e : D) (js : List Nat) : Prop :=
  ∃ fp, AtJs g st js fp ∧ ∀ gt, Into ok G g gt → (∀ a ∈ fp, gt.L a = none) → RepT ok G gt H e v fp
def TakenL (ok : D → Bool) (G : GS) (g : Gh) (st : Sto) (H : Hp) (ds : List D) (vs : List V) (es : List D) (js : List Nat) : Prop :=
  ∃ fp, AtJs g st js fp ∧ ∀ gt, Into ok G g gt → (∀ a ∈ fp, gt.L a = none) → RepTL ok G gt H es vs fp
theorem mapO_ok {f : D → Option (D × List Nat)} (hf : ∀ d v e js, f d = some (e, js) → Rep G g d v → Taken ok G g st H d v e js) :
    ∀ (ds : List D) (vs : List V) (es : List D) (js : List Nat), mapO f ds = some (es, js) → RepL G g ds vs → TakenL ok G g st H ds vs es js
  | [], vs, es, js, h, r => by cases h; exact ⟨[], .nil, fun gt _ _ => ⟨r, rfl⟩⟩
  | d :: ds, vs, es, js, h, ⟨v, vr, e, r1, r2⟩ => by
    simp only [mapO] at h
    split at h
    · rename_i p q hp hq
      cases h
      obtain ⟨f1, a1, b1⟩ := hf d v p.1 p.2 hp r1
      obtain ⟨f2, a2, b2⟩ := mapO_ok hf ds vr q.1 q.2 hq r2
      exact ⟨f1 ++ f2, a1.append a2, fun gt i hL => ⟨v, vr, f1, f2, e, b1 gt i fun a ha => hL a (List.mem_append_left _ ha), b2 gt i fun a ha => hL a (List.mem_append_right _ ha), rfl⟩⟩
    · cases h
theorem takeL_ok {f : D → Option (D × List Nat)} (hf : ∀ d v e js, f d = some (e, js) → Rep G g d v → Taken ok G g st H d v e js)
    {ds : List D} {vs : List V} {es : List D} {js : List Nat} (h : takeL ok f ds = some (es, js)) (r : RepL G g ds vs) : TakenL ok G g st H ds vs es js := by
  unfold takeL at h
  split at h
  · rename_i c
    cases h
    exact ⟨[], .nil, fun gt i _ => leafTL i ds vs (fun d hd => List.all_eq_true.mp c d hd) r⟩
  · exact mapO_ok hf ds vs es js h r
theorem take_own {c : Cell} {i : Nat} {e : D} {v : V} {es : List D} {js : List Nat} (R : Rel G g en st σ H) (hi : st[i]? = some c) (hn : c ≠ .gone) (r : Rep G g (.cell i) v)
    (he : ∀ ok G g H v fp, RepT ok G g H e v fp = OwnAt G g H (c.with es) (RepTL ok G g H es) v fp)
    (h : ∀ vs, RepL G g c.items vs → TakenL ok G g st H c.items vs es js) : Taken ok G g st H (.cell i) v e (js ++ [i]) := by
  obtain ⟨a, ha, rfl⟩ := r
  obtain ⟨a', o, e1, e2, e3, e4, e5⟩ := R.cell i c hi hn
  rw [ha] at e1; cases e1
  obtain ⟨vs, s1, s2⟩ := CO_to e3
  obtain ⟨fp, q1, q2⟩ := h vs s2
  refine ⟨fp ++ [a], q1.append (.one ha hi hn), fun gt i hL => ?_⟩
  rw [he]
  exact ⟨a, vs, o, fp, rfl, e2, by rw [shapeO_with]; exact s1, by rw [i.F]; exact e4, hL a (by simp), q2 gt i fun b hb => hL b (List.mem_append_left _ hb), rfl⟩
theorem take_ok (R : Rel G g en st σ H) : ∀ (n : Nat) (d : D) (v : V) (e : D) (js : List Nat), take ok st n d = some (e, js) → Rep G g d v → Taken ok G g st H d v e js
  | 0, d, v, e, js, h, r => by
    unfold take at h
    split at h
    · rename_i c
      cases h
      exact ⟨[], .nil, fun gt i _ => leafT i d v c r⟩
    · cases h
  | n + 1, d, v, e, js, h, r => by
    have ih := take_ok R n
    unfold take at h
    split at h
    · rename_i c
      cases h
      exact ⟨[], .nil, fun gt i _ => leafT i d v c r⟩
    · split at h
      · rename_i ds _
        obtain ⟨p, hp, e1⟩ := Option.map_eq_some_iff.mp h
        cases e1
        obtain ⟨a, vs, e1, e2, e3⟩ := r
        obtain ⟨fp, q1, q2⟩ := takeL_ok ih hp e3
        exact ⟨fp, q1, fun gt i hL => ⟨a, vs, e1, by rw [i.F]; exact e2, q2 gt i hL⟩⟩
      · rename_i i _
        split at h
        · rename_i ds hi
          obtain ⟨p, hp, e1⟩ := Option.map_eq_some_iff.mp h
          cases e1
          exact take_own R hi (by intro z; cases z) r (fun _ _ _ _ _ _ => rfl) fun vs rv => takeL_ok ih hp rv
        · rename_i ks ds hi
          obtain ⟨p, hp, e1⟩ := Option.map_eq_some_iff.mp h
          cases e1
          exact take_own R hi (by intro z; cases z) r (fun _ _ _ _ _ _ => rfl) fun vs rv => takeL_ok ih hp rv
        · rename_i ks ds hi
          obtain ⟨p, hp, e1⟩ := Option.map_eq_some_iff.mp h
          cases e1
          exact take_own R hi (by intro z; cases z) r (fun _ _ _ _ _ _ => rfl) fun vs rv => takeL_ok ih hp rv
        · rename_i c ds hi
          obtain ⟨p, hp, e1⟩ := Option.map_eq_some_iff.mp h
          cases e1
          exact take_own R hi (by intro z; cases z) r (fun _ _ _ _ _ _ => rfl) fun vs rv => takeL_ok ih hp rv
        · cases h
      · cases h
end
structure FL (g : Gh) (F' : Hp) : Prop where
  F : Same g.F F'
  nf : ∀ a o, F' a = some o → g.F a = some o ∨ (g.L a = none ∨ ∃ xs, o = .tup xs ∧ g.L a = some (.tup xs))
  nd : NoD F'
def spF (G : GS) (np : Nat) (mu : List Nat) (sem : List D → RF) : Sp := fun vs H Q E => ∃ (g : Gh) (ds : List D) (fp : List Addr), g.as = [] ∧ NoD g.F ∧ ds.length = np ∧ Same g.F H ∧ Same g.L H ∧ RepTL D.noc G g H ds vs fp ∧ fp.Nodup ∧
  match sem ds with
  | .ok r ms => ∀ F' H' v f1 f2, FL g F' → Same F' H' → Same g.L H' → RepT D.pl G ⟨F', g.L, []⟩ H' r v f1 → RepTL D.pl G ⟨F', g.L, []⟩ H' ms (mu.map fun i => vs.getD i .non) f2 → (f1 ++ f2).Nodup → Q v H'
  | .exc c xs ms => ∀ F' H' d f2, FL g F' → Same F' H' → Same g.L H' → ExcRep G ⟨F', g.L, []⟩ H' xs d → RepTL D.pl G ⟨F', g.L, []⟩ H' ms (mu.map fun i => vs.getD i .non) f2 → f2.Nodup → E (.ref (G.exc c)) d H'
  | .bad => False
def fin (mu : List Nat) (ps : List D) (d : D) (st : Sto) : RF := match take D.pl st 20 d, takeL D.pl (take D.pl st 20) (mu.map fun i => ps.getD i .non) with
  | some p, some q => if (p.2 ++ q.2).Nodup then .ok p.1 q.1 else .bad
  | _, _ => .bad
def finX (mu : List Nat) (ps : List D) (c : Nat) (xs : List D) (st : Sto) : RF := match takeL D.pl (take D.pl st 20) (mu.map fun i => ps.getD i .non) with
  | some q => if q.2.Nodup && plL xs then .exc c xs q.1 else .bad
  | none => .bad
def xfun (np nl : Nat) (mu : List Nat) (body : XS) : List D → RF := fun ds =>
  if ds.length = np then
    match body ((impL ds 0).1.map some ++ List.replicate nl none) (impL ds 0).2 with
    | .ok (.rt d, _) st => fin mu (impL ds 0).1 d st
    | .ok (.nx, _) st => fin mu (impL ds 0).1 .non st
    | .ok _ _ => .bad
    | .exc c xs _ st => finX mu (impL ds 0).1 c xs st
    | .bad => .bad
  else .bad
theorem intoPl {G : GS} {g : Gh} {F L : Hp} {as : List Addr} (h : F = g.F) : Into D.pl G g ⟨F, L, as⟩ where
  F := h
  noc := noc_of_pl
  sub := fun ds h d hd => by
    have : plL ds = true := by simpa [D.pl] using h
    rw [← all_pl] at this
    exact List.all_eq_true.mp this d hd
  leaf := fun d v hd r => Rep.pl (by rw [h]; exact Same.refl _) d v hd r
theorem repL_getD {G : GS} {g : Gh} {ds : List D} {vs : List V} (r : RepL G g ds vs) : ∀ (mu : List Nat), RepL G g (mu.map fun i => ds.getD i .non) (mu.map fun i => vs.getD i .non)
  | [] => rfl
  | i :: mu => by
    refine ⟨_, _, rfl, ?_, repL_getD r mu⟩
    show Rep G g (ds.getD i .non) (vs.getD i .non)
    rw [List.getD_eq_getElem?_getD, List.getD_eq_getElem?_getD]
    cases e : ds[i]? with
    | none =>
      have : vs[i]? = none := by
        rw [List.getElem?_eq_none_iff] at e ⊢
        rw [← r.length]; exact e
      rw [this]; rfl
    | some d =>
      obtain ⟨v, hv, rv⟩ := r.get e
      rw [hv]; exact rv
theorem start_ok {G : GS} {g : Gh} {ds : List D} {vs : List V} {fp : List Addr} {H : Hp} (ha : g.as = []) (hnd : NoD g.F) (sF : Same g.F H) (sL : Same g.L H) (r : RepTL D.noc G g H ds vs fp) (hn : fp.Nodup) (nl : Nat) :
    Rel G ⟨g.F, g.L, fp⟩ ((impL ds 0).1.map some ++ List.replicate nl none) (impL ds 0).2 (vs.map some ++ List.replicate nl none) H ∧ RepL G ⟨g.F, g.L, fp⟩ (impL ds 0).1 vs := by
  have t : Tr D.noc G g ⟨g.F, g.L, fp⟩ := ⟨Same.refl _, fun d v _ h q => Rep.noc (g := g) (g' := ⟨g.F, g.L, fp⟩) (Same.refl _) (Same.refl _) d v h q⟩
  obtain ⟨h1, h2, h3⟩ := impL_ok t ds vs fp [] r (fun i a e => by simpa using e)
  simp only [List.length_nil] at h1 h2 h3
  refine ⟨⟨sF, sL, ?_, fun i d e => ?_, fun i c e n => ?_, h1.symm, fun i j c c' a e1 e2 n1 n2 a1 a2 => ?_, hnd⟩, h2⟩
  · simp [h2.length]
  · by_cases hi : i < (impL ds 0).1.length
    · rw [List.getElem?_append_left (by simpa using hi), List.getElem?_map] at e
      obtain ⟨d', hd, e'⟩ := Option.map_eq_some_iff.mp e
      cases e'
      obtain ⟨v, hv, rv⟩ := h2.get hd
      exact ⟨v, by rw [List.getElem?_append_left (by simp; rw [← h2.length]; exact hi), List.getElem?_map, hv]; rfl, rv⟩
    · rw [List.getElem?_append_right (by simpa using hi)] at e
      have := List.mem_of_getElem? e
      simp at this
  · obtain ⟨_, a, o, q1, q2, q3, q4, q5⟩ := h3 i c e
    exact ⟨a, o, q1, q2, q3, q4, q5⟩
  · obtain ⟨h5, e5⟩ := List.getElem?_eq_some_iff.mp a1
    obtain ⟨h6, e6⟩ := List.getElem?_eq_some_iff.mp a2
    exact (List.getElem_inj hn).mp (e5.trans e6.symm)
theorem fin_ok {G : GS} {g g' : Gh} {en : En} {st : Sto} {σ : L2.St} {H' : Hp} {mu : List Nat} {ps : List D} {vs : List V} {d : D} {v : V} {r : D} {ms : List D} {fp : List Addr}
    (l : Le ⟨g.F, g.L, fp⟩ g') (R : Rel G g' en st σ H') (rp : RepL G ⟨g.F, g.L, fp⟩ ps vs) (rd : Rep G g' d v) (h : fin mu ps d st = .ok r ms) :
    ∃ f1 f2, FL g g'.F ∧ Same g'.F H' ∧ Same g.L H' ∧ RepT D.pl G ⟨g'.F, g.L, []⟩ H' r v f1 ∧ RepTL D.pl G ⟨g'.F, g.L, []⟩ H' ms (mu.map fun i => vs.getD i .non) f2 ∧ (f1 ++ f2).Nodup := by
  unfold fin at h
  split at h
  · rename_i p q hp hq
    split at h
    · rename_i hn
      cases h
      obtain ⟨f1, a1, b1⟩ := take_ok R 20 d v p.1 p.2 hp rd
      obtain ⟨f2, a2, b2⟩ := takeL_ok (take_ok R 20) hq (repL_getD (rp.mono l) mu)
      have eL : g'.L = g.L := l.L
      have nd : (f1 ++ f2).Nodup := (a1.append a2).nodup R hn
      have hL : ∀ a ∈ f1 ++ f2, g.L a = none := fun a ha => by
        obtain ⟨k, hk⟩ := List.mem_iff_getElem?.mp ha
        have hlen := (a1.append a2).1
        have hk' : k < (p.2 ++ q.2).length := by rw [hlen]; exact (List.getElem?_eq_some_iff.mp hk).1
        obtain ⟨b, c, x1, x2, x3, x4⟩ := (a1.append a2).2 k _ (List.getElem?_eq_getElem hk')
        rw [hk] at x1; cases x1
        obtain ⟨b', o, y1, y2, y3, y4, y5⟩ := R.cell _ c x3 x4
        rw [x2] at y1; cases y1
        rw [eL] at y5; exact y5
      refine ⟨f1, f2, ⟨l.F, fun a o e => l.nf a o e, R.nd⟩, R.sF, by rw [← eL]; exact R.sL, ?_, ?_, nd⟩
      · exact b1 _ (intoPl rfl) fun a ha => hL a (List.mem_append_left _ ha)
      · exact b2 _ (intoPl rfl) fun a ha => hL a (List.mem_append_right _ ha)
    · cases h
  · cases h
end Px
namespace Px
open PySem PySem.Spec L2
abbrev WB (E : XK) : WX := fun cls d _ H => E cls d H
structure Bd (G : GS) (W : WX) (X : Cx) : Prop where
  K : X.K = G.K
  nd : X.N.Nodup
  calm : X.calm = true
  tk : Takes X W
  own : PassesOwn (model X.prog X.w) X.A X.env X.xe
theorem RepTL.length {ok : D → Bool} {G : GS} {g : Gh} {H : Hp} : ∀ {ds : List D} {vs : List V} {fp : List Addr}, RepTL ok G g H ds vs fp → ds.length = vs.length
  | [], _, _, ⟨e, _⟩ => by subst e; rfl
  | d :: ds, _, _, ⟨v, r, f1, f2, e, _, q, _⟩ => by subst e; simp [RepTL.length q]
theorem finX_ok {G : GS} {g g' : Gh} {en : En} {st : Sto} {σ : L2.St} {H' : Hp} {mu : List Nat} {ps : List D} {vs : List V} {c c' : Nat} {xs xs' : List D} {d : Option Addr} {ms : List D} {fp : List Addr}
    (l : Le ⟨g.F, g.L, fp⟩ g') (R : Rel G g' en st σ H') (rp : RepL G ⟨g.F, g.L, fp⟩ ps vs) (hx : ExcRep G g' H' xs d) (h : finX mu ps c xs st = .exc c' xs' ms) :
    c' = c ∧ xs' = xs ∧ ∃ f2, FL g g'.F ∧ Same g'.F H' ∧ Same g.L H' ∧ ExcRep G ⟨g'.F, g.L, []⟩ H' xs d ∧ RepTL D.pl G ⟨g'.F, g.L, []⟩ H' ms (mu.map fun i => vs.getD i .non) f2 ∧ f2.Nodup := by
  unfold finX at h
  split at h
  · rename_i q hq
    split at h
    · rename_i hn
      simp only [Bool.and_eq_true, decide_eq_true_eq] at hn
      cases h
      obtain ⟨f2, a2, b2⟩ := takeL_ok (take_ok R 20) hq (repL_getD (rp.mono l) mu)
      have eL : g'.L = g.L := l.L
      refine ⟨rfl, rfl, f2, ⟨l.F, fun a o e => l.nf a o e, R.nd⟩, R.sF, by rw [← eL]; exact R.sL, hx, ?_, a2.nodup R hn.1⟩
      refine b2 _ (intoPl rfl) fun a ha => ?_
      obtain ⟨k, hk⟩ := List.mem_iff_getElem?.mp ha
      have hk' : k < q.2.length := by rw [a2.1]; exact (List.getElem?_eq_some_iff.mp hk).1
      obtain ⟨b, c, x1, x2, x3, x4⟩ := a2.2 k _ (List.getElem?_eq_getElem hk')
      rw [hk] at x1; cases x1
      obtain ⟨b', o, y1, y2, y3, y4, y5⟩ := R.cell _ c x3 x4
      rw [x2] at y1; cases y1
      rw [eL] at y5; exact y5
    · cases h
  · cases h
section
variable {P : Program} {w : World} {mg : Str → Option Value} {base : Heap}
theorem fn_ok {G : GS} {x qual : Str} {st : Stmt} {f : Addr} {fd : FuncData} {N ps : List Str} {k np nl : Nat} {mu : List Nat} {body : XS} (F : Fun G.K x qual st f fd) (S : FnScope N ps (defScope st)) (hp : ps.length = np) (hl : N.length - np = nl)
    (hb : ∀ (cdv : Value) (A : Around) (outer : List Env) (s : Shared) (H : Hp) (E : XK), Room k (A.deeper (PyProof.Rows.envOfC qual (defScope st) s.heap.objs.size f cdv)) →
      Bd G (WB E) (cxOf (L2.CX P w) P w G.K mg base N qual (defScope st) f cdv A outer s H E) → SL G (WB E) (cxOf (L2.CX P w) P w G.K mg base N qual (defScope st) f cdv A outer s H E) (defBody st) body) :
    FnOk P w G.K mg base (L2.CX P w) (k + 1) f fd ps (spF G np mu (xfun np nl mu body)) := by
  refine F.okX S (fun vs H Q E h => ?_) fun cdv A outer s H vs Q E hr h => ?_
  · obtain ⟨g, ds, fp, _, _, h1, _, _, h2, _⟩ := h
    rw [hp, ← h1, h2.length]
  · have bd : Bd G (WB E) (cxOf (L2.CX P w) P w G.K mg base N qual (defScope st) f cdv A outer s H E) := ⟨rfl, S.nd, rfl, takes_of rfl rfl rfl rfl, passes_of rfl⟩
    refine ⟨tS G (WB E) body, (hb cdv A outer s H E hr bd).ps, ?_⟩
    obtain ⟨g, ds, fp, ha, hnd, hlen, sF, sL, rT, nd, h⟩ := h
    obtain ⟨R, rp⟩ := start_ok ha hnd sF sL rT nd nl
    have es : L2.start N vs = vs.map some ++ List.replicate nl none := by
      unfold L2.start
      rw [← rT.length, hlen, hl]
    rw [es]
    refine ⟨⟨g.F, g.L, fp⟩, _, _, R, ?_⟩
    unfold xfun at h
    rw [if_pos hlen] at h
    cases e : body ((impL ds 0).1.map some ++ List.replicate nl none) (impL ds 0).2 with
    | bad => rw [e] at h; exact h.elim
    | exc c xs en st' =>
      rw [e] at h
      intro g' σ' H' d l R' hx
      simp only at h
      cases e2 : finX mu (impL ds 0).1 c xs st' with
      | bad => rw [e2] at h; exact h.elim
      | ok r ms =>
        unfold finX at e2
        split at e2
        · split at e2 <;> cases e2
        · cases e2
      | exc c' xs' ms =>
        obtain ⟨rfl, rfl, f2, h1, h2, h3, h4, h5, h6⟩ := finX_ok l R' rp hx e2
        rw [e2] at h
        exact h g'.F H' d f2 h1 h2 h3 h4 h5 h6
    | ok p st' =>
      obtain ⟨fl, en⟩ := p
      rw [e] at h
      intro g' σ' H' l R'
      have go : ∀ (d : D) (v : V), Rep G g' d v → (match fin mu (impL ds 0).1 d st' with
        | .ok r ms => ∀ F' H' v f1 f2, FL g F' → Same F' H' → Same g.L H' → RepT D.pl G ⟨F', g.L, []⟩ H' r v f1 → RepTL D.pl G ⟨F', g.L, []⟩ H' ms (mu.map fun i => vs.getD i .non) f2 → (f1 ++ f2).Nodup → Q v H'
        | .exc c xs ms => ∀ F' H' d f2, FL g F' → Same F' H' → Same g.L H' → ExcRep G ⟨F', g.L, []⟩ H' xs d → RepTL D.pl G ⟨F', g.L, []⟩ H' ms (mu.map fun i => vs.getD i .non) f2 → f2.Nodup → E (.ref (G.exc c)) d H'
        | .bad => False) → Q v H' := by
        intro d v rd h
        cases e2 : fin mu (impL ds 0).1 d st' with
        | bad => rw [e2] at h; exact h.elim
        | exc c xs ms =>
          unfold fin at e2
          split at e2
          · split at e2 <;> cases e2
          · cases e2
        | ok r ms =>
          rw [e2] at h
          obtain ⟨f1, f2, h1, h2, h3, h4, h5, h6⟩ := fin_ok l R' rp rd e2
          exact h g'.F H' v f1 f2 h1 h2 h3 h4 h5 h6
      cases fl with
      | nx => exact go .non .non rfl h
      | bk => exact h.elim
      | ct => exact h.elim
      | rt d => exact fun v rv => go d v rv h
end
section
variable {G : GS} {g : Gh} {en : En} {st : Sto} {σ : L2.St} {H : Hp}
def Dead (g : Gh) (st : Sto) (a : Addr) : Prop := ∀ (i : Nat) (c : Cell), st[i]? = some c → c ≠ .gone → g.as[i]? ≠ some a
theorem Rel.grow (R : Rel G g en st σ H) {cs : List Cell} {fp : List Addr} {gT : Gh} (hl : cs.length = fp.length) (nd : fp.Nodup) (hd : ∀ a ∈ fp, Dead g st a) (hF : gT.F = g.F) (hL : ∀ a, gT.L a = none → g.L a = none)
    (hc : CellsAt G gT { g with as := g.as ++ fp } H cs fp) : Le g { g with as := g.as ++ fp } ∧ Rel G { g with as := g.as ++ fp } en (st ++ cs) σ H := by
  have l : Le g { g with as := g.as ++ fp } := ⟨Same.refl _, rfl, fun i a h => by
    show (g.as ++ fp)[i]? = some a
    rw [List.getElem?_append_left (List.getElem?_eq_some_iff.mp h).1]; exact h, fun _ _ h => .inl h⟩
  have old : ∀ (i : Nat) (c : Cell), i < st.length → (st ++ cs)[i]? = some c → st[i]? = some c := fun i c hi e => by rw [List.getElem?_append_left hi] at e; exact e
  have new : ∀ (i : Nat) (c : Cell), ¬ i < st.length → (st ++ cs)[i]? = some c → cs[i - st.length]? = some c := fun i c hi e => by rw [List.getElem?_append_right (by omega)] at e; exact e
  have asn : ∀ (i : Nat), ¬ i < st.length → (g.as ++ fp)[i]? = fp[i - st.length]? := fun i hi => by rw [List.getElem?_append_right (by rw [R.len]; omega), R.len]
  have aso : ∀ (i : Nat), i < st.length → (g.as ++ fp)[i]? = g.as[i]? := fun i hi => by rw [List.getElem?_append_left (by rw [R.len]; exact hi)]
  refine ⟨l, ⟨R.sF, R.sL, R.el, fun i d e => ?_, fun i c e n => ?_, by simp [R.len, hl], fun i j c c' a e1 e2 n1 n2 a1 a2 => ?_, R.nd⟩⟩
  · obtain ⟨v, q1, q2⟩ := R.en i d e
    exact ⟨v, q1, q2.mono l⟩
  · by_cases hi : i < st.length
    · obtain ⟨a, o, q1, q2, q3, q4, q5⟩ := R.cell i c (old i c hi e) n
      exact ⟨a, o, l.as _ _ q1, q2, q3.mono l, q4, q5⟩
    · obtain ⟨_, a, o, q1, q2, q3, q4, q5⟩ := hc _ c (new i c hi e)
      exact ⟨a, o, by show (g.as ++ fp)[i]? = some a; rw [asn i hi]; exact q1, q2, q3, by rw [← hF]; exact q4, hL a q5⟩
  · have a1' : (g.as ++ fp)[i]? = some a := a1
    have a2' : (g.as ++ fp)[j]? = some a := a2
    by_cases hi : i < st.length <;> by_cases hj : j < st.length
    · rw [aso i hi] at a1'
      rw [aso j hj] at a2'
      exact R.inj i j c c' a (old i c hi e1) (old j c' hj e2) n1 n2 a1' a2'
    · rw [aso i hi] at a1'
      rw [asn j hj] at a2'
      exact absurd a1' (hd a (List.mem_of_getElem? a2') i c (old i c hi e1) n1)
    · rw [asn i hi] at a1'
      rw [aso j hj] at a2'
      exact absurd a2' (hd a (List.mem_of_getElem? a1') j c' (old j c' hj e2) n2)
    · rw [asn i hi] at a1'
      rw [asn j hj] at a2'
      obtain ⟨h5, e5⟩ := List.getElem?_eq_some_iff.mp a1'
      obtain ⟨h6, e6⟩ := List.getElem?_eq_some_iff.mp a2'
      have := (List.getElem_inj nd).mp (e5.trans e6.symm)
      omega
theorem Rel.revive (R : Rel G g en st σ H) {i : Nat} {a : Addr} {c : Cell} {o : HO} (hi : i < st.length) (ha : g.as[i]? = some a) (hd : ∀ j c, j ≠ i → st[j]? = some c → c ≠ .gone → g.as[j]? ≠ some a) (ho : H a = some o) (hc : CO G g c o) (hF : g.F a = none) (hL : g.L a = none) :
    Rel G g en (st.set i c) σ H := by
  refine ⟨R.sF, R.sL, R.el, R.en, fun j d e n => ?_, by simp [R.len], fun j k d d' b e1 e2 n1 n2 b1 b2 => ?_, R.nd⟩
  · by_cases q : i = j
    · subst q
      rw [List.getElem?_set_self hi] at e; cases e
      exact ⟨a, o, ha, ho, hc, hF, hL⟩
    · rw [List.getElem?_set_ne q] at e
      exact R.cell j d e n
  · by_cases qj : i = j <;> by_cases qk : i = k
    · omega
    · subst qj
      rw [List.getElem?_set_ne qk] at e2
      rw [ha] at b1; cases b1
      exact absurd b2 (hd k d' (Ne.symm qk) e2 n2)
    · subst qk
      rw [List.getElem?_set_ne qj] at e1
      rw [ha] at b2; cases b2
      exact absurd b1 (hd j d (Ne.symm qj) e1 n1)
    · rw [List.getElem?_set_ne qj] at e1
      rw [List.getElem?_set_ne qk] at e2
      exact R.inj j k d d' b e1 e2 n1 n2 b1 b2
theorem goneAt_len : ∀ (js : List Nat) (st : Sto), (goneAt js st).length = st.length
  | [], _ => rfl
  | j :: js, st => by simp [goneAt, goneAt_len js]
theorem goneAt_get : ∀ (js : List Nat) (st : Sto) (i : Nat) (c : Cell), (goneAt js st)[i]? = some c → c ≠ .gone → st[i]? = some c ∧ i ∉ js
  | [], _, _, _, h, _ => ⟨h, by simp⟩
  | j :: js, st, i, c, h, n => by
    obtain ⟨h1, h2⟩ := goneAt_get js (st.set j .gone) i c h n
    by_cases q : j = i
    · subst q
      by_cases hl : j < st.length
      · rw [List.getElem?_set_self hl] at h1
        exact absurd (Option.some.inj h1).symm n
      · rw [List.getElem?_eq_none (by simpa using hl)] at h1; cases h1
    · rw [List.getElem?_set_ne q] at h1
      exact ⟨h1, by simp only [List.mem_cons, not_or]; exact ⟨fun e => q e.symm, h2⟩⟩
end
end Px
namespace Px
open PySem PySem.Spec L2
inductive Md where | val | mov | mut
  deriving DecidableEq
def mutPos : Nat → List Md → List Nat
  | _, [] => []
  | n, .mut :: r => n :: mutPos (n + 1) r
  | n, _ :: r => mutPos (n + 1) r
def prepT (st : Sto) : List Md → List D → Option (List D × List Nat)
  | [], [] => some ([], [])
  | .val :: ms, d :: ds => (prepT st ms ds).map fun q => (d :: q.1, q.2)
  | _ :: ms, d :: ds => match take D.noc st 20 d, prepT st ms ds with
    | some p, some q => some (p.1 :: q.1, p.2 ++ q.2)
    | _, _ => none
  | _, _ => none
def prepS (st : Sto) : List Md → List D → Option (List D)
  | [], [] => some []
  | .val :: ms, d :: ds => match snap st 20 d, prepS st ms ds with
    | some p, some q => some (p :: q)
    | _, _ => none
  | _ :: ms, d :: ds => (prepS st ms ds).map (d :: ·)
  | _, _ => none
def rootsOf (ds : List D) : List Nat → Option (List Nat)
  | [] => some []
  | i :: r => match ds.getD i .non, rootsOf ds r with
    | .cell j, some q => some (j :: q)
    | _, _ => none
def impC : D → Nat → Option (Cell × List Cell)
  | .lst .own ds, n => if nocL ds then some (.lst ds, []) else some (.lst (impL ds n).1, (impL ds n).2)
  | .dk .own ks ds, n => if nocL ds then some (.dk ks ds, []) else some (.dk ks (impL ds n).1, (impL ds n).2)
  | .dt .own ks ds, n => if nocL ds then some (.dt ks ds, []) else some (.dt ks (impL ds n).1, (impL ds n).2)
  | .obj .own c ds, n => if nocL ds then some (.obj c ds, []) else some (.obj c (impL ds n).1, (impL ds n).2)
  | _, _ => none
def back : List Nat → List D → Sto → Option Sto
  | [], [], st => some st
  | i :: is, t :: ts, st => match impC t st.length with
    | some p => if i < st.length then back is ts ((st ++ p.2).set i p.1) else none
    | none => none
  | _, _, _ => none
def callF (mu : List Nat) (sem : List D → RF) (es : List D) (roots : List Nat) (en : En) (st : Sto) : R D := match sem es with
  | .ok r ts => match back roots ts (st ++ (imp r st.length).2) with
    | some st2 => .ok (imp r st.length).1 st2
    | none => .bad
  | .exc c xs ts => match back roots ts st with
    | some st2 => .exc c xs en st2
    | none => .bad
  | .bad => .bad
def callD (mu : List Nat) (sem : List D → RF) (ms : List Md) (ds : List D) (en : En) (st : Sto) : R D := match prepT st ms ds with
  | some t => if t.2.Nodup ∧ mutPos 0 ms = mu then
      match prepS (goneAt t.2 st) ms t.1, rootsOf ds mu with
      | some es, some roots => callF mu sem es roots en (goneAt t.2 st)
      | _, _ => .bad
    else .bad
  | none => .bad
section
variable {G : GS} {g : Gh} {en : En} {st : Sto} {σ : L2.St} {H : Hp}
def less (H : Hp) (fp : List Addr) : Hp := fun b => if b ∈ fp then none else H b
theorem less_in {H : Hp} {fp : List Addr} {a : Addr} (h : a ∈ fp) : less H fp a = none := if_pos h
theorem less_out {H : Hp} {fp : List Addr} {a : Addr} (h : a ∉ fp) : less H fp a = H a := if_neg h
theorem less_same {H : Hp} {fp : List Addr} : Same (less H fp) H := fun b o e => by
  by_cases h : b ∈ fp
  · rw [less_in h] at e; cases e
  · rw [less_out h] at e; exact e
theorem Rel.gone (R : Rel G g en st σ H) {js : List Nat} {fp : List Addr} (h : AtJs g st js fp) : Rel G g en (goneAt js st) σ (less H fp) := by
  have nF : ∀ a ∈ fp, g.F a = none ∧ g.L a = none := fun a ha => by
    obtain ⟨k, hk⟩ := List.mem_iff_getElem?.mp ha
    have hk' : k < js.length := by rw [h.1]; exact (List.getElem?_eq_some_iff.mp hk).1
    obtain ⟨b, c, x1, x2, x3, x4⟩ := h.2 k _ (List.getElem?_eq_getElem hk')
    rw [hk] at x1; cases x1
    obtain ⟨b', o, y1, y2, y3, y4, y5⟩ := R.cell _ c x3 x4
    rw [x2] at y1; cases y1
    exact ⟨y4, y5⟩
  refine ⟨fun b o e => ?_, fun b o e => ?_, R.el, R.en, fun i c e n => ?_, by rw [goneAt_len]; exact R.len, fun i j c c' a e1 e2 n1 n2 a1 a2 => ?_, R.nd⟩
  · rw [less_out fun hb => by rw [(nF b hb).1] at e; cases e]; exact R.sF _ _ e
  · rw [less_out fun hb => by rw [(nF b hb).2] at e; cases e]; exact R.sL _ _ e
  · obtain ⟨e', hi⟩ := goneAt_get js st i c e n
    obtain ⟨a, o, q1, q2, q3, q4, q5⟩ := R.cell i c e' n
    refine ⟨a, o, q1, ?_, q3, q4, q5⟩
    rw [less_out fun ha => ?_]; exact q2
    obtain ⟨k, hk⟩ := List.mem_iff_getElem?.mp ha
    have hk' : k < js.length := by rw [h.1]; exact (List.getElem?_eq_some_iff.mp hk).1
    obtain ⟨b, d, x1, x2, x3, x4⟩ := h.2 k _ (List.getElem?_eq_getElem hk')
    rw [hk] at x1; cases x1
    have := R.inj i _ c d a e' x3 n x4 q1 x2
    exact hi (by rw [this]; exact List.getElem_mem hk')
  · exact R.inj i j c c' a (goneAt_get js st i c e1 n1).1 (goneAt_get js st j c' e2 n2).1 n1 n2 a1 a2
theorem prepT_ok (R : Rel G g en st σ H) : ∀ (ms : List Md) (ds : List D) (vs : List V) (es : List D) (js : List Nat), prepT st ms ds = some (es, js) → RepL G g ds vs →
    ∃ fp, AtJs g st js fp ∧ ∀ (gt : Gh) (st' : Sto) (xs : List D), Into D.noc G g gt → (∀ a ∈ fp, gt.L a = none) → prepS st' ms es = some xs →
      (∀ d e v, snap st' 20 d = some e → Rep G g d v → Rep G gt e v ∧ e.noc = true) → RepTL D.noc G gt H xs vs fp
  | [], [], vs, es, js, h, r => by
    cases h
    exact ⟨[], .nil, fun gt st' xs _ _ hs _ => by cases hs; exact ⟨r, rfl⟩⟩
  | .val :: ms, d :: ds, vs, es, js, h, ⟨v, vr, e, r1, r2⟩ => by
    simp only [prepT] at h
    obtain ⟨q, hq, e1⟩ := Option.map_eq_some_iff.mp h
    cases e1
    obtain ⟨fp, q1, q2⟩ := prepT_ok R ms ds vr q.1 q.2 hq r2
    refine ⟨fp, q1, fun gt st' xs i hL hs hsn => ?_⟩
    simp only [prepS] at hs
    split at hs
    · rename_i p xr hp hxr
      cases hs
      obtain ⟨a1, a2⟩ := hsn d p v hp r1
      refine ⟨v, vr, [], fp, e, leafT (g := gt) ⟨rfl, fun _ h => h, fun ds h d hd => ?_, fun _ _ _ r => r⟩ p v a2 a1, q2 gt st' xr i hL hxr hsn, rfl⟩
      have : nocL ds = true := by simpa [D.noc] using h
      rw [← all_noc] at this
      exact List.all_eq_true.mp this d hd
    · cases hs
  | .mov :: ms, d :: ds, vs, es, js, h, ⟨v, vr, e, r1, r2⟩ => by
    simp only [prepT] at h
    split at h
    · rename_i p q hp hq
      cases h
      obtain ⟨f1, a1, b1⟩ := take_ok R 20 d v p.1 p.2 hp r1
      obtain ⟨f2, a2, b2⟩ := prepT_ok R ms ds vr q.1 q.2 hq r2
      refine ⟨f1 ++ f2, a1.append a2, fun gt st' xs i hL hs hsn => ?_⟩
      simp only [prepS] at hs
      obtain ⟨xr, hxr, rfl⟩ := Option.map_eq_some_iff.mp hs
      exact ⟨v, vr, f1, f2, e, b1 gt i fun a ha => hL a (List.mem_append_left _ ha), b2 gt st' xr i (fun a ha => hL a (List.mem_append_right _ ha)) hxr hsn, rfl⟩
    · cases h
  | .mut :: ms, d :: ds, vs, es, js, h, ⟨v, vr, e, r1, r2⟩ => by
    simp only [prepT] at h
    split at h
    · rename_i p q hp hq
      cases h
      obtain ⟨f1, a1, b1⟩ := take_ok R 20 d v p.1 p.2 hp r1
      obtain ⟨f2, a2, b2⟩ := prepT_ok R ms ds vr q.1 q.2 hq r2
      refine ⟨f1 ++ f2, a1.append a2, fun gt st' xs i hL hs hsn => ?_⟩
      simp only [prepS] at hs
      obtain ⟨xr, hxr, rfl⟩ := Option.map_eq_some_iff.mp hs
      exact ⟨v, vr, f1, f2, e, b1 gt i fun a ha => hL a (List.mem_append_left _ ha), b2 gt st' xr i (fun a ha => hL a (List.mem_append_right _ ha)) hxr hsn, rfl⟩
    · cases h
  | [], _ :: _, _, _, _, h, _ => by cases h
  | .val :: _, [], _, _, _, h, _ => by cases h
  | .mov :: _, [], _, _, _, h, _ => by cases h
  | .mut :: _, [], _, _, _, h, _ => by cases h
theorem impC_ok {ok : D → Bool} {gT : Gh} {d : D} {v : V} {fp as : List Addr} {p : Cell × List Cell} (h : impC d as.length = some p) (r : RepT ok G gT H d v fp) :
    ∃ a o fp', v = .ref a ∧ fp = fp' ++ [a] ∧ H a = some o ∧ gT.F a = none ∧ gT.L a = none ∧ ∀ gg, Tr ok G gT gg → Pre (as ++ fp') gg → CO G gg p.1 o ∧ p.1 ≠ .gone ∧ p.2.length = fp'.length ∧ CellsAt G gT gg H p.2 fp' := by
  have go : ∀ (c : Cell), c ≠ .gone → OwnAt G gT H c (RepTL ok G gT H c.items) v fp → (if nocL c.items then some (c, []) else some (c.with (impL c.items as.length).1, (impL c.items as.length).2)) = some p →
      ∃ a o fp', v = .ref a ∧ fp = fp' ++ [a] ∧ H a = some o ∧ gT.F a = none ∧ gT.L a = none ∧ ∀ gg, Tr ok G gT gg → Pre (as ++ fp') gg → CO G gg p.1 o ∧ p.1 ≠ .gone ∧ p.2.length = fp'.length ∧ CellsAt G gT gg H p.2 fp' := by
    rintro c hc ⟨a, vs, o, fp', e1, e2, e3, e4, e5, e6, e7⟩ hi
    refine ⟨a, o, fp', e1, e7, e2, e4, e5, fun gg t hp => ?_⟩
    split at hi
    · rename_i n
      obtain ⟨rfl, q⟩ := RepTL.ofNoc t _ vs fp' n e6
      cases hi
      exact ⟨CO_of e3 q, hc, rfl, .nil⟩
    · cases hi
      obtain ⟨h1, h2, h3⟩ := impL_ok t _ vs fp' as e6 hp
      refine ⟨CO_of (vs := vs) (by rw [shapeO_with]; exact e3) (by cases c <;> first | exact h2 | exact absurd rfl hc), by cases c <;> first | exact absurd rfl hc | (intro z; cases z), h1, h3⟩
  cases d with
  | lst m ds => cases m <;> first | exact go (.lst ds) (by intro z; cases z) r h | cases h
  | dk m ks ds => cases m <;> first | exact go (.dk ks ds) (by intro z; cases z) r h | cases h
  | dt m ks ds => cases m <;> first | exact go (.dt ks ds) (by intro z; cases z) r h | cases h
  | obj m c ds => cases m <;> first | exact go (.obj c ds) (by intro z; cases z) r h | cases h
  | _ => cases h
theorem back_ok {gF : Gh} : ∀ (roots : List Nat) (ts : List D) (st st2 : Sto) (g : Gh) (vs : List V) (fp : List Addr), back roots ts st = some st2 → Rel G g en st σ H → RepTL D.pl G gF H ts vs fp → fp.Nodup →
    gF.F = g.F → (∀ a, gF.L a = none → g.L a = none) → (∀ a ∈ fp, Dead g st a) → (∀ (k i : Nat), roots[k]? = some i → ∃ a, vs[k]? = some (.ref a) ∧ g.as[i]? = some a) → ∃ g2, Le g g2 ∧ g2.F = g.F ∧ Rel G g2 en st2 σ H
  | [], [], st, st2, g, vs, fp, h, R, _, _, _, _, _, _ => by cases h; exact ⟨g, Le.refl _, rfl, R⟩
  | i :: is, t :: ts, st, st2, g, vs, fp, h, R, rT, nd, eF, eL, dead, hr => by
    obtain ⟨v, vr, f1, f2, rfl, r1, r2, rfl⟩ := rT
    simp only [back] at h
    split at h
    · rename_i p hp
      split at h
      · rename_i hi
        rw [← R.len] at hp
        have nd' := List.nodup_append.mp nd
        obtain ⟨a, o, fp', e1, e2, e3, e6, e7, q⟩ := impC_ok hp r1
        subst e1
        subst e2
        obtain ⟨w, hw1, hw2⟩ := hr 0 i rfl
        cases hw1
        have ndf : (fp' ++ [a]).Nodup := nd'.1
        have ndc : fp'.Nodup := (List.nodup_append.mp ndf).1
        have anf : a ∉ fp' := fun h => (List.nodup_append.mp ndf).2.2 a h a (by simp) rfl
        have trc : Tr D.pl G gF { g with as := g.as ++ fp' } := ⟨by rw [eF]; exact Same.refl _, fun d v hd _ r => Rep.pl (by rw [eF]; exact Same.refl _) d v hd r⟩
        obtain ⟨c1, c2, c3, c4⟩ := q _ trc (fun _ _ z => z)
        obtain ⟨l1, R1⟩ := R.grow c3 ndc (fun b hb => dead b (List.mem_append_left _ (List.mem_append_left _ hb))) eF eL c4
        have ha1 : ({ g with as := g.as ++ fp' } : Gh).as[i]? = some a := l1.as _ _ hw2
        have dead1 : ∀ b, b ∉ fp' → Dead g st b → Dead { g with as := g.as ++ fp' } (st ++ p.2) b := fun b hb hd j c e n ej => by
          have ej' : (g.as ++ fp')[j]? = some b := ej
          by_cases hj : j < st.length
          · rw [List.getElem?_append_left hj] at e
            rw [List.getElem?_append_left (by rw [R.len]; exact hj)] at ej'
            exact hd j c e n ej'
          · rw [List.getElem?_append_right (by rw [R.len]; omega)] at ej'
            exact hb (List.mem_of_getElem? ej')
        have da : Dead { g with as := g.as ++ fp' } (st ++ p.2) a := dead1 a anf (dead a (List.mem_append_left _ (by simp)))
        have R2 := R1.revive (i := i) (a := a) (c := p.1) (by simp; omega) ha1 (fun j c hj e n => da j c e n) e3 c1 (by rw [← eF]; exact e6) (eL a e7)
        have hD : ∀ b ∈ f2, Dead { g with as := g.as ++ fp' } ((st ++ p.2).set i p.1) b := by
          intro b hb j c e n ej
          have nb : b ∉ fp' ++ [a] := fun h => nd'.2.2 b h b hb rfl
          have nb1 : b ∉ fp' := fun h => nb (List.mem_append_left _ h)
          have nb2 : b ≠ a := fun h => nb (by simp [h])
          by_cases hij : i = j
          · subst hij
            rw [ha1] at ej
            exact nb2 (Option.some.inj ej).symm
          · rw [List.getElem?_set_ne hij] at e
            exact dead1 b nb1 (dead b (List.mem_append_right _ hb)) j c e n ej
        have hR : ∀ (k j : Nat), is[k]? = some j → ∃ b, vr[k]? = some (.ref b) ∧ ({ g with as := g.as ++ fp' } : Gh).as[j]? = some b := by
          intro k j hk
          obtain ⟨b, h1, h2⟩ := hr (k + 1) j (by simpa using hk)
          exact ⟨b, by simpa using h1, l1.as _ _ h2⟩
        obtain ⟨g2, l2, eF2, R3⟩ := back_ok is ts _ st2 _ vr f2 h R2 r2 nd'.2.1 eF eL hD hR
        exact ⟨g2, l1.trans l2, eF2, R3⟩
      · cases h
    · cases h
  | [], _ :: _, _, _, _, _, _, h, _, _, _, _, _, _, _ => by cases h
  | _ :: _, [], _, _, _, _, _, h, _, _, _, _, _, _, _ => by cases h
theorem rootsOf_ok {g : Gh} {ds : List D} {vs : List V} (r : RepL G g ds vs) : ∀ (mu : List Nat) (roots : List Nat), rootsOf ds mu = some roots → ∀ (k i : Nat), roots[k]? = some i → ∃ a, (mu.map fun i => vs.getD i .non)[k]? = some (.ref a) ∧ g.as[i]? = some a
  | [], roots, h, k, i, hk => by cases h; simp at hk
  | m :: mu, roots, h, k, i, hk => by
    simp only [rootsOf] at h
    split at h
    · rename_i j q hj hq
      cases h
      cases k with
      | zero =>
        simp at hk
        subst hk
        rw [List.getD_eq_getElem?_getD] at hj
        cases e : ds[m]? with
        | none => rw [e] at hj; cases hj
        | some d =>
          rw [e] at hj
          simp at hj
          subst hj
          obtain ⟨v, hv, a, ha, rfl⟩ := r.get e
          refine ⟨a, ?_, ha⟩
          simp [List.getD_eq_getElem?_getD, hv]
      | succ k =>
        obtain ⟨a, h1, h2⟩ := rootsOf_ok r mu q hq k i (by simpa using hk)
        exact ⟨a, by simpa using h1, h2⟩
    · cases h
theorem Dead.grow (R : Rel G g en st σ H) {cs : List Cell} {fp : List Addr} {b : Addr} (hb : b ∉ fp) (hd : Dead g st b) : Dead { g with as := g.as ++ fp } (st ++ cs) b := fun j c e n ej => by
  have ej' : (g.as ++ fp)[j]? = some b := ej
  by_cases hj : j < st.length
  · rw [List.getElem?_append_left hj] at e
    rw [List.getElem?_append_left (by rw [R.len]; exact hj)] at ej'
    exact hd j c e n ej'
  · rw [List.getElem?_append_right (by rw [R.len]; omega)] at ej'
    exact hb (List.mem_of_getElem? ej')
theorem ownDead {ok : D → Bool} {gT : Gh} {c : Cell} {T : List V → List Addr → Prop} {v : V} {f : List Addr} (h : OwnAt G gT H c T v f) (hT : ∀ vs f', T vs f' → ∀ a ∈ f', gT.L a = none) : ∀ a ∈ f, gT.L a = none := by
  obtain ⟨a, vs, o, fp', e1, e2, e3, e4, e5, e6, e7⟩ := h
  intro b hb
  rw [e7] at hb
  rcases List.mem_append.mp hb with hb | hb
  · exact hT vs fp' e6 b hb
  · simp at hb; subst hb; exact e5
mutual
theorem RepT.deadL {ok : D → Bool} {gT : Gh} : ∀ (d : D) (v : V) (f : List Addr), RepT ok G gT H d v f → ∀ a ∈ f, gT.L a = none
  | .tup ds, v, f, ⟨a, vs, _, _, r⟩ => RepTL.deadL ds vs f r
  | .lst .own ds, v, f, h => ownDead (ok := ok) h fun vs f' r => RepTL.deadL ds vs f' r
  | .dk .own ks ds, v, f, h => ownDead (ok := ok) h fun vs f' r => RepTL.deadL ds vs f' r
  | .dt .own ks ds, v, f, h => ownDead (ok := ok) h fun vs f' r => RepTL.deadL ds vs f' r
  | .obj .own c ds, v, f, h => ownDead (ok := ok) h fun vs f' r => RepTL.deadL ds vs f' r
  | .non, v, f, h => by rw [h.2.2.2]; simp
  | .bl _, v, f, h => by rw [h.2.2.2]; simp
  | .int _, v, f, h => by rw [h.2.2.2]; simp
  | .str _, v, f, h => by rw [h.2.2.2]; simp
  | .cell _, v, f, h => by rw [h.2.2.2]; simp
  | .lst .frz _, v, f, h => by rw [h.2.2.2]; simp
  | .lst .loan _, v, f, h => by rw [h.2.2.2]; simp
  | .lst .ro _, v, f, h => by rw [h.2.2.2]; simp
  | .dk .frz _ _, v, f, h => by rw [h.2.2.2]; simp
  | .dk .loan _ _, v, f, h => by rw [h.2.2.2]; simp
  | .dk .ro _ _, v, f, h => by rw [h.2.2.2]; simp
  | .dt .frz _ _, v, f, h => by rw [h.2.2.2]; simp
  | .dt .loan _ _, v, f, h => by rw [h.2.2.2]; simp
  | .dt .ro _ _, v, f, h => by rw [h.2.2.2]; simp
  | .obj .frz _ _, v, f, h => by rw [h.2.2.2]; simp
  | .obj .loan _ _, v, f, h => by rw [h.2.2.2]; simp
  | .obj .ro _ _, v, f, h => by rw [h.2.2.2]; simp
theorem RepTL.deadL {ok : D → Bool} {gT : Gh} : ∀ (ds : List D) (vs : List V) (f : List Addr), RepTL ok G gT H ds vs f → ∀ a ∈ f, gT.L a = none
  | [], vs, f, ⟨_, e⟩ => by rw [e]; simp
  | d :: ds, vs, f, ⟨v, r, f1, f2, _, h1, h2, e⟩ => by
    rw [e]
    intro a ha
    rcases List.mem_append.mp ha with ha | ha
    · exact RepT.deadL d v f1 h1 a ha
    · exact RepTL.deadL ds r f2 h2 a ha
end
theorem call_sp {W : WX} {np : Nat} {mu : List Nat} {sem : List D → RF} {ms : List Md} {ds : List D} {vs : List V} {Q : VK} (R : Rel G g en st σ H) (r : RepL G g ds vs) (hlen : vs.length = np)
    (h : pX G W g en σ (callD mu sem ms ds en st) fun d g' _ H' => ∀ v, Rep G g' d v → Q v H') : spF G np mu sem vs H Q (fun cls d H' => W cls d σ H') := by
  unfold callD at h
  split at h
  · rename_i t ht
    split at h
    · rename_i hm
      split at h
      · rename_i es roots hes hroots
        obtain ⟨fp, aj, q⟩ := prepT_ok R ms ds vs t.1 t.2 ht r
        have R1 := R.gone aj
        have nd := aj.nodup R hm.1
        have nL : ∀ a ∈ fp, g.L a = none := fun a ha => by
          cases e : g.L a with
          | none => rfl
          | some o => have := R1.sL a o e; rw [less_in ha] at this; cases this
        have q2 := q ⟨g.F, less H fp, []⟩ _ es ⟨rfl, fun _ h => h, fun ds h d hd => by
            have : nocL ds = true := by simpa [D.noc] using h
            rw [← all_noc] at this
            exact List.all_eq_true.mp this d hd, fun d v hd rr => Rep.noc (g := g) (g' := ⟨g.F, less H fp, []⟩) (Same.refl _) R1.sL d v hd rr⟩ (fun a ha => less_in ha) hes (fun d e v hs rr => snap_ok R1 20 d e v hs rr)
        have sF1 : Same g.F (less H fp) := R1.sF
        refine ⟨⟨g.F, less H fp, []⟩, es, fp, rfl, R.nd, by rw [q2.length]; exact hlen, R.sF, less_same, q2, nd, ?_⟩
        unfold callF at h
        -- the caller's ghost behind the call
        have base : ∀ F' H', FL ⟨g.F, less H fp, []⟩ F' → Same F' H' → Same (less H fp) H' → Le g ⟨F', g.L, g.as⟩ ∧ Rel G ⟨F', g.L, g.as⟩ en (goneAt t.2 st) σ H' := fun F' H' fl s1 s2 => by
          have nf : ∀ a o, F' a = some o → g.F a = some o ∨ (g.L a = none ∨ ∃ xs, o = .tup xs ∧ g.L a = some (.tup xs)) := fun a o e => by
            rcases fl.nf a o e with z | z | ⟨xs, q1, q2⟩
            · exact .inl z
            · refine .inr (.inl ?_)
              cases e2 : g.L a with
              | none => rfl
              | some u =>
                have z' : less H fp a = none := z
                rw [R1.sL a u e2] at z'; cases z'
            · cases e2 : g.L a with
              | none => exact .inr (.inl rfl)
              | some u =>
                have z' : less H fp a = some (.tup xs) := q2
                rw [R1.sL a u e2] at z'
                exact .inr (.inr ⟨xs, q1, z'⟩)
          have l : Le g ⟨F', g.L, g.as⟩ := ⟨fl.F, rfl, fun _ _ h => h, nf⟩
          refine ⟨l, ⟨s1, fun b o e => s2 _ _ (R1.sL _ _ e), R1.el, fun i d e => ?_, fun i c e n => ?_, R1.len, R1.inj, fl.nd⟩⟩
          · obtain ⟨v, x1, x2⟩ := R1.en i d e
            exact ⟨v, x1, x2.mono l⟩
          · obtain ⟨a, o, x1, x2, x3, x4, x5⟩ := R1.cell i c e n
            refine ⟨a, o, x1, s2 _ _ x2, x3.mono l, ?_, x5⟩
            show F' a = none
            cases e2 : F' a with
            | none => rfl
            | some u =>
              rcases fl.nf a u e2 with z | z | ⟨xs, q1, q2⟩
              · rw [x4] at z; cases z
              · have z' : less H fp a = none := z
                rw [x2] at z'; cases z'
              · have z' : less H fp a = some (.tup xs) := q2
                rw [x2] at z'
                cases z'
                exact (co_tup x3).elim
        have deadN : ∀ (F' : Hp) (a : Addr), less H fp a = none → Dead ⟨F', g.L, g.as⟩ (goneAt t.2 st) a := fun F' a ha i c e n ej => by
          obtain ⟨b, o, x1, x2, _⟩ := R1.cell i c e n
          have ej' : g.as[i]? = some a := ej
          rw [x1] at ej'; cases ej'
          rw [x2] at ha; cases ha
        have toL : ∀ a, less H fp a = none → g.L a = none := fun a ha => by
          cases e2 : g.L a with
          | none => rfl
          | some u => rw [R1.sL a u e2] at ha; cases ha
        cases e : sem es with
        | bad => rw [e] at h; exact h.elim
        | exc c xs ts =>
          rw [e] at h
          simp only at h
          intro F' H' d f2 fl s1 s2 hx rT nd2
          obtain ⟨l, R'⟩ := base F' H' fl s1 s2
          split at h
          · rename_i st2 hb
            obtain ⟨g2, l2, eF2, R2⟩ := back_ok (gF := ⟨F', less H fp, []⟩) roots ts _ st2 _ _ f2 hb R' rT nd2 rfl toL (fun a ha => deadN F' a (RepTL.deadL _ _ _ rT a ha)) (rootsOf_ok r mu roots hroots)
            exact h g2 σ H' d (l.trans l2) R2 (by exact hx)
          · exact h.elim
        | ok r' ts =>
          rw [e] at h
          simp only at h
          intro F' H' v f1 f2 fl s1 s2 rT rTs nd2
          obtain ⟨l, R'⟩ := base F' H' fl s1 s2
          have nd3 := List.nodup_append.mp nd2
          have tr : Tr D.pl G ⟨F', less H fp, []⟩ ⟨F', g.L, g.as ++ f1⟩ := ⟨Same.refl _, fun d v hd _ r => Rep.pl (g := ⟨F', less H fp, []⟩) (g' := ⟨F', g.L, g.as ++ f1⟩) (Same.refl _) d v hd r⟩
          obtain ⟨i1, i2, i3⟩ := imp_ok tr r' v f1 g.as rT (fun _ _ z => z)
          have el : g.as.length = (goneAt t.2 st).length := R1.len
          rw [el] at i1 i2 i3
          obtain ⟨l1, Rg⟩ := R'.grow (gT := ⟨F', less H fp, []⟩) i1 nd3.1 (fun a ha => deadN F' a (RepT.deadL _ _ _ rT a ha)) rfl toL i3
          split at h
          · rename_i st2 hb
            obtain ⟨g2, l2, eF2, R2⟩ := back_ok (gF := ⟨F', less H fp, []⟩) roots ts _ st2 _ _ f2 hb Rg rTs nd3.2.1 rfl toL
              (fun a ha => Dead.grow R' (fun h => nd3.2.2 a h a ha rfl) (deadN F' a (RepTL.deadL _ _ _ rTs a ha)))
              (fun k i hk => by
                obtain ⟨a, x1, x2⟩ := rootsOf_ok r mu roots hroots k i hk
                exact ⟨a, x1, l1.as _ _ x2⟩)
            exact h g2 H' (l.trans (l1.trans l2)) R2 v (i2.mono l2)
          · exact h.elim
      · exact h.elim
    · exact h.elim
  · exact h.elim
end
end Px
namespace Px
open PySem PySem.Spec L2
section
variable {G : GS} {W : WX} {X : Cx}
def xcall (np : Nat) (mu : List Nat) (sem : List D → RF) (ms : List Md) (c : XA) : XE := fun en st => (c en st).bind fun ds st => if ds.length = np then callD mu sem ms ds en st else .bad
theorem se_call {k np : Nat} {f : Addr} {fd : FuncData} {ps : List Str} {mu : List Nat} {sem : List D → RF} {x : Str} {p pos : Pos} {e : Expr} {es : List Expr} {c : XA} (ms : List Md) (F : FnOk X.prog X.w X.K X.mg X.base (L2.CX X.prog X.w) k f fd ps (spF G np mu sem))
    (hr : Room k X.A) (hm : X.mg x = some (.ref f)) (hk : PySem.W.keepIn X.K (.ref f) = true) (hb : Binds X.K fd ps []) (tk : Takes X W) (ha : SA G W X (e :: es) c) (hg : Gl X x := by rfl) (hdb : (x == ("__debug__" : Str)) = false := by decide)
    (he : starEach (e :: es) X.env = (false, eval e X.env) :: starEach es X.env := by rfl) (hpl : (backTo pos (starEach es X.env)).any (·.1) = false := by rfl) : SE G W X (.Call (.Name x p) (e :: es) [] pos) (xcall np mu sem ms c) :=
  ⟨PE_imp (pe_callS F hr hg hm hk hb (fun σ => passAt tk σ) ha.pa hdb he hpl) fun σ H Q ⟨g, en, st, R, h⟩ => by
    refine ⟨g, en, st, R, (pX.bind h).imp fun ds st1 g1 H1 l1 R1 h1 vs rvs => ?_⟩
    split at h1
    · rename_i hl
      exact call_sp R1 rvs (by rw [← rvs.length]; exact hl) h1
    · exact h1.elim⟩
abbrev XF := List D → Sto → R D
def rA (G : GS) (W : WX) (f : XF) : List V → Hp → VK → Prop := fun vs H Q => ∃ g en st σ ds, Rel G g en st σ H ∧ RepL G g ds vs ∧ pX G W g en σ (f ds st) fun d g' _ H' => ∀ v, Rep G g' d v → Q v H'
def xbi (f : XF) (c : XA) : XE := fun en st => (c en st).bind fun ds st => f ds st
theorem tCB_of {f : XF} {c : XA} {σ : L2.St} {H : Hp} {Q : VK} (h : tE G W (xbi f c) σ H Q) : tCB (rA G W f) (tA G W c) σ H Q := by
  obtain ⟨g, en, st, R, h⟩ := h
  exact ⟨g, en, st, R, (pX.bind h).imp fun ds st1 g1 H1 l1 R1 h1 vs rvs => ⟨g1, en, st1, σ, ds, R1, rvs, h1⟩⟩
theorem se_bi {f : XF} {x : Str} {p pos : Pos} {e : Expr} {es : List Expr} {c : XA} {id : String} (hc : CallR X (.builtin id) (rA G W f)) (hm : X.mg x = none) (ha : SA G W X (e :: es) c) (hv : bootBuiltins x = some (.builtin id) := by decide +kernel) (hg : Gl X x := by rfl)
    (hn : x ≠ "__name__" := by decide) (hdb : (x == ("__debug__" : Str)) = false := by decide) (he : starEach (e :: es) X.env = (false, eval e X.env) :: starEach es X.env := by rfl) (hpl : (backTo pos (starEach es X.env)).any (·.1) = false := by rfl) : SE G W X (.Call (.Name x p) (e :: es) [] pos) (xbi f c) :=
  ⟨PE_imp (pe_callB hc hg hm hv ha.pa hn hdb he hpl) fun _ _ _ h => tCB_of h⟩
theorem se_ty {f : XF} {x : Str} {p pos : Pos} {e : Expr} {es : List Expr} {c : XA} {T : String} (hc : CallR X (.type T) (rA G W f)) (hm : X.mg x = none) (ha : SA G W X (e :: es) c) (hv : bootBuiltins x = some (.type T) := by decide +kernel) (hg : Gl X x := by rfl)
    (hn : x ≠ "__name__" := by decide) (hdb : (x == ("__debug__" : Str)) = false := by decide) (he : starEach (e :: es) X.env = (false, eval e X.env) :: starEach es X.env := by rfl) (hpl : (backTo pos (starEach es X.env)).any (·.1) = false := by rfl) : SE G W X (.Call (.Name x p) (e :: es) [] pos) (xbi f c) :=
  ⟨PE_imp (pe_callTy hc hg hm hv ha.pa hn hdb he hpl) fun _ _ _ h => tCB_of h⟩
def bLen : XF := fun ds st => match ds with
  | [.str z] => if fitL z.length then .ok (.int z.length) st else .bad
  | [d] => match itemsOf st d with
    | some es => .ok (.int es.length) st
    | none => .bad
  | _ => .bad
theorem hc_len (hK : X.K = G.K) : CallR X (.builtin "len") (rA G W bLen) := CallR_imp call_len fun vs H Q ⟨g, en, st, σ, ds, R, r, h⟩ => by
  unfold bLen at h
  split at h
  · rename_i z
    split at h
    · rename_i c
      obtain ⟨v, rr, rfl, rfl, rfl⟩ := r
      exact ⟨.str z, z.length, rfl, ⟨fitL_ok c, rfl⟩, h g H (Le.refl _) R _ rfl⟩
    · exact h.elim
  · rename_i d _
    split at h
    · rename_i es hes
      obtain ⟨v, rr, rfl, rv, rfl⟩ := r
      obtain ⟨a, us, rfl, e2, e3⟩ := itemsOf_H R rv hes
      refine ⟨.ref a, es.length, rfl, ?_, h g H (Le.refl _) R _ rfl⟩
      rcases e2 with e2 | e2
      · exact .inl ⟨us, by rw [hK]; exact e2, e3.length⟩
      · exact .inr ⟨us, by rw [hK]; exact e2, e3.length⟩
    · exact h.elim
  · exact h.elim
def bAbs : XF := fun ds st => match ds with
  | [.int i] => .ok (.int (if i < 0 then -i else i)) st
  | _ => .bad
theorem hc_abs : CallR X (.builtin "abs") (rA G W bAbs) := CallR_imp call_abs fun vs H Q ⟨g, en, st, σ, ds, R, r, h⟩ => by
  unfold bAbs at h
  split at h
  · rename_i i
    obtain ⟨v, rr, rfl, rfl, rfl⟩ := r
    exact ⟨i, rfl, h g H (Le.refl _) R _ rfl⟩
  · exact h.elim
def bInt : XF := fun ds st => match ds with
  | [.int i] => .ok (.int i) st
  | [.bl k] => .ok (.int (if k then 1 else 0)) st
  | _ => .bad
theorem hc_int : CallR X (.type "int") (rA G W bInt) := CallR_imp call_int1 fun vs H Q ⟨g, en, st, σ, ds, R, r, h⟩ => by
  unfold bInt at h
  split at h
  · rename_i i
    obtain ⟨v, rr, rfl, rfl, rfl⟩ := r
    exact .inl ⟨i, rfl, h g H (Le.refl _) R _ rfl⟩
  · rename_i k
    obtain ⟨v, rr, rfl, rfl, rfl⟩ := r
    exact .inr ⟨k, rfl, h g H (Le.refl _) R _ rfl⟩
  · exact h.elim
def bStr : XF := fun ds st => match ds with
  | [.int i] => if decide (i.natAbs.log2 < 1920) then .ok (.str (toString i)) st else .bad
  | _ => .bad
def bList : XF := fun ds st => match ds with
  | [d] => match itemsOf st d with
    | some es => .ok (.cell st.length) (st ++ [.lst es])
    | none => .bad
  | _ => .bad
def bTuple : XF := fun ds st => match ds with
  | [.tup es] => .ok (.tup es) st
  | [d] => match seqOf st d with
    | some es => .ok (.tup es) st
    | none => .bad
  | _ => .bad
def tyN (st : Sto) : D → Option String
  | .non => some "NoneType" | .bl _ => some "bool" | .int _ => some "int" | .str _ => some "str"
  | .tup _ => some "tuple"
  | .lst .frz _ => some "list" | .lst .loan _ => some "list"
  | .cell i => match st[i]? with
    | some (.lst _) => some "list"
    | some (.dk _ _) => some "dict"
    | some (.dt _ _) => some "dict"
    | _ => none
  | _ => none
theorem tyN_ok (hK : X.K = G.K) {g : Gh} {en : En} {st : Sto} {σ : L2.St} {H : Hp} {d : D} {v : V} {t : String} (R : Rel G g en st σ H) (r : Rep G g d v) (h : tyN st d = some t) : TyX X.K H v (.type t) := by
  cases d with
  | non => cases h; cases r; exact .base .non
  | bl b => cases h; cases r; exact .base (.bl b)
  | int i => cases h; cases r; exact .base (.int i)
  | str x => cases h; cases r; exact .base (.str x)
  | tup ds =>
    cases h
    obtain ⟨a, vs, rfl, e2, e3⟩ := tup_H R r
    rcases e2 with (e2 | ⟨o, e2⟩) | ⟨o, its, n, e2, e4, _⟩
    · exact .base (.tup e2)
    · exact .fTuple e2
    · exact .kTuple (by rw [hK]; exact e2) e4
  | lst m ds =>
    cases m with
    | frz => cases h; obtain ⟨a, vs, rfl, e2, _⟩ := r; exact .base (.lst (R.sF _ _ e2))
    | loan => cases h; obtain ⟨a, vs, rfl, e2, _⟩ := r; exact .base (.lst (R.sL _ _ e2))
    | _ => cases h
  | cell i =>
    simp only [tyN] at h
    cases e : st[i]? with
    | none => rw [e] at h; cases h
    | some c =>
      rw [e] at h
      cases c with
      | lst ds => cases h; obtain ⟨a, o, rfl, _, e2, vs, e3, _⟩ := R.isCell e (by intro z; cases z) r; subst e3; exact .base (.lst e2)
      | dk ks ds => cases h; obtain ⟨a, o, rfl, _, e2, vs, e3, _⟩ := R.isCell e (by intro z; cases z) r; subst e3; exact .base (.dK e2)
      | dt ks ds => cases h; obtain ⟨a, o, rfl, _, e2, vs, e3, _⟩ := R.isCell e (by intro z; cases z) r; subst e3; exact .base (.dT e2)
      | _ => cases h
  | _ => cases h
def isaT : List ((String × String) × Bool) := [(("NoneType", "int"), false), (("bool", "int"), true), (("int", "int"), true), (("str", "int"), false), (("tuple", "int"), false), (("list", "int"), false), (("dict", "int"), false), (("NoneType", "bool"), false), (("bool", "bool"), true), (("int", "bool"), false), (("str", "bool"), false), (("tuple", "bool"), false), (("list", "bool"), false), (("dict", "bool"), false), (("NoneType", "tuple"), false), (("bool", "tuple"), false), (("int", "tuple"), false), (("str", "tuple"), false), (("tuple", "tuple"), true), (("list", "tuple"), false), (("dict", "tuple"), false), (("NoneType", "list"), false), (("bool", "list"), false), (("int", "list"), false), (("str", "list"), false), (("tuple", "list"), false), (("list", "list"), true), (("dict", "list"), false), (("NoneType", "str"), false), (("bool", "str"), false), (("int", "str"), false), (("str", "str"), true), (("tuple", "str"), false), (("list", "str"), false), (("dict", "str"), false), (("NoneType", "dict"), false), (("bool", "dict"), false), (("int", "dict"), false), (("str", "dict"), false), (("tuple", "dict"), false), (("list", "dict"), false), (("dict", "dict"), true)]
theorem isaT_ok : isaT.all (fun p => kitB p.1.1 p.1.2 == some p.2) = true := by decide +kernel
def isaN (t c : String) : Option Bool := isaT.lookup (t, c)
theorem isaN_ok {t c : String} {b : Bool} (h : isaN t c = some b) : kitB t c = some b := by
  have key : ∀ (l : List ((String × String) × Bool)), l.lookup (t, c) = some b → ((t, c), b) ∈ l := by
    intro l
    induction l with
    | nil => intro h; cases h
    | cons p l ih =>
      intro h
      rw [List.lookup_cons] at h
      split at h
      · rename_i e
        cases h
        have : (t, c) = p.1 := by simpa using e
        exact List.mem_cons.mpr (.inl (by rw [this]))
      · exact List.mem_cons_of_mem _ (ih h)
  have q := List.all_eq_true.mp isaT_ok _ (key isaT h)
  simpa using q
def bIsa (T : String) : Op1 := fun x st => match (tyN st x).bind fun t => isaN t T with
  | some b => .ok (.bl b) st
  | none => .bad
theorem se_isa {T : String} {x y : Str} {p p2 pos : Pos} {e : Expr} {c : XE} (hK : X.K = G.K) (hm : X.mg x = none) (hm2 : X.mg y = none) (ha : SE G W X e c) (hx : x = "isinstance" := by rfl) (hv2 : bootBuiltins y = some (.type T) := by decide +kernel) (hg : Gl X x := by rfl) (hg2 : Gl X y := by rfl)
    (hn2 : y ≠ "__name__" := by decide) (hdb2 : (y == ("__debug__" : Str)) = false := by decide) (he : starEach (e :: [.Name y p2]) X.env = (false, eval e X.env) :: starEach [.Name y p2] X.env := by rfl)
    (he2 : starEach (.Name y p2 :: []) X.env = (false, eval (.Name y p2) X.env) :: starEach [] X.env := by rfl) (hpl : (backTo pos (starEach [.Name y p2] X.env)).any (·.1) = false := by rfl) : SE G W X (.Call (.Name x p) (e :: [.Name y p2]) [] pos) (x1 (bIsa T) c) := by
  subst hx
  refine ⟨PE_imp (pe_callB call_isi hg hm (by decide +kernel) (pa_cons ha.pe (pa_cons (pe_bltn (v := .ty T) hg2 hm2 hv2 rfl hn2 hdb2) pa_nil he2) he) (by decide) (by decide) he hpl) fun σ H Q ⟨g, en, st, R, h⟩ => ?_⟩
  refine ⟨g, en, st, R, (pX.bind h).imp fun d st1 g1 H1 l1 R1 h1 v rv => ?_⟩
  unfold bIsa at h1
  split at h1
  · rename_i b hb
    obtain ⟨t, ht, hb⟩ := Option.bind_eq_some_iff.mp hb
    exact ⟨v, .ty T, .type t, .type T, b, rfl, .ty T, tyN_ok hK R1 rv ht, kit_ty (isaN_ok hb), h1 g1 H1 (Le.refl _) R1 _ rfl⟩
  · exact h1.elim
theorem tyV_list (hK : X.K = G.K) {g : Gh} {en : En} {st : Sto} {σ : L2.St} {H : Hp} {d : D} {v : V} {ds : List D} (R : Rel G g en st σ H) (r : Rep G g d v) (h : seqOf st d = some ds) : tyV X.K "list" v H := by
  obtain ⟨a, vs, rfl, e2, _⟩ := seqOf_H R r h
  exact .inl ⟨rfl, vs, by rw [hK]; exact e2⟩
def oApp : Op2 := fun x y st => match x with
  | .cell i => match st[i]? with
    | some (.lst ds) => if decide (ds.length < 16777216) then .ok .non (st.set i (.lst (ds ++ [y]))) else .bad
    | _ => .bad
  | _ => .bad
def xapp (a b : XE) : XE := fun en st => (a en st).bind fun x st => if (seqOf st x).isSome then (b en st).bind fun y st => oApp x y st else .bad
theorem se_app {o e : Expr} {a b : XE} {apos cpos : Pos} (hK : X.K = G.K) (ho : SE G W X o a) (he : SE G W X e b) (hbase : attributeBase o "append" X.env (eval o X.env) = eval o X.env := by rfl)
    (hfew : ((backTo cpos (starEach (e :: []) X.env)).all (fun x => !x.1) && (backToKw cpos (keywordEach [] X.env)).all (fun x => x.1.isSome)
      && decide ((e :: []).length + ([] : List Keyword).length + (if ([] : List Keyword).isEmpty then 0 else 1) < 30)) = true := by rfl)
    (hline : (apos.endLine == cpos.line) = true := by rfl) (hs : starEach (e :: []) X.env = (false, eval e X.env) :: starEach [] X.env := by rfl) : SE G W X (.Call (.Attribute o "append" apos) (e :: []) [] cpos) (xapp a b) :=
  ⟨PE_imp (pe_bm PySem.F.plainAttrs_list PySem.F.slot_list_append PySem.F.type_list_append mt_append ho.pe (pa_cons he.pe pa_nil hs) hbase hfew hline hs rfl) fun σ H Q ⟨g, en, st, R, h⟩ => by
    refine ⟨g, en, st, R, (pX.bind h).imp fun x st1 g1 H1 l1 R1 h1 v rv => ?_⟩
    split at h1
    · rename_i hsome
      obtain ⟨ds, hds⟩ := Option.isSome_iff_exists.mp hsome
      refine ⟨tyV_list hK R1 rv hds, g1, en, st1, R1, (pX.bind h1).imp fun y st2 g2 H2 l2 R2 h2 u ru => ?_⟩
      unfold oApp at h2
      split at h2
      · rename_i i
        split at h2
        · rename_i es hes
          split at h2
          · rename_i c
            obtain ⟨p, ob, rfl, e2, e3, vs, e4, e5⟩ := R2.isCell hes (by intro z; cases z) (rv.mono l2)
            subst e4
            refine ⟨p, vs, u, rfl, rfl, e3, by rw [← e5.length, sizeLine_eq]; exact of_decide_eq_true c, ?_⟩
            exact h2 g2 _ (Le.refl _) (R2.put hes (by intro z; cases z) e2 ⟨_, rfl, e5.append (.one ru)⟩) _ rfl
          · exact h2.elim
        · exact h2.elim
      · exact h2.elim
    · exact h1.elim⟩
abbrev W0 : WX := fun _ _ _ _ => False
def wipeE (en : En) : List Nat → En
  | [] => en
  | v :: vs => (wipeE en vs).set v none
def cloop (own : List Nat) (k : Nat) (src : List (Nat × List D)) (t : XG) (c : XT) (e : XE) (en : En) : List D → Sto → R Unit
  | [], st => if okSrc src st then .ok () st else .bad
  | d :: ds, st => if okSrc src st then (t d (wipeE en own) st).bind fun en1 st => (c en1 st).bind fun b st => if b then (e en1 st).bind fun y st => match st[k]? with
        | some (.lst acc) => if decide (acc.length < 16777216) then cloop own k src t c e en ds (st.set k (.lst (acc ++ [y]))) else .bad
        | _ => .bad
      else cloop own k src t c e en ds st
    else .bad
def R.quiet {α : Type} (r : R α) (en : En) : R α := match r with
  | .ok a st => .ok a st
  | _ => .bad
def xlc (own : List Nat) (i : XI) (t : XG) (c : XT) (e : XE) : XE := fun en st => (i en st).bind fun it st => R.quiet ((cloop own st.length it.src t c e en it.its (st ++ [.lst []])).bind fun _ st' => .ok (.cell st.length) st') en
def xyes : XT := fun _ st => .ok true st
mutual
inductive Pat where | nm (i : Nat) | tp (ps : Pats)
inductive Pats where | nil | cons (p : Pat) (ps : Pats)
end
def Pats.len : Pats → Nat
  | .nil => 0
  | .cons _ ps => ps.len + 1
mutual
def Pat.x : Pat → XG
  | .nm i => gset i
  | .tp ps => gtup ps.len ps.xs
def Pats.xs : Pats → XGs
  | .nil => gnil
  | .cons p ps => gcons p.x ps.xs
end
mutual
def Pat.g (K : PySem.W.Frag) : Pat → TG
  | .nm i => gName i
  | .tp ps => fun v σ H Q => L2.gTup K ps.len (ps.gs K) v σ H Q ∨ gLst K ps.len (ps.gs K) v σ H Q
def Pats.gs (K : PySem.W.Frag) : Pats → TGs
  | .nil => gNil
  | .cons p ps => gCons (p.g K) (ps.gs K)
end
mutual
def Pat.ns : Pat → List Nat
  | .nm i => [i]
  | .tp ps => ps.nss
def Pats.nss : Pats → List Nat
  | .nil => []
  | .cons p ps => p.ns ++ ps.nss
end
def cP (G : GS) (Q : VK) (σ : L2.St) (en : En) (k : Nat) (g : Gh) (r : R Unit) : Prop := match r with
  | .ok _ st' => ∀ g' H', Le g g' → Rel G g' en st' σ H' → ∀ v, Rep G g' (.cell k) v → Q v H'
  | _ => False
theorem cP.weak {Q : VK} {σ : L2.St} {en : En} {k : Nat} {g g1 : Gh} {r : R Unit} (l : Le g g1) (h : cP G Q σ en k g r) : cP G Q σ en k g1 r := by
  cases r with
  | ok u st => exact fun g' H' l' => h g' H' (l.trans l')
  | exc _ _ _ _ => exact h
  | bad => exact h
end
end Px
namespace Px
open PySem PySem.Spec L2
structure CallF (P : Program) (w : World) (G : GS) (mg : Str → Option Value) (base : Heap) (x : Str) (k np : Nat) (mu : List Nat) (sem : List D → RF) : Prop where
  ex : ∃ (f : Addr) (fd : FuncData) (ps : List Str), FnOk P w G.K mg base (L2.CX P w) k f fd ps (spF G np mu sem) ∧ mg x = some (.ref f) ∧ PySem.W.keepIn G.K (.ref f) = true ∧ Binds G.K fd ps []
section
variable {G : GS} {W : WX} {X : Cx}
theorem se_callF {k np : Nat} {mu : List Nat} {sem : List D → RF} {x : Str} {p pos : Pos} {e : Expr} {es : List Expr} {c : XA} (ms : List Md) (hK : X.K = G.K) (tk : Takes X W) (F : CallF X.prog X.w G X.mg X.base x k np mu sem)
    (hr : Room k X.A) (ha : SA G W X (e :: es) c) (hg : Gl X x := by rfl) (hdb : (x == ("__debug__" : Str)) = false := by decide)
    (he : starEach (e :: es) X.env = (false, eval e X.env) :: starEach es X.env := by rfl) (hpl : (backTo pos (starEach es X.env)).any (·.1) = false := by rfl) : SE G W X (.Call (.Name x p) (e :: es) [] pos) (xcall np mu sem ms c) := by
  obtain ⟨f, fd, ps, h1, h2, h3, h4⟩ := F.ex
  rw [← hK] at h1 h3 h4
  exact se_call ms h1 hr h2 h3 h4 tk ha hg hdb he hpl
theorem callF_mk {P : Program} {w : World} {mg : Str → Option Value} {base : Heap} {x : Str} {k np : Nat} {mu : List Nat} {sem : List D → RF} {f : Addr} {fd : FuncData} {ps : List Str}
    (F : FnOk P w G.K mg base (L2.CX P w) k f fd ps (spF G np mu sem)) (hm : mg x = some (.ref f)) (hk : PySem.W.keepIn G.K (.ref f) = true) (hb : Binds G.K fd ps []) : CallF P w G mg base x k np mu sem := ⟨f, fd, ps, F, hm, hk, hb⟩
theorem callF_of {P : Program} {w : World} {mg : Str → Option Value} {base : Heap} {x : Str} {k np : Nat} {mu : List Nat} {sem : List D → RF} {st : Stmt} {f : Addr} {ps : List Str} {oc : Value} {od an : Option Addr} {osl : Array (Option Value)} {kV doc pm cdv ct : Value}
    (lk : G.K.lookup f = some ⟨oc, od, .func (PySem.W.fnOf x x (defArgs st) (defBody st) (defScope st) .none kV doc pm an cdv ct), osl⟩) (c : PySem.W.codeIn G.K cdv x = true) (kp : PySem.W.keepIn G.K (.ref f) = true) (hm : mg x = some (.ref f))
    (hb : ∀ (kV doc pm : Value) (an : Option Addr) (cdv ct : Value) (us : List Value), us.length = ps.length → bindArgs (PySem.W.fnOf x x (defArgs st) (defBody st) (defScope st) .none kV doc pm an cdv ct) ⟨us, []⟩ = pure (ps.zip us))
    (ok : ∀ {f : Addr} {fd : FuncData}, Fun G.K x x st f fd → FnOk P w G.K mg base (L2.CX P w) k f fd ps (spF G np mu sem)) : CallF P w G mg base x k np mu sem :=
  have F := fun_mk (st := st) lk c kp
  callF_mk (ok F) hm kp (F.binds hb)
end
def strip (H : Hp) : Hp := fun b => match H b with
  | some (.dK _) => none
  | o => o
theorem strip_of {H : Hp} {b : Addr} {o : HO} (h : H b = some o) (hn : ∀ k, o ≠ .dK k) : strip H b = some o := by
  unfold strip
  rw [h]
  cases o <;> first | rfl | exact (hn _ rfl).elim
theorem strip_same (H : Hp) : Same (strip H) H := fun b o e => by
  unfold strip at e
  split at e
  · cases e
  · exact e
theorem strip_nd (H : Hp) : NoD (strip H) := fun b k e => by
  unfold strip at e
  split at e
  · cases e
  · rename_i h; exact h k e
theorem law_sp {G : GS} {sem : List D → RF} {H : Hp} {a : Addr} {ns : List Int} (hS : SqL G.K H a (ns.map V.int)) (h : sem [.lst .ro (ns.map D.int)] = .ok (.bl true) []) : spF G 1 [] sem [.ref a] H (fun v _ => v = .bl true) fun _ _ _ => False := by
  have s0 : Same (fun _ => none : Hp) H := fun b o e => by cases e
  have hS' : SqL G.K (strip H) a (ns.map V.int) := by
    rcases hS with (h | ⟨o, h⟩) | h
    · exact .inl (.inl (strip_of h fun k z => by cases z))
    · exact .inl (.inr ⟨o, strip_of h fun k z => by cases z⟩)
    · exact .inr h
  refine ⟨⟨strip H, fun _ => none, []⟩, [.lst .ro (ns.map D.int)], [], rfl, strip_nd H, rfl, strip_same H, s0, ?_, List.nodup_nil, ?_⟩
  · have hn : ∀ ns : List Int, nocL (ns.map D.int) = true := by
      intro ns
      induction ns with
      | nil => rfl
      | cons n ns ih => simpa [nocL, D.noc] using ih
    have hd : (D.lst .ro (ns.map D.int)).noc = true := by simp [D.noc, hn]
    exact ⟨.ref a, [], [], [], rfl, ⟨hd, hd, ⟨a, ns.map V.int, rfl, hS', RepL.ints ns⟩, rfl⟩, ⟨rfl, rfl⟩, rfl⟩
  · rw [h]
    intro F' H' v f1 f2 _ _ _ r _ _
    exact r.2.2.1
end Px
namespace Px
open PySem PySem.Spec L2
@[simp] theorem noc_non : D.noc .non = true := (rfl)
@[simp] theorem noc_bl (b : Bool) : D.noc (.bl b) = true := (rfl)
@[simp] theorem noc_int (i : Int) : D.noc (.int i) = true := (rfl)
@[simp] theorem noc_str (x : Str) : D.noc (.str x) = true := (rfl)
@[simp] theorem noc_tup (ds : List D) : D.noc (.tup ds) = nocL ds := by simp only [D.noc]
@[simp] theorem noc_ro (ds : List D) : D.noc (.lst .ro ds) = nocL ds := by simp [D.noc]
@[simp] theorem noc_frz (ds : List D) : D.noc (.lst .frz ds) = nocL ds := by simp [D.noc]
@[simp] theorem noc_loan (ds : List D) : D.noc (.lst .loan ds) = nocL ds := by simp [D.noc]
@[simp] theorem noc_own (ds : List D) : D.noc (.lst .own ds) = false := (rfl)
@[simp] theorem noc_cell (i : Nat) : D.noc (.cell i) = false := (rfl)
@[simp] theorem pl_cell (i : Nat) : D.pl (.cell i) = false := (rfl)
@[simp] theorem nocL_nil : nocL [] = true := (rfl)
@[simp] theorem nocL_cons (d : D) (ds : List D) : nocL (d :: ds) = (d.noc && nocL ds) := (rfl)
@[simp] theorem pl_non : D.pl .non = true := (rfl)
@[simp] theorem pl_bl (b : Bool) : D.pl (.bl b) = true := (rfl)
@[simp] theorem pl_int (i : Int) : D.pl (.int i) = true := (rfl)
@[simp] theorem pl_str (x : Str) : D.pl (.str x) = true := (rfl)
@[simp] theorem pl_tup (ds : List D) : D.pl (.tup ds) = plL ds := by simp only [D.pl]
@[simp] theorem pl_ro (ds : List D) : D.pl (.lst .ro ds) = plL ds := by simp [D.pl]
@[simp] theorem pl_frz (ds : List D) : D.pl (.lst .frz ds) = plL ds := by simp [D.pl]
@[simp] theorem pl_loan (ds : List D) : D.pl (.lst .loan ds) = false := by simp [D.pl]
@[simp] theorem plL_nil : plL [] = true := (rfl)
@[simp] theorem plL_cons (d : D) (ds : List D) : plL (d :: ds) = (d.pl && plL ds) := (rfl)
@[simp] theorem nocL_ints (ns : List Int) : nocL (ns.map D.int) = true := by
  induction ns with
  | nil => rfl
  | cons n ns ih => simpa using ih
@[simp] theorem plL_ints (ns : List Int) : plL (ns.map D.int) = true := by
  induction ns with
  | nil => rfl
  | cons n ns ih => simpa using ih
@[simp] theorem nocL_append (a b : List D) : nocL (a ++ b) = (nocL a && nocL b) := by
  induction a with
  | nil => rfl
  | cons d a ih => simp [ih, Bool.and_assoc]
@[simp] theorem plL_append (a b : List D) : plL (a ++ b) = (plL a && plL b) := by
  induction a with
  | nil => rfl
  | cons d a ih => simp [ih, Bool.and_assoc]
theorem take_id {ok : D → Bool} {st : Sto} {n : Nat} {d : D} (h : ok d = true) : take ok st n d = some (d, []) := by
  cases n <;> simp [take, h]
theorem takeL_id {ok : D → Bool} {f : D → Option (D × List Nat)} {ds : List D} (h : ds.all ok = true) : takeL ok f ds = some (ds, []) := by simp [takeL, h]
theorem snap_id {st : Sto} {n : Nat} {d : D} (h : d.noc = true) : snap st n d = some d := by
  cases n <;> simp [snap, h]
theorem imp_id : ∀ (d : D) (n : Nat), d.noc = true → imp d n = (d, [])
  | .tup ds, n, h => by simp [imp] at h ⊢; simp [h]
  | .lst m ds, n, h => by cases m <;> simp_all [imp]
  | .dk m ks ds, n, h => by cases m <;> simp_all [imp, D.noc]
  | .dt m ks ds, n, h => by cases m <;> simp_all [imp, D.noc]
  | .obj m c ds, n, h => by cases m <;> simp_all [imp, D.noc]
  | .non, _, _ => rfl | .bl _, _, _ => rfl | .int _, _, _ => rfl | .str _, _, _ => rfl
  | .cell _, _, h => by simp at h
theorem impL_id : ∀ (ds : List D) (n : Nat), nocL ds = true → impL ds n = (ds, [])
  | [], _, _ => rfl
  | d :: ds, n, h => by
    simp at h
    simp [impL, imp_id d n h.1, impL_id ds n h.2]
theorem xfun_pl {np nl : Nat} {body : XS} {ds : List D} (hn : nocL ds = true) (hl : ds.length = np) : xfun np nl [] body ds = match body (ds.map some ++ List.replicate nl none) [] with
    | .ok (.rt d, _) st => fin [] ds d st
    | .ok (.nx, _) st => fin [] ds .non st
    | .ok _ _ => .bad
    | .exc c xs _ st => finX [] ds c xs st
    | .bad => .bad := by
  unfold xfun
  rw [if_pos hl, impL_id ds 0 hn]
  first | done | rfl
theorem fin_pl {ps : List D} {d : D} {st : Sto} (h : d.pl = true) : fin [] ps d st = .ok d [] := by
  unfold fin
  rw [take_id h]
  simp [takeL]
theorem prepT_id {st : Sto} : ∀ (ms : List Md) (ds : List D), ms.length = ds.length → nocL ds = true → prepT st ms ds = some (ds, [])
  | [], [], _, _ => rfl
  | .val :: ms, d :: ds, h, n => by
    simp at h n
    simp [prepT, prepT_id ms ds h n.2]
  | .mov :: ms, d :: ds, h, n => by
    simp at h n
    simp [prepT, take_id n.1, prepT_id ms ds h n.2]
  | .mut :: ms, d :: ds, h, n => by
    simp at h n
    simp [prepT, take_id n.1, prepT_id ms ds h n.2]
  | [], _ :: _, h, _ => by simp at h
  | .val :: _, [], h, _ => by simp at h
  | .mov :: _, [], h, _ => by simp at h
  | .mut :: _, [], h, _ => by simp at h
theorem prepS_id {st : Sto} : ∀ (ms : List Md) (ds : List D), ms.length = ds.length → nocL ds = true → prepS st ms ds = some ds
  | [], [], _, _ => rfl
  | .val :: ms, d :: ds, h, n => by
    simp at h n
    simp [prepS, snap_id n.1, prepS_id ms ds h n.2]
  | .mov :: ms, d :: ds, h, n => by
    simp at h n
    simp [prepS, prepS_id ms ds h n.2]
  | .mut :: ms, d :: ds, h, n => by
    simp at h n
    simp [prepS, prepS_id ms ds h n.2]
  | [], _ :: _, h, _ => by simp at h
  | .val :: _, [], h, _ => by simp at h
  | .mov :: _, [], h, _ => by simp at h
  | .mut :: _, [], h, _ => by simp at h
@[simp] theorem rngL_zero (lo : Int) : rngL lo 0 = [] := (rfl)
theorem rngL_succ (lo : Int) (n : Nat) : rngL lo (n + 1) = .int lo :: rngL (lo + 1) n := by
  unfold rngL
  rw [List.range_succ_eq_map, List.map_cons, List.map_map]
  congr 1
  · simp
  · apply List.map_congr_left
    intro k _
    simp
    omega
def Sz (n : Nat) (a : Int) : Prop := a.natAbs < 2 ^ n
theorem Sz.mono {n m : Nat} {a : Int} (h : Sz n a) (l : n ≤ m) : Sz m a := Nat.lt_of_lt_of_le h (Nat.pow_le_pow_right (by decide) l)
theorem Sz.bits {a : Int} {n : Nat} (h : Builtin.Int.intBits a ≤ n) : Sz n a := by
  unfold Builtin.Int.intBits at h
  unfold Sz
  split at h
  · rename_i e
    have : a.natAbs = 0 := by first | (simpa using e) | omega
    rw [this]; exact Nat.two_pow_pos n
  · rename_i e
    exact Nat.lt_of_lt_of_le (Nat.lt_log2_self) (Nat.pow_le_pow_right (by decide) h)
theorem okMul_sz {n m : Nat} {a b : Int} (ha : Sz n a) (hb : Sz m b) (h0 : 0 < n) (h1 : 0 < m) (h : n + m ≤ 100000000) : okMul a b = true := by
  have x := PySem.Flt.log2_lt_of h0 ha
  have y := PySem.Flt.log2_lt_of h1 hb
  unfold okMul
  simp only [Bool.or_eq_true, decide_eq_true_eq]
  right; omega
theorem Sz.add {n : Nat} {a b : Int} (ha : Sz n a) (hb : Sz n b) : Sz (n + 1) (a + b) := by
  unfold Sz at *
  have := Int.natAbs_add_le a b
  rw [Nat.pow_succ]; omega
theorem Sz.neg {n : Nat} {a : Int} (ha : Sz n a) : Sz n (-a) := by unfold Sz at *; rw [Int.natAbs_neg]; exact ha
theorem Sz.sub {n : Nat} {a b : Int} (ha : Sz n a) (hb : Sz n b) : Sz (n + 1) (a - b) := by rw [Int.sub_eq_add_neg]; exact ha.add hb.neg
theorem Sz.mul {n m : Nat} {a b : Int} (ha : Sz n a) (hb : Sz m b) : Sz (n + m) (a * b) := wide_lt ha hb
end Px
namespace Px
open PySem PySem.Spec L2
mutual
def D.eqT : D → D → Bool
  | .non, .non => true
  | .bl a, .bl b => a == b
  | .bl a, .int j => (if a then 1 else 0) == j
  | .int i, .bl b => i == (if b then 1 else 0)
  | .int i, .int j => i == j
  | .str a, .str b => a == b
  | .tup a, .tup b => eqTL a b
  | .lst _ a, .lst _ b => eqTL a b
  | _, _ => false
def eqTL : List D → List D → Bool
  | [], [] => true
  | a :: r, b :: s => D.eqT a b && eqTL r s
  | _, _ => false
end
mutual
def D.sh : D → Nat → Bool
  | .non, _ => true
  | .bl _, _ => true
  | .int _, _ => true
  | .str x, _ => PyData.strOk x
  | .tup ds, n => decide (0 < n) && shL ds (n - 1)
  | .lst m ds, n => decide (m ≠ .own) && (decide (0 < n) && shL ds (n - 1))
  | _, _ => false
def shL : List D → Nat → Bool
  | [], _ => true
  | d :: ds, n => d.sh n && shL ds n
end
mutual
theorem sh_py : ∀ (d : D) (n : Nat), d.sh n = true → ∃ p, pyD d = some p ∧ p.canLay0 = true ∧ p.depth ≤ n
  | .non, _, _ => ⟨_, rfl, by simp [PyData.canLay0], by simp [PyData.depth]⟩
  | .bl _, _, _ => ⟨_, rfl, by simp [PyData.canLay0], by simp [PyData.depth]⟩
  | .int _, _, _ => ⟨_, rfl, by simp [PyData.canLay0], by simp [PyData.depth]⟩
  | .str _, _, h => ⟨_, rfl, by simpa [PyData.canLay0, D.sh] using h, by simp [PyData.depth]⟩
  | .tup ds, n, h => by
    simp [D.sh] at h
    obtain ⟨p, e, c, l⟩ := shL_py ds (n - 1) h.2
    exact ⟨.tuple p, by simp [pyD, e], by simpa [PyData.canLay0] using c, by simp [PyData.depth]; omega⟩
  | .lst m ds, n, h => by
    simp [D.sh] at h
    obtain ⟨p, e, c, l⟩ := shL_py ds (n - 1) h.2.2
    exact ⟨.list p, by simp [pyD, e, h.1], by simpa [PyData.canLay0] using c, by simp [PyData.depth]; omega⟩
  | .dk _ _ _, _, h => by simp [D.sh] at h
  | .dt _ _ _, _, h => by simp [D.sh] at h
  | .obj _ _ _, _, h => by simp [D.sh] at h
  | .cell _, _, h => by simp [D.sh] at h
theorem shL_py : ∀ (ds : List D) (n : Nat), shL ds n = true → ∃ p, pyL ds = some p ∧ PyData.canLayAll0 p = true ∧ PyData.depthAll p ≤ n
  | [], _, _ => ⟨[], rfl, by simp [PyData.canLayAll0], by simp [PyData.depthAll]⟩
  | d :: ds, n, h => by
    simp [shL] at h
    obtain ⟨p, e, c, l⟩ := sh_py d n h.1
    obtain ⟨q, e', c', l'⟩ := shL_py ds n h.2
    exact ⟨p :: q, by simp [pyL, e, e'], by simp [PyData.canLayAll0, c, c'], by simp [PyData.depthAll]; omega⟩
end
mutual
theorem eqT_eqv : ∀ (x y : D) (p q : PyData), pyD x = some p → pyD y = some q → PyData.eqv p q = D.eqT x y
  | .non, y, p, q, hp, hq => by cases hp; cases y <;> simp [pyD] at hq <;> (try (rcases hq with hq)) <;> (first | (subst hq; simp [PyData.eqv, D.eqT]) | (obtain ⟨_, _, rfl⟩ := hq; simp [PyData.eqv, D.eqT]) | (obtain ⟨_, _, _, rfl⟩ := hq; simp [PyData.eqv, D.eqT]))
  | .bl _, y, p, q, hp, hq => by cases hp; cases y <;> simp [pyD] at hq <;> (first | (subst hq; simp [PyData.eqv, D.eqT]) | (obtain ⟨_, _, rfl⟩ := hq; simp [PyData.eqv, D.eqT]) | (obtain ⟨_, _, _, rfl⟩ := hq; simp [PyData.eqv, D.eqT]))
  | .int _, y, p, q, hp, hq => by cases hp; cases y <;> simp [pyD] at hq <;> (first | (subst hq; simp [PyData.eqv, D.eqT]) | (obtain ⟨_, _, rfl⟩ := hq; simp [PyData.eqv, D.eqT]) | (obtain ⟨_, _, _, rfl⟩ := hq; simp [PyData.eqv, D.eqT]))
  | .str _, y, p, q, hp, hq => by cases hp; cases y <;> simp [pyD] at hq <;> (first | (subst hq; simp [PyData.eqv, D.eqT]) | (obtain ⟨_, _, rfl⟩ := hq; simp [PyData.eqv, D.eqT]) | (obtain ⟨_, _, _, rfl⟩ := hq; simp [PyData.eqv, D.eqT]))
  | .tup ds, y, p, q, hp, hq => by
    simp [pyD] at hp
    obtain ⟨ps, e, rfl⟩ := hp
    cases y <;> simp [pyD] at hq
    case tup es => obtain ⟨qs, e', rfl⟩ := hq; simp [PyData.eqv, D.eqT, eqTL_eqv ds es ps qs e e']
    all_goals (first | (subst hq; simp [PyData.eqv, D.eqT]) | (obtain ⟨_, _, rfl⟩ := hq; simp [PyData.eqv, D.eqT]) | (obtain ⟨_, _, _, rfl⟩ := hq; simp [PyData.eqv, D.eqT]))
  | .lst m ds, y, p, q, hp, hq => by
    simp [pyD] at hp
    obtain ⟨_, ps, e, rfl⟩ := hp
    cases y <;> simp [pyD] at hq
    case lst n es => obtain ⟨_, qs, e', rfl⟩ := hq; simp [PyData.eqv, D.eqT, eqTL_eqv ds es ps qs e e']
    all_goals (first | (subst hq; simp [PyData.eqv, D.eqT]) | (obtain ⟨_, _, rfl⟩ := hq; simp [PyData.eqv, D.eqT]) | (obtain ⟨_, _, _, rfl⟩ := hq; simp [PyData.eqv, D.eqT]))
  | .dk _ _ _, _, _, _, h, _ => by simp [pyD] at h
  | .dt _ _ _, _, _, _, h, _ => by simp [pyD] at h
  | .obj _ _ _, _, _, _, h, _ => by simp [pyD] at h
  | .cell _, _, _, _, h, _ => by simp [pyD] at h
theorem eqTL_eqv : ∀ (x y : List D) (p q : List PyData), pyL x = some p → pyL y = some q → PyData.eqvAll p q = eqTL x y
  | [], [], p, q, hp, hq => by cases hp; cases hq; simp [PyData.eqvAll, eqTL]
  | [], y :: ys, p, q, hp, hq => by
    cases hp
    simp only [pyL] at hq
    split at hq
    · cases hq; simp [PyData.eqvAll, eqTL]
    · cases hq
  | x :: xs, [], p, q, hp, hq => by
    cases hq
    simp only [pyL] at hp
    split at hp
    · cases hp; simp [PyData.eqvAll, eqTL]
    · cases hp
  | x :: xs, y :: ys, p, q, hp, hq => by
    simp only [pyL] at hq hp
    split at hp
    · rename_i a b e1 e2
      split at hq
      · rename_i c d e3 e4
        cases hp; cases hq
        simp [PyData.eqvAll, eqTL, eqT_eqv x y a c e1 e3, eqTL_eqv xs ys b d e2 e4]
      · cases hq
    · cases hp
end
theorem eqD_sh {st : Sto} {x y : D} {n m : Nat} (hx : x.noc = true) (hy : y.noc = true) (sx : x.sh 64 = true) (sy : y.sh 64 = true) : eqD st x y = some (D.eqT x y) := by
  obtain ⟨p, e1, c1, l1⟩ := sh_py x 64 sx
  obtain ⟨q, e2, c2, l2⟩ := sh_py y 64 sy
  have h1 : SeqAt.shaped p = true := by simp [SeqAt.shaped, c1, l1]
  have h2 : SeqAt.shaped q = true := by simp [SeqAt.shaped, c2, l2]
  unfold eqD
  split
  · simp [D.eqT]; rfl
  · simp [D.eqT]; rfl
  · simp [D.eqT]; rfl
  · rw [snap_id hx, snap_id hy]
    simp [e1, e2, h1, h2, eqT_eqv x y p q e1 e2]
@[simp] theorem sh_non (n : Nat) : D.sh .non n = true := by simp [D.sh]
@[simp] theorem sh_bl (b : Bool) (n : Nat) : D.sh (.bl b) n = true := by simp [D.sh]
@[simp] theorem sh_int (i : Int) (n : Nat) : D.sh (.int i) n = true := by simp [D.sh]
@[simp] theorem sh_str (i : Str) (n : Nat) : D.sh (.str i) n = PyData.strOk i := by simp [D.sh]
@[simp] theorem sh_tup (ds : List D) (n : Nat) : D.sh (.tup ds) (n + 1) = shL ds n := by simp [D.sh]
@[simp] theorem sh_lst (m : Mk) (ds : List D) (n : Nat) : D.sh (.lst m ds) (n + 1) = (decide (m ≠ .own) && shL ds n) := by simp [D.sh]
@[simp] theorem shL_nil (n : Nat) : shL [] n = true := by simp [shL]
@[simp] theorem shL_cons (d : D) (ds : List D) (n : Nat) : shL (d :: ds) n = (d.sh n && shL ds n) := by simp [shL]
@[simp] theorem shL_app (a b : List D) (n : Nat) : shL (a ++ b) n = (shL a n && shL b n) := by
  induction a with
  | nil => simp
  | cons d a ih => simp [ih, Bool.and_assoc]
@[simp] theorem shL_ints (ns : List Int) (n : Nat) : shL (ns.map D.int) n = true := by
  induction ns with
  | nil => rfl
  | cons d a ih => simpa using ih
@[simp] theorem eqT_int (a b : Int) : D.eqT (.int a) (.int b) = decide (a = b) := by simp [D.eqT]; rfl
@[simp] theorem eqT_str (a b : Str) : D.eqT (.str a) (.str b) = decide (a = b) := by simp [D.eqT]; rfl
@[simp] theorem eqT_bl (a b : Bool) : D.eqT (.bl a) (.bl b) = (a == b) := by simp [D.eqT]
@[simp] theorem eqT_non : D.eqT .non .non = true := by simp [D.eqT]
@[simp] theorem eqT_tup (a b : List D) : D.eqT (.tup a) (.tup b) = eqTL a b := by simp [D.eqT]
@[simp] theorem eqT_lst (m n : Mk) (a b : List D) : D.eqT (.lst m a) (.lst n b) = eqTL a b := by simp [D.eqT]
@[simp] theorem eqTL_nil : eqTL [] [] = true := by simp [eqTL]
@[simp] theorem eqTL_nc (d : D) (ds : List D) : eqTL [] (d :: ds) = false := by simp [eqTL]
@[simp] theorem eqTL_cn (d : D) (ds : List D) : eqTL (d :: ds) [] = false := by simp [eqTL]
@[simp] theorem eqTL_cons (d e : D) (ds es : List D) : eqTL (d :: ds) (e :: es) = (d.eqT e && eqTL ds es) := by simp [eqTL]
@[simp] theorem eqTL_ints : ∀ (a b : List Int), eqTL (a.map D.int) (b.map D.int) = decide (a = b)
  | [], [] => by simp
  | [], b :: bs => by simp
  | a :: as, [] => by simp
  | a :: as, b :: bs => by simp [eqTL_ints as bs]
@[simp] theorem ev_eqT (a b : List D) (st : Sto) (ha : nocL a = true) (hb : nocL b = true) (sa : shL a 63 = true) (sb : shL b 63 = true) : oEq (.tup a) (.tup b) st = .ok (.bl (eqTL a b)) st := by
  unfold oEq
  rw [eqD_sh (n := 0) (m := 0) (by simpa using ha) (by simpa using hb) (by simpa using sa) (by simpa using sb)]
  simp [oB]
@[simp] theorem ev_neT (a b : List D) (st : Sto) (ha : nocL a = true) (hb : nocL b = true) (sa : shL a 63 = true) (sb : shL b 63 = true) : oNe (.tup a) (.tup b) st = .ok (.bl !(eqTL a b)) st := by
  unfold oNe
  rw [eqD_sh (n := 0) (m := 0) (by simpa using ha) (by simpa using hb) (by simpa using sa) (by simpa using sb)]
  simp [oB]
end Px
namespace Px
open PySem PySem.Spec L2
def andD (x : D) (k : Sto → R D) (st : Sto) : R D := match x with | .bl true => k st | .bl false => .ok (.bl false) st | _ => .bad
def orD (x : D) (k : Sto → R D) (st : Sto) : R D := match x with | .bl false => k st | .bl true => .ok (.bl true) st | _ => .bad
@[simp] theorem andD_bl (b : Bool) (k : Sto → R D) (st : Sto) : andD (.bl b) k st = if b then k st else .ok (.bl false) st := by cases b <;> rfl
@[simp] theorem orD_bl (b : Bool) (k : Sto → R D) (st : Sto) : orD (.bl b) k st = if b then .ok (.bl true) st else k st := by cases b <;> rfl
@[simp] theorem ite_andD (p : Prop) [Decidable p] (c : Bool) (st : Sto) : (if p then R.ok (D.bl c) st else R.ok (D.bl false) st) = R.ok (D.bl (decide p && c)) st := by by_cases h : p <;> simp [h]
@[simp] theorem ite_orD (p : Prop) [Decidable p] (c : Bool) (st : Sto) : (if p then R.ok (D.bl true) st else R.ok (D.bl c) st) = R.ok (D.bl (decide p || c)) st := by by_cases h : p <;> simp [h]
@[simp] theorem ite_andB (p : Prop) [Decidable p] (c : Bool) (st : Sto) : (if p then R.ok c st else R.ok false st) = R.ok (decide p && c) st := by by_cases h : p <;> simp [h]
@[simp] theorem ite_orB (p : Prop) [Decidable p] (c : Bool) (st : Sto) : (if p then R.ok true st else R.ok c st) = R.ok (decide p || c) st := by by_cases h : p <;> simp [h]
@[simp ↓] theorem bind_step {α β : Type} (r : R α) (f : α → Sto → R β) : r.bind f = match r with
  | .ok a st => f a st
  | .exc c ds en st => .exc c ds en st
  | .bad => .bad := (rfl)
section
variable (en : En) (st : Sto)
@[simp] theorem ev_xc (d : D) : xc d en st = .ok d st := (rfl)
@[simp] theorem ev_nil : snil en st = .ok (.nx, en) st := (rfl)
@[simp] theorem ev_break : sbreak en st = .ok (.bk, en) st := (rfl)
@[simp] theorem ev_cont : scont en st = .ok (.ct, en) st := (rfl)
@[simp] theorem ev_pass : spass en st = .ok (.nx, en) st := (rfl)
@[simp] theorem ev_expr (c : XE) : sexpr c en st = (c en st).bind fun _ st => .ok (.nx, en) st := (rfl)
@[simp] theorem ev_ret (c : XE) : sret c en st = (c en st).bind fun d st => .ok (.rt d, en) st := (rfl)
@[simp] theorem ev_retN : sretN en st = .ok (.rt .non, en) st := (rfl)
@[simp] theorem ev_if (c : XT) (a b : XS) : sif c a b en st = (c en st).bind fun k st => if k then a en st else b en st := (rfl)
@[simp] theorem ev_set (i : Nat) (c : XE) : sset i c en st = (c en st).bind fun d st => .ok (.nx, en.set i (some d)) st := (rfl)
@[simp] theorem ev_x1 (f : Op1) (a : XE) : x1 f a en st = (a en st).bind fun x st => f x st := (rfl)
@[simp] theorem ev_x2 (f : Op2) (a b : XE) : x2 f a b en st = (a en st).bind fun x st => (b en st).bind fun y st => f x y st := (rfl)
@[simp] theorem ev_xt (c : XE) : xt c en st = (c en st).bind fun d st => match d with | .bl b => .ok b st | _ => .bad := (rfl)
@[simp] theorem ev_xb (c : XT) : xb c en st = (c en st).bind fun b st => .ok (.bl b) st := (rfl)
@[simp] theorem ev_and (a b : XT) : xand a b en st = (a en st).bind fun k st => if k then b en st else .ok false st := (rfl)
@[simp] theorem ev_or (a b : XT) : xor_ a b en st = (a en st).bind fun k st => if k then .ok true st else b en st := (rfl)
@[simp] theorem ev_not (a : XT) : xnot a en st = (a en st).bind fun k st => .ok (!k) st := (rfl)
@[simp] theorem ev_ife (t : XT) (a b : XE) : xife t a b en st = (t en st).bind fun k st => if k then a en st else b en st := (rfl)
@[simp] theorem ev_anil : xnil en st = .ok [] st := (rfl)
@[simp] theorem ev_acons (a : XE) (b : XA) : xcons a b en st = (a en st).bind fun x st => (b en st).bind fun xs st => .ok (x :: xs) st := (rfl)
@[simp] theorem ev_tup (a : XA) : xtup a en st = (a en st).bind fun xs st => if fitL xs.length then .ok (.tup xs) st else .bad := (rfl)
@[simp] theorem ev_lst (a : XA) : xlst a en st = (a en st).bind fun xs st => if fitL xs.length then .ok (.cell st.length) (st ++ [.lst xs]) else .bad := (rfl)
@[simp] theorem ev_bi (f : XF) (c : XA) : xbi f c en st = (c en st).bind fun ds st => f ds st := (rfl)
@[simp] theorem ev_app (a b : XE) : xapp a b en st = (a en st).bind fun x st => if (seqOf st x).isSome then (b en st).bind fun y st => oApp x y st else .bad := (rfl)
@[simp] theorem ev_asg (c : XE) (t : XG) : sasg c t en st = (c en st).bind fun d st => (t d en st).bind fun en st => .ok (.nx, en) st := (rfl)
@[simp] theorem ev_par (i j : Nat) (a b : XE) : spar i j a b en st = (a en st).bind fun x st => (b en st).bind fun y st => .ok (.nx, (en.set i (some x)).set j (some y)) st := (rfl)
@[simp] theorem ev_for (c : XI) (t : XG) (b : XS) : sfor c t b en st = (c en st).bind fun it st => floop it.src t b it.its en st := (rfl)
@[simp] theorem ev_vand (a b : XE) : vand a b en st = (a en st).bind fun x st => andD x (b en) st := (rfl)
@[simp] theorem ev_vor (a b : XE) : vor a b en st = (a en st).bind fun x st => orD x (b en) st := (rfl)
@[simp] theorem ev_vnot (a : XE) : vnot a en st = (a en st).bind fun x st => match x with | .bl k => .ok (.bl !k) st | _ => .bad := (rfl)
@[simp] theorem ev_gset (i : Nat) (d : D) : gset i d en st = .ok (en.set i (some d)) st := (rfl)
@[simp] theorem ev_gnil : gnil [] en st = .ok en st := (rfl)
@[simp] theorem ev_gcons (a : XG) (b : XGs) (d : D) (ds : List D) : gcons a b (d :: ds) en st = (a d en st).bind fun en st => b ds en st := (rfl)
@[simp] theorem ev_gsub (f : Op3) (a b : XE) (d : D) : gsub f a b d en st = (a en st).bind fun x st => (b en st).bind fun y st => (f x y d st).bind fun _ st => .ok en st := (rfl)
@[simp] theorem ev_gtup (n : Nat) (b : XGs) (d : D) : gtup n b d en st = match itemsOf st d with | some ds => if ds.length = n then b ds en st else .bad | none => .bad := (rfl)
end
@[simp] theorem ev_var0 (d : D) (en : En) (st : Sto) : xvar 0 (some d :: en) st = .ok d st := (rfl)
@[simp] theorem ev_varS (i : Nat) (o : Option D) (en : En) (st : Sto) : xvar (i + 1) (o :: en) st = xvar i en st := (rfl)
@[simp] theorem ev_seq (a b : XS) (en : En) (st : Sto) : sseq a b en st = match a en st with | .ok (.nx, en1) st1 => b en1 st1 | r => r := (rfl)
@[simp] theorem ev_tupI (st : Sto) (ds : List D) : itemsOf st (.tup ds) = some ds := (rfl)
@[simp] theorem ev_roI (st : Sto) (ds : List D) : itemsOf st (.lst .ro ds) = some ds := (rfl)
@[simp] theorem ev_frzI (st : Sto) (ds : List D) : itemsOf st (.lst .frz ds) = some ds := (rfl)
@[simp] theorem ev_loanI (st : Sto) (ds : List D) : itemsOf st (.lst .loan ds) = some ds := (rfl)
@[simp] theorem ev_cellI (st : Sto) (i : Nat) : itemsOf st (.cell i) = match st[i]? with | some (.lst ds) => some ds | _ => none := (rfl)
@[simp] theorem ev_roQ (st : Sto) (ds : List D) : seqOf st (.lst .ro ds) = some ds := (rfl)
@[simp] theorem ev_frzQ (st : Sto) (ds : List D) : seqOf st (.lst .frz ds) = some ds := (rfl)
@[simp] theorem ev_loanQ (st : Sto) (ds : List D) : seqOf st (.lst .loan ds) = some ds := (rfl)
@[simp] theorem ev_cellQ (st : Sto) (i : Nat) : seqOf st (.cell i) = match st[i]? with | some (.lst ds) => some ds | _ => none := (rfl)
@[simp] theorem ev_frzL (st : Sto) (ds : List D) : lstOf st (.lst .frz ds) = some ds := (rfl)
@[simp] theorem ev_loanL (st : Sto) (ds : List D) : lstOf st (.lst .loan ds) = some ds := (rfl)
@[simp] theorem ev_cellL (st : Sto) (i : Nat) : lstOf st (.cell i) = match st[i]? with | some (.lst ds) => some ds | _ => none := (rfl)
@[simp] theorem ev_addI (st : Sto) (i j : Int) : oAdd (.int i) (.int j) st = .ok (.int (i + j)) st := (rfl)
@[simp] theorem ev_iaddI (st : Sto) (i j : Int) : iAdd (.int i) (.int j) st = .ok (.int (i + j)) st := (rfl)
@[simp] theorem ev_subI (st : Sto) (i j : Int) : iSub (.int i) (.int j) st = .ok (.int (i - j)) st := (rfl)
@[simp] theorem ev_mulI (st : Sto) (i j : Int) : oMul (.int i) (.int j) st = if okMul i j then .ok (.int (i * j)) st else .bad := (rfl)
@[simp] theorem ev_divI (st : Sto) (i j : Int) : iDiv (.int i) (.int j) st = if okDiv i j then .ok (.int (i / j)) st else .bad := (rfl)
@[simp] theorem ev_modI (st : Sto) (i j : Int) : iMod (.int i) (.int j) st = if okMod i j then .ok (.int (i % j)) st else .bad := (rfl)
@[simp] theorem ev_shlI (st : Sto) (i j : Int) : iShl (.int i) (.int j) st = if okShl i j then .ok (.int (i * 2 ^ j.toNat)) st else .bad := (rfl)
@[simp] theorem ev_shrI (st : Sto) (i j : Int) : iShr (.int i) (.int j) st = if okShr i j then .ok (.int (i / 2 ^ j.toNat)) st else .bad := (rfl)
@[simp] theorem ev_ltI (st : Sto) (i j : Int) : iLt (.int i) (.int j) st = .ok (.bl (decide (i < j))) st := (rfl)
@[simp] theorem ev_leI (st : Sto) (i j : Int) : iLe (.int i) (.int j) st = .ok (.bl (decide (i ≤ j))) st := (rfl)
@[simp] theorem ev_gtI (st : Sto) (i j : Int) : iGt (.int i) (.int j) st = .ok (.bl (decide (j < i))) st := (rfl)
@[simp] theorem ev_geI (st : Sto) (i j : Int) : iGe (.int i) (.int j) st = .ok (.bl (decide (j ≤ i))) st := (rfl)
@[simp] theorem ev_negI (st : Sto) (i : Int) : oNeg (.int i) st = .ok (.int (-i)) st := (rfl)
@[simp] theorem ev_eqI (st : Sto) (i j : Int) : oEq (.int i) (.int j) st = .ok (.bl (decide (i = j))) st := (rfl)
@[simp] theorem ev_neI (st : Sto) (i j : Int) : oNe (.int i) (.int j) st = .ok (.bl !(decide (i = j))) st := (rfl)
@[simp] theorem ev_eqS (st : Sto) (i j : Str) : oEq (.str i) (.str j) st = .ok (.bl (decide (i = j))) st := (rfl)
@[simp] theorem ev_neS (st : Sto) (i j : Str) : oNe (.str i) (.str j) st = .ok (.bl !(decide (i = j))) st := (rfl)
@[simp] theorem ev_eqB (st : Sto) (i j : Bool) : oEq (.bl i) (.bl j) st = .ok (.bl (decide (i = j))) st := (rfl)
@[simp] theorem ev_neB (st : Sto) (i j : Bool) : oNe (.bl i) (.bl j) st = .ok (.bl !(decide (i = j))) st := (rfl)
@[simp] theorem ev_abs (st : Sto) (i : Int) : bAbs [.int i] st = .ok (.int i.natAbs) st := by
  unfold bAbs; simp only; congr 2; split <;> omega
@[simp] theorem ev_intI (st : Sto) (i : Int) : bInt [.int i] st = .ok (.int i) st := (rfl)
@[simp] theorem ev_floop0 (src : List (Nat × List D)) (t : XG) (b : XS) (en : En) (st : Sto) : floop src t b [] en st = if okSrc src st then .ok (.nx, en) st else .bad := (rfl)
theorem ev_floopS (src : List (Nat × List D)) (t : XG) (b : XS) (d : D) (ds : List D) (en : En) (st : Sto) : floop src t b (d :: ds) en st = if okSrc src st then (t d en st).bind fun en st => match b en st with
      | .ok (.nx, en) st => floop src t b ds en st
      | .ok (.ct, en) st => floop src t b ds en st
      | .ok (.bk, en) st => .ok (.nx, en) st
      | r => r
    else .bad := (rfl)
@[simp] theorem ev_okN (st : Sto) : okSrc [] st = true := (rfl)
@[simp] theorem ev_fit (n : Nat) (h : n ≤ 16777216 := by omega) : fitL n = true := by unfold fitL; exact decide_eq_true h
@[simp] theorem ev_rng1 (c : XA) (en : En) (st : Sto) : irng1 c en st = (c en st).bind fun ds st => match ds with
  | [.int i] => if ok62 i then .ok ⟨rngL 0 i.toNat, []⟩ st else .bad
  | _ => .bad := (rfl)
@[simp] theorem mutPos_nil (n : Nat) : mutPos n [] = [] := (rfl)
@[simp] theorem mutPos_val (n : Nat) (r : List Md) : mutPos n (.val :: r) = mutPos (n + 1) r := (rfl)
@[simp] theorem mutPos_mov (n : Nat) (r : List Md) : mutPos n (.mov :: r) = mutPos (n + 1) r := (rfl)
@[simp] theorem mutPos_mut (n : Nat) (r : List Md) : mutPos n (.mut :: r) = n :: mutPos (n + 1) r := (rfl)
def give (r : RF) (en : En) (st : Sto) : R D := match r with
  | .ok r [] => .ok (imp r st.length).1 (st ++ (imp r st.length).2)
  | .exc c xs [] => .exc c xs en st
  | _ => .bad
@[simp] theorem give_ok (d : D) (en : En) (st : Sto) (h : d.noc = true) : give (.ok d []) en st = .ok d st := by
  simp [give, imp_id d _ h]
@[simp] theorem give_lst (ds : List D) (en : En) (st : Sto) (h : nocL ds = true) : give (.ok (.lst .own ds) []) en st = .ok (.cell st.length) (st ++ [.lst ds]) := by
  simp [give, imp, h]
@[simp] theorem give_exc (c : Nat) (ds : List D) (en : En) (st : Sto) : give (.exc c ds []) en st = .exc c ds en st := (rfl)
@[simp] theorem ev_call (np : Nat) (mu : List Nat) (sem : List D → RF) (ms : List Md) (c : XA) (en : En) (st : Sto) : xcall np mu sem ms c en st = (c en st).bind fun ds st => if ds.length = np then callD mu sem ms ds en st else .bad := (rfl)
@[simp] theorem callD_pl (sem : List D → RF) (ms : List Md) (ds : List D) (en : En) (st : Sto) (hn : nocL ds = true) (hm : mutPos 0 ms = []) (hl : ms.length = ds.length) : callD [] sem ms ds en st = give (sem ds) en st := by
  unfold callD
  rw [prepT_id ms ds hl hn]
  simp only [hm, goneAt, prepS_id ms ds hl hn, rootsOf, List.Nodup, List.Pairwise.nil, and_self, if_true]
  unfold callF give
  cases sem ds with
  | bad => rfl
  | ok r ts => cases ts <;> rfl
  | exc c xs ts => cases ts <;> rfl
@[simp] theorem ev_oapp (i : Nat) (d : D) (st : Sto) : oApp (.cell i) d st = match st[i]? with
  | some (.lst ds) => if fitL (ds.length + 1) then .ok .non (st.set i (.lst (ds ++ [d]))) else .bad
  | _ => .bad := (rfl)
@[simp] theorem ev_setL (i : Nat) (k : Int) (z : D) (st : Sto) : oSetL (.cell i) (.int k) z st = match st[i]? with
  | some (.lst ds) => match ixN ds.length k with
    | some j => .ok () (st.set i (.lst (ds.set j z)))
    | none => .bad
  | _ => .bad := (rfl)
@[simp] theorem okDiv_small (i j : Int) (h : 0 < j) (h2 : j < 18446744073709551616) : okDiv i j = true := by
  have : j.natAbs < 2 ^ 64 := by omega
  have := PySem.Flt.log2_lt_of (by decide) this
  unfold okDiv; simp only [Bool.and_eq_true, decide_eq_true_eq]; omega
@[simp] theorem okMod_pos (i j : Int) (h : 0 < j) : okMod i j = true := by unfold okMod; simp [h]
@[simp] theorem okMul_r (i j : Int) (h : -18446744073709551616 < j) (h2 : j < 18446744073709551616) : okMul i j = true := by
  have : small64 j = true := absLe_iff.mpr (by omega)
  unfold okMul
  simp only [this, Bool.true_or, Bool.or_true]
@[simp] theorem okMul_l (i j : Int) (h : -18446744073709551616 < i) (h2 : i < 18446744073709551616) : okMul i j = true := by
  have : small64 i = true := absLe_iff.mpr (by omega)
  unfold okMul
  simp only [this, Bool.true_or, Bool.or_true]
@[simp] theorem ok62_small (i : Int) (h : -4611686018427387904 < i) (h2 : i < 4611686018427387904) : ok62 i = true := by
  rw [ok62_iff]; omega
theorem ixN_nat (n k : Nat) : ixN n (k : Int) = if k < n then some k else none := by
  unfold ixN
  by_cases h : k < n
  · rw [if_pos (by omega), if_pos h, if_pos (by omega)]; rfl
  · rw [if_pos (by omega), if_neg h, if_neg (by omega)]
@[simp] theorem ixN_lit (n k : Nat) : ixN n (no_index (OfNat.ofNat k : Int)) = if k < n then some k else none := ixN_nat n k
theorem atI_nat {α : Type} (ds : List α) (k : Nat) : atI ds (k : Int) = ds[k]? := by
  unfold atI
  rw [ixN_nat]
  by_cases h : k < ds.length
  · rw [if_pos h]; rfl
  · rw [if_neg h, List.getElem?_eq_none_iff.mpr (by omega)]; rfl
@[simp] theorem atI_lit {α : Type} (ds : List α) (k : Nat) : atI ds (no_index (OfNat.ofNat k : Int)) = ds[k]? := atI_nat ds _
@[simp] theorem ev_ixT (ds : List D) (i : Int) (st : Sto) : oIx (.tup ds) (.int i) st = match atI ds i with | some d => .ok d st | none => .bad := (rfl)
@[simp] theorem ev_ixL (m : Mk) (ds : List D) (i : Int) (st : Sto) : oIx (.lst m ds) (.int i) st = match itemsOf st (.lst m ds) with | some ds => (match atI ds i with | some d => .ok d st | none => .bad) | none => .bad := (rfl)
@[simp] theorem ev_ixC (j : Nat) (i : Int) (st : Sto) : oIx (.cell j) (.int i) st = match itemsOf st (.cell j) with | some ds => (match atI ds i with | some d => .ok d st | none => .bad) | none => .bad := (rfl)
@[simp] theorem ev_fin (ps : List D) (d : D) (st : Sto) (h : d.pl = true) : fin [] ps d st = .ok d [] := fin_pl h
@[simp] theorem ev_xfun (np nl : Nat) (body : XS) (ds : List D) (hn : nocL ds = true) (hl : ds.length = np) : xfun np nl [] body ds = match body (ds.map some ++ List.replicate nl none) [] with
    | .ok (.rt d, _) st => fin [] ds d st
    | .ok (.nx, _) st => fin [] ds .non st
    | .ok _ _ => .bad
    | .exc c xs _ st => finX [] ds c xs st
    | .bad => .bad := xfun_pl hn hl
@[simp] theorem isa_NoneType_int : isaN "NoneType" "int" = some false := by decide +kernel
@[simp] theorem isa_NoneType_bool : isaN "NoneType" "bool" = some false := by decide +kernel
@[simp] theorem isa_NoneType_tuple : isaN "NoneType" "tuple" = some false := by decide +kernel
@[simp] theorem isa_NoneType_list : isaN "NoneType" "list" = some false := by decide +kernel
@[simp] theorem isa_NoneType_str : isaN "NoneType" "str" = some false := by decide +kernel
@[simp] theorem isa_NoneType_dict : isaN "NoneType" "dict" = some false := by decide +kernel
@[simp] theorem isa_bool_int : isaN "bool" "int" = some true := by decide +kernel
@[simp] theorem isa_bool_bool : isaN "bool" "bool" = some true := by decide +kernel
@[simp] theorem isa_bool_tuple : isaN "bool" "tuple" = some false := by decide +kernel
@[simp] theorem isa_bool_list : isaN "bool" "list" = some false := by decide +kernel
@[simp] theorem isa_bool_str : isaN "bool" "str" = some false := by decide +kernel
@[simp] theorem isa_bool_dict : isaN "bool" "dict" = some false := by decide +kernel
@[simp] theorem isa_int_int : isaN "int" "int" = some true := by decide +kernel
@[simp] theorem isa_int_bool : isaN "int" "bool" = some false := by decide +kernel
@[simp] theorem isa_int_tuple : isaN "int" "tuple" = some false := by decide +kernel
@[simp] theorem isa_int_list : isaN "int" "list" = some false := by decide +kernel
@[simp] theorem isa_int_str : isaN "int" "str" = some false := by decide +kernel
@[simp] theorem isa_int_dict : isaN "int" "dict" = some false := by decide +kernel
@[simp] theorem isa_str_int : isaN "str" "int" = some false := by decide +kernel
@[simp] theorem isa_str_bool : isaN "str" "bool" = some false := by decide +kernel
@[simp] theorem isa_str_tuple : isaN "str" "tuple" = some false := by decide +kernel
@[simp] theorem isa_str_list : isaN "str" "list" = some false := by decide +kernel
@[simp] theorem isa_str_str : isaN "str" "str" = some true := by decide +kernel
@[simp] theorem isa_str_dict : isaN "str" "dict" = some false := by decide +kernel
@[simp] theorem isa_tuple_int : isaN "tuple" "int" = some false := by decide +kernel
@[simp] theorem isa_tuple_bool : isaN "tuple" "bool" = some false := by decide +kernel
@[simp] theorem isa_tuple_tuple : isaN "tuple" "tuple" = some true := by decide +kernel
@[simp] theorem isa_tuple_list : isaN "tuple" "list" = some false := by decide +kernel
@[simp] theorem isa_tuple_str : isaN "tuple" "str" = some false := by decide +kernel
@[simp] theorem isa_tuple_dict : isaN "tuple" "dict" = some false := by decide +kernel
@[simp] theorem isa_list_int : isaN "list" "int" = some false := by decide +kernel
@[simp] theorem isa_list_bool : isaN "list" "bool" = some false := by decide +kernel
@[simp] theorem isa_list_tuple : isaN "list" "tuple" = some false := by decide +kernel
@[simp] theorem isa_list_list : isaN "list" "list" = some true := by decide +kernel
@[simp] theorem isa_list_str : isaN "list" "str" = some false := by decide +kernel
@[simp] theorem isa_list_dict : isaN "list" "dict" = some false := by decide +kernel
@[simp] theorem isa_dict_int : isaN "dict" "int" = some false := by decide +kernel
@[simp] theorem isa_dict_bool : isaN "dict" "bool" = some false := by decide +kernel
@[simp] theorem isa_dict_tuple : isaN "dict" "tuple" = some false := by decide +kernel
@[simp] theorem isa_dict_list : isaN "dict" "list" = some false := by decide +kernel
@[simp] theorem isa_dict_str : isaN "dict" "str" = some false := by decide +kernel
@[simp] theorem isa_dict_dict : isaN "dict" "dict" = some true := by decide +kernel
@[simp] theorem ev_isa (T : String) (x : D) (st : Sto) : bIsa T x st = match (tyN st x).bind fun t => isaN t T with | some b => .ok (.bl b) st | none => .bad := (rfl)
@[simp] theorem tyN_non (st : Sto) : tyN st .non = some "NoneType" := (rfl)
@[simp] theorem tyN_bl (st : Sto) (b : Bool) : tyN st (.bl b) = some "bool" := (rfl)
@[simp] theorem tyN_int (st : Sto) (b : Int) : tyN st (.int b) = some "int" := (rfl)
@[simp] theorem tyN_str (st : Sto) (b : Str) : tyN st (.str b) = some "str" := (rfl)
@[simp] theorem tyN_tup (st : Sto) (b : List D) : tyN st (.tup b) = some "tuple" := (rfl)
@[simp] theorem tyN_frz (st : Sto) (b : List D) : tyN st (.lst .frz b) = some "list" := (rfl)
@[simp] theorem tyN_loan (st : Sto) (b : List D) : tyN st (.lst .loan b) = some "list" := (rfl)
@[simp] theorem tyN_cell (st : Sto) (i : Nat) : tyN st (.cell i) = match st[i]? with
    | some (.lst _) => some "list"
    | some (.dk _ _) => some "dict"
    | some (.dt _ _) => some "dict"
    | _ => none := (rfl)
@[simp] theorem ev_lenS (z : Str) (st : Sto) : bLen [.str z] st = if fitL z.length then .ok (.int z.length) st else .bad := (rfl)
@[simp] theorem ev_lenT (ds : List D) (st : Sto) : bLen [.tup ds] st = .ok (.int ds.length) st := (rfl)
@[simp] theorem ev_lenL (m : Mk) (ds : List D) (st : Sto) : bLen [.lst m ds] st = match itemsOf st (.lst m ds) with | some es => .ok (.int es.length) st | none => .bad := (rfl)
@[simp] theorem ev_lenC (i : Nat) (st : Sto) : bLen [.cell i] st = match itemsOf st (.cell i) with | some es => .ok (.int es.length) st | none => .bad := (rfl)
@[simp] theorem ev_anyT (c : XE) (en : En) (st : Sto) : iany c en st = (c en st).bind fun d st => match d with
  | .tup ds => .ok ⟨ds, []⟩ st
  | .str z => .ok ⟨signs z, []⟩ st
  | d => match lsrc st d with
    | some it => .ok it st
    | none => .bad := (rfl)
@[simp] theorem lsrc_ro (ds : List D) (st : Sto) : lsrc st (.lst .ro ds) = some ⟨ds, []⟩ := (rfl)
@[simp] theorem lsrc_frz (ds : List D) (st : Sto) : lsrc st (.lst .frz ds) = some ⟨ds, []⟩ := (rfl)
@[simp] theorem lsrc_loan (ds : List D) (st : Sto) : lsrc st (.lst .loan ds) = some ⟨ds, []⟩ := (rfl)
@[simp] theorem lsrc_cell (i : Nat) (st : Sto) : lsrc st (.cell i) = match st[i]? with | some (.lst ds) => some ⟨ds, [(i, ds)]⟩ | _ => none := (rfl)
@[simp] theorem okSrc_cons (p : Nat × List D) (r : List (Nat × List D)) (st : Sto) : okSrc (p :: r) st = (Cell.isLst st[p.1]? p.2 && okSrc r st) := (rfl)
@[simp] theorem isLst_self (ds : List D) : Cell.isLst (some (.lst ds)) ds = true := beqL_self ds
end Px
namespace Px
open PySem PySem.Spec L2
section
variable {G : GS} {W : WX} {X : Cx}
def KRel (G : GS) : List DictEntry → List (Str × D) → Prop
  | [], [] => True
  | e :: es, p :: r => (∃ t, e.key = .str p.1 t) ∧ (∃ v, RelV v e.val ∧ ∀ g, Rep G g p.2 v) ∧ KRel G es r
  | _, _ => False
theorem KRel.some {es : List DictEntry} {kvs : List (Str × D)} (h : KRel G es kvs) {z : Str} {d : D} (e : kvs.lookup z = some d) : ∃ x v, es.find? (·.key.isStr z) = some x ∧ RelV v x.val ∧ ∀ g, Rep G g d v := by
  induction es generalizing kvs with
  | nil => cases kvs with
    | nil => simp at e
    | cons p r => exact h.elim
  | cons x es ih =>
    cases kvs with
    | nil => exact h.elim
    | cons p r =>
      obtain ⟨⟨t, h1⟩, ⟨v, h2, h3⟩, h4⟩ := h
      rw [List.lookup_cons] at e
      have hk : x.key.isStr z = (p.1 == z) := by rw [h1]; rfl
      by_cases c : z = p.1
      · subst c
        simp at e
        subst e
        exact ⟨x, v, by rw [List.find?_cons, hk]; simp, h2, h3⟩
      · have c1 : (z == p.1) = false := by simpa using c
        have c2 : (p.1 == z) = false := by simpa using fun q => c q.symm
        rw [c1] at e
        obtain ⟨y, u, e1, e2⟩ := ih h4 e
        exact ⟨y, u, by rw [List.find?_cons, hk, c2]; exact e1, e2⟩
theorem KRel.none {es : List DictEntry} {kvs : List (Str × D)} (h : KRel G es kvs) {z : Str} (e : kvs.lookup z = none) : es.find? (·.key.isStr z) = none ∧ es.any (·.refKey) = false := by
  induction es generalizing kvs with
  | nil => exact ⟨rfl, rfl⟩
  | cons x es ih =>
    cases kvs with
    | nil => exact h.elim
    | cons p r =>
      obtain ⟨⟨t, h1⟩, ⟨v, h2, h3⟩, h4⟩ := h
      rw [List.lookup_cons] at e
      have hk : x.key.isStr z = (p.1 == z) := by rw [h1]; rfl
      by_cases c : z = p.1
      · subst c
        simp at e
      · have c1 : (z == p.1) = false := by simpa using c
        have c2 : (p.1 == z) = false := by simpa using fun q => c q.symm
        rw [c1] at e
        obtain ⟨e1, e2⟩ := ih h4 e
        exact ⟨by rw [List.find?_cons, hk, c2]; exact e1, by rw [List.any_cons, e2]; simp [DictEntry.refKey, h1]⟩
def xkget (kvs : List (Str × D)) (c : XE) : XE := fun en st => (c en st).bind fun y st => match y with
  | .str z => match kvs.lookup z with
    | some d => .ok d st
    | none => .bad
  | _ => .bad
def xkin (b : Bool) (kvs : List (Str × D)) (c : XE) : XT := fun en st => (c en st).bind fun y st => match y with
  | .str z => .ok (b == (kvs.lookup z).isSome) st
  | _ => .bad
end
end Px
namespace Px
open PySem PySem.Spec L2
section
variable {G : GS} {W : WX} {X : Cx}
abbrev XO := En → Sto → R (Option Int)
def xonone : XO := fun _ st => .ok none st
def xosome (c : XE) : XO := fun en st => (c en st).bind fun d st => match d with
  | .int i => .ok (some i) st
  | _ => .bad
def cutG {α : Type} (xs : List α) (lo hi : Option Int) : List α := (xs.drop (HT.sIx xs.length 0 lo)).take (HT.sIx xs.length xs.length hi - HT.sIx xs.length 0 lo)
def oSl (d : D) (lo hi : Option Int) (st : Sto) : R D := match d with
  | .str z => if fitL z.length then .ok (.str (cutS z lo hi)) st else .bad
  | .tup ds => .ok (.tup (cutG ds lo hi)) st
  | d => match seqOf st d with
    | some ds => .ok (.cell st.length) (st ++ [.lst (cutG ds lo hi)])
    | none => .bad
def xsl (a : XE) (lo hi : XO) : XE := fun en st => (a en st).bind fun x st => (lo en st).bind fun l st => (hi en st).bind fun h st => oSl x l h st
abbrev XM := D → List D → Sto → R D
def tyM (st : Sto) (d : D) : Option String := match d with
  | .str _ => some "str"
  | .int _ => some "int"
  | d => if (seqOf st d).isSome then some "list" else none
def xmeth (T : String) (f : XM) (a : XE) (c : XA) : XE := fun en st => (a en st).bind fun x st => if tyM st x = some T then (c en st).bind fun ds st => f x ds st else .bad
def xmeth0 (T : String) (f : XM) (a : XE) : XE := fun en st => (a en st).bind fun x st => if tyM st x = some T then f x [] st else .bad
def strsOf : List D → Option (List Str)
  | [] => some []
  | .str z :: r => (strsOf r).map (z :: ·)
  | _ => none
def intsOf : List D → Option (List Int)
  | [] => some []
  | .int z :: r => (intsOf r).map (z :: ·)
  | _ => none
def mJoin : XM := fun x ds st => match x, ds with
  | .str a, [d] => match (itemsOf st d).bind strsOf with
    | some ys => if decide ((ys.map (·.length)).sum + ys.length * a.length ≤ 16777216) then .ok (.str (Txt.join a ys)) st else .bad
    | none => .bad
  | _, _ => .bad
def mExtend : XM := fun x ds st => match x, ds with
  | .cell i, [d] => match st[i]?, lstOf st d with
    | some (.lst es), some fs => if fitL (es.length + fs.length) then .ok .non (st.set i (.lst (es ++ fs))) else .bad
    | _, _ => .bad
  | _, _ => .bad
def mPopAt : XM := fun x ds st => match x, ds with
  | .cell i, [.int k] => match st[i]? with
    | some (.lst es) => match ixN es.length k with
      | some j => match es[j]? with
        | some d => if fitL es.length then .ok d (st.set i (.lst (es.eraseIdx j))) else .bad
        | none => .bad
      | none => .bad
    | _ => .bad
  | _, _ => .bad
def mInsert : XM := fun x ds st => match x, ds with
  | .cell i, [.int k, y] => match st[i]? with
    | some (.lst es) => if decide (es.length < 16777216) && decide (0 ≤ k) && absLe k 4611686018427387903 then .ok .non (st.set i (.lst (es.take k.toNat ++ [y] ++ es.drop k.toNat))) else .bad
    | _ => .bad
  | _, _ => .bad
def xbits (a : XE) : XE := fun en st => (a en st).bind fun x st => match x with
  | .int i => .ok (.int (Builtin.Int.intBits i : Nat)) st
  | _ => .bad
end
end Px
namespace Px
open PySem PySem.Spec L2
section
variable {G : GS} {W : WX} {X : Cx}
def srt (ns : List Int) : List Int := ns.mergeSort fun a b => decide (a ≤ b)
def bSorted : XF := fun ds st => match ds with
  | [d] => match (seqOf st d).bind intsOf with
    | some ns => .ok (.cell st.length) (st ++ [.lst ((srt ns).map D.int)])
    | none => .bad
  | _ => .bad
def maxL : List Int → Int
  | [] => 0
  | [a] => a
  | a :: r => max a (maxL r)
def minL : List Int → Int
  | [] => 0
  | [a] => a
  | a :: r => min a (minL r)
def bMax1 : XF := fun ds st => match ds with
  | [.int i, .int j] => .ok (.int (if j > i then j else i)) st
  | [d] => match (seqOf st d).bind intsOf with
    | some ns => if ns.isEmpty then .bad else .ok (.int (maxL ns)) st
    | none => .bad
  | _ => .bad
def bMin1 : XF := fun ds st => match ds with
  | [.int i, .int j] => .ok (.int (if j < i then j else i)) st
  | [d] => match (seqOf st d).bind intsOf with
    | some ns => if ns.isEmpty then .bad else .ok (.int (minL ns)) st
    | none => .bad
  | _ => .bad
def irev (c : XA) : XI := fun en st => (c en st).bind fun ds st => match ds with
  | [d] => match lsrc st d with
    | some it => .ok ⟨it.its.reverse, it.src⟩ st
    | none => .bad
  | _ => .bad
def enumL (ds : List D) : List D := ds.mapIdx fun i d => .tup [.int i, d]
def ienum (c : XA) : XI := fun en st => (c en st).bind fun ds st => match ds with
  | [d] => match lsrc st d with
    | some it => .ok ⟨enumL it.its, it.src⟩ st
    | none => .bad
  | _ => .bad
def zipL : List D → List D → List D
  | a :: r, b :: s => .tup [a, b] :: zipL r s
  | _, _ => []
def izip (c : XA) : XI := fun en st => (c en st).bind fun ds st => match ds with
  | [.tup a, .tup b] => .ok ⟨zipL a b, []⟩ st
  | [d, e] => match lsrc st d, lsrc st e with
    | some x, some y => .ok ⟨zipL x.its y.its, x.src ++ y.src⟩ st
    | _, _ => .bad
  | _ => .bad
def rngC (lo c : Int) (n : Nat) : List D := (List.range n).map fun (k : Nat) => .int (lo + (k : Int) * c)
def irng3 (c : XA) : XI := fun en st => (c en st).bind fun ds st => match ds with
  | [.int i, .int j, .int k] => if ok62 i && ok62 j && decide (k = -1) then .ok ⟨rngC i (-1) (i - j).toNat, []⟩ st else .bad
  | _ => .bad
end
end Px
namespace Px
open PySem PySem.Spec L2
section
variable {G : GS} {W : WX} {X : Cx}
def xkget2 (kvs : List (Str × D)) (c f : XE) : XE := fun en st => (c en st).bind fun y st => (f en st).bind fun z st => match y with
  | .str k => .ok ((kvs.lookup k).getD z) st
  | _ => .bad
end
end Px
namespace Px
open PySem PySem.Spec L2
section
variable (en : En) (st : Sto)
@[simp] theorem ev_kget (kvs : List (Str × D)) (c : XE) : xkget kvs c en st = (c en st).bind fun y st => match y with
  | .str z => (match kvs.lookup z with | some d => .ok d st | none => .bad)
  | _ => .bad := (rfl)
@[simp] theorem ev_kin (b : Bool) (kvs : List (Str × D)) (c : XE) : xkin b kvs c en st = (c en st).bind fun y st => match y with
  | .str z => .ok (b == (kvs.lookup z).isSome) st
  | _ => .bad := (rfl)
@[simp] theorem ev_kget2 (kvs : List (Str × D)) (c f : XE) : xkget2 kvs c f en st = (c en st).bind fun y st => (f en st).bind fun z st => match y with
  | .str k => .ok ((kvs.lookup k).getD z) st
  | _ => .bad := (rfl)
@[simp] theorem ev_onone : xonone en st = .ok none st := (rfl)
@[simp] theorem ev_osome (c : XE) : xosome c en st = (c en st).bind fun d st => match d with | .int i => .ok (some i) st | _ => .bad := (rfl)
@[simp] theorem ev_sl (a : XE) (lo hi : XO) : xsl a lo hi en st = (a en st).bind fun x st => (lo en st).bind fun l st => (hi en st).bind fun h st => oSl x l h st := (rfl)
@[simp] theorem ev_meth (T : String) (f : XM) (a : XE) (c : XA) : xmeth T f a c en st = (a en st).bind fun x st => if tyM st x = some T then (c en st).bind fun ds st => f x ds st else .bad := (rfl)
@[simp] theorem ev_meth0 (T : String) (f : XM) (a : XE) : xmeth0 T f a en st = (a en st).bind fun x st => if tyM st x = some T then f x [] st else .bad := (rfl)
@[simp] theorem ev_bits (a : XE) : xbits a en st = (a en st).bind fun x st => match x with | .int i => .ok (.int (Builtin.Int.intBits i : Nat)) st | _ => .bad := (rfl)
@[simp] theorem ev_ch (f f' : Op2) (a b c : XE) : xch f f' a b c en st = (a en st).bind fun x st => (b en st).bind fun y st => (f x y st).bind fun k st => andD k (fun st => (c en st).bind fun z st => f' y z st) st := (rfl)
@[simp] theorem ev_rng2 (c : XA) : irng2 c en st = (c en st).bind fun ds st => match ds with
  | [.int i, .int j] => if ok62 i && ok62 j then .ok ⟨rngL i (j - i).toNat, []⟩ st else .bad
  | _ => .bad := (rfl)
@[simp] theorem ev_rng3 (c : XA) : irng3 c en st = (c en st).bind fun ds st => match ds with
  | [.int i, .int j, .int k] => if ok62 i && ok62 j && decide (k = -1) then .ok ⟨rngC i (-1) (i - j).toNat, []⟩ st else .bad
  | _ => .bad := (rfl)
@[simp] theorem ev_irev (c : XA) : irev c en st = (c en st).bind fun ds st => match ds with
  | [d] => (match lsrc st d with | some it => .ok ⟨it.its.reverse, it.src⟩ st | none => .bad)
  | _ => .bad := (rfl)
@[simp] theorem ev_ienum (c : XA) : ienum c en st = (c en st).bind fun ds st => match ds with
  | [d] => (match lsrc st d with | some it => .ok ⟨enumL it.its, it.src⟩ st | none => .bad)
  | _ => .bad := (rfl)
@[simp] theorem ev_izip (c : XA) : izip c en st = (c en st).bind fun ds st => match ds with
  | [.tup a, .tup b] => .ok ⟨zipL a b, []⟩ st
  | [d, e] => (match lsrc st d, lsrc st e with | some x, some y => .ok ⟨zipL x.its y.its, x.src ++ y.src⟩ st | _, _ => .bad)
  | _ => .bad := (rfl)
@[simp] theorem ev_lc (own : List Nat) (i : XI) (t : XG) (c : XT) (e : XE) : xlc own i t c e en st = (i en st).bind fun it st => R.quiet ((cloop own st.length it.src t c e en it.its (st ++ [.lst []])).bind fun _ st' => .ok (.cell st.length) st') en := (rfl)
@[simp] theorem ev_saug (i : Nat) (f : Op2) (c : XE) : saug i f c en st = match en[i]? with
  | some (some x) => (c en st).bind fun y st => (f x y st).bind fun z st => .ok (.nx, en.set i (some z)) st
  | _ => .bad := (rfl)
@[simp] theorem ev_while (fuel : En → Sto → Nat) (c : XT) (b : XS) : swhile fuel c b en st = wloop c b (fuel en st) en st := (rfl)
end
@[simp] theorem tyM_str (st : Sto) (z : Str) : tyM st (.str z) = some "str" := (rfl)
@[simp] theorem tyM_int (st : Sto) (z : Int) : tyM st (.int z) = some "int" := (rfl)
@[simp] theorem tyM_cell (st : Sto) (i : Nat) : tyM st (.cell i) = if (seqOf st (.cell i)).isSome then some "list" else none := (rfl)
@[simp] theorem tyM_lst (st : Sto) (m : Mk) (ds : List D) : tyM st (.lst m ds) = if (seqOf st (.lst m ds)).isSome then some "list" else none := (rfl)
@[simp] theorem ev_max2 (i j : Int) (st : Sto) : bMax1 [.int i, .int j] st = .ok (.int (if j > i then j else i)) st := (rfl)
@[simp] theorem ev_min2 (i j : Int) (st : Sto) : bMin1 [.int i, .int j] st = .ok (.int (if j < i then j else i)) st := (rfl)
@[simp] theorem ev_quiet_ok {α : Type} (a : α) (st : Sto) (en : En) : R.quiet (.ok a st) en = .ok a st := (rfl)
@[simp] theorem ev_tuple_t (es : List D) (st : Sto) : bTuple [.tup es] st = .ok (.tup es) st := (rfl)
@[simp] theorem ev_tuple_c (i : Nat) (st : Sto) : bTuple [.cell i] st = match seqOf st (.cell i) with | some es => .ok (.tup es) st | none => .bad := (rfl)
@[simp] theorem ev_tuple_l (m : Mk) (ds : List D) (st : Sto) : bTuple [.lst m ds] st = match seqOf st (.lst m ds) with | some es => .ok (.tup es) st | none => .bad := (rfl)
@[simp] theorem ev_list_t (es : List D) (st : Sto) : bList [.tup es] st = .ok (.cell st.length) (st ++ [.lst es]) := (rfl)
@[simp] theorem ev_list_c (i : Nat) (st : Sto) : bList [.cell i] st = match itemsOf st (.cell i) with | some es => .ok (.cell st.length) (st ++ [.lst es]) | none => .bad := (rfl)
@[simp] theorem ev_list_l (m : Mk) (ds : List D) (st : Sto) : bList [.lst m ds] st = match itemsOf st (.lst m ds) with | some es => .ok (.cell st.length) (st ++ [.lst es]) | none => .bad := (rfl)
def stp (t : XG) (b : XS) (d : D) : XS := fun en st => (t d en st).bind fun en st => b en st
theorem floop_cons (src : List (Nat × List D)) (t : XG) (b : XS) (d : D) (ds : List D) (en : En) (st : Sto) : floop src t b (d :: ds) en st = if okSrc src st then (match stp t b d en st with
      | .ok (.nx, en) st => floop src t b ds en st
      | .ok (.ct, en) st => floop src t b ds en st
      | .ok (.bk, en) st => .ok (.nx, en) st
      | r => r) else .bad := by
  rw [ev_floopS]
  unfold stp
  cases t d en st <;> rfl
@[simp] theorem rngL_length (lo : Int) (n : Nat) : (rngL lo n).length = n := by simp [rngL]
@[simp] theorem rngL_at (lo : Int) (n i : Nat) (h : i < (rngL lo n).length) : (rngL lo n)[i] = .int (lo + (i : Int)) := by simp [rngL]
end Px
namespace Px
open PySem PySem.Spec L2
@[simp] theorem ev_in (x y : D) (st : Sto) : oIn x y st = oB (inD st x y) st := (rfl)
@[simp] theorem ev_nin (x y : D) (st : Sto) : oNotIn x y st = oB ((inD st x y).map (!·)) st := (rfl)
@[simp] theorem oB_some (b : Bool) (st : Sto) : oB (some b) st = .ok (.bl b) st := (rfl)
@[simp] theorem inD_int (i : Int) (y : D) (st : Sto) : inD st (.int i) y = (itemsOf st y).bind fun ds => (flL ds).map (inV (.int i)) := by
  unfold inD
  simp only [flD]
  cases itemsOf st y <;> rfl
@[simp] theorem inD_str (i : Str) (y : D) (st : Sto) : inD st (.str i) y = (itemsOf st y).bind fun ds => (flL ds).map (inV (.str i)) := by
  unfold inD
  simp only [flD]
  cases itemsOf st y <;> rfl
@[simp] theorem flL_nil : flL [] = some [] := (rfl)
@[simp] theorem flL_int (i : Int) (r : List D) : flL (.int i :: r) = (flL r).map (V.int i :: ·) := by
  simp only [flL, flD]
  cases flL r <;> rfl
@[simp] theorem flL_str (i : Str) (r : List D) : flL (.str i :: r) = (flL r).map (V.str i :: ·) := by
  simp only [flL, flD]
  cases flL r <;> rfl
@[simp] theorem flL_ints (ns : List Int) : flL (ns.map D.int) = some (ns.map V.int) := by
  induction ns with
  | nil => rfl
  | cons n ns ih => rw [List.map_cons, flL_int, ih]; rfl
@[simp] theorem flL_strs (ns : List Str) : flL (ns.map D.str) = some (ns.map V.str) := by
  induction ns with
  | nil => rfl
  | cons n ns ih => rw [List.map_cons, flL_str, ih]; rfl
@[simp] theorem flL_tk (ns : List Int) (k : Nat) : flL ((ns.map D.int).take k) = some ((ns.take k).map V.int) := by rw [← List.map_take, flL_ints]
@[simp] theorem flL_tks (ns : List Str) (k : Nat) : flL ((ns.map D.str).take k) = some ((ns.take k).map V.str) := by rw [← List.map_take, flL_strs]
@[simp] theorem flL_dr (ns : List Int) (k : Nat) : flL ((ns.map D.int).drop k) = some ((ns.drop k).map V.int) := by rw [← List.map_drop, flL_ints]
@[simp] theorem inV_nil (x : V) : inV x [] = false := (rfl)
@[simp] theorem inV_cons (x y : V) (r : List V) : inV x (y :: r) = (eqV y x || inV x r) := (rfl)
@[simp] theorem eqV_ii (a b : Int) : eqV (.int a) (.int b) = (a == b) := (rfl)
@[simp] theorem eqV_ss (a b : Str) : eqV (.str a) (.str b) = (a == b) := (rfl)
@[simp] theorem eqV_is (a : Int) (b : Str) : eqV (.int a) (.str b) = false := (rfl)
@[simp] theorem eqV_si (a : Str) (b : Int) : eqV (.str a) (.int b) = false := (rfl)
@[simp] theorem inV_ints (x : Int) (ns : List Int) : inV (.int x) (ns.map V.int) = decide (x ∈ ns) := by
  induction ns with
  | nil => rfl
  | cons n ns ih =>
    rw [List.map_cons, inV_cons, ih, eqV_ii]
    by_cases h : n = x
    · subst h; simp
    · have : ¬ x = n := fun q => h q.symm
      simp [h, this]
@[simp] theorem inV_tk (x : Int) (ns : List Int) (k : Nat) : inV (.int x) ((ns.map V.int).take k) = decide (x ∈ ns.take k) := by rw [← List.map_take, inV_ints]
@[simp] theorem inV_dr (x : Int) (ns : List Int) (k : Nat) : inV (.int x) ((ns.map V.int).drop k) = decide (x ∈ ns.drop k) := by rw [← List.map_drop, inV_ints]
@[simp] theorem inV_strs (x : Str) (ns : List Str) : inV (.str x) (ns.map V.str) = decide (x ∈ ns) := by
  induction ns with
  | nil => rfl
  | cons n ns ih =>
    rw [List.map_cons, inV_cons, ih, eqV_ss]
    by_cases h : n = x
    · subst h; simp
    · have : ¬ x = n := fun q => h q.symm
      simp [h, this]
theorem sIx_0 (n : Nat) (d : Nat) : HT.sIx n d none = d := (rfl)
@[simp] theorem cutG_hi {α : Type} (xs : List α) (k : Nat) : cutG xs none (some (k : Int)) = xs.take k := by
  have e : HT.sIx xs.length xs.length (some (k : Int)) = min k xs.length := by
    unfold HT.sIx
    by_cases h : (k : Int) < 0
    · omega
    · simp [h]
  unfold cutG
  rw [e, sIx_0, List.drop_zero, Nat.sub_zero]
  rw [List.take_eq_take_iff]
  omega
@[simp] theorem cutG_lo {α : Type} (xs : List α) (k : Nat) : cutG xs (some (k : Int)) none = xs.drop k := by
  have e : HT.sIx xs.length 0 (some (k : Int)) = min k xs.length := by
    unfold HT.sIx
    by_cases h : (k : Int) < 0
    · omega
    · simp [h]
  unfold cutG
  rw [e, sIx_0]
  by_cases h : k ≤ xs.length
  · rw [Nat.min_eq_left h]
    rw [List.take_of_length_le (by simp)]
  · rw [Nat.min_eq_right (by omega), Nat.sub_self, List.take_zero, List.drop_eq_nil_of_le (by omega)]
@[simp] theorem cutG_hi_lit {α : Type} (xs : List α) (k : Nat) : cutG xs none (some (no_index (OfNat.ofNat k : Int))) = xs.take k := cutG_hi xs k
@[simp] theorem cutG_lo_lit {α : Type} (xs : List α) (k : Nat) : cutG xs (some (no_index (OfNat.ofNat k : Int))) none = xs.drop k := cutG_lo xs k
@[simp] theorem ev_slT (ds : List D) (lo hi : Option Int) (st : Sto) : oSl (.tup ds) lo hi st = .ok (.tup (cutG ds lo hi)) st := (rfl)
@[simp] theorem ev_slC (i : Nat) (lo hi : Option Int) (st : Sto) : oSl (.cell i) lo hi st = match seqOf st (.cell i) with | some ds => .ok (.cell st.length) (st ++ [.lst (cutG ds lo hi)]) | none => .bad := (rfl)
@[simp] theorem ev_slL (m : Mk) (ds : List D) (lo hi : Option Int) (st : Sto) : oSl (.lst m ds) lo hi st = match seqOf st (.lst m ds) with | some ds => .ok (.cell st.length) (st ++ [.lst (cutG ds lo hi)]) | none => .bad := (rfl)
@[simp] theorem ev_str (i : Int) (st : Sto) : bStr [.int i] st = if decide (i.natAbs.log2 < 1920) then .ok (.str (toString i)) st else .bad := (rfl)
@[simp] theorem ev_cloop0 (own : List Nat) (k : Nat) (src : List (Nat × List D)) (t : XG) (c : XT) (e : XE) (en : En) (st : Sto) : cloop own k src t c e en [] st = if okSrc src st then .ok () st else .bad := (rfl)
@[simp] theorem wipe_nil (en : En) : wipeE en [] = en := (rfl)
@[simp] theorem wipe_cons (en : En) (v : Nat) (vs : List Nat) : wipeE en (v :: vs) = (wipeE en vs).set v none := (rfl)
@[simp] theorem pat_nm (i : Nat) : Pat.x (.nm i) = gset i := (rfl)
@[simp] theorem pat_tp (ps : Pats) : Pat.x (.tp ps) = gtup ps.len ps.xs := (rfl)
@[simp] theorem pats_nil : Pats.xs .nil = gnil := (rfl)
@[simp] theorem pats_cons (p : Pat) (ps : Pats) : Pats.xs (.cons p ps) = gcons p.x ps.xs := (rfl)
@[simp] theorem pats_len0 : Pats.len .nil = 0 := (rfl)
@[simp] theorem pats_lenS (p : Pat) (ps : Pats) : Pats.len (.cons p ps) = ps.len + 1 := (rfl)
@[simp] theorem ev_yes (en : En) (st : Sto) : xyes en st = .ok true st := (rfl)
@[simp] theorem ev_addS (a b : Str) (st : Sto) : oAdd (.str a) (.str b) st = if fitL (a.length + b.length) then .ok (.str (a ++ b)) st else .bad := (rfl)
@[simp] theorem ev_iaddS (a b : Str) (st : Sto) : iAdd (.str a) (.str b) st = if fitL (a.length + b.length) then .ok (.str (a ++ b)) st else .bad := (rfl)
@[simp] theorem ev_addT (a b : List D) (st : Sto) : oAdd (.tup a) (.tup b) st = if fitL (a.length + b.length) then .ok (.tup (a ++ b)) st else .bad := (rfl)
@[simp] theorem ev_addCC (i j : Nat) (st : Sto) : oAdd (.cell i) (.cell j) st = match lstOf st (.cell i), lstOf st (.cell j) with
    | some a, some b => if fitL (a.length + b.length) then .ok (.cell st.length) (st ++ [.lst (a ++ b)]) else .bad
    | _, _ => .bad := (rfl)
@[simp] theorem ev_addCL (i : Nat) (m : Mk) (b : List D) (st : Sto) : oAdd (.cell i) (.lst m b) st = match lstOf st (.cell i), lstOf st (.lst m b) with
    | some a, some b => if fitL (a.length + b.length) then .ok (.cell st.length) (st ++ [.lst (a ++ b)]) else .bad
    | _, _ => .bad := (rfl)
@[simp] theorem ev_addLC (j : Nat) (m : Mk) (a : List D) (st : Sto) : oAdd (.lst m a) (.cell j) st = match lstOf st (.lst m a), lstOf st (.cell j) with
    | some a, some b => if fitL (a.length + b.length) then .ok (.cell st.length) (st ++ [.lst (a ++ b)]) else .bad
    | _, _ => .bad := (rfl)
@[simp] theorem ev_addLL (m n : Mk) (a b : List D) (st : Sto) : oAdd (.lst m a) (.lst n b) st = match lstOf st (.lst m a), lstOf st (.lst n b) with
    | some a, some b => if fitL (a.length + b.length) then .ok (.cell st.length) (st ++ [.lst (a ++ b)]) else .bad
    | _, _ => .bad := (rfl)
@[simp] theorem ev_mulCI (i : Nat) (k : Int) (st : Sto) : oMul (.cell i) (.int k) st = match lstOf st (.cell i) with
    | some a => if oMul.small62 k && fitL (a.length * k.toNat) then .ok (.cell st.length) (st ++ [.lst (List.replicate k.toNat a).flatten]) else .bad
    | none => .bad := (rfl)
@[simp] theorem strsOf_nil : strsOf [] = some [] := (rfl)
@[simp] theorem strsOf_cons (z : Str) (r : List D) : strsOf (.str z :: r) = (strsOf r).map (z :: ·) := (rfl)
@[simp] theorem strsOf_strs (r : List Str) : strsOf (r.map D.str) = some r := by
  induction r with
  | nil => rfl
  | cons z r ih => rw [List.map_cons, strsOf_cons, ih]; rfl
@[simp] theorem intsOf_nil : intsOf [] = some [] := (rfl)
@[simp] theorem intsOf_cons (z : Int) (r : List D) : intsOf (.int z :: r) = (intsOf r).map (z :: ·) := (rfl)
@[simp] theorem intsOf_ints (r : List Int) : intsOf (r.map D.int) = some r := by
  induction r with
  | nil => rfl
  | cons z r ih => rw [List.map_cons, intsOf_cons, ih]; rfl
@[simp] theorem ev_join (a : Str) (d : D) (st : Sto) : mJoin (.str a) [d] st = match (itemsOf st d).bind strsOf with
    | some ys => if decide ((ys.map (·.length)).sum + ys.length * a.length ≤ 16777216) then .ok (.str (Str.join a ys)) st else .bad
    | none => .bad := by
  unfold mJoin
  simp only [TL.join_eq]
  first | done | rfl
@[simp] theorem ev_andI (i j : Int) (st : Sto) : iAnd (.int i) (.int j) st = .ok (.int (Builtin.bitAnd i j)) st := (rfl)
@[simp] theorem ev_orI (i j : Int) (st : Sto) : iOr (.int i) (.int j) st = .ok (.int (Builtin.bitOr i j)) st := (rfl)
@[simp] theorem ev_xorI (i j : Int) (st : Sto) : iXor (.int i) (.int j) st = .ok (.int (Builtin.bitXor i j)) st := (rfl)
@[simp] theorem okShr_pos (i j : Int) (h : 0 ≤ j) : okShr i j = true := by unfold okShr; simp [h]
@[simp] theorem okShl_small (i j : Int) (h : 0 ≤ j) (h2 : j ≤ 1000000) (h3 : -18446744073709551616 < i) (h4 : i < 18446744073709551616) : okShl i j = true := by
  unfold okShl; simp only [Bool.and_eq_true, absLe_iff, decide_eq_true_eq]; omega
def finS : List Nat → List D → D → Sto → RF := fin
theorem fin_cell {ps : List D} {i : Nat} {st : Sto} {ds : List D} (h : st[i]? = some (.lst ds)) (hp : plL ds = true) : fin [] ps (.cell i) st = .ok (.lst .own ds) [] := by
  have e : take D.pl st 20 (.cell i) = some (.lst .own ds, [i]) := by
    have e1 : take D.pl st 20 (.cell i) = if D.pl (.cell i) then some (.cell i, []) else match st[i]? with
      | some (.lst ds) => (takeL D.pl (take D.pl st 19) ds).map fun p => (.lst .own p.1, p.2 ++ [i])
      | some (.dk ks ds) => (takeL D.pl (take D.pl st 19) ds).map fun p => (.dk .own ks p.1, p.2 ++ [i])
      | some (.dt ks ds) => (takeL D.pl (take D.pl st 19) ds).map fun p => (.dt .own ks p.1, p.2 ++ [i])
      | some (.obj c ds) => (takeL D.pl (take D.pl st 19) ds).map fun p => (.obj .own c p.1, p.2 ++ [i])
      | _ => none := rfl
    rw [e1, if_neg (by rw [pl_cell]; exact Bool.false_ne_true), h]
    show (takeL D.pl (take D.pl st 19) ds).map _ = _
    rw [takeL_id (by rw [all_pl]; exact hp)]
    rfl
  unfold fin
  rw [e]
  rfl
@[simp] theorem ev_finC (ps : List D) (i : Nat) (st : Sto) : fin [] ps (.cell i) st = match st[i]? with
    | some (.lst ds) => if plL ds = true then .ok (.lst .own ds) [] else finS [] ps (.cell i) st
    | _ => finS [] ps (.cell i) st := by
  split
  · rename_i ds h
    split
    · rename_i hp; exact fin_cell h hp
    · rfl
  · rfl
@[simp] theorem ev_sortedC (i : Nat) (st : Sto) : bSorted [.cell i] st = match (seqOf st (.cell i)).bind intsOf with
    | some ns => .ok (.cell st.length) (st ++ [.lst ((srt ns).map D.int)])
    | none => .bad := (rfl)
@[simp] theorem ev_sortedL (m : Mk) (ds : List D) (st : Sto) : bSorted [.lst m ds] st = match (seqOf st (.lst m ds)).bind intsOf with
    | some ns => .ok (.cell st.length) (st ++ [.lst ((srt ns).map D.int)])
    | none => .bad := (rfl)
end Px
namespace Px
open PySem PySem.Spec L2
structure ExF (G : GS) (mg : Str → Option Value) (x : Str) (c : Nat) : Prop where
  mg : mg x = some (.ref (G.exc c))
  exc : PySem.W.excIn G.K (G.exc c) [.type "ValueError", .type "Exception", .type "BaseException", .type "object"] "ValueError.__new__" = true
  keep : PySem.W.keepIn G.K (.ref (G.exc c)) = true
  sub : PySem.W.subIn G.K (.ref (G.exc c)) (.type "BaseException") = some true
  ty : PySem.W.typeIn G.K (.ref (G.exc c)) = some (.type "type")
structure ExN (G : GS) (mg : Str → Option Value) (x : Str) (c : Nat) (tbl : Nat → Option Bool) : Prop where
  mg : mg x = some (.ref (G.exc c))
  exm : ∀ k b, tbl k = some b → PySem.W.exmOne G.K (.ref (G.exc k)) (.ref (G.exc c)) = some b
  kit : ∀ k b, tbl k = some b → PySem.W.kitOne G.K (.ref (G.exc k)) (.ref (G.exc c)) = some b
  is : ∀ k b, tbl k = some b → L2.ExcC G.K (G.exc k)
theorem exn_pair {K : PySem.W.Frag} {T C : Addr} {b : Bool} (h1 : PySem.W.subIn K (.ref C) (.type "BaseException") = some true) (hd : PySem.W.hasDictIn K C = true) (ht : PySem.W.typeIn K (.ref C) = some (.type "type")) (hs : PySem.W.subIn K (.ref T) (.ref C) = some b) (hcc : PySem.W.subIn K (.ref C) (.ref C) = some true) :
    PySem.W.exmOne K (.ref T) (.ref C) = some b ∧ PySem.W.kitOne K (.ref T) (.ref C) = some b := by
  have e := PySem.W.exm_ref h1 hd ht hs
  refine ⟨e, ?_⟩
  unfold PySem.W.exmOne at e
  rw [if_pos (by rw [h1]; rfl)] at e
  unfold PySem.W.kitOne
  split
  · rename_i q
    have q' : T = C := by simpa using q
    subst q'
    rw [hcc] at hs
    exact hs
  · exact e
section
variable {G : GS} {W : WX} {X : Cx}
def sraise (c : Nat) : XS := fun en st => .exc c [] en st
theorem ss_raise {x m : Str} {j : Nat} {p p2 pos pos' : Pos} (c : Nat) (hK : X.K = G.K) (hc : X.calm = true) (tk : Takes X W) (F : ExF G X.mg x c) (hg : Gl X x := by rfl) (hdb : (x == ("__debug__" : Str)) = false := by decide) :
    SS G W X (.Raise (some (.Call (.Name x p) [.Constant (.str m) j p2] [] pos)) none pos') (sraise c) := by
  have q : PySem.W.excIn X.K (G.exc c) [.type "ValueError", .type "Exception", .type "BaseException", .type "object"] "ValueError.__new__" = true := by rw [hK]; exact F.exc
  have k : PySem.W.keepIn X.K (.ref (G.exc c)) = true := by rw [hK]; exact F.keep
  have r : Raises X (.ref (G.exc c)) := raises_own (by rw [hK]; exact F.sub) (by rw [hK]; exact F.ty)
  refine ⟨PS_imp (L2.ps_raise hc tk (L2.pmk_own PySem.F.excBase_ValueError q F.mg k r hg hdb)) fun D σ H ⟨g, en, st, R, h⟩ => ?_⟩
  exact h g σ H none (Le.refl _) R ⟨rfl, rfl⟩
theorem Rel.hide {g : Gh} {en : En} {st : Sto} {σ : L2.St} {H : Hp} (R : Rel G g en st σ H) (i : Nat) (o : Option V) : Rel G g (en.set i none) st (σ.set i o) H := by
  refine ⟨R.sF, R.sL, by simp [R.el], fun j d e => ?_, R.cell, R.len, R.inj, R.nd⟩
  by_cases hj : i = j
  · subst hj
    by_cases hl : i < en.length
    · rw [List.getElem?_set_self hl] at e; cases e
    · rw [List.getElem?_eq_none (by simpa using hl)] at e; cases e
  · rw [List.getElem?_set_ne hj] at e
    rw [List.getElem?_set_ne hj]
    exact R.en j d e
def tEp (i : Nat) (a : Addr) (t : TE) : TE := fun σ H Q => σ[i]? = some (some (.ref a)) ∧ t σ H Q
def tSp (i : Nat) (a : Addr) (t : TS) : TS := fun D σ H => σ[i]? = some (some (.ref a)) ∧ t D σ H
structure SEp (G : GS) (W : WX) (i : Nat) (a : Addr) (X : Cx) (e : Expr) (c : XE) : Prop where
  pe : PE X e (tEp i a (tE G W c))
structure SSp (G : GS) (W : WX) (i : Nat) (a : Addr) (X : Cx) (s : Stmt) (c : XS) : Prop where
  ps : PS X s (tSp i a (tS G W c))
structure SLp (G : GS) (W : WX) (i : Nat) (a : Addr) (X : Cx) (s : List Stmt) (c : XS) : Prop where
  ps : PSs X s (tSp i a (tS G W c))
variable {i : Nat} {a : Addr}
theorem sep {e : Expr} {c : XE} (h : SE G W X e c) : SEp G W i a X e c := ⟨PE_imp h.pe fun _ _ _ w => w.2⟩
theorem ssp_ret {e : Expr} {c : XE} {pos : Pos} (h : SEp G W i a X e c) : SSp G W i a X (.Return (some e) pos) (sret c) :=
  ⟨PS_imp (ps_ret h.pe) fun D σ H ⟨hp, g, en, st, R, h⟩ => ⟨hp, g, en, st, R, (pS.bind h).imp fun d st1 g1 H1 l1 R1 h1 v rv => h1 g1 σ H1 (Le.refl _) R1 v rv⟩⟩
theorem slp_one {s : Stmt} {c : XS} (h : SSp G W i a X s c) : SLp G W i a X [s] c := ⟨pss_one h.ps⟩
theorem sep_one {op : BoolOp} {e : Expr} {c : XE} {pos : Pos} (h : SEp G W i a X e c) : SEp G W i a X (.BoolOp op [e] pos) c := ⟨pe_one h.pe⟩
theorem sep_and {e b : Expr} {rest : List Expr} {ca cb : XE} {pos : Pos} (ha : SEp G W i a X e ca) (hb : SEp G W i a X (.BoolOp .And (b :: rest) pos) cb) : SEp G W i a X (.BoolOp .And (e :: b :: rest) pos) (vand ca cb) :=
  ⟨PE_imp (pe_and ha.pe hb.pe) fun σ H Q ⟨hp, g, en, st, R, h⟩ => by
    refine ⟨hp, g, en, st, R, (pX.bind h).imp fun x st1 g1 H1 l1 R1 h1 v rv => ?_⟩
    cases x <;> try exact h1.elim
    rename_i b
    cases rv
    cases b with
    | true => exact ⟨true, rfl, hp, g1, en, st1, R1, h1⟩
    | false => exact ⟨false, rfl, h1 g1 H1 (Le.refl _) R1 _ rfl⟩⟩
def xisx (tbl : Nat → Option Bool) (k : Nat) : XE := fun _ st => match tbl k with
  | some b => .ok (.bl b) st
  | none => .bad
theorem sep_isx {oe : Obj} {pn : List (Addr × Obj)} {n x : Str} {c k : Nat} {tbl : Nat → Option Bool} {p p2 p3 pos : Pos} (hK : X.K = G.K) (hz : Zc (.ref (G.exc k)) none oe) (hf : ∃ vs, oe.data = .fields vs) (F : ExN G X.mg x c tbl) (hm : X.mg "isinstance" = none)
    (hi : X.N[i]? = some n := by rfl) (hv : Vis X.env.scope n := by first | exact Or.inl rfl | exact Or.inr (Or.inl rfl) | exact Or.inr (Or.inr rfl)) (hd : (n == ("__debug__" : Str)) = false := by decide) (hcd : (n == ("__classdict__" : Str)) = false := by decide)
    (hg : Gl X "isinstance" := by rfl) (hgx : Gl X x := by rfl) (hdx : (x == ("__debug__" : Str)) = false := by decide)
    (he : starEach [.Name n p2, .Name x p3] X.env = (false, eval (.Name n p2) X.env) :: starEach [.Name x p3] X.env := by rfl) (he2 : starEach [.Name x p3] X.env = (false, eval (.Name x p3) X.env) :: starEach [] X.env := by rfl) (hpl : (backTo pos (starEach [.Name x p3] X.env)).any (·.1) = false := by rfl) :
    SEp G W0 i a (X.suite a ((a, oe) :: pn)) (.Call (.Name "isinstance" p) [.Name n p2, .Name x p3] [] pos) (xisx tbl k) := by
  by_cases hb : ∃ b, tbl k = some b
  · obtain ⟨b, hb⟩ := hb
    have C : L2.ExcC X.K (G.exc k) := by rw [hK]; exact F.is k b hb
    have hcall : CallR (X.suite a ((a, oe) :: pn)) (.builtin "isinstance") (L2.rIsE X.K (G.exc k) a) := L2.call_isE C hz hf
    have ha : PA (X.suite a ((a, oe) :: pn)) [.Name n p2, .Name x p3] (tCons (tVar i) (tCons (tC (.ref (G.exc c))) tNil)) :=
      pa_cons (pe_var (X := X.suite a ((a, oe) :: pn)) hi hv hd hcd) (pa_cons (pe_glob (X := X.suite a ((a, oe) :: pn)) (v := .ref (G.exc c)) hgx F.mg rfl hdx) pa_nil he2) he
    refine ⟨PE_imp (pe_callB (X := X.suite a ((a, oe) :: pn)) hcall hg hm (by decide +kernel) ha (by decide) (by decide) he hpl) fun σ H Q ⟨hp, g, en, st, R, h⟩ => ?_⟩
    unfold xisx at h
    rw [hb] at h
    refine ⟨.ref a, hp, .ref (G.exc c), .ref (G.exc c), b, rfl, fun u hu => hu, by rw [hK]; exact F.kit k b hb, ?_⟩
    exact h g H (Le.refl _) R _ rfl
  · refine ⟨⟨fun pins s σ H Q I w => ?_⟩⟩
    obtain ⟨_, g, en, st, R, h⟩ := w
    unfold xisx at h
    cases e : tbl k with
    | none => rw [e] at h; exact h.elim
    | some b => exact (hb ⟨b, e⟩).elim
def stry (tbl : Nat → Option Bool) (i : Nat) (body : XS) (h : Nat → XS) : XS := fun en st => match body en st with
  | .exc c ds en' st' => match tbl c with
    | some true => if ds.isEmpty && decide (i < en'.length) then (match h c (en'.set i none) st' with
      | .ok (.nx, e) s => .ok (.nx, e.set i none) s
      | .ok (.bk, e) s => .ok (.bk, e.set i none) s
      | .ok (.ct, e) s => .ok (.ct, e.set i none) s
      | .ok (.rt d, e) s => .ok (.rt d, e) s
      | _ => .bad) else .bad
    | some false => .exc c ds en' st'
    | none => .bad
  | r => r
theorem ss_try {x n : Str} {c : Nat} {tbl : Nat → Option Bool} {body suite : List Stmt} {b₀ : Stmt} {np pos pos' : Pos} {cb : XS} {h : Nat → XS} (i : Nat) (bd : Bd G W X) (F : ExN G X.mg x c tbl)
    (hb : ∀ (W : WX) (pn : List (Addr × Obj)) (xe : Value → Shared → Prop), Bd G W (X.tr pn xe) → SL G W (X.tr pn xe) body cb)
    (hh : ∀ (a : Addr) (oe : Obj) (pn : List (Addr × Obj)) (k : Nat), Zc (.ref (G.exc k)) none oe → (∃ vs, oe.data = .fields vs) → SLp G W0 i a (X.suite a ((a, oe) :: pn)) (b₀ :: suite) (h k))
    (hi : X.N[i]? = some n := by rfl) (hln : X.env.kindOf n = some .local := by rfl) (hs : X.stack = X.env :: X.outer := by rfl) (hf : X.env.frame = some X.env.locals := by rfl) (hg : Gl X x := by rfl) (hdb : (x == ("__debug__" : Str)) = false := by decide) :
    SS G W X (.Try body [.ExceptHandler (some (.Name x np)) (some n) (b₀ :: suite) pos'] [] [] pos) (stry tbl i cb h) := by
  refine ⟨PS_imp (L2.ps_try_as (c := .ref (G.exc c)) (Wout := W) (tb := fun W => tS G W cb)
    (ts := fun a cls d D σ H => ∃ k, cls = .ref (G.exc k) ∧ d = none ∧ tSp i a (tS G W0 (h k)) D σ H) hs hf bd.nd hi hln ⟨hg, hdb, .inl F.mg⟩ bd.tk (fun W pn xe tk own => (hb W pn xe ⟨bd.K, bd.nd, bd.calm, tk, own⟩).ps) fun a oe cls d pn hz hv => ?_) fun D σ H ⟨g, en, st, R, hS⟩ => ?_⟩
  · refine ⟨fun pins st σ H D I w => ?_⟩
    obtain ⟨k, rfl, rfl, w⟩ := w
    exact (hh a oe pn k hz hv).ps.run pins st σ H D I w
  · refine ⟨g, en, st, R, ?_⟩
    unfold stry at hS
    cases e : cb en st with
    | bad => rw [e] at hS; exact hS.elim
    | ok p st1 =>
      rw [e] at hS
      obtain ⟨fl, en1⟩ := p
      exact hS
    | exc k ds en' st' =>
      rw [e] at hS
      simp only at hS
      intro g' σ' H' d l R' er
      cases et : tbl k with
      | none => rw [et] at hS; exact hS.elim
      | some b =>
        rw [et] at hS
        cases b with
        | false =>
          refine ⟨false, by rw [bd.K]; exact F.exm k false et, fun z => Bool.noConfusion z, fun _ => ?_⟩
          exact hS g' σ' H' d l R' er
        | true =>
          obtain ⟨rfl, rfl⟩ := er
          simp only [List.isEmpty_nil, Bool.true_and] at hS
          by_cases hlt : i < en'.length
          case neg => rw [if_neg (by simpa using hlt)] at hS; exact hS.elim
          rw [if_pos (by simpa using hlt)] at hS
          refine ⟨true, by rw [bd.K]; exact F.exm k true et, fun _ a Ha => ⟨k, rfl, rfl, ?_, g', en'.set i none, st', R'.hide i _, ?_⟩, fun z => Bool.noConfusion z⟩
          · have hl : i < σ'.length := by rw [← R'.el]; exact hlt
            rw [List.getElem?_set_self hl]
          · cases e2 : h k (en'.set i none) st' with
            | bad => rw [e2] at hS; exact hS.elim
            | exc => rw [e2] at hS; exact hS.elim
            | ok p s =>
              rw [e2] at hS
              obtain ⟨fl, en2⟩ := p
              cases fl with
              | nx => exact fun g2 σ2 H2 l2 R2 => hS g2 _ H2 (l.trans l2) (R2.hide i none)
              | bk => exact fun g2 σ2 H2 l2 R2 => hS g2 _ H2 (l.trans l2) (R2.hide i none)
              | ct => exact fun g2 σ2 H2 l2 R2 => hS g2 _ H2 (l.trans l2) (R2.hide i none)
              | rt d => exact fun g2 σ2 H2 l2 R2 => hS g2 σ2 H2 (l.trans l2) R2
end
end Px
namespace Px
open PySem PySem.Spec L2
def keyOf : D → Option Key
  | .int i => some (.inl i)
  | .str x => some (.inr x)
  | _ => none
def keyD : Key → D
  | .inl i => .int i
  | .inr x => .str x
def kget : List Key → List D → Key → Option D
  | j :: ks, u :: us, k => if j = k then some u else kget ks us k
  | _, _, _ => none
def krep : List Key → List D → Key → D → List D
  | j :: ks, u :: us, k, d => (if j = k then d else u) :: krep ks us k d
  | _, us, _, _ => us
def khas : List Key → Key → Bool
  | [], _ => false
  | j :: ks, k => decide (j = k) || khas ks k
def kput (ks : List Key) (us : List D) (k : Key) (d : D) : List Key × List D := if khas ks k then (ks, krep ks us k d) else (ks ++ [k], us ++ [d])
def kdropK (ks : List Key) (k : Key) : List Key := ks.filter fun j => decide (j ≠ k)
def kdropU : List Key → List D → Key → List D
  | j :: ks, u :: us, k => if j = k then kdropU ks us k else u :: kdropU ks us k
  | _, us, _ => us
section
variable {G : GS} {g : Gh}
end
def dictOf (st : Sto) : D → Option (List Key × List D)
  | .cell i => match st[i]? with
    | some (.dk ks us) => some (ks, us)
    | _ => none
  | .dk m ks us => if m = .frz ∨ m = .loan then some (ks, us) else none
  | _ => none
section
variable {G : GS} {W : WX} {X : Cx}
def oIxd : Op2 := fun x y st => match dictOf st x with
  | some p => match keyOf y with
    | some k => match kget p.1 p.2 k with
      | some d => .ok d st
      | none => .bad
    | none => .bad
  | none => oIx x y st
def oInd : Op2 := fun x y st => match dictOf st y with
  | some p => match keyOf x with
    | some k => .ok (.bl (khas p.1 k)) st
    | none => .bad
  | none => oIn x y st
def oNotInd : Op2 := fun x y st => match dictOf st y with
  | some p => match keyOf x with
    | some k => .ok (.bl (!khas p.1 k)) st
    | none => .bad
  | none => oNotIn x y st
def oSetD : Op3 := fun x y z st => match x with
  | .cell i => match st[i]? with
    | some (.dk ks us) => match keyOf y with
      | some k => if fitL (ks.length + 1) then .ok () (st.set i (.dk (kput ks us k z).1 (kput ks us k z).2)) else .bad
      | none => .bad
    | _ => oSetL x y z st
  | _ => .bad
def sdel (a b : XE) : XS := fun en st => (a en st).bind fun x st => (b en st).bind fun y st => match x with
  | .cell i => match st[i]? with
    | some (.dk ks us) => match keyOf y with
      | some k => if khas ks k then .ok (.nx, en) (st.set i (.dk (kdropK ks k) (kdropU ks us k))) else .bad
      | none => .bad
    | _ => .bad
  | _ => .bad
def dgetD (p : Option (List Key × List D)) (y z : D) (st : Sto) : R D := match p with
  | some p => match keyOf y with
    | some k => .ok ((kget p.1 p.2 k).getD z) st
    | none => .bad
  | none => .bad
def xdget1 (a b : XE) : XE := fun en st => (a en st).bind fun x st => if (dictOf st x).isSome then (b en st).bind fun y st => dgetD (dictOf st x) y .non st else .bad
def xdget2 (a b c : XE) : XE := fun en st => (a en st).bind fun x st => if (dictOf st x).isSome then (b en st).bind fun y st => (c en st).bind fun z st => dgetD (dictOf st x) y z st else .bad
def dpopD (x y z : D) (st : Sto) : R D := match x with
  | .cell i => match st[i]? with
    | some (.dk ks us) => match keyOf y with
      | some k => match kget ks us k with
        | some d => .ok d (st.set i (.dk (kdropK ks k) (kdropU ks us k)))
        | none => .ok z st
      | none => .bad
    | _ => .bad
  | _ => .bad
def xdpop2 (a b c : XE) : XE := fun en st => (a en st).bind fun x st => if (dictOf st x).isSome then (b en st).bind fun y st => (c en st).bind fun z st => dpopD x y z st else .bad
def dpop1D (x y : D) (st : Sto) : R D := match x with
  | .cell i => match st[i]? with
    | some (.dk ks us) => match keyOf y with
      | some k => match kget ks us k with
        | some d => .ok d (st.set i (.dk (kdropK ks k) (kdropU ks us k)))
        | none => .bad
      | none => .bad
    | _ => .bad
  | _ => .bad
def xdpop1 (a b : XE) : XE := fun en st => (a en st).bind fun x st => if (dictOf st x).isSome then (b en st).bind fun y st => dpop1D x y st else .bad
abbrev XP := En → Sto → R (List (D × D))
def xpnil : XP := fun _ st => .ok [] st
def xpcons (a b : XE) (c : XP) : XP := fun en st => (a en st).bind fun x st => (b en st).bind fun y st => (c en st).bind fun r st => .ok ((x, y) :: r) st
def keysOf : List (D × D) → Option (List (Key × D))
  | [] => some []
  | p :: r => match keyOf p.1, keysOf r with
    | some k, some q => some ((k, p.2) :: q)
    | _, _ => none
def kmerge (ks : List Key) (us : List D) : List (Key × D) → List Key × List D
  | [] => (ks, us)
  | p :: r => kmerge (kput ks us p.1 p.2).1 (kput ks us p.1 p.2).2 r
def xdisp (c : XP) : XE := fun en st => (c en (st ++ [.dk [] []])).bind fun ps st' => match keysOf ps with
  | some kds => if kds.length ≤ 15 then (match st'[st.length]? with
      | some (.dk [] []) => .ok (.cell st.length) (st'.set st.length (.dk (kmerge [] [] kds).1 (kmerge [] [] kds).2))
      | _ => .bad) else .bad
  | none => .bad
def xdnew : XE := fun _ st => .ok (.cell st.length) (st ++ [.dk [] []])
end
end Px
namespace Px
open PySem PySem.Spec L2
section
variable {X : Cx} {tg e : Expr} {td : TE}
end
section
variable {G : GS} {W : WX} {X : Cx} {g : Gh} {en : En} {st : Sto} {σ : L2.St} {H : Hp}
section
variable {a : Addr} {kvs : List (Key × V)} {o : Obj}
mutual
theorem Rep.lk {g g' : Gh} (hF : g'.F = g.F) (ha : g'.as = g.as) (hL : ∀ b, b ≠ a → g'.L b = g.L b) (h1 : Rd g.L a (.dK kvs)) (h2 : Rd g'.L a (.dK kvs)) : ∀ (d : D) (v : V), Rep G g d v → Rep G g' d v
  | .non, _, h => h
  | .bl _, _, h => h
  | .int _, _, h => h
  | .str _, _, h => h
  | .tup ds, v, ⟨b, vs, e, q, r⟩ => ⟨b, vs, e, by rw [hF]; exact q, RepL.lk hF ha hL h1 h2 ds vs r⟩
  | .lst m ds, v, ⟨b, vs, e, q, r⟩ => ⟨b, vs, e, by
      cases m with
      | frz => show g'.F b = _; rw [hF]; exact q
      | loan =>
        have q' : g.L b = some (.lst vs) := q
        have nb : b ≠ a := fun z => by
          rw [z] at q'
          rcases h1 with h1 | ⟨o, h1⟩ <;> rw [h1] at q' <;> cases q'
        show g'.L b = _
        rw [hL b nb]; exact q'
      | ro => show SqL G.K g'.F b vs; rw [hF]; exact q
      | own => exact q, RepL.lk hF ha hL h1 h2 ds vs r⟩
  | .dk m ks ds, v, ⟨b, vs, e, q, l, r⟩ => ⟨b, vs, e, by
      cases m with
      | frz => obtain ⟨o, q⟩ := q; exact ⟨o, by rw [hF]; exact q⟩
      | loan =>
        have q' : Rd g.L b (.dK (ks.zip vs)) := q
        by_cases z : b = a
        · rw [z] at q' ⊢
          have : HO.dK (ks.zip vs) = .dK kvs := by
            rcases h1 with h1 | ⟨o, h1⟩ <;> rcases q' with q' | ⟨o', q'⟩ <;> rw [h1] at q' <;> cases q' <;> rfl
          show Rd g'.L a (.dK (ks.zip vs))
          rw [this]; exact h2
        · show Rd g'.L b _
          rcases q' with q' | ⟨o', q'⟩
          · exact .inl (by rw [hL b z]; exact q')
          · exact .inr ⟨o', by rw [hL b z]; exact q'⟩
      | ro => exact q
      | own => exact q, l, RepL.lk hF ha hL h1 h2 ds vs r⟩
  | .dt m ks ds, v, ⟨b, vs, e, q, l, r⟩ => ⟨b, vs, e, by
      cases m with
      | frz => obtain ⟨o, q⟩ := q; exact ⟨o, by rw [hF]; exact q⟩
      | loan =>
        have q' : Rd g.L b (.dT (ks.zip vs)) := q
        have nb : b ≠ a := fun z => by
          rw [z] at q'
          rcases h1 with h1 | ⟨o, h1⟩ <;> rcases q' with q' | ⟨o', q'⟩ <;> rw [h1] at q' <;> cases q'
        show Rd g'.L b _
        rcases q' with q' | ⟨o', q'⟩
        · exact .inl (by rw [hL b nb]; exact q')
        · exact .inr ⟨o', by rw [hL b nb]; exact q'⟩
      | ro => exact q
      | own => exact q, l, RepL.lk hF ha hL h1 h2 ds vs r⟩
  | .obj m c ds, v, ⟨b, dx, vs, e, q, l, r⟩ => ⟨b, dx, vs, e, by
      cases m with
      | frz => show g'.F b = _; rw [hF]; exact q
      | loan =>
        have q' : g.L b = some (.ins (G.cls c) dx ((G.flds c).zip vs)) := q
        have nb : b ≠ a := fun z => by
          rw [z] at q'
          rcases h1 with h1 | ⟨o, h1⟩ <;> rw [h1] at q' <;> cases q'
        show g'.L b = _
        rw [hL b nb]; exact q'
      | ro => exact q
      | own => exact q, l, RepL.lk hF ha hL h1 h2 ds vs r⟩
  | .cell i, v, ⟨b, q, e⟩ => ⟨b, by rw [ha]; exact q, e⟩
theorem RepL.lk {g g' : Gh} (hF : g'.F = g.F) (ha : g'.as = g.as) (hL : ∀ b, b ≠ a → g'.L b = g.L b) (h1 : Rd g.L a (.dK kvs)) (h2 : Rd g'.L a (.dK kvs)) : ∀ (ds : List D) (vs : List V), RepL G g ds vs → RepL G g' ds vs
  | [], _, h => h
  | d :: ds, vs, ⟨v, r, e, p, q⟩ => ⟨v, r, e, Rep.lk hF ha hL h1 h2 d v p, RepL.lk hF ha hL h1 h2 ds r q⟩
end
theorem CO.lk {g g' : Gh} {c : Cell} {ho : HO} (hF : g'.F = g.F) (ha : g'.as = g.as) (hL : ∀ b, b ≠ a → g'.L b = g.L b) (h1 : Rd g.L a (.dK kvs)) (h2 : Rd g'.L a (.dK kvs)) (h : CO G g c ho) : CO G g' c ho := by
  cases c with
  | lst ds => obtain ⟨vs, e, r⟩ := h; exact ⟨vs, e, RepL.lk hF ha hL h1 h2 _ _ r⟩
  | dk ks us => obtain ⟨vs, e, n, r⟩ := h; exact ⟨vs, e, n, RepL.lk hF ha hL h1 h2 _ _ r⟩
  | dt ks us => obtain ⟨vs, e, n, r⟩ := h; exact ⟨vs, e, n, RepL.lk hF ha hL h1 h2 _ _ r⟩
  | obj c fs => obtain ⟨dx, vs, e, n, r⟩ := h; exact ⟨dx, vs, e, n, RepL.lk hF ha hL h1 h2 _ _ r⟩
  | gone => exact h
theorem Rel.lk {g g' : Gh} {u u' : HO} (R : Rel G g en st σ H) (hF : g'.F = g.F) (ha : g'.as = g.as) (e1 : g.L a = some u) (e2 : g'.L = upd g.L a u') (h1 : Rd g.L a (.dK kvs)) (h2 : Rd g'.L a (.dK kvs)) (hFa : g.F a = none) : Rel G g' en st σ (upd H a u') := by
  have hL : ∀ b, b ≠ a → g'.L b = g.L b := fun b hb => by rw [e2, upd_ne hb]
  refine ⟨fun b o e => ?_, fun b o e => ?_, R.el, fun i d e => ?_, fun i c e n => ?_, by rw [ha]; exact R.len, fun i j c c' b x1 x2 n1 n2 b1 b2 => ?_, by rw [hF]; exact R.nd⟩
  · rw [hF] at e
    rw [upd_ne (ne_of_none e hFa)]; exact R.sF _ _ e
  · rw [e2] at e
    by_cases hb : b = a
    · subst hb; rw [upd_same] at e ⊢; exact e
    · rw [upd_ne hb] at e ⊢; exact R.sL _ _ e
  · obtain ⟨v, q1, q2⟩ := R.en i d e
    exact ⟨v, q1, Rep.lk hF ha hL h1 h2 _ _ q2⟩
  · obtain ⟨b, o, q1, q2, q3, q4, q5⟩ := R.cell i c e n
    have nb : b ≠ a := fun z => by rw [z, e1] at q5; cases q5
    exact ⟨b, o, by rw [ha]; exact q1, by rw [upd_ne nb]; exact q2, CO.lk hF ha hL h1 h2 q3, by rw [hF]; exact q4, by rw [hL b nb]; exact q5⟩
  · rw [ha] at b1 b2
    exact R.inj i j c c' b x1 x2 n1 n2 b1 b2
end
def sfrz (j : Nat) (b : XS) : XS := fun en st => match en[j]? with
  | some (some (.cell i)) => match st[i]? with
    | some (.dk ks us) => b (en.set j (some (.dk .frz ks us))) (st.set i .gone)
    | _ => b en st
  | _ => b en st
def ikeysF (c : XE) : XI := fun en st => (c en st).bind fun d st => match d with
  | .dk .frz ks _ => .ok ⟨ks.map keyD, []⟩ st
  | _ => .bad
def noExc {α : Type} (b : Bool) (r : R α) : R α := if b then (match r with | .exc _ _ _ _ => .bad | r => r) else r
def sforK (c : XE) (t : XG) (b : XS) : XS := fun en st => (c en st).bind fun d st => match d with
  | .dk .frz ks _ => floop [] t b (ks.map keyD) en st
  | .dk .loan ks _ => noExc true (floop [] t b (ks.map keyD) en st)
  | _ => .bad
end
end Px
namespace Px
open PySem PySem.Spec L2
def objOf (st : Sto) : D → Option (Nat × List D)
  | .cell i => match st[i]? with
    | some (.obj c fs) => some (c, fs)
    | _ => none
  | .obj m c fs => if m = .frz ∨ m = .loan then some (c, fs) else none
  | _ => none
section
variable {G : GS} {W : WX} {X : Cx}
def fldOf (tb : Nat → Option Nat) (p : Option (Nat × List D)) : Option D := match p with
  | some p => match tb p.1 with
    | some n => p.2[n]?
    | none => none
  | none => none
def oD (o : Option D) (st : Sto) : R D := match o with
  | some d => .ok d st
  | none => .bad
def xfld (tb : Nat → Option Nat) (a : XE) : XE := fun en st => (a en st).bind fun x st => oD (fldOf tb (objOf st x)) st
def putO (tb : Nat → Option Nat) (x d : D) (st : Sto) : Option Sto := match x with
  | .cell i => match st[i]? with
    | some (.obj k fs) => match tb k with
      | some n => if n < fs.length then some (st.set i (.obj k (fs.set n d))) else if n = fs.length then some (st.set i (.obj k (fs ++ [d]))) else none
      | none => none
    | _ => none
  | _ => none
def oSt (o : Option Sto) (en : En) : R (Fl × En) := match o with
  | some st => .ok (.nx, en) st
  | none => .bad
def sfld (tb : Nat → Option Nat) (a c : XE) : XS := fun en st => (c en st).bind fun d st => (a en st).bind fun x st => oSt (putO tb x d st) en
def clsOf (p : Option (Nat × List D)) : Option Nat := match p with
  | some p => some p.1
  | none => none
def saugf (tb : Nat → Option Nat) (f : Op2) (a c : XE) : XS := fun en st => (a en st).bind fun x st => match fldOf tb (objOf st x) with
  | some d => (c en st).bind fun y st' => (f d y st').bind fun z st' => if clsOf (objOf st' x) = clsOf (objOf st x) then oSt (putO tb x z st') en else .bad
  | none => .bad
def mcallD (c np : Nat) (mu : List Nat) (sem : List D → RF) (ms : List Md) (x : D) (ds : List D) (en : En) (st : Sto) : R D := if ds.length + 1 = np then callD mu sem ms (x :: ds) en st else .bad
def xmcall (c np : Nat) (mu : List Nat) (sem : List D → RF) (ms : List Md) (o : XE) (a : XA) : XE := fun en st => (o en st).bind fun x st => if clsOf (objOf st x) = some c then (a en st).bind fun ds st => mcallD c np mu sem ms x ds en st else .bad
def xmcall0 (c np : Nat) (mu : List Nat) (sem : List D → RF) (ms : List Md) (o : XE) : XE := fun en st => (o en st).bind fun x st => if clsOf (objOf st x) = some c then mcallD c np mu sem ms x [] en st else .bad
def xprop (c : Nat) (sem : List D → RF) (o : XE) : XE := fun en st => (o en st).bind fun x st => if clsOf (objOf st x) = some c then noExc true (callD [] sem [.val] [x] en st) else .bad
theorem pX.noExc {α : Type} {g : Gh} {en : En} {σ : L2.St} {r : R α} {K : α → Gh → Sto → Hp → Prop} (h : pX G W g en σ (noExc true r) K) : pX G W0 g en σ r K := by
  cases r with
  | ok a st => exact h
  | exc c ds en st => exact h.elim
  | bad => exact h
def madeD (n : Nat) (r : R D) : R D := match r with
  | .ok .non st => .ok (.cell n) st
  | .exc c ds en st => .exc c ds en st
  | _ => .bad
def makeD (c np : Nat) (mu : List Nat) (sem : List D → RF) (ms : List Md) (ds : List D) (en : En) (st : Sto) : R D := if ds.length + 1 = np then madeD st.length (callD mu sem ms (.cell st.length :: ds) en (st ++ [.obj c []])) else .bad
def xmake (c np : Nat) (mu : List Nat) (sem : List D → RF) (ms : List Md) (dd : List D) (a : XA) : XE := fun en st => (a en st).bind fun ds st => makeD c np mu sem ms (ds ++ dd) en st
end
end Px
namespace Px
open PySem PySem.Spec L2
section
variable {G : GS} {W : WX} {X : Cx} {i : Nat} {a : Addr}
def noNx (r : R (Fl × En)) : R (Fl × En) := match r with
  | .ok (.nx, _) _ => .bad
  | r => r
def sifr (c : XT) (b r : XS) : XS := fun en st => (c en st).bind fun k st => if k then noNx (b en st) else r en st
theorem pS.noNx {g : Gh} {r : R (Fl × En)} {D D' : Ends} (h : pS G W g (noNx r) D) (hb : D'.bk = D.bk) (hc : D'.ct = D.ct) (hr : D'.rt = D.rt) : pS G W g r D' := by
  cases r with
  | bad => exact h
  | exc c ds en st => exact h
  | ok p st =>
    obtain ⟨fl, en⟩ := p
    cases fl with
    | nx => exact h.elim
    | bk => intro g' σ' H' l R; show D'.bk σ' H'; rw [hb]; exact h g' σ' H' l R
    | ct => intro g' σ' H' l R; show D'.ct σ' H'; rw [hc]; exact h g' σ' H' l R
    | rt d => intro g' σ' H' l R v rv; show D'.rt v H'; rw [hr]; exact h g' σ' H' l R v rv
end
end Px
namespace Px
open PySem PySem.Spec L2
section
variable {P : Program} {w : World} {mg : Str → Option Value} {base : Heap}
section
variable {G : GS} {st : Stmt} {f : Addr} {ps : List Str} {oc : Value} {od an : Option Addr} {osl : Array (Option Value)} {kV doc pm cdv ct : Value} {x qual : Str} {c k np : Nat} {mu : List Nat} {sem : List D → RF}
end
end
end Px
namespace Px
open PySem PySem.Spec L2
section
variable {G : GS} {W : WX} {X : Cx}
def okRg (a b : Int) : Bool := ok62 a && ok62 b && fitL (b - a).toNat
def xlrng1 (c : XE) : XE := fun en st => (c en st).bind fun d st => match d with
  | .int j => if okRg 0 j then .ok (.cell st.length) (st ++ [.lst (rngL 0 (j - 0).toNat)]) else .bad
  | _ => .bad
def xlrng2 (c d : XE) : XE := fun en st => (c en st).bind fun x st => (d en st).bind fun y st => match x, y with
  | .int i, .int j => if okRg i j then .ok (.cell st.length) (st ++ [.lst (rngL i (j - i).toNat)]) else .bad
  | _, _ => .bad
def bLend : XF := fun ds st => match ds with
  | [d] => match dictOf st d with
    | some p => .ok (.int (p.1.length : Nat)) st
    | none => bLen ds st
  | _ => .bad
def bListd : XF := fun ds st => match ds with
  | [.cell i] => match st[i]? with
    | some (.dk ks us) => .ok (.cell st.length) (st ++ [.lst (ks.map keyD)])
    | _ => bList ds st
  | [.dk .loan ks us] => .ok (.cell st.length) (st ++ [.lst (ks.map keyD)])
  | _ => bList ds st
end
end Px
namespace Px
open PySem PySem.Spec L2
@[simp] theorem ev_raise (c : Nat) (en : En) (st : Sto) : sraise c en st = .exc c [] en st := (rfl)
@[simp] theorem ev_try (tbl : Nat → Option Bool) (i : Nat) (body : XS) (h : Nat → XS) (en : En) (st : Sto) : stry tbl i body h en st = match body en st with
  | .exc c ds en' st' => match tbl c with
    | some true => if ds.isEmpty && decide (i < en'.length) then (match h c (en'.set i none) st' with
      | .ok (.nx, e) s => .ok (.nx, e.set i none) s
      | .ok (.bk, e) s => .ok (.bk, e.set i none) s
      | .ok (.ct, e) s => .ok (.ct, e.set i none) s
      | .ok (.rt d, e) s => .ok (.rt d, e) s
      | _ => .bad) else .bad
    | some false => .exc c ds en' st'
    | none => .bad
  | r => r := (rfl)
@[simp] theorem ev_isx (tbl : Nat → Option Bool) (k : Nat) (en : En) (st : Sto) : xisx tbl k en st = match tbl k with
  | some b => .ok (.bl b) st
  | none => .bad := (rfl)
@[simp] theorem ev_finX (ps : List D) (c : Nat) (st : Sto) : finX [] ps c [] st = .exc c [] [] := (rfl)
@[simp] theorem ev_sifr (c : XT) (b r : XS) (en : En) (st : Sto) : sifr c b r en st = (c en st).bind fun k st => if k then noNx (b en st) else r en st := (rfl)
@[simp] theorem noNx_rt (d : D) (en : En) (st : Sto) : noNx (.ok (.rt d, en) st) = .ok (.rt d, en) st := (rfl)
@[simp] theorem ev_ixd (x y : D) (st : Sto) : oIxd x y st = match dictOf st x with
  | some p => match keyOf y with
    | some k => match kget p.1 p.2 k with
      | some d => .ok d st
      | none => .bad
    | none => .bad
  | none => oIx x y st := (rfl)
@[simp] theorem dictOf_cell (st : Sto) (i : Nat) : dictOf st (.cell i) = match st[i]? with
    | some (.dk ks us) => some (ks, us)
    | _ => none := (rfl)
@[simp] theorem dictOf_frz (st : Sto) (ks : List Key) (us : List D) : dictOf st (.dk .frz ks us) = some (ks, us) := (rfl)
@[simp] theorem dictOf_loan (st : Sto) (ks : List Key) (us : List D) : dictOf st (.dk .loan ks us) = some (ks, us) := (rfl)
@[simp] theorem dictOf_tup (st : Sto) (us : List D) : dictOf st (.tup us) = none := (rfl)
@[simp] theorem dictOf_lst (st : Sto) (m : Mk) (us : List D) : dictOf st (.lst m us) = none := (rfl)
@[simp] theorem dictOf_str (st : Sto) (z : Str) : dictOf st (.str z) = none := (rfl)
@[simp] theorem keyOf_int (i : Int) : keyOf (.int i) = some (.inl i) := (rfl)
@[simp] theorem keyOf_str (i : Str) : keyOf (.str i) = some (.inr i) := (rfl)
@[simp] theorem keyD_int (i : Int) : keyD (.inl i) = .int i := (rfl)
@[simp] theorem keyD_str (i : Str) : keyD (.inr i) = .str i := (rfl)
@[simp] theorem kget_nil (us : List D) (k : Key) : kget [] us k = none := (rfl)
@[simp] theorem kget_cons (j : Key) (ks : List Key) (u : D) (us : List D) (k : Key) : kget (j :: ks) (u :: us) k = if j = k then some u else kget ks us k := (rfl)
@[simp] theorem khas_nil (k : Key) : khas [] k = false := (rfl)
@[simp] theorem khas_cons (j : Key) (ks : List Key) (k : Key) : khas (j :: ks) k = (decide (j = k) || khas ks k) := (rfl)
@[simp] theorem ev_ind (x y : D) (st : Sto) : oInd x y st = match dictOf st y with
  | some p => match keyOf x with
    | some k => .ok (.bl (khas p.1 k)) st
    | none => .bad
  | none => oIn x y st := (rfl)
@[simp] theorem ev_nind (x y : D) (st : Sto) : oNotInd x y st = match dictOf st y with
  | some p => match keyOf x with
    | some k => .ok (.bl (!khas p.1 k)) st
    | none => .bad
  | none => oNotIn x y st := (rfl)
@[simp] theorem ev_setD (i : Nat) (y z : D) (st : Sto) : oSetD (.cell i) y z st = match st[i]? with
    | some (.dk ks us) => match keyOf y with
      | some k => if fitL (ks.length + 1) then .ok () (st.set i (.dk (kput ks us k z).1 (kput ks us k z).2)) else .bad
      | none => .bad
    | _ => oSetL (.cell i) y z st := (rfl)
@[simp] theorem ev_dget1 (a b : XE) (en : En) (st : Sto) : xdget1 a b en st = (a en st).bind fun x st => if (dictOf st x).isSome then (b en st).bind fun y st => dgetD (dictOf st x) y .non st else .bad := (rfl)
@[simp] theorem ev_dget2 (a b c : XE) (en : En) (st : Sto) : xdget2 a b c en st = (a en st).bind fun x st => if (dictOf st x).isSome then (b en st).bind fun y st => (c en st).bind fun z st => dgetD (dictOf st x) y z st else .bad := (rfl)
@[simp] theorem ev_dpop1 (a b : XE) (en : En) (st : Sto) : xdpop1 a b en st = (a en st).bind fun x st => if (dictOf st x).isSome then (b en st).bind fun y st => dpop1D x y st else .bad := (rfl)
@[simp] theorem ev_dpop2 (a b c : XE) (en : En) (st : Sto) : xdpop2 a b c en st = (a en st).bind fun x st => if (dictOf st x).isSome then (b en st).bind fun y st => (c en st).bind fun z st => dpopD x y z st else .bad := (rfl)
@[simp] theorem dgetD_some (p : List Key × List D) (y z : D) (st : Sto) : dgetD (some p) y z st = match keyOf y with
    | some k => .ok ((kget p.1 p.2 k).getD z) st
    | none => .bad := (rfl)
@[simp] theorem dpopD_cell (i : Nat) (y z : D) (st : Sto) : dpopD (.cell i) y z st = match st[i]? with
    | some (.dk ks us) => match keyOf y with
      | some k => match kget ks us k with
        | some d => .ok d (st.set i (.dk (kdropK ks k) (kdropU ks us k)))
        | none => .ok z st
      | none => .bad
    | _ => .bad := (rfl)
@[simp] theorem ev_pnil (en : En) (st : Sto) : xpnil en st = .ok [] st := (rfl)
@[simp] theorem ev_pcons (a b : XE) (c : XP) (en : En) (st : Sto) : xpcons a b c en st = (a en st).bind fun x st => (b en st).bind fun y st => (c en st).bind fun r st => .ok ((x, y) :: r) st := (rfl)
@[simp] theorem keysOf_nil : keysOf [] = some [] := (rfl)
@[simp] theorem keysOf_cons (x y : D) (r : List (D × D)) : keysOf ((x, y) :: r) = match keyOf x, keysOf r with
    | some k, some q => some ((k, y) :: q)
    | _, _ => none := (rfl)
@[simp] theorem kmerge_nil (ks : List Key) (us : List D) : kmerge ks us [] = (ks, us) := (rfl)
@[simp] theorem kmerge_cons (ks : List Key) (us : List D) (k : Key) (d : D) (r : List (Key × D)) : kmerge ks us ((k, d) :: r) = kmerge (kput ks us k d).1 (kput ks us k d).2 r := (rfl)
@[simp] theorem kput_new {ks : List Key} {us : List D} {k : Key} {d : D} (h : khas ks k = false) : kput ks us k d = (ks ++ [k], us ++ [d]) := by unfold kput; rw [h]; rfl
@[simp] theorem ev_disp (c : XP) (en : En) (st : Sto) : xdisp c en st = (c en (st ++ [.dk [] []])).bind fun ps st' => match keysOf ps with
  | some kds => if kds.length ≤ 15 then (match st'[st.length]? with
      | some (.dk [] []) => .ok (.cell st.length) (st'.set st.length (.dk (kmerge [] [] kds).1 (kmerge [] [] kds).2))
      | _ => .bad) else .bad
  | none => .bad := (rfl)
@[simp] theorem ev_dnew (en : En) (st : Sto) : xdnew en st = .ok (.cell st.length) (st ++ [.dk [] []]) := (rfl)
@[simp] theorem ev_sfrz (j : Nat) (b : XS) (en : En) (st : Sto) : sfrz j b en st = match en[j]? with
  | some (some (.cell i)) => match st[i]? with
    | some (.dk ks us) => b (en.set j (some (.dk .frz ks us))) (st.set i .gone)
    | _ => b en st
  | _ => b en st := (rfl)
@[simp] theorem ev_forK (c : XE) (t : XG) (b : XS) (en : En) (st : Sto) : sforK c t b en st = (c en st).bind fun d st => match d with
  | .dk .frz ks _ => floop [] t b (ks.map keyD) en st
  | .dk .loan ks _ => noExc true (floop [] t b (ks.map keyD) en st)
  | _ => .bad := (rfl)
@[simp] theorem noExc_ok {α : Type} (b : Bool) (a : α) (st : Sto) : noExc b (.ok a st) = .ok a st := by cases b <;> rfl
@[simp] theorem ev_keysF (c : XE) (en : En) (st : Sto) : ikeysF c en st = (c en st).bind fun d st => match d with
  | .dk .frz ks _ => .ok ⟨ks.map keyD, []⟩ st
  | _ => .bad := (rfl)
@[simp] theorem ev_lend (d : D) (st : Sto) : bLend [d] st = match dictOf st d with
    | some p => .ok (.int (p.1.length : Nat)) st
    | none => bLen [d] st := (rfl)
@[simp] theorem ev_listd (i : Nat) (st : Sto) : bListd [.cell i] st = match st[i]? with
    | some (.dk ks us) => .ok (.cell st.length) (st ++ [.lst (ks.map keyD)])
    | _ => bList [.cell i] st := (rfl)
@[simp] theorem ev_listdL (ks : List Key) (us : List D) (st : Sto) : bListd [.dk .loan ks us] st = .ok (.cell st.length) (st ++ [.lst (ks.map keyD)]) := (rfl)
@[simp] theorem ev_lrng1 (c : XE) (en : En) (st : Sto) : xlrng1 c en st = (c en st).bind fun d st => match d with
  | .int j => if okRg 0 j then .ok (.cell st.length) (st ++ [.lst (rngL 0 (j - 0).toNat)]) else .bad
  | _ => .bad := (rfl)
@[simp] theorem ev_lrng2 (c d : XE) (en : En) (st : Sto) : xlrng2 c d en st = (c en st).bind fun x st => (d en st).bind fun y st => match x, y with
  | .int i, .int j => if okRg i j then .ok (.cell st.length) (st ++ [.lst (rngL i (j - i).toNat)]) else .bad
  | _, _ => .bad := (rfl)
@[simp] theorem ev_del (a b : XE) (en : En) (st : Sto) : sdel a b en st = (a en st).bind fun x st => (b en st).bind fun y st => match x with
  | .cell i => match st[i]? with
    | some (.dk ks us) => match keyOf y with
      | some k => if khas ks k then .ok (.nx, en) (st.set i (.dk (kdropK ks k) (kdropU ks us k))) else .bad
      | none => .bad
    | _ => .bad
  | _ => .bad := (rfl)
@[simp] theorem objOf_cell (st : Sto) (i : Nat) : objOf st (.cell i) = match st[i]? with
    | some (.obj c fs) => some (c, fs)
    | _ => none := (rfl)
@[simp] theorem objOf_loan (st : Sto) (c : Nat) (fs : List D) : objOf st (.obj .loan c fs) = some (c, fs) := (rfl)
@[simp] theorem objOf_frz (st : Sto) (c : Nat) (fs : List D) : objOf st (.obj .frz c fs) = some (c, fs) := (rfl)
@[simp] theorem clsOf_some (p : Nat × List D) : clsOf (some p) = some p.1 := (rfl)
@[simp] theorem fldOf_some (tb : Nat → Option Nat) (p : Nat × List D) : fldOf tb (some p) = match tb p.1 with
    | some n => p.2[n]?
    | none => none := (rfl)
@[simp] theorem oD_some (d : D) (st : Sto) : oD (some d) st = .ok d st := (rfl)
@[simp] theorem ev_fld (tb : Nat → Option Nat) (a : XE) (en : En) (st : Sto) : xfld tb a en st = (a en st).bind fun x st => oD (fldOf tb (objOf st x)) st := (rfl)
@[simp] theorem ev_sfld (tb : Nat → Option Nat) (a c : XE) (en : En) (st : Sto) : sfld tb a c en st = (c en st).bind fun d st => (a en st).bind fun x st => oSt (putO tb x d st) en := (rfl)
@[simp] theorem oSt_some (st : Sto) (en : En) : oSt (some st) en = .ok (.nx, en) st := (rfl)
@[simp] theorem putO_cell (tb : Nat → Option Nat) (i : Nat) (d : D) (st : Sto) : putO tb (.cell i) d st = match st[i]? with
    | some (.obj k fs) => match tb k with
      | some n => if n < fs.length then some (st.set i (.obj k (fs.set n d))) else if n = fs.length then some (st.set i (.obj k (fs ++ [d]))) else none
      | none => none
    | _ => none := (rfl)
@[simp] theorem ev_augf (tb : Nat → Option Nat) (f : Op2) (a c : XE) (en : En) (st : Sto) : saugf tb f a c en st = (a en st).bind fun x st => match fldOf tb (objOf st x) with
  | some d => (c en st).bind fun y st' => (f d y st').bind fun z st' => if clsOf (objOf st' x) = clsOf (objOf st x) then oSt (putO tb x z st') en else .bad
  | none => .bad := (rfl)
@[simp] theorem ev_mcall (c np : Nat) (mu : List Nat) (sem : List D → RF) (ms : List Md) (o : XE) (a : XA) (en : En) (st : Sto) : xmcall c np mu sem ms o a en st = (o en st).bind fun x st => if clsOf (objOf st x) = some c then (a en st).bind fun ds st => mcallD c np mu sem ms x ds en st else .bad := (rfl)
@[simp] theorem ev_mcall0 (c np : Nat) (mu : List Nat) (sem : List D → RF) (ms : List Md) (o : XE) (en : En) (st : Sto) : xmcall0 c np mu sem ms o en st = (o en st).bind fun x st => if clsOf (objOf st x) = some c then mcallD c np mu sem ms x [] en st else .bad := (rfl)
@[simp] theorem ev_mcallD (c np : Nat) (mu : List Nat) (sem : List D → RF) (ms : List Md) (x : D) (ds : List D) (en : En) (st : Sto) : mcallD c np mu sem ms x ds en st = if ds.length + 1 = np then callD mu sem ms (x :: ds) en st else .bad := (rfl)
@[simp] theorem ev_prop (c : Nat) (sem : List D → RF) (o : XE) (en : En) (st : Sto) : xprop c sem o en st = (o en st).bind fun x st => if clsOf (objOf st x) = some c then noExc true (callD [] sem [.val] [x] en st) else .bad := (rfl)
@[simp] theorem ev_make (c np : Nat) (mu : List Nat) (sem : List D → RF) (ms : List Md) (dd : List D) (a : XA) (en : En) (st : Sto) : xmake c np mu sem ms dd a en st = (a en st).bind fun ds st => makeD c np mu sem ms (ds ++ dd) en st := (rfl)
@[simp] theorem ev_makeD (c np : Nat) (mu : List Nat) (sem : List D → RF) (ms : List Md) (ds : List D) (en : En) (st : Sto) : makeD c np mu sem ms ds en st = if ds.length + 1 = np then madeD st.length (callD mu sem ms (.cell st.length :: ds) en (st ++ [.obj c []])) else .bad := (rfl)
@[simp] theorem madeD_ok (n : Nat) (st : Sto) : madeD n (.ok .non st) = .ok (.cell n) st := (rfl)
@[simp] theorem madeD_exc (n c : Nat) (ds : List D) (en : En) (st : Sto) : madeD n (.exc c ds en st) = .exc c ds en st := (rfl)
end Px
namespace Px
open PySem PySem.Spec L2
@[simp] theorem noc_dkl (ks : List Key) (ds : List D) : D.noc (.dk .loan ks ds) = nocL ds := by simp [D.noc]
@[simp] theorem noc_dkf (ks : List Key) (ds : List D) : D.noc (.dk .frz ks ds) = nocL ds := by simp [D.noc]
@[simp] theorem noc_dko (ks : List Key) (ds : List D) : D.noc (.dk .own ks ds) = false := by simp [D.noc]
@[simp] theorem noc_obl (c : Nat) (ds : List D) : D.noc (.obj .loan c ds) = nocL ds := by simp [D.noc]
@[simp] theorem noc_obf (c : Nat) (ds : List D) : D.noc (.obj .frz c ds) = nocL ds := by simp [D.noc]
@[simp] theorem noc_obo (c : Nat) (ds : List D) : D.noc (.obj .own c ds) = false := by simp [D.noc]
@[simp] theorem pl_own (ds : List D) : D.pl (.lst .own ds) = false := by simp [D.pl]
@[simp] theorem pl_dkl (ks : List Key) (ds : List D) : D.pl (.dk .loan ks ds) = false := by simp [D.pl]
@[simp] theorem pl_dkf (ks : List Key) (ds : List D) : D.pl (.dk .frz ks ds) = plL ds := by simp [D.pl]
@[simp] theorem pl_dko (ks : List Key) (ds : List D) : D.pl (.dk .own ks ds) = false := by simp [D.pl]
@[simp] theorem pl_obl (c : Nat) (ds : List D) : D.pl (.obj .loan c ds) = false := by simp [D.pl]
@[simp] theorem pl_obf (c : Nat) (ds : List D) : D.pl (.obj .frz c ds) = plL ds := by simp [D.pl]
@[simp] theorem pl_obo (c : Nat) (ds : List D) : D.pl (.obj .own c ds) = false := by simp [D.pl]
@[simp] theorem allNoc (ds : List D) : ds.all D.noc = nocL ds := all_noc ds
@[simp] theorem allPl (ds : List D) : ds.all D.pl = plL ds := all_pl ds
theorem nocL_map {α : Type} (f : α → D) : ∀ (l : List α), (∀ x ∈ l, (f x).noc = true) → nocL (l.map f) = true
  | [], _ => rfl
  | x :: l, h => by simp [h x (by simp), nocL_map f l fun y hy => h y (List.mem_cons_of_mem _ hy)]
theorem plL_map {α : Type} (f : α → D) : ∀ (l : List α), (∀ x ∈ l, (f x).pl = true) → plL (l.map f) = true
  | [], _ => rfl
  | x :: l, h => by simp [h x (by simp), plL_map f l fun y hy => h y (List.mem_cons_of_mem _ hy)]
@[simp] theorem take_tupS (ok : D → Bool) (st : Sto) (n : Nat) (ds : List D) (h : ok (.tup ds) = false) : take ok st (n + 1) (.tup ds) = (takeL ok (take ok st n) ds).map fun p => (.tup p.1, p.2) := by
  rw [take, h]
  show (if false = true then _ else _) = _
  rw [if_neg Bool.false_ne_true]
@[simp] theorem take_cellS (ok : D → Bool) (st : Sto) (n : Nat) (i : Nat) (h : ok (.cell i) = false) : take ok st (n + 1) (.cell i) = match st[i]? with
      | some (.lst ds) => (takeL ok (take ok st n) ds).map fun p => (.lst .own p.1, p.2 ++ [i])
      | some (.dk ks ds) => (takeL ok (take ok st n) ds).map fun p => (.dk .own ks p.1, p.2 ++ [i])
      | some (.dt ks ds) => (takeL ok (take ok st n) ds).map fun p => (.dt .own ks p.1, p.2 ++ [i])
      | some (.obj c ds) => (takeL ok (take ok st n) ds).map fun p => (.obj .own c p.1, p.2 ++ [i])
      | _ => none := by
  rw [take, h]
  show (if false = true then _ else _) = _
  rw [if_neg Bool.false_ne_true]
  all_goals rfl
@[simp] theorem take_ok_id (ok : D → Bool) (st : Sto) (n : Nat) (d : D) (h : ok d = true) : take ok st n d = some (d, []) := by
  cases n <;> simp [take, h]
@[simp] theorem takeL_y (ok : D → Bool) (f : D → Option (D × List Nat)) (ds : List D) (h : ds.all ok = true) : takeL ok f ds = some (ds, []) := by unfold takeL; rw [if_pos h]
@[simp] theorem takeL_n (ok : D → Bool) (f : D → Option (D × List Nat)) (ds : List D) (h : ds.all ok = false) : takeL ok f ds = mapO f ds := by unfold takeL; rw [if_neg (by rw [h]; exact Bool.false_ne_true)]
@[simp] theorem mapO_nil (f : D → Option (D × List Nat)) : mapO f [] = some ([], []) := (rfl)
@[simp] theorem mapO_cons (f : D → Option (D × List Nat)) (d : D) (r : List D) : mapO f (d :: r) = match f d, mapO f r with
    | some p, some q => some (p.1 :: q.1, p.2 ++ q.2)
    | _, _ => none := (rfl)
@[simp] theorem snap_tupS (st : Sto) (n : Nat) (ds : List D) (h : nocL ds = false) : snap st (n + 1) (.tup ds) = (snapL (snap st n) ds).map .tup := by
  rw [snap, noc_tup, h]
  rw [if_neg Bool.false_ne_true]
@[simp] theorem snap_cellS (st : Sto) (n : Nat) (i : Nat) : snap st (n + 1) (.cell i) = match st[i]? with
      | some (.lst ds) => (snapL (snap st n) ds).map (.lst .loan)
      | some (.dk ks ds) => (snapL (snap st n) ds).map (.dk .loan ks)
      | some (.dt ks ds) => (snapL (snap st n) ds).map (.dt .loan ks)
      | some (.obj c ds) => (snapL (snap st n) ds).map (.obj .loan c)
      | _ => none := by
  rw [snap, noc_cell]
  rw [if_neg Bool.false_ne_true]
  all_goals rfl
@[simp] theorem snap_ok_id (st : Sto) (n : Nat) (d : D) (h : d.noc = true) : snap st n d = some d := snap_id h
@[simp] theorem snapL_y (f : D → Option D) (ds : List D) (h : nocL ds = true) : snapL f ds = some ds := by unfold snapL; rw [if_pos (by rw [all_noc]; exact h)]
@[simp] theorem snapL_n (f : D → Option D) (ds : List D) (h : nocL ds = false) : snapL f ds = mapS f ds := by unfold snapL; rw [if_neg (by rw [all_noc, h]; exact Bool.false_ne_true)]
@[simp] theorem mapS_nil (f : D → Option D) : mapS f [] = some [] := (rfl)
@[simp] theorem mapS_cons (f : D → Option D) (d : D) (r : List D) : mapS f (d :: r) = match f d, mapS f r with
    | some p, some q => some (p :: q)
    | _, _ => none := (rfl)
@[simp] theorem prepT_nil (st : Sto) : prepT st [] [] = some ([], []) := (rfl)
@[simp] theorem prepT_val (st : Sto) (ms : List Md) (d : D) (ds : List D) : prepT st (.val :: ms) (d :: ds) = (prepT st ms ds).map fun q => (d :: q.1, q.2) := (rfl)
@[simp] theorem prepT_mov (st : Sto) (ms : List Md) (d : D) (ds : List D) : prepT st (.mov :: ms) (d :: ds) = match take D.noc st 20 d, prepT st ms ds with
    | some p, some q => some (p.1 :: q.1, p.2 ++ q.2)
    | _, _ => none := (rfl)
@[simp] theorem prepT_mut (st : Sto) (ms : List Md) (d : D) (ds : List D) : prepT st (.mut :: ms) (d :: ds) = match take D.noc st 20 d, prepT st ms ds with
    | some p, some q => some (p.1 :: q.1, p.2 ++ q.2)
    | _, _ => none := (rfl)
@[simp] theorem prepS_nil (st : Sto) : prepS st [] [] = some [] := (rfl)
@[simp] theorem prepS_val (st : Sto) (ms : List Md) (d : D) (ds : List D) : prepS st (.val :: ms) (d :: ds) = match snap st 20 d, prepS st ms ds with
    | some p, some q => some (p :: q)
    | _, _ => none := (rfl)
@[simp] theorem prepS_mov (st : Sto) (ms : List Md) (d : D) (ds : List D) : prepS st (.mov :: ms) (d :: ds) = (prepS st ms ds).map (d :: ·) := (rfl)
@[simp] theorem prepS_mut (st : Sto) (ms : List Md) (d : D) (ds : List D) : prepS st (.mut :: ms) (d :: ds) = (prepS st ms ds).map (d :: ·) := (rfl)
@[simp] theorem gone_nil (st : Sto) : goneAt [] st = st := (rfl)
@[simp] theorem gone_cons (j : Nat) (js : List Nat) (st : Sto) : goneAt (j :: js) st = goneAt js (st.set j .gone) := (rfl)
@[simp] theorem roots_nil (ds : List D) : rootsOf ds [] = some [] := (rfl)
def rootD : List D → Nat → D
  | d :: _, 0 => d
  | _ :: r, i + 1 => rootD r i
  | [], _ => .non
theorem rootD_eq : ∀ (ds : List D) (i : Nat), ds.getD i .non = rootD ds i
  | [], _ => rfl
  | d :: _, 0 => rfl
  | _ :: r, i + 1 => by rw [rootD, ← rootD_eq r i]; rfl
@[simp] theorem rootD_0 (d : D) (r : List D) : rootD (d :: r) 0 = d := (rfl)
@[simp] theorem rootD_S (d : D) (r : List D) (i : Nat) : rootD (d :: r) (i + 1) = rootD r i := (rfl)
@[simp] theorem rootD_1 (d : D) (r : List D) : rootD (d :: r) 1 = rootD r 0 := (rfl)
@[simp] theorem rootD_2 (d e : D) (r : List D) : rootD (d :: e :: r) 2 = rootD r 0 := (rfl)
@[simp] theorem rootD_3 (d e f : D) (r : List D) : rootD (d :: e :: f :: r) 3 = rootD r 0 := (rfl)
@[simp] theorem roots_cons (ds : List D) (i : Nat) (r : List Nat) : rootsOf ds (i :: r) = match rootD ds i, rootsOf ds r with
    | .cell j, some q => some (j :: q)
    | _, _ => none := by rw [rootsOf, rootD_eq]; all_goals rfl
@[simp] theorem back_nil (st : Sto) : back [] [] st = some st := (rfl)
@[simp] theorem back_cons (i : Nat) (is : List Nat) (t : D) (ts : List D) (st : Sto) : back (i :: is) (t :: ts) st = match impC t st.length with
    | some p => if i < st.length then back is ts ((st ++ p.2).set i p.1) else none
    | none => none := (rfl)
@[simp] theorem impC_lst (ds : List D) (n : Nat) : impC (.lst .own ds) n = if nocL ds then some (.lst ds, []) else some (.lst (impL ds n).1, (impL ds n).2) := (rfl)
@[simp] theorem impC_dk (ks : List Key) (ds : List D) (n : Nat) : impC (.dk .own ks ds) n = if nocL ds then some (.dk ks ds, []) else some (.dk ks (impL ds n).1, (impL ds n).2) := (rfl)
@[simp] theorem impC_obj (c : Nat) (ds : List D) (n : Nat) : impC (.obj .own c ds) n = if nocL ds then some (.obj c ds, []) else some (.obj c (impL ds n).1, (impL ds n).2) := (rfl)
@[simp] theorem imp_lst (ds : List D) (n : Nat) : imp (.lst .own ds) n = if nocL ds then (.cell n, [.lst ds]) else (.cell (n + (impL ds n).2.length), (impL ds n).2 ++ [.lst (impL ds n).1]) := by
  rw [imp]
@[simp] theorem imp_dk (ks : List Key) (ds : List D) (n : Nat) : imp (.dk .own ks ds) n = if nocL ds then (.cell n, [.dk ks ds]) else (.cell (n + (impL ds n).2.length), (impL ds n).2 ++ [.dk ks (impL ds n).1]) := by
  rw [imp]
@[simp] theorem imp_obj (c : Nat) (ds : List D) (n : Nat) : imp (.obj .own c ds) n = if nocL ds then (.cell n, [.obj c ds]) else (.cell (n + (impL ds n).2.length), (impL ds n).2 ++ [.obj c (impL ds n).1]) := by
  rw [imp]
@[simp] theorem imp_tup (ds : List D) (n : Nat) : imp (.tup ds) n = if nocL ds then (.tup ds, []) else (.tup (impL ds n).1, (impL ds n).2) := by
  rw [imp]
@[simp] theorem imp_ok_id (d : D) (n : Nat) (h : d.noc = true) : imp d n = (d, []) := imp_id d n h
@[simp] theorem impL_nil (n : Nat) : impL [] n = ([], []) := (rfl)
@[simp] theorem impL_ok_id (ds : List D) (n : Nat) (h : nocL ds = true) : impL ds n = (ds, []) := impL_id ds n h
@[simp] theorem impL_cons (d : D) (ds : List D) (n : Nat) : impL (d :: ds) n = ((imp d n).1 :: (impL ds (n + (imp d n).2.length)).1, (imp d n).2 ++ (impL ds (n + (imp d n).2.length)).2) := (rfl)
theorem callD_un (mu : List Nat) (sem : List D → RF) (ms : List Md) (ds : List D) (en : En) (st : Sto) : callD mu sem ms ds en st = match prepT st ms ds with
  | some t => if t.2.Nodup ∧ mutPos 0 ms = mu then
      match prepS (goneAt t.2 st) ms t.1, rootsOf ds mu with
      | some es, some roots => callF mu sem es roots en (goneAt t.2 st)
      | _, _ => .bad
    else .bad
  | none => .bad := (rfl)
@[simp] theorem callF_un (mu : List Nat) (sem : List D → RF) (es : List D) (roots : List Nat) (en : En) (st : Sto) : callF mu sem es roots en st = match sem es with
  | .ok r ts => match back roots ts (st ++ (imp r st.length).2) with
    | some st2 => .ok (imp r st.length).1 st2
    | none => .bad
  | .exc c xs ts => match back roots ts st with
    | some st2 => .exc c xs en st2
    | none => .bad
  | .bad => .bad := (rfl)
@[simp] theorem callD_mu (i : Nat) (mu : List Nat) (sem : List D → RF) (ms : List Md) (ds : List D) (en : En) (st : Sto) : callD (i :: mu) sem ms ds en st = match prepT st ms ds with
  | some t => if t.2.Nodup ∧ mutPos 0 ms = i :: mu then
      match prepS (goneAt t.2 st) ms t.1, rootsOf ds (i :: mu) with
      | some es, some roots => callF (i :: mu) sem es roots en (goneAt t.2 st)
      | _, _ => .bad
    else .bad
  | none => .bad := (rfl)
@[simp] theorem callD_val (sem : List D → RF) (ms : List Md) (ds : List D) (en : En) (st : Sto) (h : nocL ds = false) : callD [] sem ms ds en st = match prepT st ms ds with
  | some t => if t.2.Nodup ∧ mutPos 0 ms = [] then
      match prepS (goneAt t.2 st) ms t.1 with
      | some es => callF [] sem es [] en (goneAt t.2 st)
      | _ => .bad
    else .bad
  | none => .bad := by
  rw [callD_un]
  cases prepT st ms ds with
  | none => rfl
  | some t =>
    simp only [roots_nil]
    split
    · cases prepS (goneAt t.2 st) ms t.1 <;> rfl
    · rfl
@[simp] theorem xfun_un (np nl : Nat) (mu : List Nat) (body : XS) (ds : List D) (hl : ds.length = np) : xfun np nl mu body ds = match body ((impL ds 0).1.map some ++ List.replicate nl none) (impL ds 0).2 with
    | .ok (.rt d, _) st => fin mu (impL ds 0).1 d st
    | .ok (.nx, _) st => fin mu (impL ds 0).1 .non st
    | .ok _ _ => .bad
    | .exc c xs _ st => finX mu (impL ds 0).1 c xs st
    | .bad => .bad := by
  unfold xfun
  rw [if_pos hl]
  first | done | rfl
theorem fin_un (mu : List Nat) (ps : List D) (d : D) (st : Sto) : fin mu ps d st = match take D.pl st 20 d, takeL D.pl (take D.pl st 20) (mu.map fun i => ps.getD i .non) with
  | some p, some q => if (p.2 ++ q.2).Nodup then .ok p.1 q.1 else .bad
  | _, _ => .bad := (rfl)
@[simp] theorem fin_mu (i : Nat) (mu : List Nat) (ps : List D) (d : D) (st : Sto) : fin (i :: mu) ps d st = match take D.pl st 20 d, takeL D.pl (take D.pl st 20) ((i :: mu).map fun i => rootD ps i) with
  | some p, some q => if (p.2 ++ q.2).Nodup then .ok p.1 q.1 else .bad
  | _, _ => .bad := by
  rw [fin_un]
  simp only [rootD_eq]
@[simp] theorem finX_mu (i : Nat) (mu : List Nat) (ps : List D) (c : Nat) (xs : List D) (st : Sto) : finX (i :: mu) ps c xs st = match takeL D.pl (take D.pl st 20) ((i :: mu).map fun i => rootD ps i) with
  | some q => if q.2.Nodup && plL xs then .exc c xs q.1 else .bad
  | none => .bad := by
  unfold finX
  simp only [rootD_eq]
  first | done | rfl
theorem fin_0 (ps : List D) (d : D) (st : Sto) : fin [] ps d st = match take D.pl st 20 d with
  | some p => if p.2.Nodup then .ok p.1 [] else .bad
  | none => .bad := by
  rw [fin_un]
  simp only [List.map_nil]
  rw [takeL_y _ _ _ rfl]
  cases take D.pl st 20 d with
  | none => rfl
  | some p => simp
@[simp] theorem finS_un (ps : List D) (d : D) (st : Sto) : finS [] ps d st = match take D.pl st 20 d with
  | some p => if p.2.Nodup then .ok p.1 [] else .bad
  | none => .bad := fin_0 ps d st
@[simp] theorem fin_tup (ps : List D) (ds : List D) (st : Sto) (h : plL ds = false) : fin [] ps (.tup ds) st = finS [] ps (.tup ds) st := (rfl)
theorem ixN_n2 {n k : Nat} (h : k < n) : ixN n (k : Int) = some k := by
  unfold ixN
  simp [h]
@[simp] theorem ixN_nat2 (n k : Nat) (h : k < n) : ixN n (k : Int) = some k := ixN_n2 h
def eqS (a b : Option D) (fb : Option Bool) : Option Bool := match a, b with
  | some a, some b => if a.sh 64 && b.sh 64 then some (a.eqT b) else fb
  | _, _ => fb
@[simp] theorem eqS_some (a b : D) (fb : Option Bool) : eqS (some a) (some b) fb = if a.sh 64 && b.sh 64 then some (a.eqT b) else fb := (rfl)
def eqD0 : Sto → D → D → Option Bool := eqD
def isFlat : D → Bool
  | .int _ => true | .str _ => true | .bl _ => true
  | _ => false
theorem eqD_gen (st : Sto) (x y : D) (h : isFlat x = false) : eqD st x y = eqS (snap st 8 x) (snap st 8 y) (eqD0 st x y) := by
  cases e1 : snap st 8 x with
  | none => rfl
  | some a =>
    cases e2 : snap st 8 y with
    | none => rfl
    | some b =>
      rw [eqS_some]
      split
      · rename_i hs
        simp only [Bool.and_eq_true] at hs
        obtain ⟨p, p1, p2, p3⟩ := sh_py a 64 hs.1
        obtain ⟨q, q1, q2, q3⟩ := sh_py b 64 hs.2
        have h1 : SeqAt.shaped p = true := by simp [SeqAt.shaped, p2, p3]
        have h2 : SeqAt.shaped q = true := by simp [SeqAt.shaped, q2, q3]
        unfold eqD
        split
        · cases h
        · cases h
        · cases h
        · rw [e1, e2]
          simp [p1, q1, h1, h2, eqT_eqv a b p q p1 q1]
      · rfl
@[simp] theorem eqD_cell (st : Sto) (i : Nat) (y : D) : eqD st (.cell i) y = eqS (snap st 8 (.cell i)) (snap st 8 y) (eqD0 st (.cell i) y) := eqD_gen st _ y rfl
@[simp] theorem eqD_lst (st : Sto) (m : Mk) (ds : List D) (y : D) : eqD st (.lst m ds) y = eqS (snap st 8 (.lst m ds)) (snap st 8 y) (eqD0 st (.lst m ds) y) := eqD_gen st _ y rfl
@[simp] theorem ev_eqC (st : Sto) (i : Nat) (y : D) : oEq (.cell i) y st = oB (eqD st (.cell i) y) st := (rfl)
@[simp] theorem ev_neC (st : Sto) (i : Nat) (y : D) : oNe (.cell i) y st = oB ((eqD st (.cell i) y).map (!·)) st := (rfl)
@[simp] theorem ev_eqL (st : Sto) (m : Mk) (ds : List D) (y : D) : oEq (.lst m ds) y st = oB (eqD st (.lst m ds) y) st := (rfl)
@[simp] theorem ev_neL (st : Sto) (m : Mk) (ds : List D) (y : D) : oNe (.lst m ds) y st = oB ((eqD st (.lst m ds) y).map (!·)) st := (rfl)
@[simp] theorem isNon_non : isNon .non = true := (rfl)
@[simp] theorem isNon_int (i : Int) : isNon (.int i) = false := (rfl)
@[simp] theorem isNon_cell (i : Nat) : isNon (.cell i) = false := (rfl)
@[simp] theorem isNon_tup (ds : List D) : isNon (.tup ds) = false := (rfl)
@[simp] theorem isNon_str (z : Str) : isNon (.str z) = false := (rfl)
@[simp] theorem isNon_bl (z : Bool) : isNon (.bl z) = false := (rfl)
@[simp] theorem ev_is (x : D) (st : Sto) : oIs x .non st = .ok (.bl (isNon x)) st := (rfl)
@[simp] theorem ev_isnot (x : D) (st : Sto) : oIsNot x .non st = .ok (.bl (!isNon x)) st := (rfl)
@[simp] theorem mPopAt_c (i : Nat) (k : Int) (st : Sto) : mPopAt (.cell i) [.int k] st = match st[i]? with
    | some (.lst es) => match ixN es.length k with
      | some j => match es[j]? with
        | some d => if fitL es.length then .ok d (st.set i (.lst (es.eraseIdx j))) else .bad
        | none => .bad
      | none => .bad
    | _ => .bad := (rfl)
theorem nocL_iff : ∀ (l : List D), nocL l = true ↔ ∀ d ∈ l, d.noc = true
  | [] => by simp
  | d :: l => by simp [nocL_iff l]
theorem plL_iff : ∀ (l : List D), plL l = true ↔ ∀ d ∈ l, d.pl = true
  | [] => by simp
  | d :: l => by simp [plL_iff l]
theorem shL_iff (n : Nat) : ∀ (l : List D), shL l n = true ↔ ∀ d ∈ l, d.sh n = true
  | [] => by simp
  | d :: l => by simp [shL_iff n l]
@[simp] theorem nocL_set (l : List D) (i : Nat) (d : D) (h : nocL l = true) (hd : d.noc = true) : nocL (l.set i d) = true := (nocL_iff _).mpr fun x hx => by
  rcases List.mem_or_eq_of_mem_set hx with q | q
  · exact (nocL_iff _).mp h x q
  · subst q; exact hd
@[simp] theorem plL_set (l : List D) (i : Nat) (d : D) (h : plL l = true) (hd : d.pl = true) : plL (l.set i d) = true := (plL_iff _).mpr fun x hx => by
  rcases List.mem_or_eq_of_mem_set hx with q | q
  · exact (plL_iff _).mp h x q
  · subst q; exact hd
@[simp] theorem shL_set (l : List D) (i n : Nat) (d : D) (h : shL l n = true) (hd : d.sh n = true) : shL (l.set i d) n = true := (shL_iff n _).mpr fun x hx => by
  rcases List.mem_or_eq_of_mem_set hx with q | q
  · exact (shL_iff n _).mp h x q
  · subst q; exact hd
@[simp] theorem nocL_erase (l : List D) (i : Nat) (h : nocL l = true) : nocL (l.eraseIdx i) = true := (nocL_iff _).mpr fun x hx => (nocL_iff _).mp h x (List.mem_of_mem_eraseIdx hx)
@[simp] theorem plL_erase (l : List D) (i : Nat) (h : plL l = true) : plL (l.eraseIdx i) = true := (plL_iff _).mpr fun x hx => (plL_iff _).mp h x (List.mem_of_mem_eraseIdx hx)
@[simp] theorem plL_appn (a b : List D) : plL (a ++ b) = (plL a && plL b) := by
  induction a with
  | nil => simp
  | cons d a ih => simp [ih, Bool.and_assoc]
@[simp] theorem okRg_nat (p : Nat) (h : p ≤ 16777216) : okRg 0 (p : Int) = true := by
  unfold okRg
  have e : ok62 (p : Int) = true := ok62_small _ (by omega) (by omega)
  have e2 : fitL ((p : Int) - 0).toNat = true := ev_fit _ (by omega)
  rw [e, e2]; rfl
@[simp] theorem takeL_nil (ok : D → Bool) (f : D → Option (D × List Nat)) : takeL ok f [] = some ([], []) := (rfl)
@[simp] theorem snapL_nil (f : D → Option D) : snapL f [] = some [] := (rfl)
end Px
namespace Px
open PySem PySem.Spec L2
theorem ofString_inj {a b : String} (h : Str.ofString a = Str.ofString b) : a = b := by
  rw [Str.ofString_eq_toList, Str.ofString_eq_toList] at h
  injection h with h
  have h := congrArg Array.toList h
  simp only at h
  have e : ∀ l m : List Char, l.map Char.toNat = m.map Char.toNat → l = m := by
    intro l
    induction l with
    | nil => intro m h; cases m with
      | nil => rfl
      | cons => cases h
    | cons c l ih => intro m h; cases m with
      | nil => cases h
      | cons d m =>
        injection h with h1 h2
        have : c = d := by
          apply Char.ext
          apply UInt32.toNat_inj.mp
          exact h1
        rw [this, ih m h2]
  exact String.toList_inj.mp (e _ _ h)
@[simp] theorem str_eq (a b : String) : (Str.ofString a = Str.ofString b) = (a = b) := propext ⟨ofString_inj, fun h => h ▸ rfl⟩
@[simp] theorem ev_mInsert (i : Nat) (k : Int) (y : D) (st : Sto) : mInsert (.cell i) [.int k, y] st = match st[i]? with
    | some (.lst es) => if decide (es.length < 16777216) && decide (0 ≤ k) && absLe k 4611686018427387903 then .ok .non (st.set i (.lst (es.take k.toNat ++ [y] ++ es.drop k.toNat))) else .bad
    | _ => .bad := (rfl)
@[simp] theorem nocL_qs (qs : List Nat) : nocL (qs.map fun q : Nat => D.int (q : Int)) = true := nocL_map _ _ fun _ _ => by simp
@[simp] theorem plL_qs (qs : List Nat) : plL (qs.map fun q : Nat => D.int (q : Int)) = true := plL_map _ _ fun _ _ => by simp
@[simp] theorem ev_intB (b : Bool) (st : Sto) : bInt [.bl b] st = .ok (.int (if b then 1 else 0)) st := by cases b <;> rfl
@[simp] theorem ev_mExtend (i : Nat) (d : D) (st : Sto) : mExtend (.cell i) [d] st = match st[i]?, lstOf st d with
    | some (.lst es), some fs => if fitL (es.length + fs.length) then .ok .non (st.set i (.lst (es ++ fs))) else .bad
    | _, _ => .bad := (rfl)
theorem floop_nx {src : List (Nat × List D)} {t : XG} {b : XS} {d : D} {ds : List D} {en en' : En} {st st' : Sto} (ho : okSrc src st = true) (h : stp t b d en st = .ok (.nx, en') st') : floop src t b (d :: ds) en st = floop src t b ds en' st' := by rw [floop_cons, if_pos ho, h]
end Px
namespace Px
open PySem PySem.Spec L2
section
variable {G : GS} {W : WX} {X : Cx}
def deepIn (st : Sto) (x y : D) : Option Bool := match y with
  | .tup ds => match (snap st 8 x).bind pyD, (snap st 8 (.tup ds)).bind pyD with
    | some p, some (.tuple qs) => if SeqAt.shaped p && SeqAt.shaped (.tuple qs) then some (qs.any fun z => PyData.eqv z p) else none
    | _, _ => none
  | y => match (snap st 8 x).bind pyD, (snap st 8 y).bind pyD with
    | some p, some (.list qs) => if SeqAt.shaped p && SeqAt.shaped (.list qs) then some (qs.any fun z => PyData.eqv z p) else none
    | _, _ => none
def oInT : Op2 := fun x y st => oB (deepIn st x y) st
def oNotInT : Op2 := fun x y st => oB ((deepIn st x y).map (!·)) st
def anyT (x : D) : List D → Bool
  | [] => false
  | d :: ds => D.eqT d x || anyT x ds
theorem any_eqv {x : D} {p : PyData} (hx : pyD x = some p) : ∀ (ds : List D) (qs : List PyData), pyL ds = some qs → (qs.any fun z => PyData.eqv z p) = anyT x ds
  | [], qs, h => by cases h; rfl
  | d :: ds, qs, h => by
    simp only [pyL] at h
    split at h
    · rename_i a b e1 e2
      cases h
      simp [anyT, eqT_eqv d x a p e1 hx, any_eqv hx ds b e2]
    · cases h
theorem ev_deepT {st : Sto} {x : D} {ds : List D} (hx : x.noc = true) (hy : nocL ds = true) (sx : x.sh 64 = true) (sy : shL ds 63 = true) : deepIn st x (.tup ds) = some (anyT x ds) := by
  obtain ⟨p, e1, c1, l1⟩ := sh_py x 64 sx
  obtain ⟨qs, e2, c2, l2⟩ := shL_py ds 63 sy
  have h1 : SeqAt.shaped p = true := by simp [SeqAt.shaped, c1, l1]
  have h2 : SeqAt.shaped (.tuple qs) = true := by simp [SeqAt.shaped, PyData.canLay0, PyData.depth, c2]; omega
  unfold deepIn
  simp only [snap_id hx, snap_id (show D.noc (.tup ds) = true by simpa [D.noc] using hy), Option.bind_some, e1, pyD, e2, Option.map_some, h1, h2, Bool.and_self, if_true, any_eqv e1 ds qs e2]
theorem ev_deepL {st : Sto} {x : D} {m : Mk} {ds : List D} (hm : m ≠ .own) (hx : x.noc = true) (hy : nocL ds = true) (sx : x.sh 64 = true) (sy : shL ds 63 = true) : deepIn st x (.lst m ds) = some (anyT x ds) := by
  obtain ⟨p, e1, c1, l1⟩ := sh_py x 64 sx
  obtain ⟨qs, e2, c2, l2⟩ := shL_py ds 63 sy
  have h1 : SeqAt.shaped p = true := by simp [SeqAt.shaped, c1, l1]
  have h2 : SeqAt.shaped (.list qs) = true := by simp [SeqAt.shaped, PyData.canLay0, PyData.depth, c2]; omega
  have hn : D.noc (.lst m ds) = true := by simp [D.noc, hm, hy]
  unfold deepIn
  simp only [snap_id hx, snap_id hn, Option.bind_some, e1, pyD, e2, Option.map_some, h1, h2, Bool.and_self, if_true, any_eqv e1 ds qs e2, hm, if_false]
@[simp] theorem ev_inTt (x : D) (ds : List D) (st : Sto) (hx : x.noc = true) (hy : nocL ds = true) (sx : x.sh 64 = true) (sy : shL ds 63 = true) : oInT x (.tup ds) st = .ok (.bl (anyT x ds)) st := by unfold oInT; rw [ev_deepT hx hy sx sy]; rfl
@[simp] theorem ev_ninTt (x : D) (ds : List D) (st : Sto) (hx : x.noc = true) (hy : nocL ds = true) (sx : x.sh 64 = true) (sy : shL ds 63 = true) : oNotInT x (.tup ds) st = .ok (.bl !(anyT x ds)) st := by unfold oNotInT; rw [ev_deepT hx hy sx sy]; rfl
@[simp] theorem ev_inTl (x : D) (m : Mk) (ds : List D) (st : Sto) (hm : m ≠ .own) (hx : x.noc = true) (hy : nocL ds = true) (sx : x.sh 64 = true) (sy : shL ds 63 = true) : oInT x (.lst m ds) st = .ok (.bl (anyT x ds)) st := by unfold oInT; rw [ev_deepL hm hx hy sx sy]; rfl
@[simp] theorem ev_ninTl (x : D) (m : Mk) (ds : List D) (st : Sto) (hm : m ≠ .own) (hx : x.noc = true) (hy : nocL ds = true) (sx : x.sh 64 = true) (sy : shL ds 63 = true) : oNotInT x (.lst m ds) st = .ok (.bl !(anyT x ds)) st := by unfold oNotInT; rw [ev_deepL hm hx hy sx sy]; rfl
@[simp] theorem anyT_nil (x : D) : anyT x [] = false := (rfl)
@[simp] theorem anyT_cons (x d : D) (ds : List D) : anyT x (d :: ds) = (D.eqT d x || anyT x ds) := (rfl)
end
end Px
namespace Px
open PySem PySem.Spec L2
mutual
def D.dp : D → Nat
  | .tup ds => dpL ds + 1
  | .lst _ ds => dpL ds + 1
  | .dk _ _ ds => dpL ds + 1
  | .dt _ _ ds => dpL ds + 1
  | .obj _ _ ds => dpL ds + 1
  | _ => 0
def dpL : List D → Nat
  | [] => 0
  | d :: ds => max d.dp (dpL ds)
end
theorem take_congr {ok : D → Bool} {st st' : Sto} : ∀ (n : Nat) (d t : D) (js : List Nat), take ok st n d = some (t, js) → (∀ j ∈ js, st'[j]? = st[j]?) → take ok st' n d = some (t, js) := by
  have hm : ∀ (n : Nat), (∀ (d t : D) (js : List Nat), take ok st n d = some (t, js) → (∀ j ∈ js, st'[j]? = st[j]?) → take ok st' n d = some (t, js)) →
      ∀ (ds ts : List D) (js : List Nat), takeL ok (take ok st n) ds = some (ts, js) → (∀ j ∈ js, st'[j]? = st[j]?) → takeL ok (take ok st' n) ds = some (ts, js) := by
    intro n ih ds ts js h hj
    unfold takeL at h ⊢
    split at h
    · rename_i c; rw [if_pos c]; exact h
    · rename_i c
      rw [if_neg c]
      clear c
      induction ds generalizing ts js with
      | nil => exact h
      | cons d ds ih2 =>
        simp only [mapO] at h ⊢
        cases e1 : take ok st n d with
        | none => rw [e1] at h; cases h
        | some p =>
          cases e2 : mapO (take ok st n) ds with
          | none => rw [e1, e2] at h; cases h
          | some q =>
            rw [e1, e2] at h
            simp only [Option.some.injEq, Prod.mk.injEq] at h
            obtain ⟨h1, h2⟩ := h
            subst h1 h2
            rw [ih d p.1 p.2 e1 (fun j hj' => hj j (List.mem_append_left _ hj')), ih2 q.1 q.2 (fun j hj' => hj j (List.mem_append_right _ hj')) e2]
  intro n
  induction n with
  | zero => intro d t js h hj; exact h
  | succ n ih =>
    intro d t js h hj
    unfold take at h ⊢
    split at h
    · rename_i c; rw [if_pos c]; exact h
    · rename_i c
      rw [if_neg c]
      cases d with
      | tup ds =>
        simp only [Option.map_eq_some_iff] at h ⊢
        obtain ⟨p, h1, h2⟩ := h
        obtain ⟨h2, h3⟩ := Prod.mk.inj h2
        subst h2 h3
        exact ⟨p, hm n ih _ p.1 p.2 h1 hj, rfl⟩
      | cell i =>
        have hi : i ∈ js → st'[i]? = st[i]? := fun z => hj i z
        have key : ∀ (mk : List D → D) (ds : List D), (takeL ok (take ok st n) ds).map (fun p => (mk p.1, p.2 ++ [i])) = some (t, js) → st'[i]? = st[i]? ∧ (takeL ok (take ok st' n) ds).map (fun p => (mk p.1, p.2 ++ [i])) = some (t, js) := by
          intro mk ds h
          simp only [Option.map_eq_some_iff] at h ⊢
          obtain ⟨p, h1, h2⟩ := h
          obtain ⟨h2, h3⟩ := Prod.mk.inj h2
          subst h2 h3
          exact ⟨hj i (by simp), p, hm n ih _ p.1 p.2 h1 (fun j z => hj j (List.mem_append_left _ z)), rfl⟩
        simp only at h ⊢
        split at h
        · rename_i ds e; obtain ⟨k1, k2⟩ := key (.lst .own) ds h; rw [k1, e]; exact k2
        · rename_i ks ds e; obtain ⟨k1, k2⟩ := key (.dk .own ks) ds h; rw [k1, e]; exact k2
        · rename_i ks ds e; obtain ⟨k1, k2⟩ := key (.dt .own ks) ds h; rw [k1, e]; exact k2
        · rename_i ks ds e; obtain ⟨k1, k2⟩ := key (.obj .own ks) ds h; rw [k1, e]; exact k2
        · cases h
      | _ => cases h
def LaidAt (st : Sto) (n : Nat) (cs : List Cell) : Prop := ∀ i (h : i < cs.length), st[n + i]? = some cs[i]
theorem LaidAt.left {st : Sto} {n : Nat} {a b : List Cell} (h : LaidAt st n (a ++ b)) : LaidAt st n a := fun i hi => by
  have := h i (by rw [List.length_append]; omega)
  rw [List.getElem_append_left hi] at this; exact this
theorem LaidAt.right {st : Sto} {n : Nat} {a b : List Cell} (h : LaidAt st n (a ++ b)) : LaidAt st (n + a.length) b := fun i hi => by
  have := h (a.length + i) (by rw [List.length_append]; omega)
  rw [List.getElem_append_right (by omega)] at this
  rw [Nat.add_assoc, this]; congr 2; omega
def Own (st : Sto) (K : List Nat) (c : Nat) (t : D) : Prop := ∃ js, take D.noc st 20 (.cell c) = some (t, js) ∧ js.Nodup ∧ ∀ j ∈ js, j < st.length ∧ j ∉ K
theorem Own.sub {st : Sto} {K K' : List Nat} {c : Nat} {t : D} (h : Own st K c t) (s : ∀ k ∈ K', k ∈ K) : Own st K' c t := by
  obtain ⟨js, h1, h2, h3⟩ := h
  exact ⟨js, h1, h2, fun j hj => ⟨(h3 j hj).1, fun z => (h3 j hj).2 (s j z)⟩⟩
theorem take_noc {st : Sto} : ∀ (n : Nat) (d t : D) (js : List Nat), take D.noc st n d = some (t, js) → t.noc = true → d = t := by
  intro n
  induction n with
  | zero =>
    intro d t js h _
    unfold take at h
    split at h
    · cases h; rfl
    · cases h
  | succ n ih =>
    intro d t js h ht
    unfold take at h
    split at h
    · cases h; rfl
    · rename_i c
      cases d with
      | tup ds =>
        simp only [Option.map_eq_some_iff] at h
        obtain ⟨p, h1, h2⟩ := h
        obtain ⟨h2, h3⟩ := Prod.mk.inj h2
        subst h2
        unfold takeL at h1
        split at h1
        · cases h1; rfl
        · have g : ∀ (ds : List D) (q : List D × List Nat), mapO (take D.noc st n) ds = some q → nocL q.1 = true → ds = q.1 := by
            intro ds
            induction ds with
            | nil => intro q e _; cases e; rfl
            | cons d ds ih2 =>
              intro q e hq
              simp only [mapO] at e
              cases e1 : take D.noc st n d with
              | none => rw [e1] at e; cases e
              | some a =>
                cases e2 : mapO (take D.noc st n) ds with
                | none => rw [e1, e2] at e; cases e
                | some b =>
                  rw [e1, e2] at e
                  cases e
                  simp only [nocL, Bool.and_eq_true] at hq
                  rw [ih d a.1 a.2 e1 hq.1, ih2 b e2 hq.2]
          rw [g ds p h1 (by simpa [D.noc] using ht)]
      | cell i =>
        simp only at h
        split at h
        all_goals first
          | cases h
          | (simp only [Option.map_eq_some_iff] at h
             obtain ⟨p, h1, h2⟩ := h
             obtain ⟨h2, h3⟩ := Prod.mk.inj h2
             subst h2
             simp [D.noc] at ht)
      | _ => cases h
theorem mapO_get {st : Sto} {n : Nat} : ∀ (gs fs : List D) (js : List Nat), mapO (take D.noc st n) gs = some (fs, js) → gs.length = fs.length ∧ ∀ (i : Nat) (d : D), fs[i]? = some d → d.noc = true → gs[i]? = some d
  | [], fs, js, h => by cases h; exact ⟨rfl, fun i d e => by simp at e⟩
  | g :: gs, fs, js, h => by
    simp only [mapO] at h
    cases e1 : take D.noc st n g with
    | none => rw [e1] at h; cases h
    | some a =>
      cases e2 : mapO (take D.noc st n) gs with
      | none => rw [e1, e2] at h; cases h
      | some b =>
        rw [e1, e2] at h
        cases h
        obtain ⟨l, q⟩ := mapO_get gs b.1 b.2 e2
        refine ⟨by simp [l], fun i d e hd => ?_⟩
        cases i with
        | zero => simp at e; subst e; simp [take_noc n g a.1 a.2 e1 hd]
        | succ i => simp at e ⊢; exact q i d e hd
theorem Own.obj {st : Sto} {K : List Nat} {c k : Nat} {fs : List D} (h : Own st K c (.obj .own k fs)) : ∃ gs, st[c]? = some (.obj k gs) ∧ gs.length = fs.length ∧ ∀ (i : Nat) (d : D), fs[i]? = some d → d.noc = true → gs[i]? = some d := by
  obtain ⟨js, h1, h2, h3⟩ := h
  rw [take_cellS _ _ _ _ (by simp [D.noc])] at h1
  split at h1
  · simp at h1
  · simp at h1
  · simp at h1
  · rename_i k' gs e
    simp only [Option.map_eq_some_iff] at h1
    obtain ⟨p, h4, h5⟩ := h1
    obtain ⟨h5, h6⟩ := Prod.mk.inj h5
    injection h5 with _ hk hf
    subst hk hf
    refine ⟨gs, e, ?_⟩
    unfold takeL at h4
    split at h4
    · cases h4; exact ⟨rfl, fun i d e _ => e⟩
    · exact mapO_get gs p.1 p.2 h4
  · cases h1
theorem Own.lst {st : Sto} {K : List Nat} {c : Nat} {ds : List D} (h : Own st K c (.lst .own ds)) (hn : nocL ds = true) : st[c]? = some (.lst ds) := by
  obtain ⟨js, h1, h2, h3⟩ := h
  rw [take_cellS _ _ _ _ (by simp [D.noc])] at h1
  split at h1
  · rename_i gs e
    simp only [Option.map_eq_some_iff] at h1
    obtain ⟨p, h4, h5⟩ := h1
    obtain ⟨h5, h6⟩ := Prod.mk.inj h5
    injection h5 with _ hf
    subst hf
    rw [e]
    unfold takeL at h4
    split at h4
    · cases h4; rfl
    · obtain ⟨l, q⟩ := mapO_get gs p.1 p.2 h4
      congr 2
      apply List.ext_getElem?
      intro i
      by_cases hi : i < p.1.length
      · have e1 : p.1[i]? = some p.1[i] := List.getElem?_eq_getElem hi
        rw [e1]
        exact q i _ e1 ((nocL_iff _).mp hn _ (List.getElem_mem hi))
      · rw [List.getElem?_eq_none (by omega), List.getElem?_eq_none (by omega)]
  · simp at h1
  · simp at h1
  · simp at h1
  · cases h1
theorem Own.keep {st st' : Sto} {K : List Nat} {c : Nat} {t : D} (h : Own st K c t) (hk : ∀ k, k < st.length → st'[k]? = st[k]?) : Own st' K c t := by
  obtain ⟨js, h1, h2, h3⟩ := h
  refine ⟨js, take_congr 20 _ _ _ h1 (fun j hj => hk j (h3 j hj).1), h2, fun j hj => ⟨?_, (h3 j hj).2⟩⟩
  have e := hk j (h3 j hj).1
  rw [List.getElem?_eq_getElem (h3 j hj).1] at e
  exact (List.getElem?_eq_some_iff.mp e).1
end Px
namespace Px
open PySem PySem.Spec L2 PyProof.Rows
section
variable {X : Cx}
variable {G : GS} {W : WX}
def kInts : List Key → Option (List Int)
  | [] => some []
  | .inl i :: ks => (kInts ks).map (i :: ·)
  | .inr _ :: _ => none
def bSortedd : XF := fun ds st => match ds with
  | [d] => match dictOf st d with
    | some p => match kInts p.1 with
      | some ms => if fitL ms.length then .ok (.cell st.length) (st ++ [.lst ((srt ms).map D.int)]) else .bad
      | none => .bad
    | none => bSorted [d] st
  | _ => .bad
@[simp] theorem ev_sortedd (d : D) (st : Sto) : bSortedd [d] st = match dictOf st d with
    | some p => match kInts p.1 with
      | some ms => if fitL ms.length then .ok (.cell st.length) (st ++ [.lst ((srt ms).map D.int)]) else .bad
      | none => .bad
    | none => bSorted [d] st := (rfl)
end
end Px
namespace Px
open PySem PySem.Spec L2
variable {G : GS} {W : WX} {X : Cx}
def izipM (c : XA) : XI := fun en st => (c en st).bind fun ds st => match ds with
  | [.tup a, d] => match lsrc st d with
    | some y => .ok ⟨zipL a y.its, y.src⟩ st
    | none => .bad
  | _ => .bad
@[simp] theorem ev_zipM (c : XA) (en : En) (st : Sto) : izipM c en st = (c en st).bind fun ds st => match ds with
  | [.tup a, d] => (match lsrc st d with
    | some y => .ok ⟨zipL a y.its, y.src⟩ st
    | none => .bad)
  | _ => .bad := (rfl)
end Px
namespace Px
open PySem PySem.Spec L2 PyProof.Rows
section
variable {X : Cx}
variable {G : GS} {W : WX}
def maxD (k : Int) (ns : List Int) : Int := if ns.isEmpty then k else maxL ns
def xmaxd (c : XA) (k : XE) : XE := fun en st => (c en st).bind fun ds st => (k en st).bind fun z st => match ds, z with
  | [d], .int z => match (seqOf st d).bind intsOf with
    | some ns => .ok (.int (maxD z ns)) st
    | none => .bad
  | _, _ => .bad
def bSum : XF := fun ds st => match ds with
  | [d] => match (seqOf st d).bind intsOf with
    | some ns => .ok (.int ns.sum) st
    | none => .bad
  | _ => .bad
def sdelL (a b : XE) : XS := fun en st => (a en st).bind fun x st => (b en st).bind fun y st => match x, y with
  | .cell i, .int k => match st[i]? with
    | some (.lst ds) => if ok62 k then match seqIndex? k ds.length with
      | some j => .ok (.nx, en) (st.set i (.lst (ds.eraseIdx j)))
      | none => .bad
      else .bad
    | _ => .bad
  | _, _ => .bad
end
end Px
namespace Px
open PySem PySem.Spec L2 PyProof.Rows
section
variable {prog : Program} {w : World} {A : Around} {E : Value → Shared → Prop} {s : Shared}
end
section
variable {X : Cx}
variable {G : GS} {W : WX}
def xlrev (a : XE) : XE := fun en st => (a en st).bind fun x st => match seqOf st x with
  | some ds => .ok (.cell st.length) (st ++ [.lst ds.reverse])
  | none => .bad
def xlvals (a : XE) : XE := fun en st => (a en st).bind fun x st => match dictOf st x with
  | some p => .ok (.cell st.length) (st ++ [.lst p.2])
  | none => .bad
end
section
variable (en : En) (st : Sto)
@[simp] theorem ev_maxd (c : XA) (k : XE) : xmaxd c k en st = (c en st).bind fun ds st => (k en st).bind fun z st => match ds, z with
  | [d], .int z => match (seqOf st d).bind intsOf with
    | some ns => .ok (.int (maxD z ns)) st
    | none => .bad
  | _, _ => .bad := (rfl)
@[simp] theorem ev_sum (d : D) : bSum [d] st = match (seqOf st d).bind intsOf with
    | some ns => .ok (.int ns.sum) st
    | none => .bad := (rfl)
@[simp] theorem ev_sdelL (a b : XE) : sdelL a b en st = (a en st).bind fun x st => (b en st).bind fun y st => match x, y with
  | .cell i, .int k => match st[i]? with
    | some (.lst ds) => if ok62 k then match seqIndex? k ds.length with
      | some j => .ok (.nx, en) (st.set i (.lst (ds.eraseIdx j)))
      | none => .bad
      else .bad
    | _ => .bad
  | _, _ => .bad := (rfl)
@[simp] theorem ev_lrev (a : XE) : xlrev a en st = (a en st).bind fun x st => match seqOf st x with
  | some ds => .ok (.cell st.length) (st ++ [.lst ds.reverse])
  | none => .bad := (rfl)
@[simp] theorem ev_lvals (a : XE) : xlvals a en st = (a en st).bind fun x st => match dictOf st x with
  | some p => .ok (.cell st.length) (st ++ [.lst p.2])
  | none => .bad := (rfl)
end
@[simp] theorem ev_max1c (i : Nat) (st : Sto) : bMax1 [.cell i] st = match (seqOf st (.cell i)).bind intsOf with
    | some ns => if ns.isEmpty then .bad else .ok (.int (maxL ns)) st
    | none => .bad := (rfl)
@[simp] theorem ev_min1c (i : Nat) (st : Sto) : bMin1 [.cell i] st = match (seqOf st (.cell i)).bind intsOf with
    | some ns => if ns.isEmpty then .bad else .ok (.int (minL ns)) st
    | none => .bad := (rfl)
end Px
namespace Px
open PySem PySem.Spec L2
abbrev KT := List Key
def keysT : List D → Option KT
  | [] => some []
  | d :: ds => match keyOf d, keysT ds with
    | some k, some ks => some (k :: ks)
    | _, _ => none
def trep : List KT → List D → KT → D → List D
  | j :: ks, u :: us, k, d => (if j = k then d else u) :: trep ks us k d
  | _, us, _, _ => us
def thas : List KT → KT → Bool
  | [], _ => false
  | j :: ks, k => decide (j = k) || thas ks k
def tput' (ks : List KT) (us : List D) (k : KT) (d : D) : List KT × List D := if thas ks k then (ks, trep ks us k d) else (ks ++ [k], us ++ [d])
section
variable {G : GS} {g : Gh}
end
def dictT (st : Sto) : D → Option (List KT × List D)
  | .cell i => match st[i]? with
    | some (.dt ks us) => some (ks, us)
    | _ => none
  | .dt m ks us => if m = .frz ∨ m = .loan then some (ks, us) else none
  | _ => none
section
variable {G : GS} {W : WX} {X : Cx}
def xtnew : XE := fun _ st => .ok (.cell st.length) (st ++ [.dt [] []])
def xinD (b : Bool) (c : XA) (d : XE) : XE := fun en st => (c en st).bind fun ks st => if fitL ks.length then (d en st).bind fun y st => match dictT st y, keysT ks with
    | some p, some k => .ok (.bl (b == thas p.1 k)) st
    | _, _ => .bad
  else .bad
def gsubT (a : XE) (c : XA) : XG := fun z en st => (a en st).bind fun x st => (c en st).bind fun ds st => if fitL ds.length then match x with
    | .cell i => match st[i]? with
      | some (.dt ks us) => match keysT ds with
        | some k => if fitL (ks.length + 1) then .ok en (st.set i (.dt (tput' ks us k z).1 (tput' ks us k z).2)) else .bad
        | none => .bad
      | _ => .bad
    | _ => .bad
  else .bad
variable (en : En) (st : Sto)
@[simp] theorem ev_tnew : xtnew en st = .ok (.cell st.length) (st ++ [.dt [] []]) := (rfl)
@[simp] theorem ev_inD (b : Bool) (c : XA) (d : XE) : xinD b c d en st = (c en st).bind fun ks st => if fitL ks.length then (d en st).bind fun y st => match dictT st y, keysT ks with
    | some p, some k => .ok (.bl (b == thas p.1 k)) st
    | _, _ => .bad
  else .bad := (rfl)
@[simp] theorem ev_gsubT (a : XE) (c : XA) (z : D) : gsubT a c z en st = (a en st).bind fun x st => (c en st).bind fun ds st => if fitL ds.length then match x with
    | .cell i => match st[i]? with
      | some (.dt ks us) => match keysT ds with
        | some k => if fitL (ks.length + 1) then .ok en (st.set i (.dt (tput' ks us k z).1 (tput' ks us k z).2)) else .bad
        | none => .bad
      | _ => .bad
    | _ => .bad
  else .bad := (rfl)
@[simp] theorem keysT_nil : keysT [] = some [] := (rfl)
@[simp] theorem keysT_int (i : Int) (ds : List D) : keysT (.int i :: ds) = (keysT ds).map (Sum.inl i :: ·) := by
  simp only [keysT, keyOf]
  cases keysT ds <;> rfl
@[simp] theorem dictT_cell (i : Nat) : dictT st (.cell i) = match st[i]? with
    | some (.dt ks us) => some (ks, us)
    | _ => none := (rfl)
@[simp] theorem dictT_frz (ks : List KT) (us : List D) : dictT st (.dt .frz ks us) = some (ks, us) := (rfl)
@[simp] theorem dictT_loan (ks : List KT) (us : List D) : dictT st (.dt .loan ks us) = some (ks, us) := (rfl)
end
end Px
namespace Px
open PySem PySem.Spec L2
def frame (nl : Nat) (ds : List D) : En := ds.map some ++ List.replicate nl none
section
variable {G : GS} {g : Gh} {en : En} {st : Sto} {σ : L2.St} {H : Hp}
theorem Rel.bare (R : Rel G g en st σ H) : Rel G g [] st [] H := ⟨R.sF, R.sL, rfl, fun i d e => by simp at e, R.cell, R.len, R.inj, R.nd⟩
theorem Rel.frame (R : Rel G g en st σ H) {ds : List D} {vs : List V} (r : RepL G g ds vs) (nl : Nat) : Rel G g (Px.frame nl ds) st (vs.map some ++ List.replicate nl none) H := by
  unfold Px.frame
  refine ⟨R.sF, R.sL, by simp [r.length], fun i d e => ?_, R.cell, R.len, R.inj, R.nd⟩
  by_cases hi : i < ds.length
  · rw [List.getElem?_append_left (by simpa using hi), List.getElem?_map] at e
    obtain ⟨d', hd, e'⟩ := Option.map_eq_some_iff.mp e
    cases e'
    obtain ⟨v, hv, rv⟩ := r.get hd
    exact ⟨v, by rw [List.getElem?_append_left (by simp; rw [← r.length]; exact hi), List.getElem?_map, hv]; rfl, rv⟩
  · rw [List.getElem?_append_right (by simpa using hi)] at e
    have := List.mem_of_getElem? e
    simp at this
end
section
variable {P : Program} {w : World} {mg : Str → Option Value} {base : Heap}
end
def runS (np nl : Nat) (body : XS) (ds : List D) (en : En) (st : Sto) : R D := if ds.length = np then match body (frame nl ds) st with
    | .ok (.rt d, _) st' => .ok d st'
    | .ok (.nx, _) st' => .ok .non st'
    | .exc c xs _ st' => .exc c xs en st'
    | _ => .bad
  else .bad
section
variable {G : GS} {W : WX} {X : Cx}
def xcallS (np nl : Nat) (body : XS) (c : XA) : XE := fun en st => (c en st).bind fun ds st => runS np nl body ds en st
def xmcallS (c np nl : Nat) (body : XS) (o : XE) (a : XA) : XE := fun en st => (o en st).bind fun x st => if clsOf (objOf st x) = some c then (a en st).bind fun ds st => runS np nl body (x :: ds) en st else .bad
def xmcallS0 (c np nl : Nat) (body : XS) (o : XE) : XE := fun en st => (o en st).bind fun x st => if clsOf (objOf st x) = some c then runS np nl body [x] en st else .bad
variable (en : En) (st : Sto)
@[simp] theorem ev_callS (np nl : Nat) (body : XS) (c : XA) : xcallS np nl body c en st = (c en st).bind fun ds st => runS np nl body ds en st := (rfl)
@[simp] theorem ev_mcallS (c np nl : Nat) (body : XS) (o : XE) (a : XA) : xmcallS c np nl body o a en st = (o en st).bind fun x st => if clsOf (objOf st x) = some c then (a en st).bind fun ds st => runS np nl body (x :: ds) en st else .bad := (rfl)
@[simp] theorem ev_mcallS0 (c np nl : Nat) (body : XS) (o : XE) : xmcallS0 c np nl body o en st = (o en st).bind fun x st => if clsOf (objOf st x) = some c then runS np nl body [x] en st else .bad := (rfl)
end
end Px
namespace Px
open PySem PySem.Spec L2
section
variable {X : Cx}
end
section
variable {G : GS} {W : WX} {X : Cx}
def ikeysL (c : XE) : XI := fun en st => (c en st).bind fun d st => match d with
  | .dk .frz ks _ => .ok ⟨ks.map keyD, []⟩ st
  | .dk .loan ks _ => .ok ⟨ks.map keyD, []⟩ st
  | _ => .bad
@[simp] theorem ev_keysL (c : XE) (en : En) (st : Sto) : ikeysL c en st = (c en st).bind fun d st => match d with
  | .dk .frz ks _ => .ok ⟨ks.map keyD, []⟩ st
  | .dk .loan ks _ => .ok ⟨ks.map keyD, []⟩ st
  | _ => .bad := (rfl)
end
end Px
namespace Px
open PySem PySem.Spec L2
section
variable {G : GS} {W : WX} {X : Cx} {i : Nat} {a : Addr}
end
end Px
namespace Px
open PySem PySem.Spec L2
section
variable {G : GS} {W : WX} {X : Cx}
end
end Px
namespace Px
open PySem PySem.Spec L2
def cloop2 (own own1 : List Nat) (k : Nat) (src : List (Nat × List D)) (t : XG) (c : XT) (i1 : XI) (t1 : XG) (c1 : XT) (e : XE) (en : En) : List D → Sto → R Unit
  | [], st => if okSrc src st then .ok () st else .bad
  | d :: ds, st => if okSrc src st then (t d (wipeE en own) st).bind fun en1 st => (c en1 st).bind fun b st => if b then (i1 en1 st).bind fun it1 st => (cloop own1 k it1.src t1 c1 e en1 it1.its st).bind fun _ st => cloop2 own own1 k src t c i1 t1 c1 e en ds st
      else cloop2 own own1 k src t c i1 t1 c1 e en ds st
    else .bad
def xlc2 (own own1 : List Nat) (i : XI) (t : XG) (c : XT) (i1 : XI) (t1 : XG) (c1 : XT) (e : XE) : XE := fun en st => (i en st).bind fun it st => R.quiet ((cloop2 own own1 st.length it.src t c i1 t1 c1 e en it.its (st ++ [.lst []])).bind fun _ st' => .ok (.cell st.length) st') en
section
variable {G : GS} {W : WX} {X : Cx}
end
variable (en : En) (st : Sto)
@[simp] theorem ev_lc2 (own own1 : List Nat) (i : XI) (t : XG) (c : XT) (i1 : XI) (t1 : XG) (c1 : XT) (e : XE) : xlc2 own own1 i t c i1 t1 c1 e en st = (i en st).bind fun it st => R.quiet ((cloop2 own own1 st.length it.src t c i1 t1 c1 e en it.its (st ++ [.lst []])).bind fun _ st' => .ok (.cell st.length) st') en := (rfl)
@[simp] theorem ev_cloop20 (own own1 : List Nat) (k : Nat) (src : List (Nat × List D)) (t : XG) (c : XT) (i1 : XI) (t1 : XG) (c1 : XT) (e : XE) : cloop2 own own1 k src t c i1 t1 c1 e en [] st = if okSrc src st then .ok () st else .bad := (rfl)
end Px
namespace Px
open PySem PySem.Spec L2
variable {G : GS} {W : WX} {X : Cx} {g g' : Gh} {en : En} {st : Sto} {σ : L2.St} {H : Hp}
def sfrzT (j k : Nat) (b : XS) : XS := fun en st => match en[j]? with
  | some (some (.tup ds)) => match ds[k]? with
    | some (.cell i) => match st[i]? with
      | some (.dk ks us) => b (en.set j (some (.tup (ds.set k (.dk .frz ks us))))) (st.set i .gone)
      | _ => b en st
    | _ => b en st
  | _ => b en st
@[simp] theorem ev_sfrzT (j k : Nat) (b : XS) (en : En) (st : Sto) : sfrzT j k b en st = match en[j]? with
  | some (some (.tup ds)) => match ds[k]? with
    | some (.cell i) => match st[i]? with
      | some (.dk ks us) => b (en.set j (some (.tup (ds.set k (.dk .frz ks us))))) (st.set i .gone)
      | _ => b en st
    | _ => b en st
  | _ => b en st := (rfl)
end Px
namespace Px
open PySem PySem.Spec L2 PyProof.Rows
def dcnt : List Int → Nat
  | [] => 0
  | x :: xs => if x ∈ xs then dcnt xs else dcnt xs + 1
section
variable {X : Cx}
variable {G : GS} {W : WX}
def xlens (c : XE) : XE := fun en st => (c en st).bind fun d st => match d with
  | .tup ds => match intsOf ds with
    | some ns => if decide (ns.length ≤ 1000) then .ok (.int (dcnt ns : Nat)) st else .bad
    | none => .bad
  | _ => .bad
def bMinT : XF := fun ds st => match ds with
  | [.tup es] => match intsOf es with
    | some ns => if ns.isEmpty then .bad else .ok (.int (minL ns)) st
    | none => .bad
  | _ => .bad
end
@[simp] theorem ev_lens (c : XE) (en : En) (st : Sto) : xlens c en st = (c en st).bind fun d st => match d with
  | .tup ds => match intsOf ds with
    | some ns => if decide (ns.length ≤ 1000) then .ok (.int (dcnt ns : Nat)) st else .bad
    | none => .bad
  | _ => .bad := (rfl)
@[simp] theorem ev_minT (es : List D) (st : Sto) : bMinT [.tup es] st = match intsOf es with
    | some ns => if ns.isEmpty then .bad else .ok (.int (minL ns)) st
    | none => .bad := (rfl)
end Px
namespace Px
open PySem PySem.Spec L2 PyProof.Rows
abbrev TR := Int × (Int × Int)
def trD (p : TR) : D := .tup [.int p.1, .tup [.int p.2.1, .int p.2.2]]
def trOf : D → Option TR
  | .tup [.int t, .tup [.int a, .int b]] => some (t, (a, b))
  | _ => none
def trsOf : List D → Option (List TR)
  | [] => some []
  | d :: ds => (trOf d).bind fun p => (trsOf ds).map (p :: ·)
def minF : TR → List TR → TR
  | x, [] => x
  | x, y :: ys => minF (if PySem.W.DatumOrd.lt y x = true then y else x) ys
def minT : List TR → TR
  | [] => (0, (0, 0))
  | x :: xs => minF x xs
theorem DpAll.get {K : PySem.W.Frag} {H : Hp} : ∀ {vs : List V} {ds : List PyData} {i : Nat} {v : V}, DpAll K H vs ds → vs[i]? = some v → ∃ d, ds[i]? = some d ∧ Dp K H v d
  | _, _, 0, v, .cons h _, e => by cases e; exact ⟨_, rfl, h⟩
  | _, _, i + 1, v, .cons _ h, e => DpAll.get (i := i) h e
  | _, _, i, v, .nil, e => by cases e
theorem DpAll.len {K : PySem.W.Frag} {H : Hp} : ∀ {vs : List V} {ds : List PyData}, DpAll K H vs ds → vs.length = ds.length
  | _, _, .nil => rfl
  | _, _, .cons _ h => congrArg (· + 1) (DpAll.len h)
section
variable {X : Cx}
variable {G : GS} {W : WX}
def bMin3 : XF := fun ds st => match ds with
  | [d] => match (seqOf st d).bind trsOf with
    | some ps => if ps.isEmpty then .bad else .ok (trD (minT ps)) st
    | none => .bad
  | _ => .bad
end
@[simp] theorem ev_min3 (d : D) (st : Sto) : bMin3 [d] st = match (seqOf st d).bind trsOf with
    | some ps => if ps.isEmpty then .bad else .ok (trD (minT ps)) st
    | none => .bad := (rfl)
end Px
namespace Px
open PySem PySem.Spec L2 PyProof.Rows
abbrev PR := Int × Int
def prQ (p : PR) : D := .tup [.int p.1, .int p.2]
def lexLe (p q : PR) : Bool := decide (p.1 < q.1 ∨ (p.1 = q.1 ∧ p.2 ≤ q.2))
def srtP (ps : List PR) : List PR := ps.mergeSort lexLe
def pairK : List Key → Option PR
  | [.inl x, .inl y] => some (x, y)
  | _ => none
def pairsK : List (List Key) → Option (List PR)
  | [] => some []
  | k :: ks => (pairK k).bind fun p => (pairsK ks).map (p :: ·)
section
variable {X : Cx}
end
section
variable {G : GS} {W : WX} {X : Cx}
def bSortT : XF := fun ds st => match ds with
  | [d] => match dictT st d with
    | some p => match pairsK p.1 with
      | some ps => if fitL ps.length then .ok (.cell st.length) (st ++ [.lst ((srtP ps).map prQ)]) else .bad
      | none => .bad
    | none => .bad
  | _ => .bad
@[simp] theorem ev_sortT (d : D) (st : Sto) : bSortT [d] st = match dictT st d with
    | some p => match pairsK p.1 with
      | some ps => if fitL ps.length then .ok (.cell st.length) (st ++ [.lst ((srtP ps).map prQ)]) else .bad
      | none => .bad
    | none => .bad := (rfl)
end
def prOf : D → Option PR
  | .tup [.int x, .int y] => some (x, y)
  | _ => none
def prsOf : List D → Option (List PR)
  | [] => some []
  | d :: ds => (prOf d).bind fun p => (prsOf ds).map (p :: ·)
@[simp] theorem prsOf_map : ∀ ps : List PR, prsOf (ps.map prQ) = some ps
  | [] => rfl
  | p :: ps => by rw [List.map_cons, prsOf, prsOf_map ps]; rfl
section
variable {X : Cx}
variable {G : GS} {W : WX}
def bSortPL : XF := fun ds st => match ds with
  | [d] => match (seqOf st d).bind prsOf with
    | some ps => .ok (.cell st.length) (st ++ [.lst ((srtP ps).map prQ)])
    | none => .bad
  | _ => .bad
@[simp] theorem ev_sortPL (d : D) (st : Sto) : bSortPL [d] st = match (seqOf st d).bind prsOf with
    | some ps => .ok (.cell st.length) (st ++ [.lst ((srtP ps).map prQ)])
    | none => .bad := (rfl)
end
end Px
namespace Px
open PySem PySem.Spec L2 PyProof.Rows
theorem ns_at {h h' : Heap} {a : Addr} {m : Str → Option Value} (x : h.Ns a m) (e : ∀ o, h.get? a = some o → h'.get? a = some o) : h'.Ns a m :=
  let ⟨o, es, ep, e1, r⟩ := x
  ⟨o, es, ep, e o e1, r⟩
theorem look_app {K L : PySem.W.Frag} {a : Addr} {o : Obj} (h : (K ++ L).lookup a = some o) : K.lookup a = some o ∨ (K.lookup a = none ∧ L.lookup a = some o) := by
  induction K with
  | nil => exact .inr ⟨rfl, h⟩
  | cons p K ih =>
    obtain ⟨b, q⟩ := p
    rw [List.cons_append, List.lookup_cons] at h
    rw [List.lookup_cons]
    split at h
    · exact .inl h
    · exact ih h
theorem look_l {K : PySem.W.Frag} (L : PySem.W.Frag) {a : Addr} {o : Obj} (h : K.lookup a = some o) : (K ++ L).lookup a = some o := by
  induction K with
  | nil => cases h
  | cons p K ih =>
    obtain ⟨b, q⟩ := p
    rw [List.cons_append, List.lookup_cons]
    rw [List.lookup_cons] at h
    split at h
    · exact h
    · exact ih h
theorem look_r {K : PySem.W.Frag} (L : PySem.W.Frag) {a : Addr} (h : K.lookup a = none) : (K ++ L).lookup a = L.lookup a := by
  induction K with
  | nil => rfl
  | cons p K ih =>
    obtain ⟨b, q⟩ := p
    rw [List.cons_append, List.lookup_cons]
    rw [List.lookup_cons] at h
    split at h
    · cases h
    · exact ih h
def got (h : Heap) : List Addr → PySem.W.Frag
  | [] => []
  | a :: r => match h.get? a with
    | some o => (a, o) :: got h r
    | none => got h r
theorem got_in {h : Heap} : ∀ (l : List Addr) {a : Addr} {o : Obj}, (got h l).lookup a = some o → h.get? a = some o
  | [], a, o, e => by cases e
  | b :: r, a, o, e => by
    unfold got at e
    split at e
    · rename_i q hq
      rw [List.lookup_cons] at e
      split at e
      · rename_i hb
        have : a = b := by simpa using hb
        subst this
        cases e
        exact hq
      · exact got_in r e
    · exact got_in r e
theorem got_has {h : Heap} {a : Addr} {o : Obj} (ho : h.get? a = some o) : ∀ (l : List Addr), a ∈ l → (got h l).lookup a = some o
  | [], m => by cases m
  | b :: r, m => by
    unfold got
    by_cases e : a = b
    · subst e
      rw [ho]
      simp
    · have m' : a ∈ r := by
        rcases List.mem_cons.mp m with z | z
        · exact (e z).elim
        · exact z
      have e' : (a == b) = false := by simpa using e
      split
      · rw [List.lookup_cons, e']
        exact got_has ho r m'
      · exact got_has ho r m'
theorem ext_in {K : PySem.W.Frag} {h : Heap} (KX : K.In h) (l : List Addr) : PySem.W.Frag.In (K ++ got h l) h := fun a o e => by
  rcases look_app e with z | ⟨_, z⟩
  · exact KX a o z
  · exact got_in l z
theorem ext_get {K : PySem.W.Frag} {h base : Heap} (KX : K.In h) {l : List Addr} (B : PySem.W.Frag.In (K ++ got h l) base) {a : Addr} (m : a ∈ l) {o : Obj} (e : h.get? a = some o) : base.get? a = some o := by
  cases q : K.lookup a with
  | some o' =>
    have e' := KX a o' q
    rw [e] at e'
    cases e'
    exact B a o (look_l _ q)
  | none => exact B a o (by rw [look_r _ q]; exact got_has e l m)
theorem fn_ext {P : Program} {w : World} {K K' : PySem.W.Frag} {mg : Str → Option Value} {base : Heap} {CX : CXT} {k : Nat} {f : Addr} {fd : FuncData} {ps : List Str} {sp : Sp} (hK : K.In base) (F : FnOk P w K mg base CX k f fd ps sp) : FnOk P w K' mg base CX k f fd ps sp :=
  ⟨F.len, fun A outer s H args us vs Q E hr he hb hv hs => F.run A outer s H args us vs Q E hr ⟨he.frames, ⟨hK, he.mod.glob, he.mod.blt, he.mod.nolimit⟩, he.bs, he.bsz, he.funs, he.frf, he.hok, he.bare⟩ hb hv hs⟩
theorem sq_back {K : PySem.W.Frag} {h : Heap} {l : List Addr} {H : Hp} {a : Addr} {xs : List V} (nl : ∀ b ∈ l, ∀ o, h.get? b = some o → o.cls ≠ .type "list" ∨ ∀ its n, o.data ≠ .seq its n) (hS : SqL (K ++ got h l) H a xs) : SqL K H a xs := by
  rcases hS with z | ⟨o, its, n, e, e2, e3, e4, r⟩
  · exact .inl z
  · rcases look_app e with z | ⟨_, z⟩
    · exact .inr ⟨o, its, n, z, e2, e3, e4, r⟩
    · have hm : ∀ (l : List Addr), (got h l).lookup a = some o → a ∈ l := by
        intro l
        induction l with
        | nil => intro z; cases z
        | cons b r ih =>
          intro z
          unfold got at z
          split at z
          · rw [List.lookup_cons] at z
            split at z
            · rename_i hb
              have : a = b := by simpa using hb
              exact this ▸ List.mem_cons_self ..
            · exact List.mem_cons_of_mem _ (ih z)
          · exact List.mem_cons_of_mem _ (ih z)
      rcases nl a (hm l z) o (got_in l z) with q | q
      · exact (q e2).elim
      · exact (q its n e4).elim
theorem law_walkS {l : PySem.W.OpenLaw} {q : Program} {loose : List Str} {XP : (Str → Option Value) → Heap → Prop} {YP : World → Heap → Prop} {d : DefRec} {K : Params → PySem.W.Frag} {k : Nat} {sem : List D → RF} {x : Str} (GK : PySem.W.Frag → GS) (hG : ∀ K, (GK K).K = K) (hn : l.most = some 63) (hdf : d.params.defaults = []) (hr : Room k callerA)
    (hY : ∀ (w : World) (h : Heap), YP w h → (K w.params).In h) (hi : importsNone q = true)
    (F : ∀ (w : World) (mg : Str → Option Value) (fa : Addr) (h : Heap), (K w.params).In h → h.Ns mainGlobals mg → mg d.name = some (.ref fa) →
      ∃ fd : FuncData, (∀ (s : Shared) (u : Value), BindsTo s fd ⟨[u], []⟩ [(x, u)]) ∧ ∀ base : Heap, (K w.params).In base → base.Ns mainGlobals mg → base.NoSeer → FnOk l.prog w (K w.params) mg base (L2.CX l.prog w) k fa fd [x] (spF (GK (K w.params)) 1 [] sem))
    (math : ∀ ns : List Int, ns.length ≤ 63 → (∀ z ∈ ns, Builtin.Int.intBits z ≤ 1048576) → sem [.lst .ro (ns.map D.int)] = .ok (.bl true) []) :
    PySem.W.WalkO q loose XP YP l.row.toRowW d [] (fun f vs => PySem.call f vs) := by
  refine Att.attach_callB hn hdf fun w s₀ s₁ mg mb fa o pm cd doc a vs ns G Y ho hd hcd hmg hobj hints hlen hbits hg => ?_
  have KX := hY w _ Y
  obtain ⟨fd, hb, hF⟩ := F w mg fa _ KX G.T.g hmg
  have hN := G.T.seer hi
  obtain ⟨mg', bm, ob, m1, m2, m3, m4, m5⟩ := hN.main
  obtain ⟨mc, c1, c2, c3⟩ := hN.statics
  obtain ⟨mm, n1, n2⟩ := hN.mods
  obtain ⟨mb', b1, b2⟩ := hN.imp
  have dat : ∀ {b : Addr} {m : Str → Option Value}, s₁.heap.Ns b m → ∀ o, s₁.heap.get? b = some o → o.cls ≠ .type "list" ∨ ∀ its n, o.data ≠ .seq its n := fun ⟨o', es, ep, e, e2, _⟩ o e' => by
    rw [e] at e'
    cases e'
    exact .inr fun its n z => by rw [e2] at z; cases z
  have nl : ∀ b ∈ [cStatics, sysModules, builtinsNs, mainGlobals, bm], ∀ o, s₁.heap.get? b = some o → o.cls ≠ .type "list" ∨ ∀ its n, o.data ≠ .seq its n := fun b hb o e => by
    simp only [List.mem_cons, List.mem_nil_iff, or_false] at hb
    rcases hb with rfl | rfl | rfl | rfl | rfl
    · exact dat c1 o e
    · exact dat n1 o e
    · exact dat b1 o e
    · exact dat m1 o e
    · rw [m3] at e; cases e
      exact .inl (by rw [m4]; intro z; injection z with z; exact absurd z (by decide))
  refine law_call (K := K w.params ++ got s₁.heap [cStatics, sysModules, builtinsNs, mainGlobals, bm]) (CX := L2.CX l.prog w) (sp := spF (GK (K w.params)) 1 [] sem) (ext_in KX _) G.T.g G.T.b G.T.builtins G.T.nolimit hg hobj hints (Nat.le_trans hlen (by decide)) hr (fun base B hns => ?_) hb
    (fun H hO hS => law_sp (by rw [hG]; exact sq_back nl hS) (math ns hlen hbits)) fun H e s' z => by
      obtain ⟨_, _, _, _, _, _, _, _, _, _, _, _, z⟩ := z
      exact z.elim
  have BK : (K w.params).In base := fun a o e => B a o (look_l _ e)
  exact fn_ext BK (hF base BK hns ⟨⟨mc, ns_at c1 fun o e => ext_get KX B (by simp) e, c2, c3⟩, ⟨mm, ns_at n1 fun o e => ext_get KX B (by simp) e, n2⟩, ⟨mb', ns_at b1 fun o e => ext_get KX B (by simp) e, b2⟩,
    ⟨mg', bm, ob, ns_at m1 fun o e => ext_get KX B (by simp) e, m2, ext_get KX B (by simp) m3, m4, m5⟩⟩)
structure Big (X : Cx) : Prop where
  seer : X.base.NoSeer
  tree : X.prog.given.tree = none
  stk : X.stack = X.env :: X.outer
  gen : X.env.scope.isGenerator = false
  co : X.env.scope.isCoroutine = false
  dp : X.A.depth + Builtin.pylongFrames < recursionLimit
section
variable {G : GS} {W : WX} {X : Cx}
theorem Big.room (b : Big X) {pins : List (Addr × Obj)} {σ : List (Option V)} {H : Hp} {s : Shared} (I : Inv X pins σ H s) : PylongRoom (model X.prog X.w) X.A s :=
  PylongRoom.of I.nolimit b.dp (SeerAt.of (b.seer.keeps I.bk) b.tree (by rw [I.ok.frames, b.stk]) b.gen b.co I.ok.blt I.ok.glob)
theorem big_of {k : Nat} (hr : Room k X.A) (hk : 32 ≤ k) (hS : X.base.NoSeer) (hT : X.prog.given.tree = none) (h1 : X.stack = X.env :: X.outer := by rfl) (h2 : X.env.scope.isGenerator = false := by rfl) (h3 : X.env.scope.isCoroutine = false := by rfl) : Big X :=
  ⟨hS, hT, h1, h2, h3, by have := hr.dp; have e : Builtin.pylongFrames = 100 := rfl; omega⟩
def okDivN (_ j : Int) : Bool := decide (j ≠ 0)
def iDivN : Op2 := oI okDivN fun i j => .int (i.fdiv j)
theorem op_fdivN (b : Big X) : OpR X (binaryOp .FloorDiv) (rI (fun _ j => j ≠ 0) fun i j => .int (i.fdiv j)) := by
  intro pins s σ H x y v u Q I rx ry h
  obtain ⟨i, j, rfl, rfl, hc, q⟩ := h
  obtain ⟨k1, rfl⟩ := rx
  obtain ⟨k2, rfl⟩ := ry
  exact floordiv_int hc ⟨V.int (i.fdiv j), H, I.tok _, ⟨_, rfl⟩, q⟩ (.inr (b.room I))
theorem ho_divN (b : Big X) : OpR X (binaryOp .FloorDiv) (rD G W iDivN) := OpR_imp (op_fdivN b) fun _ _ _ _ h => rI_of (C := okDivN) (k := fun i j => .int (i.fdiv j)) (kv := fun i j => .int (i.fdiv j)) (fun i j c => of_decide_eq_true c) (fun _ _ _ => rfl) h
theorem call_divmodN (b : Big X) : CallR X (.builtin "divmod") (fun xs H Q => ∃ i j, xs = [.int i, .int j] ∧ j ≠ 0 ∧ ∀ p, H p = none → Q (.ref p) (upd H p (.tup [.int (i.fdiv j), .int (i.fmod j)]))) := by
  intro pins s σ H xs us Q I r h
  obtain ⟨i, j, rfl, nz, q⟩ := h
  obtain ⟨x1, x2, rfl, ⟨k1, rfl⟩, ⟨k2, rfl⟩⟩ := vals2 r
  have fr := I.hok.fresh (Nat.le_refl s.heap.objs.size)
  have lay := Heap.get?_push_size s.heap (o := { cls := .type "tuple", data := .seq #[.int (i.fdiv j) s.toks, .int (i.fmod j) (s.toks + 1)] }) rfl
  refine divmod_int nz ⟨V.ref s.heap.objs.size, upd H s.heap.objs.size (.tup [.int (i.fdiv j), .int (i.fmod j)]), ?_, rfl, q _ fr⟩ (.inr (b.room I))
  exact I.laid (fun _ _ e => Heap.get?_push_of_some _ e) (Nat.le_refl _) ⟨by show 2 ≤ sizeLine; rw [sizeLine_eq]; decide, [Value.int (i.fdiv j) s.toks, Value.int (i.fmod j) (s.toks + 1)], .cons ⟨_, rfl⟩ (.cons ⟨_, rfl⟩ .nil), ⟨_, lay, rfl, 0, rfl⟩⟩
def bDivmod : XF := fun ds st => match ds with
  | [.int i, .int j] => if decide (j ≠ 0) then .ok (.tup [.int (i.fdiv j), .int (i.fmod j)]) st else .bad
  | _ => .bad
theorem hc_divmod (b : Big X) : CallR X (.builtin "divmod") (rA G W bDivmod) := CallR_imp (call_divmodN b) fun vs H Q ⟨g, en, st, σ, ds, R, r, h⟩ => by
  unfold bDivmod at h
  split at h
  · rename_i i j
    split at h
    · rename_i c
      obtain ⟨v, rr, rfl, rv, v2, r2, rfl, rv2, rfl⟩ := r
      have e1 : v = .int i := rv
      have e2 : v2 = .int j := rv2
      subst e1 e2
      refine ⟨i, j, rfl, of_decide_eq_true c, fun p hp => ?_⟩
      obtain ⟨l, R', r'⟩ := R.tup (ds := [.int (i.fdiv j), .int (i.fmod j)]) (vs := [.int (i.fdiv j), .int (i.fmod j)]) hp ⟨_, _, rfl, rfl, _, _, rfl, rfl, rfl⟩
      exact h _ _ l R' _ r'
    · exact h.elim
  · exact h.elim
@[simp] theorem ev_divN (st : Sto) (i j : Int) : iDivN (.int i) (.int j) st = if decide (j ≠ 0) then .ok (.int (i.fdiv j)) st else .bad := (rfl)
@[simp] theorem ev_divmod (st : Sto) (i j : Int) : bDivmod [.int i, .int j] st = if decide (j ≠ 0) then .ok (.tup [.int (i.fdiv j), .int (i.fmod j)]) st else .bad := (rfl)
end
end Px

namespace Px
open PySem PySem.Spec L2

def tb_NotDivisible : Nat → Option Bool := fun k => [none, some true].getD k none
def tb_PhasorError : Nat → Option Bool := fun k => [none, some true].getD k none
def s_L_cell : List D → RF := xfun 2 0 [] (
    (sseq (sif (xt (x2 iLt (xvar 1) (xbi bLen (xcons (xvar 0) xnil))))
    (sret (x2 oIx (xvar 0) (xvar 1)))
    snil)
    (sret (xc (.int 0)))))
def s_L_part : List D → RF := xfun 2 0 [] (
    (sseq (sif (xt (x2 oEq (x2 iMod (xbi bInt (xcons (xvar 1) xnil)) (xc (.int 3))) (xc (.int 0))))
    (sret (xvar 0))
    snil)
    (sseq (sif (xt (x2 oEq (x2 iMod (xbi bInt (xcons (xvar 1) xnil)) (xc (.int 3))) (xc (.int 1))))
    (sret (x2 iMod (x1 oNeg (xbi bInt (xcons (xvar 0) xnil))) (xc (.int 7))))
    snil)
    (sret (x2 iSub (x2 iMod (xbi bInt (xcons (xvar 0) xnil)) (xc (.int 5))) (xc (.int 2)))))))
def lb_L_ring_0 : XS := (sseq (sexpr (xapp (xvar 3) (xcall 2 [] s_L_part [.mov, .val] (xcons (xcall 2 [] s_L_cell [.val, .mov] (xcons (xvar 0) (xcons (x2 oAdd (xvar 1) (xvar 4)) xnil))) (xcons (xvar 2) xnil)))))
    (sset 2 (x2 iDiv (xvar 2) (xc (.int 3)))))
def s_L_ring : List D → RF := xfun 2 3 [] (
    (sseq (sset 2 (xbi bAbs (xcons (xcall 2 [] s_L_cell [.val, .mov] (xcons (xvar 0) (xcons (x2 oAdd (xvar 1) (xc (.int 4))) xnil))) xnil)))
    (sseq (sset 3 (xlst xnil))
    (sseq (sfor (irng1 (xcons (xc (.int 4)) xnil)) (gset 4) lb_L_ring_0)
    (sret (xtup (xcons (x2 oIx (xvar 3) (xc (.int 0))) (xcons (x2 oIx (xvar 3) (xc (.int 1))) (xcons (x2 oIx (xvar 3) (xc (.int 2))) (xcons (x2 oIx (xvar 3) (xc (.int 3))) xnil))))))))))
def lb_L_mul_1 : XS := (sasg (x2 oAdd (x2 oIx (xvar 2) (x2 oAdd (xvar 3) (xvar 4))) (x2 oMul (x2 oIx (xvar 0) (xvar 3)) (x2 oIx (xvar 1) (xvar 4)))) (gsub oSetL (xvar 2) (x2 oAdd (xvar 3) (xvar 4))))
def lb_L_mul_0 : XS := (sfor (irng1 (xcons (xc (.int 4)) xnil)) (gset 4) lb_L_mul_1)
def s_L_mul : List D → RF := xfun 2 3 [] (
    (sseq (sset 2 (xlst (xcons (xc (.int 0)) (xcons (xc (.int 0)) (xcons (xc (.int 0)) (xcons (xc (.int 0)) (xcons (xc (.int 0)) (xcons (xc (.int 0)) (xcons (xc (.int 0)) xnil)))))))))
    (sseq (sfor (irng1 (xcons (xc (.int 4)) xnil)) (gset 3) lb_L_mul_0)
    (sret (xtup (xcons (x2 iSub (x2 oIx (xvar 2) (xc (.int 0))) (x2 oIx (xvar 2) (xc (.int 4)))) (xcons (x2 iSub (x2 oIx (xvar 2) (xc (.int 1))) (x2 oIx (xvar 2) (xc (.int 5)))) (xcons (x2 iSub (x2 oIx (xvar 2) (xc (.int 2))) (x2 oIx (xvar 2) (xc (.int 6)))) (xcons (x2 oIx (xvar 2) (xc (.int 3))) xnil)))))))))
def s_ring_abs_square : List D → RF := xfun 1 4 [] (
    (sseq (sasg (xvar 0) (gtup 4 (gcons (gset 1) (gcons (gset 2) (gcons (gset 3) (gcons (gset 4) gnil))))))
    (sret (xtup (xcons (x2 oAdd (x2 oAdd (x2 oAdd (x2 oMul (xvar 1) (xvar 1)) (x2 oMul (xvar 2) (xvar 2))) (x2 oMul (xvar 3) (xvar 3))) (x2 oMul (xvar 4) (xvar 4))) (xcons (x2 iSub (x2 oAdd (x2 oAdd (x2 oMul (xvar 1) (xvar 2)) (x2 oMul (xvar 2) (xvar 3))) (x2 oMul (xvar 3) (xvar 4))) (x2 oMul (xvar 4) (xvar 1))) xnil))))))
def s_ring_norm : List D → RF := xfun 1 2 [] (
    (sseq (sasg (xcall 1 [] s_ring_abs_square [.val] (xcons (xvar 0) xnil)) (gtup 2 (gcons (gset 1) (gcons (gset 2) gnil))))
    (sret (x2 iSub (x2 oMul (xvar 1) (xvar 1)) (x2 oMul (x2 oMul (xc (.int 2)) (xvar 2)) (xvar 2))))))
def s_ring_mul : List D → RF := xfun 2 8 [] (
    (sseq (sasg (xvar 0) (gtup 4 (gcons (gset 2) (gcons (gset 3) (gcons (gset 4) (gcons (gset 5) gnil))))))
    (sseq (sasg (xvar 1) (gtup 4 (gcons (gset 6) (gcons (gset 7) (gcons (gset 8) (gcons (gset 9) gnil))))))
    (sret (xtup (xcons (x2 iSub (x2 iSub (x2 iSub (x2 oMul (xvar 2) (xvar 6)) (x2 oMul (xvar 3) (xvar 9))) (x2 oMul (xvar 4) (xvar 8))) (x2 oMul (xvar 5) (xvar 7))) (xcons (x2 iSub (x2 iSub (x2 oAdd (x2 oMul (xvar 2) (xvar 7)) (x2 oMul (xvar 3) (xvar 6))) (x2 oMul (xvar 4) (xvar 9))) (x2 oMul (xvar 5) (xvar 8))) (xcons (x2 iSub (x2 oAdd (x2 oAdd (x2 oMul (xvar 2) (xvar 8)) (x2 oMul (xvar 3) (xvar 7))) (x2 oMul (xvar 4) (xvar 6))) (x2 oMul (xvar 5) (xvar 9))) (xcons (x2 oAdd (x2 oAdd (x2 oAdd (x2 oMul (xvar 2) (xvar 9)) (x2 oMul (xvar 3) (xvar 8))) (x2 oMul (xvar 4) (xvar 7))) (x2 oMul (xvar 5) (xvar 6))) xnil)))))))))
def s_ring_conjugate : List D → RF := xfun 1 4 [] (
    (sseq (sasg (xvar 0) (gtup 4 (gcons (gset 1) (gcons (gset 2) (gcons (gset 3) (gcons (gset 4) gnil))))))
    (sret (xtup (xcons (xvar 1) (xcons (x1 oNeg (xvar 4)) (xcons (x1 oNeg (xvar 3)) (xcons (x1 oNeg (xvar 2)) xnil))))))))
def lb_ring_divide_0 : XS := (sseq (sasg (xbi bDivmod (xcons (xvar 5) (xcons (xvar 2) xnil))) (gtup 2 (gcons (gset 12) (gcons (gset 13) gnil))))
    (sseq (sif (xt (x2 oNe (xvar 13) (xc (.int 0))))
    (sraise 1)
    snil)
    (sexpr (xapp (xvar 4) (xvar 12)))))
def s_ring_divide : List D → RF := xfun 2 12 [] (
    (sseq (sset 2 (xcall 1 [] s_ring_norm [.val] (xcons (xvar 1) xnil)))
    (sseq (sif (xt (x2 oEq (xvar 2) (xc (.int 0))))
    (sraise 1)
    snil)
    (sseq (sasg (xcall 1 [] s_ring_abs_square [.val] (xcons (xvar 1) xnil)) (gtup 2 (gcons (gset 6) (gcons (gset 7) gnil))))
    (sseq (sset 3 (xcall 2 [] s_ring_mul [.mov, .mov] (xcons (xcall 2 [] s_ring_mul [.val, .mov] (xcons (xvar 0) (xcons (xcall 1 [] s_ring_conjugate [.val] (xcons (xvar 1) xnil)) xnil))) (xcons (xtup (xcons (xvar 6) (xcons (x1 oNeg (xvar 7)) (xcons (xc (.int 0)) (xcons (xvar 7) xnil))))) xnil))))
    (sseq (sset 4 (xlst xnil))
    (sseq (sfor (iany (xvar 3)) (gset 5) lb_ring_divide_0)
    (sseq (sasg (xvar 4) (gtup 4 (gcons (gset 8) (gcons (gset 9) (gcons (gset 10) (gcons (gset 11) gnil))))))
    (sret (xtup (xcons (xvar 8) (xcons (xvar 9) (xcons (xvar 10) (xcons (xvar 11) xnil))))))))))))))
def s_L_is_integer : List D → RF := xfun 1 0 [] (
    (sret (vand (x1 (bIsa "int") (xvar 0)) (vnot (x1 (bIsa "bool") (xvar 0))))))
def lb_L_is_ring_0 : XS := (sif (xnot (xt (xcall 1 [] s_L_is_integer [.val] (xcons (xvar 1) xnil))))
    (sret (xc (.bl false)))
    snil)
def s_L_is_ring : List D → RF := xfun 1 1 [] (
    (sseq (sif (xor_ (xnot (xt (x1 (bIsa "tuple") (xvar 0)))) (xt (x2 oNe (xbi bLen (xcons (xvar 0) xnil)) (xc (.int 4)))))
    (sret (xc (.bl false)))
    snil)
    (sseq (sfor (iany (xvar 0)) (gset 1) lb_L_is_ring_0)
    (sret (xc (.bl true))))))
def lb_law_0 : XS := (sif (xand (xt (x2 oNe (xvar 6) (xc (.int 0)))) (xt (x2 oNe (x2 iSub (xvar 8) (x2 oMul (xvar 6) (x2 iDivN (xvar 8) (xvar 6)))) (xc (.int 0)))))
    (sset 7 (xc (.bl false)))
    snil)
def s_law : List D → RF := xfun 1 10 [] (
    (sseq (sset 1 (xcall 2 [] s_L_ring [.val, .val] (xcons (xvar 0) (xcons (xc (.int 0)) xnil))))
    (sseq (sif (xt (x2 oEq (x2 iMod (xcall 2 [] s_L_cell [.val, .val] (xcons (xvar 0) (xcons (xc (.int 10)) xnil))) (xc (.int 7))) (xc (.int 3))))
    (sset 1 (xtup (xcons (xc (.int 0)) (xcons (xc (.int 0)) (xcons (xc (.int 0)) (xcons (xc (.int 0)) xnil))))))
    snil)
    (sseq (sset 2 (xcall 2 [] s_L_mul [.val, .mov] (xcons (xvar 1) (xcons (xcall 2 [] s_L_ring [.val, .val] (xcons (xvar 0) (xcons (xc (.int 5)) xnil))) xnil))))
    (sseq (sif (xt (x2 oEq (x2 iMod (xcall 2 [] s_L_cell [.val, .val] (xcons (xvar 0) (xcons (xc (.int 10)) xnil))) (xc (.int 2))) (xc (.int 1))))
    (sset 2 (xtup (xcons (x2 oAdd (x2 oIx (xvar 2) (xc (.int 0))) (x2 iMod (xbi bInt (xcons (x2 iDiv (xcall 2 [] s_L_cell [.val, .val] (xcons (xvar 0) (xcons (xc (.int 10)) xnil))) (xc (.int 2))) xnil)) (xc (.int 5)))) (xcons (x2 oAdd (x2 oIx (xvar 2) (xc (.int 1))) (x2 iMod (xbi bInt (xcons (x2 iDiv (xcall 2 [] s_L_cell [.val, .val] (xcons (xvar 0) (xcons (xc (.int 10)) xnil))) (xc (.int 10))) xnil)) (xc (.int 3)))) (xcons (x2 oIx (xvar 2) (xc (.int 2))) (xcons (x2 oIx (xvar 2) (xc (.int 3))) xnil))))))
    snil)
    (sseq (sset 3 (xtup (xcons (x2 oIx (xvar 1) (xc (.int 0))) (xcons (x1 oNeg (x2 oIx (xvar 1) (xc (.int 3)))) (xcons (x1 oNeg (x2 oIx (xvar 1) (xc (.int 2)))) (xcons (x1 oNeg (x2 oIx (xvar 1) (xc (.int 1)))) xnil))))))
    (sseq (sset 4 (xcall 2 [] s_L_mul [.val, .val] (xcons (xvar 1) (xcons (xvar 3) xnil))))
    (sseq (sset 5 (xcall 2 [] s_L_mul [.mov, .mov] (xcons (xcall 2 [] s_L_mul [.val, .val] (xcons (xvar 2) (xcons (xvar 3) xnil))) (xcons (xtup (xcons (x2 oIx (xvar 4) (xc (.int 0))) (xcons (x1 oNeg (x2 oIx (xvar 4) (xc (.int 1)))) (xcons (xc (.int 0)) (xcons (x2 oIx (xvar 4) (xc (.int 1))) xnil))))) xnil))))
    (sseq (sset 6 (x2 iSub (x2 oMul (x2 oIx (xvar 4) (xc (.int 0))) (x2 oIx (xvar 4) (xc (.int 0)))) (x2 oMul (x2 oMul (xc (.int 2)) (x2 oIx (xvar 4) (xc (.int 1)))) (x2 oIx (xvar 4) (xc (.int 1))))))
    (sseq (sset 7 (x2 oNe (xvar 6) (xc (.int 0))))
    (sseq (sfor (iany (xvar 5)) (gset 8) lb_law_0)
    (sseq (stry tb_PhasorError 9
    (sset 10 (xcall 2 [] s_ring_divide [.val, .val] (xcons (xvar 2) (xcons (xvar 1) xnil))))
    (fun k => (sret (vand (xisx tb_NotDivisible k) (vnot (xvar 7))))))
    (sret (vand (xvar 7) (vand (xcall 1 [] s_L_is_ring [.val] (xcons (xvar 10) xnil)) (x2 oEq (xcall 2 [] s_L_mul [.val, .val] (xcons (xvar 10) (xcons (xvar 1) xnil))) (xvar 2)))))))))))))))))
def celA (ns : List Int) (k : Int) : Int := if k < ns.length then (ns[k.toNat]?).getD 0 else 0
theorem celA_sz {ns : List Int} (hb : ∀ z ∈ ns, Builtin.Int.intBits z ≤ 1048576) (k : Int) : Sz 1048576 (celA ns k) := by
  unfold celA
  split
  · cases e : ns[k.toNat]? with
    | none => exact Nat.two_pow_pos _
    | some z => exact Sz.bits (hb z (List.mem_of_getElem? e))
  · exact Nat.two_pow_pos _
theorem atI_ints (ns : List Int) (k : Int) (h0 : 0 ≤ k) (h : k < ns.length) : atI (ns.map D.int) k = some (.int (celA ns k)) := by
  unfold atI ixN celA
  have h2 : k.toNat < ns.length := by omega
  rw [if_pos h]
  simp [h, h0, h2]
theorem L_cell {ns : List Int} (hl : ns.length ≤ 63) (k : Nat) : s_L_cell [.lst .ro (ns.map D.int), .int k] = .ok (.int (celA ns k)) [] := by
  by_cases h : (k : Int) < ns.length
  · simp [s_L_cell, bLen, h, atI_ints ns k (by omega) h]
  · simp [s_L_cell, bLen, h, celA]
def partA (n d : Int) : Int := if d % 3 = 0 then n else if d % 3 = 1 then -n % 7 else n % 5 - 2
theorem partA_sz {n d : Int} (h : Sz 1048576 n) : Sz 1048576 (partA n d) := by
  unfold partA
  have e : (2 : Nat) ^ 1048576 = 2 ^ 10 * 2 ^ 1048566 := by rw [← Nat.pow_add]
  have : 0 < (2 : Nat) ^ 1048566 := Nat.two_pow_pos _
  split
  · exact h
  · split <;> unfold Sz <;> omega
theorem L_part (n d : Int) : s_L_part [.int n, .int d] = .ok (.int (partA n d)) [] := by
  by_cases h : d % 3 = 0
  · simp [s_L_part, h, partA]
  · by_cases h1 : d % 3 = 1 <;> simp [s_L_part, h, h1, partA]
def ringA (ns : List Int) (k i : Nat) : Int := partA (celA ns (k + i : Nat)) ((celA ns (k + 4 : Nat)).natAbs / 3 ^ i)
theorem L_ring {ns : List Int} (hl : ns.length ≤ 63) (k : Nat) : s_L_ring [.lst .ro (ns.map D.int), .int k] = .ok (.tup [.int (ringA ns k 0), .int (ringA ns k 1), .int (ringA ns k 2), .int (ringA ns k 3)]) [] := by
  have c0 := L_cell hl k
  have c1 := L_cell hl (k + 1)
  have c2 := L_cell hl (k + 2)
  have c3 := L_cell hl (k + 3)
  have c4 := L_cell hl (k + 4)
  simp at c0 c1 c2 c3 c4
  simp [s_L_ring, lb_L_ring_0, c0, c1, c2, c3, c4, L_part, rngL_succ, ev_floopS, ringA]
  refine ⟨?_, ?_⟩ <;> congr 1 <;> omega
theorem ring_sz {ns : List Int} (hb : ∀ z ∈ ns, Builtin.Int.intBits z ≤ 1048576) (k i : Nat) : Sz 1048576 (ringA ns k i) := partA_sz (celA_sz hb _)
theorem okM {n : Nat} {a b : Int} (ha : Sz n a) (hb : Sz n b) (h0 : 0 < n := by decide) (h : n ≤ 50000000 := by decide) : okMul a b = true := okMul_sz ha hb h0 h0 (by omega)
theorem l_mul {n : Nat} {a b c d e f g h : Int} (h0 : 0 < n) (hn : n ≤ 50000000) (ha : Sz n a) (hb : Sz n b) (hc : Sz n c) (hd : Sz n d) (he : Sz n e) (hf : Sz n f) (hg : Sz n g) (hh : Sz n h) :
    s_L_mul [.tup [.int a, .int b, .int c, .int d], .tup [.int e, .int f, .int g, .int h]] = .ok (.tup [.int (a * e - b * h - c * g - d * f), .int (a * f + b * e - c * h - d * g), .int (a * g + b * f + c * e - d * h), .int (a * h + b * g + c * f + d * e)]) [] := by
  have ok : ∀ {x y : Int}, Sz n x → Sz n y → okMul x y = true := fun p q => okM p q h0 hn
  simp [s_L_mul, lb_L_mul_0, lb_L_mul_1, ok, rngL_succ, ev_floopS, ha, hb, hc, hd, he, hf, hg, hh]
  constructor <;> omega
theorem l_int (a : Int) : s_L_is_integer [.int a] = .ok (.bl true) [] := by
  simp [s_L_is_integer]
theorem l_ring (a b c d : Int) : s_L_is_ring [.tup [.int a, .int b, .int c, .int d]] = .ok (.bl true) [] := by
  simp [s_L_is_ring, lb_L_is_ring_0, l_int, ev_floopS]
def nU (a b c d : Int) : Int := a * a + b * b + c * c + d * d
def nV (a b c d : Int) : Int := a * b + b * c + c * d - d * a
def nN (a b c d : Int) : Int := nU a b c d * nU a b c d - 2 * nV a b c d * nV a b c d
def m0 (a b c d e f g h : Int) : Int := a * e - b * h - c * g - d * f
def m1 (a b c d e f g h : Int) : Int := a * f + b * e - c * h - d * g
def m2 (a b c d e f g h : Int) : Int := a * g + b * f + c * e - d * h
def m3 (a b c d e f g h : Int) : Int := a * h + b * g + c * f + d * e
theorem sz_sum {n : Nat} {a b c d : Int} (ha : Sz n a) (hb : Sz n b) (hc : Sz n c) (hd : Sz n d) : Sz (n + 3) (a + b + c + d) := ((ha.add hb).add (hc.mono (by omega))).add (hd.mono (by omega))
theorem nU_sz {n : Nat} {a b c d : Int} (ha : Sz n a) (hb : Sz n b) (hc : Sz n c) (hd : Sz n d) : Sz (n + n + 3) (nU a b c d) := sz_sum (ha.mul ha) (hb.mul hb) (hc.mul hc) (hd.mul hd)
theorem nV_sz {n : Nat} {a b c d : Int} (ha : Sz n a) (hb : Sz n b) (hc : Sz n c) (hd : Sz n d) : Sz (n + n + 3) (nV a b c d) := by
  unfold nV
  rw [Int.sub_eq_add_neg]
  exact sz_sum (ha.mul hb) (hb.mul hc) (hc.mul hd) (hd.mul ha).neg
theorem nN_sz {n : Nat} {a b c d : Int} (ha : Sz n a) (hb : Sz n b) (hc : Sz n c) (hd : Sz n d) : Sz (n + n + 3 + (n + n + 3) + 3) (nN a b c d) := by
  unfold nN
  rw [Int.mul_assoc]
  have h2 : Sz 2 2 := by unfold Sz; decide
  have v := h2.mul ((nV_sz ha hb hc hd).mul (nV_sz ha hb hc hd))
  exact (((nU_sz ha hb hc hd).mul (nU_sz ha hb hc hd)).mono (by omega)).sub (v.mono (by omega))
theorem sz_m {n : Nat} {a b c d e f g h : Int} (ha : Sz n a) (hb : Sz n b) (hc : Sz n c) (hd : Sz n d) (he : Sz n e) (hf : Sz n f) (hg : Sz n g) (hh : Sz n h) :
    Sz (n + n + 3) (m0 a b c d e f g h) ∧ Sz (n + n + 3) (m1 a b c d e f g h) ∧ Sz (n + n + 3) (m2 a b c d e f g h) ∧ Sz (n + n + 3) (m3 a b c d e f g h) := by
  unfold m0 m1 m2 m3
  simp only [Int.sub_eq_add_neg]
  exact ⟨sz_sum (ha.mul he) (hb.mul hh).neg (hc.mul hg).neg (hd.mul hf).neg, sz_sum (ha.mul hf) (hb.mul he) (hc.mul hh).neg (hd.mul hg).neg, sz_sum (ha.mul hg) (hb.mul hf) (hc.mul he) (hd.mul hh).neg, sz_sum (ha.mul hh) (hb.mul hg) (hc.mul hf) (hd.mul he)⟩
theorem e_abs {n : Nat} {a b c d : Int} (h0 : 0 < n) (hn : n ≤ 50000000) (ha : Sz n a) (hb : Sz n b) (hc : Sz n c) (hd : Sz n d) : s_ring_abs_square [.tup [.int a, .int b, .int c, .int d]] = .ok (.tup [.int (nU a b c d), .int (nV a b c d)]) [] := by
  have ok : ∀ {x y : Int}, Sz n x → Sz n y → okMul x y = true := fun p q => okM p q h0 hn
  simp [s_ring_abs_square, ok, ha, hb, hc, hd, nU, nV]
theorem e_norm {n : Nat} {a b c d : Int} (h0 : 0 < n) (hn : n ≤ 20000000) (ha : Sz n a) (hb : Sz n b) (hc : Sz n c) (hd : Sz n d) : s_ring_norm [.tup [.int a, .int b, .int c, .int d]] = .ok (.int (nN a b c d)) [] := by
  have u := nU_sz ha hb hc hd
  have v := nV_sz ha hb hc hd
  have o1 : okMul (nU a b c d) (nU a b c d) = true := okM u u (by omega) (by omega)
  have h2 : Sz 2 2 := by unfold Sz; decide
  have o2 : okMul (2 * nV a b c d) (nV a b c d) = true := okMul_sz (h2.mul v) v (by omega) (by omega) (by omega)
  have o3 : okMul 2 (nV a b c d) = true := okMul_l _ _ (by decide) (by decide)
  simp [s_ring_norm, e_abs h0 (by omega) ha hb hc hd, o1, o2, o3, nN]
theorem l_mulX {n : Nat} {a b c d e f g h : Int} (h0 : 0 < n) (hn : n ≤ 50000000) (ha : Sz n a) (hb : Sz n b) (hc : Sz n c) (hd : Sz n d) (he : Sz n e) (hf : Sz n f) (hg : Sz n g) (hh : Sz n h) :
    s_L_mul [.tup [.int a, .int b, .int c, .int d], .tup [.int e, .int f, .int g, .int h]] = .ok (.tup [.int (m0 a b c d e f g h), .int (m1 a b c d e f g h), .int (m2 a b c d e f g h), .int (m3 a b c d e f g h)]) [] := l_mul h0 hn ha hb hc hd he hf hg hh
theorem m_conj (a b c d : Int) : m0 a b c d a (-d) (-c) (-b) = nU a b c d ∧ m1 a b c d a (-d) (-c) (-b) = nV a b c d ∧ m2 a b c d a (-d) (-c) (-b) = 0 ∧ m3 a b c d a (-d) (-c) (-b) = -nV a b c d := by
  unfold m0 m1 m2 m3 nU nV
  refine ⟨?_, ?_, ?_, ?_⟩ <;> grind
theorem e_conj (a b c d : Int) : s_ring_conjugate [.tup [.int a, .int b, .int c, .int d]] = .ok (.tup [.int a, .int (-d), .int (-c), .int (-b)]) [] := by
  simp [s_ring_conjugate]
theorem e_mulR {n : Nat} {a b c d e f g h : Int} (h0 : 0 < n) (hn : n ≤ 50000000) (ha : Sz n a) (hb : Sz n b) (hc : Sz n c) (hd : Sz n d) (he : Sz n e) (hf : Sz n f) (hg : Sz n g) (hh : Sz n h) :
    s_ring_mul [.tup [.int a, .int b, .int c, .int d], .tup [.int e, .int f, .int g, .int h]] = .ok (.tup [.int (m0 a b c d e f g h), .int (m1 a b c d e f g h), .int (m2 a b c d e f g h), .int (m3 a b c d e f g h)]) [] := by
  have ok : ∀ {x y : Int}, Sz n x → Sz n y → okMul x y = true := fun p q => okM p q h0 hn
  simp [s_ring_mul, ok, ha, hb, hc, hd, he, hf, hg, hh, m0, m1, m2, m3]
def dvW (N A B C E : Int) : Prop := N ≠ 0 ∧ A.fmod N = 0 ∧ B.fmod N = 0 ∧ C.fmod N = 0 ∧ E.fmod N = 0
def dvS : XS := (sseq (sset 4 (xlst xnil))
    (sseq (sfor (iany (xvar 3)) (gset 5) lb_ring_divide_0)
    (sseq (sasg (xvar 4) (gtup 4 (gcons (gset 8) (gcons (gset 9) (gcons (gset 10) (gcons (gset 11) gnil))))))
    (sret (xtup (xcons (xvar 8) (xcons (xvar 9) (xcons (xvar 10) (xcons (xvar 11) xnil)))))))))
theorem dv_ok {N A B C E : Int} (h : dvW N A B C E) (x y u v : Option D) : ∃ en st, dvS [x, y, some (.int N), some (.tup [.int A, .int B, .int C, .int E]), none, none, u, v, none, none, none, none, none, none] [] = .ok (.rt (.tup [.int (A.fdiv N), .int (B.fdiv N), .int (C.fdiv N), .int (E.fdiv N)]), en) st := by
  obtain ⟨h0, h1, h2, h3, h4⟩ := h
  simp [dvS, lb_ring_divide_0, ev_floopS, h0, h1, h2, h3, h4]
theorem dv_no {N A B C E : Int} (h0 : N ≠ 0) (h : ¬ dvW N A B C E) (x y u v : Option D) : ∃ en st, dvS [x, y, some (.int N), some (.tup [.int A, .int B, .int C, .int E]), none, none, u, v, none, none, none, none, none, none] [] = .exc 1 [] en st := by
  by_cases h1 : A.fmod N = 0
  · by_cases h2 : B.fmod N = 0
    · by_cases h3 : C.fmod N = 0
      · by_cases h4 : E.fmod N = 0
        · exact (h ⟨h0, h1, h2, h3, h4⟩).elim
        · simp [dvS, lb_ring_divide_0, ev_floopS, h0, h1, h2, h3, h4]
      · simp [dvS, lb_ring_divide_0, ev_floopS, h0, h1, h2, h3]
    · simp [dvS, lb_ring_divide_0, ev_floopS, h0, h1, h2]
  · simp [dvS, lb_ring_divide_0, ev_floopS, h0, h1]
def sA (a b c d e f g h : Int) (i : Nat) : Int :=
  let p := m0 a b c d e (-h) (-g) (-f); let q := m1 a b c d e (-h) (-g) (-f); let r := m2 a b c d e (-h) (-g) (-f); let s := m3 a b c d e (-h) (-g) (-f)
  let u := nU e f g h; let v := nV e f g h
  match i with
  | 0 => m0 p q r s u (-v) 0 v
  | 1 => m1 p q r s u (-v) 0 v
  | 2 => m2 p q r s u (-v) 0 v
  | _ => m3 p q r s u (-v) 0 v
def dvX (a b c d e f g h : Int) : Prop := dvW (nN e f g h) (sA a b c d e f g h 0) (sA a b c d e f g h 1) (sA a b c d e f g h 2) (sA a b c d e f g h 3)
theorem es_div : s_ring_divide = xfun 2 12 [] (
    (sseq (sset 2 (xcall 1 [] s_ring_norm [.val] (xcons (xvar 1) xnil)))
    (sseq (sif (xt (x2 oEq (xvar 2) (xc (.int 0))))
    (sraise 1)
    snil)
    (sseq (sasg (xcall 1 [] s_ring_abs_square [.val] (xcons (xvar 1) xnil)) (gtup 2 (gcons (gset 6) (gcons (gset 7) gnil))))
    (sseq (sset 3 (xcall 2 [] s_ring_mul [.mov, .mov] (xcons (xcall 2 [] s_ring_mul [.val, .mov] (xcons (xvar 0) (xcons (xcall 1 [] s_ring_conjugate [.val] (xcons (xvar 1) xnil)) xnil))) (xcons (xtup (xcons (xvar 6) (xcons (x1 oNeg (xvar 7)) (xcons (xc (.int 0)) (xcons (xvar 7) xnil))))) xnil))))
    dvS))))) := rfl
theorem m_conjS {n : Nat} {a b c d e f g h : Int} (ha : Sz n a) (hb : Sz n b) (hc : Sz n c) (hd : Sz n d) (he : Sz n e) (hf : Sz n f) (hg : Sz n g) (hh : Sz n h) :
    Sz (n + n + 3) (m0 a b c d e (-h) (-g) (-f)) ∧ Sz (n + n + 3) (m1 a b c d e (-h) (-g) (-f)) ∧ Sz (n + n + 3) (m2 a b c d e (-h) (-g) (-f)) ∧ Sz (n + n + 3) (m3 a b c d e (-h) (-g) (-f)) := sz_m ha hb hc hd he hh.neg hg.neg hf.neg
theorem e_div0 {n : Nat} {a b c d e f g h : Int} (h0 : 0 < n) (hn : n ≤ 10000000) (he : Sz n e) (hf : Sz n f) (hg : Sz n g) (hh : Sz n h) (z : nN e f g h = 0) : s_ring_divide [.tup [.int a, .int b, .int c, .int d], .tup [.int e, .int f, .int g, .int h]] = .exc 1 [] [] := by
  have en := e_norm h0 (by omega) he hf hg hh
  rw [es_div]
  generalize dvS = T at *
  simp [en, z]
theorem e_div {n : Nat} {a b c d e f g h : Int} (h0 : 0 < n) (hn : n ≤ 10000000) (ha : Sz n a) (hb : Sz n b) (hc : Sz n c) (hd : Sz n d) (he : Sz n e) (hf : Sz n f) (hg : Sz n g) (hh : Sz n h) (nz : nN e f g h ≠ 0) :
    (dvX a b c d e f g h → s_ring_divide [.tup [.int a, .int b, .int c, .int d], .tup [.int e, .int f, .int g, .int h]] = .ok (.tup [.int ((sA a b c d e f g h 0).fdiv (nN e f g h)), .int ((sA a b c d e f g h 1).fdiv (nN e f g h)), .int ((sA a b c d e f g h 2).fdiv (nN e f g h)), .int ((sA a b c d e f g h 3).fdiv (nN e f g h))]) []) ∧
    (¬ dvX a b c d e f g h → s_ring_divide [.tup [.int a, .int b, .int c, .int d], .tup [.int e, .int f, .int g, .int h]] = .exc 1 [] []) := by
  have en := e_norm h0 (by omega) he hf hg hh
  have ea := e_abs h0 (by omega) he hf hg hh
  have ec := e_conj e f g h
  have m1' := e_mulR h0 (by omega) ha hb hc hd he hh.neg hg.neg hf.neg
  obtain ⟨s0, s1, s2, s3⟩ := m_conjS ha hb hc hd he hf hg hh
  have su := nU_sz he hf hg hh
  have sv := nV_sz he hf hg hh
  have sz : Sz (n + n + 3) 0 := Nat.two_pow_pos _
  have m2' := e_mulR (by omega) (by omega) s0 s1 s2 s3 su sv.neg sz sv
  have e0 : m0 (m0 a b c d e (-h) (-g) (-f)) (m1 a b c d e (-h) (-g) (-f)) (m2 a b c d e (-h) (-g) (-f)) (m3 a b c d e (-h) (-g) (-f)) (nU e f g h) (-nV e f g h) 0 (nV e f g h) = sA a b c d e f g h 0 := rfl
  have e1 : m1 (m0 a b c d e (-h) (-g) (-f)) (m1 a b c d e (-h) (-g) (-f)) (m2 a b c d e (-h) (-g) (-f)) (m3 a b c d e (-h) (-g) (-f)) (nU e f g h) (-nV e f g h) 0 (nV e f g h) = sA a b c d e f g h 1 := rfl
  have e2 : m2 (m0 a b c d e (-h) (-g) (-f)) (m1 a b c d e (-h) (-g) (-f)) (m2 a b c d e (-h) (-g) (-f)) (m3 a b c d e (-h) (-g) (-f)) (nU e f g h) (-nV e f g h) 0 (nV e f g h) = sA a b c d e f g h 2 := rfl
  have e3 : m3 (m0 a b c d e (-h) (-g) (-f)) (m1 a b c d e (-h) (-g) (-f)) (m2 a b c d e (-h) (-g) (-f)) (m3 a b c d e (-h) (-g) (-f)) (nU e f g h) (-nV e f g h) 0 (nV e f g h) = sA a b c d e f g h 3 := rfl
  rw [e0, e1, e2, e3] at m2'
  clear s0 s1 s2 s3 su sv sz e0 e1 e2 e3
  unfold dvX
  generalize m0 a b c d e (-h) (-g) (-f) = p0 at *
  generalize m1 a b c d e (-h) (-g) (-f) = p1 at *
  generalize m2 a b c d e (-h) (-g) (-f) = p2 at *
  generalize m3 a b c d e (-h) (-g) (-f) = p3 at *
  generalize sA a b c d e f g h 0 = A at *
  generalize sA a b c d e f g h 1 = B at *
  generalize sA a b c d e f g h 2 = C at *
  generalize sA a b c d e f g h 3 = E at *
  generalize nN e f g h = N at *
  generalize nU e f g h = U at *
  generalize nV e f g h = V at *
  rw [es_div]
  constructor
  · intro hw
    obtain ⟨en', st', q⟩ := dv_ok hw (some (.tup [.int a, .int b, .int c, .int d])) (some (.tup [.int e, .int f, .int g, .int h])) (some (.int U)) (some (.int V))
    generalize dvS = T at *
    simp [en, ea, ec, m1', m2', nz, q]
  · intro hw
    obtain ⟨en', st', q⟩ := dv_no nz hw (some (.tup [.int a, .int b, .int c, .int d])) (some (.tup [.int e, .int f, .int g, .int h])) (some (.int U)) (some (.int V))
    generalize dvS = T at *
    simp [en, ea, ec, m1', m2', nz, q]
theorem m_assoc (a b c d e f g h i j k l : Int) :
    m0 (m0 a b c d e f g h) (m1 a b c d e f g h) (m2 a b c d e f g h) (m3 a b c d e f g h) i j k l = m0 a b c d (m0 e f g h i j k l) (m1 e f g h i j k l) (m2 e f g h i j k l) (m3 e f g h i j k l) ∧
    m1 (m0 a b c d e f g h) (m1 a b c d e f g h) (m2 a b c d e f g h) (m3 a b c d e f g h) i j k l = m1 a b c d (m0 e f g h i j k l) (m1 e f g h i j k l) (m2 e f g h i j k l) (m3 e f g h i j k l) ∧
    m2 (m0 a b c d e f g h) (m1 a b c d e f g h) (m2 a b c d e f g h) (m3 a b c d e f g h) i j k l = m2 a b c d (m0 e f g h i j k l) (m1 e f g h i j k l) (m2 e f g h i j k l) (m3 e f g h i j k l) ∧
    m3 (m0 a b c d e f g h) (m1 a b c d e f g h) (m2 a b c d e f g h) (m3 a b c d e f g h) i j k l = m3 a b c d (m0 e f g h i j k l) (m1 e f g h i j k l) (m2 e f g h i j k l) (m3 e f g h i j k l) := by
  unfold m0 m1 m2 m3
  refine ⟨?_, ?_, ?_, ?_⟩ <;> grind
theorem m_comm (a b c d e f g h : Int) : m0 a b c d e f g h = m0 e f g h a b c d ∧ m1 a b c d e f g h = m1 e f g h a b c d ∧ m2 a b c d e f g h = m2 e f g h a b c d ∧ m3 a b c d e f g h = m3 e f g h a b c d := by
  unfold m0 m1 m2 m3
  refine ⟨?_, ?_, ?_, ?_⟩ <;> grind
theorem m_uv (u v : Int) : m0 u (-v) 0 v u v 0 (-v) = u * u - 2 * v * v ∧ m1 u (-v) 0 v u v 0 (-v) = 0 ∧ m2 u (-v) 0 v u v 0 (-v) = 0 ∧ m3 u (-v) 0 v u v 0 (-v) = 0 := by
  unfold m0 m1 m2 m3
  refine ⟨?_, ?_, ?_, ?_⟩ <;> grind
theorem m_num (a b c d n : Int) : m0 a b c d n 0 0 0 = a * n ∧ m1 a b c d n 0 0 0 = b * n ∧ m2 a b c d n 0 0 0 = c * n ∧ m3 a b c d n 0 0 0 = d * n := by
  unfold m0 m1 m2 m3
  refine ⟨?_, ?_, ?_, ?_⟩ <;> grind
theorem sA_y (a b c d e f g h : Int) :
    m0 (sA a b c d e f g h 0) (sA a b c d e f g h 1) (sA a b c d e f g h 2) (sA a b c d e f g h 3) e f g h = a * nN e f g h ∧
    m1 (sA a b c d e f g h 0) (sA a b c d e f g h 1) (sA a b c d e f g h 2) (sA a b c d e f g h 3) e f g h = b * nN e f g h ∧
    m2 (sA a b c d e f g h 0) (sA a b c d e f g h 1) (sA a b c d e f g h 2) (sA a b c d e f g h 3) e f g h = c * nN e f g h ∧
    m3 (sA a b c d e f g h 0) (sA a b c d e f g h 1) (sA a b c d e f g h 2) (sA a b c d e f g h 3) e f g h = d * nN e f g h := by
  obtain ⟨c0, c1, c2, c3⟩ := m_conj e f g h
  obtain ⟨k0, k1, k2, k3⟩ := m_comm (nU e f g h) (-nV e f g h) 0 (nV e f g h) e f g h
  obtain ⟨x0, x1, x2, x3⟩ := m_assoc e (-h) (-g) (-f) e f g h (nU e f g h) (-nV e f g h) 0 (nV e f g h)
  obtain ⟨l0, l1, l2, l3⟩ := m_comm e (-h) (-g) (-f) e f g h
  obtain ⟨u0, u1, u2, u3⟩ := m_uv (nU e f g h) (nV e f g h)
  obtain ⟨v0, v1, v2, v3⟩ := m_comm (nU e f g h) (-nV e f g h) 0 (nV e f g h) (nU e f g h) (nV e f g h) 0 (-nV e f g h)
  obtain ⟨y0, y1, y2, y3⟩ := m_assoc a b c d e (-h) (-g) (-f) (m0 e f g h (nU e f g h) (-nV e f g h) 0 (nV e f g h)) (m1 e f g h (nU e f g h) (-nV e f g h) 0 (nV e f g h)) (m2 e f g h (nU e f g h) (-nV e f g h) 0 (nV e f g h)) (m3 e f g h (nU e f g h) (-nV e f g h) 0 (nV e f g h))
  obtain ⟨n0, n1, n2, n3⟩ := m_num a b c d (nU e f g h * nU e f g h - 2 * nV e f g h * nV e f g h)
  obtain ⟨w0, w1, w2, w3⟩ := m_assoc (m0 a b c d e (-h) (-g) (-f)) (m1 a b c d e (-h) (-g) (-f)) (m2 a b c d e (-h) (-g) (-f)) (m3 a b c d e (-h) (-g) (-f)) (nU e f g h) (-nV e f g h) 0 (nV e f g h) e f g h
  rw [k0, k1, k2, k3] at w0 w1 w2 w3
  rw [l0, l1, l2, l3, c0, c1, c2, c3] at x0 x1 x2 x3
  rw [← v0, u0] at x0
  rw [← v1, u1] at x1
  rw [← v2, u2] at x2
  rw [← v3, u3] at x3
  rw [← x0, ← x1, ← x2, ← x3] at y0 y1 y2 y3
  rw [n0] at y0
  rw [n1] at y1
  rw [n2] at y2
  rw [n3] at y3
  exact ⟨w0.trans y0, w1.trans y1, w2.trans y2, w3.trans y3⟩
theorem q_back {a b c d e f g h : Int} (hx : dvX a b c d e f g h) :
    m0 ((sA a b c d e f g h 0).fdiv (nN e f g h)) ((sA a b c d e f g h 1).fdiv (nN e f g h)) ((sA a b c d e f g h 2).fdiv (nN e f g h)) ((sA a b c d e f g h 3).fdiv (nN e f g h)) e f g h = a ∧
    m1 ((sA a b c d e f g h 0).fdiv (nN e f g h)) ((sA a b c d e f g h 1).fdiv (nN e f g h)) ((sA a b c d e f g h 2).fdiv (nN e f g h)) ((sA a b c d e f g h 3).fdiv (nN e f g h)) e f g h = b ∧
    m2 ((sA a b c d e f g h 0).fdiv (nN e f g h)) ((sA a b c d e f g h 1).fdiv (nN e f g h)) ((sA a b c d e f g h 2).fdiv (nN e f g h)) ((sA a b c d e f g h 3).fdiv (nN e f g h)) e f g h = c ∧
    m3 ((sA a b c d e f g h 0).fdiv (nN e f g h)) ((sA a b c d e f g h 1).fdiv (nN e f g h)) ((sA a b c d e f g h 2).fdiv (nN e f g h)) ((sA a b c d e f g h 3).fdiv (nN e f g h)) e f g h = d := by
  obtain ⟨h0, h1, h2, h3, h4⟩ := hx
  obtain ⟨k0, k1, k2, k3⟩ := sA_y a b c d e f g h
  have fd : ∀ A : Int, A.fmod (nN e f g h) = 0 → A = A.fdiv (nN e f g h) * nN e f g h := fun A z => by
    have := Int.fmod_add_mul_fdiv A (nN e f g h)
    rw [z, Int.zero_add, Int.mul_comm] at this
    exact this.symm
  have e1 := fd _ h1
  have e2 := fd _ h2
  have e3 := fd _ h3
  have e4 := fd _ h4
  generalize (sA a b c d e f g h 0).fdiv (nN e f g h) = p at *
  generalize (sA a b c d e f g h 1).fdiv (nN e f g h) = q at *
  generalize (sA a b c d e f g h 2).fdiv (nN e f g h) = r at *
  generalize (sA a b c d e f g h 3).fdiv (nN e f g h) = s at *
  rw [e1, e2, e3, e4] at k0 k1 k2 k3
  generalize nN e f g h = N at *
  have sm : ∀ p q r s : Int, m0 (p * N) (q * N) (r * N) (s * N) e f g h = m0 p q r s e f g h * N ∧ m1 (p * N) (q * N) (r * N) (s * N) e f g h = m1 p q r s e f g h * N ∧ m2 (p * N) (q * N) (r * N) (s * N) e f g h = m2 p q r s e f g h * N ∧ m3 (p * N) (q * N) (r * N) (s * N) e f g h = m3 p q r s e f g h * N := fun p q r s => by
    unfold m0 m1 m2 m3
    refine ⟨?_, ?_, ?_, ?_⟩ <;> grind
  obtain ⟨t0, t1, t2, t3⟩ := sm p q r s
  rw [t0] at k0
  rw [t1] at k1
  rw [t2] at k2
  rw [t3] at k3
  exact ⟨Int.eq_of_mul_eq_mul_right h0 k0, Int.eq_of_mul_eq_mul_right h0 k1, Int.eq_of_mul_eq_mul_right h0 k2, Int.eq_of_mul_eq_mul_right h0 k3⟩
theorem fdS {n : Nat} {S N : Int} (hs : Sz n S) : Sz n (S.fdiv N) := Nat.lt_of_le_of_lt (Int.natAbs_fdiv_le_natAbs S N) hs
def tlD : XS := (sseq (sset 3 (xtup (xcons (x2 oIx (xvar 1) (xc (.int 0))) (xcons (x1 oNeg (x2 oIx (xvar 1) (xc (.int 3)))) (xcons (x1 oNeg (x2 oIx (xvar 1) (xc (.int 2)))) (xcons (x1 oNeg (x2 oIx (xvar 1) (xc (.int 1)))) xnil))))))
    (sseq (sset 4 (xcall 2 [] s_L_mul [.val, .val] (xcons (xvar 1) (xcons (xvar 3) xnil))))
    (sseq (sset 5 (xcall 2 [] s_L_mul [.mov, .mov] (xcons (xcall 2 [] s_L_mul [.val, .val] (xcons (xvar 2) (xcons (xvar 3) xnil))) (xcons (xtup (xcons (x2 oIx (xvar 4) (xc (.int 0))) (xcons (x1 oNeg (x2 oIx (xvar 4) (xc (.int 1)))) (xcons (xc (.int 0)) (xcons (x2 oIx (xvar 4) (xc (.int 1))) xnil))))) xnil))))
    (sseq (sset 6 (x2 iSub (x2 oMul (x2 oIx (xvar 4) (xc (.int 0))) (x2 oIx (xvar 4) (xc (.int 0)))) (x2 oMul (x2 oMul (xc (.int 2)) (x2 oIx (xvar 4) (xc (.int 1)))) (x2 oIx (xvar 4) (xc (.int 1))))))
    (sseq (sset 7 (x2 oNe (xvar 6) (xc (.int 0))))
    (sseq (sfor (iany (xvar 5)) (gset 8) lb_law_0)
    (sseq (stry tb_PhasorError 9
    (sset 10 (xcall 2 [] s_ring_divide [.val, .val] (xcons (xvar 2) (xcons (xvar 1) xnil))))
    (fun k => (sret (vand (xisx tb_NotDivisible k) (vnot (xvar 7))))))
    (sret (vand (xvar 7) (vand (xcall 1 [] s_L_is_ring [.val] (xcons (xvar 10) xnil)) (x2 oEq (xcall 2 [] s_L_mul [.val, .val] (xcons (xvar 10) (xcons (xvar 1) xnil))) (xvar 2))))))))))))
theorem w_step {N S : Int} (ok : okMul N (S.fdiv N) = true) (b : Bool) (o0 o1 o2 o3 o4 o5 o8 o9 o10 : Option D) (st : Sto) : stp (gset 8) lb_law_0 (.int S) [o0, o1, o2, o3, o4, o5, some (.int N), some (.bl b), o8, o9, o10] st = .ok (.nx, [o0, o1, o2, o3, o4, o5, some (.int N), some (.bl (b && decide (¬ (N ≠ 0 ∧ S.fmod N ≠ 0)))), some (.int S), o9, o10]) st := by
  have e : S - N * S.fdiv N = S.fmod N := by have := Int.fmod_add_mul_fdiv S N; omega
  by_cases h0 : N = 0
  · simp [stp, lb_law_0, h0]
  · by_cases h1 : S.fmod N = 0
    · simp [stp, lb_law_0, h0, ok, e, h1]
    · simp [stp, lb_law_0, h0, ok, e, h1]
theorem w_loop {N A B C E : Int} (ok : ∀ S, S = A ∨ S = B ∨ S = C ∨ S = E → okMul N (S.fdiv N) = true) (o0 o1 o2 o3 o4 o5 o8 o9 o10 : Option D) (st : Sto) : ∃ b : Bool, ∃ o8', (b = true ↔ dvW N A B C E) ∧
    floop [] (gset 8) lb_law_0 [.int A, .int B, .int C, .int E] [o0, o1, o2, o3, o4, o5, some (.int N), some (.bl (decide (N ≠ 0))), o8, o9, o10] st = .ok (.nx, [o0, o1, o2, o3, o4, o5, some (.int N), some (.bl b), o8', o9, o10]) st := by
  refine ⟨_, _, ?_, by
    rw [floop_nx rfl (w_step (ok A (.inl rfl)) _ o0 o1 o2 o3 o4 o5 o8 o9 o10 st), floop_nx rfl (w_step (ok B (.inr (.inl rfl))) _ o0 o1 o2 o3 o4 o5 _ o9 o10 st), floop_nx rfl (w_step (ok C (.inr (.inr (.inl rfl)))) _ o0 o1 o2 o3 o4 o5 _ o9 o10 st), floop_nx rfl (w_step (ok E (.inr (.inr (.inr rfl)))) _ o0 o1 o2 o3 o4 o5 _ o9 o10 st)]
    rfl⟩
  unfold dvW
  simp only [Bool.and_eq_true, decide_eq_true_eq, not_and, Classical.not_not]
  constructor
  · rintro ⟨⟨⟨⟨h0, h1⟩, h2⟩, h3⟩, h4⟩
    exact ⟨h0, h1 h0, h2 h0, h3 h0, h4 h0⟩
  · rintro ⟨h0, h1, h2, h3, h4⟩
    exact ⟨⟨⟨⟨h0, fun _ => h1⟩, fun _ => h2⟩, fun _ => h3⟩, fun _ => h4⟩
theorem e_tlD {n : Nat} {a b c d e f g h : Int} (h0 : 0 < n) (hn : n ≤ 3000000) (ha : Sz n a) (hb : Sz n b) (hc : Sz n c) (hd : Sz n d) (he : Sz n e) (hf : Sz n f) (hg : Sz n g) (hh : Sz n h) (z : Option D) :
    ∃ en st, tlD [z, some (.tup [.int e, .int f, .int g, .int h]), some (.tup [.int a, .int b, .int c, .int d]), none, none, none, none, none, none, none, none] [] = .ok (.rt (.bl true), en) st := by
  have m1' := l_mulX h0 (by omega) he hf hg hh he hh.neg hg.neg hf.neg
  obtain ⟨c0, c1, c2, c3⟩ := m_conj e f g h
  rw [c0, c1, c2, c3] at m1'
  have m2' := l_mulX h0 (by omega) ha hb hc hd he hh.neg hg.neg hf.neg
  obtain ⟨s0, s1, s2, s3⟩ := m_conjS ha hb hc hd he hf hg hh
  have su := nU_sz he hf hg hh
  have sv := nV_sz he hf hg hh
  have sz : Sz (n + n + 3) 0 := Nat.two_pow_pos _
  have m3' := l_mulX (by omega) (by omega) s0 s1 s2 s3 su sv.neg sz sv
  obtain ⟨t0, t1, t2, t3⟩ := sz_m s0 s1 s2 s3 su sv.neg sz sv
  have e0 : m0 (m0 a b c d e (-h) (-g) (-f)) (m1 a b c d e (-h) (-g) (-f)) (m2 a b c d e (-h) (-g) (-f)) (m3 a b c d e (-h) (-g) (-f)) (nU e f g h) (-nV e f g h) 0 (nV e f g h) = sA a b c d e f g h 0 := rfl
  have e1 : m1 (m0 a b c d e (-h) (-g) (-f)) (m1 a b c d e (-h) (-g) (-f)) (m2 a b c d e (-h) (-g) (-f)) (m3 a b c d e (-h) (-g) (-f)) (nU e f g h) (-nV e f g h) 0 (nV e f g h) = sA a b c d e f g h 1 := rfl
  have e2 : m2 (m0 a b c d e (-h) (-g) (-f)) (m1 a b c d e (-h) (-g) (-f)) (m2 a b c d e (-h) (-g) (-f)) (m3 a b c d e (-h) (-g) (-f)) (nU e f g h) (-nV e f g h) 0 (nV e f g h) = sA a b c d e f g h 2 := rfl
  have e3 : m3 (m0 a b c d e (-h) (-g) (-f)) (m1 a b c d e (-h) (-g) (-f)) (m2 a b c d e (-h) (-g) (-f)) (m3 a b c d e (-h) (-g) (-f)) (nU e f g h) (-nV e f g h) 0 (nV e f g h) = sA a b c d e f g h 3 := rfl
  rw [e0, e1, e2, e3] at m3'
  rw [e0] at t0
  rw [e1] at t1
  rw [e2] at t2
  rw [e3] at t3
  have nz := nN_sz he hf hg hh
  have ok : ∀ S, S = sA a b c d e f g h 0 ∨ S = sA a b c d e f g h 1 ∨ S = sA a b c d e f g h 2 ∨ S = sA a b c d e f g h 3 → okMul (nN e f g h) (S.fdiv (nN e f g h)) = true := fun S q => by
    have : Sz (n + n + 3 + (n + n + 3) + 3) S := by rcases q with rfl | rfl | rfl | rfl <;> assumption
    exact okM nz (fdS this) (by omega) (by omega)
  have o1 : okMul (nU e f g h) (nU e f g h) = true := okM su su (by omega) (by omega)
  have h2 : Sz 2 2 := by unfold Sz; decide
  have o2 : okMul (2 * nV e f g h) (nV e f g h) = true := okMul_sz (h2.mul sv) sv (by omega) (by omega) (by omega)
  have o3 : okMul 2 (nV e f g h) = true := okMul_l _ _ (by decide) (by decide)
  have en : nU e f g h * nU e f g h - 2 * nV e f g h * nV e f g h = nN e f g h := rfl
  obtain ⟨w, o8, hw, lp⟩ := w_loop ok z (some (.tup [.int e, .int f, .int g, .int h])) (some (.tup [.int a, .int b, .int c, .int d])) (some (.tup [.int e, .int (-h), .int (-g), .int (-f)])) (some (.tup [.int (nU e f g h), .int (nV e f g h), .int 0, .int (-nV e f g h)])) (some (.tup [.int (sA a b c d e f g h 0), .int (sA a b c d e f g h 1), .int (sA a b c d e f g h 2), .int (sA a b c d e f g h 3)])) none none none []
  have dv0 := e_div0 (a := a) (b := b) (c := c) (d := d) h0 (by omega) he hf hg hh
  have dv := fun q => e_div h0 (by omega) ha hb hc hd he hf hg hh q
  have mq := l_mulX (by omega) (by omega) (fdS (N := nN e f g h) t0) (fdS (N := nN e f g h) t1) (fdS (N := nN e f g h) t2) (fdS (N := nN e f g h) t3) (he.mono (by omega)) (hf.mono (by omega)) (hg.mono (by omega)) (hh.mono (by omega))
  by_cases hx : dvX a b c d e f g h
  · have q := (dv hx.1).1 hx
    obtain ⟨b0, b1, b2, b3⟩ := q_back hx
    rw [b0, b1, b2, b3] at mq
    have wt : w = true := hw.mpr hx
    subst wt
    have lr := l_ring ((sA a b c d e f g h 0).fdiv (nN e f g h)) ((sA a b c d e f g h 1).fdiv (nN e f g h)) ((sA a b c d e f g h 2).fdiv (nN e f g h)) ((sA a b c d e f g h 3).fdiv (nN e f g h))
    clear hw ok t0 t1 t2 t3 nz e0 e1 e2 e3 s0 s1 s2 s3 su sv dv dv0 b0 b1 b2 b3 c0 c1 c2 c3 hx
    generalize (sA a b c d e f g h 0).fdiv (nN e f g h) = Q0 at *
    generalize (sA a b c d e f g h 1).fdiv (nN e f g h) = Q1 at *
    generalize (sA a b c d e f g h 2).fdiv (nN e f g h) = Q2 at *
    generalize (sA a b c d e f g h 3).fdiv (nN e f g h) = Q3 at *
    generalize sA a b c d e f g h 0 = A at *
    generalize sA a b c d e f g h 1 = B at *
    generalize sA a b c d e f g h 2 = C at *
    generalize sA a b c d e f g h 3 = E at *
    generalize nN e f g h = N at *
    generalize nU e f g h = U at *
    generalize nV e f g h = V at *
    simp only [ne_eq, decide_not] at lp
    simp [tlD, m1', m2', m3', o1, o2, o3, en, lp, q, lr, mq]
  · have q : s_ring_divide [.tup [.int a, .int b, .int c, .int d], .tup [.int e, .int f, .int g, .int h]] = .exc 1 [] [] := by
      by_cases k : nN e f g h = 0
      · exact dv0 k
      · exact (dv k).2 hx
    have wt : w = false := by
      cases w with
      | false => rfl
      | true => exact (hx (hw.mp rfl)).elim
    subst wt
    clear hw ok t0 t1 t2 t3 nz e0 e1 e2 e3 s0 s1 s2 s3 su sv dv dv0 c0 c1 c2 c3 hx mq
    generalize sA a b c d e f g h 0 = A at *
    generalize sA a b c d e f g h 1 = B at *
    generalize sA a b c d e f g h 2 = C at *
    generalize sA a b c d e f g h 3 = E at *
    generalize nN e f g h = N at *
    generalize nU e f g h = U at *
    generalize nV e f g h = V at *
    simp only [ne_eq, decide_not] at lp
    simp [tlD, m1', m2', m3', o1, o2, o3, en, lp, q, tb_PhasorError, tb_NotDivisible]
theorem es_law5 : s_law = xfun 1 10 [] (
    (sseq (sset 1 (xcall 2 [] s_L_ring [.val, .val] (xcons (xvar 0) (xcons (xc (.int 0)) xnil))))
    (sseq (sif (xt (x2 oEq (x2 iMod (xcall 2 [] s_L_cell [.val, .val] (xcons (xvar 0) (xcons (xc (.int 10)) xnil))) (xc (.int 7))) (xc (.int 3))))
    (sset 1 (xtup (xcons (xc (.int 0)) (xcons (xc (.int 0)) (xcons (xc (.int 0)) (xcons (xc (.int 0)) xnil))))))
    snil)
    (sseq (sset 2 (xcall 2 [] s_L_mul [.val, .mov] (xcons (xvar 1) (xcons (xcall 2 [] s_L_ring [.val, .val] (xcons (xvar 0) (xcons (xc (.int 5)) xnil))) xnil))))
    (sseq (sif (xt (x2 oEq (x2 iMod (xcall 2 [] s_L_cell [.val, .val] (xcons (xvar 0) (xcons (xc (.int 10)) xnil))) (xc (.int 2))) (xc (.int 1))))
    (sset 2 (xtup (xcons (x2 oAdd (x2 oIx (xvar 2) (xc (.int 0))) (x2 iMod (xbi bInt (xcons (x2 iDiv (xcall 2 [] s_L_cell [.val, .val] (xcons (xvar 0) (xcons (xc (.int 10)) xnil))) (xc (.int 2))) xnil)) (xc (.int 5)))) (xcons (x2 oAdd (x2 oIx (xvar 2) (xc (.int 1))) (x2 iMod (xbi bInt (xcons (x2 iDiv (xcall 2 [] s_L_cell [.val, .val] (xcons (xvar 0) (xcons (xc (.int 10)) xnil))) (xc (.int 10))) xnil)) (xc (.int 3)))) (xcons (x2 oIx (xvar 2) (xc (.int 2))) (xcons (x2 oIx (xvar 2) (xc (.int 3))) xnil))))))
    snil) tlD))))) := rfl
theorem smS {v k : Int} (h0 : 0 ≤ v) (h5 : v < 8) : Sz 2097155 v := by
  have : Sz 3 v := by unfold Sz; omega
  exact this.mono (by decide)
theorem math : ∀ ns : List Int, ns.length ≤ 63 → (∀ z ∈ ns, Builtin.Int.intBits z ≤ 1048576) → s_law [.lst .ro (ns.map D.int)] = .ok (.bl true) [] := by
  intro ns hl hb
  have y := L_ring hl 0
  have r := L_ring hl 5
  have cv := L_cell hl 10
  have s := ring_sz hb
  simp at y r cv
  generalize celA ns 10 = v at *
  have s0 := s 0 0
  have s1 := s 0 1
  have s2 := s 0 2
  have s3 := s 0 3
  have t0 := s 5 0
  have t1 := s 5 1
  have t2 := s 5 2
  have t3 := s 5 3
  clear s
  obtain ⟨e, f, g, h, hy, k0, k1, k2, k3⟩ : ∃ e f g h : Int, (if v % 7 = 3 then D.tup [.int 0, .int 0, .int 0, .int 0] else .tup [.int (ringA ns 0 0), .int (ringA ns 0 1), .int (ringA ns 0 2), .int (ringA ns 0 3)]) = .tup [.int e, .int f, .int g, .int h] ∧ Sz 1048576 e ∧ Sz 1048576 f ∧ Sz 1048576 g ∧ Sz 1048576 h := by
    by_cases c : v % 7 = 3
    · rw [if_pos c]; exact ⟨0, 0, 0, 0, rfl, Nat.two_pow_pos _, Nat.two_pow_pos _, Nat.two_pow_pos _, Nat.two_pow_pos _⟩
    · rw [if_neg c]; exact ⟨_, _, _, _, rfl, s0, s1, s2, s3⟩
  have m1' := l_mulX (by decide) (by decide) k0 k1 k2 k3 t0 t1 t2 t3
  obtain ⟨q0, q1, q2, q3⟩ := sz_m k0 k1 k2 k3 t0 t1 t2 t3
  have N0 : Sz 2097155 0 := Nat.two_pow_pos _
  have w5 : Sz 2097155 (v / 2 % 5) := smS (k := 0) (by omega) (by omega)
  have w3 : Sz 2097155 (v / 10 % 3) := smS (k := 0) (by omega) (by omega)
  have x0 := q0.add w5
  have x1 := q1.add w3
  clear t0 t1 t2 t3 s0 s1 s2 s3
  generalize ringA ns 0 0 = a at *
  generalize ringA ns 0 1 = b at *
  generalize ringA ns 0 2 = c at *
  generalize ringA ns 0 3 = d at *
  generalize ringA ns 5 0 = i at *
  generalize ringA ns 5 1 = j at *
  generalize ringA ns 5 2 = k at *
  generalize ringA ns 5 3 = l at *
  generalize m0 e f g h i j k l = M0 at *
  generalize m1 e f g h i j k l = M1 at *
  generalize m2 e f g h i j k l = M2 at *
  generalize m3 e f g h i j k l = M3 at *
  rw [es_law5]
  by_cases p2 : v % 2 = 1
  · obtain ⟨en, st, t⟩ := e_tlD (n := 2097156) (by decide) (by decide) x0 x1 (q2.mono (by decide)) (q3.mono (by decide)) (k0.mono (by decide)) (k1.mono (by decide)) (k2.mono (by decide)) (k3.mono (by decide)) (some (.lst .ro (ns.map D.int)))
    generalize tlD = T at *
    by_cases p7 : v % 7 = 3
    · rw [if_pos p7] at hy
      injection hy with hy; injection hy with h1 hy; injection hy with h2 hy; injection hy with h3 hy; injection hy with h4 hy
      injection h1 with h1; injection h2 with h2; injection h3 with h3; injection h4 with h4
      subst h1 h2 h3 h4
      simp [y, r, cv, p7, p2, m1', t]
    · rw [if_neg p7] at hy
      injection hy with hy; injection hy with h1 hy; injection hy with h2 hy; injection hy with h3 hy; injection hy with h4 hy
      injection h1 with h1; injection h2 with h2; injection h3 with h3; injection h4 with h4
      subst h1 h2 h3 h4
      simp [y, r, cv, p7, p2, m1', t]
  · obtain ⟨en, st, t⟩ := e_tlD (n := 2097155) (by decide) (by decide) q0 q1 q2 q3 (k0.mono (by decide)) (k1.mono (by decide)) (k2.mono (by decide)) (k3.mono (by decide)) (some (.lst .ro (ns.map D.int)))
    generalize tlD = T at *
    by_cases p7 : v % 7 = 3
    · rw [if_pos p7] at hy
      injection hy with hy; injection hy with h1 hy; injection hy with h2 hy; injection hy with h3 hy; injection hy with h4 hy
      injection h1 with h1; injection h2 with h2; injection h3 with h3; injection h4 with h4
      subst h1 h2 h3 h4
      simp [y, r, cv, p7, p2, m1', t]
    · rw [if_neg p7] at hy
      injection hy with hy; injection hy with h1 hy; injection hy with h2 hy; injection hy with h3 hy; injection hy with h4 hy
      injection h1 with h1; injection h2 with h2; injection h3 with h3; injection h4 with h4
      subst h1 h2 h3 h4
      simp [y, r, cv, p7, p2, m1', t]

def topS (i : Nat) : Stmt := PySem.Challenge.pw_phasor_k05_ring_division.main.body.getD i (.Pass ⟨0, 0, 0, 0⟩)
section
variable {P : Program} {w : World} {G : GS} {mg : Str → Option Value} {base : Heap}
theorem sc_L_cell : FnScope [("_law_script" : Str), ("_law_k" : Str)] [("_law_script" : Str), ("_law_k" : Str)] (defScope (topS 11)) := ⟨rfl, rfl, rfl, by decide +kernel, rfl, by decide +kernel, by decide +kernel⟩
theorem ok_L_cell (z_len : mg ("len" : Str) = none) {f : Addr} {fd : FuncData} (F : Fun G.K ("_law_cell" : Str) ("_law_cell" : Str) (topS 11) f fd) :
    FnOk P w G.K mg base (L2.CX P w) 1 f fd [("_law_script" : Str), ("_law_k" : Str)] (spF G 2 [] s_L_cell) :=
  fn_ok F sc_L_cell rfl rfl fun cdv A outer s H E hr bd =>
    (sl_cons (ss_if (sb_cmp ho_lt (se_var 1) (se_bi (hc_len bd.K) z_len (sa_cons (se_var 0) sa_nil)))
    (sl_one (ss_ret (se_ix bd.K (se_var 0) (se_var 1))))
    sl_nil)
    (sl_one (ss_ret se_int)))
theorem sc_L_part : FnScope [("_law_number" : Str), ("_law_digit" : Str)] [("_law_number" : Str), ("_law_digit" : Str)] (defScope (topS 12)) := ⟨rfl, rfl, rfl, by decide +kernel, rfl, by decide +kernel, by decide +kernel⟩
theorem ok_L_part (z_int : mg ("int" : Str) = none) {f : Addr} {fd : FuncData} (F : Fun G.K ("_law_part" : Str) ("_law_part" : Str) (topS 12) f fd) :
    FnOk P w G.K mg base (L2.CX P w) 1 f fd [("_law_number" : Str), ("_law_digit" : Str)] (spF G 2 [] s_L_part) :=
  fn_ok F sc_L_part rfl rfl fun cdv A outer s H E hr bd =>
    (sl_cons (ss_if (sb_cmp (ho_eq bd.K hr.units) (se_op ho_mod (se_ty hc_int z_int (sa_cons (se_var 1) sa_nil)) se_int) se_int)
    (sl_one (ss_ret (se_var 0)))
    sl_nil)
    (sl_cons (ss_if (sb_cmp (ho_eq bd.K hr.units) (se_op ho_mod (se_ty hc_int z_int (sa_cons (se_var 1) sa_nil)) se_int) se_int)
    (sl_one (ss_ret (se_op ho_mod (se_un ho_neg (se_ty hc_int z_int (sa_cons (se_var 0) sa_nil))) se_int)))
    sl_nil)
    (sl_one (ss_ret (se_op ho_sub (se_op ho_mod (se_ty hc_int z_int (sa_cons (se_var 0) sa_nil)) se_int) se_int)))))
theorem sc_L_ring : FnScope [("_law_script" : Str), ("_law_first" : Str), ("_law_digit" : Str), ("_law_parts" : Str), ("_law_k" : Str)] [("_law_script" : Str), ("_law_first" : Str)] (defScope (topS 13)) := ⟨rfl, rfl, rfl, by decide +kernel, rfl, by decide +kernel, by decide +kernel⟩
theorem ok_L_ring (z_abs : mg ("abs" : Str) = none) (z_range : mg ("range" : Str) = none) (c_L_cell : CallF P w G mg base ("_law_cell" : Str) 1 2 [] s_L_cell) (c_L_part : CallF P w G mg base ("_law_part" : Str) 1 2 [] s_L_part) {f : Addr} {fd : FuncData} (F : Fun G.K ("_law_ring" : Str) ("_law_ring" : Str) (topS 13) f fd) :
    FnOk P w G.K mg base (L2.CX P w) 2 f fd [("_law_script" : Str), ("_law_first" : Str)] (spF G 2 [] s_L_ring) :=
  fn_ok F sc_L_ring rfl rfl fun cdv A outer s H E hr bd =>
    (sl_cons (ss_set 2 bd.nd (se_bi hc_abs z_abs (sa_cons (se_callF [.val, .mov] bd.K bd.tk c_L_cell (hr.mono (by decide)) (sa_cons (se_var 0) (sa_cons (se_op (ho_add bd.K) (se_var 1) se_int) sa_nil))) sa_nil)))
    (sl_cons (ss_set 3 bd.nd (se_lst sa_nil))
    (sl_cons (ss_for bd.own bd.calm (si_rng1 z_range (sa_cons se_int sa_nil)) (sg_name 4 bd.nd)
    (sl_cons (ss_expr (se_app bd.K (se_var 3) (se_callF [.mov, .val] bd.K bd.tk c_L_part (hr.mono (by decide)) (sa_cons (se_callF [.val, .mov] bd.K bd.tk c_L_cell (hr.mono (by decide)) (sa_cons (se_var 0) (sa_cons (se_op (ho_add bd.K) (se_var 1) (se_var 4)) sa_nil))) (sa_cons (se_var 2) sa_nil)))))
    (sl_one (ss_set 2 bd.nd (se_op ho_div (se_var 2) se_int)))))
    (sl_one (ss_ret (se_tup (sa_cons (se_ix bd.K (se_var 3) se_int) (sa_cons (se_ix bd.K (se_var 3) se_int) (sa_cons (se_ix bd.K (se_var 3) se_int) (sa_cons (se_ix bd.K (se_var 3) se_int) sa_nil))))))))))
theorem sc_L_mul : FnScope [("_law_x" : Str), ("_law_y" : Str), ("_law_parts" : Str), ("_law_i" : Str), ("_law_j" : Str)] [("_law_x" : Str), ("_law_y" : Str)] (defScope (topS 14)) := ⟨rfl, rfl, rfl, by decide +kernel, rfl, by decide +kernel, by decide +kernel⟩
theorem ok_L_mul (z_range : mg ("range" : Str) = none) {f : Addr} {fd : FuncData} (F : Fun G.K ("_law_mul" : Str) ("_law_mul" : Str) (topS 14) f fd) :
    FnOk P w G.K mg base (L2.CX P w) 1 f fd [("_law_x" : Str), ("_law_y" : Str)] (spF G 2 [] s_L_mul) :=
  fn_ok F sc_L_mul rfl rfl fun cdv A outer s H E hr bd =>
    (sl_cons (ss_set 2 bd.nd (se_lst (sa_cons se_int (sa_cons se_int (sa_cons se_int (sa_cons se_int (sa_cons se_int (sa_cons se_int (sa_cons se_int sa_nil)))))))))
    (sl_cons (ss_for bd.own bd.calm (si_rng1 z_range (sa_cons se_int sa_nil)) (sg_name 3 bd.nd)
    (sl_one (ss_for bd.own bd.calm (si_rng1 z_range (sa_cons se_int sa_nil)) (sg_name 4 bd.nd)
    (sl_one (ss_asg (se_op (ho_add bd.K) (se_ix bd.K (se_var 2) (se_op (ho_add bd.K) (se_var 3) (se_var 4))) (se_op ho_mul (se_ix bd.K (se_var 0) (se_var 3)) (se_ix bd.K (se_var 1) (se_var 4)))) (sg_sub (se_var 2) (se_op (ho_add bd.K) (se_var 3) (se_var 4)) ho_setL))))))
    (sl_one (ss_ret (se_tup (sa_cons (se_op ho_sub (se_ix bd.K (se_var 2) se_int) (se_ix bd.K (se_var 2) se_int)) (sa_cons (se_op ho_sub (se_ix bd.K (se_var 2) se_int) (se_ix bd.K (se_var 2) se_int)) (sa_cons (se_op ho_sub (se_ix bd.K (se_var 2) se_int) (se_ix bd.K (se_var 2) se_int)) (sa_cons (se_ix bd.K (se_var 2) se_int) sa_nil)))))))))
theorem sc_ring_abs_square : FnScope [("x" : Str), ("a" : Str), ("b" : Str), ("c" : Str), ("d" : Str)] [("x" : Str)] (defScope (topS 6)) := ⟨rfl, rfl, rfl, by decide +kernel, rfl, by decide +kernel, by decide +kernel⟩
theorem ok_ring_abs_square {f : Addr} {fd : FuncData} (F : Fun G.K ("ring_abs_square" : Str) ("ring_abs_square" : Str) (topS 6) f fd) :
    FnOk P w G.K mg base (L2.CX P w) 1 f fd [("x" : Str)] (spF G 1 [] s_ring_abs_square) :=
  fn_ok F sc_ring_abs_square rfl rfl fun cdv A outer s H E hr bd =>
    (sl_cons (ss_asg (se_var 0) (sg_tup 4 bd.K bd.calm (sgs_cons (sg_name 1 bd.nd) (sgs_cons (sg_name 2 bd.nd) (sgs_cons (sg_name 3 bd.nd) (sgs_cons (sg_name 4 bd.nd) sgs_nil))))))
    (sl_one (ss_ret (se_tup (sa_cons (se_op (ho_add bd.K) (se_op (ho_add bd.K) (se_op (ho_add bd.K) (se_op ho_mul (se_var 1) (se_var 1)) (se_op ho_mul (se_var 2) (se_var 2))) (se_op ho_mul (se_var 3) (se_var 3))) (se_op ho_mul (se_var 4) (se_var 4))) (sa_cons (se_op ho_sub (se_op (ho_add bd.K) (se_op (ho_add bd.K) (se_op ho_mul (se_var 1) (se_var 2)) (se_op ho_mul (se_var 2) (se_var 3))) (se_op ho_mul (se_var 3) (se_var 4))) (se_op ho_mul (se_var 4) (se_var 1))) sa_nil))))))
theorem sc_ring_norm : FnScope [("x" : Str), ("u" : Str), ("v" : Str)] [("x" : Str)] (defScope (topS 7)) := ⟨rfl, rfl, rfl, by decide +kernel, rfl, by decide +kernel, by decide +kernel⟩
theorem ok_ring_norm (c_ring_abs_square : CallF P w G mg base ("ring_abs_square" : Str) 1 1 [] s_ring_abs_square) {f : Addr} {fd : FuncData} (F : Fun G.K ("ring_norm" : Str) ("ring_norm" : Str) (topS 7) f fd) :
    FnOk P w G.K mg base (L2.CX P w) 2 f fd [("x" : Str)] (spF G 1 [] s_ring_norm) :=
  fn_ok F sc_ring_norm rfl rfl fun cdv A outer s H E hr bd =>
    (sl_cons (ss_asg (se_callF [.val] bd.K bd.tk c_ring_abs_square (hr.mono (by decide)) (sa_cons (se_var 0) sa_nil)) (sg_tup 2 bd.K bd.calm (sgs_cons (sg_name 1 bd.nd) (sgs_cons (sg_name 2 bd.nd) sgs_nil))))
    (sl_one (ss_ret (se_op ho_sub (se_op ho_mul (se_var 1) (se_var 1)) (se_op ho_mul (se_op ho_mul se_int (se_var 2)) (se_var 2))))))
theorem sc_ring_mul : FnScope [("x" : Str), ("y" : Str), ("a" : Str), ("b" : Str), ("c" : Str), ("d" : Str), ("e" : Str), ("f" : Str), ("g" : Str), ("h" : Str)] [("x" : Str), ("y" : Str)] (defScope (topS 4)) := ⟨rfl, rfl, rfl, by decide +kernel, rfl, by decide +kernel, by decide +kernel⟩
theorem ok_ring_mul {f : Addr} {fd : FuncData} (F : Fun G.K ("ring_mul" : Str) ("ring_mul" : Str) (topS 4) f fd) :
    FnOk P w G.K mg base (L2.CX P w) 1 f fd [("x" : Str), ("y" : Str)] (spF G 2 [] s_ring_mul) :=
  fn_ok F sc_ring_mul rfl rfl fun cdv A outer s H E hr bd =>
    (sl_cons (ss_asg (se_var 0) (sg_tup 4 bd.K bd.calm (sgs_cons (sg_name 2 bd.nd) (sgs_cons (sg_name 3 bd.nd) (sgs_cons (sg_name 4 bd.nd) (sgs_cons (sg_name 5 bd.nd) sgs_nil))))))
    (sl_cons (ss_asg (se_var 1) (sg_tup 4 bd.K bd.calm (sgs_cons (sg_name 6 bd.nd) (sgs_cons (sg_name 7 bd.nd) (sgs_cons (sg_name 8 bd.nd) (sgs_cons (sg_name 9 bd.nd) sgs_nil))))))
    (sl_one (ss_ret (se_tup (sa_cons (se_op ho_sub (se_op ho_sub (se_op ho_sub (se_op ho_mul (se_var 2) (se_var 6)) (se_op ho_mul (se_var 3) (se_var 9))) (se_op ho_mul (se_var 4) (se_var 8))) (se_op ho_mul (se_var 5) (se_var 7))) (sa_cons (se_op ho_sub (se_op ho_sub (se_op (ho_add bd.K) (se_op ho_mul (se_var 2) (se_var 7)) (se_op ho_mul (se_var 3) (se_var 6))) (se_op ho_mul (se_var 4) (se_var 9))) (se_op ho_mul (se_var 5) (se_var 8))) (sa_cons (se_op ho_sub (se_op (ho_add bd.K) (se_op (ho_add bd.K) (se_op ho_mul (se_var 2) (se_var 8)) (se_op ho_mul (se_var 3) (se_var 7))) (se_op ho_mul (se_var 4) (se_var 6))) (se_op ho_mul (se_var 5) (se_var 9))) (sa_cons (se_op (ho_add bd.K) (se_op (ho_add bd.K) (se_op (ho_add bd.K) (se_op ho_mul (se_var 2) (se_var 9)) (se_op ho_mul (se_var 3) (se_var 8))) (se_op ho_mul (se_var 4) (se_var 7))) (se_op ho_mul (se_var 5) (se_var 6))) sa_nil)))))))))
theorem sc_ring_conjugate : FnScope [("x" : Str), ("a" : Str), ("b" : Str), ("c" : Str), ("d" : Str)] [("x" : Str)] (defScope (topS 5)) := ⟨rfl, rfl, rfl, by decide +kernel, rfl, by decide +kernel, by decide +kernel⟩
theorem ok_ring_conjugate {f : Addr} {fd : FuncData} (F : Fun G.K ("ring_conjugate" : Str) ("ring_conjugate" : Str) (topS 5) f fd) :
    FnOk P w G.K mg base (L2.CX P w) 1 f fd [("x" : Str)] (spF G 1 [] s_ring_conjugate) :=
  fn_ok F sc_ring_conjugate rfl rfl fun cdv A outer s H E hr bd =>
    (sl_cons (ss_asg (se_var 0) (sg_tup 4 bd.K bd.calm (sgs_cons (sg_name 1 bd.nd) (sgs_cons (sg_name 2 bd.nd) (sgs_cons (sg_name 3 bd.nd) (sgs_cons (sg_name 4 bd.nd) sgs_nil))))))
    (sl_one (ss_ret (se_tup (sa_cons (se_var 1) (sa_cons (se_un ho_neg (se_var 4)) (sa_cons (se_un ho_neg (se_var 3)) (sa_cons (se_un ho_neg (se_var 2)) sa_nil))))))))
theorem sc_ring_divide : FnScope [("x" : Str), ("y" : Str), ("norm" : Str), ("scaled" : Str), ("quotient" : Str), ("part" : Str), ("u" : Str), ("v" : Str), ("a" : Str), ("b" : Str), ("c" : Str), ("d" : Str), ("share" : Str), ("rest" : Str)] [("x" : Str), ("y" : Str)] (defScope (topS 8)) := ⟨rfl, rfl, rfl, by decide +kernel, rfl, by decide +kernel, by decide +kernel⟩
theorem ok_ring_divide (hS : base.NoSeer) (hT : P.given.tree = none) (z_divmod : mg ("divmod" : Str) = none) (x_NotDivisible : ExF G mg ("NotDivisible" : Str) 1) (c_ring_norm : CallF P w G mg base ("ring_norm" : Str) 2 1 [] s_ring_norm) (c_ring_abs_square : CallF P w G mg base ("ring_abs_square" : Str) 1 1 [] s_ring_abs_square) (c_ring_mul : CallF P w G mg base ("ring_mul" : Str) 1 2 [] s_ring_mul) (c_ring_conjugate : CallF P w G mg base ("ring_conjugate" : Str) 1 1 [] s_ring_conjugate) {f : Addr} {fd : FuncData} (F : Fun G.K ("ring_divide" : Str) ("ring_divide" : Str) (topS 8) f fd) :
    FnOk P w G.K mg base (L2.CX P w) 41 f fd [("x" : Str), ("y" : Str)] (spF G 2 [] s_ring_divide) :=
  fn_ok F sc_ring_divide rfl rfl fun cdv A outer s H E hr bd =>
    (sl_cons (ss_set 2 bd.nd (se_callF [.val] bd.K bd.tk c_ring_norm (hr.mono (by decide)) (sa_cons (se_var 1) sa_nil)))
    (sl_cons (ss_if (sb_cmp (ho_eq bd.K hr.units) (se_var 2) se_int)
    (sl_one (ss_raise 1 bd.K bd.calm bd.tk x_NotDivisible))
    sl_nil)
    (sl_cons (ss_asg (se_callF [.val] bd.K bd.tk c_ring_abs_square (hr.mono (by decide)) (sa_cons (se_var 1) sa_nil)) (sg_tup 2 bd.K bd.calm (sgs_cons (sg_name 6 bd.nd) (sgs_cons (sg_name 7 bd.nd) sgs_nil))))
    (sl_cons (ss_set 3 bd.nd (se_callF [.mov, .mov] bd.K bd.tk c_ring_mul (hr.mono (by decide)) (sa_cons (se_callF [.val, .mov] bd.K bd.tk c_ring_mul (hr.mono (by decide)) (sa_cons (se_var 0) (sa_cons (se_callF [.val] bd.K bd.tk c_ring_conjugate (hr.mono (by decide)) (sa_cons (se_var 1) sa_nil)) sa_nil))) (sa_cons (se_tup (sa_cons (se_var 6) (sa_cons (se_un ho_neg (se_var 7)) (sa_cons se_int (sa_cons (se_var 7) sa_nil))))) sa_nil))))
    (sl_cons (ss_set 4 bd.nd (se_lst sa_nil))
    (sl_cons (ss_for bd.own bd.calm (si_any bd.K (se_var 3)) (sg_name 5 bd.nd)
    (sl_cons (ss_asg (se_bi (hc_divmod (big_of hr (by decide) hS hT)) z_divmod (sa_cons (se_var 5) (sa_cons (se_var 2) sa_nil))) (sg_tup 2 bd.K bd.calm (sgs_cons (sg_name 12 bd.nd) (sgs_cons (sg_name 13 bd.nd) sgs_nil))))
    (sl_cons (ss_if (sb_cmp (ho_ne bd.K hr.units) (se_var 13) se_int)
    (sl_one (ss_raise 1 bd.K bd.calm bd.tk x_NotDivisible))
    sl_nil)
    (sl_one (ss_expr (se_app bd.K (se_var 4) (se_var 12)))))))
    (sl_cons (ss_asg (se_var 4) (sg_tup 4 bd.K bd.calm (sgs_cons (sg_name 8 bd.nd) (sgs_cons (sg_name 9 bd.nd) (sgs_cons (sg_name 10 bd.nd) (sgs_cons (sg_name 11 bd.nd) sgs_nil))))))
    (sl_one (ss_ret (se_tup (sa_cons (se_var 8) (sa_cons (se_var 9) (sa_cons (se_var 10) (sa_cons (se_var 11) sa_nil))))))))))))))
theorem sc_L_is_integer : FnScope [("_law_actual" : Str)] [("_law_actual" : Str)] (defScope (topS 10)) := ⟨rfl, rfl, rfl, by decide +kernel, rfl, by decide +kernel, by decide +kernel⟩
theorem ok_L_is_integer (z_bool : mg ("bool" : Str) = none) (z_int : mg ("int" : Str) = none) (z_isinstance : mg ("isinstance" : Str) = none) {f : Addr} {fd : FuncData} (F : Fun G.K ("_law_is_integer" : Str) ("_law_is_integer" : Str) (topS 10) f fd) :
    FnOk P w G.K mg base (L2.CX P w) 1 f fd [("_law_actual" : Str)] (spF G 1 [] s_L_is_integer) :=
  fn_ok F sc_L_is_integer rfl rfl fun cdv A outer s H E hr bd =>
    (sl_one (ss_ret (se_and (se_isa bd.K z_isinstance z_int (se_var 0)) (se_one (se_not (se_isa bd.K z_isinstance z_bool (se_var 0)))))))
theorem sc_L_is_ring : FnScope [("_law_actual" : Str), ("_law_part_here" : Str)] [("_law_actual" : Str)] (defScope (topS 15)) := ⟨rfl, rfl, rfl, by decide +kernel, rfl, by decide +kernel, by decide +kernel⟩
theorem ok_L_is_ring (z_isinstance : mg ("isinstance" : Str) = none) (z_len : mg ("len" : Str) = none) (z_tuple : mg ("tuple" : Str) = none) (c_L_is_integer : CallF P w G mg base ("_law_is_integer" : Str) 1 1 [] s_L_is_integer) {f : Addr} {fd : FuncData} (F : Fun G.K ("_law_is_ring" : Str) ("_law_is_ring" : Str) (topS 15) f fd) :
    FnOk P w G.K mg base (L2.CX P w) 2 f fd [("_law_actual" : Str)] (spF G 1 [] s_L_is_ring) :=
  fn_ok F sc_L_is_ring rfl rfl fun cdv A outer s H E hr bd =>
    (sl_cons (ss_if (sb_w (sw_or (sb_not (sb_val (se_isa bd.K z_isinstance z_tuple (se_var 0)))) (sw_one_or (sb_cmp (ho_ne bd.K hr.units) (se_bi (hc_len bd.K) z_len (sa_cons (se_var 0) sa_nil)) se_int))))
    (sl_one (ss_ret se_bl))
    sl_nil)
    (sl_cons (ss_for bd.own bd.calm (si_any bd.K (se_var 0)) (sg_name 1 bd.nd)
    (sl_one (ss_if (sb_not (sb_val (se_callF [.val] bd.K bd.tk c_L_is_integer (hr.mono (by decide)) (sa_cons (se_var 1) sa_nil))))
    (sl_one (ss_ret se_bl))
    sl_nil)))
    (sl_one (ss_ret se_bl))))
theorem sc_law : FnScope [("_law_script" : Str), ("_law_y" : Str), ("_law_x" : Str), ("_law_mirrored" : Str), ("_law_square" : Str), ("_law_raised" : Str), ("_law_norm" : Str), ("_law_whole" : Str), ("_law_part_here" : Str), ("e" : Str), ("_law_quotient" : Str)] [("_law_script" : Str)] (defScope (topS 16)) := ⟨rfl, rfl, rfl, by decide +kernel, rfl, by decide +kernel, by decide +kernel⟩
theorem ok_law (hS : base.NoSeer) (hT : P.given.tree = none) (z_int : mg ("int" : Str) = none) (z_isinstance : mg ("isinstance" : Str) = none) (n_NotDivisible : ExN G mg ("NotDivisible" : Str) 1 tb_NotDivisible) (n_PhasorError : ExN G mg ("PhasorError" : Str) 0 tb_PhasorError) (c_L_ring : CallF P w G mg base ("_law_ring" : Str) 2 2 [] s_L_ring) (c_L_cell : CallF P w G mg base ("_law_cell" : Str) 1 2 [] s_L_cell) (c_L_mul : CallF P w G mg base ("_law_mul" : Str) 1 2 [] s_L_mul) (c_ring_divide : CallF P w G mg base ("ring_divide" : Str) 41 2 [] s_ring_divide) (c_L_is_ring : CallF P w G mg base ("_law_is_ring" : Str) 2 1 [] s_L_is_ring) {f : Addr} {fd : FuncData} (F : Fun G.K ("law" : Str) ("law" : Str) (topS 16) f fd) :
    FnOk P w G.K mg base (L2.CX P w) 42 f fd [("_law_script" : Str)] (spF G 1 [] s_law) :=
  fn_ok F sc_law rfl rfl fun cdv A outer s H E hr bd =>
    (sl_cons (ss_set 1 bd.nd (se_callF [.val, .val] bd.K bd.tk c_L_ring (hr.mono (by decide)) (sa_cons (se_var 0) (sa_cons se_int sa_nil))))
    (sl_cons (ss_if (sb_cmp (ho_eq bd.K hr.units) (se_op ho_mod (se_callF [.val, .val] bd.K bd.tk c_L_cell (hr.mono (by decide)) (sa_cons (se_var 0) (sa_cons se_int sa_nil))) se_int) se_int)
    (sl_one (ss_set 1 bd.nd (se_tup (sa_cons se_int (sa_cons se_int (sa_cons se_int (sa_cons se_int sa_nil)))))))
    sl_nil)
    (sl_cons (ss_set 2 bd.nd (se_callF [.val, .mov] bd.K bd.tk c_L_mul (hr.mono (by decide)) (sa_cons (se_var 1) (sa_cons (se_callF [.val, .val] bd.K bd.tk c_L_ring (hr.mono (by decide)) (sa_cons (se_var 0) (sa_cons se_int sa_nil))) sa_nil))))
    (sl_cons (ss_if (sb_cmp (ho_eq bd.K hr.units) (se_op ho_mod (se_callF [.val, .val] bd.K bd.tk c_L_cell (hr.mono (by decide)) (sa_cons (se_var 0) (sa_cons se_int sa_nil))) se_int) se_int)
    (sl_one (ss_set 2 bd.nd (se_tup (sa_cons (se_op (ho_add bd.K) (se_ix bd.K (se_var 2) se_int) (se_op ho_mod (se_ty hc_int z_int (sa_cons (se_op ho_div (se_callF [.val, .val] bd.K bd.tk c_L_cell (hr.mono (by decide)) (sa_cons (se_var 0) (sa_cons se_int sa_nil))) se_int) sa_nil)) se_int)) (sa_cons (se_op (ho_add bd.K) (se_ix bd.K (se_var 2) se_int) (se_op ho_mod (se_ty hc_int z_int (sa_cons (se_op ho_div (se_callF [.val, .val] bd.K bd.tk c_L_cell (hr.mono (by decide)) (sa_cons (se_var 0) (sa_cons se_int sa_nil))) se_int) sa_nil)) se_int)) (sa_cons (se_ix bd.K (se_var 2) se_int) (sa_cons (se_ix bd.K (se_var 2) se_int) sa_nil)))))))
    sl_nil)
    (sl_cons (ss_set 3 bd.nd (se_tup (sa_cons (se_ix bd.K (se_var 1) se_int) (sa_cons (se_un ho_neg (se_ix bd.K (se_var 1) se_int)) (sa_cons (se_un ho_neg (se_ix bd.K (se_var 1) se_int)) (sa_cons (se_un ho_neg (se_ix bd.K (se_var 1) se_int)) sa_nil))))))
    (sl_cons (ss_set 4 bd.nd (se_callF [.val, .val] bd.K bd.tk c_L_mul (hr.mono (by decide)) (sa_cons (se_var 1) (sa_cons (se_var 3) sa_nil))))
    (sl_cons (ss_set 5 bd.nd (se_callF [.mov, .mov] bd.K bd.tk c_L_mul (hr.mono (by decide)) (sa_cons (se_callF [.val, .val] bd.K bd.tk c_L_mul (hr.mono (by decide)) (sa_cons (se_var 2) (sa_cons (se_var 3) sa_nil))) (sa_cons (se_tup (sa_cons (se_ix bd.K (se_var 4) se_int) (sa_cons (se_un ho_neg (se_ix bd.K (se_var 4) se_int)) (sa_cons se_int (sa_cons (se_ix bd.K (se_var 4) se_int) sa_nil))))) sa_nil))))
    (sl_cons (ss_set 6 bd.nd (se_op ho_sub (se_op ho_mul (se_ix bd.K (se_var 4) se_int) (se_ix bd.K (se_var 4) se_int)) (se_op ho_mul (se_op ho_mul se_int (se_ix bd.K (se_var 4) se_int)) (se_ix bd.K (se_var 4) se_int))))
    (sl_cons (ss_set 7 bd.nd (se_cmp (ho_ne bd.K hr.units) (se_var 6) se_int))
    (sl_cons (ss_for bd.own bd.calm (si_any bd.K (se_var 5)) (sg_name 8 bd.nd)
    (sl_one (ss_if (sb_w (sw_and (sb_cmp (ho_ne bd.K hr.units) (se_var 6) se_int) (sw_one_and (sb_cmp (ho_ne bd.K hr.units) (se_op ho_sub (se_var 8) (se_op ho_mul (se_var 6) (se_op (ho_divN (big_of hr (by decide) hS hT)) (se_var 8) (se_var 6)))) se_int))))
    (sl_one (ss_set 7 bd.nd se_bl))
    sl_nil)))
    (sl_cons (ss_try 9 bd n_PhasorError (fun W pn xe bd => (sl_one (ss_set 10 bd.nd (se_callF [.val, .val] bd.K bd.tk c_ring_divide (hr.mono (by decide)) (sa_cons (se_var 2) (sa_cons (se_var 1) sa_nil)))))) (fun a oe pn k hz hf => (slp_one (ssp_ret (sep_and (sep_isx bd.K hz hf n_NotDivisible z_isinstance) (sep_one (sep (se_not (se_var 7)))))))))
    (sl_one (ss_ret (se_and (se_var 7) (se_and (se_callF [.val] bd.K bd.tk c_L_is_ring (hr.mono (by decide)) (sa_cons (se_var 10) sa_nil)) (se_one (se_cmp (ho_eq bd.K hr.units) (se_callF [.val, .val] bd.K bd.tk c_L_mul (hr.mono (by decide)) (sa_cons (se_var 10) (sa_cons (se_var 1) sa_nil))) (se_var 2))))))))))))))))))
end
def exA (K : PySem.W.Frag) (x : Str) : Addr := match PySem.W.nsIn K mainGlobals x with | some (some (.ref a)) => a | _ => 0
def flN : Nat → List Str := fun n => ([] : List (List Str)).getD n []
def GK (K : PySem.W.Frag) : GS := ⟨K, fun n => exA K (([] : List Str).getD n ""), flN, fun n => exA K (([("PhasorError" : Str), ("NotDivisible" : Str)] : List Str).getD n "")⟩
theorem ln1 {α β : Type} {y0 : β} {P : List α → Prop} (h : ∀ x0, P [x0]) : ∀ us : List α, us.length = ([y0] : List β).length → P us := fun us hl => match us, hl with | [_], _ => h _
theorem ln2 {α β : Type} {y0 y1 : β} {P : List α → Prop} (h : ∀ x0 x1, P [x0, x1]) : ∀ us : List α, us.length = ([y0, y1] : List β).length → P us := fun us hl => match us, hl with | [_, _], _ => h _ _
theorem all_mk {l : PySem.W.OpenLaw} {w : World} {K : PySem.W.Frag} {h : Heap} {mg : Str → Option Value} {fa : Addr} (X : K.In h) (G : h.Ns mainGlobals mg) (hfa : mg "law" = some (.ref fa)) (hT : l.prog.given.tree = none)
    {f1 : Addr} {od1 an1 : Option Addr} {sl1 : Array (Option Value)} {oc1 kV1 dc1 pm1 cd1 ct1 : Value}
    {f2 : Addr} {od2 an2 : Option Addr} {sl2 : Array (Option Value)} {oc2 kV2 dc2 pm2 cd2 ct2 : Value}
    {f3 : Addr} {od3 an3 : Option Addr} {sl3 : Array (Option Value)} {oc3 kV3 dc3 pm3 cd3 ct3 : Value}
    {f4 : Addr} {od4 an4 : Option Addr} {sl4 : Array (Option Value)} {oc4 kV4 dc4 pm4 cd4 ct4 : Value}
    {f5 : Addr} {od5 an5 : Option Addr} {sl5 : Array (Option Value)} {oc5 kV5 dc5 pm5 cd5 ct5 : Value}
    {f6 : Addr} {od6 an6 : Option Addr} {sl6 : Array (Option Value)} {oc6 kV6 dc6 pm6 cd6 ct6 : Value}
    {f7 : Addr} {od7 an7 : Option Addr} {sl7 : Array (Option Value)} {oc7 kV7 dc7 pm7 cd7 ct7 : Value}
    {f8 : Addr} {od8 an8 : Option Addr} {sl8 : Array (Option Value)} {oc8 kV8 dc8 pm8 cd8 ct8 : Value}
    {f9 : Addr} {od9 an9 : Option Addr} {sl9 : Array (Option Value)} {oc9 kV9 dc9 pm9 cd9 ct9 : Value}
    {f10 : Addr} {od10 an10 : Option Addr} {sl10 : Array (Option Value)} {oc10 kV10 dc10 pm10 cd10 ct10 : Value}
    {f11 : Addr} {od11 an11 : Option Addr} {sl11 : Array (Option Value)} {oc11 kV11 dc11 pm11 cd11 ct11 : Value}
    {f12 : Addr} {od12 an12 : Option Addr} {sl12 : Array (Option Value)} {oc12 kV12 dc12 pm12 cd12 ct12 : Value}
    {xa_PhasorError : Addr}
    {xa_NotDivisible : Addr}
    (a1 : PySem.W.nsIn K mainGlobals ("_law_cell" : Str) = some (some (.ref f1)))
    (l1 : K.lookup f1 = some ⟨oc1, od1, .func (PySem.W.fnOf ("_law_cell" : Str) ("_law_cell" : Str) (defArgs (topS 11)) (defBody (topS 11)) (defScope (topS 11)) .none kV1 dc1 pm1 an1 cd1 ct1), sl1⟩) (e1 : PySem.W.codeIn K cd1 ("_law_cell" : Str) = true) (k1 : PySem.W.keepIn K (.ref f1) = true)
    (a2 : PySem.W.nsIn K mainGlobals ("_law_part" : Str) = some (some (.ref f2)))
    (l2 : K.lookup f2 = some ⟨oc2, od2, .func (PySem.W.fnOf ("_law_part" : Str) ("_law_part" : Str) (defArgs (topS 12)) (defBody (topS 12)) (defScope (topS 12)) .none kV2 dc2 pm2 an2 cd2 ct2), sl2⟩) (e2 : PySem.W.codeIn K cd2 ("_law_part" : Str) = true) (k2 : PySem.W.keepIn K (.ref f2) = true)
    (a3 : PySem.W.nsIn K mainGlobals ("_law_ring" : Str) = some (some (.ref f3)))
    (l3 : K.lookup f3 = some ⟨oc3, od3, .func (PySem.W.fnOf ("_law_ring" : Str) ("_law_ring" : Str) (defArgs (topS 13)) (defBody (topS 13)) (defScope (topS 13)) .none kV3 dc3 pm3 an3 cd3 ct3), sl3⟩) (e3 : PySem.W.codeIn K cd3 ("_law_ring" : Str) = true) (k3 : PySem.W.keepIn K (.ref f3) = true)
    (a4 : PySem.W.nsIn K mainGlobals ("_law_mul" : Str) = some (some (.ref f4)))
    (l4 : K.lookup f4 = some ⟨oc4, od4, .func (PySem.W.fnOf ("_law_mul" : Str) ("_law_mul" : Str) (defArgs (topS 14)) (defBody (topS 14)) (defScope (topS 14)) .none kV4 dc4 pm4 an4 cd4 ct4), sl4⟩) (e4 : PySem.W.codeIn K cd4 ("_law_mul" : Str) = true) (k4 : PySem.W.keepIn K (.ref f4) = true)
    (a5 : PySem.W.nsIn K mainGlobals ("ring_abs_square" : Str) = some (some (.ref f5)))
    (l5 : K.lookup f5 = some ⟨oc5, od5, .func (PySem.W.fnOf ("ring_abs_square" : Str) ("ring_abs_square" : Str) (defArgs (topS 6)) (defBody (topS 6)) (defScope (topS 6)) .none kV5 dc5 pm5 an5 cd5 ct5), sl5⟩) (e5 : PySem.W.codeIn K cd5 ("ring_abs_square" : Str) = true) (k5 : PySem.W.keepIn K (.ref f5) = true)
    (a6 : PySem.W.nsIn K mainGlobals ("ring_norm" : Str) = some (some (.ref f6)))
    (l6 : K.lookup f6 = some ⟨oc6, od6, .func (PySem.W.fnOf ("ring_norm" : Str) ("ring_norm" : Str) (defArgs (topS 7)) (defBody (topS 7)) (defScope (topS 7)) .none kV6 dc6 pm6 an6 cd6 ct6), sl6⟩) (e6 : PySem.W.codeIn K cd6 ("ring_norm" : Str) = true) (k6 : PySem.W.keepIn K (.ref f6) = true)
    (a7 : PySem.W.nsIn K mainGlobals ("ring_mul" : Str) = some (some (.ref f7)))
    (l7 : K.lookup f7 = some ⟨oc7, od7, .func (PySem.W.fnOf ("ring_mul" : Str) ("ring_mul" : Str) (defArgs (topS 4)) (defBody (topS 4)) (defScope (topS 4)) .none kV7 dc7 pm7 an7 cd7 ct7), sl7⟩) (e7 : PySem.W.codeIn K cd7 ("ring_mul" : Str) = true) (k7 : PySem.W.keepIn K (.ref f7) = true)
    (a8 : PySem.W.nsIn K mainGlobals ("ring_conjugate" : Str) = some (some (.ref f8)))
    (l8 : K.lookup f8 = some ⟨oc8, od8, .func (PySem.W.fnOf ("ring_conjugate" : Str) ("ring_conjugate" : Str) (defArgs (topS 5)) (defBody (topS 5)) (defScope (topS 5)) .none kV8 dc8 pm8 an8 cd8 ct8), sl8⟩) (e8 : PySem.W.codeIn K cd8 ("ring_conjugate" : Str) = true) (k8 : PySem.W.keepIn K (.ref f8) = true)
    (a9 : PySem.W.nsIn K mainGlobals ("ring_divide" : Str) = some (some (.ref f9)))
    (l9 : K.lookup f9 = some ⟨oc9, od9, .func (PySem.W.fnOf ("ring_divide" : Str) ("ring_divide" : Str) (defArgs (topS 8)) (defBody (topS 8)) (defScope (topS 8)) .none kV9 dc9 pm9 an9 cd9 ct9), sl9⟩) (e9 : PySem.W.codeIn K cd9 ("ring_divide" : Str) = true) (k9 : PySem.W.keepIn K (.ref f9) = true)
    (a10 : PySem.W.nsIn K mainGlobals ("_law_is_integer" : Str) = some (some (.ref f10)))
    (l10 : K.lookup f10 = some ⟨oc10, od10, .func (PySem.W.fnOf ("_law_is_integer" : Str) ("_law_is_integer" : Str) (defArgs (topS 10)) (defBody (topS 10)) (defScope (topS 10)) .none kV10 dc10 pm10 an10 cd10 ct10), sl10⟩) (e10 : PySem.W.codeIn K cd10 ("_law_is_integer" : Str) = true) (k10 : PySem.W.keepIn K (.ref f10) = true)
    (a11 : PySem.W.nsIn K mainGlobals ("_law_is_ring" : Str) = some (some (.ref f11)))
    (l11 : K.lookup f11 = some ⟨oc11, od11, .func (PySem.W.fnOf ("_law_is_ring" : Str) ("_law_is_ring" : Str) (defArgs (topS 15)) (defBody (topS 15)) (defScope (topS 15)) .none kV11 dc11 pm11 an11 cd11 ct11), sl11⟩) (e11 : PySem.W.codeIn K cd11 ("_law_is_ring" : Str) = true) (k11 : PySem.W.keepIn K (.ref f11) = true)
    (a12 : PySem.W.nsIn K mainGlobals ("law" : Str) = some (some (.ref f12)))
    (l12 : K.lookup f12 = some ⟨oc12, od12, .func (PySem.W.fnOf ("law" : Str) ("law" : Str) (defArgs (topS 16)) (defBody (topS 16)) (defScope (topS 16)) .none kV12 dc12 pm12 an12 cd12 ct12), sl12⟩) (e12 : PySem.W.codeIn K cd12 ("law" : Str) = true) (k12 : PySem.W.keepIn K (.ref f12) = true)
    (z_abs : PySem.W.nsIn K mainGlobals ("abs" : Str) = some none)
    (z_bool : PySem.W.nsIn K mainGlobals ("bool" : Str) = some none)
    (z_divmod : PySem.W.nsIn K mainGlobals ("divmod" : Str) = some none)
    (z_int : PySem.W.nsIn K mainGlobals ("int" : Str) = some none)
    (z_isinstance : PySem.W.nsIn K mainGlobals ("isinstance" : Str) = some none)
    (z_len : PySem.W.nsIn K mainGlobals ("len" : Str) = some none)
    (z_range : PySem.W.nsIn K mainGlobals ("range" : Str) = some none)
    (z_tuple : PySem.W.nsIn K mainGlobals ("tuple" : Str) = some none)
    (xm_PhasorError : PySem.W.nsIn K mainGlobals ("PhasorError" : Str) = some (some (.ref xa_PhasorError)))
    (xsub_PhasorError : PySem.W.subIn K (.ref xa_PhasorError) (.type "BaseException") = some true)
    (xty_PhasorError : PySem.W.typeIn K (.ref xa_PhasorError) = some (.type "type"))
    (xhd_PhasorError : PySem.W.hasDictIn K xa_PhasorError = true)
    (xm_NotDivisible : PySem.W.nsIn K mainGlobals ("NotDivisible" : Str) = some (some (.ref xa_NotDivisible)))
    (xsub_NotDivisible : PySem.W.subIn K (.ref xa_NotDivisible) (.type "BaseException") = some true)
    (xty_NotDivisible : PySem.W.typeIn K (.ref xa_NotDivisible) = some (.type "type"))
    (xhd_NotDivisible : PySem.W.hasDictIn K xa_NotDivisible = true)
    (xexc_NotDivisible : PySem.W.excIn K xa_NotDivisible [.type "ValueError", .type "Exception", .type "BaseException", .type "object"] "ValueError.__new__" = true)
    (xkeep_NotDivisible : PySem.W.keepIn K (.ref xa_NotDivisible) = true)
    (yhg_NotDivisible : PySem.W.findIn K (.ref xa_NotDivisible) "__getattribute__" = some (some (.builtin "BaseException.__getattribute__")))
    (yhk_NotDivisible : PySem.W.findIn K (.ref xa_NotDivisible) "__getattr__" = some none)
    (yha_NotDivisible : PySem.W.findIn K (.ref xa_NotDivisible) "__class__" = some (some (.builtin "object.__class__")))
    (yhm_NotDivisible : PySem.W.mroIn K xa_NotDivisible (.type "object") = some true)
    (yhn : PySem.W.specialIn K (.builtin "object.__class__") "__get__" = some (some (.builtin "getset_descriptor.__get__"))) (yht : PySem.W.takesIn K (.builtin "object.__class__") = some true)
    (xs_NotDivisible_PhasorError : PySem.W.subIn K (.ref xa_NotDivisible) (.ref xa_PhasorError) = some true)
    (xs_PhasorError_PhasorError : PySem.W.subIn K (.ref xa_PhasorError) (.ref xa_PhasorError) = some true)
    (xs_NotDivisible_NotDivisible : PySem.W.subIn K (.ref xa_NotDivisible) (.ref xa_NotDivisible) = some true)
    : ∃ fd : FuncData, (∀ (s : Shared) (u : Value), BindsTo s fd ⟨[u], []⟩ [(("_law_script" : Str), u)]) ∧ ∀ base : Heap, K.In base → base.Ns mainGlobals mg → base.NoSeer → FnOk l.prog w K mg base (L2.CX l.prog w) 42 fa fd [("_law_script" : Str)] (spF (GK K) 1 [] s_law) := by
  have e := hfa.symm.trans (PySem.W.mg_of X G a12)
  cases e
  refine ⟨PySem.W.fnOf "law" "law" (defArgs (topS 16)) (defBody (topS 16)) (defScope (topS 16)) .none kV12 dc12 pm12 an12 cd12 ct12, fun s v => .of_eq rfl, fun base _ _ hS => ?_⟩
  have y_abs := PySem.W.mg_none_of X G z_abs
  have y_bool := PySem.W.mg_none_of X G z_bool
  have y_divmod := PySem.W.mg_none_of X G z_divmod
  have y_int := PySem.W.mg_none_of X G z_int
  have y_isinstance := PySem.W.mg_none_of X G z_isinstance
  have y_len := PySem.W.mg_none_of X G z_len
  have y_range := PySem.W.mg_none_of X G z_range
  have y_tuple := PySem.W.mg_none_of X G z_tuple
  have xe_PhasorError : (GK K).exc 0 = xa_PhasorError := by show exA K _ = _; unfold exA; simp [xm_PhasorError]
  have xe_NotDivisible : (GK K).exc 1 = xa_NotDivisible := by show exA K _ = _; unfold exA; simp [xm_NotDivisible]
  have x_NotDivisible : ExF (GK K) mg ("NotDivisible" : Str) 1 := ⟨by rw [xe_NotDivisible]; exact PySem.W.mg_of X G xm_NotDivisible, by rw [xe_NotDivisible]; exact xexc_NotDivisible, by rw [xe_NotDivisible]; exact xkeep_NotDivisible, by rw [xe_NotDivisible]; exact xsub_NotDivisible, by rw [xe_NotDivisible]; exact xty_NotDivisible⟩
  have xp_NotDivisible_PhasorError := exn_pair xsub_PhasorError xhd_PhasorError xty_PhasorError xs_NotDivisible_PhasorError xs_PhasorError_PhasorError
  have n_PhasorError : ExN (GK K) mg ("PhasorError" : Str) 0 tb_PhasorError := by
    refine ⟨by rw [xe_PhasorError]; exact PySem.W.mg_of X G xm_PhasorError, fun k b h => ?_, fun k b h => ?_, fun k b h => ?_⟩
    · rw [xe_PhasorError]
      match k, h with
      | 0, h => cases h
      | 1, h => cases h; rw [xe_NotDivisible]; exact xp_NotDivisible_PhasorError.1
      | n + 2, h => simp [tb_PhasorError] at h
    · rw [xe_PhasorError]
      match k, h with
      | 0, h => cases h
      | 1, h => cases h; rw [xe_NotDivisible]; exact xp_NotDivisible_PhasorError.2
      | n + 2, h => simp [tb_PhasorError] at h
    · skip
      match k, h with
      | 0, h => cases h
      | 1, h => rw [xe_NotDivisible]; exact ⟨yhg_NotDivisible, yhk_NotDivisible, xsub_NotDivisible, xhd_NotDivisible, yha_NotDivisible, yhn, yht, yhm_NotDivisible⟩
      | n + 2, h => simp [tb_PhasorError] at h
  have xp_NotDivisible_NotDivisible := exn_pair xsub_NotDivisible xhd_NotDivisible xty_NotDivisible xs_NotDivisible_NotDivisible xs_NotDivisible_NotDivisible
  have n_NotDivisible : ExN (GK K) mg ("NotDivisible" : Str) 1 tb_NotDivisible := by
    refine ⟨by rw [xe_NotDivisible]; exact PySem.W.mg_of X G xm_NotDivisible, fun k b h => ?_, fun k b h => ?_, fun k b h => ?_⟩
    · rw [xe_NotDivisible]
      match k, h with
      | 0, h => cases h
      | 1, h => cases h; rw [xe_NotDivisible]; exact xp_NotDivisible_NotDivisible.1
      | n + 2, h => simp [tb_NotDivisible] at h
    · rw [xe_NotDivisible]
      match k, h with
      | 0, h => cases h
      | 1, h => cases h; rw [xe_NotDivisible]; exact xp_NotDivisible_NotDivisible.2
      | n + 2, h => simp [tb_NotDivisible] at h
    · skip
      match k, h with
      | 0, h => cases h
      | 1, h => rw [xe_NotDivisible]; exact ⟨yhg_NotDivisible, yhk_NotDivisible, xsub_NotDivisible, xhd_NotDivisible, yha_NotDivisible, yhn, yht, yhm_NotDivisible⟩
      | n + 2, h => simp [tb_NotDivisible] at h
  have c_L_cell : CallF l.prog w (GK K) mg base ("_law_cell" : Str) 1 2 [] s_L_cell := callF_of (G := GK K) (st := topS 11) (ps := [("_law_script" : Str), ("_law_k" : Str)]) l1 e1 k1 (PySem.W.mg_of X G a1) (fun _ _ _ _ _ _ => ln2 fun _ _ => rfl) fun F => ok_L_cell y_len F
  have c_L_part : CallF l.prog w (GK K) mg base ("_law_part" : Str) 1 2 [] s_L_part := callF_of (G := GK K) (st := topS 12) (ps := [("_law_number" : Str), ("_law_digit" : Str)]) l2 e2 k2 (PySem.W.mg_of X G a2) (fun _ _ _ _ _ _ => ln2 fun _ _ => rfl) fun F => ok_L_part y_int F
  have c_L_ring : CallF l.prog w (GK K) mg base ("_law_ring" : Str) 2 2 [] s_L_ring := callF_of (G := GK K) (st := topS 13) (ps := [("_law_script" : Str), ("_law_first" : Str)]) l3 e3 k3 (PySem.W.mg_of X G a3) (fun _ _ _ _ _ _ => ln2 fun _ _ => rfl) fun F => ok_L_ring y_abs y_range c_L_cell c_L_part F
  have c_L_mul : CallF l.prog w (GK K) mg base ("_law_mul" : Str) 1 2 [] s_L_mul := callF_of (G := GK K) (st := topS 14) (ps := [("_law_x" : Str), ("_law_y" : Str)]) l4 e4 k4 (PySem.W.mg_of X G a4) (fun _ _ _ _ _ _ => ln2 fun _ _ => rfl) fun F => ok_L_mul y_range F
  have c_ring_abs_square : CallF l.prog w (GK K) mg base ("ring_abs_square" : Str) 1 1 [] s_ring_abs_square := callF_of (G := GK K) (st := topS 6) (ps := [("x" : Str)]) l5 e5 k5 (PySem.W.mg_of X G a5) (fun _ _ _ _ _ _ => ln1 fun _ => rfl) fun F => ok_ring_abs_square F
  have c_ring_norm : CallF l.prog w (GK K) mg base ("ring_norm" : Str) 2 1 [] s_ring_norm := callF_of (G := GK K) (st := topS 7) (ps := [("x" : Str)]) l6 e6 k6 (PySem.W.mg_of X G a6) (fun _ _ _ _ _ _ => ln1 fun _ => rfl) fun F => ok_ring_norm c_ring_abs_square F
  have c_ring_mul : CallF l.prog w (GK K) mg base ("ring_mul" : Str) 1 2 [] s_ring_mul := callF_of (G := GK K) (st := topS 4) (ps := [("x" : Str), ("y" : Str)]) l7 e7 k7 (PySem.W.mg_of X G a7) (fun _ _ _ _ _ _ => ln2 fun _ _ => rfl) fun F => ok_ring_mul F
  have c_ring_conjugate : CallF l.prog w (GK K) mg base ("ring_conjugate" : Str) 1 1 [] s_ring_conjugate := callF_of (G := GK K) (st := topS 5) (ps := [("x" : Str)]) l8 e8 k8 (PySem.W.mg_of X G a8) (fun _ _ _ _ _ _ => ln1 fun _ => rfl) fun F => ok_ring_conjugate F
  have c_ring_divide : CallF l.prog w (GK K) mg base ("ring_divide" : Str) 41 2 [] s_ring_divide := callF_of (G := GK K) (st := topS 8) (ps := [("x" : Str), ("y" : Str)]) l9 e9 k9 (PySem.W.mg_of X G a9) (fun _ _ _ _ _ _ => ln2 fun _ _ => rfl) fun F => ok_ring_divide hS hT y_divmod x_NotDivisible c_ring_norm c_ring_abs_square c_ring_mul c_ring_conjugate F
  have c_L_is_integer : CallF l.prog w (GK K) mg base ("_law_is_integer" : Str) 1 1 [] s_L_is_integer := callF_of (G := GK K) (st := topS 10) (ps := [("_law_actual" : Str)]) l10 e10 k10 (PySem.W.mg_of X G a10) (fun _ _ _ _ _ _ => ln1 fun _ => rfl) fun F => ok_L_is_integer y_bool y_int y_isinstance F
  have c_L_is_ring : CallF l.prog w (GK K) mg base ("_law_is_ring" : Str) 2 1 [] s_L_is_ring := callF_of (G := GK K) (st := topS 15) (ps := [("_law_actual" : Str)]) l11 e11 k11 (PySem.W.mg_of X G a11) (fun _ _ _ _ _ _ => ln1 fun _ => rfl) fun F => ok_L_is_ring y_isinstance y_len y_tuple c_L_is_integer F
  exact ok_law hS hT y_int y_isinstance n_NotDivisible n_PhasorError c_L_ring c_L_cell c_L_mul c_ring_divide c_L_is_ring (G := GK K) (fun_mk (st := topS 16) l12 e12 k12)
theorem walk {l : PySem.W.OpenLaw} {q : Program} {loose : List Str} {XP : (Str → Option Value) → Heap → Prop} {YP : World → Heap → Prop} {d : DefRec} {K : Params → PySem.W.Frag} (hn : l.most = some 63) (hdf : d.params.defaults = [])
    (hY : ∀ (w : World) (h : Heap), YP w h → (K w.params).In h) (hi : PyProof.Rows.importsNone q = true)
    (F : ∀ (w : World) (mg : Str → Option Value) (fa : Addr) (h : Heap), (K w.params).In h → h.Ns mainGlobals mg → mg d.name = some (.ref fa) →
      ∃ fd : FuncData, (∀ (s : Shared) (u : Value), BindsTo s fd ⟨[u], []⟩ [(("_law_script" : Str), u)]) ∧ ∀ base : Heap, (K w.params).In base → base.Ns mainGlobals mg → base.NoSeer → FnOk l.prog w (K w.params) mg base (L2.CX l.prog w) 42 fa fd [("_law_script" : Str)] (spF (GK (K w.params)) 1 [] s_law)) :
    PySem.W.WalkO q loose XP YP l.row.toRowW d [] (fun f vs => PySem.call f vs) :=
  law_walkS GK (fun _ => rfl) hn hdf ⟨rfl, by decide, by decide⟩ hY hi F math
end Px
open PySem PySem.W PyProof.Rows in
set_option maxRecDepth 100000 in
set_option maxHeartbeats 0 in
theorem PySem.Challenge.cw_phasor_k05_ring_division_holds : PySem.Challenge.rw_phasor_k05_ring_division.Holds := by
  w_on; o_law; k_head; (case hw => w_witness2)
  k_fill
  refine Px.walk (l := PySem.Challenge.rw_phasor_k05_ring_division) rfl rfl (fun w h Y => PySem.W.kIn_of Y) (by decide +kernel) ?F
  case F =>
    intro w mg fa h KX G hmg
    refine' Px.all_mk KX G hmg rfl ?a1 ?l1 ?e1 ?k1 ?a2 ?l2 ?e2 ?k2 ?a3 ?l3 ?e3 ?k3 ?a4 ?l4 ?e4 ?k4 ?a5 ?l5 ?e5 ?k5 ?a6 ?l6 ?e6 ?k6 ?a7 ?l7 ?e7 ?k7 ?a8 ?l8 ?e8 ?k8 ?a9 ?l9 ?e9 ?k9 ?a10 ?l10 ?e10 ?k10 ?a11 ?l11 ?e11 ?k11 ?a12 ?l12 ?e12 ?k12 ?z_abs ?z_bool ?z_divmod ?z_int ?z_isinstance ?z_len ?z_range ?z_tuple ?xm_PhasorError ?xsub_PhasorError ?xty_PhasorError ?xhd_PhasorError ?xm_NotDivisible ?xsub_NotDivisible ?xty_NotDivisible ?xhd_NotDivisible ?xexc_NotDivisible ?xkeep_NotDivisible ?yhg_NotDivisible ?yhk_NotDivisible ?yha_NotDivisible ?yhm_NotDivisible ?yhn ?yht ?xs_NotDivisible_PhasorError ?xs_PhasorError_PhasorError ?xs_NotDivisible_NotDivisible
    (case a1 => k_is)
    (case l1 => k_is)
    (case e1 => k_is)
    (case k1 => k_is)
    (case a2 => k_is)
    (case l2 => k_is)
    (case e2 => k_is)
    (case k2 => k_is)
    (case a3 => k_is)
    (case l3 => k_is)
    (case e3 => k_is)
    (case k3 => k_is)
    (case a4 => k_is)
    (case l4 => k_is)
    (case e4 => k_is)
    (case k4 => k_is)
    (case a5 => k_is)
    (case l5 => k_is)
    (case e5 => k_is)
    (case k5 => k_is)
    (case a6 => k_is)
    (case l6 => k_is)
    (case e6 => k_is)
    (case k6 => k_is)
    (case a7 => k_is)
    (case l7 => k_is)
    (case e7 => k_is)
    (case k7 => k_is)
    (case a8 => k_is)
    (case l8 => k_is)
    (case e8 => k_is)
    (case k8 => k_is)
    (case a9 => k_is)
    (case l9 => k_is)
    (case e9 => k_is)
    (case k9 => k_is)
    (case a10 => k_is)
    (case l10 => k_is)
    (case e10 => k_is)
    (case k10 => k_is)
    (case a11 => k_is)
    (case l11 => k_is)
    (case e11 => k_is)
    (case k11 => k_is)
    (case a12 => k_is)
    (case l12 => k_is)
    (case e12 => k_is)
    (case k12 => k_is)
    (case z_abs => k_is)
    (case z_bool => k_is)
    (case z_divmod => k_is)
    (case z_int => k_is)
    (case z_isinstance => k_is)
    (case z_len => k_is)
    (case z_range => k_is)
    (case z_tuple => k_is)
    (case xm_PhasorError => k_is)
    (case xsub_PhasorError => k_is)
    (case xty_PhasorError => k_is)
    (case xhd_PhasorError => k_is)
    (case xm_NotDivisible => k_is)
    (case xsub_NotDivisible => k_is)
    (case xty_NotDivisible => k_is)
    (case xhd_NotDivisible => k_is)
    (case xexc_NotDivisible => k_exc)
    (case xkeep_NotDivisible => k_is)
    (case yhg_NotDivisible => k_is)
    (case yhk_NotDivisible => k_is)
    (case yha_NotDivisible => k_is)
    (case yhm_NotDivisible => k_is)
    (case yhn => k_is)
    (case yht => k_is)
    (case xs_NotDivisible_PhasorError => first | k_is | rfl)
    (case xs_PhasorError_PhasorError => first | k_is | rfl)
    (case xs_NotDivisible_NotDivisible => first | k_is | rfl)
#print axioms PySem.Challenge.cw_phasor_k05_ring_division_holds
