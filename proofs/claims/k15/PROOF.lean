import PyProof.Rows.All
import Wide.All
import OpenK.AllK
import Wide.FinOn
import HandS.ForMost
import HandS.ForExc
import HandS.EndBits
import HandS.Wide
import HandS.IsInst
import HandS.Conv
import HandS.SortInts
import HandS.TupAny
import HandS.More
import HandS.WideBits
import HandS.SetFor
import HandS.Rev
import HandS.DictTup
import HandS.Strs
import HandS.Text
import HandS.Iter
import HandS.Dict
import HandS.ExcCtx
import HandS.TryOnly
import HandS.Defaults
import HandS.Star
import HandS.Property
import HandS.CallSlots
import HandS.Slots
import HandS.SlotsVar
import HandS.SlotsOwn
import HandS.Deep
import HandS.DeepEq
import HandS.DictComp
import HandS.SetKeys
import HandS.Set
import HandS.NoneIn
import HandS.JoinGen
import HandS.SortKw
import HandS.ReplaceDef
import HandS.Zip
import HandS.MakeKw
import HandS.MethStar
import HandS.ExcOwn
import HandS.ExcIs
import HandS.RaiseMore
import HandS.Small
import HandS.Deep
import HandS.Style
import KE.DataMinMax
import PyProof.CompFree
import KE.GoesEnum
import KE.DatumOrd
import HandS.Flow
import KE.KDictList
import HandS.ListItems
import PySem.Challenge.RW_phasor_k15_macros
set_option Elab.async false
set_option linter.all false
set_option maxRecDepth 100000
set_option maxHeartbeats 4000000
namespace Px
open PySem L2
inductive Mk where | frz | loan | own | ro
  deriving DecidableEq
inductive D where
  | non | bl (b : Bool) | int (i : Int) | str (x : Str)
  | tup (ds : List D)
  | lst (m : Mk) (ds : List D)
  | dk (m : Mk) (ks : List Key) (vs : List D)
  | dt (m : Mk) (ks : List (List Key)) (vs : List D)
  | obj (m : Mk) (c : Nat) (fs : List D)
  | cell (i : Nat)
inductive Cell where
  | lst (ds : List D) | dk (ks : List Key) (vs : List D) | dt (ks : List (List Key)) (vs : List D) | obj (c : Nat) (fs : List D) | gone
abbrev En := List (Option D)
abbrev Sto := List Cell
mutual
def D.pl : D → Bool
  | .non => true | .bl _ => true | .int _ => true | .str _ => true
  | .tup ds => plL ds
  | .lst m ds => (m == .frz || m == .ro) && plL ds
  | .dk m _ ds => (m == .frz || m == .ro) && plL ds
  | .dt m _ ds => (m == .frz || m == .ro) && plL ds
  | .obj m _ ds => (m == .frz || m == .ro) && plL ds
  | .cell _ => false
def plL : List D → Bool
  | [] => true
  | d :: ds => d.pl && plL ds
end
mutual
def D.noc : D → Bool
  | .non => true | .bl _ => true | .int _ => true | .str _ => true
  | .tup ds => nocL ds
  | .lst m ds => (m != .own) && nocL ds
  | .dk m _ ds => (m != .own) && nocL ds
  | .dt m _ ds => (m != .own) && nocL ds
  | .obj m _ ds => (m != .own) && nocL ds
  | .cell _ => false
def nocL : List D → Bool
  | [] => true
  | d :: ds => d.noc && nocL ds
end
mutual
def D.beq : D → D → Bool
  | .non, .non => true
  | .bl a, .bl b => a == b
  | .int a, .int b => decide (a = b)
  | .str a, .str b => decide (a = b)
  | .tup a, .tup b => beqL a b
  | .lst m a, .lst n b => decide (m = n) && beqL a b
  | .dk m k a, .dk n l b => decide (m = n) && decide (k = l) && beqL a b
  | .dt m k a, .dt n l b => decide (m = n) && decide (k = l) && beqL a b
  | .obj m k a, .obj n l b => decide (m = n) && decide (k = l) && beqL a b
  | .cell a, .cell b => decide (a = b)
  | _, _ => false
def beqL : List D → List D → Bool
  | [], [] => true
  | a :: r, b :: s => D.beq a b && beqL r s
  | _, _ => false
end
mutual
theorem D.eq_of_beq : ∀ a b : D, D.beq a b = true → a = b
  | .non, b, h => by cases b <;> simp_all [D.beq]
  | .bl a, b, h => by cases b <;> simp_all [D.beq]
  | .int a, b, h => by cases b <;> simp_all [D.beq]
  | .str a, b, h => by cases b <;> simp_all [D.beq]
  | .tup a, b, h => by
    cases b with
    | tup c => rw [eq_of_beqL a c (by simpa [D.beq] using h)]
    | _ => simp [D.beq] at h
  | .lst m a, b, h => by
    cases b with
    | lst n c =>
      simp [D.beq] at h
      rw [eq_of_beqL a c h.2, h.1]
    | _ => simp [D.beq] at h
  | .dk m k a, b, h => by
    cases b with
    | dk n l c =>
      simp [D.beq] at h
      rw [eq_of_beqL a c h.2, h.1.1, h.1.2]
    | _ => simp [D.beq] at h
  | .dt m k a, b, h => by
    cases b with
    | dt n l c =>
      simp [D.beq] at h
      rw [eq_of_beqL a c h.2, h.1.1, h.1.2]
    | _ => simp [D.beq] at h
  | .obj m k a, b, h => by
    cases b with
    | obj n l c =>
      simp [D.beq] at h
      rw [eq_of_beqL a c h.2, h.1.1, h.1.2]
    | _ => simp [D.beq] at h
  | .cell a, b, h => by cases b <;> simp_all [D.beq]
theorem eq_of_beqL : ∀ a b : List D, beqL a b = true → a = b
  | [], b, h => by cases b <;> simp_all [beqL]
  | x :: r, b, h => by
    cases b with
    | nil => simp [beqL] at h
    | cons y s =>
      simp [beqL] at h
      rw [D.eq_of_beq x y h.1, eq_of_beqL r s h.2]
end
mutual
theorem D.beq_self : ∀ a : D, D.beq a a = true
  | .non => rfl
  | .bl a => by simp [D.beq]
  | .int a => by simp [D.beq]
  | .str a => by simp [D.beq]
  | .tup a => by simp [D.beq, beqL_self a]
  | .lst m a => by simp [D.beq, beqL_self a]
  | .dk m k a => by simp [D.beq, beqL_self a]
  | .dt m k a => by simp [D.beq, beqL_self a]
  | .obj m k a => by simp [D.beq, beqL_self a]
  | .cell a => by simp [D.beq]
theorem beqL_self : ∀ a : List D, beqL a a = true
  | [] => rfl
  | x :: r => by simp [beqL, D.beq_self x, beqL_self r]
end
def Cell.isLst (c : Option Cell) (ds : List D) : Bool := match c with | some (.lst es) => beqL es ds | _ => false
theorem Cell.isLst_self (ds : List D) : Cell.isLst (some (.lst ds)) ds = true := beqL_self ds
theorem Cell.eq_isLst {c : Option Cell} {ds : List D} (h : Cell.isLst c ds = true) : c = some (.lst ds) := by
  cases c with
  | none => simp [isLst] at h
  | some c =>
    cases c with
    | lst es => simp only [isLst] at h; rw [eq_of_beqL es ds h]
    | _ => simp [isLst] at h
inductive R (α : Type) where
  | ok (a : α) (st : Sto)
  | exc (c : Nat) (ds : List D) (en : En) (st : Sto)
  | bad
def R.bind {α β : Type} (r : R α) (f : α → Sto → R β) : R β := match r with
  | .ok a st => f a st
  | .exc c ds en st => .exc c ds en st
  | .bad => .bad
@[simp] theorem bind_ok {α β : Type} (a : α) (st : Sto) (f : α → Sto → R β) : (R.ok a st).bind f = f a st := rfl
@[simp] theorem bind_exc {α β : Type} (c : Nat) (ds : List D) (en : En) (st : Sto) (f : α → Sto → R β) : (R.exc c ds en st).bind f = .exc c ds en st := rfl
@[simp] theorem bind_bad {α β : Type} (f : α → Sto → R β) : (R.bad : R α).bind f = .bad := rfl
inductive Fl where | nx | bk | ct | rt (d : D)
abbrev XE := En → Sto → R D
abbrev XT := En → Sto → R Bool
abbrev XA := En → Sto → R (List D)
abbrev XS := En → Sto → R (Fl × En)
inductive RF where
  | ok (r : D) (ms : List D)
  | exc (c : Nat) (ds : List D) (ms : List D)
  | bad
mutual
def imp : D → Nat → D × List Cell
  | .tup ds, n => if nocL ds then (.tup ds, []) else let p := impL ds n; (.tup p.1, p.2)
  | .lst .own ds, n => if nocL ds then (.cell n, [.lst ds]) else let p := impL ds n; (.cell (n + p.2.length), p.2 ++ [.lst p.1])
  | .dk .own ks ds, n => if nocL ds then (.cell n, [.dk ks ds]) else let p := impL ds n; (.cell (n + p.2.length), p.2 ++ [.dk ks p.1])
  | .dt .own ks ds, n => if nocL ds then (.cell n, [.dt ks ds]) else let p := impL ds n; (.cell (n + p.2.length), p.2 ++ [.dt ks p.1])
  | .obj .own c ds, n => if nocL ds then (.cell n, [.obj c ds]) else let p := impL ds n; (.cell (n + p.2.length), p.2 ++ [.obj c p.1])
  | d, _ => (d, [])
def impL : List D → Nat → List D × List Cell
  | [], _ => ([], [])
  | d :: ds, n => let p := imp d n; let q := impL ds (n + p.2.length); (p.1 :: q.1, p.2 ++ q.2)
end
def mapO (f : D → Option (D × List Nat)) : List D → Option (List D × List Nat)
  | [] => some ([], [])
  | d :: r => match f d, mapO f r with
    | some p, some q => some (p.1 :: q.1, p.2 ++ q.2)
    | _, _ => none
def takeL (ok : D → Bool) (f : D → Option (D × List Nat)) (ds : List D) : Option (List D × List Nat) := if ds.all ok then some (ds, []) else mapO f ds
def take (ok : D → Bool) (st : Sto) : Nat → D → Option (D × List Nat)
  | 0, d => if ok d then some (d, []) else none
  | n + 1, d => if ok d then some (d, []) else match d with
    | .tup ds => (takeL ok (take ok st n) ds).map fun p => (.tup p.1, p.2)
    | .cell i => match st[i]? with
      | some (.lst ds) => (takeL ok (take ok st n) ds).map fun p => (.lst .own p.1, p.2 ++ [i])
      | some (.dk ks ds) => (takeL ok (take ok st n) ds).map fun p => (.dk .own ks p.1, p.2 ++ [i])
      | some (.dt ks ds) => (takeL ok (take ok st n) ds).map fun p => (.dt .own ks p.1, p.2 ++ [i])
      | some (.obj c ds) => (takeL ok (take ok st n) ds).map fun p => (.obj .own c p.1, p.2 ++ [i])
      | _ => none
    | _ => none
def mapS (f : D → Option D) : List D → Option (List D)
  | [] => some []
  | d :: r => match f d, mapS f r with
    | some p, some q => some (p :: q)
    | _, _ => none
def snapL (f : D → Option D) (ds : List D) : Option (List D) := if ds.all D.noc then some ds else mapS f ds
def snap (st : Sto) : Nat → D → Option D
  | 0, d => if d.noc then some d else none
  | n + 1, d => if d.noc then some d else match d with
    | .tup ds => (snapL (snap st n) ds).map .tup
    | .cell i => match st[i]? with
      | some (.lst ds) => (snapL (snap st n) ds).map (.lst .loan)
      | some (.dk ks ds) => (snapL (snap st n) ds).map (.dk .loan ks)
      | some (.dt ks ds) => (snapL (snap st n) ds).map (.dt .loan ks)
      | some (.obj c ds) => (snapL (snap st n) ds).map (.obj .loan c)
      | _ => none
    | _ => none
def goneAt : List Nat → Sto → Sto
  | [], st => st
  | j :: js, st => goneAt js (st.set j .gone)
structure GS where
  K : PySem.W.Frag
  cls : Nat → Addr
  flds : Nat → List Str
  exc : Nat → Addr
structure Gh where
  F : Hp
  L : Hp
  as : List Addr
def hp (g : Gh) : Mk → Hp
  | .frz => g.F
  | .loan => g.L
  | _ => fun _ => none
def lstAt (G : GS) (g : Gh) (m : Mk) (a : Addr) (vs : List V) : Prop := match m with
  | .frz => g.F a = some (.lst vs)
  | .loan => g.L a = some (.lst vs)
  | .ro => SqL G.K g.F a vs
  | .own => False
def hpD (g : Gh) (m : Mk) (a : Addr) (u : HO) : Prop := match m with
  | .frz => ∃ o, g.F a = some (.frz o u)
  | .loan => Rd g.L a u
  | _ => False
mutual
def Rep (G : GS) (g : Gh) : D → V → Prop
  | .non, v => v = .non
  | .bl b, v => v = .bl b
  | .int i, v => v = .int i
  | .str x, v => v = .str x
  | .tup ds, v => ∃ a vs, v = .ref a ∧ SqT G.K g.F a vs ∧ RepL G g ds vs
  | .lst m ds, v => ∃ a vs, v = .ref a ∧ lstAt G g m a vs ∧ RepL G g ds vs
  | .dk m ks us, v => ∃ a vs, v = .ref a ∧ hpD g m a (.dK (ks.zip vs)) ∧ ks.length = vs.length ∧ RepL G g us vs
  | .dt m ks us, v => ∃ a vs, v = .ref a ∧ hpD g m a (.dT (ks.zip vs)) ∧ ks.length = vs.length ∧ RepL G g us vs
  | .obj m c fs, v => ∃ a dx vs, v = .ref a ∧ hp g m a = some (.ins (G.cls c) dx ((G.flds c).zip vs)) ∧ vs.length ≤ (G.flds c).length ∧ RepL G g fs vs
  | .cell i, v => ∃ a, g.as[i]? = some a ∧ v = .ref a
def RepL (G : GS) (g : Gh) : List D → List V → Prop
  | [], vs => vs = []
  | d :: ds, vs => ∃ v r, vs = v :: r ∧ Rep G g d v ∧ RepL G g ds r
end
end Px
namespace Px
open PySem L2
structure Le (g g' : Gh) : Prop where
  F : Same g.F g'.F
  L : g'.L = g.L
  as : ∀ (i : Nat) (a : Addr), g.as[i]? = some a → g'.as[i]? = some a
  nf : ∀ a o, g'.F a = some o → g.F a = some o ∨ g.L a = none
theorem Le.refl (g : Gh) : Le g g := ⟨Same.refl _, rfl, fun _ _ h => h, fun _ _ h => .inl h⟩
theorem Le.trans {g h k : Gh} (a : Le g h) (b : Le h k) : Le g k :=
  ⟨a.F.trans b.F, b.L.trans a.L, fun i x q => b.as i x (a.as i x q), fun x o q => by
    rcases b.nf x o q with z | z
    · exact a.nf x o z
    · rw [a.L] at z; exact .inr z⟩
theorem rd_same {H H' : Hp} {a : Addr} {u : HO} (s : Same H H') (h : Rd H a u) : Rd H' a u := by
  rcases h with h | ⟨o, h⟩
  · exact .inl (s _ _ h)
  · exact .inr ⟨o, s _ _ h⟩
theorem seqL_same {K : PySem.W.Frag} {H H' : Hp} {a : Addr} {xs : List V} (e : Same H H') (h : SqL K H a xs) : SqL K H' a xs := e.seq h
theorem seqT_same {K : PySem.W.Frag} {H H' : Hp} {a : Addr} {xs : List V} (e : Same H H') (h : SqT K H a xs) : SqT K H' a xs := by
  rcases h with h | h
  · exact .inl (rd_same e h)
  · exact .inr h
theorem lstAt_mono {G : GS} {g g' : Gh} {m : Mk} {a : Addr} {vs : List V} (hF : Same g.F g'.F) (hL : Same g.L g'.L) (h : lstAt G g m a vs) : lstAt G g' m a vs := by
  cases m with
  | frz => exact hF _ _ h
  | loan => exact hL _ _ h
  | ro => exact seqL_same hF h
  | own => exact h
theorem hp_mono {g g' : Gh} {m : Mk} {a : Addr} {o : HO} (hF : Same g.F g'.F) (hL : Same g.L g'.L) (h : hp g m a = some o) : hp g' m a = some o := by
  cases m with
  | frz => exact hF _ _ h
  | loan => exact hL _ _ h
  | ro => exact h
  | own => exact h
theorem hpD_mono {g g' : Gh} {m : Mk} {a : Addr} {u : HO} (hF : Same g.F g'.F) (hL : Same g.L g'.L) (h : hpD g m a u) : hpD g' m a u := by
  cases m with
  | frz => obtain ⟨o, e⟩ := h; exact ⟨o, hF _ _ e⟩
  | loan => exact rd_same hL h
  | ro => exact h
  | own => exact h
section
variable {G : GS} {g g' : Gh}
mutual
theorem Rep.mono0 (hF : Same g.F g'.F) (hL : Same g.L g'.L) (ha : ∀ (i : Nat) (a : Addr), g.as[i]? = some a → g'.as[i]? = some a) : ∀ (d : D) (v : V), Rep G g d v → Rep G g' d v
  | .non, _, h => h
  | .bl _, _, h => h
  | .int _, _, h => h
  | .str _, _, h => h
  | .tup ds, v, ⟨a, vs, e, q, r⟩ => ⟨a, vs, e, seqT_same hF q, RepL.mono0 hF hL ha ds vs r⟩
  | .lst m ds, v, ⟨a, vs, e, q, r⟩ => ⟨a, vs, e, lstAt_mono hF hL q, RepL.mono0 hF hL ha ds vs r⟩
  | .dk m ks ds, v, ⟨a, vs, e, q, l, r⟩ => ⟨a, vs, e, hpD_mono hF hL q, l, RepL.mono0 hF hL ha ds vs r⟩
  | .dt m ks ds, v, ⟨a, vs, e, q, l, r⟩ => ⟨a, vs, e, hpD_mono hF hL q, l, RepL.mono0 hF hL ha ds vs r⟩
  | .obj m c ds, v, ⟨a, dx, vs, e, q, l, r⟩ => ⟨a, dx, vs, e, hp_mono hF hL q, l, RepL.mono0 hF hL ha ds vs r⟩
  | .cell i, v, ⟨a, q, e⟩ => ⟨a, ha _ _ q, e⟩
theorem RepL.mono0 (hF : Same g.F g'.F) (hL : Same g.L g'.L) (ha : ∀ (i : Nat) (a : Addr), g.as[i]? = some a → g'.as[i]? = some a) : ∀ (ds : List D) (vs : List V), RepL G g ds vs → RepL G g' ds vs
  | [], _, h => h
  | d :: ds, vs, ⟨v, r, e, p, q⟩ => ⟨v, r, e, Rep.mono0 hF hL ha d v p, RepL.mono0 hF hL ha ds r q⟩
end
theorem Rep.mono {d : D} {v : V} (l : Le g g') (h : Rep G g d v) : Rep G g' d v := Rep.mono0 l.F (by rw [l.L]; exact Same.refl _) l.as d v h
theorem RepL.mono {d : List D} {v : List V} (l : Le g g') (h : RepL G g d v) : RepL G g' d v := RepL.mono0 l.F (by rw [l.L]; exact Same.refl _) l.as d v h
mutual
theorem Rep.noc (hF : Same g.F g'.F) (hL : Same g.L g'.L) : ∀ (d : D) (v : V), d.noc = true → Rep G g d v → Rep G g' d v
  | .non, _, _, h => h
  | .bl _, _, _, h => h
  | .int _, _, _, h => h
  | .str _, _, _, h => h
  | .tup ds, v, n, ⟨a, vs, e, q, r⟩ => ⟨a, vs, e, seqT_same hF q, RepL.noc hF hL ds vs (by simpa [D.noc] using n) r⟩
  | .lst m ds, v, n, ⟨a, vs, e, q, r⟩ => ⟨a, vs, e, lstAt_mono hF hL q, RepL.noc hF hL ds vs (by simp [D.noc] at n; exact n.2) r⟩
  | .dk m ks ds, v, n, ⟨a, vs, e, q, l, r⟩ => ⟨a, vs, e, hpD_mono hF hL q, l, RepL.noc hF hL ds vs (by simp [D.noc] at n; exact n.2) r⟩
  | .dt m ks ds, v, n, ⟨a, vs, e, q, l, r⟩ => ⟨a, vs, e, hpD_mono hF hL q, l, RepL.noc hF hL ds vs (by simp [D.noc] at n; exact n.2) r⟩
  | .obj m c ds, v, n, ⟨a, dx, vs, e, q, l, r⟩ => ⟨a, dx, vs, e, hp_mono hF hL q, l, RepL.noc hF hL ds vs (by simp [D.noc] at n; exact n.2) r⟩
  | .cell i, v, n, _ => by simp [D.noc] at n
theorem RepL.noc (hF : Same g.F g'.F) (hL : Same g.L g'.L) : ∀ (ds : List D) (vs : List V), nocL ds = true → RepL G g ds vs → RepL G g' ds vs
  | [], _, _, h => h
  | d :: ds, vs, n, ⟨v, r, e, p, q⟩ => by
    simp [nocL] at n
    exact ⟨v, r, e, Rep.noc hF hL d v n.1 p, RepL.noc hF hL ds r n.2 q⟩
end
theorem plm {m : Mk} {b : Bool} (h : ((m == Mk.frz || m == Mk.ro) && b) = true) : (m = .frz ∨ m = .ro) ∧ b = true := by
  cases m <;> simp_all
mutual
theorem Rep.pl (hF : Same g.F g'.F) : ∀ (d : D) (v : V), d.pl = true → Rep G g d v → Rep G g' d v
  | .non, _, _, h => h
  | .bl _, _, _, h => h
  | .int _, _, _, h => h
  | .str _, _, _, h => h
  | .tup ds, v, n, ⟨a, vs, e, q, r⟩ => ⟨a, vs, e, seqT_same hF q, RepL.pl hF ds vs (by simpa [D.pl] using n) r⟩
  | .lst m ds, v, n, ⟨a, vs, e, q, r⟩ => ⟨a, vs, e, by
      rcases (plm (by simpa [D.pl] using n)).1 with rfl | rfl
      · exact hF _ _ q
      · exact seqL_same hF q, RepL.pl hF ds vs (plm (by simpa [D.pl] using n)).2 r⟩
  | .dk m ks ds, v, n, ⟨a, vs, e, q, l, r⟩ => ⟨a, vs, e, by
      rcases (plm (by simpa [D.pl] using n)).1 with rfl | rfl
      · obtain ⟨o, e⟩ := q; exact ⟨o, hF _ _ e⟩
      · exact q, l, RepL.pl hF ds vs (plm (by simpa [D.pl] using n)).2 r⟩
  | .dt m ks ds, v, n, ⟨a, vs, e, q, l, r⟩ => ⟨a, vs, e, by
      rcases (plm (by simpa [D.pl] using n)).1 with rfl | rfl
      · obtain ⟨o, e⟩ := q; exact ⟨o, hF _ _ e⟩
      · exact q, l, RepL.pl hF ds vs (plm (by simpa [D.pl] using n)).2 r⟩
  | .obj m c ds, v, n, ⟨a, dx, vs, e, q, l, r⟩ => ⟨a, dx, vs, e, by
      rcases (plm (by simpa [D.pl] using n)).1 with rfl | rfl
      · exact hF _ _ q
      · exact q, l, RepL.pl hF ds vs (plm (by simpa [D.pl] using n)).2 r⟩
  | .cell i, v, n, _ => by simp [D.pl] at n
theorem RepL.pl (hF : Same g.F g'.F) : ∀ (ds : List D) (vs : List V), plL ds = true → RepL G g ds vs → RepL G g' ds vs
  | [], _, _, h => h
  | d :: ds, vs, n, ⟨v, r, e, p, q⟩ => by
    simp [plL] at n
    exact ⟨v, r, e, Rep.pl hF d v n.1 p, RepL.pl hF ds r n.2 q⟩
end
end
mutual
theorem noc_of_pl : ∀ d : D, d.pl = true → d.noc = true
  | .non, _ => rfl | .bl _, _ => rfl | .int _, _ => rfl | .str _, _ => rfl
  | .tup ds, h => by simp only [D.noc]; exact nocL_of_plL ds (by simpa [D.pl] using h)
  | .lst m ds, h => by
    have q := plm (by simpa [D.pl] using h)
    simp only [D.noc]
    rw [nocL_of_plL ds q.2]
    rcases q.1 with rfl | rfl <;> rfl
  | .dk m _ ds, h => by
    have q := plm (by simpa [D.pl] using h)
    simp only [D.noc]
    rw [nocL_of_plL ds q.2]
    rcases q.1 with rfl | rfl <;> rfl
  | .dt m _ ds, h => by
    have q := plm (by simpa [D.pl] using h)
    simp only [D.noc]
    rw [nocL_of_plL ds q.2]
    rcases q.1 with rfl | rfl <;> rfl
  | .obj m _ ds, h => by
    have q := plm (by simpa [D.pl] using h)
    simp only [D.noc]
    rw [nocL_of_plL ds q.2]
    rcases q.1 with rfl | rfl <;> rfl
  | .cell _, h => by simp [D.pl] at h
theorem nocL_of_plL : ∀ ds : List D, plL ds = true → nocL ds = true
  | [], _ => rfl
  | d :: ds, h => by
    simp [plL] at h
    simp [nocL, noc_of_pl d h.1, nocL_of_plL ds h.2]
end
theorem all_pl : ∀ ds : List D, ds.all D.pl = plL ds
  | [] => rfl
  | d :: ds => by simp [plL, all_pl ds]
theorem all_noc : ∀ ds : List D, ds.all D.noc = nocL ds
  | [] => rfl
  | d :: ds => by simp [nocL, all_noc ds]
section
variable {G : GS} {g : Gh}
theorem RepL.length : ∀ {ds : List D} {vs : List V}, RepL G g ds vs → ds.length = vs.length
  | [], vs, h => by cases h; rfl
  | d :: ds, vs, ⟨v, r, e, _, q⟩ => by subst e; simp [RepL.length q]
theorem RepL.get : ∀ {ds : List D} {vs : List V} {i : Nat} {d : D}, RepL G g ds vs → ds[i]? = some d → ∃ v, vs[i]? = some v ∧ Rep G g d v
  | [], _, _, _, _, h => by simp at h
  | d :: ds, vs, 0, d', ⟨v, r, e, p, _⟩, h => by subst e; simp at h; subst h; exact ⟨v, rfl, p⟩
  | d :: ds, vs, i + 1, d', ⟨v, r, e, _, q⟩, h => by subst e; simpa using RepL.get (i := i) (d := d') q (by simpa using h)
theorem RepL.getV : ∀ {ds : List D} {vs : List V} {i : Nat} {v : V}, RepL G g ds vs → vs[i]? = some v → ∃ d, ds[i]? = some d ∧ Rep G g d v
  | [], _, _, _, h, q => by cases h; simp at q
  | d :: ds, vs, 0, v', ⟨v, r, e, p, _⟩, h => by subst e; simp at h; subst h; exact ⟨d, rfl, p⟩
  | d :: ds, vs, i + 1, v', ⟨v, r, e, _, q⟩, h => by subst e; simpa using RepL.getV (i := i) (v := v') q (by simpa using h)
theorem RepL.append : ∀ {ds es : List D} {vs us : List V}, RepL G g ds vs → RepL G g es us → RepL G g (ds ++ es) (vs ++ us)
  | [], _, _, _, h, q => by cases h; exact q
  | d :: ds, es, vs, us, ⟨v, r, e, p, q⟩, h => by subst e; exact ⟨v, r ++ us, rfl, p, q.append h⟩
theorem RepL.one {d : D} {v : V} (h : Rep G g d v) : RepL G g [d] [v] := ⟨v, [], rfl, h, rfl⟩
theorem RepL.set : ∀ {ds : List D} {vs : List V} {d : D} {v : V} (i : Nat), RepL G g ds vs → Rep G g d v → RepL G g (ds.set i d) (vs.set i v)
  | [], _, _, _, _, h, _ => by cases h; rfl
  | _ :: _, _, _, _, 0, ⟨v, r, e, _, q⟩, h => by subst e; exact ⟨_, r, rfl, h, q⟩
  | _ :: _, _, _, _, i + 1, ⟨v, r, e, p, q⟩, h => by subst e; exact ⟨v, _, rfl, p, RepL.set i q h⟩
theorem RepL.take : ∀ {ds : List D} {vs : List V} (n : Nat), RepL G g ds vs → RepL G g (ds.take n) (vs.take n)
  | _, _, 0, _ => by simp [RepL]
  | [], _, _ + 1, h => by cases h; simp [RepL]
  | _ :: _, _, n + 1, ⟨v, r, e, p, q⟩ => by subst e; exact ⟨v, r.take n, rfl, p, q.take n⟩
theorem RepL.drop : ∀ {ds : List D} {vs : List V} (n : Nat), RepL G g ds vs → RepL G g (ds.drop n) (vs.drop n)
  | _, _, 0, h => by simpa using h
  | [], _, _ + 1, h => by cases h; simp [RepL]
  | _ :: _, _, n + 1, ⟨v, r, e, p, q⟩ => by subst e; simpa using q.drop n
theorem RepL.reverse : ∀ {ds : List D} {vs : List V}, RepL G g ds vs → RepL G g ds.reverse vs.reverse
  | [], _, h => by cases h; simp [RepL]
  | d :: ds, _, ⟨v, r, e, p, q⟩ => by
    subst e
    rw [List.reverse_cons, List.reverse_cons]
    exact q.reverse.append (.one p)
theorem RepL.dropLast {ds : List D} {vs : List V} (h : RepL G g ds vs) : RepL G g ds.dropLast vs.dropLast := by
  rw [List.dropLast_eq_take, List.dropLast_eq_take, h.length]
  exact h.take _
theorem RepL.eraseIdx : ∀ {ds : List D} {vs : List V} (n : Nat), RepL G g ds vs → RepL G g (ds.eraseIdx n) (vs.eraseIdx n)
  | [], _, _, h => by cases h; simp [RepL]
  | _ :: _, _, 0, ⟨v, r, e, p, q⟩ => by subst e; simpa using q
  | _ :: _, _, n + 1, ⟨v, r, e, p, q⟩ => by subst e; exact ⟨v, _, rfl, p, q.eraseIdx n⟩
theorem RepL.replicate {d : D} {v : V} (h : Rep G g d v) : ∀ n : Nat, RepL G g (List.replicate n d) (List.replicate n v)
  | 0 => rfl
  | n + 1 => ⟨v, List.replicate n v, rfl, h, RepL.replicate h n⟩
theorem RepL.ints : ∀ (ns : List Int), RepL G g (ns.map D.int) (ns.map V.int)
  | [] => rfl
  | n :: ns => ⟨_, _, rfl, rfl, RepL.ints ns⟩
end
def CO (G : GS) (g : Gh) : Cell → HO → Prop
  | .lst ds, o => ∃ vs, o = .lst vs ∧ RepL G g ds vs
  | .dk ks us, o => ∃ vs, o = .dK (ks.zip vs) ∧ ks.length = vs.length ∧ RepL G g us vs
  | .dt ks us, o => ∃ vs, o = .dT (ks.zip vs) ∧ ks.length = vs.length ∧ RepL G g us vs
  | .obj c fs, o => ∃ dx vs, o = .ins (G.cls c) dx ((G.flds c).zip vs) ∧ vs.length ≤ (G.flds c).length ∧ RepL G g fs vs
  | .gone, _ => False
theorem CO.mono {G : GS} {g g' : Gh} {c : Cell} {o : HO} (l : Le g g') (h : CO G g c o) : CO G g' c o := by
  cases c with
  | lst ds => obtain ⟨vs, e, r⟩ := h; exact ⟨vs, e, r.mono l⟩
  | dk ks us => obtain ⟨vs, e, n, r⟩ := h; exact ⟨vs, e, n, r.mono l⟩
  | dt ks us => obtain ⟨vs, e, n, r⟩ := h; exact ⟨vs, e, n, r.mono l⟩
  | obj c fs => obtain ⟨dx, vs, e, n, r⟩ := h; exact ⟨dx, vs, e, n, r.mono l⟩
  | gone => exact h
def NoD (F : Hp) : Prop := ∀ a kvs, F a ≠ some (.dK kvs)
structure Rel (G : GS) (g : Gh) (en : En) (st : Sto) (σ : St) (H : Hp) : Prop where
  sF : Same g.F H
  sL : Same g.L H
  el : en.length = σ.length
  en : ∀ (i : Nat) (d : D), en[i]? = some (some d) → ∃ v, σ[i]? = some (some v) ∧ Rep G g d v
  cell : ∀ (i : Nat) (c : Cell), st[i]? = some c → c ≠ .gone → ∃ a o, g.as[i]? = some a ∧ H a = some o ∧ CO G g c o ∧ g.F a = none ∧ g.L a = none
  len : g.as.length = st.length
  inj : ∀ (i j : Nat) (c c' : Cell) (a : Addr), st[i]? = some c → st[j]? = some c' → c ≠ .gone → c' ≠ .gone → g.as[i]? = some a → g.as[j]? = some a → i = j
  nd : NoD g.F
section
variable {G : GS} {g : Gh} {en : En} {st : Sto} {σ : St} {H : Hp}
theorem Rel.tup (r : Rel G g en st σ H) {p : Addr} {ds : List D} {vs : List V} (hp : H p = none) (hr : RepL G g ds vs) :
    Le g { g with F := upd g.F p (.tup vs) } ∧ Rel G { g with F := upd g.F p (.tup vs) } en st σ (upd H p (.tup vs)) ∧ Rep G { g with F := upd g.F p (.tup vs) } (.tup ds) (.ref p) := by
  have fp : g.F p = none := r.sF.free hp
  have lp : g.L p = none := r.sL.free hp
  have sF : Same g.F (upd g.F p (.tup vs)) := fun b o e => by rw [upd_ne (ne_of_none e fp)]; exact e
  have l : Le g { g with F := upd g.F p (.tup vs) } := ⟨sF, rfl, fun _ _ h => h, fun a o h => by
    by_cases e : a = p
    · subst e; exact .inr lp
    · have h' : upd g.F p (.tup vs) a = some o := h
      rw [upd_ne e] at h'; exact .inl h'⟩
  refine ⟨l, ⟨fun b o e => ?_, fun b o e => ?_, r.el, fun i d e => ?_, fun i c e n => ?_, r.len, r.inj, fun b k e => by
    have e' : upd g.F p (.tup vs) b = some (.dK k) := e
    by_cases q : b = p
    · subst q; rw [upd_same] at e'; cases e'
    · rw [upd_ne q] at e'; exact r.nd b k e'⟩, p, vs, rfl, SqT.of upd_same, hr.mono l⟩
  · have e' : upd g.F p (.tup vs) b = some o := e
    by_cases q : b = p
    · subst q; rw [upd_same] at e' ⊢; exact e'
    · rw [upd_ne q] at e' ⊢; exact r.sF _ _ e'
  · rw [upd_ne (ne_of_none e lp)]; exact r.sL _ _ e
  · obtain ⟨v, e1, e2⟩ := r.en i d e
    exact ⟨v, e1, e2.mono l⟩
  · obtain ⟨a, o, e1, e2, e3, e4, e5⟩ := r.cell i c e n
    have ne : a ≠ p := ne_of_none e2 hp
    exact ⟨a, o, e1, by rw [upd_ne ne]; exact e2, e3.mono l, by show upd g.F p _ a = none; rw [upd_ne ne]; exact e4, e5⟩
theorem Rel.new (r : Rel G g en st σ H) {p : Addr} {c : Cell} {o : HO} (hp : H p = none) (hc : CO G g c o) :
    Le g { g with as := g.as ++ [p] } ∧ Rel G { g with as := g.as ++ [p] } en (st ++ [c]) σ (upd H p o) ∧ Rep G { g with as := g.as ++ [p] } (.cell st.length) (.ref p) := by
  have fp : g.F p = none := r.sF.free hp
  have lp : g.L p = none := r.sL.free hp
  have l : Le g { g with as := g.as ++ [p] } := ⟨Same.refl _, rfl, fun i a h => by
    show (g.as ++ [p])[i]? = some a
    rw [List.getElem?_append_left (List.getElem?_eq_some_iff.mp h).1]; exact h, fun _ _ h => .inl h⟩
  have at_ : (g.as ++ [p])[st.length]? = some p := by rw [← r.len]; simp
  refine ⟨l, ⟨fun b o e => ?_, fun b o e => ?_, r.el, fun i d e => ?_, fun i c' e n => ?_, by simp [r.len], fun i j c1 c2 a e1 e2 n1 n2 a1 a2 => ?_, r.nd⟩, p, at_, rfl⟩
  · rw [upd_ne (ne_of_none e fp)]; exact r.sF _ _ e
  · rw [upd_ne (ne_of_none e lp)]; exact r.sL _ _ e
  · obtain ⟨v, e1, e2⟩ := r.en i d e
    exact ⟨v, e1, e2.mono l⟩
  · by_cases hi : i < st.length
    · rw [List.getElem?_append_left hi] at e
      obtain ⟨a, o', e1, e2, e3, e4, e5⟩ := r.cell i c' e n
      exact ⟨a, o', l.as _ _ e1, by rw [upd_ne (ne_of_none e2 hp)]; exact e2, e3.mono l, e4, e5⟩
    · have : i = st.length := by
        have := (List.getElem?_eq_some_iff.mp e).1
        simp at this; omega
      subst this
      simp at e; subst e
      exact ⟨p, o, at_, upd_same, hc.mono l, fp, lp⟩
  · have key : ∀ k ck, (st ++ [c])[k]? = some ck → ck ≠ .gone → (g.as ++ [p])[k]? = some a → (k < st.length ∧ st[k]? = some ck ∧ g.as[k]? = some a ∧ a ≠ p) ∨ (k = st.length ∧ a = p) := by
      intro k ck e n ea
      by_cases hk : k < st.length
      · rw [List.getElem?_append_left hk] at e
        rw [List.getElem?_append_left (by rw [r.len]; exact hk)] at ea
        obtain ⟨a', o', q1, q2, _⟩ := r.cell k ck e n
        rw [ea] at q1; cases q1
        exact .inl ⟨hk, e, ea, ne_of_none q2 hp⟩
      · have : k = st.length := by
          have := (List.getElem?_eq_some_iff.mp e).1
          simp at this; omega
        subst this
        rw [at_] at ea
        exact .inr ⟨rfl, (Option.some.inj ea).symm⟩
    rcases key i c1 e1 n1 a1 with ⟨h1, h2, h3, h4⟩ | ⟨h1, h2⟩ <;> rcases key j c2 e2 n2 a2 with ⟨k1, k2, k3, k4⟩ | ⟨k1, k2⟩
    · exact r.inj i j c1 c2 a h2 k2 n1 n2 h3 k3
    · exact absurd k2 h4
    · exact absurd h2 k4
    · omega
theorem Rel.put (r : Rel G g en st σ H) {i : Nat} {a : Addr} {c c' : Cell} {o : HO} (hi : st[i]? = some c) (hn : c ≠ .gone) (ha : g.as[i]? = some a) (hc : CO G g c' o) :
    Rel G g en (st.set i c') σ (upd H a o) := by
  obtain ⟨a', o', e1, e2, e3, e4, e5⟩ := r.cell i c hi hn
  rw [ha] at e1; cases e1
  have ilt : i < st.length := (List.getElem?_eq_some_iff.mp hi).1
  have sub : ∀ (j : Nat) (d : Cell), (st.set i c')[j]? = some d → d ≠ .gone → ∃ d', st[j]? = some d' ∧ d' ≠ .gone := fun j d e n => by
    by_cases q : i = j
    · subst q; exact ⟨c, hi, hn⟩
    · rw [List.getElem?_set_ne q] at e; exact ⟨d, e, n⟩
  refine ⟨fun b o e => ?_, fun b o e => ?_, r.el, r.en, fun j d e n => ?_, by simp [r.len], fun j k d1 d2 b q1 q2 n1 n2 b1 b2 => ?_, r.nd⟩
  · rw [upd_ne (ne_of_none e e4)]; exact r.sF _ _ e
  · rw [upd_ne (ne_of_none e e5)]; exact r.sL _ _ e
  · by_cases q : i = j
    · subst q
      rw [List.getElem?_set_self ilt] at e; cases e
      exact ⟨a, o, ha, upd_same, hc, e4, e5⟩
    · rw [List.getElem?_set_ne q] at e
      obtain ⟨b, u, f1, f2, f3, f4, f5⟩ := r.cell j d e n
      have nb : b ≠ a := fun z => q (r.inj i j c d a hi e hn n ha (by rw [← z]; exact f1))
      exact ⟨b, u, f1, by rw [upd_ne nb]; exact f2, f3, f4, f5⟩
  · obtain ⟨d1', q1', n1'⟩ := sub j d1 q1 n1
    obtain ⟨d2', q2', n2'⟩ := sub k d2 q2 n2
    exact r.inj j k d1' d2' b q1' q2' n1' n2' b1 b2
theorem Rel.setv (r : Rel G g en st σ H) {i : Nat} {d : D} {v : V} (h : Rep G g d v) : Rel G g (en.set i (some d)) st (σ.set i (some v)) H := by
  refine ⟨r.sF, r.sL, by simp [r.el], fun j e q => ?_, r.cell, r.len, r.inj, r.nd⟩
  by_cases hij : i = j
  · subst hij
    by_cases hl : i < en.length
    · rw [List.getElem?_set_self hl] at q
      have : e = d := by simpa using q.symm
      subst this
      exact ⟨v, List.getElem?_set_self (by rw [← r.el]; exact hl), h⟩
    · rw [List.getElem?_eq_none (by simpa using hl)] at q; cases q
  · rw [List.getElem?_set_ne hij] at q
    rw [List.getElem?_set_ne hij]
    exact r.en j e q
theorem Rel.weak (r : Rel G g en st σ H) {en' : En} (hl : en'.length = en.length) (h : ∀ (i : Nat) (d : D), en'[i]? = some (some d) → en[i]? = some (some d)) : Rel G g en' st σ H :=
  ⟨r.sF, r.sL, hl.trans r.el, fun i d e => r.en i d (h i d e), r.cell, r.len, r.inj, r.nd⟩
theorem Rel.isCell (r : Rel G g en st σ H) {i : Nat} {c : Cell} {v : V} (hi : st[i]? = some c) (hn : c ≠ .gone) (hv : Rep G g (.cell i) v) : ∃ a o, v = .ref a ∧ g.as[i]? = some a ∧ H a = some o ∧ CO G g c o := by
  obtain ⟨a, ha, e⟩ := hv
  obtain ⟨a', o, e1, e2, e3, _⟩ := r.cell i c hi hn
  rw [ha] at e1; cases e1
  exact ⟨a, o, e, ha, e2, e3⟩
end
end Px
namespace Px
open PySem PySem.Spec L2
def ExcRep (G : GS) (g : Gh) (H : Hp) (ds : List D) (d : Option Addr) : Prop := ds = [] ∧ d = none
def pX {α : Type} (G : GS) (W : WX) (g : Gh) (en : En) (σ : St) (r : R α) (K : α → Gh → Sto → Hp → Prop) : Prop := match r with
  | .ok a st => ∀ g' H', Le g g' → Rel G g' en st σ H' → K a g' st H'
  | .exc c ds en' st => ∀ g' σ' H' d, Le g g' → Rel G g' en' st σ' H' → ExcRep G g' H' ds d → W (.ref (G.exc c)) d σ' H'
  | .bad => False
theorem pX.weak {α : Type} {G : GS} {W : WX} {g g1 : Gh} {en : En} {σ : St} {r : R α} {K : α → Gh → Sto → Hp → Prop} (l : Le g g1) (h : pX G W g en σ r K) : pX G W g1 en σ r K := by
  cases r with
  | ok a st => exact fun g' H' l' R => h g' H' (l.trans l') R
  | exc c ds en' st => exact fun g' σ' H' d l' R e => h g' σ' H' d (l.trans l') R e
  | bad => exact h
theorem pX.bind {α β : Type} {G : GS} {W : WX} {g : Gh} {en : En} {σ : St} {r : R α} {f : α → Sto → R β} {K : β → Gh → Sto → Hp → Prop} (h : pX G W g en σ (r.bind f) K) :
    pX G W g en σ r fun a g1 st1 _ => pX G W g1 en σ (f a st1) K := by
  cases r with
  | ok a st => exact fun g' H' l R => pX.weak l h
  | exc c ds en' st => exact h
  | bad => exact h
theorem pX.imp {α : Type} {G : GS} {W : WX} {g : Gh} {en : En} {σ : St} {r : R α} {K K' : α → Gh → Sto → Hp → Prop} (h : pX G W g en σ r K)
    (hk : ∀ a st g' H', Le g g' → Rel G g' en st σ H' → K a g' st H' → K' a g' st H') : pX G W g en σ r K' := by
  cases r with
  | ok a st => exact fun g' H' l R => hk _ _ _ _ l R (h g' H' l R)
  | exc c ds en' st => exact h
  | bad => exact h
def tE (G : GS) (W : WX) (c : XE) : TE := fun σ H Q => ∃ g en st, Rel G g en st σ H ∧ pX G W g en σ (c en st) fun d g' _ H' => ∀ v, Rep G g' d v → Q v H'
def tT (G : GS) (W : WX) (c : XT) : TT := fun σ H Q => ∃ g en st, Rel G g en st σ H ∧ pX G W g en σ (c en st) fun b _ _ H' => Q b H'
def tA (G : GS) (W : WX) (c : XA) : TA := fun σ H Q => ∃ g en st, Rel G g en st σ H ∧ pX G W g en σ (c en st) fun ds g' _ H' => ∀ vs, RepL G g' ds vs → Q vs H'
def pS (G : GS) (W : WX) (g : Gh) (r : R (Fl × En)) (D : Ends) : Prop := match r with
  | .ok (fl, en) st => ∀ g' σ' H', Le g g' → Rel G g' en st σ' H' → (match fl with
    | .nx => D.nx σ' H'
    | .bk => D.bk σ' H'
    | .ct => D.ct σ' H'
    | .rt d => ∀ v, Rep G g' d v → D.rt v H')
  | .exc c ds en' st => ∀ g' σ' H' d, Le g g' → Rel G g' en' st σ' H' → ExcRep G g' H' ds d → W (.ref (G.exc c)) d σ' H'
  | .bad => False
theorem pS.weak {G : GS} {W : WX} {g g1 : Gh} {r : R (Fl × En)} {D : Ends} (l : Le g g1) (h : pS G W g r D) : pS G W g1 r D := by
  cases r with
  | ok a st => obtain ⟨fl, en⟩ := a; exact fun g' σ' H' l' R => h g' σ' H' (l.trans l') R
  | exc c ds en' st => exact fun g' σ' H' d l' R e => h g' σ' H' d (l.trans l') R e
  | bad => exact h
theorem pS.bind {α : Type} {G : GS} {W : WX} {g : Gh} {en : En} {σ : St} {r : R α} {f : α → Sto → R (Fl × En)} {D : Ends} (h : pS G W g (r.bind f) D) :
    pX G W g en σ r fun a g1 st1 _ => pS G W g1 (f a st1) D := by
  cases r with
  | ok a st => exact fun g' H' l R => pS.weak l h
  | exc c ds en' st => exact h
  | bad => exact h
def tS (G : GS) (W : WX) (c : XS) : TS := fun D σ H => ∃ g en st, Rel G g en st σ H ∧ pS G W g (c en st) D
structure Ok (G : GS) (W : WX) (X : Cx) : Prop where
  K : X.K = G.K
  nd : X.N.Nodup
  calm : X.calm = true
  tk : Takes X W
structure SE (G : GS) (W : WX) (X : Cx) (e : Expr) (c : XE) : Prop where
  pe : PE X e (tE G W c)
structure SA (G : GS) (W : WX) (X : Cx) (es : List Expr) (c : XA) : Prop where
  pa : PA X es (tA G W c)
structure SB (G : GS) (W : WX) (X : Cx) (e : Expr) (c : XT) : Prop where
  pt : PT X e (tT G W c)
structure SS (G : GS) (W : WX) (X : Cx) (s : Stmt) (c : XS) : Prop where
  ps : PS X s (tS G W c)
structure SL (G : GS) (W : WX) (X : Cx) (ss : List Stmt) (c : XS) : Prop where
  ps : PSs X ss (tS G W c)
section
variable {X : Cx} {e : Expr}
theorem PE_imp {t t' : TE} (h : PE X e t) (i : ∀ σ H Q, t' σ H Q → t σ H Q) : PE X e t' := ⟨fun pins s σ H Q I w => h.run pins s σ H Q I (i _ _ _ w)⟩
theorem PT_imp {t t' : TT} (h : PT X e t) (i : ∀ σ H Q, t' σ H Q → t σ H Q) : PT X e t' := ⟨fun pins s σ H Q I w => h.run pins s σ H Q I (i _ _ _ w)⟩
theorem PW_imp {t t' : TT} (h : PW X e t) (i : ∀ σ H Q, t' σ H Q → t σ H Q) : PW X e t' := ⟨fun wh pins s σ H Q I w => h.run wh pins s σ H Q I (i _ _ _ w)⟩
theorem PA_imp {es : List Expr} {t t' : TA} (h : PA X es t) (i : ∀ σ H Q, t' σ H Q → t σ H Q) : PA X es t' := ⟨fun pos pins s σ H Q I w => h.run pos pins s σ H Q I (i _ _ _ w)⟩
theorem PS_imp {s : Stmt} {t t' : TS} (h : PS X s t) (i : ∀ D σ H, t' D σ H → t D σ H) : PS X s t' := ⟨fun pins st σ H D I w => h.run pins st σ H D I (i _ _ _ w)⟩
theorem PSs_imp {s : List Stmt} {t t' : TS} (h : PSs X s t) (i : ∀ D σ H, t' D σ H → t D σ H) : PSs X s t' := ⟨fun pins st σ H D I w => h.run pins st σ H D I (i _ _ _ w)⟩
theorem OpR_imp {f : Value → Value → Sem Value} {r r' : R2} (h : OpR X f r) (i : ∀ x y H Q, r' x y H Q → r x y H Q) : OpR X f r' := fun pins s σ H x y v u Q I rx ry w => h pins s σ H x y v u Q I rx ry (i _ _ _ _ w)
theorem UnR_imp {f : Value → Sem Value} {r r' : V → Hp → VK → Prop} (h : UnR X f r) (i : ∀ x H Q, r' x H Q → r x H Q) : UnR X f r' := fun pins s σ H x v Q I rx w => h pins s σ H x v Q I rx (i _ _ _ w)
theorem CallR_imp {f : Value} {r r' : List V → Hp → VK → Prop} (h : CallR X f r) (i : ∀ x H Q, r' x H Q → r x H Q) : CallR X f r' := fun pins s σ H x v Q I rx w => h pins s σ H x v Q I rx (i _ _ _ w)
end
def xvar (i : Nat) : XE := fun en st => match en[i]? with
  | some (some d) => .ok d st
  | _ => .bad
def xc (d : D) : XE := fun _ st => .ok d st
section
variable {G : GS} {W : WX} {X : Cx}
theorem se_var (i : Nat) {x : Str} {pos : Pos} (hN : X.N[i]? = some x := by rfl) (hv : Vis X.env.scope x := by first | exact Or.inl rfl | exact Or.inr (Or.inl rfl) | exact Or.inr (Or.inr rfl)) (hd : (x == ("__debug__" : Str)) = false := by decide)
    (hcd : (x == ("__classdict__" : Str)) = false := by decide) : SE G W X (.Name x pos) (xvar i) := by
  refine ⟨PE_imp (pe_var hN hv hd hcd) fun σ H Q ⟨g, en, st, R, h⟩ => ?_⟩
  unfold xvar at h
  cases e : en[i]? with
  | none => rw [e] at h; exact h.elim
  | some o =>
    cases o with
    | none => rw [e] at h; exact h.elim
    | some d =>
      rw [e] at h
      obtain ⟨v, q, r⟩ := R.en i d e
      exact ⟨v, q, h g H (Le.refl g) R v r⟩
theorem se_c {d : D} {v : V} {e : Expr} (h : PE X e (tC v)) (hr : ∀ g v', Rep G g d v' → v' = v := by intro _ _ h; exact h) (hr2 : ∀ g, Rep G g d v := by intro _; rfl) : SE G W X e (xc d) := by
  refine ⟨PE_imp h fun σ H Q ⟨g, en, st, R, h⟩ => ?_⟩
  exact h g H (Le.refl g) R v (hr2 g)
theorem se_int {i j pos} : SE G W X (.Constant (.int i) j pos) (xc (.int i)) := se_c pe_int
theorem se_bl {b j pos} : SE G W X (.Constant (.bool b) j pos) (xc (.bl b)) := se_c pe_bl
theorem se_non {j pos} : SE G W X (.Constant .none j pos) (xc .non) := se_c pe_non
theorem se_str {x j pos} : SE G W X (.Constant (.str x) j pos) (xc (.str x)) := se_c pe_str
abbrev Op1 := D → Sto → R D
abbrev Op2 := D → D → Sto → R D
def x1 (f : Op1) (a : XE) : XE := fun en st => (a en st).bind fun x st => f x st
def x2 (f : Op2) (a b : XE) : XE := fun en st => (a en st).bind fun x st => (b en st).bind fun y st => f x y st
def rD (G : GS) (W : WX) (f : Op2) : R2 := fun v u H Q => ∃ g en st σ x y, Rel G g en st σ H ∧ Rep G g x v ∧ Rep G g y u ∧ pX G W g en σ (f x y st) fun d g' _ H' => ∀ v, Rep G g' d v → Q v H'
def rD1 (G : GS) (W : WX) (f : Op1) : V → Hp → VK → Prop := fun v H Q => ∃ g en st σ x, Rel G g en st σ H ∧ Rep G g x v ∧ pX G W g en σ (f x st) fun d g' _ H' => ∀ v, Rep G g' d v → Q v H'
theorem tOp_of {f : Op2} {a b : XE} {σ : St} {H : Hp} {Q : VK} (h : tE G W (x2 f a b) σ H Q) : tOp (rD G W f) (tE G W a) (tE G W b) σ H Q := by
  obtain ⟨g, en, st, R, h⟩ := h
  refine ⟨g, en, st, R, (pX.bind h).imp fun x st1 g1 H1 l1 R1 h1 v rv => ?_⟩
  refine ⟨g1, en, st1, R1, (pX.bind h1).imp fun y st2 g2 H2 l2 R2 h2 u ru => ?_⟩
  exact ⟨g2, en, st2, σ, x, y, R2, rv.mono l2, ru, h2⟩
theorem tUn_of {f : Op1} {a : XE} {σ : St} {H : Hp} {Q : VK} (h : tE G W (x1 f a) σ H Q) : tUn (rD1 G W f) (tE G W a) σ H Q := by
  obtain ⟨g, en, st, R, h⟩ := h
  refine ⟨g, en, st, R, (pX.bind h).imp fun x st1 g1 H1 l1 R1 h1 v rv => ?_⟩
  exact ⟨g1, en, st1, σ, x, R1, rv, h1⟩
theorem se_op {op : Operator} {f : Op2} {a b : Expr} {ca cb : XE} {pos : Pos} (ho : OpR X (binaryOp op) (rD G W f)) (ha : SE G W X a ca) (hb : SE G W X b cb) : SE G W X (.BinOp a op b pos) (x2 f ca cb) :=
  ⟨PE_imp (pe_op ho ha.pe hb.pe) fun _ _ _ h => tOp_of h⟩
theorem se_un {op : UnaryOp} {f : Op1} {a : Expr} {ca : XE} {pos : Pos} (ho : UnR X (unaryOp op) (rD1 G W f)) (ha : SE G W X a ca) : SE G W X (.UnaryOp op a pos) (x1 f ca) :=
  ⟨PE_imp (pe_un ho ha.pe) fun _ _ _ h => tUn_of h⟩
def oI (C : Int → Int → Bool) (k : Int → Int → D) : Op2 := fun x y st => match x, y with
  | .int i, .int j => if C i j then .ok (k i j) st else .bad
  | _, _ => .bad
def oI0 (k : Int → Int → D) : Op2 := fun x y st => match x, y with
  | .int i, .int j => .ok (k i j) st
  | _, _ => .bad
theorem rI_of {C : Int → Int → Bool} {C' : Int → Int → Prop} {k : Int → Int → D} {kv : Int → Int → V} (hC : ∀ i j, C i j = true → C' i j) (hk : ∀ g i j, Rep G g (k i j) (kv i j)) {v u : V} {H : Hp} {Q : VK} (h : rD G W (oI C k) v u H Q) : rI C' kv v u H Q := by
  obtain ⟨g, en, st, σ, x, y, R, rx, ry, h⟩ := h
  unfold oI at h
  cases x <;> try exact h.elim
  rename_i i
  cases y <;> try exact h.elim
  rename_i j
  simp only at h
  by_cases c : C i j = true
  · rw [if_pos c] at h
    exact ⟨i, j, rx, ry, hC i j c, h g H (Le.refl g) R _ (hk g i j)⟩
  · rw [if_neg c] at h; exact h.elim
theorem rI0_of {k : Int → Int → D} {kv : Int → Int → V} (hk : ∀ g i j, Rep G g (k i j) (kv i j)) {v u : V} {H : Hp} {Q : VK} (h : rD G W (oI0 k) v u H Q) : rI0 kv v u H Q := by
  obtain ⟨g, en, st, σ, x, y, R, rx, ry, h⟩ := h
  unfold oI0 at h
  cases x <;> try exact h.elim
  rename_i i
  cases y <;> try exact h.elim
  rename_i j
  exact ⟨i, j, rx, ry, h g H (Le.refl g) R _ (hk g i j)⟩
def absLe (i : Int) (n : Nat) : Bool := Nat.ble i.natAbs n
theorem absLe_iff {i : Int} {n : Nat} : absLe i n = true ↔ i.natAbs ≤ n := ⟨Nat.le_of_ble_eq_true, Nat.ble_eq_true_of_le⟩
def small64 (i : Int) : Bool := absLe i 18446744073709551615
def okMul (i j : Int) : Bool := small64 i || small64 j || decide (i.natAbs.log2 + j.natAbs.log2 < 100000000)
theorem okMul_ok {i j : Int} (h : okMul i j = true) : IntMulOk i j := by
  unfold okMul small64 at h
  simp only [Bool.or_eq_true, absLe_iff, decide_eq_true_eq] at h
  rcases h with (h | h) | h
  · exact CMul.ok (.inl (by omega))
  · exact CMul.ok (.inr (by omega))
  · have b : ∀ x : Int, Builtin.Int.intBits x ≤ x.natAbs.log2 + 1 := fun x => by
      unfold Builtin.Int.intBits
      split <;> omega
    have h1 := b i
    have h2 := b j
    have e : bitsLine = 134217728 := by decide
    unfold IntMulOk
    intro z
    rw [Bool.and_eq_true] at z
    have z2 := z.2
    unfold Builtin.Int.intTooBig at z2
    have z3 := of_decide_eq_true z2
    rw [e] at z3
    omega
theorem op_mulX : OpR X (binaryOp .Mult) (rI (fun i j => okMul i j = true) fun i j => .int (i * j)) := opI fun _ _ _ _ _ _ _ hc q => PyProof.Rows.mul_int q (okMul_ok hc)
def okDiv (_ j : Int) : Bool := decide (0 < j) && decide (j.natAbs.log2 < 9000)
def okMod (_ j : Int) : Bool := decide (0 < j)
def okShl (i j : Int) : Bool := decide (0 ≤ j) && absLe j 1000000 && absLe i 18446744073709551615
def okShr (_ j : Int) : Bool := decide (0 ≤ j)
def iSub : Op2 := oI0 fun i j => .int (i - j)
def iMul : Op2 := oI okMul fun i j => .int (i * j)
def iDiv : Op2 := oI okDiv fun i j => .int (i / j)
def iMod : Op2 := oI okMod fun i j => .int (i % j)
def iShl : Op2 := oI okShl fun i j => .int (i * 2 ^ j.toNat)
def iShr : Op2 := oI okShr fun i j => .int (i / 2 ^ j.toNat)
def iAnd : Op2 := oI0 fun i j => .int (Builtin.bitAnd i j)
def iOr : Op2 := oI0 fun i j => .int (Builtin.bitOr i j)
def iXor : Op2 := oI0 fun i j => .int (Builtin.bitXor i j)
theorem ho_sub : OpR X (binaryOp .Sub) (rD G W iSub) := OpR_imp op_sub fun _ _ _ _ h => rI0_of (k := fun i j => .int (i - j)) (kv := fun i j => .int (i - j)) (fun _ _ _ => rfl) h
theorem ho_div : OpR X (binaryOp .FloorDiv) (rD G W iDiv) := OpR_imp op_fdivW fun _ _ _ _ h => rI_of (C := okDiv) (k := fun i j => .int (i / j)) (kv := fun i j => .int (i / j)) (fun i j c => by
  unfold okDiv at c
  simp only [Bool.and_eq_true, decide_eq_true_eq] at c
  exact c) (fun _ _ _ => rfl) h
theorem ho_mod : OpR X (binaryOp .Mod) (rD G W iMod) := OpR_imp op_mod fun _ _ _ _ h => rI_of (C := okMod) (k := fun i j => .int (i % j)) (kv := fun i j => .int (i % j)) (fun i j c => of_decide_eq_true c) (fun _ _ _ => rfl) h
theorem ho_shl : OpR X (binaryOp .LShift) (rD G W iShl) := OpR_imp op_shl fun _ _ _ _ h => rI_of (C := okShl) (k := fun i j => .int (i * 2 ^ j.toNat)) (kv := fun i j => .int (i * 2 ^ j.toNat)) (fun i j c => by
  unfold okShl at c
  simp only [Bool.and_eq_true, absLe_iff, decide_eq_true_eq] at c
  exact ⟨c.1.1, by omega, by omega⟩) (fun _ _ _ => rfl) h
theorem ho_shr : OpR X (binaryOp .RShift) (rD G W iShr) := OpR_imp op_shr fun _ _ _ _ h => rI_of (C := okShr) (k := fun i j => .int (i / 2 ^ j.toNat)) (kv := fun i j => .int (i / 2 ^ j.toNat)) (fun i j c => of_decide_eq_true c) (fun _ _ _ => rfl) h
theorem ho_and : OpR X (binaryOp .BitAnd) (rD G W iAnd) := OpR_imp op_and fun _ _ _ _ h => rI0_of (k := fun i j => .int (Builtin.bitAnd i j)) (kv := fun i j => .int (Builtin.bitAnd i j)) (fun _ _ _ => rfl) h
theorem ho_or : OpR X (binaryOp .BitOr) (rD G W iOr) := OpR_imp op_or fun _ _ _ _ h => rI0_of (k := fun i j => .int (Builtin.bitOr i j)) (kv := fun i j => .int (Builtin.bitOr i j)) (fun _ _ _ => rfl) h
theorem ho_xor : OpR X (binaryOp .BitXor) (rD G W iXor) := OpR_imp op_xor fun _ _ _ _ h => rI0_of (k := fun i j => .int (Builtin.bitXor i j)) (kv := fun i j => .int (Builtin.bitXor i j)) (fun _ _ _ => rfl) h
def oNeg : Op1 := fun x st => match x with
  | .int i => .ok (.int (-i)) st
  | _ => .bad
theorem ho_neg : UnR X (unaryOp .USub) (rD1 G W oNeg) := UnR_imp un_neg fun v H Q ⟨g, en, st, σ, x, R, rx, h⟩ => by
  unfold oNeg at h
  cases x <;> try exact h.elim
  rename_i i
  exact ⟨i, rx, h g H (Le.refl g) R _ rfl⟩
def lstOf (st : Sto) : D → Option (List D)
  | .cell i => match st[i]? with
    | some (.lst ds) => some ds
    | _ => none
  | .lst .frz ds => some ds
  | .lst .loan ds => some ds
  | _ => none
def seqOf (st : Sto) : D → Option (List D)
  | .lst .ro ds => some ds
  | d => lstOf st d
theorem lstOf_H {g : Gh} {en : En} {st : Sto} {σ : St} {H : Hp} {d : D} {v : V} {ds : List D} (R : Rel G g en st σ H) (r : Rep G g d v) (h : lstOf st d = some ds) : ∃ a vs, v = .ref a ∧ H a = some (.lst vs) ∧ RepL G g ds vs := by
  unfold lstOf at h
  cases d with
  | cell i =>
    simp only at h
    cases e : st[i]? with
    | none => rw [e] at h; cases h
    | some c =>
      rw [e] at h
      cases c <;> try cases h
      obtain ⟨a, o, e1, _, e3, vs, e4, e5⟩ := R.isCell e (by intro z; cases z) r
      exact ⟨a, vs, e1, by rw [e3, e4], e5⟩
  | lst m es =>
    obtain ⟨a, vs, e1, e2, e3⟩ := r
    cases m <;> simp only at h
    · cases h; exact ⟨a, vs, e1, R.sF _ _ e2, e3⟩
    · cases h; exact ⟨a, vs, e1, R.sL _ _ e2, e3⟩
    · cases h
    · cases h
  | _ => cases h
theorem seqOf_H {g : Gh} {en : En} {st : Sto} {σ : St} {H : Hp} {d : D} {v : V} {ds : List D} (R : Rel G g en st σ H) (r : Rep G g d v) (h : seqOf st d = some ds) : ∃ a vs, v = .ref a ∧ SqL G.K H a vs ∧ RepL G g ds vs := by
  unfold seqOf at h
  split at h
  · cases h
    obtain ⟨a, vs, e1, e2, e3⟩ := r
    exact ⟨a, vs, e1, seqL_same R.sF e2, e3⟩
  · obtain ⟨a, vs, e1, e2, e3⟩ := lstOf_H R r h
    exact ⟨a, vs, e1, SqL.of e2, e3⟩
theorem tup_H {g : Gh} {en : En} {st : Sto} {σ : St} {H : Hp} {v : V} {ds : List D} (R : Rel G g en st σ H) (r : Rep G g (.tup ds) v) : ∃ a vs, v = .ref a ∧ SqT G.K H a vs ∧ RepL G g ds vs := by
  obtain ⟨a, vs, e1, e2, e3⟩ := r
  exact ⟨a, vs, e1, seqT_same R.sF e2, e3⟩
def fitL (n : Nat) : Bool := decide (n ≤ 16777216)
def oAdd : Op2 := fun x y st => match x, y with
  | .int i, .int j => .ok (.int (i + j)) st
  | .str a, .str b => if fitL (a.length + b.length) then .ok (.str (a ++ b)) st else .bad
  | .tup a, .tup b => if fitL (a.length + b.length) then .ok (.tup (a ++ b)) st else .bad
  | x, y => match lstOf st x, lstOf st y with
    | some a, some b => if fitL (a.length + b.length) then .ok (.cell st.length) (st ++ [.lst (a ++ b)]) else .bad
    | _, _ => .bad
theorem fitL_ok {n : Nat} (h : fitL n = true) : n ≤ sizeLine := by
  rw [sizeLine_eq]; exact of_decide_eq_true h
theorem ho_add (hK : X.K = G.K) : OpR X (binaryOp .Add) (rD G W oAdd) := by
  refine OpR_imp (OpR.or op_add (OpR.or op_add_str (OpR.or op_cat L2.op_catA))) fun v u H Q ⟨g, en, st, σ, x, y, R, rx, ry, h⟩ => ?_
  have lists : ∀ a b, lstOf st x = some a → lstOf st y = some b → pX G W g en σ (if fitL (a.length + b.length) then .ok (.cell st.length) (st ++ [.lst (a ++ b)]) else .bad : Px.R D) (fun d g' _ H' => ∀ v, Rep G g' d v → Q v H') → rCat v u H Q := by
    intro a b ha hb h
    by_cases c : fitL (a.length + b.length) = true
    · rw [if_pos c] at h
      obtain ⟨p, vs, e1, e2, e3⟩ := lstOf_H R rx ha
      obtain ⟨q, us, f1, f2, f3⟩ := lstOf_H R ry hb
      refine ⟨p, q, vs, us, e1, f1, e2, f2, by rw [← e3.length, ← f3.length]; exact fitL_ok c, fun n hn => ?_⟩
      obtain ⟨l, R', r'⟩ := R.new (c := .lst (a ++ b)) hn ⟨vs ++ us, rfl, e3.append f3⟩
      exact h _ _ l R' _ r'
    · rw [if_neg c] at h; exact h.elim
  unfold oAdd at h
  split at h
  · exact .inl ⟨_, _, rx, ry, h g H (Le.refl g) R _ rfl⟩
  · rename_i a b
    refine .inr (.inl ?_)
    split at h
    · rename_i c
      exact ⟨a, b, rx, ry, fitL_ok c, h g H (Le.refl g) R _ rfl⟩
    · exact h.elim
  · rename_i a b
    refine .inr (.inr (.inr ?_))
    split at h
    · rename_i c
      obtain ⟨p, vs, e1, e2, e3⟩ := tup_H R rx
      obtain ⟨q, us, f1, f2, f3⟩ := tup_H R ry
      refine ⟨p, q, vs, us, e1, f1, by rw [hK]; exact e2, by rw [hK]; exact f2, by rw [← e3.length, ← f3.length]; exact fitL_ok c, fun z => ?_, fun z1 z2 => ?_, fun z1 z2 n hn => ?_⟩
      · subst z
        have : a = [] := List.length_eq_zero_iff.mp (by rw [e3.length]; rfl)
        subst this
        exact h g H (Le.refl _) R _ (by rw [← f1]; simpa using ry)
      · subst z2
        have : b = [] := List.length_eq_zero_iff.mp (by rw [f3.length]; rfl)
        subst this
        exact h g H (Le.refl _) R _ (by rw [← e1]; simpa using rx)
      · obtain ⟨l, R', r'⟩ := R.tup hn (e3.append f3)
        exact h _ _ l R' _ r'
    · exact h.elim
  · split at h
    · rename_i a b ha hb
      exact .inr (.inr (.inl (lists a b ha hb h)))
    · exact h.elim
def oMul : Op2 := fun x y st => match x, y with
  | .int i, .int j => if okMul i j then .ok (.int (i * j)) st else .bad
  | x, .int k => match lstOf st x with
    | some a => if small62 k && fitL (a.length * k.toNat) then .ok (.cell st.length) (st ++ [.lst (List.replicate k.toNat a).flatten]) else .bad
    | none => .bad
  | _, _ => .bad
where small62 (k : Int) : Bool := absLe k 4611686018427387903
theorem RepL.flatten {g : Gh} {ds : List D} {vs : List V} (h : RepL G g ds vs) : ∀ n : Nat, RepL G g (List.replicate n ds).flatten (List.replicate n vs).flatten
  | 0 => rfl
  | n + 1 => by
    rw [List.replicate_succ, List.replicate_succ, List.flatten_cons, List.flatten_cons]
    exact h.append (RepL.flatten h n)
end
end Px
namespace Px
open PySem PySem.Spec L2
section
variable {G : GS} {W : WX} {X : Cx}
theorem ho_mul : OpR X (binaryOp .Mult) (rD G W oMul) := by
  refine OpR_imp (OpR.or op_mulX op_rep) fun v u H Q ⟨g, en, st, σ, x, y, R, rx, ry, h⟩ => ?_
  unfold oMul at h
  split at h
  · rename_i i j
    split at h
    · rename_i c
      exact .inl ⟨i, j, rx, ry, c, h g H (Le.refl g) R _ rfl⟩
    · exact h.elim
  · rename_i k _
    refine .inr ?_
    split at h
    · rename_i a ha
      split at h
      · rename_i c
        simp only [Bool.and_eq_true, oMul.small62, absLe_iff, decide_eq_true_eq] at c
        obtain ⟨p, vs, e1, e2, e3⟩ := lstOf_H R rx ha
        refine ⟨p, k, vs, e1, ry, e2, by have := c.1; omega, by have := c.1; omega, by rw [← e3.length]; exact fitL_ok c.2, fun n hn => ?_⟩
        obtain ⟨l, R', r'⟩ := R.new (c := .lst (List.replicate k.toNat a).flatten) hn ⟨_, rfl, e3.flatten k.toNat⟩
        exact h _ _ l R' _ r'
      · exact h.elim
    · exact h.elim
  · exact h.elim
def Gh.lent (g : Gh) (H : Hp) : Gh := ⟨g.F, H, []⟩
theorem mapS_ok {g g' : Gh} {f : D → Option D} (hf : ∀ d e v, f d = some e → Rep G g d v → Rep G g' e v ∧ e.noc = true) : ∀ (ds es : List D) (vs : List V), mapS f ds = some es → RepL G g ds vs → RepL G g' es vs ∧ nocL es = true
  | [], es, vs, h, r => by cases h; exact ⟨r, rfl⟩
  | d :: ds, es, vs, h, ⟨v, vr, e1, e2, e3⟩ => by
    simp only [mapS] at h
    split at h
    · rename_i p q hp hq
      cases h
      obtain ⟨a1, a2⟩ := hf d p v hp e2
      obtain ⟨b1, b2⟩ := mapS_ok hf ds q vr hq e3
      exact ⟨⟨v, vr, e1, a1, b1⟩, by simp [nocL, a2, b2]⟩
    · cases h
theorem snapL_ok {g : Gh} {en : En} {st : Sto} {σ : L2.St} {H : Hp} {f : D → Option D} (R : Rel G g en st σ H) (hf : ∀ d e v, f d = some e → Rep G g d v → Rep G (g.lent H) e v ∧ e.noc = true) {ds es : List D} {vs : List V} (h : snapL f ds = some es) (r : RepL G g ds vs) : RepL G (g.lent H) es vs ∧ nocL es = true := by
  unfold snapL at h
  split at h
  · rename_i c
    rw [all_noc] at c
    cases h
    exact ⟨RepL.noc (g := g) (g' := g.lent H) (Same.refl _) R.sL ds vs c r, c⟩
  · exact mapS_ok hf ds es vs h r
theorem snap_ok {g : Gh} {en : En} {st : Sto} {σ : L2.St} {H : Hp} (R : Rel G g en st σ H) : ∀ (n : Nat) (d e : D) (v : V), snap st n d = some e → Rep G g d v → Rep G (g.lent H) e v ∧ e.noc = true
  | 0, d, e, v, h, r => by
    unfold snap at h
    split at h
    · rename_i c
      cases h
      exact ⟨Rep.noc (g := g) (g' := g.lent H) (Same.refl _) R.sL d v c r, c⟩
    · cases h
  | n + 1, d, e, v, h, r => by
    have ih := snap_ok R n
    unfold snap at h
    split at h
    · rename_i c
      cases h
      exact ⟨Rep.noc (g := g) (g' := g.lent H) (Same.refl _) R.sL d v c r, c⟩
    · split at h
      · rename_i ds _
        obtain ⟨es, he, rfl⟩ := Option.map_eq_some_iff.mp h
        obtain ⟨a, vs, e1, e2, e3⟩ := r
        obtain ⟨q1, q2⟩ := snapL_ok R ih he e3
        exact ⟨⟨a, vs, e1, e2, q1⟩, by simpa [D.noc] using q2⟩
      · rename_i i _
        split at h
        · rename_i ds hi
          obtain ⟨es, he, rfl⟩ := Option.map_eq_some_iff.mp h
          obtain ⟨a, o, e1, _, e3, vs, e4, e5⟩ := R.isCell hi (by intro z; cases z) r
          obtain ⟨q1, q2⟩ := snapL_ok R ih he e5
          exact ⟨⟨a, vs, e1, by subst e4; exact e3, q1⟩, by simp [D.noc, q2]⟩
        · rename_i ks ds hi
          obtain ⟨es, he, rfl⟩ := Option.map_eq_some_iff.mp h
          obtain ⟨a, o, e1, _, e3, vs, e4, e5, e6⟩ := R.isCell hi (by intro z; cases z) r
          obtain ⟨q1, q2⟩ := snapL_ok R ih he e6
          exact ⟨⟨a, vs, e1, by subst e4; exact .inl e3, e5, q1⟩, by simp [D.noc, q2]⟩
        · rename_i ks ds hi
          obtain ⟨es, he, rfl⟩ := Option.map_eq_some_iff.mp h
          obtain ⟨a, o, e1, _, e3, vs, e4, e5, e6⟩ := R.isCell hi (by intro z; cases z) r
          obtain ⟨q1, q2⟩ := snapL_ok R ih he e6
          exact ⟨⟨a, vs, e1, by subst e4; exact .inl e3, e5, q1⟩, by simp [D.noc, q2]⟩
        · rename_i c ds hi
          obtain ⟨es, he, rfl⟩ := Option.map_eq_some_iff.mp h
          obtain ⟨a, o, e1, _, e3, dx, vs, e4, e5, e6⟩ := R.isCell hi (by intro z; cases z) r
          obtain ⟨q1, q2⟩ := snapL_ok R ih he e6
          exact ⟨⟨a, dx, vs, e1, by subst e4; exact e3, e5, q1⟩, by simp [D.noc, q2]⟩
        · cases h
      · cases h
mutual
def pyD : D → Option PyData
  | .non => some .none
  | .bl b => some (.bool b)
  | .int i => some (.int i)
  | .str x => some (.str x)
  | .tup ds => (pyL ds).map .tuple
  | .lst m ds => if m = .own then none else (pyL ds).map .list
  | _ => none
def pyL : List D → Option (List PyData)
  | [] => some []
  | d :: ds => match pyD d, pyL ds with
    | some p, some q => some (p :: q)
    | _, _ => none
end
mutual
theorem pyD_ok {g : Gh} {H : Hp} (sF : Same g.F H) : ∀ (d : D) (v : V) (p : PyData), Rep G (g.lent H) d v → pyD d = some p → Dp G.K H v p
  | .non, _, _, r, h => by cases h; cases r; exact .non
  | .bl _, _, _, r, h => by cases h; cases r; exact .bl _
  | .int _, _, _, r, h => by cases h; cases r; exact .int _
  | .str _, _, _, r, h => by cases h; cases r; exact .str _
  | .tup ds, v, p, ⟨a, vs, e1, e2, e3⟩, h => by
    simp only [pyD] at h
    obtain ⟨q, hq, rfl⟩ := Option.map_eq_some_iff.mp h
    subst e1
    exact .tup (seqT_same sF e2) (pyL_ok sF ds vs q e3 hq)
  | .lst m ds, v, p, ⟨a, vs, e1, e2, e3⟩, h => by
    simp only [pyD] at h
    split at h
    · cases h
    · obtain ⟨q, hq, rfl⟩ := Option.map_eq_some_iff.mp h
      subst e1
      refine .lst ?_ (pyL_ok sF ds vs q e3 hq)
      cases m with
      | frz => exact SqL.of (sF _ _ e2)
      | loan => exact SqL.of e2
      | ro => exact seqL_same sF e2
      | own => exact e2.elim
  | .dk _ _ _, _, _, _, h => by cases h
  | .dt _ _ _, _, _, _, h => by cases h
  | .obj _ _ _, _, _, _, h => by cases h
  | .cell _, _, _, _, h => by cases h
theorem pyL_ok {g : Gh} {H : Hp} (sF : Same g.F H) : ∀ (ds : List D) (vs : List V) (ps : List PyData), RepL G (g.lent H) ds vs → pyL ds = some ps → DpAll G.K H vs ps
  | [], vs, ps, r, h => by cases h; cases r; exact .nil
  | d :: ds, vs, ps, ⟨v, vr, e1, e2, e3⟩, h => by
    simp only [pyL] at h
    split at h
    · rename_i p q hp hq
      cases h
      subst e1
      exact .cons (pyD_ok sF d v p e2 hp) (pyL_ok sF ds vr q e3 hq)
    · cases h
end
def eqD (st : Sto) (x y : D) : Option Bool := match x, y with
  | .int i, .int j => some (decide (i = j))
  | .str a, .str b => some (decide (a = b))
  | .bl a, .bl b => some (decide (a = b))
  | x, y => match snap st 8 x, snap st 8 y with
    | some a, some b => match pyD a, pyD b with
      | some p, some q => if SeqAt.shaped p && SeqAt.shaped q then some (PyData.eqv p q) else none
      | _, _ => none
    | _, _ => none
theorem eqD_ok {g : Gh} {en : En} {st : Sto} {σ : L2.St} {H : Hp} {x y : D} {v u : V} {b : Bool} (R : Rel G g en st σ H) (rx : Rep G g x v) (ry : Rep G g y u) (h : eqD st x y = some b) :
    (scal v u = true ∧ b = decide (v = u)) ∨ ∃ d e, Dp G.K H v d ∧ Dp G.K H u e ∧ SeqAt.shaped d = true ∧ SeqAt.shaped e = true ∧ b = PyData.eqv d e := by
  unfold eqD at h
  split at h
  · rename_i i j
    cases h; cases rx; cases ry
    refine .inl ⟨rfl, ?_⟩
    rw [dec_int, Bool.beq_eq_decide_eq]
  · rename_i i j
    cases h; cases rx; cases ry
    refine .inl ⟨rfl, ?_⟩
    rw [dec_str, Bool.beq_eq_decide_eq]
  · rename_i i j
    cases h; cases rx; cases ry
    refine .inl ⟨rfl, ?_⟩
    rw [dec_bl, Bool.beq_eq_decide_eq]
  · refine .inr ?_
    split at h
    · rename_i a c ha hc
      split at h
      · rename_i p q hp hq
        split at h
        · rename_i z
          simp only [Bool.and_eq_true] at z
          cases h
          exact ⟨p, q, pyD_ok R.sF a v p (snap_ok R _ _ _ _ ha rx).1 hp, pyD_ok R.sF c u q (snap_ok R _ _ _ _ hc ry).1 hq, z.1, z.2, rfl⟩
        · cases h
      · cases h
    · cases h
def oB (o : Option Bool) (st : Sto) : R D := match o with
  | some b => .ok (.bl b) st
  | none => .bad
def oEq : Op2 := fun x y st => oB (eqD st x y) st
def oNe : Op2 := fun x y st => oB ((eqD st x y).map (!·)) st
theorem ho_eq (hK : X.K = G.K) (hu : X.A.units + 64 < cLine) : OpR X (compareOp .Eq) (rD G W oEq) := by
  refine OpR_imp (OpR.or op_eq (op_eqD hu)) fun v u H Q ⟨g, en, st, σ, x, y, R, rx, ry, h⟩ => ?_
  unfold oEq oB at h
  cases e : eqD st x y with
  | none => rw [e] at h; exact h.elim
  | some b =>
    rw [e] at h
    have q := h g H (Le.refl g) R _ rfl
    rcases eqD_ok R rx ry e with ⟨h1, rfl⟩ | ⟨d, f, h1, h2, h3, h4, rfl⟩
    · exact .inl ⟨h1, q⟩
    · exact .inr ⟨d, f, by rw [hK]; exact h1, by rw [hK]; exact h2, h3, h4, q⟩
theorem ho_ne (hK : X.K = G.K) (hu : X.A.units + 64 < cLine) : OpR X (compareOp .NotEq) (rD G W oNe) := by
  refine OpR_imp (OpR.or op_ne (op_neD hu)) fun v u H Q ⟨g, en, st, σ, x, y, R, rx, ry, h⟩ => ?_
  unfold oNe oB at h
  cases e : eqD st x y with
  | none => rw [e] at h; exact h.elim
  | some b =>
    rw [e] at h
    have q := h g H (Le.refl g) R _ rfl
    rcases eqD_ok R rx ry e with ⟨h1, rfl⟩ | ⟨d, f, h1, h2, h3, h4, rfl⟩
    · exact .inl ⟨h1, q⟩
    · exact .inr ⟨d, f, by rw [hK]; exact h1, by rw [hK]; exact h2, h3, h4, q⟩
def strLt (a b : Str) : Bool := decide (a.cps.toList < b.cps.toList)
def iLt : Op2 := oI0 fun i j => .bl (decide (i < j))
def iLe : Op2 := oI0 fun i j => .bl (decide (i ≤ j))
def iGt : Op2 := oI0 fun i j => .bl (decide (j < i))
def iGe : Op2 := oI0 fun i j => .bl (decide (j ≤ i))
theorem ho_lt : OpR X (compareOp .Lt) (rD G W iLt) := OpR_imp op_lt fun _ _ _ _ h => rI0_of (k := fun i j => .bl (decide (i < j))) (kv := fun i j => .bl (decide (i < j))) (fun _ _ _ => rfl) h
theorem ho_le : OpR X (compareOp .LtE) (rD G W iLe) := OpR_imp op_le fun _ _ _ _ h => rI0_of (k := fun i j => .bl (decide (i ≤ j))) (kv := fun i j => .bl (decide (i ≤ j))) (fun _ _ _ => rfl) h
theorem ho_gt : OpR X (compareOp .Gt) (rD G W iGt) := OpR_imp op_gt fun _ _ _ _ h => rI0_of (k := fun i j => .bl (decide (j < i))) (kv := fun i j => .bl (decide (j < i))) (fun _ _ _ => rfl) h
theorem ho_ge : OpR X (compareOp .GtE) (rD G W iGe) := OpR_imp op_ge fun _ _ _ _ h => rI0_of (k := fun i j => .bl (decide (j ≤ i))) (kv := fun i j => .bl (decide (j ≤ i))) (fun _ _ _ => rfl) h
def isNon : D → Bool
  | .non => true
  | _ => false
theorem isNon_ok {g : Gh} {d : D} {v : V} (r : Rep G g d v) : isNon d = decide (v = .non) := by
  cases d with
  | non => cases r; rfl
  | bl _ => cases r; rfl
  | int _ => cases r; rfl
  | str _ => cases r; rfl
  | tup _ => obtain ⟨a, vs, rfl, _⟩ := r; rfl
  | lst _ _ => obtain ⟨a, vs, rfl, _⟩ := r; rfl
  | dk _ _ _ => obtain ⟨a, vs, rfl, _⟩ := r; rfl
  | dt _ _ _ => obtain ⟨a, vs, rfl, _⟩ := r; rfl
  | obj _ _ _ => obtain ⟨a, dx, vs, rfl, _⟩ := r; rfl
  | cell _ => obtain ⟨a, _, rfl⟩ := r; rfl
def oIs : Op2 := fun x y st => match y with
  | .non => .ok (.bl (isNon x)) st
  | _ => .bad
def oIsNot : Op2 := fun x y st => match y with
  | .non => .ok (.bl (!isNon x)) st
  | _ => .bad
theorem ho_is : OpR X (compareOp .Is) (rD G W oIs) := OpR_imp op_isN fun v u H Q ⟨g, en, st, σ, x, y, R, rx, ry, h⟩ => by
  unfold oIs at h
  split at h
  · cases ry
    exact ⟨rfl, h g H (Le.refl g) R _ (by rw [← isNon_ok rx]; rfl)⟩
  · exact h.elim
theorem ho_isnot : OpR X (compareOp .IsNot) (rD G W oIsNot) := OpR_imp op_notN fun v u H Q ⟨g, en, st, σ, x, y, R, rx, ry, h⟩ => by
  unfold oIsNot at h
  split at h
  · cases ry
    exact ⟨rfl, h g H (Le.refl g) R _ (by rw [← isNon_ok rx]; rfl)⟩
  · exact h.elim
def flD : D → Option V
  | .non => some .non
  | .bl b => some (.bl b)
  | .int i => some (.int i)
  | .str x => some (.str x)
  | _ => none
def flL : List D → Option (List V)
  | [] => some []
  | d :: ds => match flD d, flL ds with
    | some v, some vs => some (v :: vs)
    | _, _ => none
theorem flD_ok {g : Gh} {d : D} {v w : V} (r : Rep G g d v) (h : flD d = some w) : v = w ∧ flatV v = true := by
  cases d <;> cases h <;> cases r <;> exact ⟨rfl, rfl⟩
theorem flL_ok {g : Gh} : ∀ {ds : List D} {vs ws : List V}, RepL G g ds vs → flL ds = some ws → vs = ws ∧ vs.all flatV = true
  | [], _, _, r, h => by cases r; cases h; exact ⟨rfl, rfl⟩
  | d :: ds, _, _, ⟨v, vr, e1, e2, e3⟩, h => by
    simp only [flL] at h
    split at h
    · rename_i p q hp hq
      cases h
      subst e1
      obtain ⟨a1, a2⟩ := flD_ok e2 hp
      obtain ⟨b1, b2⟩ := flL_ok e3 hq
      subst a1; subst b1
      exact ⟨rfl, by simp [a2, b2]⟩
    · cases h
def itemsOf (st : Sto) : D → Option (List D)
  | .tup ds => some ds
  | d => seqOf st d
theorem itemsOf_H {g : Gh} {en : En} {st : Sto} {σ : L2.St} {H : Hp} {d : D} {v : V} {ds : List D} (R : Rel G g en st σ H) (r : Rep G g d v) (h : itemsOf st d = some ds) :
    ∃ a vs, v = .ref a ∧ (SqL G.K H a vs ∨ SqT G.K H a vs) ∧ RepL G g ds vs := by
  unfold itemsOf at h
  split at h
  · cases h
    obtain ⟨a, vs, e1, e2, e3⟩ := tup_H R r
    exact ⟨a, vs, e1, .inr e2, e3⟩
  · obtain ⟨a, vs, e1, e2, e3⟩ := seqOf_H R r h
    exact ⟨a, vs, e1, .inl e2, e3⟩
def inD (st : Sto) (x y : D) : Option Bool := match flD x, itemsOf st y with
  | some v, some ds => (flL ds).map (inV v)
  | _, _ => none
def oIn : Op2 := fun x y st => oB (inD st x y) st
def oNotIn : Op2 := fun x y st => oB ((inD st x y).map (!·)) st
theorem inD_ok {g : Gh} {en : En} {st : Sto} {σ : L2.St} {H : Hp} {x y : D} {v u : V} {b : Bool} (R : Rel G g en st σ H) (rx : Rep G g x v) (ry : Rep G g y u) (h : inD st x y = some b) :
    ∃ p xs, u = .ref p ∧ (SqL G.K H p xs ∨ SqT G.K H p xs) ∧ flatV v = true ∧ xs.all flatV = true ∧ b = inV v xs := by
  unfold inD at h
  split at h
  · rename_i w ds hw hds
    obtain ⟨ws, hws, rfl⟩ := Option.map_eq_some_iff.mp h
    obtain ⟨a, vs, e1, e2, e3⟩ := itemsOf_H R ry hds
    obtain ⟨a1, a2⟩ := flD_ok rx hw
    obtain ⟨b1, b2⟩ := flL_ok e3 hws
    subst a1; subst b1
    exact ⟨a, vs, e1, e2, a2, b2, rfl⟩
  · cases h
theorem ho_in (hK : X.K = G.K) : OpR X (compareOp .In) (rD G W oIn) := by
  refine OpR_imp op_in_seq fun v u H Q ⟨g, en, st, σ, x, y, R, rx, ry, h⟩ => ?_
  unfold oIn oB at h
  cases e : inD st x y with
  | none => rw [e] at h; exact h.elim
  | some b =>
    rw [e] at h
    obtain ⟨p, xs, e1, e2, e3, e4, rfl⟩ := inD_ok R rx ry e
    exact ⟨p, xs, e1, by rw [hK]; exact e2, e3, e4, h g H (Le.refl g) R _ rfl⟩
theorem ho_notin (hK : X.K = G.K) : OpR X (compareOp .NotIn) (rD G W oNotIn) := by
  refine OpR_imp op_notIn_seq fun v u H Q ⟨g, en, st, σ, x, y, R, rx, ry, h⟩ => ?_
  unfold oNotIn oB at h
  cases e : inD st x y with
  | none => rw [e] at h; exact h.elim
  | some b =>
    rw [e] at h
    obtain ⟨p, xs, e1, e2, e3, e4, rfl⟩ := inD_ok R rx ry e
    exact ⟨p, xs, e1, by rw [hK]; exact e2, e3, e4, h g H (Le.refl g) R _ rfl⟩
def xt (c : XE) : XT := fun en st => (c en st).bind fun d st => match d with
  | .bl b => .ok b st
  | _ => .bad
def xb (c : XT) : XE := fun en st => (c en st).bind fun b st => .ok (.bl b) st
theorem tTest_of {c : XE} {t : TE} (h : ∀ σ H Q, tE G W c σ H Q → t σ H Q) {σ : L2.St} {H : Hp} {Q : Bool → Hp → Prop} (w : tT G W (xt c) σ H Q) : tTest t σ H Q := by
  obtain ⟨g, en, st, R, w⟩ := w
  refine h _ _ _ ⟨g, en, st, R, (pX.bind w).imp fun d st1 g1 H1 l1 R1 h1 v rv => ?_⟩
  cases d <;> try exact h1.elim
  rename_i b
  exact ⟨b, rv, h1 g1 H1 (Le.refl _) R1⟩
theorem se_cmp {op : CmpOp} {f : Op2} {a b : Expr} {ca cb : XE} {pos : Pos} (ho : OpR X (compareOp op) (rD G W f)) (ha : SE G W X a ca) (hb : SE G W X b cb) (hm : behindInMarks op b = false := by first | exact nomark _ | rfl) : SE G W X (.Compare a [op] [b] pos) (x2 f ca cb) :=
  ⟨PE_imp (pe_cmpR ho ha.pe hb.pe hm) fun _ _ _ h => tOp_of h⟩
theorem sb_cmp {op : CmpOp} {f : Op2} {a b : Expr} {ca cb : XE} {pos : Pos} (ho : OpR X (compareOp op) (rD G W f)) (ha : SE G W X a ca) (hb : SE G W X b cb) (hm : behindInMarks op b = false := by first | exact nomark _ | rfl) : SB G W X (.Compare a [op] [b] pos) (xt (x2 f ca cb)) :=
  ⟨PT_imp (pt_cmpR ho ha.pe hb.pe hm) fun _ _ _ h => tTest_of (fun _ _ _ w => tOp_of w) h⟩
theorem sb_val {e : Expr} {c : XE} (h : SE G W X e c) (he : ∀ whole, isTrue e X.env whole = (do let v ← whole; standAt e.pos; holding [v] (truthy v)) := by intro _; rfl) : SB G W X e (xt c) :=
  ⟨PT_imp (pt_val h.pe he) fun σ H Q w => by
    obtain ⟨g, en, st, R, w⟩ := w
    refine ⟨g, en, st, R, (pX.bind w).imp fun d st1 g1 H1 l1 R1 h1 v rv => ?_⟩
    cases d <;> try exact h1.elim
    rename_i b
    exact ⟨b, rv, h1 g1 H1 (Le.refl _) R1⟩⟩
def xch (f f' : Op2) (a b c : XE) : XE := fun en st => (a en st).bind fun x st => (b en st).bind fun y st => (f x y st).bind fun k st => match k with
  | .bl true => (c en st).bind fun z st => f' y z st
  | .bl false => .ok (.bl false) st
  | _ => .bad
theorem tChain_of {f f' : Op2} {a b c : XE} {σ : L2.St} {H : Hp} {Q : VK} (h : tE G W (xch f f' a b c) σ H Q) : tChain (rD G W f) (rD G W f') (tE G W a) (tE G W b) (tE G W c) σ H Q := by
  obtain ⟨g, en, st, R, h⟩ := h
  refine ⟨g, en, st, R, (pX.bind h).imp fun x st1 g1 H1 l1 R1 h1 v rv => ?_⟩
  refine ⟨g1, en, st1, R1, (pX.bind h1).imp fun y st2 g2 H2 l2 R2 h2 u ru => ?_⟩
  refine ⟨g2, en, st2, σ, x, y, R2, rv.mono l2, ru, (pX.bind h2).imp fun k st3 g3 H3 l3 R3 h3 kv rk => ?_⟩
  cases k <;> try exact h3.elim
  rename_i b
  refine ⟨b, rk, ?_⟩
  cases b with
  | false => exact h3 g3 H3 (Le.refl _) R3 _ rfl
  | true =>
    rw [if_pos rfl]
    refine ⟨g3, en, st3, R3, (pX.bind h3).imp fun z st4 g4 H4 l4 R4 h4 w rw' => ?_⟩
    exact ⟨g4, en, st4, σ, y, z, R4, ru.mono (l3.trans l4), rw', h4⟩
theorem se_chain {op op' : CmpOp} {f f' : Op2} {a b c : Expr} {ca cb cc : XE} {pos : Pos} (ho : OpR X (compareOp op) (rD G W f)) (ho' : OpR X (compareOp op') (rD G W f')) (ha : SE G W X a ca) (hb : SE G W X b cb) (hc : SE G W X c cc)
    (hm : lastMarks [op, op'] [b, c] = false := by with_unfolding_all rfl) : SE G W X (.Compare a [op, op'] [b, c] pos) (xch f f' ca cb cc) :=
  ⟨PE_imp (pe_chain ho ho' ha.pe hb.pe hc.pe hm) fun _ _ _ h => tChain_of h⟩
theorem sb_chain {op op' : CmpOp} {f f' : Op2} {a b c : Expr} {ca cb cc : XE} {pos : Pos} (ho : OpR X (compareOp op) (rD G W f)) (ho' : OpR X (compareOp op') (rD G W f')) (ha : SE G W X a ca) (hb : SE G W X b cb) (hc : SE G W X c cc)
    (hm : lastMarks [op, op'] [b, c] = false := by with_unfolding_all rfl) : SB G W X (.Compare a [op, op'] [b, c] pos) (xt (xch f f' ca cb cc)) :=
  ⟨PT_imp (pt_chain ho ho' ha.pe hb.pe hc.pe hm) fun _ _ _ h => tTest_of (fun _ _ _ w => tChain_of w) h⟩
structure SW (G : GS) (W : WX) (X : Cx) (e : Expr) (c : XT) : Prop where
  pw : PW X e (tT G W c)
def xand (a b : XT) : XT := fun en st => (a en st).bind fun k st => if k then b en st else .ok false st
def xor_ (a b : XT) : XT := fun en st => (a en st).bind fun k st => if k then .ok true st else b en st
def xnot (a : XT) : XT := fun en st => (a en st).bind fun k st => .ok (!k) st
theorem sw_one_and {a : Expr} {c : XT} {pos : Pos} (h : SB G W X a c) : SW G W X (.BoolOp .And [a] pos) c := ⟨pw_and1 h.pt⟩
theorem sw_one_or {a : Expr} {c : XT} {pos : Pos} (h : SB G W X a c) : SW G W X (.BoolOp .Or [a] pos) c := ⟨pw_or1 h.pt⟩
theorem sw_and {a b : Expr} {rest : List Expr} {ca cb : XT} {pos : Pos} (ha : SB G W X a ca) (hb : SW G W X (.BoolOp .And (b :: rest) pos) cb) : SW G W X (.BoolOp .And (a :: b :: rest) pos) (xand ca cb) :=
  ⟨PW_imp (pw_and ha.pt hb.pw) fun σ H Q ⟨g, en, st, R, h⟩ => by
    refine ⟨g, en, st, R, (pX.bind h).imp fun k st1 g1 H1 l1 R1 h1 => ?_⟩
    cases k with
    | true => rw [if_pos rfl]; exact ⟨g1, en, st1, R1, h1⟩
    | false => exact h1 g1 H1 (Le.refl _) R1⟩
theorem sw_or {a b : Expr} {rest : List Expr} {ca cb : XT} {pos : Pos} (ha : SB G W X a ca) (hb : SW G W X (.BoolOp .Or (b :: rest) pos) cb) : SW G W X (.BoolOp .Or (a :: b :: rest) pos) (xor_ ca cb) :=
  ⟨PW_imp (pw_or ha.pt hb.pw) fun σ H Q ⟨g, en, st, R, h⟩ => by
    refine ⟨g, en, st, R, (pX.bind h).imp fun k st1 g1 H1 l1 R1 h1 => ?_⟩
    cases k with
    | true => exact h1 g1 H1 (Le.refl _) R1
    | false => rw [if_neg Bool.false_ne_true]; exact ⟨g1, en, st1, R1, h1⟩⟩
theorem sb_w {e : Expr} {c : XT} (h : SW G W X e c) : SB G W X e c := ⟨h.pw.pt⟩
theorem sb_not {a : Expr} {c : XT} {pos : Pos} (h : SB G W X a c) : SB G W X (.UnaryOp .Not a pos) (xnot c) :=
  ⟨PT_imp (pt_not h.pt) fun σ H Q ⟨g, en, st, R, h⟩ => by
    refine ⟨g, en, st, R, (pX.bind h).imp fun k st1 g1 H1 l1 R1 h1 => ?_⟩
    exact h1 g1 H1 (Le.refl _) R1⟩
def vand (a b : XE) : XE := fun en st => (a en st).bind fun x st => match x with
  | .bl true => b en st
  | .bl false => .ok (.bl false) st
  | _ => .bad
def vor (a b : XE) : XE := fun en st => (a en st).bind fun x st => match x with
  | .bl false => b en st
  | .bl true => .ok (.bl true) st
  | _ => .bad
def vnot (a : XE) : XE := fun en st => (a en st).bind fun x st => match x with
  | .bl b => .ok (.bl (!b)) st
  | _ => .bad
theorem se_one {op : BoolOp} {a : Expr} {c : XE} {pos : Pos} (h : SE G W X a c) : SE G W X (.BoolOp op [a] pos) c := ⟨pe_one h.pe⟩
theorem se_and {a b : Expr} {rest : List Expr} {ca cb : XE} {pos : Pos} (ha : SE G W X a ca) (hb : SE G W X (.BoolOp .And (b :: rest) pos) cb) : SE G W X (.BoolOp .And (a :: b :: rest) pos) (vand ca cb) :=
  ⟨PE_imp (pe_and ha.pe hb.pe) fun σ H Q ⟨g, en, st, R, h⟩ => by
    refine ⟨g, en, st, R, (pX.bind h).imp fun x st1 g1 H1 l1 R1 h1 v rv => ?_⟩
    cases x <;> try exact h1.elim
    rename_i b
    refine ⟨b, rv, ?_⟩
    cases b with
    | true => rw [if_pos rfl]; exact ⟨g1, en, st1, R1, h1⟩
    | false => exact h1 g1 H1 (Le.refl _) R1 _ rfl⟩
theorem se_or {a b : Expr} {rest : List Expr} {ca cb : XE} {pos : Pos} (ha : SE G W X a ca) (hb : SE G W X (.BoolOp .Or (b :: rest) pos) cb) : SE G W X (.BoolOp .Or (a :: b :: rest) pos) (vor ca cb) :=
  ⟨PE_imp (pe_or ha.pe hb.pe) fun σ H Q ⟨g, en, st, R, h⟩ => by
    refine ⟨g, en, st, R, (pX.bind h).imp fun x st1 g1 H1 l1 R1 h1 v rv => ?_⟩
    cases x <;> try exact h1.elim
    rename_i b
    refine ⟨b, rv, ?_⟩
    cases b with
    | true => exact h1 g1 H1 (Le.refl _) R1 _ rfl
    | false => rw [if_neg Bool.false_ne_true]; exact ⟨g1, en, st1, R1, h1⟩⟩
theorem se_not {a : Expr} {c : XE} {pos : Pos} (h : SE G W X a c) : SE G W X (.UnaryOp .Not a pos) (vnot c) :=
  ⟨PE_imp (pe_not h.pe) fun σ H Q ⟨g, en, st, R, h⟩ => by
    refine ⟨g, en, st, R, (pX.bind h).imp fun x st1 g1 H1 l1 R1 h1 v rv => ?_⟩
    cases x <;> try exact h1.elim
    rename_i b
    exact ⟨b, rv, h1 g1 H1 (Le.refl _) R1 _ rfl⟩⟩
def xife (t : XT) (a b : XE) : XE := fun en st => (t en st).bind fun k st => if k then a en st else b en st
theorem se_ife {t a b : Expr} {ct : XT} {ca cb : XE} {pos : Pos} (ht : SB G W X t ct) (ha : SE G W X a ca) (hb : SE G W X b cb) : SE G W X (.IfExp t a b pos) (xife ct ca cb) :=
  ⟨PE_imp (pe_ifExp ht.pt ha.pe hb.pe) fun σ H Q ⟨g, en, st, R, h⟩ => by
    refine ⟨g, en, st, R, (pX.bind h).imp fun k st1 g1 H1 l1 R1 h1 => ?_⟩
    cases k with
    | true => rw [if_pos rfl]; exact ⟨g1, en, st1, R1, h1⟩
    | false => rw [if_neg Bool.false_ne_true]; exact ⟨g1, en, st1, R1, h1⟩⟩
def xnil : XA := fun _ st => .ok [] st
def xcons (a : XE) (b : XA) : XA := fun en st => (a en st).bind fun x st => (b en st).bind fun xs st => .ok (x :: xs) st
theorem sa_nil : SA G W X [] xnil := ⟨PA_imp pa_nil fun σ H Q ⟨g, en, st, R, h⟩ => h g H (Le.refl _) R [] rfl⟩
theorem sa_cons {e : Expr} {es : List Expr} {a : XE} {b : XA} (ha : SE G W X e a) (hb : SA G W X es b) (hs : starEach (e :: es) X.env = (false, eval e X.env) :: starEach es X.env := by rfl) : SA G W X (e :: es) (xcons a b) :=
  ⟨PA_imp (pa_cons ha.pe hb.pa hs) fun σ H Q ⟨g, en, st, R, h⟩ => by
    refine ⟨g, en, st, R, (pX.bind h).imp fun x st1 g1 H1 l1 R1 h1 v rv => ?_⟩
    refine ⟨g1, en, st1, R1, (pX.bind h1).imp fun xs st2 g2 H2 l2 R2 h2 vs rvs => ?_⟩
    exact h2 g2 H2 (Le.refl _) R2 _ ⟨v, vs, rfl, rv.mono l2, rvs⟩⟩
def xtup (a : XA) : XE := fun en st => (a en st).bind fun xs st => if fitL xs.length then .ok (.tup xs) st else .bad
def xlst (a : XA) : XE := fun en st => (a en st).bind fun xs st => if fitL xs.length then .ok (.cell st.length) (st ++ [.lst xs]) else .bad
theorem se_tup {es : List Expr} {a : XA} {k : Nat} {pos : Pos} (h : SA G W X es a) : SE G W X (.Tuple es k pos) (xtup a) :=
  ⟨PE_imp (pe_tup h.pa) fun σ H Q ⟨g, en, st, R, h⟩ => by
    refine ⟨g, en, st, R, (pX.bind h).imp fun xs st1 g1 H1 l1 R1 h1 vs rvs => ?_⟩
    split at h1
    · rename_i c
      refine ⟨by rw [← rvs.length]; exact fitL_ok c, fun p hp => ?_⟩
      obtain ⟨l, R', r'⟩ := R1.tup hp rvs
      exact h1 _ _ l R' _ r'
    · exact h1.elim⟩
theorem se_lst {es : List Expr} {a : XA} {pos : Pos} (h : SA G W X es a) : SE G W X (.List es pos) (xlst a) :=
  ⟨PE_imp (pe_lst h.pa) fun σ H Q ⟨g, en, st, R, h⟩ => by
    refine ⟨g, en, st, R, (pX.bind h).imp fun xs st1 g1 H1 l1 R1 h1 vs rvs => ?_⟩
    split at h1
    · rename_i c
      refine ⟨by rw [← rvs.length]; exact fitL_ok c, fun p hp => ?_⟩
      obtain ⟨l, R', r'⟩ := R1.new (c := .lst xs) hp ⟨vs, rfl, rvs⟩
      exact h1 _ _ l R' _ r'
    · exact h1.elim⟩
theorem IxR_imp {r r' : R2} (h : IxR X r) (i : ∀ x y H Q, r' x y H Q → r x y H Q) : IxR X r' := fun a b pins s σ H x y v u Q I rx ry w hs => h a b pins s σ H x y v u Q I rx ry (i _ _ _ _ w) hs
theorem RepL.atI {g : Gh} {ds : List D} {vs : List V} {i : Int} {d : D} (r : RepL G g ds vs) (h : atI ds i = some d) : ∃ v, L2.atI vs i = some v ∧ Rep G g d v := by
  unfold L2.atI at h ⊢
  rw [← r.length]
  cases e : ixN ds.length i with
  | none => rw [e] at h; cases h
  | some j =>
    rw [e] at h
    obtain ⟨v, h1, h2⟩ := r.get (i := j) (d := d) h
    exact ⟨v, h1, h2⟩
def oIx : Op2 := fun x y st => match y with
  | .int i => match x with
    | .str z => if fitL z.length then match atI z.cps.toList i with
        | some c => .ok (.str ⟨#[c]⟩) st
        | none => .bad
      else .bad
    | x => match itemsOf st x with
      | some ds => match atI ds i with
        | some d => .ok d st
        | none => .bad
      | none => .bad
  | _ => .bad
theorem ho_ix (hK : X.K = G.K) : IxR X (rD G W oIx) := by
  refine IxR_imp ix_seq fun v u H Q ⟨g, en, st, σ, x, y, R, rx, ry, h⟩ => ?_
  unfold oIx at h
  cases y <;> try exact h.elim
  rename_i i
  cases ry
  simp only at h
  split at h
  · rename_i z
    split at h
    · rename_i c
      split at h
      · rename_i cc hc
        exact .inr (.inr ⟨z, i, cc, rx, rfl, fitL_ok c, hc, h g H (Le.refl _) R _ rfl⟩)
      · exact h.elim
    · exact h.elim
  · split at h
    · rename_i ds hds
      split at h
      · rename_i d hd
        obtain ⟨a, vs, e1, e2, e3⟩ := itemsOf_H R rx hds
        obtain ⟨w, e4, e5⟩ := e3.atI hd
        have q := h g H (Le.refl _) R _ e5
        rcases e2 with e2 | e2
        · exact .inl ⟨a, vs, i, w, e1, rfl, by rw [hK]; exact e2, e4, q⟩
        · exact .inr (.inl ⟨a, vs, i, w, e1, rfl, by rw [hK]; exact e2, e4, q⟩)
      · exact h.elim
    · exact h.elim
theorem se_ix {a b : Expr} {ca cb : XE} {pos : Pos} (hK : X.K = G.K) (ha : SE G W X a ca) (hb : SE G W X b cb) (hs : PlainIx b := by intro _ _; rfl) : SE G W X (.Subscript a b pos) (x2 oIx ca cb) :=
  ⟨PE_imp (pe_ix (ho_ix hK) ha.pe hb.pe hs) fun _ _ _ h => tOp_of h⟩
end
end Px
namespace Px
open PySem PySem.Spec L2
section
variable {G : GS} {W : WX} {X : Cx}
def snil : XS := fun en st => .ok (.nx, en) st
def sseq (a b : XS) : XS := fun en st => match a en st with
  | .ok (.nx, en1) st1 => b en1 st1
  | r => r
theorem sl_nil : SL G W X [] snil := ⟨PSs_imp pss_nil fun D σ H ⟨g, en, st, R, h⟩ => h g σ H (Le.refl g) R⟩
theorem sl_cons {s : Stmt} {ss : List Stmt} {a b : XS} (h1 : SS G W X s a) (h2 : SL G W X ss b) : SL G W X (s :: ss) (sseq a b) :=
  ⟨PSs_imp (pss_cons h1.ps h2.ps) fun D σ H ⟨g, en, st, R, h⟩ => by
    refine ⟨g, en, st, R, ?_⟩
    unfold sseq at h
    cases e : a en st with
    | ok p st1 =>
      obtain ⟨fl, en1⟩ := p
      rw [e] at h
      cases fl with
      | nx => exact fun g' σ' H' l R' => ⟨g', en1, st1, R', pS.weak l h⟩
      | bk => exact h
      | ct => exact h
      | rt d => exact h
    | exc c ds en' st' => rw [e] at h; exact h
    | bad => rw [e] at h; exact h⟩
theorem sl_one {s : Stmt} {a : XS} (h1 : SS G W X s a) : SL G W X [s] a := ⟨pss_one h1.ps⟩
def spass : XS := snil
def sbreak : XS := fun en st => .ok (.bk, en) st
def scont : XS := fun en st => .ok (.ct, en) st
theorem ss_pass {pos : Pos} : SS G W X (.Pass pos) spass := ⟨PS_imp ps_pass fun D σ H ⟨g, en, st, R, h⟩ => h g σ H (Le.refl g) R⟩
theorem ss_break {pos : Pos} : SS G W X (.Break pos) sbreak := ⟨PS_imp ps_break fun D σ H ⟨g, en, st, R, h⟩ => h g σ H (Le.refl g) R⟩
theorem ss_continue {pos : Pos} : SS G W X (.Continue pos) scont := ⟨PS_imp ps_continue fun D σ H ⟨g, en, st, R, h⟩ => h g σ H (Le.refl g) R⟩
def sbad : XS := fun _ _ => .bad
theorem ss_bad {s : Stmt} : SS G W X s sbad := ⟨PS_imp ps_never fun D σ H ⟨g, en, st, R, h⟩ => h.elim⟩
theorem sl_bad {s : List Stmt} : SL G W X s sbad := ⟨PSs_imp pss_never fun D σ H ⟨g, en, st, R, h⟩ => h.elim⟩
def xbad : XE := fun _ _ => .bad
def sexpr (c : XE) : XS := fun en st => (c en st).bind fun _ st => .ok (.nx, en) st
theorem ss_expr {e : Expr} {c : XE} {pos : Pos} (h : SE G W X e c) (hs : swapsWith e none pos.line X.env = pure false := by rfl) : SS G W X (.Expr e pos) (sexpr c) :=
  ⟨PS_imp (ps_expr h.pe hs) fun D σ H ⟨g, en, st, R, h⟩ => ⟨g, en, st, R, (pS.bind h).imp fun d st1 g1 H1 l1 R1 h1 v rv => h1 g1 σ H1 (Le.refl _) R1⟩⟩
def sret (c : XE) : XS := fun en st => (c en st).bind fun d st => .ok (.rt d, en) st
theorem ss_ret {e : Expr} {c : XE} {pos : Pos} (h : SE G W X e c) : SS G W X (.Return (some e) pos) (sret c) :=
  ⟨PS_imp (ps_ret h.pe) fun D σ H ⟨g, en, st, R, h⟩ => ⟨g, en, st, R, (pS.bind h).imp fun d st1 g1 H1 l1 R1 h1 v rv => h1 g1 σ H1 (Le.refl _) R1 v rv⟩⟩
def sretN : XS := fun en st => .ok (.rt .non, en) st
theorem ss_retN {pos : Pos} : SS G W X (.Return none pos) sretN := ⟨PS_imp ps_retN fun D σ H ⟨g, en, st, R, h⟩ => h g σ H (Le.refl g) R _ rfl⟩
def sif (c : XT) (a b : XS) : XS := fun en st => (c en st).bind fun k st => if k then a en st else b en st
theorem ss_if {c : Expr} {a b : List Stmt} {tc : XT} {ta tb : XS} {pos : Pos} (hc : SB G W X c tc) (ha : SL G W X a ta) (hb : SL G W X b tb) : SS G W X (.If c a b pos) (sif tc ta tb) :=
  ⟨PS_imp (ps_if hc.pt ha.ps hb.ps) fun D σ H ⟨g, en, st, R, h⟩ => ⟨g, en, st, R, (pS.bind h).imp fun k st1 g1 H1 l1 R1 h1 => by
    cases k with
    | true => rw [if_pos rfl]; exact ⟨g1, en, st1, R1, h1⟩
    | false => rw [if_neg Bool.false_ne_true]; exact ⟨g1, en, st1, R1, h1⟩⟩⟩
def sset (i : Nat) (c : XE) : XS := fun en st => (c en st).bind fun d st => .ok (.nx, en.set i (some d)) st
theorem ss_set (i : Nat) {x : Str} {e : Expr} {c : XE} {pos pos' : Pos} (hN : X.N.Nodup) (h : SE G W X e c) (hi : X.N[i]? = some x := by rfl) (hx : Loc X.env.scope x := by first | exact Or.inl rfl | exact Or.inr rfl) (hs : swapsWith e (some (.Name x pos')) pos.line X.env = pure false := by rfl)
    (hf : X.fn x = true ∨ X.env.scope.names.lookup x = some .local := by first | exact .inl rfl | exact .inr rfl) : SS G W X (.Assign [.Name x pos'] e pos) (sset i c) :=
  ⟨PS_imp (ps_set hN hi hx h.pe hs hf) fun D σ H ⟨g, en, st, R, h⟩ => ⟨g, en, st, R, (pS.bind h).imp fun d st1 g1 H1 l1 R1 h1 v rv => h1 g1 _ H1 (Le.refl _) (R1.setv rv)⟩⟩
abbrev XG := D → En → Sto → R En
abbrev XGs := List D → En → Sto → R En
def pG (G : GS) (W : WX) (g : Gh) (r : R En) (Q : L2.St → Hp → Prop) : Prop := match r with
  | .ok en st => ∀ g' σ' H', Le g g' → Rel G g' en st σ' H' → Q σ' H'
  | .exc c ds en' st => ∀ g' σ' H' d, Le g g' → Rel G g' en' st σ' H' → ExcRep G g' H' ds d → W (.ref (G.exc c)) d σ' H'
  | .bad => False
theorem pG.weak {g g1 : Gh} {r : R En} {Q : L2.St → Hp → Prop} (l : Le g g1) (h : pG G W g r Q) : pG G W g1 r Q := by
  cases r with
  | ok a st => exact fun g' σ' H' l' R => h g' σ' H' (l.trans l') R
  | exc c ds en' st => exact fun g' σ' H' d l' R e => h g' σ' H' d (l.trans l') R e
  | bad => exact h
theorem pG.bind {α : Type} {g : Gh} {en : En} {σ : L2.St} {r : R α} {f : α → Sto → R En} {Q : L2.St → Hp → Prop} (h : pG G W g (r.bind f) Q) :
    pX G W g en σ r fun a g1 st1 _ => pG G W g1 (f a st1) Q := by
  cases r with
  | ok a st => exact fun g' H' l R => pG.weak l h
  | exc c ds en' st => exact h
  | bad => exact h
def tG (G : GS) (W : WX) (f : XG) : TG := fun v σ H Q => ∃ g en st d, Rel G g en st σ H ∧ Rep G g d v ∧ pG G W g (f d en st) Q
def tGs (G : GS) (W : WX) (f : XGs) : TGs := fun vs σ H Q => ∃ g en st ds, Rel G g en st σ H ∧ RepL G g ds vs ∧ pG G W g (f ds en st) Q
structure SG (G : GS) (W : WX) (X : Cx) (e : Expr) (c : XG) : Prop where
  pg : PG X e (tG G W c)
structure SGs (G : GS) (W : WX) (X : Cx) (es : List Expr) (c : XGs) : Prop where
  pg : PGs X es (tGs G W c)
theorem PG_imp {e : Expr} {t t' : TG} (h : PG X e t) (i : ∀ v σ H Q, t' v σ H Q → t v σ H Q) : PG X e t' := ⟨fun pins s σ H v u Q I r w => h.run pins s σ H v u Q I r (i _ _ _ _ w)⟩
theorem PGs_imp {e : List Expr} {t t' : TGs} (h : PGs X e t) (i : ∀ v σ H Q, t' v σ H Q → t v σ H Q) : PGs X e t' := ⟨fun pins s σ H v u Q I r w => h.run pins s σ H v u Q I r (i _ _ _ _ w)⟩
theorem PG_or {e : Expr} {t t' : TG} (h : PG X e t) (h' : PG X e t') : PG X e (fun v σ H Q => t v σ H Q ∨ t' v σ H Q) := ⟨fun pins s σ H v u Q I r w => w.elim (h.run pins s σ H v u Q I r) (h'.run pins s σ H v u Q I r)⟩
def gset (i : Nat) : XG := fun d en st => .ok (en.set i (some d)) st
theorem sg_name (i : Nat) {x : Str} {pos : Pos} (hN : X.N.Nodup) (hi : X.N[i]? = some x := by rfl) (hx : Loc X.env.scope x := by first | exact Or.inl rfl | exact Or.inr rfl) (hf : X.fn x = true ∨ X.env.scope.names.lookup x = some .local := by first | exact .inl rfl | exact .inr rfl) : SG G W X (.Name x pos) (gset i) :=
  ⟨PG_imp (pg_name hN hi hx hf) fun v σ H Q ⟨g, en, st, d, R, r, h⟩ => h g _ H (Le.refl _) (R.setv r)⟩
def gnil : XGs := fun ds en st => match ds with
  | [] => .ok en st
  | _ => .bad
def gcons (a : XG) (b : XGs) : XGs := fun ds en st => match ds with
  | d :: r => (a d en st).bind fun en st => b r en st
  | [] => .bad
theorem sgs_nil : SGs G W X [] gnil := ⟨PGs_imp pgs_nil fun vs σ H Q ⟨g, en, st, ds, R, r, h⟩ => by
  cases ds with
  | nil => exact ⟨r, h g σ H (Le.refl _) R⟩
  | cons d ds => exact h.elim⟩
theorem sgs_cons {e : Expr} {es : List Expr} {a : XG} {b : XGs} (h1 : SG G W X e a) (h2 : SGs G W X es b) (hs : (assignEach (e :: es) X.env).map (·.2) = assign e X.env :: (assignEach es X.env).map (·.2) := by rfl) : SGs G W X (e :: es) (gcons a b) :=
  ⟨PGs_imp (pgs_cons h1.pg h2.pg hs) fun vs σ H Q ⟨g, en, st, ds, R, r, h⟩ => by
    cases ds with
    | nil => exact h.elim
    | cons d ds =>
      obtain ⟨v, vr, e1, e2, e3⟩ := r
      refine ⟨v, vr, e1, g, en, st, d, R, e2, ?_⟩
      unfold gcons at h
      simp only at h
      cases e : a d en st with
      | ok en1 st1 => rw [e] at h; exact fun g' σ' H' l R' => ⟨g', en1, st1, ds, R', e3.mono l, pG.weak l h⟩
      | exc c xs en' st' => rw [e] at h; exact h
      | bad => rw [e] at h; exact h⟩
def gtup (n : Nat) (b : XGs) : XG := fun d en st => match itemsOf st d with
  | some ds => if ds.length = n then b ds en st else .bad
  | none => .bad
theorem sg_tup {es : List Expr} {k : Nat} {pos : Pos} {b : XGs} (n : Nat) (hK : X.K = G.K) (hc : X.calm = true) (h : SGs G W X es b) (hn : (assignEach es X.env).length = n := by rfl) (hst : (assignEach es X.env).findIdx? (·.1) = none := by rfl) : SG G W X (.Tuple es k pos) (gtup n b) :=
  ⟨PG_imp (PG_or (pg_tup (k := k) hc h.pg hn hst) (pg_lst hc h.pg hn hst)) fun v σ H Q ⟨g, en, st, d, R, r, h⟩ => by
    unfold gtup at h
    split at h
    · rename_i ds hds
      split at h
      · rename_i hl
        obtain ⟨a, vs, e1, e2, e3⟩ := itemsOf_H R r hds
        rcases e2 with e2 | e2
        · exact .inr ⟨a, vs, e1, by rw [hK]; exact e2, by rw [← e3.length, hl], g, en, st, ds, R, e3, h⟩
        · exact .inl ⟨a, vs, e1, by rw [hK]; exact e2, by rw [← e3.length, hl], g, en, st, ds, R, e3, h⟩
      · exact h.elim
    · exact h.elim⟩
def sasg (c : XE) (t : XG) : XS := fun en st => (c en st).bind fun d st => (t d en st).bind fun en st => .ok (.nx, en) st
theorem ss_asg {tg e : Expr} {c : XE} {t : XG} {pos : Pos} (he : SE G W X e c) (hg : SG G W X tg t) (hs : swapsWithSole [tg] e pos.line X.env = pure false := by rfl) (hw : swappedStores [tg] e X.env = pure none := by rfl)
    (h1 : (assignEach [tg] X.env).map (·.2) = [assign tg X.env] := by rfl) : SS G W X (.Assign [tg] e pos) (sasg c t) :=
  ⟨PS_imp (ps_asg he.pe hg.pg hs hw h1) fun D σ H ⟨g, en, st, R, h⟩ => ⟨g, en, st, R, (pS.bind h).imp fun d st1 g1 H1 l1 R1 h1 v rv => by
    refine ⟨g1, en, st1, d, R1, rv, ?_⟩
    cases e : t d en st1 with
    | ok en2 st2 => rw [e] at h1; exact fun g' σ' H' l R' => h1 g' σ' H' l R'
    | exc c xs en' st' => rw [e] at h1; exact h1
    | bad => rw [e] at h1; exact h1⟩⟩
def spar (i j : Nat) (a b : XE) : XS := fun en st => (a en st).bind fun x st => (b en st).bind fun y st => .ok (.nx, (en.set i (some x)).set j (some y)) st
theorem ss_par (i j : Nat) {x y : Str} {a b : Expr} {ca cb : XE} {px py pt pos : Pos} {kt k2 pt2} (hc : X.calm = true) (hN : X.N.Nodup) (ha : SE G W X a ca) (hb : SE G W X b cb) (hi : X.N[i]? = some x := by rfl) (hj : X.N[j]? = some y := by rfl) (hij : i ≠ j := by decide)
    (hx : X.env.scope.names.lookup x = some .local := by rfl) (hy : X.env.scope.names.lookup y = some .local := by rfl)
    (hw : swappedStores [.Tuple [.Name x px, .Name y py] kt pt] (.Tuple [a, b] k2 pt2) X.env = pure (some [x, y]) := by rfl)
    (hs : swapsWithSole [.Tuple [.Name x px, .Name y py] kt pt] (.Tuple [a, b] k2 pt2) pos.line X.env = pure false := by rfl)
    (h1 : starEach (a :: [b]) X.env = (false, eval a X.env) :: starEach [b] X.env := by rfl) (h2 : starEach (b :: []) X.env = (false, eval b X.env) :: starEach [] X.env := by rfl) :
    SS G W X (.Assign [.Tuple [.Name x px, .Name y py] kt pt] (.Tuple [a, b] k2 pt2) pos) (spar i j ca cb) :=
  ⟨PS_imp (ps_par hc hN hi hj hij hx hy (pa_cons ha.pe (pa_cons hb.pe pa_nil h2) h1) hw hs) fun D σ H ⟨g, en, st, R, h⟩ => by
    refine ⟨g, en, st, R, (pS.bind h).imp fun d st1 g1 H1 l1 R1 h1 v rv => ?_⟩
    refine ⟨g1, en, st1, R1, (pS.bind h1).imp fun d2 st2 g2 H2 l2 R2 h2 v2 rv2 => ?_⟩
    exact ⟨v, v2, rfl, h2 g2 _ H2 (Le.refl _) ((R2.setv (rv.mono l2)).setv rv2)⟩⟩
abbrev Op3 := D → D → D → Sto → R Unit
def rD3 (G : GS) (W : WX) (f : Op3) : TSet := fun o i v H Q => ∃ g en st σ x y z, Rel G g en st σ H ∧ Rep G g x o ∧ Rep G g y i ∧ Rep G g z v ∧ pX G W g en σ (f x y z st) fun _ _ _ H' => Q H'
def gsub (f : Op3) (a b : XE) : XG := fun d en st => (a en st).bind fun x st => (b en st).bind fun y st => (f x y d st).bind fun _ st => .ok en st
theorem sg_sub {o i : Expr} {a b : XE} {f : Op3} {pos : Pos} (ho : SE G W X o a) (hi : SE G W X i b) (hf : PSet X (rD3 G W f))
    (ha : ∀ v, assign (.Subscript o i pos) X.env v = (do
      let ov ← holding [v] (eval o X.env)
      let iv ← holding [v, ov] (eval i X.env)
      standAt pos
      holding [v, ov, iv] (setItem ov iv v)
      release [v, ov, iv] []) := by intro _; rfl) : SG G W X (.Subscript o i pos) (gsub f a b) :=
  ⟨PG_imp (pg_sub ho.pe hi.pe hf ha) fun v σ H Q ⟨g, en, st, d, R, r, h⟩ => by
    refine ⟨g, en, st, R, (pG.bind h).imp fun x st1 g1 H1 l1 R1 h1 ov rov => ?_⟩
    refine ⟨g1, en, st1, R1, (pG.bind h1).imp fun y st2 g2 H2 l2 R2 h2 iv riv => ?_⟩
    refine ⟨g2, en, st2, σ, x, y, d, R2, rov.mono l2, riv, r.mono (l1.trans l2), (pG.bind h2).imp fun _ st3 g3 H3 l3 R3 h3 => ?_⟩
    exact h3 g3 σ H3 (Le.refl _) R3⟩
theorem PSet_imp {t t' : TSet} (h : PSet X t) (i : ∀ o i v H Q, t' o i v H Q → t o i v H Q) : PSet X t' := fun pins s σ H o j v ov iv u Q I ro ri rv w => h pins s σ H o j v ov iv u Q I ro ri rv (i _ _ _ _ _ w)
theorem PSet_or {t t' : TSet} (h : PSet X t) (h' : PSet X t') : PSet X (fun o i v H Q => t o i v H Q ∨ t' o i v H Q) := fun pins s σ H o j v ov iv u Q I ro ri rv w => w.elim (h pins s σ H o j v ov iv u Q I ro ri rv) (h' pins s σ H o j v ov iv u Q I ro ri rv)
def oSetL : Op3 := fun x y z st => match x, y with
  | .cell i, .int k => match st[i]? with
    | some (.lst ds) => match ixN ds.length k with
      | some j => .ok () (st.set i (.lst (ds.set j z)))
      | none => .bad
    | _ => .bad
  | _, _ => .bad
theorem ho_setL : PSet X (rD3 G W oSetL) := PSet_imp set_list fun o i v H Q ⟨g, en, st, σ, x, y, z, R, rx, ry, rz, h⟩ => by
  unfold oSetL at h
  split at h
  · rename_i ci k
    split at h
    · rename_i ds hds
      split at h
      · rename_i j hj
        obtain ⟨a, ob, e1, e2, e3, vs, e4, e5⟩ := R.isCell hds (by intro w; cases w) rx
        subst e4
        exact ⟨a, vs, k, j, e1, ry, e3, by rw [← e5.length]; exact hj, h g _ (Le.refl _) (R.put hds (by intro w; cases w) e2 ⟨_, rfl, e5.set j rz⟩)⟩
      · exact h.elim
    · exact h.elim
  · exact h.elim
def saug (i : Nat) (f : Op2) (c : XE) : XS := fun en st => match en[i]? with
  | some (some x) => (c en st).bind fun y st => (f x y st).bind fun z st => .ok (.nx, en.set i (some z)) st
  | _ => .bad
theorem ss_aug (i : Nat) {x : Str} {e : Expr} {c : XE} {op : Operator} {f : Op2} {pos pos' : Pos} (hN : X.N.Nodup) (ho : OpR X (inplaceOp op) (rD G W f)) (h : SE G W X e c) (hi : X.N[i]? = some x := by rfl) (hx : Loc X.env.scope x := by first | exact Or.inl rfl | exact Or.inr rfl)
    (hf : X.fn x = true ∨ X.env.scope.names.lookup x = some .local := by first | exact .inl rfl | exact .inr rfl) : SS G W X (.AugAssign (.Name x pos') op e pos) (saug i f c) :=
  ⟨PS_imp (ps_aug (ti := rD G W f) hN hi hx h.pe (fun pins s σ H x y v u Q I r1 r2 w => ho pins s σ H x y v u Q I r1 r2 w) hf) fun D σ H ⟨g, en, st, R, h⟩ => by
    unfold saug at h
    cases e : en[i]? with
    | none => rw [e] at h; exact h.elim
    | some o =>
      cases o with
      | none => rw [e] at h; exact h.elim
      | some d =>
        rw [e] at h
        obtain ⟨v, q, r⟩ := R.en i d e
        refine ⟨v, q, g, en, st, R, (pS.bind h).imp fun y st1 g1 H1 l1 R1 h1 u ru => ?_⟩
        refine ⟨g1, en, st1, σ, d, y, R1, r.mono l1, ru, (pS.bind h1).imp fun z st2 g2 H2 l2 R2 h2 w rw' => ?_⟩
        exact h2 g2 _ H2 (Le.refl _) (R2.setv rw')⟩
def iAdd : Op2 := fun x y st => match x, y with
  | .int i, .int j => .ok (.int (i + j)) st
  | .str a, .str b => if fitL (a.length + b.length) then .ok (.str (a ++ b)) st else .bad
  | _, _ => .bad
theorem ho_iadd : OpR X (inplaceOp .Add) (rD G W iAdd) := by
  refine OpR_imp (OpR.or iop_add iop_add_str) fun v u H Q ⟨g, en, st, σ, x, y, R, rx, ry, h⟩ => ?_
  unfold iAdd at h
  split at h
  · exact .inl ⟨_, _, rx, ry, h g H (Le.refl g) R _ rfl⟩
  · rename_i a b
    split at h
    · rename_i c
      exact .inr ⟨a, b, rx, ry, fitL_ok c, h g H (Le.refl g) R _ rfl⟩
    · exact h.elim
  · exact h.elim
theorem ho_isub : OpR X (inplaceOp .Sub) (rD G W iSub) := OpR_imp iop_sub fun _ _ _ _ h => rI0_of (k := fun i j => .int (i - j)) (kv := fun i j => .int (i - j)) (fun _ _ _ => rfl) h
def wloop (c : XT) (b : XS) : Nat → XS
  | 0 => fun _ _ => .bad
  | n + 1 => fun en st => (c en st).bind fun k st => if k then match b en st with
      | .ok (.nx, en) st => wloop c b n en st
      | .ok (.ct, en) st => wloop c b n en st
      | .ok (.bk, en) st => .ok (.nx, en) st
      | r => r
    else .ok (.nx, en) st
def swhile (fuel : En → Sto → Nat) (c : XT) (b : XS) : XS := fun en st => wloop c b (fuel en st) en st
theorem ss_while {c : Expr} {body : List Stmt} {tc : XT} {tb : XS} {pos : Pos} (fuel : En → Sto → Nat) (hp : PassesOwn (model X.prog X.w) X.A X.env X.xe) (hc : SB G W X c tc) (hb : SL G W X body tb) : SS G W X (.While c body [] pos) (swhile fuel tc tb) :=
  ⟨PS_imp (ps_while hp hc.pt hb.ps) fun D σ H ⟨g, en, st, R, h⟩ => by
    refine ⟨fun n σ H => ∃ g en st, Rel G g en st σ H ∧ pS G W g (wloop tc tb n en st) D, ⟨fuel en st, g, en, st, R, h⟩, ?_⟩
    rintro n σ H ⟨g, en, st, R, h⟩
    cases n with
    | zero => exact h.elim
    | succ n =>
      refine ⟨g, en, st, R, (pS.bind h).imp fun k st1 g1 H1 l1 R1 h1 => ?_⟩
      cases k with
      | false => rw [if_neg Bool.false_ne_true]; exact h1 g1 σ H1 (Le.refl _) R1
      | true =>
        rw [if_pos rfl]
        rw [if_pos rfl] at h1
        refine ⟨fun σ' H' => ∃ g en st, Rel G g en st σ' H' ∧ pS G W g (wloop tc tb n en st) D, fun σ' H' q => ⟨n, Nat.lt_succ_self n, q⟩, g1, en, st1, R1, ?_⟩
        cases e : tb en st1 with
        | ok p st2 =>
          obtain ⟨fl, en2⟩ := p
          rw [e] at h1
          cases fl with
          | nx => exact fun g' σ' H' l R' => ⟨g', en2, st2, R', pS.weak l h1⟩
          | ct => exact fun g' σ' H' l R' => ⟨g', en2, st2, R', pS.weak l h1⟩
          | bk => exact h1
          | rt d => exact h1
        | exc c ds en' st' => rw [e] at h1; exact h1
        | bad => rw [e] at h1; exact h1⟩
structure Itm where
  its : List D
  src : List (Nat × List D)
def okSrc : List (Nat × List D) → Sto → Bool
  | [], _ => true
  | p :: r, st => Cell.isLst st[p.1]? p.2 && okSrc r st
theorem okSrc_app : ∀ (a b : List (Nat × List D)) (st : Sto), okSrc (a ++ b) st = (okSrc a st && okSrc b st)
  | [], b, st => by simp [okSrc]
  | p :: a, b, st => by simp [okSrc, okSrc_app a b st, Bool.and_assoc]
abbrev XI := En → Sto → R Itm
def Walks (G : GS) (g0 : Gh) (it : Itm) (J : It) : Prop := ∀ g en st σ H (i : Nat), Le g0 g → Rel G g en st σ H → okSrc it.src st = true →
  (it.its.length ≤ i → J.stop i H) ∧ ∀ d, it.its[i]? = some d → J.go i H ∧ ∀ x H', J.yld i H x H' → ∃ g', Le g g' ∧ Rel G g' en st σ H' ∧ Rep G g' d x
def tI (G : GS) (W : WX) (c : XI) : TI := fun σ H K => ∃ g en st, Rel G g en st σ H ∧ pX G W g en σ (c en st) fun it g' _ H' => ∀ J, Walks G g' it J → K J H'
structure SI (G : GS) (W : WX) (X : Cx) (tg iter : Expr) (c : XI) : Prop where
  pi : PI X tg iter (tI G W c)
theorem PI_imp {tg iter : Expr} {t t' : TI} (h : PI X tg iter t) (i : ∀ σ H K, t' σ H K → t σ H K) : PI X tg iter t' := ⟨fun pins s σ H K I w => h.run pins s σ H K I (i _ _ _ w)⟩
theorem PI_or {tg iter : Expr} {t t' : TI} (h : PI X tg iter t) (h' : PI X tg iter t') : PI X tg iter (fun σ H K => t σ H K ∨ t' σ H K) := ⟨fun pins s σ H K I w => w.elim (h.run pins s σ H K I) (h'.run pins s σ H K I)⟩
def lsrc (st : Sto) : D → Option Itm
  | .cell i => match st[i]? with
    | some (.lst ds) => some ⟨ds, [(i, ds)]⟩
    | _ => none
  | .lst m ds => if m = .own then none else some ⟨ds, []⟩
  | _ => none
theorem lsrc_H {g0 : Gh} {st0 : Sto} {d : D} {v : V} {it : Itm} (r : Rep G g0 d v) (h : lsrc st0 d = some it) :
    ∃ a, v = .ref a ∧ ∀ g en st σ H, Le g0 g → Rel G g en st σ H → okSrc it.src st = true → ∃ vs, SqL G.K H a vs ∧ RepL G g it.its vs := by
  unfold lsrc at h
  split at h
  · rename_i i
    split at h
    · rename_i ds hds
      cases h
      obtain ⟨a, ha, rfl⟩ := r
      refine ⟨a, rfl, fun g en st σ H l R q => ?_⟩
      have e := Cell.eq_isLst (by simpa [okSrc] using q)
      obtain ⟨a', o, e1, e2, e3, vs, e4, e5⟩ := R.isCell e (by intro w; cases w) ⟨a, l.as _ _ ha, rfl⟩
      cases e1
      subst e4
      exact ⟨vs, SqL.of e3, e5⟩
    · cases h
  · rename_i m ds
    split at h
    · cases h
    · cases h
      obtain ⟨a, vs, rfl, e2, e3⟩ := r
      refine ⟨a, rfl, fun g en st σ H l R q => ⟨vs, ?_, e3.mono l⟩⟩
      cases m with
      | frz => exact SqL.of (R.sF _ _ (l.F _ _ e2))
      | loan => exact SqL.of (R.sL _ _ (by rw [l.L]; exact e2))
      | ro => exact seqL_same R.sF (seqL_same l.F e2)
      | own => exact e2.elim
  · cases h
theorem lsrc_ok {st : Sto} {d : D} {it : Itm} (hit : lsrc st d = some it) : okSrc it.src st = true := by
  unfold lsrc at hit
  split at hit
  · split at hit
    · rename_i hds
      cases hit
      show (Cell.isLst _ _ && okSrc [] _) = true
      rw [hds, Cell.isLst_self]
      rfl
    · cases hit
  · split at hit
    · cases hit
    · cases hit; rfl
  · cases hit
theorem seqL_some {ds : List D} {vs : List V} {g : Gh} {i : Nat} {d : D} (r : RepL G g ds vs) (h : ds[i]? = some d) : ∃ x, vs[i]? = some x ∧ Rep G g d x := r.get h
theorem walks_list {g0 : Gh} {st0 : Sto} {d : D} {a : Addr} {it : Itm} (r : Rep G g0 d (.ref a)) (h : lsrc st0 d = some it) : Walks G g0 it (Itl G.K a) := by
  obtain ⟨a', e, q⟩ := lsrc_H r h
  cases e
  intro g en st σ H i l R ok
  obtain ⟨vs, e1, e2⟩ := q g en st σ H l R ok
  refine ⟨fun hi => ⟨vs, e1, by rw [← e2.length]; exact hi⟩, fun d hd => ?_⟩
  obtain ⟨x, hx, rx⟩ := e2.get hd
  refine ⟨⟨vs, x, e1, hx⟩, fun y H' z => ?_⟩
  obtain ⟨rfl, z⟩ := z
  have := z vs e1
  rw [hx] at this; cases this
  exact ⟨g, Le.refl _, R, rx⟩
theorem walks_tup {g0 : Gh} {ds : List D} {a : Addr} (r : Rep G g0 (.tup ds) (.ref a)) : Walks G g0 ⟨ds, []⟩ (Itt G.K a) := by
  intro g en st σ H i l R ok
  obtain ⟨a', vs, e, e1, e2⟩ := tup_H R (r.mono l)
  cases e
  refine ⟨fun hi => ⟨vs, e1, by rw [← e2.length]; exact hi⟩, fun d hd => ?_⟩
  obtain ⟨x, hx, rx⟩ := e2.get hd
  refine ⟨⟨vs, x, e1, hx⟩, fun y H' z => ?_⟩
  obtain ⟨rfl, z⟩ := z
  have := z vs e1
  rw [hx] at this; cases this
  exact ⟨g, Le.refl _, R, rx⟩
def signs (z : Str) : List D := z.cps.toList.map fun c => .str ⟨#[c]⟩
theorem walks_str {g0 : Gh} {z : Str} : Walks G g0 ⟨signs z, []⟩ (Its z) := by
  intro g en st σ H i l R ok
  refine ⟨fun hi => ?_, fun d hd => ?_⟩
  · show z.cps.size ≤ i
    simpa [signs] using hi
  · have hd : (z.cps.toList.map fun c => D.str ⟨#[c]⟩)[i]? = some d := hd
    rw [List.getElem?_map] at hd
    obtain ⟨c, hc, rfl⟩ := Option.map_eq_some_iff.mp hd
    have hlt : i < z.cps.size := by
      have := (List.getElem?_eq_some_iff.mp hc).1
      simpa using this
    refine ⟨hlt, fun y H' w => ?_⟩
    obtain ⟨rfl, c', hc', rfl⟩ := w
    have : z.cps.toList[i]? = some c' := by simpa using hc'
    rw [hc] at this; cases this
    exact ⟨g, Le.refl _, R, rfl⟩
def iany (c : XE) : XI := fun en st => (c en st).bind fun d st => match d with
  | .tup ds => .ok ⟨ds, []⟩ st
  | .str z => .ok ⟨signs z, []⟩ st
  | d => match lsrc st d with
    | some it => .ok it st
    | none => .bad
theorem si_any {tg e : Expr} {c : XE} (hK : X.K = G.K) (h : SE G W X e c) : SI G W X tg e (iany c) :=
  ⟨PI_imp (PI_or (pi_list h.pe) (PI_or (pi_tup h.pe) (pi_str h.pe))) fun σ H K ⟨g, en, st, R, w⟩ => by
    unfold iany at w
    cases e : c en st with
    | bad => rw [e] at w; exact w.elim
    | exc c ds en' st' =>
      rw [e] at w
      exact .inl ⟨g, en, st, R, by rw [e]; exact w⟩
    | ok d st1 =>
      rw [e, bind_ok] at w
      split at w
      · rename_i ds
        refine .inr (.inl ⟨g, en, st, R, ?_⟩)
        rw [e]
        intro g' H' l R' v rv
        obtain ⟨a, vs, rfl, e1, e2⟩ := tup_H R' rv
        exact ⟨a, rfl, ⟨vs, by rw [hK]; exact e1⟩, by rw [hK]; exact w g' H' l R' _ (walks_tup rv)⟩
      · rename_i z
        refine .inr (.inr ⟨g, en, st, R, ?_⟩)
        rw [e]
        intro g' H' l R' v rv
        exact ⟨z, rv, w g' H' l R' _ walks_str⟩
      · split at w
        · rename_i it hit
          refine .inl ⟨g, en, st, R, ?_⟩
          rw [e]
          intro g' H' l R' v rv
          obtain ⟨a, rfl, q⟩ := lsrc_H rv hit
          have ok : okSrc it.src st1 = true := lsrc_ok hit
          obtain ⟨vs, e1, e2⟩ := q g' en st1 σ H' (Le.refl _) R' ok
          exact ⟨a, rfl, ⟨vs, by rw [hK]; exact e1⟩, by rw [hK]; exact w g' H' l R' _ (walks_list rv hit)⟩
        · exact w.elim⟩
def rngL (lo : Int) (n : Nat) : List D := (List.range n).map fun (k : Nat) => .int (lo + ((k : Nat) : Int))
theorem rngL_get {lo : Int} {n i : Nat} {d : D} (h : (rngL lo n)[i]? = some d) : i < n ∧ d = .int (lo + (i : Int)) := by
  unfold rngL at h
  rw [List.getElem?_map] at h
  obtain ⟨k, hk, rfl⟩ := Option.map_eq_some_iff.mp h
  obtain ⟨hl, e⟩ := List.getElem?_eq_some_iff.mp hk
  simp at hl e
  subst e
  exact ⟨hl, rfl⟩
theorem rngL_len {lo : Int} {n : Nat} : (rngL lo n).length = n := by simp [rngL]
theorem walks_rng {g0 : Gh} {lo : Int} {n : Nat} : Walks G g0 ⟨rngL lo n, []⟩ (Itr lo n) := by
  intro g en st σ H i l R ok
  refine ⟨fun hi => by rw [rngL_len] at hi; exact hi, fun d hd => ?_⟩
  obtain ⟨h1, rfl⟩ := rngL_get hd
  refine ⟨h1, fun y H' w => ?_⟩
  obtain ⟨rfl, rfl⟩ := w
  exact ⟨g, Le.refl _, R, rfl⟩
def ok62 (i : Int) : Bool := absLe i 4611686018427387903
theorem ok62_iff {i : Int} : ok62 i = true ↔ -(2 ^ 62) < i ∧ i < 2 ^ 62 := by
  unfold ok62
  rw [absLe_iff]
  omega
def irng1 (c : XA) : XI := fun en st => (c en st).bind fun ds st => match ds with
  | [.int j] => if ok62 j then .ok ⟨rngL 0 j.toNat, []⟩ st else .bad
  | _ => .bad
def irng2 (c : XA) : XI := fun en st => (c en st).bind fun ds st => match ds with
  | [.int i, .int j] => if ok62 i && ok62 j then .ok ⟨rngL i (j - i).toNat, []⟩ st else .bad
  | _ => .bad
theorem si_rng1 {tg a : Expr} {c : XA} {p pos : Pos} (hm : X.mg "range" = none) (ha : SA G W X [a] c) (hg : Gl X "range" := by rfl) (hs : starEach [a] X.env = [(false, eval a X.env)] := by rfl) : SI G W X tg (.Call (.Name "range" p) [a] [] pos) (irng1 c) :=
  ⟨PI_imp (pi_range1 hg hm ha.pa hs) fun σ H K ⟨g, en, st, R, w⟩ => by
    refine ⟨g, en, st, R, (pX.bind w).imp fun ds st1 g1 H1 l1 R1 h1 vs rvs => ?_⟩
    split at h1
    · rename_i j
      split at h1
      · rename_i c
        simp only [ok62_iff, Bool.and_eq_true, decide_eq_true_eq] at c
        obtain ⟨v, r, rfl, rfl, rfl⟩ := rvs
        exact ⟨j, rfl, by omega, c.2, h1 g1 H1 (Le.refl _) R1 _ walks_rng⟩
      · exact h1.elim
    · exact h1.elim⟩
theorem si_rng2 {tg a b : Expr} {c : XA} {p pos : Pos} (hm : X.mg "range" = none) (ha : SA G W X [a, b] c) (hg : Gl X "range" := by rfl) (hs : starEach [a, b] X.env = [(false, eval a X.env), (false, eval b X.env)] := by rfl) (hs2 : starEach [b] X.env = [(false, eval b X.env)] := by rfl) :
    SI G W X tg (.Call (.Name "range" p) [a, b] [] pos) (irng2 c) :=
  ⟨PI_imp (pi_range2 hg hm ha.pa hs hs2) fun σ H K ⟨g, en, st, R, w⟩ => by
    refine ⟨g, en, st, R, (pX.bind w).imp fun ds st1 g1 H1 l1 R1 h1 vs rvs => ?_⟩
    split at h1
    · rename_i i j
      split at h1
      · rename_i c
        simp only [ok62_iff, Bool.and_eq_true, decide_eq_true_eq] at c
        obtain ⟨v, r, rfl, rfl, v2, r2, rfl, rfl, rfl⟩ := rvs
        exact ⟨i, j, rfl, ⟨by omega, c.1.2, by omega, c.2.2⟩, h1 g1 H1 (Le.refl _) R1 _ walks_rng⟩
      · exact h1.elim
    · exact h1.elim⟩
def floop (src : List (Nat × List D)) (t : XG) (b : XS) : List D → XS
  | [] => fun en st => if okSrc src st then .ok (.nx, en) st else .bad
  | d :: ds => fun en st => if okSrc src st then (t d en st).bind fun en st => match b en st with
      | .ok (.nx, en) st => floop src t b ds en st
      | .ok (.ct, en) st => floop src t b ds en st
      | .ok (.bk, en) st => .ok (.nx, en) st
      | r => r
    else .bad
def sfor (c : XI) (t : XG) (b : XS) : XS := fun en st => (c en st).bind fun it st => floop it.src t b it.its en st
theorem ss_for {tg iter : Expr} {body : List Stmt} {c : XI} {t : XG} {b : XS} {pos : Pos} (hp : PassesOwn (model X.prog X.w) X.A X.env X.xe) (hc : X.calm = true) (hi : SI G W X tg iter c) (hg : SG G W X tg t) (hb : SL G W X body b)
    (hs : ∀ x, foldedSetIterable iter X.env x = pure x := by intro _; rfl) : SS G W X (.For tg iter body [] pos) (sfor c t b) :=
  ⟨PS_imp (ps_for hp hc hi.pi hg.pg hb.ps hs) fun D σ H ⟨g, en, st, R, h⟩ => by
    refine ⟨g, en, st, R, (pS.bind h).imp fun it st1 g1 H1 l1 R1 h1 J hJ => ?_⟩
    refine ⟨fun i m σ H => ∃ g en st, Le g1 g ∧ Rel G g en st σ H ∧ m = it.its.length - i ∧ i ≤ it.its.length ∧ pS G W g (floop it.src t b (it.its.drop i) en st) D,
      ⟨it.its.length, g1, en, st1, Le.refl _, R1, by simp, Nat.zero_le _, by simpa using h1⟩, ?_⟩
    rintro i m σ H ⟨g, en, st, l, R, rfl, hi, h⟩
    by_cases hlt : i < it.its.length
    · have hd : it.its[i]? = some it.its[i] := by simp [hlt]
      rw [List.drop_eq_getElem_cons hlt] at h
      unfold floop at h
      by_cases ok : okSrc it.src st = true
      · rw [if_pos ok] at h
        obtain ⟨_, q⟩ := hJ g en st σ H i l R ok
        obtain ⟨go, yl⟩ := q _ hd
        refine .inr ⟨go, fun σ' H' => ∃ g en st, Le g1 g ∧ Rel G g en st σ' H' ∧ pS G W g (floop it.src t b (it.its.drop (i + 1)) en st) D, fun σ' H' ⟨g', en', st', l', R', h'⟩ => ⟨_, by omega, g', en', st', l', R', rfl, hlt, h'⟩, fun x H' y => ?_⟩
        obtain ⟨g2, l2, R2, r2⟩ := yl x H' y
        refine ⟨g2, en, st, it.its[i], R2, r2, ?_⟩
        cases e : t it.its[i] en st with
        | bad => rw [e] at h; exact h.elim
        | exc c ds en' st' => rw [e] at h; exact fun g' σ' H' d l' R' z => h g' σ' H' d (l2.trans l') R' z
        | ok en2 st2 =>
          rw [e, bind_ok] at h
          intro g3 σ3 H3 l3 R3
          refine ⟨g3, en2, st2, R3, ?_⟩
          have l13 : Le g g3 := l2.trans l3
          cases e2 : b en2 st2 with
          | bad => rw [e2] at h; exact h.elim
          | exc c ds en' st' => rw [e2] at h; exact fun g' σ' H' d l' R' z => h g' σ' H' d (l13.trans l') R' z
          | ok p st4 =>
            obtain ⟨fl, en4⟩ := p
            rw [e2] at h
            cases fl with
            | nx => exact fun g' σ' H' l' R' => ⟨g', en4, st4, l.trans (l13.trans l'), R', pS.weak (l13.trans l') h⟩
            | ct => exact fun g' σ' H' l' R' => ⟨g', en4, st4, l.trans (l13.trans l'), R', pS.weak (l13.trans l') h⟩
            | bk => exact fun g' σ' H' l' R' => h g' σ' H' (l13.trans l') R'
            | rt d => exact fun g' σ' H' l' R' => h g' σ' H' (l13.trans l') R'
      · rw [if_neg ok] at h; exact h.elim
    · have e : i = it.its.length := by omega
      subst e
      rw [List.drop_length] at h
      unfold floop at h
      by_cases ok : okSrc it.src st = true
      · rw [if_pos ok] at h
        exact .inl ⟨(hJ g en st σ H _ l R ok).1 (Nat.le_refl _), h g σ H (Le.refl _) R⟩
      · rw [if_neg ok] at h; exact h.elim⟩
end
end Px
namespace Px
open PySem PySem.Spec L2
def shapeO (G : GS) : Cell → List V → HO → Prop
  | .lst _, vs, o => o = .lst vs
  | .dk ks _, vs, o => o = .dK (ks.zip vs) ∧ ks.length = vs.length
  | .dt ks _, vs, o => o = .dT (ks.zip vs) ∧ ks.length = vs.length
  | .obj c _, vs, o => (∃ dx, o = .ins (G.cls c) dx ((G.flds c).zip vs)) ∧ vs.length ≤ (G.flds c).length
  | .gone, _, _ => False
def Cell.items : Cell → List D
  | .lst ds => ds | .dk _ ds => ds | .dt _ ds => ds | .obj _ ds => ds | .gone => []
def Cell.with (c : Cell) (es : List D) : Cell := match c with
  | .lst _ => .lst es | .dk ks _ => .dk ks es | .dt ks _ => .dt ks es | .obj k _ => .obj k es | .gone => .gone
theorem shapeO_with {G : GS} {c : Cell} {es : List D} {vs : List V} {o : HO} : shapeO G (c.with es) vs o = shapeO G c vs o := by cases c <;> rfl
theorem CO_of {G : GS} {g : Gh} {c : Cell} {vs : List V} {o : HO} (h : shapeO G c vs o) (r : RepL G g c.items vs) : CO G g c o := by
  cases c with
  | lst ds => exact ⟨vs, h, r⟩
  | dk ks ds => exact ⟨vs, h.1, h.2, r⟩
  | dt ks ds => exact ⟨vs, h.1, h.2, r⟩
  | obj c ds => obtain ⟨⟨dx, e⟩, l⟩ := h; exact ⟨dx, vs, e, l, r⟩
  | gone => exact h
theorem CO_to {G : GS} {g : Gh} {c : Cell} {o : HO} (h : CO G g c o) : ∃ vs, shapeO G c vs o ∧ RepL G g c.items vs := by
  cases c with
  | lst ds => obtain ⟨vs, e, r⟩ := h; exact ⟨vs, e, r⟩
  | dk ks ds => obtain ⟨vs, e, l, r⟩ := h; exact ⟨vs, ⟨e, l⟩, r⟩
  | dt ks ds => obtain ⟨vs, e, l, r⟩ := h; exact ⟨vs, ⟨e, l⟩, r⟩
  | obj c ds => obtain ⟨dx, vs, e, l, r⟩ := h; exact ⟨vs, ⟨⟨dx, e⟩, l⟩, r⟩
  | gone => exact h.elim
def OwnAt (G : GS) (g : Gh) (H : Hp) (c : Cell) (T : List V → List Addr → Prop) (v : V) (fp : List Addr) : Prop :=
  ∃ a vs o fp', v = .ref a ∧ H a = some o ∧ shapeO G c vs o ∧ g.F a = none ∧ g.L a = none ∧ T vs fp' ∧ fp = fp' ++ [a]
mutual
def RepT (ok : D → Bool) (G : GS) (g : Gh) (H : Hp) : D → V → List Addr → Prop
  | .tup ds, v, fp => ∃ a vs, v = .ref a ∧ SqT G.K g.F a vs ∧ RepTL ok G g H ds vs fp
  | .lst .own ds, v, fp => OwnAt G g H (.lst ds) (RepTL ok G g H ds) v fp
  | .dk .own ks ds, v, fp => OwnAt G g H (.dk ks ds) (RepTL ok G g H ds) v fp
  | .dt .own ks ds, v, fp => OwnAt G g H (.dt ks ds) (RepTL ok G g H ds) v fp
  | .obj .own c ds, v, fp => OwnAt G g H (.obj c ds) (RepTL ok G g H ds) v fp
  | d, v, fp => ok d = true ∧ d.noc = true ∧ Rep G g d v ∧ fp = []
def RepTL (ok : D → Bool) (G : GS) (g : Gh) (H : Hp) : List D → List V → List Addr → Prop
  | [], vs, fp => vs = [] ∧ fp = []
  | d :: ds, vs, fp => ∃ v r f1 f2, vs = v :: r ∧ RepT ok G g H d v f1 ∧ RepTL ok G g H ds r f2 ∧ fp = f1 ++ f2
end
structure Tr (ok : D → Bool) (G : GS) (g gg : Gh) : Prop where
  F : Same g.F gg.F
  leaf : ∀ d v, ok d = true → d.noc = true → Rep G g d v → Rep G gg d v
section
variable {ok : D → Bool} {G : GS} {g gg : Gh} {H : Hp}
inductive Kind : D → Prop where
  | tup (ds : List D) : Kind (.tup ds)
  | own (d : D) (c : Cell) (h : ∀ ok G g H v fp, RepT ok G g H d v fp = OwnAt G g H c (RepTL ok G g H c.items) v fp) (hn : d.noc = false)
      (hi : ∀ n, imp d n = if nocL c.items then (.cell n, [c]) else (.cell (n + (impL c.items n).2.length), (impL c.items n).2 ++ [c.with (impL c.items n).1])) (hc : c ≠ .gone) : Kind d
  | leaf (d : D) (h : ∀ ok G g H v fp, RepT ok G g H d v fp = (ok d = true ∧ d.noc = true ∧ Rep G g d v ∧ fp = [])) (hi : ∀ n, imp d n = (d, [])) : Kind d
theorem kind (d : D) : Kind d := by
  cases d with
  | non => exact .leaf _ (fun _ _ _ _ _ _ => rfl) fun _ => rfl
  | bl b => exact .leaf _ (fun _ _ _ _ _ _ => rfl) fun _ => rfl
  | int i => exact .leaf _ (fun _ _ _ _ _ _ => rfl) fun _ => rfl
  | str x => exact .leaf _ (fun _ _ _ _ _ _ => rfl) fun _ => rfl
  | tup ds => exact .tup ds
  | lst m ds =>
    cases m with
    | own => exact .own _ (.lst ds) (fun _ _ _ _ _ _ => rfl) rfl (fun _ => rfl) (by intro z; cases z)
    | _ => exact .leaf _ (fun _ _ _ _ _ _ => rfl) fun _ => rfl
  | dk m ks ds =>
    cases m with
    | own => exact .own _ (.dk ks ds) (fun _ _ _ _ _ _ => rfl) rfl (fun _ => rfl) (by intro z; cases z)
    | _ => exact .leaf _ (fun _ _ _ _ _ _ => rfl) fun _ => rfl
  | dt m ks ds =>
    cases m with
    | own => exact .own _ (.dt ks ds) (fun _ _ _ _ _ _ => rfl) rfl (fun _ => rfl) (by intro z; cases z)
    | _ => exact .leaf _ (fun _ _ _ _ _ _ => rfl) fun _ => rfl
  | obj m c ds =>
    cases m with
    | own => exact .own _ (.obj c ds) (fun _ _ _ _ _ _ => rfl) rfl (fun _ => rfl) (by intro z; cases z)
    | _ => exact .leaf _ (fun _ _ _ _ _ _ => rfl) fun _ => rfl
  | cell i => exact .leaf _ (fun _ _ _ _ _ _ => rfl) fun _ => rfl
mutual
theorem RepT.ofNoc (t : Tr ok G g gg) : ∀ (d : D) (v : V) (fp : List Addr), d.noc = true → RepT ok G g H d v fp → fp = [] ∧ Rep G gg d v
  | .tup ds, v, fp, n, ⟨a, vs, e, q, r⟩ => by
    obtain ⟨e1, e2⟩ := RepTL.ofNoc t ds vs fp (by simpa [D.noc] using n) r
    exact ⟨e1, a, vs, e, seqT_same t.F q, e2⟩
  | .lst m ds, v, fp, n, h => by
    rcases kind (.lst m ds) with _ | ⟨_, c, k, hn, _, _⟩ | ⟨_, k, _⟩
    · rw [n] at hn; cases hn
    · rw [k] at h; exact ⟨h.2.2.2, t.leaf _ _ h.1 h.2.1 h.2.2.1⟩
  | .dk m ks ds, v, fp, n, h => by
    rcases kind (.dk m ks ds) with _ | ⟨_, c, k, hn, _, _⟩ | ⟨_, k, _⟩
    · rw [n] at hn; cases hn
    · rw [k] at h; exact ⟨h.2.2.2, t.leaf _ _ h.1 h.2.1 h.2.2.1⟩
  | .dt m ks ds, v, fp, n, h => by
    rcases kind (.dt m ks ds) with _ | ⟨_, c, k, hn, _, _⟩ | ⟨_, k, _⟩
    · rw [n] at hn; cases hn
    · rw [k] at h; exact ⟨h.2.2.2, t.leaf _ _ h.1 h.2.1 h.2.2.1⟩
  | .obj m c ds, v, fp, n, h => by
    rcases kind (.obj m c ds) with _ | ⟨_, c, k, hn, _, _⟩ | ⟨_, k, _⟩
    · rw [n] at hn; cases hn
    · rw [k] at h; exact ⟨h.2.2.2, t.leaf _ _ h.1 h.2.1 h.2.2.1⟩
  | .non, v, fp, n, h => ⟨h.2.2.2, t.leaf _ _ h.1 h.2.1 h.2.2.1⟩
  | .bl _, v, fp, n, h => ⟨h.2.2.2, t.leaf _ _ h.1 h.2.1 h.2.2.1⟩
  | .int _, v, fp, n, h => ⟨h.2.2.2, t.leaf _ _ h.1 h.2.1 h.2.2.1⟩
  | .str _, v, fp, n, h => ⟨h.2.2.2, t.leaf _ _ h.1 h.2.1 h.2.2.1⟩
  | .cell _, v, fp, n, h => ⟨h.2.2.2, t.leaf _ _ h.1 h.2.1 h.2.2.1⟩
theorem RepTL.ofNoc (t : Tr ok G g gg) : ∀ (ds : List D) (vs : List V) (fp : List Addr), nocL ds = true → RepTL ok G g H ds vs fp → fp = [] ∧ RepL G gg ds vs
  | [], vs, fp, n, ⟨e1, e2⟩ => ⟨e2, e1⟩
  | d :: ds, vs, fp, n, ⟨v, r, f1, f2, e1, e2, e3, e4⟩ => by
    simp [nocL] at n
    obtain ⟨a1, a2⟩ := RepT.ofNoc t d v f1 n.1 e2
    obtain ⟨b1, b2⟩ := RepTL.ofNoc t ds r f2 n.2 e3
    exact ⟨by rw [e4, a1, b1]; rfl, v, r, e1, a2, b2⟩
end
def CellsAt (G : GS) (g gg : Gh) (H : Hp) (cs : List Cell) (fp : List Addr) : Prop :=
  ∀ (k : Nat) (c : Cell), cs[k]? = some c → c ≠ .gone ∧ ∃ a o, fp[k]? = some a ∧ H a = some o ∧ CO G gg c o ∧ g.F a = none ∧ g.L a = none
theorem CellsAt.append {cs cs' : List Cell} {fp fp' : List Addr} (h : CellsAt G g gg H cs fp) (h' : CellsAt G g gg H cs' fp') (l : cs.length = fp.length) : CellsAt G g gg H (cs ++ cs') (fp ++ fp') := by
  intro k c e
  by_cases hk : k < cs.length
  · rw [List.getElem?_append_left hk] at e
    rw [List.getElem?_append_left (by omega)]
    exact h k c e
  · rw [List.getElem?_append_right (by omega)] at e
    rw [List.getElem?_append_right (by omega), ← l]
    exact h' _ c e
theorem CellsAt.nil : CellsAt G g gg H [] [] := fun k c e => by simp at e
theorem CellsAt.one {c : Cell} {a : Addr} {o : HO} (hn : c ≠ .gone) (h : H a = some o) (hc : CO G gg c o) (hF : g.F a = none) (hL : g.L a = none) : CellsAt G g gg H [c] [a] := fun k d e => by
  cases k with
  | zero => simp at e; subst e; exact ⟨hn, a, o, rfl, h, hc, hF, hL⟩
  | succ k => simp at e
def Pre (as : List Addr) (gg : Gh) : Prop := ∀ (i : Nat) (a : Addr), as[i]? = some a → gg.as[i]? = some a
theorem Pre.left {as bs : List Addr} (h : Pre (as ++ bs) gg) : Pre as gg := fun i a e => h i a (by rw [List.getElem?_append_left (List.getElem?_eq_some_iff.mp e).1]; exact e)
mutual
theorem imp_ok (t : Tr ok G g gg) : ∀ (d : D) (v : V) (fp as : List Addr), RepT ok G g H d v fp → Pre (as ++ fp) gg →
    (imp d as.length).2.length = fp.length ∧ Rep G gg (imp d as.length).1 v ∧ CellsAt G g gg H (imp d as.length).2 fp
  | .tup ds, v, fp, as, ⟨a, vs, e, q, r⟩, hp => by
    by_cases n : nocL ds = true
    · obtain ⟨rfl, e2⟩ := RepTL.ofNoc t ds vs fp n r
      have hi : imp (.tup ds) as.length = (.tup ds, []) := by simp only [imp]; rw [if_pos n]
      rw [hi]
      exact ⟨rfl, ⟨a, vs, e, seqT_same t.F q, e2⟩, .nil⟩
    · obtain ⟨h1, h2, h3⟩ := impL_ok t ds vs fp as r hp
      have hi : imp (.tup ds) as.length = (.tup (impL ds as.length).1, (impL ds as.length).2) := by simp only [imp]; rw [if_neg n]
      rw [hi]
      exact ⟨h1, ⟨a, vs, e, seqT_same t.F q, h2⟩, h3⟩
  | .lst .own ds, v, fp, as, ⟨a, vs, o, fp', e1, e2, e3, e4, e5, e6, e7⟩, hp => by
    subst e7
    have hat : gg.as[as.length + fp'.length]? = some a := hp _ _ (by rw [← List.append_assoc, List.getElem?_append_right (by simp)]; simp)
    by_cases n : nocL ds = true
    · obtain ⟨rfl, q⟩ := RepTL.ofNoc t ds vs fp' n e6
      have hi : imp (.lst .own ds) as.length = (.cell as.length, [.lst ds]) := by simp only [imp]; rw [if_pos n]
      rw [hi]
      exact ⟨rfl, ⟨a, by simpa using hat, e1⟩, .one (by intro z; cases z) e2 (CO_of e3 q) e4 e5⟩
    · obtain ⟨h1, h2, h3⟩ := impL_ok t ds vs fp' as e6 (by rw [← List.append_assoc] at hp; exact hp.left)
      have hi : imp (.lst .own ds) as.length = (.cell (as.length + (impL ds as.length).2.length), (impL ds as.length).2 ++ [.lst (impL ds as.length).1]) := by simp only [imp]; rw [if_neg n]
      rw [hi]
      refine ⟨by simp [h1], ⟨a, by rw [h1]; exact hat, e1⟩, h3.append (.one (by intro z; cases z) e2 (CO_of (vs := vs) (by exact e3) h2) e4 e5) h1⟩
  | .dk .own ks ds, v, fp, as, ⟨a, vs, o, fp', e1, e2, e3, e4, e5, e6, e7⟩, hp => by
    subst e7
    have hat : gg.as[as.length + fp'.length]? = some a := hp _ _ (by rw [← List.append_assoc, List.getElem?_append_right (by simp)]; simp)
    by_cases n : nocL ds = true
    · obtain ⟨rfl, q⟩ := RepTL.ofNoc t ds vs fp' n e6
      have hi : imp (.dk .own ks ds) as.length = (.cell as.length, [.dk ks ds]) := by simp only [imp]; rw [if_pos n]
      rw [hi]
      exact ⟨rfl, ⟨a, by simpa using hat, e1⟩, .one (by intro z; cases z) e2 (CO_of e3 q) e4 e5⟩
    · obtain ⟨h1, h2, h3⟩ := impL_ok t ds vs fp' as e6 (by rw [← List.append_assoc] at hp; exact hp.left)
      have hi : imp (.dk .own ks ds) as.length = (.cell (as.length + (impL ds as.length).2.length), (impL ds as.length).2 ++ [.dk ks (impL ds as.length).1]) := by simp only [imp]; rw [if_neg n]
      rw [hi]
      refine ⟨by simp [h1], ⟨a, by rw [h1]; exact hat, e1⟩, h3.append (.one (by intro z; cases z) e2 (CO_of (vs := vs) (by exact e3) h2) e4 e5) h1⟩
  | .dt .own ks ds, v, fp, as, ⟨a, vs, o, fp', e1, e2, e3, e4, e5, e6, e7⟩, hp => by
    subst e7
    have hat : gg.as[as.length + fp'.length]? = some a := hp _ _ (by rw [← List.append_assoc, List.getElem?_append_right (by simp)]; simp)
    by_cases n : nocL ds = true
    · obtain ⟨rfl, q⟩ := RepTL.ofNoc t ds vs fp' n e6
      have hi : imp (.dt .own ks ds) as.length = (.cell as.length, [.dt ks ds]) := by simp only [imp]; rw [if_pos n]
      rw [hi]
      exact ⟨rfl, ⟨a, by simpa using hat, e1⟩, .one (by intro z; cases z) e2 (CO_of e3 q) e4 e5⟩
    · obtain ⟨h1, h2, h3⟩ := impL_ok t ds vs fp' as e6 (by rw [← List.append_assoc] at hp; exact hp.left)
      have hi : imp (.dt .own ks ds) as.length = (.cell (as.length + (impL ds as.length).2.length), (impL ds as.length).2 ++ [.dt ks (impL ds as.length).1]) := by simp only [imp]; rw [if_neg n]
      rw [hi]
      refine ⟨by simp [h1], ⟨a, by rw [h1]; exact hat, e1⟩, h3.append (.one (by intro z; cases z) e2 (CO_of (vs := vs) (by exact e3) h2) e4 e5) h1⟩
  | .obj .own c ds, v, fp, as, ⟨a, vs, o, fp', e1, e2, e3, e4, e5, e6, e7⟩, hp => by
    subst e7
    have hat : gg.as[as.length + fp'.length]? = some a := hp _ _ (by rw [← List.append_assoc, List.getElem?_append_right (by simp)]; simp)
    by_cases n : nocL ds = true
    · obtain ⟨rfl, q⟩ := RepTL.ofNoc t ds vs fp' n e6
      have hi : imp (.obj .own c ds) as.length = (.cell as.length, [.obj c ds]) := by simp only [imp]; rw [if_pos n]
      rw [hi]
      exact ⟨rfl, ⟨a, by simpa using hat, e1⟩, .one (by intro z; cases z) e2 (CO_of e3 q) e4 e5⟩
    · obtain ⟨h1, h2, h3⟩ := impL_ok t ds vs fp' as e6 (by rw [← List.append_assoc] at hp; exact hp.left)
      have hi : imp (.obj .own c ds) as.length = (.cell (as.length + (impL ds as.length).2.length), (impL ds as.length).2 ++ [.obj c (impL ds as.length).1]) := by simp only [imp]; rw [if_neg n]
      rw [hi]
      refine ⟨by simp [h1], ⟨a, by rw [h1]; exact hat, e1⟩, h3.append (.one (by intro z; cases z) e2 (CO_of (vs := vs) (by exact e3) h2) e4 e5) h1⟩
  | .non, v, fp, as, h, hp => by obtain ⟨h1, h2, h3, rfl⟩ := h; exact ⟨rfl, t.leaf _ _ h1 h2 h3, .nil⟩
  | .bl _, v, fp, as, h, hp => by obtain ⟨h1, h2, h3, rfl⟩ := h; exact ⟨rfl, t.leaf _ _ h1 h2 h3, .nil⟩
  | .int _, v, fp, as, h, hp => by obtain ⟨h1, h2, h3, rfl⟩ := h; exact ⟨rfl, t.leaf _ _ h1 h2 h3, .nil⟩
  | .str _, v, fp, as, h, hp => by obtain ⟨h1, h2, h3, rfl⟩ := h; exact ⟨rfl, t.leaf _ _ h1 h2 h3, .nil⟩
  | .cell _, v, fp, as, h, hp => by obtain ⟨h1, h2, h3, rfl⟩ := h; exact ⟨rfl, t.leaf _ _ h1 h2 h3, .nil⟩
  | .lst .frz _, v, fp, as, h, hp => by obtain ⟨h1, h2, h3, rfl⟩ := h; exact ⟨rfl, t.leaf _ _ h1 h2 h3, .nil⟩
  | .lst .loan _, v, fp, as, h, hp => by obtain ⟨h1, h2, h3, rfl⟩ := h; exact ⟨rfl, t.leaf _ _ h1 h2 h3, .nil⟩
  | .lst .ro _, v, fp, as, h, hp => by obtain ⟨h1, h2, h3, rfl⟩ := h; exact ⟨rfl, t.leaf _ _ h1 h2 h3, .nil⟩
  | .dk .frz _ _, v, fp, as, h, hp => by obtain ⟨h1, h2, h3, rfl⟩ := h; exact ⟨rfl, t.leaf _ _ h1 h2 h3, .nil⟩
  | .dk .loan _ _, v, fp, as, h, hp => by obtain ⟨h1, h2, h3, rfl⟩ := h; exact ⟨rfl, t.leaf _ _ h1 h2 h3, .nil⟩
  | .dk .ro _ _, v, fp, as, h, hp => by obtain ⟨h1, h2, h3, rfl⟩ := h; exact ⟨rfl, t.leaf _ _ h1 h2 h3, .nil⟩
  | .dt .frz _ _, v, fp, as, h, hp => by obtain ⟨h1, h2, h3, rfl⟩ := h; exact ⟨rfl, t.leaf _ _ h1 h2 h3, .nil⟩
  | .dt .loan _ _, v, fp, as, h, hp => by obtain ⟨h1, h2, h3, rfl⟩ := h; exact ⟨rfl, t.leaf _ _ h1 h2 h3, .nil⟩
  | .dt .ro _ _, v, fp, as, h, hp => by obtain ⟨h1, h2, h3, rfl⟩ := h; exact ⟨rfl, t.leaf _ _ h1 h2 h3, .nil⟩
  | .obj .frz _ _, v, fp, as, h, hp => by obtain ⟨h1, h2, h3, rfl⟩ := h; exact ⟨rfl, t.leaf _ _ h1 h2 h3, .nil⟩
  | .obj .loan _ _, v, fp, as, h, hp => by obtain ⟨h1, h2, h3, rfl⟩ := h; exact ⟨rfl, t.leaf _ _ h1 h2 h3, .nil⟩
  | .obj .ro _ _, v, fp, as, h, hp => by obtain ⟨h1, h2, h3, rfl⟩ := h; exact ⟨rfl, t.leaf _ _ h1 h2 h3, .nil⟩
theorem impL_ok (t : Tr ok G g gg) : ∀ (ds : List D) (vs : List V) (fp as : List Addr), RepTL ok G g H ds vs fp → Pre (as ++ fp) gg →
    (impL ds as.length).2.length = fp.length ∧ RepL G gg (impL ds as.length).1 vs ∧ CellsAt G g gg H (impL ds as.length).2 fp
  | [], vs, fp, as, ⟨e1, e2⟩, hp => by subst e1; subst e2; exact ⟨rfl, rfl, .nil⟩
  | d :: ds, vs, fp, as, ⟨v, r, f1, f2, e1, e2, e3, e4⟩, hp => by
    subst e4
    obtain ⟨h1, h2, h3⟩ := imp_ok t d v f1 as e2 (by rw [← List.append_assoc] at hp; exact hp.left)
    have hl : (as ++ f1).length = as.length + (imp d as.length).2.length := by rw [List.length_append, h1]
    obtain ⟨k1, k2, k3⟩ := impL_ok t ds r f2 (as ++ f1) e3 (by rw [List.append_assoc]; exact hp)
    rw [hl] at k1 k2 k3
    refine ⟨?_, ⟨v, r, e1, ?_, ?_⟩, ?_⟩
    · simp only [impL, List.length_append]; omega
    · exact h2
    · exact k2
    · exact h3.append k3 h1
end
end
end Px
namespace Px
open PySem PySem.Spec L2
def AtJs (g : Gh) (st : Sto) (js : List Nat) (fp : List Addr) : Prop :=
  js.length = fp.length ∧ ∀ (k i : Nat), js[k]? = some i → ∃ a c, fp[k]? = some a ∧ g.as[i]? = some a ∧ st[i]? = some c ∧ c ≠ .gone
theorem AtJs.nil {g : Gh} {st : Sto} : AtJs g st [] [] := ⟨rfl, fun k i h => by simp at h⟩
theorem AtJs.append {g : Gh} {st : Sto} {js ks : List Nat} {fp fq : List Addr} (h : AtJs g st js fp) (h' : AtJs g st ks fq) : AtJs g st (js ++ ks) (fp ++ fq) := by
  refine ⟨by simp [h.1, h'.1], fun k i e => ?_⟩
  by_cases hk : k < js.length
  · rw [List.getElem?_append_left hk] at e
    rw [List.getElem?_append_left (by rw [← h.1]; exact hk)]
    exact h.2 k i e
  · rw [List.getElem?_append_right (by omega)] at e
    rw [List.getElem?_append_right (by rw [← h.1]; omega), ← h.1]
    exact h'.2 _ i e
theorem AtJs.one {g : Gh} {st : Sto} {i : Nat} {a : Addr} {c : Cell} (ha : g.as[i]? = some a) (hc : st[i]? = some c) (hn : c ≠ .gone) : AtJs g st [i] [a] := ⟨rfl, fun k j h => by
  cases k with
  | zero => simp at h; subst h; exact ⟨a, c, rfl, ha, hc, hn⟩
  | succ k => simp at h⟩
theorem AtJs.nodup {G : GS} {g : Gh} {en : En} {st : Sto} {σ : L2.St} {H : Hp} (R : Rel G g en st σ H) {js : List Nat} {fp : List Addr} (h : AtJs g st js fp) (hn : js.Nodup) : fp.Nodup := by
  refine List.pairwise_iff_getElem.mpr fun i j hi hj hij e => ?_
  have hi' : i < js.length := by rw [h.1]; exact hi
  have hj' : j < js.length := by rw [h.1]; exact hj
  obtain ⟨a, c, e1, e2, e3, e4⟩ := h.2 i js[i] (List.getElem?_eq_getElem hi')
  obtain ⟨b, d, f1, f2, f3, f4⟩ := h.2 j js[j] (List.getElem?_eq_getElem hj')
  rw [List.getElem?_eq_getElem hi] at e1
  rw [List.getElem?_eq_getElem hj] at f1
  have ea : a = b := by rw [← Option.some.inj e1, ← Option.some.inj f1]; exact e
  subst ea
  have := R.inj _ _ c d a e3 f3 e4 f4 e2 f2
  exact absurd ((List.getElem_inj hn).mp this) (by omega)
section
variable {ok : D → Bool} {G : GS} {g gt : Gh} {en : En} {st : Sto} {σ : L2.St} {H : Hp}
structure Into (ok : D → Bool) (G : GS) (g gt : Gh) : Prop where
  F : gt.F = g.F
  noc : ∀ d, ok d = true → d.noc = true
  sub : ∀ ds, ok (.tup ds) = true → ∀ d ∈ ds, ok d = true
  leaf : ∀ d v, ok d = true → Rep G g d v → Rep G gt d v
mutual
theorem leafT (i : Into ok G g gt) : ∀ (d : D) (v : V), ok d = true → Rep G g d v → RepT ok G gt H d v []
  | .tup ds, v, h, ⟨a, vs, e, q, r⟩ => ⟨a, vs, e, by rw [i.F]; exact q, leafTL i ds vs (i.sub ds h) r⟩
  | .lst m ds, v, h, r => by
    rcases kind (.lst m ds) with _ | ⟨_, c, k, hn, _, _⟩ | ⟨_, k, _⟩
    · rw [i.noc _ h] at hn; cases hn
    · rw [k]; exact ⟨h, i.noc _ h, i.leaf _ _ h r, rfl⟩
  | .dk m ks ds, v, h, r => by
    rcases kind (.dk m ks ds) with _ | ⟨_, c, k, hn, _, _⟩ | ⟨_, k, _⟩
    · rw [i.noc _ h] at hn; cases hn
    · rw [k]; exact ⟨h, i.noc _ h, i.leaf _ _ h r, rfl⟩
  | .dt m ks ds, v, h, r => by
    rcases kind (.dt m ks ds) with _ | ⟨_, c, k, hn, _, _⟩ | ⟨_, k, _⟩
    · rw [i.noc _ h] at hn; cases hn
    · rw [k]; exact ⟨h, i.noc _ h, i.leaf _ _ h r, rfl⟩
  | .obj m c ds, v, h, r => by
    rcases kind (.obj m c ds) with _ | ⟨_, c, k, hn, _, _⟩ | ⟨_, k, _⟩
    · rw [i.noc _ h] at hn; cases hn
    · rw [k]; exact ⟨h, i.noc _ h, i.leaf _ _ h r, rfl⟩
  | .non, v, h, r => ⟨h, rfl, i.leaf _ _ h r, rfl⟩
  | .bl _, v, h, r => ⟨h, rfl, i.leaf _ _ h r, rfl⟩
  | .int _, v, h, r => ⟨h, rfl, i.leaf _ _ h r, rfl⟩
  | .str _, v, h, r => ⟨h, rfl, i.leaf _ _ h r, rfl⟩
  | .cell j, v, h, r => by have := i.noc _ h; simp [D.noc] at this
theorem leafTL (i : Into ok G g gt) : ∀ (ds : List D) (vs : List V), (∀ d ∈ ds, ok d = true) → RepL G g ds vs → RepTL ok G gt H ds vs []
  | [], vs, _, r => ⟨r, rfl⟩
  | d :: ds, vs, h, ⟨v, vr, e, r1, r2⟩ => ⟨v, vr, [], [], e, leafT i d v (h d List.mem_cons_self) r1, leafTL i ds vr (fun x hx => h x (List.mem_cons_of_mem _ hx)) r2, rfl⟩
end
def Taken (ok : D → Bool) (G : GS) (g : Gh) (st : Sto) (H : Hp) (d : D) (v : V) (e : D) (js : List Nat) : Prop :=
  ∃ fp, AtJs g st js fp ∧ ∀ gt, Into ok G g gt → (∀ a ∈ fp, gt.L a = none) → RepT ok G gt H e v fp
def TakenL (ok : D → Bool) (G : GS) (g : Gh) (st : Sto) (H : Hp) (ds : List D) (vs : List V) (es : List D) (js : List Nat) : Prop :=
  ∃ fp, AtJs g st js fp ∧ ∀ gt, Into ok G g gt → (∀ a ∈ fp, gt.L a = none) → RepTL ok G gt H es vs fp
theorem mapO_ok {f : D → Option (D × List Nat)} (hf : ∀ d v e js, f d = some (e, js) → Rep G g d v → Taken ok G g st H d v e js) :
    ∀ (ds : List D) (vs : List V) (es : List D) (js : List Nat), mapO f ds = some (es, js) → RepL G g ds vs → TakenL ok G g st H ds vs es js
  | [], vs, es, js, h, r => by cases h; exact ⟨[], .nil, fun gt _ _ => ⟨r, rfl⟩⟩
  | d :: ds, vs, es, js, h, ⟨v, vr, e, r1, r2⟩ => by
    simp only [mapO] at h
    split at h
    · rename_i p q hp hq
      cases h
      obtain ⟨f1, a1, b1⟩ := hf d v p.1 p.2 hp r1
      obtain ⟨f2, a2, b2⟩ := mapO_ok hf ds vr q.1 q.2 hq r2
      exact ⟨f1 ++ f2, a1.append a2, fun gt i hL => ⟨v, vr, f1, f2, e, b1 gt i fun a ha => hL a (List.mem_append_left _ ha), b2 gt i fun a ha => hL a (List.mem_append_right _ ha), rfl⟩⟩
    · cases h
theorem takeL_ok {f : D → Option (D × List Nat)} (hf : ∀ d v e js, f d = some (e, js) → Rep G g d v → Taken ok G g st H d v e js)
    {ds : List D} {vs : List V} {es : List D} {js : List Nat} (h : takeL ok f ds = some (es, js)) (r : RepL G g ds vs) : TakenL ok G g st H ds vs es js := by
  unfold takeL at h
  split at h
  · rename_i c
    cases h
    exact ⟨[], .nil, fun gt i _ => leafTL i ds vs (fun d hd => List.all_eq_true.mp c d hd) r⟩
  · exact mapO_ok hf ds vs es js h r
theorem take_own {c : Cell} {i : Nat} {e : D} {v : V} {es : List D} {js : List Nat} (R : Rel G g en st σ H) (hi : st[i]? = some c) (hn : c ≠ .gone) (r : Rep G g (.cell i) v)
    (he : ∀ ok G g H v fp, RepT ok G g H e v fp = OwnAt G g H (c.with es) (RepTL ok G g H es) v fp)
    (h : ∀ vs, RepL G g c.items vs → TakenL ok G g st H c.items vs es js) : Taken ok G g st H (.cell i) v e (js ++ [i]) := by
  obtain ⟨a, ha, rfl⟩ := r
  obtain ⟨a', o, e1, e2, e3, e4, e5⟩ := R.cell i c hi hn
  rw [ha] at e1; cases e1
  obtain ⟨vs, s1, s2⟩ := CO_to e3
  obtain ⟨fp, q1, q2⟩ := h vs s2
  refine ⟨fp ++ [a], q1.append (.one ha hi hn), fun gt i hL => ?_⟩
  rw [he]
  exact ⟨a, vs, o, fp, rfl, e2, by rw [shapeO_with]; exact s1, by rw [i.F]; exact e4, hL a (by simp), q2 gt i fun b hb => hL b (List.mem_append_left _ hb), rfl⟩
theorem take_ok (R : Rel G g en st σ H) : ∀ (n : Nat) (d : D) (v : V) (e : D) (js : List Nat), take ok st n d = some (e, js) → Rep G g d v → Taken ok G g st H d v e js
  | 0, d, v, e, js, h, r => by
    unfold take at h
    split at h
    · rename_i c
      cases h
      exact ⟨[], .nil, fun gt i _ => leafT i d v c r⟩
    · cases h
  | n + 1, d, v, e, js, h, r => by
    have ih := take_ok R n
    unfold take at h
    split at h
    · rename_i c
      cases h
      exact ⟨[], .nil, fun gt i _ => leafT i d v c r⟩
    · split at h
      · rename_i ds _
        obtain ⟨p, hp, e1⟩ := Option.map_eq_some_iff.mp h
        cases e1
        obtain ⟨a, vs, e1, e2, e3⟩ := r
        obtain ⟨fp, q1, q2⟩ := takeL_ok ih hp e3
        exact ⟨fp, q1, fun gt i hL => ⟨a, vs, e1, by rw [i.F]; exact e2, q2 gt i hL⟩⟩
      · rename_i i _
        split at h
        · rename_i ds hi
          obtain ⟨p, hp, e1⟩ := Option.map_eq_some_iff.mp h
          cases e1
          exact take_own R hi (by intro z; cases z) r (fun _ _ _ _ _ _ => rfl) fun vs rv => takeL_ok ih hp rv
        · rename_i ks ds hi
          obtain ⟨p, hp, e1⟩ := Option.map_eq_some_iff.mp h
          cases e1
          exact take_own R hi (by intro z; cases z) r (fun _ _ _ _ _ _ => rfl) fun vs rv => takeL_ok ih hp rv
        · rename_i ks ds hi
          obtain ⟨p, hp, e1⟩ := Option.map_eq_some_iff.mp h
          cases e1
          exact take_own R hi (by intro z; cases z) r (fun _ _ _ _ _ _ => rfl) fun vs rv => takeL_ok ih hp rv
        · rename_i c ds hi
          obtain ⟨p, hp, e1⟩ := Option.map_eq_some_iff.mp h
          cases e1
          exact take_own R hi (by intro z; cases z) r (fun _ _ _ _ _ _ => rfl) fun vs rv => takeL_ok ih hp rv
        · cases h
      · cases h
end
structure FL (g : Gh) (F' : Hp) : Prop where
  F : Same g.F F'
  nf : ∀ a o, F' a = some o → g.F a = some o ∨ g.L a = none
  nd : NoD F'
def spF (G : GS) (np : Nat) (mu : List Nat) (sem : List D → RF) : Sp := fun vs H Q E => ∃ (g : Gh) (ds : List D) (fp : List Addr), g.as = [] ∧ NoD g.F ∧ ds.length = np ∧ Same g.F H ∧ Same g.L H ∧ RepTL D.noc G g H ds vs fp ∧ fp.Nodup ∧
  match sem ds with
  | .ok r ms => ∀ F' H' v f1 f2, FL g F' → Same F' H' → Same g.L H' → RepT D.pl G ⟨F', g.L, []⟩ H' r v f1 → RepTL D.pl G ⟨F', g.L, []⟩ H' ms (mu.map fun i => vs.getD i .non) f2 → (f1 ++ f2).Nodup → Q v H'
  | .exc c xs ms => ∀ F' H' d f2, FL g F' → Same F' H' → Same g.L H' → ExcRep G ⟨F', g.L, []⟩ H' xs d → RepTL D.pl G ⟨F', g.L, []⟩ H' ms (mu.map fun i => vs.getD i .non) f2 → f2.Nodup → E (.ref (G.exc c)) d H'
  | .bad => False
def fin (mu : List Nat) (ps : List D) (d : D) (st : Sto) : RF := match take D.pl st 20 d, takeL D.pl (take D.pl st 20) (mu.map fun i => ps.getD i .non) with
  | some p, some q => if (p.2 ++ q.2).Nodup then .ok p.1 q.1 else .bad
  | _, _ => .bad
def finX (mu : List Nat) (ps : List D) (c : Nat) (xs : List D) (st : Sto) : RF := match takeL D.pl (take D.pl st 20) (mu.map fun i => ps.getD i .non) with
  | some q => if q.2.Nodup && plL xs then .exc c xs q.1 else .bad
  | none => .bad
def xfun (np nl : Nat) (mu : List Nat) (body : XS) : List D → RF := fun ds =>
  if ds.length = np then
    match body ((impL ds 0).1.map some ++ List.replicate nl none) (impL ds 0).2 with
    | .ok (.rt d, _) st => fin mu (impL ds 0).1 d st
    | .ok (.nx, _) st => fin mu (impL ds 0).1 .non st
    | .ok _ _ => .bad
    | .exc c xs _ st => finX mu (impL ds 0).1 c xs st
    | .bad => .bad
  else .bad
theorem intoPl {G : GS} {g : Gh} {F L : Hp} {as : List Addr} (h : F = g.F) : Into D.pl G g ⟨F, L, as⟩ where
  F := h
  noc := noc_of_pl
  sub := fun ds h d hd => by
    have : plL ds = true := by simpa [D.pl] using h
    rw [← all_pl] at this
    exact List.all_eq_true.mp this d hd
  leaf := fun d v hd r => Rep.pl (by rw [h]; exact Same.refl _) d v hd r
theorem repL_getD {G : GS} {g : Gh} {ds : List D} {vs : List V} (r : RepL G g ds vs) : ∀ (mu : List Nat), RepL G g (mu.map fun i => ds.getD i .non) (mu.map fun i => vs.getD i .non)
  | [] => rfl
  | i :: mu => by
    refine ⟨_, _, rfl, ?_, repL_getD r mu⟩
    show Rep G g (ds.getD i .non) (vs.getD i .non)
    rw [List.getD_eq_getElem?_getD, List.getD_eq_getElem?_getD]
    cases e : ds[i]? with
    | none =>
      have : vs[i]? = none := by
        rw [List.getElem?_eq_none_iff] at e ⊢
        rw [← r.length]; exact e
      rw [this]; rfl
    | some d =>
      obtain ⟨v, hv, rv⟩ := r.get e
      rw [hv]; exact rv
theorem start_ok {G : GS} {g : Gh} {ds : List D} {vs : List V} {fp : List Addr} {H : Hp} (ha : g.as = []) (hnd : NoD g.F) (sF : Same g.F H) (sL : Same g.L H) (r : RepTL D.noc G g H ds vs fp) (hn : fp.Nodup) (nl : Nat) :
    Rel G ⟨g.F, g.L, fp⟩ ((impL ds 0).1.map some ++ List.replicate nl none) (impL ds 0).2 (vs.map some ++ List.replicate nl none) H ∧ RepL G ⟨g.F, g.L, fp⟩ (impL ds 0).1 vs := by
  have t : Tr D.noc G g ⟨g.F, g.L, fp⟩ := ⟨Same.refl _, fun d v _ h q => Rep.noc (g := g) (g' := ⟨g.F, g.L, fp⟩) (Same.refl _) (Same.refl _) d v h q⟩
  obtain ⟨h1, h2, h3⟩ := impL_ok t ds vs fp [] r (fun i a e => by simpa using e)
  simp only [List.length_nil] at h1 h2 h3
  refine ⟨⟨sF, sL, ?_, fun i d e => ?_, fun i c e n => ?_, h1.symm, fun i j c c' a e1 e2 n1 n2 a1 a2 => ?_, hnd⟩, h2⟩
  · simp [h2.length]
  · by_cases hi : i < (impL ds 0).1.length
    · rw [List.getElem?_append_left (by simpa using hi), List.getElem?_map] at e
      obtain ⟨d', hd, e'⟩ := Option.map_eq_some_iff.mp e
      cases e'
      obtain ⟨v, hv, rv⟩ := h2.get hd
      exact ⟨v, by rw [List.getElem?_append_left (by simp; rw [← h2.length]; exact hi), List.getElem?_map, hv]; rfl, rv⟩
    · rw [List.getElem?_append_right (by simpa using hi)] at e
      have := List.mem_of_getElem? e
      simp at this
  · obtain ⟨_, a, o, q1, q2, q3, q4, q5⟩ := h3 i c e
    exact ⟨a, o, q1, q2, q3, q4, q5⟩
  · obtain ⟨h5, e5⟩ := List.getElem?_eq_some_iff.mp a1
    obtain ⟨h6, e6⟩ := List.getElem?_eq_some_iff.mp a2
    exact (List.getElem_inj hn).mp (e5.trans e6.symm)
theorem fin_ok {G : GS} {g g' : Gh} {en : En} {st : Sto} {σ : L2.St} {H' : Hp} {mu : List Nat} {ps : List D} {vs : List V} {d : D} {v : V} {r : D} {ms : List D} {fp : List Addr}
    (l : Le ⟨g.F, g.L, fp⟩ g') (R : Rel G g' en st σ H') (rp : RepL G ⟨g.F, g.L, fp⟩ ps vs) (rd : Rep G g' d v) (h : fin mu ps d st = .ok r ms) :
    ∃ f1 f2, FL g g'.F ∧ Same g'.F H' ∧ Same g.L H' ∧ RepT D.pl G ⟨g'.F, g.L, []⟩ H' r v f1 ∧ RepTL D.pl G ⟨g'.F, g.L, []⟩ H' ms (mu.map fun i => vs.getD i .non) f2 ∧ (f1 ++ f2).Nodup := by
  unfold fin at h
  split at h
  · rename_i p q hp hq
    split at h
    · rename_i hn
      cases h
      obtain ⟨f1, a1, b1⟩ := take_ok R 20 d v p.1 p.2 hp rd
      obtain ⟨f2, a2, b2⟩ := takeL_ok (take_ok R 20) hq (repL_getD (rp.mono l) mu)
      have eL : g'.L = g.L := l.L
      have nd : (f1 ++ f2).Nodup := (a1.append a2).nodup R hn
      have hL : ∀ a ∈ f1 ++ f2, g.L a = none := fun a ha => by
        obtain ⟨k, hk⟩ := List.mem_iff_getElem?.mp ha
        have hlen := (a1.append a2).1
        have hk' : k < (p.2 ++ q.2).length := by rw [hlen]; exact (List.getElem?_eq_some_iff.mp hk).1
        obtain ⟨b, c, x1, x2, x3, x4⟩ := (a1.append a2).2 k _ (List.getElem?_eq_getElem hk')
        rw [hk] at x1; cases x1
        obtain ⟨b', o, y1, y2, y3, y4, y5⟩ := R.cell _ c x3 x4
        rw [x2] at y1; cases y1
        rw [eL] at y5; exact y5
      refine ⟨f1, f2, ⟨l.F, fun a o e => l.nf a o e, R.nd⟩, R.sF, by rw [← eL]; exact R.sL, ?_, ?_, nd⟩
      · exact b1 _ (intoPl rfl) fun a ha => hL a (List.mem_append_left _ ha)
      · exact b2 _ (intoPl rfl) fun a ha => hL a (List.mem_append_right _ ha)
    · cases h
  · cases h
end Px
namespace Px
open PySem PySem.Spec L2
abbrev WB (E : XK) : WX := fun cls d _ H => E cls d H
structure Bd (G : GS) (W : WX) (X : Cx) : Prop where
  K : X.K = G.K
  nd : X.N.Nodup
  calm : X.calm = true
  tk : Takes X W
  own : PassesOwn (model X.prog X.w) X.A X.env X.xe
theorem RepTL.length {ok : D → Bool} {G : GS} {g : Gh} {H : Hp} : ∀ {ds : List D} {vs : List V} {fp : List Addr}, RepTL ok G g H ds vs fp → ds.length = vs.length
  | [], _, _, ⟨e, _⟩ => by subst e; rfl
  | d :: ds, _, _, ⟨v, r, f1, f2, e, _, q, _⟩ => by subst e; simp [RepTL.length q]
theorem finX_ok {G : GS} {g g' : Gh} {en : En} {st : Sto} {σ : L2.St} {H' : Hp} {mu : List Nat} {ps : List D} {vs : List V} {c c' : Nat} {xs xs' : List D} {d : Option Addr} {ms : List D} {fp : List Addr}
    (l : Le ⟨g.F, g.L, fp⟩ g') (R : Rel G g' en st σ H') (rp : RepL G ⟨g.F, g.L, fp⟩ ps vs) (hx : ExcRep G g' H' xs d) (h : finX mu ps c xs st = .exc c' xs' ms) :
    c' = c ∧ xs' = xs ∧ ∃ f2, FL g g'.F ∧ Same g'.F H' ∧ Same g.L H' ∧ ExcRep G ⟨g'.F, g.L, []⟩ H' xs d ∧ RepTL D.pl G ⟨g'.F, g.L, []⟩ H' ms (mu.map fun i => vs.getD i .non) f2 ∧ f2.Nodup := by
  unfold finX at h
  split at h
  · rename_i q hq
    split at h
    · rename_i hn
      simp only [Bool.and_eq_true, decide_eq_true_eq] at hn
      cases h
      obtain ⟨f2, a2, b2⟩ := takeL_ok (take_ok R 20) hq (repL_getD (rp.mono l) mu)
      have eL : g'.L = g.L := l.L
      refine ⟨rfl, rfl, f2, ⟨l.F, fun a o e => l.nf a o e, R.nd⟩, R.sF, by rw [← eL]; exact R.sL, hx, ?_, a2.nodup R hn.1⟩
      refine b2 _ (intoPl rfl) fun a ha => ?_
      obtain ⟨k, hk⟩ := List.mem_iff_getElem?.mp ha
      have hk' : k < q.2.length := by rw [a2.1]; exact (List.getElem?_eq_some_iff.mp hk).1
      obtain ⟨b, c, x1, x2, x3, x4⟩ := a2.2 k _ (List.getElem?_eq_getElem hk')
      rw [hk] at x1; cases x1
      obtain ⟨b', o, y1, y2, y3, y4, y5⟩ := R.cell _ c x3 x4
      rw [x2] at y1; cases y1
      rw [eL] at y5; exact y5
    · cases h
  · cases h
section
variable {P : Program} {w : World} {mg : Str → Option Value} {base : Heap}
theorem fn_ok {G : GS} {x qual : Str} {st : Stmt} {f : Addr} {fd : FuncData} {N ps : List Str} {k np nl : Nat} {mu : List Nat} {body : XS} (F : Fun G.K x qual st f fd) (S : FnScope N ps (defScope st)) (hp : ps.length = np) (hl : N.length - np = nl)
    (hb : ∀ (cdv : Value) (A : Around) (outer : List Env) (s : Shared) (H : Hp) (E : XK), Room k (A.deeper (PyProof.Rows.envOfC qual (defScope st) s.heap.objs.size f cdv)) →
      Bd G (WB E) (cxOf (L2.CX P w) P w G.K mg base N qual (defScope st) f cdv A outer s H E) → SL G (WB E) (cxOf (L2.CX P w) P w G.K mg base N qual (defScope st) f cdv A outer s H E) (defBody st) body) :
    FnOk P w G.K mg base (L2.CX P w) (k + 1) f fd ps (spF G np mu (xfun np nl mu body)) := by
  refine F.okX S (fun vs H Q E h => ?_) fun cdv A outer s H vs Q E hr h => ?_
  · obtain ⟨g, ds, fp, _, _, h1, _, _, h2, _⟩ := h
    rw [hp, ← h1, h2.length]
  · have bd : Bd G (WB E) (cxOf (L2.CX P w) P w G.K mg base N qual (defScope st) f cdv A outer s H E) := ⟨rfl, S.nd, rfl, takes_of rfl rfl rfl rfl, passes_of rfl⟩
    refine ⟨tS G (WB E) body, (hb cdv A outer s H E hr bd).ps, ?_⟩
    obtain ⟨g, ds, fp, ha, hnd, hlen, sF, sL, rT, nd, h⟩ := h
    obtain ⟨R, rp⟩ := start_ok ha hnd sF sL rT nd nl
    have es : L2.start N vs = vs.map some ++ List.replicate nl none := by
      unfold L2.start
      rw [← rT.length, hlen, hl]
    rw [es]
    refine ⟨⟨g.F, g.L, fp⟩, _, _, R, ?_⟩
    unfold xfun at h
    rw [if_pos hlen] at h
    cases e : body ((impL ds 0).1.map some ++ List.replicate nl none) (impL ds 0).2 with
    | bad => rw [e] at h; exact h.elim
    | exc c xs en st' =>
      rw [e] at h
      intro g' σ' H' d l R' hx
      simp only at h
      cases e2 : finX mu (impL ds 0).1 c xs st' with
      | bad => rw [e2] at h; exact h.elim
      | ok r ms =>
        unfold finX at e2
        split at e2
        · split at e2 <;> cases e2
        · cases e2
      | exc c' xs' ms =>
        obtain ⟨rfl, rfl, f2, h1, h2, h3, h4, h5, h6⟩ := finX_ok l R' rp hx e2
        rw [e2] at h
        exact h g'.F H' d f2 h1 h2 h3 h4 h5 h6
    | ok p st' =>
      obtain ⟨fl, en⟩ := p
      rw [e] at h
      intro g' σ' H' l R'
      have go : ∀ (d : D) (v : V), Rep G g' d v → (match fin mu (impL ds 0).1 d st' with
        | .ok r ms => ∀ F' H' v f1 f2, FL g F' → Same F' H' → Same g.L H' → RepT D.pl G ⟨F', g.L, []⟩ H' r v f1 → RepTL D.pl G ⟨F', g.L, []⟩ H' ms (mu.map fun i => vs.getD i .non) f2 → (f1 ++ f2).Nodup → Q v H'
        | .exc c xs ms => ∀ F' H' d f2, FL g F' → Same F' H' → Same g.L H' → ExcRep G ⟨F', g.L, []⟩ H' xs d → RepTL D.pl G ⟨F', g.L, []⟩ H' ms (mu.map fun i => vs.getD i .non) f2 → f2.Nodup → E (.ref (G.exc c)) d H'
        | .bad => False) → Q v H' := by
        intro d v rd h
        cases e2 : fin mu (impL ds 0).1 d st' with
        | bad => rw [e2] at h; exact h.elim
        | exc c xs ms =>
          unfold fin at e2
          split at e2
          · split at e2 <;> cases e2
          · cases e2
        | ok r ms =>
          rw [e2] at h
          obtain ⟨f1, f2, h1, h2, h3, h4, h5, h6⟩ := fin_ok l R' rp rd e2
          exact h g'.F H' v f1 f2 h1 h2 h3 h4 h5 h6
      cases fl with
      | nx => exact go .non .non rfl h
      | bk => exact h.elim
      | ct => exact h.elim
      | rt d => exact fun v rv => go d v rv h
end
section
variable {G : GS} {g : Gh} {en : En} {st : Sto} {σ : L2.St} {H : Hp}
def Dead (g : Gh) (st : Sto) (a : Addr) : Prop := ∀ (i : Nat) (c : Cell), st[i]? = some c → c ≠ .gone → g.as[i]? ≠ some a
theorem Rel.grow (R : Rel G g en st σ H) {cs : List Cell} {fp : List Addr} {gT : Gh} (hl : cs.length = fp.length) (nd : fp.Nodup) (hd : ∀ a ∈ fp, Dead g st a) (hF : gT.F = g.F) (hL : ∀ a, gT.L a = none → g.L a = none)
    (hc : CellsAt G gT { g with as := g.as ++ fp } H cs fp) : Le g { g with as := g.as ++ fp } ∧ Rel G { g with as := g.as ++ fp } en (st ++ cs) σ H := by
  have l : Le g { g with as := g.as ++ fp } := ⟨Same.refl _, rfl, fun i a h => by
    show (g.as ++ fp)[i]? = some a
    rw [List.getElem?_append_left (List.getElem?_eq_some_iff.mp h).1]; exact h, fun _ _ h => .inl h⟩
  have old : ∀ (i : Nat) (c : Cell), i < st.length → (st ++ cs)[i]? = some c → st[i]? = some c := fun i c hi e => by rw [List.getElem?_append_left hi] at e; exact e
  have new : ∀ (i : Nat) (c : Cell), ¬ i < st.length → (st ++ cs)[i]? = some c → cs[i - st.length]? = some c := fun i c hi e => by rw [List.getElem?_append_right (by omega)] at e; exact e
  have asn : ∀ (i : Nat), ¬ i < st.length → (g.as ++ fp)[i]? = fp[i - st.length]? := fun i hi => by rw [List.getElem?_append_right (by rw [R.len]; omega), R.len]
  have aso : ∀ (i : Nat), i < st.length → (g.as ++ fp)[i]? = g.as[i]? := fun i hi => by rw [List.getElem?_append_left (by rw [R.len]; exact hi)]
  refine ⟨l, ⟨R.sF, R.sL, R.el, fun i d e => ?_, fun i c e n => ?_, by simp [R.len, hl], fun i j c c' a e1 e2 n1 n2 a1 a2 => ?_, R.nd⟩⟩
  · obtain ⟨v, q1, q2⟩ := R.en i d e
    exact ⟨v, q1, q2.mono l⟩
  · by_cases hi : i < st.length
    · obtain ⟨a, o, q1, q2, q3, q4, q5⟩ := R.cell i c (old i c hi e) n
      exact ⟨a, o, l.as _ _ q1, q2, q3.mono l, q4, q5⟩
    · obtain ⟨_, a, o, q1, q2, q3, q4, q5⟩ := hc _ c (new i c hi e)
      exact ⟨a, o, by show (g.as ++ fp)[i]? = some a; rw [asn i hi]; exact q1, q2, q3, by rw [← hF]; exact q4, hL a q5⟩
  · have a1' : (g.as ++ fp)[i]? = some a := a1
    have a2' : (g.as ++ fp)[j]? = some a := a2
    by_cases hi : i < st.length <;> by_cases hj : j < st.length
    · rw [aso i hi] at a1'
      rw [aso j hj] at a2'
      exact R.inj i j c c' a (old i c hi e1) (old j c' hj e2) n1 n2 a1' a2'
    · rw [aso i hi] at a1'
      rw [asn j hj] at a2'
      exact absurd a1' (hd a (List.mem_of_getElem? a2') i c (old i c hi e1) n1)
    · rw [asn i hi] at a1'
      rw [aso j hj] at a2'
      exact absurd a2' (hd a (List.mem_of_getElem? a1') j c' (old j c' hj e2) n2)
    · rw [asn i hi] at a1'
      rw [asn j hj] at a2'
      obtain ⟨h5, e5⟩ := List.getElem?_eq_some_iff.mp a1'
      obtain ⟨h6, e6⟩ := List.getElem?_eq_some_iff.mp a2'
      have := (List.getElem_inj nd).mp (e5.trans e6.symm)
      omega
theorem Rel.revive (R : Rel G g en st σ H) {i : Nat} {a : Addr} {c : Cell} {o : HO} (hi : i < st.length) (ha : g.as[i]? = some a) (hd : ∀ j c, j ≠ i → st[j]? = some c → c ≠ .gone → g.as[j]? ≠ some a) (ho : H a = some o) (hc : CO G g c o) (hF : g.F a = none) (hL : g.L a = none) :
    Rel G g en (st.set i c) σ H := by
  refine ⟨R.sF, R.sL, R.el, R.en, fun j d e n => ?_, by simp [R.len], fun j k d d' b e1 e2 n1 n2 b1 b2 => ?_, R.nd⟩
  · by_cases q : i = j
    · subst q
      rw [List.getElem?_set_self hi] at e; cases e
      exact ⟨a, o, ha, ho, hc, hF, hL⟩
    · rw [List.getElem?_set_ne q] at e
      exact R.cell j d e n
  · by_cases qj : i = j <;> by_cases qk : i = k
    · omega
    · subst qj
      rw [List.getElem?_set_ne qk] at e2
      rw [ha] at b1; cases b1
      exact absurd b2 (hd k d' (Ne.symm qk) e2 n2)
    · subst qk
      rw [List.getElem?_set_ne qj] at e1
      rw [ha] at b2; cases b2
      exact absurd b1 (hd j d (Ne.symm qj) e1 n1)
    · rw [List.getElem?_set_ne qj] at e1
      rw [List.getElem?_set_ne qk] at e2
      exact R.inj j k d d' b e1 e2 n1 n2 b1 b2
theorem goneAt_len : ∀ (js : List Nat) (st : Sto), (goneAt js st).length = st.length
  | [], _ => rfl
  | j :: js, st => by simp [goneAt, goneAt_len js]
theorem goneAt_get : ∀ (js : List Nat) (st : Sto) (i : Nat) (c : Cell), (goneAt js st)[i]? = some c → c ≠ .gone → st[i]? = some c ∧ i ∉ js
  | [], _, _, _, h, _ => ⟨h, by simp⟩
  | j :: js, st, i, c, h, n => by
    obtain ⟨h1, h2⟩ := goneAt_get js (st.set j .gone) i c h n
    by_cases q : j = i
    · subst q
      by_cases hl : j < st.length
      · rw [List.getElem?_set_self hl] at h1
        exact absurd (Option.some.inj h1).symm n
      · rw [List.getElem?_eq_none (by simpa using hl)] at h1; cases h1
    · rw [List.getElem?_set_ne q] at h1
      exact ⟨h1, by simp only [List.mem_cons, not_or]; exact ⟨fun e => q e.symm, h2⟩⟩
end
end Px
namespace Px
open PySem PySem.Spec L2
inductive Md where | val | mov | mut
  deriving DecidableEq
def mutPos : Nat → List Md → List Nat
  | _, [] => []
  | n, .mut :: r => n :: mutPos (n + 1) r
  | n, _ :: r => mutPos (n + 1) r
def prepT (st : Sto) : List Md → List D → Option (List D × List Nat)
  | [], [] => some ([], [])
  | .val :: ms, d :: ds => (prepT st ms ds).map fun q => (d :: q.1, q.2)
  | _ :: ms, d :: ds => match take D.noc st 20 d, prepT st ms ds with
    | some p, some q => some (p.1 :: q.1, p.2 ++ q.2)
    | _, _ => none
  | _, _ => none
def prepS (st : Sto) : List Md → List D → Option (List D)
  | [], [] => some []
  | .val :: ms, d :: ds => match snap st 20 d, prepS st ms ds with
    | some p, some q => some (p :: q)
    | _, _ => none
  | _ :: ms, d :: ds => (prepS st ms ds).map (d :: ·)
  | _, _ => none
def rootsOf (ds : List D) : List Nat → Option (List Nat)
  | [] => some []
  | i :: r => match ds.getD i .non, rootsOf ds r with
    | .cell j, some q => some (j :: q)
    | _, _ => none
def impC : D → Nat → Option (Cell × List Cell)
  | .lst .own ds, n => if nocL ds then some (.lst ds, []) else some (.lst (impL ds n).1, (impL ds n).2)
  | .dk .own ks ds, n => if nocL ds then some (.dk ks ds, []) else some (.dk ks (impL ds n).1, (impL ds n).2)
  | .dt .own ks ds, n => if nocL ds then some (.dt ks ds, []) else some (.dt ks (impL ds n).1, (impL ds n).2)
  | .obj .own c ds, n => if nocL ds then some (.obj c ds, []) else some (.obj c (impL ds n).1, (impL ds n).2)
  | _, _ => none
def back : List Nat → List D → Sto → Option Sto
  | [], [], st => some st
  | i :: is, t :: ts, st => match impC t st.length with
    | some p => if i < st.length then back is ts ((st ++ p.2).set i p.1) else none
    | none => none
  | _, _, _ => none
def callF (mu : List Nat) (sem : List D → RF) (es : List D) (roots : List Nat) (en : En) (st : Sto) : R D := match sem es with
  | .ok r ts => match back roots ts (st ++ (imp r st.length).2) with
    | some st2 => .ok (imp r st.length).1 st2
    | none => .bad
  | .exc c xs ts => match back roots ts st with
    | some st2 => .exc c xs en st2
    | none => .bad
  | .bad => .bad
def callD (mu : List Nat) (sem : List D → RF) (ms : List Md) (ds : List D) (en : En) (st : Sto) : R D := match prepT st ms ds with
  | some t => if t.2.Nodup ∧ mutPos 0 ms = mu then
      match prepS (goneAt t.2 st) ms t.1, rootsOf ds mu with
      | some es, some roots => callF mu sem es roots en (goneAt t.2 st)
      | _, _ => .bad
    else .bad
  | none => .bad
section
variable {G : GS} {g : Gh} {en : En} {st : Sto} {σ : L2.St} {H : Hp}
def less (H : Hp) (fp : List Addr) : Hp := fun b => if b ∈ fp then none else H b
theorem less_in {H : Hp} {fp : List Addr} {a : Addr} (h : a ∈ fp) : less H fp a = none := if_pos h
theorem less_out {H : Hp} {fp : List Addr} {a : Addr} (h : a ∉ fp) : less H fp a = H a := if_neg h
theorem less_same {H : Hp} {fp : List Addr} : Same (less H fp) H := fun b o e => by
  by_cases h : b ∈ fp
  · rw [less_in h] at e; cases e
  · rw [less_out h] at e; exact e
theorem Rel.gone (R : Rel G g en st σ H) {js : List Nat} {fp : List Addr} (h : AtJs g st js fp) : Rel G g en (goneAt js st) σ (less H fp) := by
  have nF : ∀ a ∈ fp, g.F a = none ∧ g.L a = none := fun a ha => by
    obtain ⟨k, hk⟩ := List.mem_iff_getElem?.mp ha
    have hk' : k < js.length := by rw [h.1]; exact (List.getElem?_eq_some_iff.mp hk).1
    obtain ⟨b, c, x1, x2, x3, x4⟩ := h.2 k _ (List.getElem?_eq_getElem hk')
    rw [hk] at x1; cases x1
    obtain ⟨b', o, y1, y2, y3, y4, y5⟩ := R.cell _ c x3 x4
    rw [x2] at y1; cases y1
    exact ⟨y4, y5⟩
  refine ⟨fun b o e => ?_, fun b o e => ?_, R.el, R.en, fun i c e n => ?_, by rw [goneAt_len]; exact R.len, fun i j c c' a e1 e2 n1 n2 a1 a2 => ?_, R.nd⟩
  · rw [less_out fun hb => by rw [(nF b hb).1] at e; cases e]; exact R.sF _ _ e
  · rw [less_out fun hb => by rw [(nF b hb).2] at e; cases e]; exact R.sL _ _ e
  · obtain ⟨e', hi⟩ := goneAt_get js st i c e n
    obtain ⟨a, o, q1, q2, q3, q4, q5⟩ := R.cell i c e' n
    refine ⟨a, o, q1, ?_, q3, q4, q5⟩
    rw [less_out fun ha => ?_]; exact q2
    obtain ⟨k, hk⟩ := List.mem_iff_getElem?.mp ha
    have hk' : k < js.length := by rw [h.1]; exact (List.getElem?_eq_some_iff.mp hk).1
    obtain ⟨b, d, x1, x2, x3, x4⟩ := h.2 k _ (List.getElem?_eq_getElem hk')
    rw [hk] at x1; cases x1
    have := R.inj i _ c d a e' x3 n x4 q1 x2
    exact hi (by rw [this]; exact List.getElem_mem hk')
  · exact R.inj i j c c' a (goneAt_get js st i c e1 n1).1 (goneAt_get js st j c' e2 n2).1 n1 n2 a1 a2
theorem prepT_ok (R : Rel G g en st σ H) : ∀ (ms : List Md) (ds : List D) (vs : List V) (es : List D) (js : List Nat), prepT st ms ds = some (es, js) → RepL G g ds vs →
    ∃ fp, AtJs g st js fp ∧ ∀ (gt : Gh) (st' : Sto) (xs : List D), Into D.noc G g gt → (∀ a ∈ fp, gt.L a = none) → prepS st' ms es = some xs →
      (∀ d e v, snap st' 20 d = some e → Rep G g d v → Rep G gt e v ∧ e.noc = true) → RepTL D.noc G gt H xs vs fp
  | [], [], vs, es, js, h, r => by
    cases h
    exact ⟨[], .nil, fun gt st' xs _ _ hs _ => by cases hs; exact ⟨r, rfl⟩⟩
  | .val :: ms, d :: ds, vs, es, js, h, ⟨v, vr, e, r1, r2⟩ => by
    simp only [prepT] at h
    obtain ⟨q, hq, e1⟩ := Option.map_eq_some_iff.mp h
    cases e1
    obtain ⟨fp, q1, q2⟩ := prepT_ok R ms ds vr q.1 q.2 hq r2
    refine ⟨fp, q1, fun gt st' xs i hL hs hsn => ?_⟩
    simp only [prepS] at hs
    split at hs
    · rename_i p xr hp hxr
      cases hs
      obtain ⟨a1, a2⟩ := hsn d p v hp r1
      refine ⟨v, vr, [], fp, e, leafT (g := gt) ⟨rfl, fun _ h => h, fun ds h d hd => ?_, fun _ _ _ r => r⟩ p v a2 a1, q2 gt st' xr i hL hxr hsn, rfl⟩
      have : nocL ds = true := by simpa [D.noc] using h
      rw [← all_noc] at this
      exact List.all_eq_true.mp this d hd
    · cases hs
  | .mov :: ms, d :: ds, vs, es, js, h, ⟨v, vr, e, r1, r2⟩ => by
    simp only [prepT] at h
    split at h
    · rename_i p q hp hq
      cases h
      obtain ⟨f1, a1, b1⟩ := take_ok R 20 d v p.1 p.2 hp r1
      obtain ⟨f2, a2, b2⟩ := prepT_ok R ms ds vr q.1 q.2 hq r2
      refine ⟨f1 ++ f2, a1.append a2, fun gt st' xs i hL hs hsn => ?_⟩
      simp only [prepS] at hs
      obtain ⟨xr, hxr, rfl⟩ := Option.map_eq_some_iff.mp hs
      exact ⟨v, vr, f1, f2, e, b1 gt i fun a ha => hL a (List.mem_append_left _ ha), b2 gt st' xr i (fun a ha => hL a (List.mem_append_right _ ha)) hxr hsn, rfl⟩
    · cases h
  | .mut :: ms, d :: ds, vs, es, js, h, ⟨v, vr, e, r1, r2⟩ => by
    simp only [prepT] at h
    split at h
    · rename_i p q hp hq
      cases h
      obtain ⟨f1, a1, b1⟩ := take_ok R 20 d v p.1 p.2 hp r1
      obtain ⟨f2, a2, b2⟩ := prepT_ok R ms ds vr q.1 q.2 hq r2
      refine ⟨f1 ++ f2, a1.append a2, fun gt st' xs i hL hs hsn => ?_⟩
      simp only [prepS] at hs
      obtain ⟨xr, hxr, rfl⟩ := Option.map_eq_some_iff.mp hs
      exact ⟨v, vr, f1, f2, e, b1 gt i fun a ha => hL a (List.mem_append_left _ ha), b2 gt st' xr i (fun a ha => hL a (List.mem_append_right _ ha)) hxr hsn, rfl⟩
    · cases h
  | [], _ :: _, _, _, _, h, _ => by cases h
  | .val :: _, [], _, _, _, h, _ => by cases h
  | .mov :: _, [], _, _, _, h, _ => by cases h
  | .mut :: _, [], _, _, _, h, _ => by cases h
theorem impC_ok {ok : D → Bool} {gT : Gh} {d : D} {v : V} {fp as : List Addr} {p : Cell × List Cell} (h : impC d as.length = some p) (r : RepT ok G gT H d v fp) :
    ∃ a o fp', v = .ref a ∧ fp = fp' ++ [a] ∧ H a = some o ∧ gT.F a = none ∧ gT.L a = none ∧ ∀ gg, Tr ok G gT gg → Pre (as ++ fp') gg → CO G gg p.1 o ∧ p.1 ≠ .gone ∧ p.2.length = fp'.length ∧ CellsAt G gT gg H p.2 fp' := by
  have go : ∀ (c : Cell), c ≠ .gone → OwnAt G gT H c (RepTL ok G gT H c.items) v fp → (if nocL c.items then some (c, []) else some (c.with (impL c.items as.length).1, (impL c.items as.length).2)) = some p →
      ∃ a o fp', v = .ref a ∧ fp = fp' ++ [a] ∧ H a = some o ∧ gT.F a = none ∧ gT.L a = none ∧ ∀ gg, Tr ok G gT gg → Pre (as ++ fp') gg → CO G gg p.1 o ∧ p.1 ≠ .gone ∧ p.2.length = fp'.length ∧ CellsAt G gT gg H p.2 fp' := by
    rintro c hc ⟨a, vs, o, fp', e1, e2, e3, e4, e5, e6, e7⟩ hi
    refine ⟨a, o, fp', e1, e7, e2, e4, e5, fun gg t hp => ?_⟩
    split at hi
    · rename_i n
      obtain ⟨rfl, q⟩ := RepTL.ofNoc t _ vs fp' n e6
      cases hi
      exact ⟨CO_of e3 q, hc, rfl, .nil⟩
    · cases hi
      obtain ⟨h1, h2, h3⟩ := impL_ok t _ vs fp' as e6 hp
      refine ⟨CO_of (vs := vs) (by rw [shapeO_with]; exact e3) (by cases c <;> first | exact h2 | exact absurd rfl hc), by cases c <;> first | exact absurd rfl hc | (intro z; cases z), h1, h3⟩
  cases d with
  | lst m ds => cases m <;> first | exact go (.lst ds) (by intro z; cases z) r h | cases h
  | dk m ks ds => cases m <;> first | exact go (.dk ks ds) (by intro z; cases z) r h | cases h
  | dt m ks ds => cases m <;> first | exact go (.dt ks ds) (by intro z; cases z) r h | cases h
  | obj m c ds => cases m <;> first | exact go (.obj c ds) (by intro z; cases z) r h | cases h
  | _ => cases h
theorem back_ok {gF : Gh} : ∀ (roots : List Nat) (ts : List D) (st st2 : Sto) (g : Gh) (vs : List V) (fp : List Addr), back roots ts st = some st2 → Rel G g en st σ H → RepTL D.pl G gF H ts vs fp → fp.Nodup →
    gF.F = g.F → (∀ a, gF.L a = none → g.L a = none) → (∀ a ∈ fp, Dead g st a) → (∀ (k i : Nat), roots[k]? = some i → ∃ a, vs[k]? = some (.ref a) ∧ g.as[i]? = some a) → ∃ g2, Le g g2 ∧ g2.F = g.F ∧ Rel G g2 en st2 σ H
  | [], [], st, st2, g, vs, fp, h, R, _, _, _, _, _, _ => by cases h; exact ⟨g, Le.refl _, rfl, R⟩
  | i :: is, t :: ts, st, st2, g, vs, fp, h, R, rT, nd, eF, eL, dead, hr => by
    obtain ⟨v, vr, f1, f2, rfl, r1, r2, rfl⟩ := rT
    simp only [back] at h
    split at h
    · rename_i p hp
      split at h
      · rename_i hi
        rw [← R.len] at hp
        have nd' := List.nodup_append.mp nd
        obtain ⟨a, o, fp', e1, e2, e3, e6, e7, q⟩ := impC_ok hp r1
        subst e1
        subst e2
        obtain ⟨w, hw1, hw2⟩ := hr 0 i rfl
        cases hw1
        have ndf : (fp' ++ [a]).Nodup := nd'.1
        have ndc : fp'.Nodup := (List.nodup_append.mp ndf).1
        have anf : a ∉ fp' := fun h => (List.nodup_append.mp ndf).2.2 a h a (by simp) rfl
        have trc : Tr D.pl G gF { g with as := g.as ++ fp' } := ⟨by rw [eF]; exact Same.refl _, fun d v hd _ r => Rep.pl (by rw [eF]; exact Same.refl _) d v hd r⟩
        obtain ⟨c1, c2, c3, c4⟩ := q _ trc (fun _ _ z => z)
        obtain ⟨l1, R1⟩ := R.grow c3 ndc (fun b hb => dead b (List.mem_append_left _ (List.mem_append_left _ hb))) eF eL c4
        have ha1 : ({ g with as := g.as ++ fp' } : Gh).as[i]? = some a := l1.as _ _ hw2
        have dead1 : ∀ b, b ∉ fp' → Dead g st b → Dead { g with as := g.as ++ fp' } (st ++ p.2) b := fun b hb hd j c e n ej => by
          have ej' : (g.as ++ fp')[j]? = some b := ej
          by_cases hj : j < st.length
          · rw [List.getElem?_append_left hj] at e
            rw [List.getElem?_append_left (by rw [R.len]; exact hj)] at ej'
            exact hd j c e n ej'
          · rw [List.getElem?_append_right (by rw [R.len]; omega)] at ej'
            exact hb (List.mem_of_getElem? ej')
        have da : Dead { g with as := g.as ++ fp' } (st ++ p.2) a := dead1 a anf (dead a (List.mem_append_left _ (by simp)))
        have R2 := R1.revive (i := i) (a := a) (c := p.1) (by simp; omega) ha1 (fun j c hj e n => da j c e n) e3 c1 (by rw [← eF]; exact e6) (eL a e7)
        have hD : ∀ b ∈ f2, Dead { g with as := g.as ++ fp' } ((st ++ p.2).set i p.1) b := by
          intro b hb j c e n ej
          have nb : b ∉ fp' ++ [a] := fun h => nd'.2.2 b h b hb rfl
          have nb1 : b ∉ fp' := fun h => nb (List.mem_append_left _ h)
          have nb2 : b ≠ a := fun h => nb (by simp [h])
          by_cases hij : i = j
          · subst hij
            rw [ha1] at ej
            exact nb2 (Option.some.inj ej).symm
          · rw [List.getElem?_set_ne hij] at e
            exact dead1 b nb1 (dead b (List.mem_append_right _ hb)) j c e n ej
        have hR : ∀ (k j : Nat), is[k]? = some j → ∃ b, vr[k]? = some (.ref b) ∧ ({ g with as := g.as ++ fp' } : Gh).as[j]? = some b := by
          intro k j hk
          obtain ⟨b, h1, h2⟩ := hr (k + 1) j (by simpa using hk)
          exact ⟨b, by simpa using h1, l1.as _ _ h2⟩
        obtain ⟨g2, l2, eF2, R3⟩ := back_ok is ts _ st2 _ vr f2 h R2 r2 nd'.2.1 eF eL hD hR
        exact ⟨g2, l1.trans l2, eF2, R3⟩
      · cases h
    · cases h
  | [], _ :: _, _, _, _, _, _, h, _, _, _, _, _, _, _ => by cases h
  | _ :: _, [], _, _, _, _, _, h, _, _, _, _, _, _, _ => by cases h
theorem rootsOf_ok {g : Gh} {ds : List D} {vs : List V} (r : RepL G g ds vs) : ∀ (mu : List Nat) (roots : List Nat), rootsOf ds mu = some roots → ∀ (k i : Nat), roots[k]? = some i → ∃ a, (mu.map fun i => vs.getD i .non)[k]? = some (.ref a) ∧ g.as[i]? = some a
  | [], roots, h, k, i, hk => by cases h; simp at hk
  | m :: mu, roots, h, k, i, hk => by
    simp only [rootsOf] at h
    split at h
    · rename_i j q hj hq
      cases h
      cases k with
      | zero =>
        simp at hk
        subst hk
        rw [List.getD_eq_getElem?_getD] at hj
        cases e : ds[m]? with
        | none => rw [e] at hj; cases hj
        | some d =>
          rw [e] at hj
          simp at hj
          subst hj
          obtain ⟨v, hv, a, ha, rfl⟩ := r.get e
          refine ⟨a, ?_, ha⟩
          simp [List.getD_eq_getElem?_getD, hv]
      | succ k =>
        obtain ⟨a, h1, h2⟩ := rootsOf_ok r mu q hq k i (by simpa using hk)
        exact ⟨a, by simpa using h1, h2⟩
    · cases h
theorem Dead.grow (R : Rel G g en st σ H) {cs : List Cell} {fp : List Addr} {b : Addr} (hb : b ∉ fp) (hd : Dead g st b) : Dead { g with as := g.as ++ fp } (st ++ cs) b := fun j c e n ej => by
  have ej' : (g.as ++ fp)[j]? = some b := ej
  by_cases hj : j < st.length
  · rw [List.getElem?_append_left hj] at e
    rw [List.getElem?_append_left (by rw [R.len]; exact hj)] at ej'
    exact hd j c e n ej'
  · rw [List.getElem?_append_right (by rw [R.len]; omega)] at ej'
    exact hb (List.mem_of_getElem? ej')
theorem ownDead {ok : D → Bool} {gT : Gh} {c : Cell} {T : List V → List Addr → Prop} {v : V} {f : List Addr} (h : OwnAt G gT H c T v f) (hT : ∀ vs f', T vs f' → ∀ a ∈ f', gT.L a = none) : ∀ a ∈ f, gT.L a = none := by
  obtain ⟨a, vs, o, fp', e1, e2, e3, e4, e5, e6, e7⟩ := h
  intro b hb
  rw [e7] at hb
  rcases List.mem_append.mp hb with hb | hb
  · exact hT vs fp' e6 b hb
  · simp at hb; subst hb; exact e5
mutual
theorem RepT.deadL {ok : D → Bool} {gT : Gh} : ∀ (d : D) (v : V) (f : List Addr), RepT ok G gT H d v f → ∀ a ∈ f, gT.L a = none
  | .tup ds, v, f, ⟨a, vs, _, _, r⟩ => RepTL.deadL ds vs f r
  | .lst .own ds, v, f, h => ownDead (ok := ok) h fun vs f' r => RepTL.deadL ds vs f' r
  | .dk .own ks ds, v, f, h => ownDead (ok := ok) h fun vs f' r => RepTL.deadL ds vs f' r
  | .dt .own ks ds, v, f, h => ownDead (ok := ok) h fun vs f' r => RepTL.deadL ds vs f' r
  | .obj .own c ds, v, f, h => ownDead (ok := ok) h fun vs f' r => RepTL.deadL ds vs f' r
  | .non, v, f, h => by rw [h.2.2.2]; simp
  | .bl _, v, f, h => by rw [h.2.2.2]; simp
  | .int _, v, f, h => by rw [h.2.2.2]; simp
  | .str _, v, f, h => by rw [h.2.2.2]; simp
  | .cell _, v, f, h => by rw [h.2.2.2]; simp
  | .lst .frz _, v, f, h => by rw [h.2.2.2]; simp
  | .lst .loan _, v, f, h => by rw [h.2.2.2]; simp
  | .lst .ro _, v, f, h => by rw [h.2.2.2]; simp
  | .dk .frz _ _, v, f, h => by rw [h.2.2.2]; simp
  | .dk .loan _ _, v, f, h => by rw [h.2.2.2]; simp
  | .dk .ro _ _, v, f, h => by rw [h.2.2.2]; simp
  | .dt .frz _ _, v, f, h => by rw [h.2.2.2]; simp
  | .dt .loan _ _, v, f, h => by rw [h.2.2.2]; simp
  | .dt .ro _ _, v, f, h => by rw [h.2.2.2]; simp
  | .obj .frz _ _, v, f, h => by rw [h.2.2.2]; simp
  | .obj .loan _ _, v, f, h => by rw [h.2.2.2]; simp
  | .obj .ro _ _, v, f, h => by rw [h.2.2.2]; simp
theorem RepTL.deadL {ok : D → Bool} {gT : Gh} : ∀ (ds : List D) (vs : List V) (f : List Addr), RepTL ok G gT H ds vs f → ∀ a ∈ f, gT.L a = none
  | [], vs, f, ⟨_, e⟩ => by rw [e]; simp
  | d :: ds, vs, f, ⟨v, r, f1, f2, _, h1, h2, e⟩ => by
    rw [e]
    intro a ha
    rcases List.mem_append.mp ha with ha | ha
    · exact RepT.deadL d v f1 h1 a ha
    · exact RepTL.deadL ds r f2 h2 a ha
end
theorem call_sp {W : WX} {np : Nat} {mu : List Nat} {sem : List D → RF} {ms : List Md} {ds : List D} {vs : List V} {Q : VK} (R : Rel G g en st σ H) (r : RepL G g ds vs) (hlen : vs.length = np)
    (h : pX G W g en σ (callD mu sem ms ds en st) fun d g' _ H' => ∀ v, Rep G g' d v → Q v H') : spF G np mu sem vs H Q (fun cls d H' => W cls d σ H') := by
  unfold callD at h
  split at h
  · rename_i t ht
    split at h
    · rename_i hm
      split at h
      · rename_i es roots hes hroots
        obtain ⟨fp, aj, q⟩ := prepT_ok R ms ds vs t.1 t.2 ht r
        have R1 := R.gone aj
        have nd := aj.nodup R hm.1
        have nL : ∀ a ∈ fp, g.L a = none := fun a ha => by
          cases e : g.L a with
          | none => rfl
          | some o => have := R1.sL a o e; rw [less_in ha] at this; cases this
        have q2 := q ⟨g.F, less H fp, []⟩ _ es ⟨rfl, fun _ h => h, fun ds h d hd => by
            have : nocL ds = true := by simpa [D.noc] using h
            rw [← all_noc] at this
            exact List.all_eq_true.mp this d hd, fun d v hd rr => Rep.noc (g := g) (g' := ⟨g.F, less H fp, []⟩) (Same.refl _) R1.sL d v hd rr⟩ (fun a ha => less_in ha) hes (fun d e v hs rr => snap_ok R1 20 d e v hs rr)
        have sF1 : Same g.F (less H fp) := R1.sF
        refine ⟨⟨g.F, less H fp, []⟩, es, fp, rfl, R.nd, by rw [q2.length]; exact hlen, R.sF, less_same, q2, nd, ?_⟩
        unfold callF at h
        -- the caller's ghost behind the call
        have base : ∀ F' H', FL ⟨g.F, less H fp, []⟩ F' → Same F' H' → Same (less H fp) H' → Le g ⟨F', g.L, g.as⟩ ∧ Rel G ⟨F', g.L, g.as⟩ en (goneAt t.2 st) σ H' := fun F' H' fl s1 s2 => by
          have nf : ∀ a o, F' a = some o → g.F a = some o ∨ g.L a = none := fun a o e => by
            rcases fl.nf a o e with z | z
            · exact .inl z
            · refine .inr ?_
              cases e2 : g.L a with
              | none => rfl
              | some u =>
                have z' : less H fp a = none := z
                rw [R1.sL a u e2] at z'; cases z'
          have l : Le g ⟨F', g.L, g.as⟩ := ⟨fl.F, rfl, fun _ _ h => h, nf⟩
          refine ⟨l, ⟨s1, fun b o e => s2 _ _ (R1.sL _ _ e), R1.el, fun i d e => ?_, fun i c e n => ?_, R1.len, R1.inj, fl.nd⟩⟩
          · obtain ⟨v, x1, x2⟩ := R1.en i d e
            exact ⟨v, x1, x2.mono l⟩
          · obtain ⟨a, o, x1, x2, x3, x4, x5⟩ := R1.cell i c e n
            refine ⟨a, o, x1, s2 _ _ x2, x3.mono l, ?_, x5⟩
            show F' a = none
            cases e2 : F' a with
            | none => rfl
            | some u =>
              rcases fl.nf a u e2 with z | z
              · rw [x4] at z; cases z
              · have z' : less H fp a = none := z
                rw [x2] at z'; cases z'
        have deadN : ∀ (F' : Hp) (a : Addr), less H fp a = none → Dead ⟨F', g.L, g.as⟩ (goneAt t.2 st) a := fun F' a ha i c e n ej => by
          obtain ⟨b, o, x1, x2, _⟩ := R1.cell i c e n
          have ej' : g.as[i]? = some a := ej
          rw [x1] at ej'; cases ej'
          rw [x2] at ha; cases ha
        have toL : ∀ a, less H fp a = none → g.L a = none := fun a ha => by
          cases e2 : g.L a with
          | none => rfl
          | some u => rw [R1.sL a u e2] at ha; cases ha
        cases e : sem es with
        | bad => rw [e] at h; exact h.elim
        | exc c xs ts =>
          rw [e] at h
          simp only at h
          intro F' H' d f2 fl s1 s2 hx rT nd2
          obtain ⟨l, R'⟩ := base F' H' fl s1 s2
          split at h
          · rename_i st2 hb
            obtain ⟨g2, l2, eF2, R2⟩ := back_ok (gF := ⟨F', less H fp, []⟩) roots ts _ st2 _ _ f2 hb R' rT nd2 rfl toL (fun a ha => deadN F' a (RepTL.deadL _ _ _ rT a ha)) (rootsOf_ok r mu roots hroots)
            exact h g2 σ H' d (l.trans l2) R2 (by exact hx)
          · exact h.elim
        | ok r' ts =>
          rw [e] at h
          simp only at h
          intro F' H' v f1 f2 fl s1 s2 rT rTs nd2
          obtain ⟨l, R'⟩ := base F' H' fl s1 s2
          have nd3 := List.nodup_append.mp nd2
          have tr : Tr D.pl G ⟨F', less H fp, []⟩ ⟨F', g.L, g.as ++ f1⟩ := ⟨Same.refl _, fun d v hd _ r => Rep.pl (g := ⟨F', less H fp, []⟩) (g' := ⟨F', g.L, g.as ++ f1⟩) (Same.refl _) d v hd r⟩
          obtain ⟨i1, i2, i3⟩ := imp_ok tr r' v f1 g.as rT (fun _ _ z => z)
          have el : g.as.length = (goneAt t.2 st).length := R1.len
          rw [el] at i1 i2 i3
          obtain ⟨l1, Rg⟩ := R'.grow (gT := ⟨F', less H fp, []⟩) i1 nd3.1 (fun a ha => deadN F' a (RepT.deadL _ _ _ rT a ha)) rfl toL i3
          split at h
          · rename_i st2 hb
            obtain ⟨g2, l2, eF2, R2⟩ := back_ok (gF := ⟨F', less H fp, []⟩) roots ts _ st2 _ _ f2 hb Rg rTs nd3.2.1 rfl toL
              (fun a ha => Dead.grow R' (fun h => nd3.2.2 a h a ha rfl) (deadN F' a (RepTL.deadL _ _ _ rTs a ha)))
              (fun k i hk => by
                obtain ⟨a, x1, x2⟩ := rootsOf_ok r mu roots hroots k i hk
                exact ⟨a, x1, l1.as _ _ x2⟩)
            exact h g2 H' (l.trans (l1.trans l2)) R2 v (i2.mono l2)
          · exact h.elim
      · exact h.elim
    · exact h.elim
  · exact h.elim
end
end Px
namespace Px
open PySem PySem.Spec L2
section
variable {G : GS} {W : WX} {X : Cx}
def xcall (np : Nat) (mu : List Nat) (sem : List D → RF) (ms : List Md) (c : XA) : XE := fun en st => (c en st).bind fun ds st => if ds.length = np then callD mu sem ms ds en st else .bad
theorem se_call {k np : Nat} {f : Addr} {fd : FuncData} {ps : List Str} {mu : List Nat} {sem : List D → RF} {x : Str} {p pos : Pos} {e : Expr} {es : List Expr} {c : XA} (ms : List Md) (F : FnOk X.prog X.w X.K X.mg X.base (L2.CX X.prog X.w) k f fd ps (spF G np mu sem))
    (hr : Room k X.A) (hm : X.mg x = some (.ref f)) (hk : PySem.W.keepIn X.K (.ref f) = true) (hb : Binds X.K fd ps []) (tk : Takes X W) (ha : SA G W X (e :: es) c) (hg : Gl X x := by rfl) (hdb : (x == ("__debug__" : Str)) = false := by decide)
    (he : starEach (e :: es) X.env = (false, eval e X.env) :: starEach es X.env := by rfl) (hpl : (backTo pos (starEach es X.env)).any (·.1) = false := by rfl) : SE G W X (.Call (.Name x p) (e :: es) [] pos) (xcall np mu sem ms c) :=
  ⟨PE_imp (pe_callS F hr hg hm hk hb (fun σ => passAt tk σ) ha.pa hdb he hpl) fun σ H Q ⟨g, en, st, R, h⟩ => by
    refine ⟨g, en, st, R, (pX.bind h).imp fun ds st1 g1 H1 l1 R1 h1 vs rvs => ?_⟩
    split at h1
    · rename_i hl
      exact call_sp R1 rvs (by rw [← rvs.length]; exact hl) h1
    · exact h1.elim⟩
abbrev XF := List D → Sto → R D
def rA (G : GS) (W : WX) (f : XF) : List V → Hp → VK → Prop := fun vs H Q => ∃ g en st σ ds, Rel G g en st σ H ∧ RepL G g ds vs ∧ pX G W g en σ (f ds st) fun d g' _ H' => ∀ v, Rep G g' d v → Q v H'
def xbi (f : XF) (c : XA) : XE := fun en st => (c en st).bind fun ds st => f ds st
theorem tCB_of {f : XF} {c : XA} {σ : L2.St} {H : Hp} {Q : VK} (h : tE G W (xbi f c) σ H Q) : tCB (rA G W f) (tA G W c) σ H Q := by
  obtain ⟨g, en, st, R, h⟩ := h
  exact ⟨g, en, st, R, (pX.bind h).imp fun ds st1 g1 H1 l1 R1 h1 vs rvs => ⟨g1, en, st1, σ, ds, R1, rvs, h1⟩⟩
theorem se_bi {f : XF} {x : Str} {p pos : Pos} {e : Expr} {es : List Expr} {c : XA} {id : String} (hc : CallR X (.builtin id) (rA G W f)) (hm : X.mg x = none) (ha : SA G W X (e :: es) c) (hv : bootBuiltins x = some (.builtin id) := by decide +kernel) (hg : Gl X x := by rfl)
    (hn : x ≠ "__name__" := by decide) (hdb : (x == ("__debug__" : Str)) = false := by decide) (he : starEach (e :: es) X.env = (false, eval e X.env) :: starEach es X.env := by rfl) (hpl : (backTo pos (starEach es X.env)).any (·.1) = false := by rfl) : SE G W X (.Call (.Name x p) (e :: es) [] pos) (xbi f c) :=
  ⟨PE_imp (pe_callB hc hg hm hv ha.pa hn hdb he hpl) fun _ _ _ h => tCB_of h⟩
theorem se_ty {f : XF} {x : Str} {p pos : Pos} {e : Expr} {es : List Expr} {c : XA} {T : String} (hc : CallR X (.type T) (rA G W f)) (hm : X.mg x = none) (ha : SA G W X (e :: es) c) (hv : bootBuiltins x = some (.type T) := by decide +kernel) (hg : Gl X x := by rfl)
    (hn : x ≠ "__name__" := by decide) (hdb : (x == ("__debug__" : Str)) = false := by decide) (he : starEach (e :: es) X.env = (false, eval e X.env) :: starEach es X.env := by rfl) (hpl : (backTo pos (starEach es X.env)).any (·.1) = false := by rfl) : SE G W X (.Call (.Name x p) (e :: es) [] pos) (xbi f c) :=
  ⟨PE_imp (pe_callTy hc hg hm hv ha.pa hn hdb he hpl) fun _ _ _ h => tCB_of h⟩
def bLen : XF := fun ds st => match ds with
  | [.str z] => if fitL z.length then .ok (.int z.length) st else .bad
  | [d] => match itemsOf st d with
    | some es => .ok (.int es.length) st
    | none => .bad
  | _ => .bad
theorem hc_len (hK : X.K = G.K) : CallR X (.builtin "len") (rA G W bLen) := CallR_imp call_len fun vs H Q ⟨g, en, st, σ, ds, R, r, h⟩ => by
  unfold bLen at h
  split at h
  · rename_i z
    split at h
    · rename_i c
      obtain ⟨v, rr, rfl, rfl, rfl⟩ := r
      exact ⟨.str z, z.length, rfl, ⟨fitL_ok c, rfl⟩, h g H (Le.refl _) R _ rfl⟩
    · exact h.elim
  · rename_i d _
    split at h
    · rename_i es hes
      obtain ⟨v, rr, rfl, rv, rfl⟩ := r
      obtain ⟨a, us, rfl, e2, e3⟩ := itemsOf_H R rv hes
      refine ⟨.ref a, es.length, rfl, ?_, h g H (Le.refl _) R _ rfl⟩
      rcases e2 with e2 | e2
      · exact .inl ⟨us, by rw [hK]; exact e2, e3.length⟩
      · exact .inr ⟨us, by rw [hK]; exact e2, e3.length⟩
    · exact h.elim
  · exact h.elim
def bAbs : XF := fun ds st => match ds with
  | [.int i] => .ok (.int (if i < 0 then -i else i)) st
  | _ => .bad
theorem hc_abs : CallR X (.builtin "abs") (rA G W bAbs) := CallR_imp call_abs fun vs H Q ⟨g, en, st, σ, ds, R, r, h⟩ => by
  unfold bAbs at h
  split at h
  · rename_i i
    obtain ⟨v, rr, rfl, rfl, rfl⟩ := r
    exact ⟨i, rfl, h g H (Le.refl _) R _ rfl⟩
  · exact h.elim
def bMax : XF := fun ds st => match ds with
  | [.int i, .int j] => .ok (.int (if j > i then j else i)) st
  | _ => .bad
def bMin : XF := fun ds st => match ds with
  | [.int i, .int j] => .ok (.int (if j < i then j else i)) st
  | _ => .bad
theorem hc_max (hc : X.calm = true) : CallR X (.builtin "max") (rA G W bMax) := CallR_imp (call_max2 hc) fun vs H Q ⟨g, en, st, σ, ds, R, r, h⟩ => by
  unfold bMax at h
  split at h
  · rename_i i j
    obtain ⟨v, rr, rfl, rfl, v2, r2, rfl, rfl, rfl⟩ := r
    exact ⟨i, j, rfl, h g H (Le.refl _) R _ rfl⟩
  · exact h.elim
theorem hc_min (hc : X.calm = true) : CallR X (.builtin "min") (rA G W bMin) := CallR_imp (call_min2 hc) fun vs H Q ⟨g, en, st, σ, ds, R, r, h⟩ => by
  unfold bMin at h
  split at h
  · rename_i i j
    obtain ⟨v, rr, rfl, rfl, v2, r2, rfl, rfl, rfl⟩ := r
    exact ⟨i, j, rfl, h g H (Le.refl _) R _ rfl⟩
  · exact h.elim
def bInt : XF := fun ds st => match ds with
  | [.int i] => .ok (.int i) st
  | [.bl k] => .ok (.int (if k then 1 else 0)) st
  | _ => .bad
theorem hc_int : CallR X (.type "int") (rA G W bInt) := CallR_imp call_int1 fun vs H Q ⟨g, en, st, σ, ds, R, r, h⟩ => by
  unfold bInt at h
  split at h
  · rename_i i
    obtain ⟨v, rr, rfl, rfl, rfl⟩ := r
    exact .inl ⟨i, rfl, h g H (Le.refl _) R _ rfl⟩
  · rename_i k
    obtain ⟨v, rr, rfl, rfl, rfl⟩ := r
    exact .inr ⟨k, rfl, h g H (Le.refl _) R _ rfl⟩
  · exact h.elim
def bStr : XF := fun ds st => match ds with
  | [.int i] => if decide (i.natAbs.log2 < 1920) then .ok (.str (toString i)) st else .bad
  | _ => .bad
theorem hc_str : CallR X (.type "str") (rA G W bStr) := CallR_imp call_str_int fun vs H Q ⟨g, en, st, σ, ds, R, r, h⟩ => by
  unfold bStr at h
  split at h
  · rename_i i
    split at h
    · rename_i c
      obtain ⟨v, rr, rfl, rfl, rfl⟩ := r
      exact ⟨i, rfl, of_decide_eq_true c, h g H (Le.refl _) R _ rfl⟩
    · exact h.elim
  · exact h.elim
def bList : XF := fun ds st => match ds with
  | [d] => match itemsOf st d with
    | some es => .ok (.cell st.length) (st ++ [.lst es])
    | none => .bad
  | _ => .bad
theorem hc_list (hK : X.K = G.K) : CallR X (.type "list") (rA G W bList) := CallR_imp call_list_of fun vs H Q ⟨g, en, st, σ, ds, R, r, h⟩ => by
  unfold bList at h
  split at h
  · split at h
    · rename_i es hes
      obtain ⟨v, rr, rfl, rv, rfl⟩ := r
      obtain ⟨a, us, rfl, e2, e3⟩ := itemsOf_H R rv hes
      refine ⟨a, us, rfl, by rw [hK]; exact e2, fun p hp => ?_⟩
      obtain ⟨l, R', r'⟩ := R.new (c := .lst es) hp ⟨us, rfl, e3⟩
      exact h _ _ l R' _ r'
    · exact h.elim
  · exact h.elim
def bTuple : XF := fun ds st => match ds with
  | [.tup es] => .ok (.tup es) st
  | [d] => match seqOf st d with
    | some es => .ok (.tup es) st
    | none => .bad
  | _ => .bad
theorem hc_tuple (hK : X.K = G.K) : CallR X (.type "tuple") (rA G W bTuple) := CallR_imp call_tuple_of fun vs H Q ⟨g, en, st, σ, ds, R, r, h⟩ => by
  unfold bTuple at h
  split at h
  · rename_i es
    obtain ⟨v, rr, rfl, rv, rfl⟩ := r
    obtain ⟨a, us, rfl, e2, e3⟩ := tup_H R rv
    exact ⟨a, us, rfl, .inr ⟨by rw [hK]; exact e2, h g H (Le.refl _) R _ rv⟩⟩
  · split at h
    · rename_i es hes
      obtain ⟨v, rr, rfl, rv, rfl⟩ := r
      obtain ⟨a, us, rfl, e2, e3⟩ := seqOf_H R rv hes
      refine ⟨a, us, rfl, .inl ⟨by rw [hK]; exact e2, fun p hp => ?_⟩⟩
      obtain ⟨l, R', r'⟩ := R.tup hp e3
      exact h _ _ l R' _ r'
    · exact h.elim
  · exact h.elim
def tyN (st : Sto) : D → Option String
  | .non => some "NoneType" | .bl _ => some "bool" | .int _ => some "int" | .str _ => some "str"
  | .tup _ => some "tuple"
  | .lst .frz _ => some "list" | .lst .loan _ => some "list"
  | .cell i => match st[i]? with
    | some (.lst _) => some "list"
    | some (.dk _ _) => some "dict"
    | some (.dt _ _) => some "dict"
    | _ => none
  | _ => none
theorem tyN_ok (hK : X.K = G.K) {g : Gh} {en : En} {st : Sto} {σ : L2.St} {H : Hp} {d : D} {v : V} {t : String} (R : Rel G g en st σ H) (r : Rep G g d v) (h : tyN st d = some t) : TyX X.K H v (.type t) := by
  cases d with
  | non => cases h; cases r; exact .base .non
  | bl b => cases h; cases r; exact .base (.bl b)
  | int i => cases h; cases r; exact .base (.int i)
  | str x => cases h; cases r; exact .base (.str x)
  | tup ds =>
    cases h
    obtain ⟨a, vs, rfl, e2, e3⟩ := tup_H R r
    rcases e2 with (e2 | ⟨o, e2⟩) | ⟨o, its, n, e2, e4, _⟩
    · exact .base (.tup e2)
    · exact .fTuple e2
    · exact .kTuple (by rw [hK]; exact e2) e4
  | lst m ds =>
    cases m with
    | frz => cases h; obtain ⟨a, vs, rfl, e2, _⟩ := r; exact .base (.lst (R.sF _ _ e2))
    | loan => cases h; obtain ⟨a, vs, rfl, e2, _⟩ := r; exact .base (.lst (R.sL _ _ e2))
    | _ => cases h
  | cell i =>
    simp only [tyN] at h
    cases e : st[i]? with
    | none => rw [e] at h; cases h
    | some c =>
      rw [e] at h
      cases c with
      | lst ds => cases h; obtain ⟨a, o, rfl, _, e2, vs, e3, _⟩ := R.isCell e (by intro z; cases z) r; subst e3; exact .base (.lst e2)
      | dk ks ds => cases h; obtain ⟨a, o, rfl, _, e2, vs, e3, _⟩ := R.isCell e (by intro z; cases z) r; subst e3; exact .base (.dK e2)
      | dt ks ds => cases h; obtain ⟨a, o, rfl, _, e2, vs, e3, _⟩ := R.isCell e (by intro z; cases z) r; subst e3; exact .base (.dT e2)
      | _ => cases h
  | _ => cases h
def isaT : List ((String × String) × Bool) := [(("NoneType", "int"), false), (("bool", "int"), true), (("int", "int"), true), (("str", "int"), false), (("tuple", "int"), false), (("list", "int"), false), (("dict", "int"), false), (("NoneType", "bool"), false), (("bool", "bool"), true), (("int", "bool"), false), (("str", "bool"), false), (("tuple", "bool"), false), (("list", "bool"), false), (("dict", "bool"), false), (("NoneType", "tuple"), false), (("bool", "tuple"), false), (("int", "tuple"), false), (("str", "tuple"), false), (("tuple", "tuple"), true), (("list", "tuple"), false), (("dict", "tuple"), false), (("NoneType", "list"), false), (("bool", "list"), false), (("int", "list"), false), (("str", "list"), false), (("tuple", "list"), false), (("list", "list"), true), (("dict", "list"), false), (("NoneType", "str"), false), (("bool", "str"), false), (("int", "str"), false), (("str", "str"), true), (("tuple", "str"), false), (("list", "str"), false), (("dict", "str"), false), (("NoneType", "dict"), false), (("bool", "dict"), false), (("int", "dict"), false), (("str", "dict"), false), (("tuple", "dict"), false), (("list", "dict"), false), (("dict", "dict"), true)]
theorem isaT_ok : isaT.all (fun p => kitB p.1.1 p.1.2 == some p.2) = true := by decide +kernel
def isaN (t c : String) : Option Bool := isaT.lookup (t, c)
theorem isaN_ok {t c : String} {b : Bool} (h : isaN t c = some b) : kitB t c = some b := by
  have key : ∀ (l : List ((String × String) × Bool)), l.lookup (t, c) = some b → ((t, c), b) ∈ l := by
    intro l
    induction l with
    | nil => intro h; cases h
    | cons p l ih =>
      intro h
      rw [List.lookup_cons] at h
      split at h
      · rename_i e
        cases h
        have : (t, c) = p.1 := by simpa using e
        exact List.mem_cons.mpr (.inl (by rw [this]))
      · exact List.mem_cons_of_mem _ (ih h)
  have q := List.all_eq_true.mp isaT_ok _ (key isaT h)
  simpa using q
def bIsa (T : String) : Op1 := fun x st => match (tyN st x).bind fun t => isaN t T with
  | some b => .ok (.bl b) st
  | none => .bad
theorem se_isa {T : String} {x y : Str} {p p2 pos : Pos} {e : Expr} {c : XE} (hK : X.K = G.K) (hm : X.mg x = none) (hm2 : X.mg y = none) (ha : SE G W X e c) (hx : x = "isinstance" := by rfl) (hv2 : bootBuiltins y = some (.type T) := by decide +kernel) (hg : Gl X x := by rfl) (hg2 : Gl X y := by rfl)
    (hn2 : y ≠ "__name__" := by decide) (hdb2 : (y == ("__debug__" : Str)) = false := by decide) (he : starEach (e :: [.Name y p2]) X.env = (false, eval e X.env) :: starEach [.Name y p2] X.env := by rfl)
    (he2 : starEach (.Name y p2 :: []) X.env = (false, eval (.Name y p2) X.env) :: starEach [] X.env := by rfl) (hpl : (backTo pos (starEach [.Name y p2] X.env)).any (·.1) = false := by rfl) : SE G W X (.Call (.Name x p) (e :: [.Name y p2]) [] pos) (x1 (bIsa T) c) := by
  subst hx
  refine ⟨PE_imp (pe_callB call_isi hg hm (by decide +kernel) (pa_cons ha.pe (pa_cons (pe_bltn (v := .ty T) hg2 hm2 hv2 rfl hn2 hdb2) pa_nil he2) he) (by decide) (by decide) he hpl) fun σ H Q ⟨g, en, st, R, h⟩ => ?_⟩
  refine ⟨g, en, st, R, (pX.bind h).imp fun d st1 g1 H1 l1 R1 h1 v rv => ?_⟩
  unfold bIsa at h1
  split at h1
  · rename_i b hb
    obtain ⟨t, ht, hb⟩ := Option.bind_eq_some_iff.mp hb
    exact ⟨v, .ty T, .type t, .type T, b, rfl, .ty T, tyN_ok hK R1 rv ht, kit_ty (isaN_ok hb), h1 g1 H1 (Le.refl _) R1 _ rfl⟩
  · exact h1.elim
theorem tyV_list (hK : X.K = G.K) {g : Gh} {en : En} {st : Sto} {σ : L2.St} {H : Hp} {d : D} {v : V} {ds : List D} (R : Rel G g en st σ H) (r : Rep G g d v) (h : seqOf st d = some ds) : tyV X.K "list" v H := by
  obtain ⟨a, vs, rfl, e2, _⟩ := seqOf_H R r h
  exact .inl ⟨rfl, vs, by rw [hK]; exact e2⟩
def oApp : Op2 := fun x y st => match x with
  | .cell i => match st[i]? with
    | some (.lst ds) => if decide (ds.length < 16777216) then .ok .non (st.set i (.lst (ds ++ [y]))) else .bad
    | _ => .bad
  | _ => .bad
def xapp (a b : XE) : XE := fun en st => (a en st).bind fun x st => if (seqOf st x).isSome then (b en st).bind fun y st => oApp x y st else .bad
theorem se_app {o e : Expr} {a b : XE} {apos cpos : Pos} (hK : X.K = G.K) (ho : SE G W X o a) (he : SE G W X e b) (hbase : attributeBase o "append" X.env (eval o X.env) = eval o X.env := by rfl)
    (hfew : ((backTo cpos (starEach (e :: []) X.env)).all (fun x => !x.1) && (backToKw cpos (keywordEach [] X.env)).all (fun x => x.1.isSome)
      && decide ((e :: []).length + ([] : List Keyword).length + (if ([] : List Keyword).isEmpty then 0 else 1) < 30)) = true := by rfl)
    (hline : (apos.endLine == cpos.line) = true := by rfl) (hs : starEach (e :: []) X.env = (false, eval e X.env) :: starEach [] X.env := by rfl) : SE G W X (.Call (.Attribute o "append" apos) (e :: []) [] cpos) (xapp a b) :=
  ⟨PE_imp (pe_bm PySem.F.plainAttrs_list PySem.F.slot_list_append PySem.F.type_list_append mt_append ho.pe (pa_cons he.pe pa_nil hs) hbase hfew hline hs rfl) fun σ H Q ⟨g, en, st, R, h⟩ => by
    refine ⟨g, en, st, R, (pX.bind h).imp fun x st1 g1 H1 l1 R1 h1 v rv => ?_⟩
    split at h1
    · rename_i hsome
      obtain ⟨ds, hds⟩ := Option.isSome_iff_exists.mp hsome
      refine ⟨tyV_list hK R1 rv hds, g1, en, st1, R1, (pX.bind h1).imp fun y st2 g2 H2 l2 R2 h2 u ru => ?_⟩
      unfold oApp at h2
      split at h2
      · rename_i i
        split at h2
        · rename_i es hes
          split at h2
          · rename_i c
            obtain ⟨p, ob, rfl, e2, e3, vs, e4, e5⟩ := R2.isCell hes (by intro z; cases z) (rv.mono l2)
            subst e4
            refine ⟨p, vs, u, rfl, rfl, e3, by rw [← e5.length, sizeLine_eq]; exact of_decide_eq_true c, ?_⟩
            exact h2 g2 _ (Le.refl _) (R2.put hes (by intro z; cases z) e2 ⟨_, rfl, e5.append (.one ru)⟩) _ rfl
          · exact h2.elim
        · exact h2.elim
      · exact h2.elim
    · exact h1.elim⟩
abbrev W0 : WX := fun _ _ _ _ => False
def wipeE (en : En) : List Nat → En
  | [] => en
  | v :: vs => (wipeE en vs).set v none
theorem wipeE_length (en : En) : ∀ vs : List Nat, (wipeE en vs).length = en.length
  | [] => rfl
  | v :: vs => by unfold wipeE; rw [List.length_set, wipeE_length en vs]
theorem Rel.wipe {g : Gh} {en : En} {st : Sto} {σ : L2.St} {H : Hp} (R : Rel G g en st σ H) : ∀ vs : List Nat, Rel G g (wipeE en vs) st (L2.wipe σ vs) H
  | [] => R
  | v :: vs => by
    have r := Rel.wipe R vs
    refine ⟨r.sF, r.sL, by simp [wipeE, L2.wipe, r.el], fun i d e => ?_, r.cell, r.len, r.inj, r.nd⟩
    unfold wipeE at e
    unfold L2.wipe
    by_cases hi : v = i
    · subst hi
      by_cases hl : v < (wipeE en vs).length
      · rw [List.getElem?_set_self hl] at e; cases e
      · rw [List.getElem?_eq_none (by simpa using hl)] at e; cases e
    · rw [List.getElem?_set_ne hi] at e
      rw [List.getElem?_set_ne hi]
      exact r.en i d e
def cloop (own : List Nat) (k : Nat) (src : List (Nat × List D)) (t : XG) (c : XT) (e : XE) (en : En) : List D → Sto → R Unit
  | [], st => if okSrc src st then .ok () st else .bad
  | d :: ds, st => if okSrc src st then (t d (wipeE en own) st).bind fun en1 st => (c en1 st).bind fun b st => if b then (e en1 st).bind fun y st => match st[k]? with
        | some (.lst acc) => if decide (acc.length < 16777216) then cloop own k src t c e en ds (st.set k (.lst (acc ++ [y]))) else .bad
        | _ => .bad
      else cloop own k src t c e en ds st
    else .bad
def R.quiet {α : Type} (r : R α) (en : En) : R α := match r with
  | .ok a st => .ok a st
  | _ => .bad
def xlc (own : List Nat) (i : XI) (t : XG) (c : XT) (e : XE) : XE := fun en st => (i en st).bind fun it st => R.quiet ((cloop own st.length it.src t c e en it.its (st ++ [.lst []])).bind fun _ st' => .ok (.cell st.length) st') en
def xyes : XT := fun _ st => .ok true st
structure STs (G : GS) (W : WX) (X : Cx) (ifs : List Expr) (c : XT) : Prop where
  pts : PTs X ifs (tT G W c)
theorem PTs_imp {X : Cx} {ifs : List Expr} {t t' : TT} (h : PTs X ifs t) (i : ∀ σ H Q, t' σ H Q → t σ H Q) : PTs X ifs t' := ⟨fun pins s σ H Q I w => h.run pins s σ H Q I (i _ _ _ w)⟩
theorem sts_nil : STs G W X [] xyes := ⟨PTs_imp pts_nil fun σ H Q ⟨g, en, st, R, h⟩ => h g H (Le.refl _) R⟩
theorem sts_one {e : Expr} {c : XT} (h : SB G W X e c) : STs G W X [e] c := ⟨pts_one h.pt⟩
theorem Rel.envOf {g g' : Gh} {en en1 : En} {st st' : Sto} {σ σ2 : L2.St} {H H' : Hp} (R : Rel G g en st σ H) (l : Le g g') (R' : Rel G g' en1 st' σ2 H') : Rel G g' en st' σ H' :=
  ⟨R'.sF, R'.sL, R.el, fun i d e => by
    obtain ⟨v, q, r⟩ := R.en i d e
    exact ⟨v, q, r.mono l⟩, R'.cell, R'.len, R'.inj, R'.nd⟩
theorem wipe_get (σ : L2.St) (j : Nat) : ∀ vs : List Nat, (L2.wipe σ vs)[j]? = if j ∈ vs then (if j < σ.length then some none else none) else σ[j]?
  | [] => by simp [L2.wipe]
  | v :: vs => by
    unfold L2.wipe
    by_cases hv : v = j
    · subst hv
      rw [if_pos (by simp)]
      by_cases hl : v < σ.length
      · rw [if_pos hl, List.getElem?_set_self (by rw [L2.wipe_length]; exact hl)]
      · rw [if_neg hl, List.getElem?_eq_none (by simp [L2.wipe_length]; omega)]
    · rw [List.getElem?_set_ne hv, wipe_get σ j vs]
      by_cases hm : j ∈ vs
      · rw [if_pos hm, if_pos (List.mem_cons_of_mem _ hm)]
      · rw [if_neg hm, if_neg (by simp only [List.mem_cons, not_or]; exact ⟨fun e => hv e.symm, hm⟩)]
theorem wipe_set {σ : L2.St} {i : Nat} {x : Option V} {vs : List Nat} (h : i ∈ vs) : L2.wipe (σ.set i x) vs = L2.wipe σ vs := by
  apply List.ext_getElem?
  intro j
  rw [wipe_get, wipe_get, List.length_set]
  by_cases hm : j ∈ vs
  · rw [if_pos hm, if_pos hm]
  · rw [if_neg hm, if_neg hm, List.getElem?_set_ne fun e => hm (by rw [← e]; exact h)]
theorem wipe_wipe (σ : L2.St) (vs : List Nat) : L2.wipe (L2.wipe σ vs) vs = L2.wipe σ vs := by
  apply List.ext_getElem?
  intro j
  rw [wipe_get, wipe_get, L2.wipe_length]
  by_cases hm : j ∈ vs
  · rw [if_pos hm]
    split <;> rfl
  · rw [if_neg hm]
mutual
inductive Pat where | nm (i : Nat) | tp (ps : Pats)
inductive Pats where | nil | cons (p : Pat) (ps : Pats)
end
def Pats.len : Pats → Nat
  | .nil => 0
  | .cons _ ps => ps.len + 1
mutual
def Pat.x : Pat → XG
  | .nm i => gset i
  | .tp ps => gtup ps.len ps.xs
def Pats.xs : Pats → XGs
  | .nil => gnil
  | .cons p ps => gcons p.x ps.xs
end
mutual
def Pat.g (K : PySem.W.Frag) : Pat → TG
  | .nm i => gName i
  | .tp ps => fun v σ H Q => L2.gTup K ps.len (ps.gs K) v σ H Q ∨ gLst K ps.len (ps.gs K) v σ H Q
def Pats.gs (K : PySem.W.Frag) : Pats → TGs
  | .nil => gNil
  | .cons p ps => gCons (p.g K) (ps.gs K)
end
mutual
def Pat.ns : Pat → List Nat
  | .nm i => [i]
  | .tp ps => ps.nss
def Pats.nss : Pats → List Nat
  | .nil => []
  | .cons p ps => p.ns ++ ps.nss
end
mutual
theorem pat_ok {g : Gh} {H : Hp} {own : List Nat} : ∀ (p : Pat) (d : D) (v : V) (en en1 : En) (st st1 : Sto) (σ : L2.St) (Q : L2.St → Hp → Prop), Rel G g en st σ H → Rep G g d v → p.x d en st = .ok en1 st1 → (∀ i ∈ p.ns, i ∈ own) →
    (st1 = st → ∀ σ1, Rel G g en1 st σ1 H → L2.wipe σ1 own = L2.wipe σ own → Q σ1 H) → p.g G.K v σ H Q
  | .nm i, d, v, en, en1, st, st1, σ, Q, R, r, e, ho, h => by
    cases e
    exact h rfl _ (R.setv r) (wipe_set (ho i (by simp [Pat.ns])))
  | .tp ps, d, v, en, en1, st, st1, σ, Q, R, r, e, ho, h => by
    simp only [Pat.x, gtup] at e
    split at e
    · rename_i ds hds
      split at e
      · rename_i hl
        obtain ⟨a, vs, e1, e2, e3⟩ := itemsOf_H R r hds
        have q := pats_ok ps ds vs en en1 st st1 σ Q R e3 e ho h
        rcases e2 with e2 | e2
        · exact .inr ⟨a, vs, e1, e2, by rw [← e3.length, hl], q⟩
        · exact .inl ⟨a, vs, e1, e2, by rw [← e3.length, hl], q⟩
      · cases e
    · cases e
theorem pats_ok {g : Gh} {H : Hp} {own : List Nat} : ∀ (ps : Pats) (ds : List D) (vs : List V) (en en1 : En) (st st1 : Sto) (σ : L2.St) (Q : L2.St → Hp → Prop), Rel G g en st σ H → RepL G g ds vs → ps.xs ds en st = .ok en1 st1 → (∀ i ∈ ps.nss, i ∈ own) →
    (st1 = st → ∀ σ1, Rel G g en1 st σ1 H → L2.wipe σ1 own = L2.wipe σ own → Q σ1 H) → ps.gs G.K vs σ H Q
  | .nil, ds, vs, en, en1, st, st1, σ, Q, R, r, e, ho, h => by
    cases ds with
    | nil =>
      cases e
      exact ⟨r, h rfl σ R rfl⟩
    | cons d ds => cases e
  | .cons p ps, ds, vs, en, en1, st, st1, σ, Q, R, r, e, ho, h => by
    cases ds with
    | nil => cases e
    | cons d ds =>
      obtain ⟨v, vr, e1, r1, r2⟩ := r
      simp only [Pats.xs, gcons] at e
      cases e2 : p.x d en st with
      | bad => rw [e2] at e; cases e
      | exc c xs en' st' => rw [e2] at e; cases e
      | ok en2 st2 =>
        rw [e2, bind_ok] at e
        refine ⟨v, vr, e1, pat_ok p d v en en2 st st2 σ _ R r1 e2 (fun i hi => ho i (by simp [Pats.nss, hi])) fun es σ1 R1 w1 => ?_⟩
        subst es
        exact pats_ok ps ds vr en2 en1 st2 st1 σ1 Q R1 r2 e (fun i hi => ho i (by simp [Pats.nss, hi])) fun es σ2 R2 w2 => h es σ2 R2 (w2.trans w1)
end
structure SPat (X : Cx) (K : PySem.W.Frag) (tg : Expr) (p : Pat) : Prop where
  pg : PG X tg (p.g K)
structure SPats (X : Cx) (K : PySem.W.Frag) (tgs : List Expr) (ps : Pats) : Prop where
  pg : PGs X tgs (ps.gs K)
theorem sp_name {X : Cx} {K : PySem.W.Frag} (i : Nat) {x : Str} {pos : Pos} (hN : X.N.Nodup) (hi : X.N[i]? = some x := by rfl) (hx : Loc X.env.scope x := by first | exact Or.inl rfl | exact Or.inr rfl) (hf : X.fn x = true ∨ X.env.scope.names.lookup x = some .local := by first | exact .inl rfl | exact .inr rfl) : SPat X K (.Name x pos) (.nm i) := ⟨pg_name hN hi hx hf⟩
theorem sp_nil {X : Cx} {K : PySem.W.Frag} : SPats X K [] .nil := ⟨pgs_nil⟩
theorem sp_cons {X : Cx} {K : PySem.W.Frag} {e : Expr} {es : List Expr} {p : Pat} {ps : Pats} (h1 : SPat X K e p) (h2 : SPats X K es ps) (hs : (assignEach (e :: es) X.env).map (·.2) = assign e X.env :: (assignEach es X.env).map (·.2) := by rfl) : SPats X K (e :: es) (.cons p ps) := ⟨pgs_cons h1.pg h2.pg hs⟩
theorem sp_tup {X : Cx} {K : PySem.W.Frag} {es : List Expr} {k : Nat} {pos : Pos} {ps : Pats} (hK : X.K = K) (hc : X.calm = true) (h : SPats X K es ps) (hn : (assignEach es X.env).length = ps.len := by rfl) (hst : (assignEach es X.env).findIdx? (·.1) = none := by rfl) : SPat X K (.Tuple es k pos) (.tp ps) := by
  subst hK
  exact ⟨PG_or (pg_tup (k := k) hc h.pg hn hst) (pg_lst hc h.pg hn hst)⟩
def cP (G : GS) (Q : VK) (σ : L2.St) (en : En) (k : Nat) (g : Gh) (r : R Unit) : Prop := match r with
  | .ok _ st' => ∀ g' H', Le g g' → Rel G g' en st' σ H' → ∀ v, Rep G g' (.cell k) v → Q v H'
  | _ => False
theorem cP.weak {Q : VK} {σ : L2.St} {en : En} {k : Nat} {g g1 : Gh} {r : R Unit} (l : Le g g1) (h : cP G Q σ en k g r) : cP G Q σ en k g1 r := by
  cases r with
  | ok u st => exact fun g' H' l' => h g' H' (l.trans l')
  | exc _ _ _ _ => exact h
  | bad => exact h
theorem lc_of {own : List Nat} {i : XI} {p : Pat} {c : XT} {e : XE} {σ : L2.St} {H : Hp} {Q : VK} (ho : ∀ i ∈ p.ns, i ∈ own)
    (h : tE G W (xlc own i p.x c e) σ H Q) : tLc (tI G W i) (p.g G.K) (tT G W0 c) (tE G W0 e) own σ H Q := by
  obtain ⟨g, en, st, R, h⟩ := h
  refine ⟨g, en, st, R, (pX.bind h).imp fun it st1 g1 H1 l1 R1 h1 J hJ => ?_⟩
  intro A hA
  obtain ⟨l2, R2, r2⟩ := R1.new (c := .lst []) hA ⟨[], rfl, rfl⟩
  have P0 : cP G Q σ en st1.length { g1 with as := g1.as ++ [A] } (cloop own st1.length it.src p.x c e en it.its (st1 ++ [.lst []])) := by
    unfold Px.R.quiet at h1
    cases e1 : cloop own st1.length it.src p.x c e en it.its (st1 ++ [.lst []]) with
    | ok u st' => rw [e1] at h1; exact fun g' H' l R' => h1 g' H' (l2.trans l) R'
    | exc _ _ _ _ => rw [e1] at h1; exact h1.elim
    | bad => rw [e1] at h1; exact h1.elim
  refine ⟨fun i m H => ∃ g s, Le { g1 with as := g1.as ++ [A] } g ∧ Rel G g en s σ H ∧ m = it.its.length - i ∧ i ≤ it.its.length ∧ cP G Q σ en st1.length g (cloop own st1.length it.src p.x c e en (it.its.drop i) s),
    ⟨it.its.length, _, _, Le.refl _, R2, by simp, Nat.zero_le _, by simpa using P0⟩, ?_⟩
  rintro i m H ⟨g, s, l, R, rfl, hi, hP⟩
  by_cases hlt : i < it.its.length
  · have hd : it.its[i]? = some it.its[i] := by simp [hlt]
    rw [List.drop_eq_getElem_cons hlt] at hP
    unfold cloop at hP
    by_cases ok : okSrc it.src s = true
    · rw [if_pos ok] at hP
      obtain ⟨_, q⟩ := hJ g en s σ H i (l2.trans l) R ok
      obtain ⟨go, yl⟩ := q _ hd
      refine .inr ⟨go, fun H' => ∃ g s, Le { g1 with as := g1.as ++ [A] } g ∧ Rel G g en s σ H' ∧ cP G Q σ en st1.length g (cloop own st1.length it.src p.x c e en (it.its.drop (i + 1)) s), fun H' ⟨g', s', l', R', h'⟩ => ⟨_, by omega, g', s', l', R', rfl, hlt, h'⟩, fun x H' y => ?_⟩
      obtain ⟨g3, l3, R3, r3⟩ := yl x H' y
      cases e1 : p.x it.its[i] (wipeE en own) s with
      | bad => rw [e1] at hP; exact hP.elim
      | exc _ _ _ _ => rw [e1] at hP; exact hP.elim
      | ok en2 s2 =>
        rw [e1, bind_ok] at hP
        refine pat_ok p it.its[i] x (wipeE en own) en2 s s2 (L2.wipe σ own) _ (R3.wipe own) r3 e1 ho fun es σ2 R4 w2 => ⟨w2.trans (wipe_wipe σ own), ?_⟩
        subst es
        cases e2 : c en2 s2 with
        | bad => rw [e2] at hP; exact hP.elim
        | exc _ _ _ _ => rw [e2] at hP; exact hP.elim
        | ok b s3 =>
          rw [e2, bind_ok] at hP
          refine ⟨g3, en2, s2, R4, ?_⟩
          rw [e2]
          intro g4 H4 l4 R5
          cases b with
          | false =>
            rw [if_neg Bool.false_ne_true] at hP ⊢
            refine ⟨g4, s3, l.trans (l3.trans l4), R3.envOf l4 R5, ?_⟩
            exact cP.weak (l3.trans l4) hP
          | true =>
            rw [if_pos rfl] at hP ⊢
            cases e4 : e en2 s3 with
            | bad => rw [e4] at hP; exact hP.elim
            | exc _ _ _ _ => rw [e4] at hP; exact hP.elim
            | ok yv s4 =>
              rw [e4, bind_ok] at hP
              refine ⟨g4, en2, s3, R5, ?_⟩
              rw [e4]
              intro g5 H5 l5 R6 v rv
              have lA : Le { g1 with as := g1.as ++ [A] } g5 := l.trans (l3.trans (l4.trans l5))
              have hat : g5.as[st1.length]? = some A := lA.as _ _ (by show (g1.as ++ [A])[st1.length]? = some A; rw [← R1.len]; simp)
              split at hP
              · rename_i acc hacc
                split at hP
                · rename_i hz
                  obtain ⟨a', o, e6, e7, e8, vs, e9, e10⟩ := R6.isCell hacc (by intro z; cases z) (v := .ref A) ⟨A, hat, rfl⟩
                  cases e6
                  subst e9
                  refine ⟨vs, e8, by rw [← e10.length, sizeLine_eq]; exact of_decide_eq_true hz, g5, s4.set st1.length (.lst (acc ++ [yv])), lA, ?_, ?_⟩
                  · have R7 := R6.put hacc (by intro z; cases z) hat (c' := .lst (acc ++ [yv])) ⟨_, rfl, e10.append (.one rv)⟩
                    exact R3.envOf (l4.trans l5) R7
                  · exact cP.weak (l3.trans (l4.trans l5)) hP
                · exact hP.elim
              · exact hP.elim
    · rw [if_neg ok] at hP; exact hP.elim
  · have e5 : i = it.its.length := by omega
    subst e5
    rw [List.drop_length] at hP
    unfold cloop at hP
    by_cases ok : okSrc it.src s = true
    · rw [if_pos ok] at hP
      exact .inl ⟨(hJ g en s σ H _ (l2.trans l) R ok).1 (Nat.le_refl _), hP g H (Le.refl _) R _ (r2.mono l)⟩
    · rw [if_neg ok] at hP; exact hP.elim
theorem se_lc {elt tg iter : Expr} {ifs : List Expr} {scope : Scope} {own : List (Str × Nat)} {pos : Pos} {i : XI} {p : Pat} {c : XT} {e : XE} (hc : X.calm = true) (hN : X.N.Nodup) (hi : SI G W X tg iter i) (ok : BlkOk X.N X.env.scope scope own) (hp : ∀ i ∈ p.ns, i ∈ own.map (·.2))
    (hg : ∀ (s : Shared) (H : Hp) (C : Addr) (cl : List (Str × Addr)) (fp : List Addr), SPat (X.blk s H scope (compEnvC scope cl C X.env) fp) G.K tg p) (ht : ∀ (s : Shared) (H : Hp) (C : Addr) (cl : List (Str × Addr)) (fp : List Addr), STs G W0 (X.blk s H scope (compEnvC scope cl C X.env) fp) ifs c)
    (he : ∀ (s : Shared) (H : Hp) (C : Addr) (cl : List (Str × Addr)) (fp : List Addr), SE G W0 (X.blk s H scope (compEnvC scope cl C X.env) fp) elt e) (hs : ∀ x, foldedSetIterable iter X.env x = pure x := by intro _; rfl) :
    SE G W X (.ListComp elt [⟨tg, iter, ifs, 0⟩] scope pos) (xlc (own.map (·.2)) i p.x c e) :=
  ⟨PE_imp (pe_lc hc hN hi.pi ok (fun s H C cl fp => (hg s H C cl fp).pg) (fun s H C cl fp => (ht s H C cl fp).pts) (fun s H C cl fp => (he s H C cl fp).pe) hs) fun _ _ _ h => lc_of hp h⟩
theorem ss_setLc (j : Nat) {y : Str} {py : Pos} {elt tg iter : Expr} {ifs : List Expr} {scope : Scope} {own : List (Str × Nat)} {pos spos : Pos} {i : XI} {p : Pat} {c : XT} {e : XE} (hc : X.calm = true) (hN : X.N.Nodup) (hi : SI G W X tg iter i) (ok : BlkOk X.N X.env.scope scope own) (hp : ∀ i ∈ p.ns, i ∈ own.map (·.2))
    (hg : ∀ (s : Shared) (H : Hp) (C : Addr) (cl : List (Str × Addr)) (fp : List Addr), SPat (X.blk s H scope (compEnvC scope cl C X.env) fp) G.K tg p) (ht : ∀ (s : Shared) (H : Hp) (C : Addr) (cl : List (Str × Addr)) (fp : List Addr), STs G W0 (X.blk s H scope (compEnvC scope cl C X.env) fp) ifs c)
    (he : ∀ (s : Shared) (H : Hp) (C : Addr) (cl : List (Str × Addr)) (fp : List Addr), SE G W0 (X.blk s H scope (compEnvC scope cl C X.env) fp) elt e) (hy : X.N[j]? = some y := by rfl) (hyl : X.env.scope.names.lookup y = some .local := by rfl)
    (hsw : swapsWith (.ListComp elt [⟨tg, iter, ifs, 0⟩] scope pos) (some (.Name y py)) spos.line X.env = pure true := by exact sw_true rfl rfl rfl (by decide +kernel)) (hs : ∀ x, foldedSetIterable iter X.env x = pure x := by intro _; rfl) :
    SS G W X (.Assign [.Name y py] (.ListComp elt [⟨tg, iter, ifs, 0⟩] scope pos) spos) (sset j (xlc (own.map (·.2)) i p.x c e)) :=
  ⟨PS_imp (ps_setLc hc hN hy hyl hsw hi.pi ok (fun s H C cl fp => (hg s H C cl fp).pg) (fun s H C cl fp => (ht s H C cl fp).pts) (fun s H C cl fp => (he s H C cl fp).pe) hs) fun D σ H ⟨g, en, st, R, h⟩ => by
    refine lc_of hp (Q := fun x H1 => gName j x σ H1 D.nx) ⟨g, en, st, R, (pS.bind h).imp fun d st1 g1 H1 l1 R1 h1 v rv => ?_⟩
    exact h1 g1 _ H1 (Le.refl _) (R1.setv rv)⟩
end
end Px
namespace Px
open PySem PySem.Spec L2
structure CallF (P : Program) (w : World) (G : GS) (mg : Str → Option Value) (base : Heap) (x : Str) (k np : Nat) (mu : List Nat) (sem : List D → RF) : Prop where
  ex : ∃ (f : Addr) (fd : FuncData) (ps : List Str), FnOk P w G.K mg base (L2.CX P w) k f fd ps (spF G np mu sem) ∧ mg x = some (.ref f) ∧ PySem.W.keepIn G.K (.ref f) = true ∧ Binds G.K fd ps []
section
variable {G : GS} {W : WX} {X : Cx}
theorem se_callF {k np : Nat} {mu : List Nat} {sem : List D → RF} {x : Str} {p pos : Pos} {e : Expr} {es : List Expr} {c : XA} (ms : List Md) (hK : X.K = G.K) (tk : Takes X W) (F : CallF X.prog X.w G X.mg X.base x k np mu sem)
    (hr : Room k X.A) (ha : SA G W X (e :: es) c) (hg : Gl X x := by rfl) (hdb : (x == ("__debug__" : Str)) = false := by decide)
    (he : starEach (e :: es) X.env = (false, eval e X.env) :: starEach es X.env := by rfl) (hpl : (backTo pos (starEach es X.env)).any (·.1) = false := by rfl) : SE G W X (.Call (.Name x p) (e :: es) [] pos) (xcall np mu sem ms c) := by
  obtain ⟨f, fd, ps, h1, h2, h3, h4⟩ := F.ex
  rw [← hK] at h1 h3 h4
  exact se_call ms h1 hr h2 h3 h4 tk ha hg hdb he hpl
def xcall0 (mu : List Nat) (sem : List D → RF) : XE := fun en st => callD mu sem [] [] en st
theorem callF_mk {P : Program} {w : World} {mg : Str → Option Value} {base : Heap} {x : Str} {k np : Nat} {mu : List Nat} {sem : List D → RF} {f : Addr} {fd : FuncData} {ps : List Str}
    (F : FnOk P w G.K mg base (L2.CX P w) k f fd ps (spF G np mu sem)) (hm : mg x = some (.ref f)) (hk : PySem.W.keepIn G.K (.ref f) = true) (hb : Binds G.K fd ps []) : CallF P w G mg base x k np mu sem := ⟨f, fd, ps, F, hm, hk, hb⟩
theorem callF_of {P : Program} {w : World} {mg : Str → Option Value} {base : Heap} {x : Str} {k np : Nat} {mu : List Nat} {sem : List D → RF} {st : Stmt} {f : Addr} {ps : List Str} {oc : Value} {od an : Option Addr} {osl : Array (Option Value)} {kV doc pm cdv ct : Value}
    (lk : G.K.lookup f = some ⟨oc, od, .func (PySem.W.fnOf x x (defArgs st) (defBody st) (defScope st) .none kV doc pm an cdv ct), osl⟩) (c : PySem.W.codeIn G.K cdv x = true) (kp : PySem.W.keepIn G.K (.ref f) = true) (hm : mg x = some (.ref f))
    (hb : ∀ (kV doc pm : Value) (an : Option Addr) (cdv ct : Value) (us : List Value), us.length = ps.length → bindArgs (PySem.W.fnOf x x (defArgs st) (defBody st) (defScope st) .none kV doc pm an cdv ct) ⟨us, []⟩ = pure (ps.zip us))
    (ok : ∀ {f : Addr} {fd : FuncData}, Fun G.K x x st f fd → FnOk P w G.K mg base (L2.CX P w) k f fd ps (spF G np mu sem)) : CallF P w G mg base x k np mu sem :=
  have F := fun_mk (st := st) lk c kp
  callF_mk (ok F) hm kp (F.binds hb)
end
def strip (H : Hp) : Hp := fun b => match H b with
  | some (.dK _) => none
  | o => o
theorem strip_of {H : Hp} {b : Addr} {o : HO} (h : H b = some o) (hn : ∀ k, o ≠ .dK k) : strip H b = some o := by
  unfold strip
  rw [h]
  cases o <;> first | rfl | exact (hn _ rfl).elim
theorem strip_same (H : Hp) : Same (strip H) H := fun b o e => by
  unfold strip at e
  split at e
  · cases e
  · exact e
theorem strip_nd (H : Hp) : NoD (strip H) := fun b k e => by
  unfold strip at e
  split at e
  · cases e
  · rename_i h; exact h k e
theorem law_sp {G : GS} {sem : List D → RF} {H : Hp} {a : Addr} {ns : List Int} (hS : SqL G.K H a (ns.map V.int)) (h : sem [.lst .ro (ns.map D.int)] = .ok (.bl true) []) : spF G 1 [] sem [.ref a] H (fun v _ => v = .bl true) fun _ _ _ => False := by
  have s0 : Same (fun _ => none : Hp) H := fun b o e => by cases e
  have hS' : SqL G.K (strip H) a (ns.map V.int) := by
    rcases hS with (h | ⟨o, h⟩) | h
    · exact .inl (.inl (strip_of h fun k z => by cases z))
    · exact .inl (.inr ⟨o, strip_of h fun k z => by cases z⟩)
    · exact .inr h
  refine ⟨⟨strip H, fun _ => none, []⟩, [.lst .ro (ns.map D.int)], [], rfl, strip_nd H, rfl, strip_same H, s0, ?_, List.nodup_nil, ?_⟩
  · have hn : ∀ ns : List Int, nocL (ns.map D.int) = true := by
      intro ns
      induction ns with
      | nil => rfl
      | cons n ns ih => simpa [nocL, D.noc] using ih
    have hd : (D.lst .ro (ns.map D.int)).noc = true := by simp [D.noc, hn]
    exact ⟨.ref a, [], [], [], rfl, ⟨hd, hd, ⟨a, ns.map V.int, rfl, hS', RepL.ints ns⟩, rfl⟩, ⟨rfl, rfl⟩, rfl⟩
  · rw [h]
    intro F' H' v f1 f2 _ _ _ r _ _
    exact r.2.2.1
theorem law_walk {l : PySem.W.OpenLaw} {q : Program} {loose : List Str} {XP : (Str → Option Value) → Heap → Prop} {YP : World → Heap → Prop} {d : DefRec} {K : Params → PySem.W.Frag} {k : Nat} {sem : List D → RF} {x : Str} (GK : PySem.W.Frag → GS) (hG : ∀ K, (GK K).K = K) (hn : l.most = some 63) (hdf : d.params.defaults = []) (hr : Room k callerA)
    (hY : ∀ (w : World) (h : Heap), YP w h → (K w.params).In h)
    (F : ∀ (w : World) (mg : Str → Option Value) (fa : Addr) (h : Heap), (K w.params).In h → h.Ns mainGlobals mg → mg d.name = some (.ref fa) →
      ∃ fd : FuncData, (∀ (s : Shared) (u : Value), BindsTo s fd ⟨[u], []⟩ [(x, u)]) ∧ ∀ base : Heap, (K w.params).In base → base.Ns mainGlobals mg → FnOk l.prog w (K w.params) mg base (L2.CX l.prog w) k fa fd [x] (spF (GK (K w.params)) 1 [] sem))
    (math : ∀ ns : List Int, ns.length ≤ 63 → (∀ z ∈ ns, Builtin.Int.intBits z ≤ 1048576) → sem [.lst .ro (ns.map D.int)] = .ok (.bl true) []) :
    PySem.W.WalkO q loose XP YP l.row.toRowW d [] (fun f vs => PySem.call f vs) :=
  L2.walk_ofB (n := 63) (k := k) (x := x) (CX := fun w => L2.CX l.prog w) (sp := fun w => spF (GK (K w.params)) 1 [] sem) hn (by decide) hdf hr hY F
    (fun w H a ns hl hb _ hS => law_sp (by rw [hG]; exact hS) (math ns hl hb)) fun w H s e s' z => by
      obtain ⟨_, _, _, _, _, _, _, _, _, _, _, _, z⟩ := z
      exact z.elim
end Px
namespace Px
open PySem PySem.Spec L2
@[simp] theorem noc_non : D.noc .non = true := (rfl)
@[simp] theorem noc_bl (b : Bool) : D.noc (.bl b) = true := (rfl)
@[simp] theorem noc_int (i : Int) : D.noc (.int i) = true := (rfl)
@[simp] theorem noc_str (x : Str) : D.noc (.str x) = true := (rfl)
@[simp] theorem noc_tup (ds : List D) : D.noc (.tup ds) = nocL ds := by simp only [D.noc]
@[simp] theorem noc_ro (ds : List D) : D.noc (.lst .ro ds) = nocL ds := by simp [D.noc]
@[simp] theorem noc_frz (ds : List D) : D.noc (.lst .frz ds) = nocL ds := by simp [D.noc]
@[simp] theorem noc_loan (ds : List D) : D.noc (.lst .loan ds) = nocL ds := by simp [D.noc]
@[simp] theorem noc_own (ds : List D) : D.noc (.lst .own ds) = false := (rfl)
@[simp] theorem noc_cell (i : Nat) : D.noc (.cell i) = false := (rfl)
@[simp] theorem pl_cell (i : Nat) : D.pl (.cell i) = false := (rfl)
@[simp] theorem nocL_nil : nocL [] = true := (rfl)
@[simp] theorem nocL_cons (d : D) (ds : List D) : nocL (d :: ds) = (d.noc && nocL ds) := (rfl)
@[simp] theorem pl_non : D.pl .non = true := (rfl)
@[simp] theorem pl_bl (b : Bool) : D.pl (.bl b) = true := (rfl)
@[simp] theorem pl_int (i : Int) : D.pl (.int i) = true := (rfl)
@[simp] theorem pl_str (x : Str) : D.pl (.str x) = true := (rfl)
@[simp] theorem pl_tup (ds : List D) : D.pl (.tup ds) = plL ds := by simp only [D.pl]
@[simp] theorem pl_ro (ds : List D) : D.pl (.lst .ro ds) = plL ds := by simp [D.pl]
@[simp] theorem pl_frz (ds : List D) : D.pl (.lst .frz ds) = plL ds := by simp [D.pl]
@[simp] theorem pl_loan (ds : List D) : D.pl (.lst .loan ds) = false := by simp [D.pl]
@[simp] theorem plL_nil : plL [] = true := (rfl)
@[simp] theorem plL_cons (d : D) (ds : List D) : plL (d :: ds) = (d.pl && plL ds) := (rfl)
@[simp] theorem nocL_ints (ns : List Int) : nocL (ns.map D.int) = true := by
  induction ns with
  | nil => rfl
  | cons n ns ih => simpa using ih
@[simp] theorem plL_ints (ns : List Int) : plL (ns.map D.int) = true := by
  induction ns with
  | nil => rfl
  | cons n ns ih => simpa using ih
@[simp] theorem nocL_append (a b : List D) : nocL (a ++ b) = (nocL a && nocL b) := by
  induction a with
  | nil => rfl
  | cons d a ih => simp [ih, Bool.and_assoc]
@[simp] theorem plL_append (a b : List D) : plL (a ++ b) = (plL a && plL b) := by
  induction a with
  | nil => rfl
  | cons d a ih => simp [ih, Bool.and_assoc]
theorem take_id {ok : D → Bool} {st : Sto} {n : Nat} {d : D} (h : ok d = true) : take ok st n d = some (d, []) := by
  cases n <;> simp [take, h]
theorem takeL_id {ok : D → Bool} {f : D → Option (D × List Nat)} {ds : List D} (h : ds.all ok = true) : takeL ok f ds = some (ds, []) := by simp [takeL, h]
theorem snap_id {st : Sto} {n : Nat} {d : D} (h : d.noc = true) : snap st n d = some d := by
  cases n <;> simp [snap, h]
theorem imp_id : ∀ (d : D) (n : Nat), d.noc = true → imp d n = (d, [])
  | .tup ds, n, h => by simp [imp] at h ⊢; simp [h]
  | .lst m ds, n, h => by cases m <;> simp_all [imp]
  | .dk m ks ds, n, h => by cases m <;> simp_all [imp, D.noc]
  | .dt m ks ds, n, h => by cases m <;> simp_all [imp, D.noc]
  | .obj m c ds, n, h => by cases m <;> simp_all [imp, D.noc]
  | .non, _, _ => rfl | .bl _, _, _ => rfl | .int _, _, _ => rfl | .str _, _, _ => rfl
  | .cell _, _, h => by simp at h
theorem impL_id : ∀ (ds : List D) (n : Nat), nocL ds = true → impL ds n = (ds, [])
  | [], _, _ => rfl
  | d :: ds, n, h => by
    simp at h
    simp [impL, imp_id d n h.1, impL_id ds n h.2]
theorem xfun_pl {np nl : Nat} {body : XS} {ds : List D} (hn : nocL ds = true) (hl : ds.length = np) : xfun np nl [] body ds = match body (ds.map some ++ List.replicate nl none) [] with
    | .ok (.rt d, _) st => fin [] ds d st
    | .ok (.nx, _) st => fin [] ds .non st
    | .ok _ _ => .bad
    | .exc c xs _ st => finX [] ds c xs st
    | .bad => .bad := by
  unfold xfun
  rw [if_pos hl, impL_id ds 0 hn]
  first | done | rfl
theorem fin_pl {ps : List D} {d : D} {st : Sto} (h : d.pl = true) : fin [] ps d st = .ok d [] := by
  unfold fin
  rw [take_id h]
  simp [takeL]
theorem prepT_id {st : Sto} : ∀ (ms : List Md) (ds : List D), ms.length = ds.length → nocL ds = true → prepT st ms ds = some (ds, [])
  | [], [], _, _ => rfl
  | .val :: ms, d :: ds, h, n => by
    simp at h n
    simp [prepT, prepT_id ms ds h n.2]
  | .mov :: ms, d :: ds, h, n => by
    simp at h n
    simp [prepT, take_id n.1, prepT_id ms ds h n.2]
  | .mut :: ms, d :: ds, h, n => by
    simp at h n
    simp [prepT, take_id n.1, prepT_id ms ds h n.2]
  | [], _ :: _, h, _ => by simp at h
  | .val :: _, [], h, _ => by simp at h
  | .mov :: _, [], h, _ => by simp at h
  | .mut :: _, [], h, _ => by simp at h
theorem prepS_id {st : Sto} : ∀ (ms : List Md) (ds : List D), ms.length = ds.length → nocL ds = true → prepS st ms ds = some ds
  | [], [], _, _ => rfl
  | .val :: ms, d :: ds, h, n => by
    simp at h n
    simp [prepS, snap_id n.1, prepS_id ms ds h n.2]
  | .mov :: ms, d :: ds, h, n => by
    simp at h n
    simp [prepS, prepS_id ms ds h n.2]
  | .mut :: ms, d :: ds, h, n => by
    simp at h n
    simp [prepS, prepS_id ms ds h n.2]
  | [], _ :: _, h, _ => by simp at h
  | .val :: _, [], h, _ => by simp at h
  | .mov :: _, [], h, _ => by simp at h
  | .mut :: _, [], h, _ => by simp at h
theorem xcall_pl {np : Nat} {sem : List D → RF} {ms : List Md} {c : XA} {en : En} {st st1 : Sto} {ds : List D} {r : D} (hc : c en st = .ok ds st1) (hs : sem ds = .ok r []) (hr : r.noc = true) (hl : ds.length = np) (hn : nocL ds = true) (hm : mutPos 0 ms = []) (hml : ms.length = ds.length) :
    xcall np [] sem ms c en st = .ok r st1 := by
  unfold xcall
  rw [hc, bind_ok, if_pos hl]
  unfold callD
  rw [prepT_id ms ds hml hn]
  simp [hm, goneAt, prepS_id ms ds hml hn, rootsOf, callF, hs, imp_id r _ hr, back]
@[simp] theorem rngL_zero (lo : Int) : rngL lo 0 = [] := (rfl)
theorem rngL_succ (lo : Int) (n : Nat) : rngL lo (n + 1) = .int lo :: rngL (lo + 1) n := by
  unfold rngL
  rw [List.range_succ_eq_map, List.map_cons, List.map_map]
  congr 1
  · simp
  · apply List.map_congr_left
    intro k _
    simp
    omega
def Sz (n : Nat) (a : Int) : Prop := a.natAbs < 2 ^ n
theorem Sz.mono {n m : Nat} {a : Int} (h : Sz n a) (l : n ≤ m) : Sz m a := Nat.lt_of_lt_of_le h (Nat.pow_le_pow_right (by decide) l)
theorem Sz.bits {a : Int} {n : Nat} (h : Builtin.Int.intBits a ≤ n) : Sz n a := by
  unfold Builtin.Int.intBits at h
  unfold Sz
  split at h
  · rename_i e
    have : a.natAbs = 0 := by first | (simpa using e) | omega
    rw [this]; exact Nat.two_pow_pos n
  · rename_i e
    exact Nat.lt_of_lt_of_le (Nat.lt_log2_self) (Nat.pow_le_pow_right (by decide) h)
theorem okMul_sz {n m : Nat} {a b : Int} (ha : Sz n a) (hb : Sz m b) (h0 : 0 < n) (h1 : 0 < m) (h : n + m ≤ 100000000) : okMul a b = true := by
  have x := PySem.Flt.log2_lt_of h0 ha
  have y := PySem.Flt.log2_lt_of h1 hb
  unfold okMul
  simp only [Bool.or_eq_true, decide_eq_true_eq]
  right; omega
theorem Sz.add {n : Nat} {a b : Int} (ha : Sz n a) (hb : Sz n b) : Sz (n + 1) (a + b) := by
  unfold Sz at *
  have := Int.natAbs_add_le a b
  rw [Nat.pow_succ]; omega
theorem Sz.neg {n : Nat} {a : Int} (ha : Sz n a) : Sz n (-a) := by unfold Sz at *; rw [Int.natAbs_neg]; exact ha
theorem Sz.sub {n : Nat} {a b : Int} (ha : Sz n a) (hb : Sz n b) : Sz (n + 1) (a - b) := by rw [Int.sub_eq_add_neg]; exact ha.add hb.neg
theorem Sz.mul {n m : Nat} {a b : Int} (ha : Sz n a) (hb : Sz m b) : Sz (n + m) (a * b) := wide_lt ha hb
end Px
namespace Px
open PySem PySem.Spec L2
mutual
def D.eqT : D → D → Bool
  | .non, .non => true
  | .bl a, .bl b => a == b
  | .bl a, .int j => (if a then 1 else 0) == j
  | .int i, .bl b => i == (if b then 1 else 0)
  | .int i, .int j => i == j
  | .str a, .str b => a == b
  | .tup a, .tup b => eqTL a b
  | .lst _ a, .lst _ b => eqTL a b
  | _, _ => false
def eqTL : List D → List D → Bool
  | [], [] => true
  | a :: r, b :: s => D.eqT a b && eqTL r s
  | _, _ => false
end
mutual
def D.sh : D → Nat → Bool
  | .non, _ => true
  | .bl _, _ => true
  | .int _, _ => true
  | .str x, _ => PyData.strOk x
  | .tup ds, n => decide (0 < n) && shL ds (n - 1)
  | .lst m ds, n => decide (m ≠ .own) && (decide (0 < n) && shL ds (n - 1))
  | _, _ => false
def shL : List D → Nat → Bool
  | [], _ => true
  | d :: ds, n => d.sh n && shL ds n
end
mutual
theorem sh_py : ∀ (d : D) (n : Nat), d.sh n = true → ∃ p, pyD d = some p ∧ p.canLay0 = true ∧ p.depth ≤ n
  | .non, _, _ => ⟨_, rfl, by simp [PyData.canLay0], by simp [PyData.depth]⟩
  | .bl _, _, _ => ⟨_, rfl, by simp [PyData.canLay0], by simp [PyData.depth]⟩
  | .int _, _, _ => ⟨_, rfl, by simp [PyData.canLay0], by simp [PyData.depth]⟩
  | .str _, _, h => ⟨_, rfl, by simpa [PyData.canLay0, D.sh] using h, by simp [PyData.depth]⟩
  | .tup ds, n, h => by
    simp [D.sh] at h
    obtain ⟨p, e, c, l⟩ := shL_py ds (n - 1) h.2
    exact ⟨.tuple p, by simp [pyD, e], by simpa [PyData.canLay0] using c, by simp [PyData.depth]; omega⟩
  | .lst m ds, n, h => by
    simp [D.sh] at h
    obtain ⟨p, e, c, l⟩ := shL_py ds (n - 1) h.2.2
    exact ⟨.list p, by simp [pyD, e, h.1], by simpa [PyData.canLay0] using c, by simp [PyData.depth]; omega⟩
  | .dk _ _ _, _, h => by simp [D.sh] at h
  | .dt _ _ _, _, h => by simp [D.sh] at h
  | .obj _ _ _, _, h => by simp [D.sh] at h
  | .cell _, _, h => by simp [D.sh] at h
theorem shL_py : ∀ (ds : List D) (n : Nat), shL ds n = true → ∃ p, pyL ds = some p ∧ PyData.canLayAll0 p = true ∧ PyData.depthAll p ≤ n
  | [], _, _ => ⟨[], rfl, by simp [PyData.canLayAll0], by simp [PyData.depthAll]⟩
  | d :: ds, n, h => by
    simp [shL] at h
    obtain ⟨p, e, c, l⟩ := sh_py d n h.1
    obtain ⟨q, e', c', l'⟩ := shL_py ds n h.2
    exact ⟨p :: q, by simp [pyL, e, e'], by simp [PyData.canLayAll0, c, c'], by simp [PyData.depthAll]; omega⟩
end
mutual
theorem eqT_eqv : ∀ (x y : D) (p q : PyData), pyD x = some p → pyD y = some q → PyData.eqv p q = D.eqT x y
  | .non, y, p, q, hp, hq => by cases hp; cases y <;> simp [pyD] at hq <;> (try (rcases hq with hq)) <;> (first | (subst hq; simp [PyData.eqv, D.eqT]) | (obtain ⟨_, _, rfl⟩ := hq; simp [PyData.eqv, D.eqT]) | (obtain ⟨_, _, _, rfl⟩ := hq; simp [PyData.eqv, D.eqT]))
  | .bl _, y, p, q, hp, hq => by cases hp; cases y <;> simp [pyD] at hq <;> (first | (subst hq; simp [PyData.eqv, D.eqT]) | (obtain ⟨_, _, rfl⟩ := hq; simp [PyData.eqv, D.eqT]) | (obtain ⟨_, _, _, rfl⟩ := hq; simp [PyData.eqv, D.eqT]))
  | .int _, y, p, q, hp, hq => by cases hp; cases y <;> simp [pyD] at hq <;> (first | (subst hq; simp [PyData.eqv, D.eqT]) | (obtain ⟨_, _, rfl⟩ := hq; simp [PyData.eqv, D.eqT]) | (obtain ⟨_, _, _, rfl⟩ := hq; simp [PyData.eqv, D.eqT]))
  | .str _, y, p, q, hp, hq => by cases hp; cases y <;> simp [pyD] at hq <;> (first | (subst hq; simp [PyData.eqv, D.eqT]) | (obtain ⟨_, _, rfl⟩ := hq; simp [PyData.eqv, D.eqT]) | (obtain ⟨_, _, _, rfl⟩ := hq; simp [PyData.eqv, D.eqT]))
  | .tup ds, y, p, q, hp, hq => by
    simp [pyD] at hp
    obtain ⟨ps, e, rfl⟩ := hp
    cases y <;> simp [pyD] at hq
    case tup es => obtain ⟨qs, e', rfl⟩ := hq; simp [PyData.eqv, D.eqT, eqTL_eqv ds es ps qs e e']
    all_goals (first | (subst hq; simp [PyData.eqv, D.eqT]) | (obtain ⟨_, _, rfl⟩ := hq; simp [PyData.eqv, D.eqT]) | (obtain ⟨_, _, _, rfl⟩ := hq; simp [PyData.eqv, D.eqT]))
  | .lst m ds, y, p, q, hp, hq => by
    simp [pyD] at hp
    obtain ⟨_, ps, e, rfl⟩ := hp
    cases y <;> simp [pyD] at hq
    case lst n es => obtain ⟨_, qs, e', rfl⟩ := hq; simp [PyData.eqv, D.eqT, eqTL_eqv ds es ps qs e e']
    all_goals (first | (subst hq; simp [PyData.eqv, D.eqT]) | (obtain ⟨_, _, rfl⟩ := hq; simp [PyData.eqv, D.eqT]) | (obtain ⟨_, _, _, rfl⟩ := hq; simp [PyData.eqv, D.eqT]))
  | .dk _ _ _, _, _, _, h, _ => by simp [pyD] at h
  | .dt _ _ _, _, _, _, h, _ => by simp [pyD] at h
  | .obj _ _ _, _, _, _, h, _ => by simp [pyD] at h
  | .cell _, _, _, _, h, _ => by simp [pyD] at h
theorem eqTL_eqv : ∀ (x y : List D) (p q : List PyData), pyL x = some p → pyL y = some q → PyData.eqvAll p q = eqTL x y
  | [], [], p, q, hp, hq => by cases hp; cases hq; simp [PyData.eqvAll, eqTL]
  | [], y :: ys, p, q, hp, hq => by
    cases hp
    simp only [pyL] at hq
    split at hq
    · cases hq; simp [PyData.eqvAll, eqTL]
    · cases hq
  | x :: xs, [], p, q, hp, hq => by
    cases hq
    simp only [pyL] at hp
    split at hp
    · cases hp; simp [PyData.eqvAll, eqTL]
    · cases hp
  | x :: xs, y :: ys, p, q, hp, hq => by
    simp only [pyL] at hq hp
    split at hp
    · rename_i a b e1 e2
      split at hq
      · rename_i c d e3 e4
        cases hp; cases hq
        simp [PyData.eqvAll, eqTL, eqT_eqv x y a c e1 e3, eqTL_eqv xs ys b d e2 e4]
      · cases hq
    · cases hp
end
theorem eqD_sh {st : Sto} {x y : D} {n m : Nat} (hx : x.noc = true) (hy : y.noc = true) (sx : x.sh 64 = true) (sy : y.sh 64 = true) : eqD st x y = some (D.eqT x y) := by
  obtain ⟨p, e1, c1, l1⟩ := sh_py x 64 sx
  obtain ⟨q, e2, c2, l2⟩ := sh_py y 64 sy
  have h1 : SeqAt.shaped p = true := by simp [SeqAt.shaped, c1, l1]
  have h2 : SeqAt.shaped q = true := by simp [SeqAt.shaped, c2, l2]
  unfold eqD
  split
  · simp [D.eqT]; rfl
  · simp [D.eqT]; rfl
  · simp [D.eqT]; rfl
  · rw [snap_id hx, snap_id hy]
    simp [e1, e2, h1, h2, eqT_eqv x y p q e1 e2]
mutual
theorem D.eqT_self : ∀ (d : D) (n : Nat), d.sh n = true → d.eqT d = true
  | .non, _, _ => by simp [D.eqT]
  | .bl _, _, _ => by simp [D.eqT]
  | .int _, _, _ => by simp [D.eqT]
  | .str _, _, _ => by simp [D.eqT]
  | .tup ds, n, h => by
    simp [D.sh] at h
    simp [D.eqT, eqTL_self ds _ h.2]
  | .lst _ ds, n, h => by
    simp [D.sh] at h
    simp [D.eqT, eqTL_self ds _ h.2.2]
  | .dk _ _ _, _, h => by simp [D.sh] at h
  | .dt _ _ _, _, h => by simp [D.sh] at h
  | .obj _ _ _, _, h => by simp [D.sh] at h
  | .cell _, _, h => by simp [D.sh] at h
theorem eqTL_self : ∀ (ds : List D) (n : Nat), shL ds n = true → eqTL ds ds = true
  | [], _, _ => by simp [eqTL]
  | d :: ds, n, h => by
    simp [shL] at h
    simp [eqTL, D.eqT_self d n h.1, eqTL_self ds n h.2]
end
@[simp] theorem sh_non (n : Nat) : D.sh .non n = true := by simp [D.sh]
@[simp] theorem sh_bl (b : Bool) (n : Nat) : D.sh (.bl b) n = true := by simp [D.sh]
@[simp] theorem sh_int (i : Int) (n : Nat) : D.sh (.int i) n = true := by simp [D.sh]
@[simp] theorem sh_str (i : Str) (n : Nat) : D.sh (.str i) n = PyData.strOk i := by simp [D.sh]
@[simp] theorem sh_tup (ds : List D) (n : Nat) : D.sh (.tup ds) (n + 1) = shL ds n := by simp [D.sh]
@[simp] theorem sh_lst (m : Mk) (ds : List D) (n : Nat) : D.sh (.lst m ds) (n + 1) = (decide (m ≠ .own) && shL ds n) := by simp [D.sh]
@[simp] theorem shL_nil (n : Nat) : shL [] n = true := by simp [shL]
@[simp] theorem shL_cons (d : D) (ds : List D) (n : Nat) : shL (d :: ds) n = (d.sh n && shL ds n) := by simp [shL]
@[simp] theorem shL_app (a b : List D) (n : Nat) : shL (a ++ b) n = (shL a n && shL b n) := by
  induction a with
  | nil => simp
  | cons d a ih => simp [ih, Bool.and_assoc]
@[simp] theorem shL_ints (ns : List Int) (n : Nat) : shL (ns.map D.int) n = true := by
  induction ns with
  | nil => rfl
  | cons d a ih => simpa using ih
@[simp] theorem eqT_int (a b : Int) : D.eqT (.int a) (.int b) = decide (a = b) := by simp [D.eqT]; rfl
@[simp] theorem eqT_str (a b : Str) : D.eqT (.str a) (.str b) = decide (a = b) := by simp [D.eqT]; rfl
@[simp] theorem eqT_bl (a b : Bool) : D.eqT (.bl a) (.bl b) = (a == b) := by simp [D.eqT]
@[simp] theorem eqT_non : D.eqT .non .non = true := by simp [D.eqT]
@[simp] theorem eqT_tup (a b : List D) : D.eqT (.tup a) (.tup b) = eqTL a b := by simp [D.eqT]
@[simp] theorem eqT_lst (m n : Mk) (a b : List D) : D.eqT (.lst m a) (.lst n b) = eqTL a b := by simp [D.eqT]
@[simp] theorem eqTL_nil : eqTL [] [] = true := by simp [eqTL]
@[simp] theorem eqTL_nc (d : D) (ds : List D) : eqTL [] (d :: ds) = false := by simp [eqTL]
@[simp] theorem eqTL_cn (d : D) (ds : List D) : eqTL (d :: ds) [] = false := by simp [eqTL]
@[simp] theorem eqTL_cons (d e : D) (ds es : List D) : eqTL (d :: ds) (e :: es) = (d.eqT e && eqTL ds es) := by simp [eqTL]
@[simp] theorem eqTL_ints : ∀ (a b : List Int), eqTL (a.map D.int) (b.map D.int) = decide (a = b)
  | [], [] => by simp
  | [], b :: bs => by simp
  | a :: as, [] => by simp
  | a :: as, b :: bs => by simp [eqTL_ints as bs]
@[simp] theorem ev_eqT (a b : List D) (st : Sto) (ha : nocL a = true) (hb : nocL b = true) (sa : shL a 63 = true) (sb : shL b 63 = true) : oEq (.tup a) (.tup b) st = .ok (.bl (eqTL a b)) st := by
  unfold oEq
  rw [eqD_sh (n := 0) (m := 0) (by simpa using ha) (by simpa using hb) (by simpa using sa) (by simpa using sb)]
  simp [oB]
@[simp] theorem ev_neT (a b : List D) (st : Sto) (ha : nocL a = true) (hb : nocL b = true) (sa : shL a 63 = true) (sb : shL b 63 = true) : oNe (.tup a) (.tup b) st = .ok (.bl !(eqTL a b)) st := by
  unfold oNe
  rw [eqD_sh (n := 0) (m := 0) (by simpa using ha) (by simpa using hb) (by simpa using sa) (by simpa using sb)]
  simp [oB]
end Px
namespace Px
open PySem PySem.Spec L2
def andD (x : D) (k : Sto → R D) (st : Sto) : R D := match x with | .bl true => k st | .bl false => .ok (.bl false) st | _ => .bad
def orD (x : D) (k : Sto → R D) (st : Sto) : R D := match x with | .bl false => k st | .bl true => .ok (.bl true) st | _ => .bad
@[simp] theorem andD_bl (b : Bool) (k : Sto → R D) (st : Sto) : andD (.bl b) k st = if b then k st else .ok (.bl false) st := by cases b <;> rfl
@[simp] theorem orD_bl (b : Bool) (k : Sto → R D) (st : Sto) : orD (.bl b) k st = if b then .ok (.bl true) st else k st := by cases b <;> rfl
@[simp] theorem ite_andD (p : Prop) [Decidable p] (c : Bool) (st : Sto) : (if p then R.ok (D.bl c) st else R.ok (D.bl false) st) = R.ok (D.bl (decide p && c)) st := by by_cases h : p <;> simp [h]
@[simp] theorem ite_orD (p : Prop) [Decidable p] (c : Bool) (st : Sto) : (if p then R.ok (D.bl true) st else R.ok (D.bl c) st) = R.ok (D.bl (decide p || c)) st := by by_cases h : p <;> simp [h]
@[simp] theorem ite_andB (p : Prop) [Decidable p] (c : Bool) (st : Sto) : (if p then R.ok c st else R.ok false st) = R.ok (decide p && c) st := by by_cases h : p <;> simp [h]
@[simp] theorem ite_orB (p : Prop) [Decidable p] (c : Bool) (st : Sto) : (if p then R.ok true st else R.ok c st) = R.ok (decide p || c) st := by by_cases h : p <;> simp [h]
@[simp ↓] theorem bind_step {α β : Type} (r : R α) (f : α → Sto → R β) : r.bind f = match r with
  | .ok a st => f a st
  | .exc c ds en st => .exc c ds en st
  | .bad => .bad := (rfl)
section
variable (en : En) (st : Sto)
@[simp] theorem ev_xc (d : D) : xc d en st = .ok d st := (rfl)
@[simp] theorem ev_nil : snil en st = .ok (.nx, en) st := (rfl)
@[simp] theorem ev_break : sbreak en st = .ok (.bk, en) st := (rfl)
@[simp] theorem ev_cont : scont en st = .ok (.ct, en) st := (rfl)
@[simp] theorem ev_pass : spass en st = .ok (.nx, en) st := (rfl)
@[simp] theorem ev_expr (c : XE) : sexpr c en st = (c en st).bind fun _ st => .ok (.nx, en) st := (rfl)
@[simp] theorem ev_ret (c : XE) : sret c en st = (c en st).bind fun d st => .ok (.rt d, en) st := (rfl)
@[simp] theorem ev_retN : sretN en st = .ok (.rt .non, en) st := (rfl)
@[simp] theorem ev_if (c : XT) (a b : XS) : sif c a b en st = (c en st).bind fun k st => if k then a en st else b en st := (rfl)
@[simp] theorem ev_set (i : Nat) (c : XE) : sset i c en st = (c en st).bind fun d st => .ok (.nx, en.set i (some d)) st := (rfl)
@[simp] theorem ev_x1 (f : Op1) (a : XE) : x1 f a en st = (a en st).bind fun x st => f x st := (rfl)
@[simp] theorem ev_x2 (f : Op2) (a b : XE) : x2 f a b en st = (a en st).bind fun x st => (b en st).bind fun y st => f x y st := (rfl)
@[simp] theorem ev_xt (c : XE) : xt c en st = (c en st).bind fun d st => match d with | .bl b => .ok b st | _ => .bad := (rfl)
@[simp] theorem ev_xb (c : XT) : xb c en st = (c en st).bind fun b st => .ok (.bl b) st := (rfl)
@[simp] theorem ev_and (a b : XT) : xand a b en st = (a en st).bind fun k st => if k then b en st else .ok false st := (rfl)
@[simp] theorem ev_or (a b : XT) : xor_ a b en st = (a en st).bind fun k st => if k then .ok true st else b en st := (rfl)
@[simp] theorem ev_not (a : XT) : xnot a en st = (a en st).bind fun k st => .ok (!k) st := (rfl)
@[simp] theorem ev_ife (t : XT) (a b : XE) : xife t a b en st = (t en st).bind fun k st => if k then a en st else b en st := (rfl)
@[simp] theorem ev_anil : xnil en st = .ok [] st := (rfl)
@[simp] theorem ev_acons (a : XE) (b : XA) : xcons a b en st = (a en st).bind fun x st => (b en st).bind fun xs st => .ok (x :: xs) st := (rfl)
@[simp] theorem ev_tup (a : XA) : xtup a en st = (a en st).bind fun xs st => if fitL xs.length then .ok (.tup xs) st else .bad := (rfl)
@[simp] theorem ev_lst (a : XA) : xlst a en st = (a en st).bind fun xs st => if fitL xs.length then .ok (.cell st.length) (st ++ [.lst xs]) else .bad := (rfl)
@[simp] theorem ev_bi (f : XF) (c : XA) : xbi f c en st = (c en st).bind fun ds st => f ds st := (rfl)
@[simp] theorem ev_app (a b : XE) : xapp a b en st = (a en st).bind fun x st => if (seqOf st x).isSome then (b en st).bind fun y st => oApp x y st else .bad := (rfl)
@[simp] theorem ev_asg (c : XE) (t : XG) : sasg c t en st = (c en st).bind fun d st => (t d en st).bind fun en st => .ok (.nx, en) st := (rfl)
@[simp] theorem ev_par (i j : Nat) (a b : XE) : spar i j a b en st = (a en st).bind fun x st => (b en st).bind fun y st => .ok (.nx, (en.set i (some x)).set j (some y)) st := (rfl)
@[simp] theorem ev_for (c : XI) (t : XG) (b : XS) : sfor c t b en st = (c en st).bind fun it st => floop it.src t b it.its en st := (rfl)
@[simp] theorem ev_vand (a b : XE) : vand a b en st = (a en st).bind fun x st => andD x (b en) st := (rfl)
@[simp] theorem ev_vor (a b : XE) : vor a b en st = (a en st).bind fun x st => orD x (b en) st := (rfl)
@[simp] theorem ev_vnot (a : XE) : vnot a en st = (a en st).bind fun x st => match x with | .bl k => .ok (.bl !k) st | _ => .bad := (rfl)
@[simp] theorem ev_gset (i : Nat) (d : D) : gset i d en st = .ok (en.set i (some d)) st := (rfl)
@[simp] theorem ev_gnil : gnil [] en st = .ok en st := (rfl)
@[simp] theorem ev_gcons (a : XG) (b : XGs) (d : D) (ds : List D) : gcons a b (d :: ds) en st = (a d en st).bind fun en st => b ds en st := (rfl)
@[simp] theorem ev_gsub (f : Op3) (a b : XE) (d : D) : gsub f a b d en st = (a en st).bind fun x st => (b en st).bind fun y st => (f x y d st).bind fun _ st => .ok en st := (rfl)
@[simp] theorem ev_gtup (n : Nat) (b : XGs) (d : D) : gtup n b d en st = match itemsOf st d with | some ds => if ds.length = n then b ds en st else .bad | none => .bad := (rfl)
end
@[simp] theorem ev_var0 (d : D) (en : En) (st : Sto) : xvar 0 (some d :: en) st = .ok d st := (rfl)
@[simp] theorem ev_varS (i : Nat) (o : Option D) (en : En) (st : Sto) : xvar (i + 1) (o :: en) st = xvar i en st := (rfl)
@[simp] theorem ev_seq (a b : XS) (en : En) (st : Sto) : sseq a b en st = match a en st with | .ok (.nx, en1) st1 => b en1 st1 | r => r := (rfl)
@[simp] theorem ev_tupI (st : Sto) (ds : List D) : itemsOf st (.tup ds) = some ds := (rfl)
@[simp] theorem ev_roI (st : Sto) (ds : List D) : itemsOf st (.lst .ro ds) = some ds := (rfl)
@[simp] theorem ev_frzI (st : Sto) (ds : List D) : itemsOf st (.lst .frz ds) = some ds := (rfl)
@[simp] theorem ev_loanI (st : Sto) (ds : List D) : itemsOf st (.lst .loan ds) = some ds := (rfl)
@[simp] theorem ev_cellI (st : Sto) (i : Nat) : itemsOf st (.cell i) = match st[i]? with | some (.lst ds) => some ds | _ => none := (rfl)
@[simp] theorem ev_roQ (st : Sto) (ds : List D) : seqOf st (.lst .ro ds) = some ds := (rfl)
@[simp] theorem ev_frzQ (st : Sto) (ds : List D) : seqOf st (.lst .frz ds) = some ds := (rfl)
@[simp] theorem ev_loanQ (st : Sto) (ds : List D) : seqOf st (.lst .loan ds) = some ds := (rfl)
@[simp] theorem ev_cellQ (st : Sto) (i : Nat) : seqOf st (.cell i) = match st[i]? with | some (.lst ds) => some ds | _ => none := (rfl)
@[simp] theorem ev_frzL (st : Sto) (ds : List D) : lstOf st (.lst .frz ds) = some ds := (rfl)
@[simp] theorem ev_loanL (st : Sto) (ds : List D) : lstOf st (.lst .loan ds) = some ds := (rfl)
@[simp] theorem ev_cellL (st : Sto) (i : Nat) : lstOf st (.cell i) = match st[i]? with | some (.lst ds) => some ds | _ => none := (rfl)
@[simp] theorem ev_addI (st : Sto) (i j : Int) : oAdd (.int i) (.int j) st = .ok (.int (i + j)) st := (rfl)
@[simp] theorem ev_iaddI (st : Sto) (i j : Int) : iAdd (.int i) (.int j) st = .ok (.int (i + j)) st := (rfl)
@[simp] theorem ev_subI (st : Sto) (i j : Int) : iSub (.int i) (.int j) st = .ok (.int (i - j)) st := (rfl)
@[simp] theorem ev_mulI (st : Sto) (i j : Int) : oMul (.int i) (.int j) st = if okMul i j then .ok (.int (i * j)) st else .bad := (rfl)
@[simp] theorem ev_divI (st : Sto) (i j : Int) : iDiv (.int i) (.int j) st = if okDiv i j then .ok (.int (i / j)) st else .bad := (rfl)
@[simp] theorem ev_modI (st : Sto) (i j : Int) : iMod (.int i) (.int j) st = if okMod i j then .ok (.int (i % j)) st else .bad := (rfl)
@[simp] theorem ev_shlI (st : Sto) (i j : Int) : iShl (.int i) (.int j) st = if okShl i j then .ok (.int (i * 2 ^ j.toNat)) st else .bad := (rfl)
@[simp] theorem ev_shrI (st : Sto) (i j : Int) : iShr (.int i) (.int j) st = if okShr i j then .ok (.int (i / 2 ^ j.toNat)) st else .bad := (rfl)
@[simp] theorem ev_ltI (st : Sto) (i j : Int) : iLt (.int i) (.int j) st = .ok (.bl (decide (i < j))) st := (rfl)
@[simp] theorem ev_leI (st : Sto) (i j : Int) : iLe (.int i) (.int j) st = .ok (.bl (decide (i ≤ j))) st := (rfl)
@[simp] theorem ev_gtI (st : Sto) (i j : Int) : iGt (.int i) (.int j) st = .ok (.bl (decide (j < i))) st := (rfl)
@[simp] theorem ev_geI (st : Sto) (i j : Int) : iGe (.int i) (.int j) st = .ok (.bl (decide (j ≤ i))) st := (rfl)
@[simp] theorem ev_negI (st : Sto) (i : Int) : oNeg (.int i) st = .ok (.int (-i)) st := (rfl)
@[simp] theorem ev_eqI (st : Sto) (i j : Int) : oEq (.int i) (.int j) st = .ok (.bl (decide (i = j))) st := (rfl)
@[simp] theorem ev_neI (st : Sto) (i j : Int) : oNe (.int i) (.int j) st = .ok (.bl !(decide (i = j))) st := (rfl)
@[simp] theorem ev_eqS (st : Sto) (i j : Str) : oEq (.str i) (.str j) st = .ok (.bl (decide (i = j))) st := (rfl)
@[simp] theorem ev_neS (st : Sto) (i j : Str) : oNe (.str i) (.str j) st = .ok (.bl !(decide (i = j))) st := (rfl)
@[simp] theorem ev_eqB (st : Sto) (i j : Bool) : oEq (.bl i) (.bl j) st = .ok (.bl (decide (i = j))) st := (rfl)
@[simp] theorem ev_neB (st : Sto) (i j : Bool) : oNe (.bl i) (.bl j) st = .ok (.bl !(decide (i = j))) st := (rfl)
@[simp] theorem ev_abs (st : Sto) (i : Int) : bAbs [.int i] st = .ok (.int i.natAbs) st := by
  unfold bAbs; simp only; congr 2; split <;> omega
@[simp] theorem ev_intI (st : Sto) (i : Int) : bInt [.int i] st = .ok (.int i) st := (rfl)
@[simp] theorem ev_floop0 (src : List (Nat × List D)) (t : XG) (b : XS) (en : En) (st : Sto) : floop src t b [] en st = if okSrc src st then .ok (.nx, en) st else .bad := (rfl)
theorem ev_floopS (src : List (Nat × List D)) (t : XG) (b : XS) (d : D) (ds : List D) (en : En) (st : Sto) : floop src t b (d :: ds) en st = if okSrc src st then (t d en st).bind fun en st => match b en st with
      | .ok (.nx, en) st => floop src t b ds en st
      | .ok (.ct, en) st => floop src t b ds en st
      | .ok (.bk, en) st => .ok (.nx, en) st
      | r => r
    else .bad := (rfl)
@[simp] theorem ev_okN (st : Sto) : okSrc [] st = true := (rfl)
@[simp] theorem ev_fit (n : Nat) (h : n ≤ 16777216 := by omega) : fitL n = true := by unfold fitL; exact decide_eq_true h
@[simp] theorem ev_rng1 (c : XA) (en : En) (st : Sto) : irng1 c en st = (c en st).bind fun ds st => match ds with
  | [.int i] => if ok62 i then .ok ⟨rngL 0 i.toNat, []⟩ st else .bad
  | _ => .bad := (rfl)
@[simp] theorem mutPos_nil (n : Nat) : mutPos n [] = [] := (rfl)
@[simp] theorem mutPos_val (n : Nat) (r : List Md) : mutPos n (.val :: r) = mutPos (n + 1) r := (rfl)
@[simp] theorem mutPos_mov (n : Nat) (r : List Md) : mutPos n (.mov :: r) = mutPos (n + 1) r := (rfl)
@[simp] theorem mutPos_mut (n : Nat) (r : List Md) : mutPos n (.mut :: r) = n :: mutPos (n + 1) r := (rfl)
def give (r : RF) (en : En) (st : Sto) : R D := match r with
  | .ok r [] => .ok (imp r st.length).1 (st ++ (imp r st.length).2)
  | .exc c xs [] => .exc c xs en st
  | _ => .bad
@[simp] theorem give_ok (d : D) (en : En) (st : Sto) (h : d.noc = true) : give (.ok d []) en st = .ok d st := by
  simp [give, imp_id d _ h]
@[simp] theorem give_lst (ds : List D) (en : En) (st : Sto) (h : nocL ds = true) : give (.ok (.lst .own ds) []) en st = .ok (.cell st.length) (st ++ [.lst ds]) := by
  simp [give, imp, h]
@[simp] theorem give_exc (c : Nat) (ds : List D) (en : En) (st : Sto) : give (.exc c ds []) en st = .exc c ds en st := (rfl)
@[simp] theorem ev_call (np : Nat) (mu : List Nat) (sem : List D → RF) (ms : List Md) (c : XA) (en : En) (st : Sto) : xcall np mu sem ms c en st = (c en st).bind fun ds st => if ds.length = np then callD mu sem ms ds en st else .bad := (rfl)
@[simp] theorem callD_pl (sem : List D → RF) (ms : List Md) (ds : List D) (en : En) (st : Sto) (hn : nocL ds = true) (hm : mutPos 0 ms = []) (hl : ms.length = ds.length) : callD [] sem ms ds en st = give (sem ds) en st := by
  unfold callD
  rw [prepT_id ms ds hl hn]
  simp only [hm, goneAt, prepS_id ms ds hl hn, rootsOf, List.Nodup, List.Pairwise.nil, and_self, if_true]
  unfold callF give
  cases sem ds with
  | bad => rfl
  | ok r ts => cases ts <;> rfl
  | exc c xs ts => cases ts <;> rfl
@[simp] theorem ev_oapp (i : Nat) (d : D) (st : Sto) : oApp (.cell i) d st = match st[i]? with
  | some (.lst ds) => if fitL (ds.length + 1) then .ok .non (st.set i (.lst (ds ++ [d]))) else .bad
  | _ => .bad := (rfl)
@[simp] theorem ev_setL (i : Nat) (k : Int) (z : D) (st : Sto) : oSetL (.cell i) (.int k) z st = match st[i]? with
  | some (.lst ds) => match ixN ds.length k with
    | some j => .ok () (st.set i (.lst (ds.set j z)))
    | none => .bad
  | _ => .bad := (rfl)
@[simp] theorem okDiv_small (i j : Int) (h : 0 < j) (h2 : j < 18446744073709551616) : okDiv i j = true := by
  have : j.natAbs < 2 ^ 64 := by omega
  have := PySem.Flt.log2_lt_of (by decide) this
  unfold okDiv; simp only [Bool.and_eq_true, decide_eq_true_eq]; omega
@[simp] theorem okMod_pos (i j : Int) (h : 0 < j) : okMod i j = true := by unfold okMod; simp [h]
@[simp] theorem okMul_r (i j : Int) (h : -18446744073709551616 < j) (h2 : j < 18446744073709551616) : okMul i j = true := by
  have : small64 j = true := absLe_iff.mpr (by omega)
  unfold okMul
  simp only [this, Bool.true_or, Bool.or_true]
@[simp] theorem okMul_l (i j : Int) (h : -18446744073709551616 < i) (h2 : i < 18446744073709551616) : okMul i j = true := by
  have : small64 i = true := absLe_iff.mpr (by omega)
  unfold okMul
  simp only [this, Bool.true_or, Bool.or_true]
@[simp] theorem ok62_small (i : Int) (h : -4611686018427387904 < i) (h2 : i < 4611686018427387904) : ok62 i = true := by
  rw [ok62_iff]; omega
theorem ixN_nat (n k : Nat) : ixN n (k : Int) = if k < n then some k else none := by
  unfold ixN
  by_cases h : k < n
  · rw [if_pos (by omega), if_pos h, if_pos (by omega)]; rfl
  · rw [if_pos (by omega), if_neg h, if_neg (by omega)]
@[simp] theorem ixN_lit (n k : Nat) : ixN n (no_index (OfNat.ofNat k : Int)) = if k < n then some k else none := ixN_nat n k
theorem atI_nat {α : Type} (ds : List α) (k : Nat) : atI ds (k : Int) = ds[k]? := by
  unfold atI
  rw [ixN_nat]
  by_cases h : k < ds.length
  · rw [if_pos h]; rfl
  · rw [if_neg h, List.getElem?_eq_none_iff.mpr (by omega)]; rfl
@[simp] theorem atI_lit {α : Type} (ds : List α) (k : Nat) : atI ds (no_index (OfNat.ofNat k : Int)) = ds[k]? := atI_nat ds _
@[simp] theorem ev_ixT (ds : List D) (i : Int) (st : Sto) : oIx (.tup ds) (.int i) st = match atI ds i with | some d => .ok d st | none => .bad := (rfl)
@[simp] theorem ev_ixL (m : Mk) (ds : List D) (i : Int) (st : Sto) : oIx (.lst m ds) (.int i) st = match itemsOf st (.lst m ds) with | some ds => (match atI ds i with | some d => .ok d st | none => .bad) | none => .bad := (rfl)
@[simp] theorem ev_ixC (j : Nat) (i : Int) (st : Sto) : oIx (.cell j) (.int i) st = match itemsOf st (.cell j) with | some ds => (match atI ds i with | some d => .ok d st | none => .bad) | none => .bad := (rfl)
@[simp] theorem ev_fin (ps : List D) (d : D) (st : Sto) (h : d.pl = true) : fin [] ps d st = .ok d [] := fin_pl h
@[simp] theorem ev_xfun (np nl : Nat) (body : XS) (ds : List D) (hn : nocL ds = true) (hl : ds.length = np) : xfun np nl [] body ds = match body (ds.map some ++ List.replicate nl none) [] with
    | .ok (.rt d, _) st => fin [] ds d st
    | .ok (.nx, _) st => fin [] ds .non st
    | .ok _ _ => .bad
    | .exc c xs _ st => finX [] ds c xs st
    | .bad => .bad := xfun_pl hn hl
@[simp] theorem isa_NoneType_int : isaN "NoneType" "int" = some false := by decide +kernel
@[simp] theorem isa_NoneType_bool : isaN "NoneType" "bool" = some false := by decide +kernel
@[simp] theorem isa_NoneType_tuple : isaN "NoneType" "tuple" = some false := by decide +kernel
@[simp] theorem isa_NoneType_list : isaN "NoneType" "list" = some false := by decide +kernel
@[simp] theorem isa_NoneType_str : isaN "NoneType" "str" = some false := by decide +kernel
@[simp] theorem isa_NoneType_dict : isaN "NoneType" "dict" = some false := by decide +kernel
@[simp] theorem isa_bool_int : isaN "bool" "int" = some true := by decide +kernel
@[simp] theorem isa_bool_bool : isaN "bool" "bool" = some true := by decide +kernel
@[simp] theorem isa_bool_tuple : isaN "bool" "tuple" = some false := by decide +kernel
@[simp] theorem isa_bool_list : isaN "bool" "list" = some false := by decide +kernel
@[simp] theorem isa_bool_str : isaN "bool" "str" = some false := by decide +kernel
@[simp] theorem isa_bool_dict : isaN "bool" "dict" = some false := by decide +kernel
@[simp] theorem isa_int_int : isaN "int" "int" = some true := by decide +kernel
@[simp] theorem isa_int_bool : isaN "int" "bool" = some false := by decide +kernel
@[simp] theorem isa_int_tuple : isaN "int" "tuple" = some false := by decide +kernel
@[simp] theorem isa_int_list : isaN "int" "list" = some false := by decide +kernel
@[simp] theorem isa_int_str : isaN "int" "str" = some false := by decide +kernel
@[simp] theorem isa_int_dict : isaN "int" "dict" = some false := by decide +kernel
@[simp] theorem isa_str_int : isaN "str" "int" = some false := by decide +kernel
@[simp] theorem isa_str_bool : isaN "str" "bool" = some false := by decide +kernel
@[simp] theorem isa_str_tuple : isaN "str" "tuple" = some false := by decide +kernel
@[simp] theorem isa_str_list : isaN "str" "list" = some false := by decide +kernel
@[simp] theorem isa_str_str : isaN "str" "str" = some true := by decide +kernel
@[simp] theorem isa_str_dict : isaN "str" "dict" = some false := by decide +kernel
@[simp] theorem isa_tuple_int : isaN "tuple" "int" = some false := by decide +kernel
@[simp] theorem isa_tuple_bool : isaN "tuple" "bool" = some false := by decide +kernel
@[simp] theorem isa_tuple_tuple : isaN "tuple" "tuple" = some true := by decide +kernel
@[simp] theorem isa_tuple_list : isaN "tuple" "list" = some false := by decide +kernel
@[simp] theorem isa_tuple_str : isaN "tuple" "str" = some false := by decide +kernel
@[simp] theorem isa_tuple_dict : isaN "tuple" "dict" = some false := by decide +kernel
@[simp] theorem isa_list_int : isaN "list" "int" = some false := by decide +kernel
@[simp] theorem isa_list_bool : isaN "list" "bool" = some false := by decide +kernel
@[simp] theorem isa_list_tuple : isaN "list" "tuple" = some false := by decide +kernel
@[simp] theorem isa_list_list : isaN "list" "list" = some true := by decide +kernel
@[simp] theorem isa_list_str : isaN "list" "str" = some false := by decide +kernel
@[simp] theorem isa_list_dict : isaN "list" "dict" = some false := by decide +kernel
@[simp] theorem isa_dict_int : isaN "dict" "int" = some false := by decide +kernel
@[simp] theorem isa_dict_bool : isaN "dict" "bool" = some false := by decide +kernel
@[simp] theorem isa_dict_tuple : isaN "dict" "tuple" = some false := by decide +kernel
@[simp] theorem isa_dict_list : isaN "dict" "list" = some false := by decide +kernel
@[simp] theorem isa_dict_str : isaN "dict" "str" = some false := by decide +kernel
@[simp] theorem isa_dict_dict : isaN "dict" "dict" = some true := by decide +kernel
@[simp] theorem ev_isa (T : String) (x : D) (st : Sto) : bIsa T x st = match (tyN st x).bind fun t => isaN t T with | some b => .ok (.bl b) st | none => .bad := (rfl)
@[simp] theorem tyN_non (st : Sto) : tyN st .non = some "NoneType" := (rfl)
@[simp] theorem tyN_bl (st : Sto) (b : Bool) : tyN st (.bl b) = some "bool" := (rfl)
@[simp] theorem tyN_int (st : Sto) (b : Int) : tyN st (.int b) = some "int" := (rfl)
@[simp] theorem tyN_str (st : Sto) (b : Str) : tyN st (.str b) = some "str" := (rfl)
@[simp] theorem tyN_tup (st : Sto) (b : List D) : tyN st (.tup b) = some "tuple" := (rfl)
@[simp] theorem tyN_frz (st : Sto) (b : List D) : tyN st (.lst .frz b) = some "list" := (rfl)
@[simp] theorem tyN_loan (st : Sto) (b : List D) : tyN st (.lst .loan b) = some "list" := (rfl)
@[simp] theorem tyN_cell (st : Sto) (i : Nat) : tyN st (.cell i) = match st[i]? with
    | some (.lst _) => some "list"
    | some (.dk _ _) => some "dict"
    | some (.dt _ _) => some "dict"
    | _ => none := (rfl)
@[simp] theorem ev_lenS (z : Str) (st : Sto) : bLen [.str z] st = if fitL z.length then .ok (.int z.length) st else .bad := (rfl)
@[simp] theorem ev_lenT (ds : List D) (st : Sto) : bLen [.tup ds] st = .ok (.int ds.length) st := (rfl)
@[simp] theorem ev_lenL (m : Mk) (ds : List D) (st : Sto) : bLen [.lst m ds] st = match itemsOf st (.lst m ds) with | some es => .ok (.int es.length) st | none => .bad := (rfl)
@[simp] theorem ev_lenC (i : Nat) (st : Sto) : bLen [.cell i] st = match itemsOf st (.cell i) with | some es => .ok (.int es.length) st | none => .bad := (rfl)
@[simp] theorem ev_anyT (c : XE) (en : En) (st : Sto) : iany c en st = (c en st).bind fun d st => match d with
  | .tup ds => .ok ⟨ds, []⟩ st
  | .str z => .ok ⟨signs z, []⟩ st
  | d => match lsrc st d with
    | some it => .ok it st
    | none => .bad := (rfl)
@[simp] theorem lsrc_ro (ds : List D) (st : Sto) : lsrc st (.lst .ro ds) = some ⟨ds, []⟩ := (rfl)
@[simp] theorem lsrc_frz (ds : List D) (st : Sto) : lsrc st (.lst .frz ds) = some ⟨ds, []⟩ := (rfl)
@[simp] theorem lsrc_loan (ds : List D) (st : Sto) : lsrc st (.lst .loan ds) = some ⟨ds, []⟩ := (rfl)
@[simp] theorem lsrc_cell (i : Nat) (st : Sto) : lsrc st (.cell i) = match st[i]? with | some (.lst ds) => some ⟨ds, [(i, ds)]⟩ | _ => none := (rfl)
@[simp] theorem okSrc_cons (p : Nat × List D) (r : List (Nat × List D)) (st : Sto) : okSrc (p :: r) st = (Cell.isLst st[p.1]? p.2 && okSrc r st) := (rfl)
@[simp] theorem isLst_self (ds : List D) : Cell.isLst (some (.lst ds)) ds = true := beqL_self ds
end Px
namespace Px
open PySem PySem.Spec L2
structure ConstF (G : GS) (mg : Str → Option Value) (x : Str) (d : D) : Prop where
  ex : ∃ (v : V) (u : Value), mg x = some u ∧ RelV v u ∧ ∀ g, Rep G g d v
section
variable {G : GS} {W : WX} {X : Cx}
theorem se_const {x : Str} {d : D} {pos : Pos} (h : ConstF G X.mg x d) (hg : Gl X x := by rfl) (hd : (x == ("__debug__" : Str)) = false := by decide) : SE G W X (.Name x pos) (xc d) := by
  obtain ⟨v, u, h1, h2, h3⟩ := h.ex
  refine ⟨PE_imp (pe_glob hg h1 h2 hd) fun σ H Q ⟨g, en, st, R, h⟩ => ?_⟩
  exact h g H (Le.refl g) R v (h3 g)
theorem rep_ktup {a : Addr} {od : Option Addr} {its : Array Value} {n : Nat} {sl : Array (Option Value)} {vs : List V} {ds : List D} (lk : G.K.lookup a = some ⟨.type "tuple", od, .seq its n, sl⟩) (hs : its.size ≤ sizeLine) (hv : Vals vs its.toList)
    (hr : ∀ g, RepL G g ds vs) : ∀ g, Rep G g (.tup ds) (.ref a) := fun g => ⟨a, vs, rfl, .inr ⟨_, its, n, lk, rfl, rfl, hs, hv⟩, hr g⟩
theorem rep_klst {a : Addr} {its : Array Value} {n : Nat} {sl : Array (Option Value)} {vs : List V} {ds : List D} (lk : G.K.lookup a = some ⟨.type "list", none, .seq its n, sl⟩) (hs : its.size ≤ sizeLine) (hv : Vals vs its.toList)
    (hr : ∀ g, RepL G g ds vs) : ∀ g, Rep G g (.lst .ro ds) (.ref a) := fun g => ⟨a, vs, rfl, .inr ⟨_, its, n, lk, rfl, rfl, rfl, hs, hv⟩, hr g⟩
def KRel (G : GS) : List DictEntry → List (Str × D) → Prop
  | [], [] => True
  | e :: es, p :: r => (∃ t, e.key = .str p.1 t) ∧ (∃ v, RelV v e.val ∧ ∀ g, Rep G g p.2 v) ∧ KRel G es r
  | _, _ => False
structure KD (G : GS) (w : World) (mg : Str → Option Value) (x : Str) (kvs : List (Str × D)) : Prop where
  ex : ∃ (a : Addr) (es : Array DictEntry) (n : Nat), mg x = some (.ref a) ∧ L2.KDict G.K w a es n ∧ KRel G es.toList kvs
theorem KRel.some {es : List DictEntry} {kvs : List (Str × D)} (h : KRel G es kvs) {z : Str} {d : D} (e : kvs.lookup z = some d) : ∃ x v, es.find? (·.key.isStr z) = some x ∧ RelV v x.val ∧ ∀ g, Rep G g d v := by
  induction es generalizing kvs with
  | nil => cases kvs with
    | nil => simp at e
    | cons p r => exact h.elim
  | cons x es ih =>
    cases kvs with
    | nil => exact h.elim
    | cons p r =>
      obtain ⟨⟨t, h1⟩, ⟨v, h2, h3⟩, h4⟩ := h
      rw [List.lookup_cons] at e
      have hk : x.key.isStr z = (p.1 == z) := by rw [h1]; rfl
      by_cases c : z = p.1
      · subst c
        simp at e
        subst e
        exact ⟨x, v, by rw [List.find?_cons, hk]; simp, h2, h3⟩
      · have c1 : (z == p.1) = false := by simpa using c
        have c2 : (p.1 == z) = false := by simpa using fun q => c q.symm
        rw [c1] at e
        obtain ⟨y, u, e1, e2⟩ := ih h4 e
        exact ⟨y, u, by rw [List.find?_cons, hk, c2]; exact e1, e2⟩
theorem KRel.none {es : List DictEntry} {kvs : List (Str × D)} (h : KRel G es kvs) {z : Str} (e : kvs.lookup z = none) : es.find? (·.key.isStr z) = none ∧ es.any (·.refKey) = false := by
  induction es generalizing kvs with
  | nil => exact ⟨rfl, rfl⟩
  | cons x es ih =>
    cases kvs with
    | nil => exact h.elim
    | cons p r =>
      obtain ⟨⟨t, h1⟩, ⟨v, h2, h3⟩, h4⟩ := h
      rw [List.lookup_cons] at e
      have hk : x.key.isStr z = (p.1 == z) := by rw [h1]; rfl
      by_cases c : z = p.1
      · subst c
        simp at e
      · have c1 : (z == p.1) = false := by simpa using c
        have c2 : (p.1 == z) = false := by simpa using fun q => c q.symm
        rw [c1] at e
        obtain ⟨e1, e2⟩ := ih h4 e
        exact ⟨by rw [List.find?_cons, hk, c2]; exact e1, by rw [List.any_cons, e2]; simp [DictEntry.refKey, h1]⟩
theorem kd_some {w : World} {a : Addr} {es : Array DictEntry} {n : Nat} {kvs : List (Str × D)} (hk : L2.KDict G.K w a es n) (h : KRel G es.toList kvs) {z : Str} {d : D} (e : kvs.lookup z = some d) :
    ∃ u v, PySem.W.nsIn G.K a z = some (some u) ∧ RelV v u ∧ ∀ g, Rep G g d v := by
  obtain ⟨x, v, e1, e2, e3⟩ := h.some e
  refine ⟨x.val, v, ?_, e2, e3⟩
  unfold PySem.W.nsIn
  rw [hk.at_]
  simp only [e1]
theorem kd_none {w : World} {a : Addr} {es : Array DictEntry} {n : Nat} {kvs : List (Str × D)} (hk : L2.KDict G.K w a es n) (h : KRel G es.toList kvs) {z : Str} (e : kvs.lookup z = none) : PySem.W.nsIn G.K a z = some none := by
  obtain ⟨e1, e2⟩ := h.none e
  unfold PySem.W.nsIn
  rw [hk.at_]
  simp only [e1, e2]
  rfl
def xkget (kvs : List (Str × D)) (c : XE) : XE := fun en st => (c en st).bind fun y st => match y with
  | .str z => match kvs.lookup z with
    | some d => .ok d st
    | none => .bad
  | _ => .bad
theorem se_kget {x : Str} {kvs : List (Str × D)} {e : Expr} {c : XE} {p pos : Pos} (hK : X.K = G.K) (D : KD G X.w X.mg x kvs) (he : SE G W X e c) (hg : Gl X x := by rfl) (hs : PlainIx e := by intro _ _; rfl) (hd : (x == ("__debug__" : Str)) = false := by decide) :
    SE G W X (.Subscript (.Name x p) e pos) (xkget kvs c) := by
  obtain ⟨a, es, n, h1, h2, h3⟩ := D.ex
  refine ⟨PE_imp (pe_ix L2.ix_kdict (pe_glob (v := .ref a) hg h1 rfl hd) he.pe hs) fun σ H Q ⟨g, en, st, R, h⟩ => ?_⟩
  refine ⟨g, en, st, R, (pX.bind h).imp fun y st1 g1 H1 l1 R1 h1 u ru => ?_⟩
  split at h1
  · rename_i z
    split at h1
    · rename_i d hd
      obtain ⟨u0, v, e1, e2, e3⟩ := kd_some h2 h3 hd
      rw [← hK] at e1
      exact ⟨a, z, v, rfl, ru, ⟨es, n, u0, by rw [hK]; exact h2.at_, h2.lit, e1, e2⟩, h1 g1 H1 (Le.refl _) R1 v (e3 g1)⟩
    · exact h1.elim
  · exact h1.elim
def xkin (b : Bool) (kvs : List (Str × D)) (c : XE) : XT := fun en st => (c en st).bind fun y st => match y with
  | .str z => .ok (b == (kvs.lookup z).isSome) st
  | _ => .bad
theorem kin_of {kvs : List (Str × D)} {a : Addr} {es : Array DictEntry} {n : Nat} {z : Str} (hK : X.K = G.K) (h2 : L2.KDict G.K X.w a es n) (h3 : KRel G es.toList kvs) : ∃ r : Option Value, PySem.W.nsIn X.K a z = some r ∧ r.isSome = (kvs.lookup z).isSome := by
  cases e : kvs.lookup z with
  | none => exact ⟨none, by rw [hK]; exact kd_none h2 h3 e, rfl⟩
  | some d =>
    obtain ⟨u, v, e1, _⟩ := kd_some h2 h3 e
    exact ⟨some u, by rw [hK]; exact e1, rfl⟩
theorem se_kin {x : Str} {kvs : List (Str × D)} {e : Expr} {c : XE} {p pos : Pos} (hK : X.K = G.K) (D : KD G X.w X.mg x kvs) (he : SE G W X e c) (hg : Gl X x := by rfl) (hd : (x == ("__debug__" : Str)) = false := by decide) (hm : behindInMarks .In (.Name x p) = false := by first | exact nomark _ | rfl) :
    SE G W X (.Compare e [.In] [.Name x p] pos) (xb (xkin true kvs c)) := by
  obtain ⟨a, es, n, h1, h2, h3⟩ := D.ex
  have h2' : L2.KDict X.K X.w a es n := by rw [hK]; exact h2
  refine ⟨PE_imp (pe_cmpR (L2.op_in_kd h2') he.pe (pe_glob (v := .ref a) hg h1 rfl hd) hm) fun σ H Q ⟨g, en, st, R, h⟩ => ?_⟩
  unfold xb xkin at h
  refine ⟨g, en, st, R, (pX.bind (pX.bind h)).imp fun y st1 g1 H1 l1 R1 h1 u ru => ?_⟩
  split at h1
  · rename_i z
    obtain ⟨r, e1, e2⟩ := kin_of (z := z) hK h2 h3
    refine ⟨z, r, ru, rfl, e1, ?_⟩
    rw [e2]
    have := h1 g1 H1 (Le.refl _) R1
    simpa using this g1 H1 (Le.refl _) R1 _ rfl
  · exact h1.elim
end
end Px
namespace Px
open PySem PySem.Spec L2
section
variable {G : GS} {W : WX} {X : Cx}
abbrev XO := En → Sto → R (Option Int)
def xonone : XO := fun _ st => .ok none st
def xosome (c : XE) : XO := fun en st => (c en st).bind fun d st => match d with
  | .int i => .ok (some i) st
  | _ => .bad
def tOo (G : GS) (W : WX) (c : XO) : TO := fun σ H Q => ∃ g en st, Rel G g en st σ H ∧ pX G W g en σ (c en st) fun o _ _ H' => Q o H'
structure SO (G : GS) (W : WX) (X : Cx) (e : Option Expr) (c : XO) : Prop where
  po : PO X e (tOo G W c)
theorem PO_imp {e : Option Expr} {t t' : TO} (h : PO X e t) (i : ∀ σ H Q, t' σ H Q → t σ H Q) : PO X e t' := ⟨fun pins s σ H Q I w => h.run pins s σ H Q I (i _ _ _ w)⟩
theorem so_none : SO G W X none xonone := ⟨PO_imp po_none fun σ H Q ⟨g, en, st, R, h⟩ => h g H (Le.refl _) R⟩
theorem so_some {e : Expr} {c : XE} (h : SE G W X e c) : SO G W X (some e) (xosome c) := ⟨PO_imp (po_some h.pe) fun σ H Q ⟨g, en, st, R, h⟩ => by
  refine ⟨g, en, st, R, (pX.bind h).imp fun d st1 g1 H1 l1 R1 h1 v rv => ?_⟩
  split at h1
  · rename_i i
    exact ⟨i, rv, h1 g1 H1 (Le.refl _) R1⟩
  · exact h1.elim⟩
def cutG {α : Type} (xs : List α) (lo hi : Option Int) : List α := (xs.drop (HT.sIx xs.length 0 lo)).take (HT.sIx xs.length xs.length hi - HT.sIx xs.length 0 lo)
theorem RepL.cut {g : Gh} {ds : List D} {vs : List V} (r : RepL G g ds vs) (lo hi : Option Int) : RepL G g (cutG ds lo hi) (cutV vs lo hi) := by
  unfold cutG cutV
  rw [r.length]
  exact (r.drop _).take _
def oSl (d : D) (lo hi : Option Int) (st : Sto) : R D := match d with
  | .str z => if fitL z.length then .ok (.str (cutS z lo hi)) st else .bad
  | .tup ds => .ok (.tup (cutG ds lo hi)) st
  | d => match seqOf st d with
    | some ds => .ok (.cell st.length) (st ++ [.lst (cutG ds lo hi)])
    | none => .bad
def xsl (a : XE) (lo hi : XO) : XE := fun en st => (a en st).bind fun x st => (lo en st).bind fun l st => (hi en st).bind fun h st => oSl x l h st
def rSl (G : GS) (W : WX) : V → Option Int → Option Int → Hp → VK → Prop := fun v lo hi H Q => ∃ g en st σ x, Rel G g en st σ H ∧ Rep G g x v ∧ pX G W g en σ (oSl x lo hi st) fun d g' _ H' => ∀ v, Rep G g' d v → Q v H'
theorem SlR_imp {r r' : V → Option Int → Option Int → Hp → VK → Prop} (h : L2.SlR X r) (i : ∀ x lo hi H Q, r' x lo hi H Q → r x lo hi H Q) : L2.SlR X r' := fun pins s σ H x v vl vu lo hi sl Q I rx hs pl pu w => h pins s σ H x v vl vu lo hi sl Q I rx hs pl pu (i _ _ _ _ _ w)
theorem ho_sl (hK : X.K = G.K) : L2.SlR X (rSl G W) := SlR_imp (L2.SlR.or L2.sl_tupA (L2.SlR.or sl_list sl_str)) fun v lo hi H Q ⟨g, en, st, σ, x, R, rx, h⟩ => by
  unfold oSl at h
  split at h
  · rename_i z
    split at h
    · rename_i c
      exact .inr (.inr ⟨z, rx, fitL_ok c, h g H (Le.refl _) R _ rfl⟩)
    · exact h.elim
  · rename_i ds
    obtain ⟨a, vs, e1, e2, e3⟩ := tup_H R rx
    refine .inl ⟨a, vs, e1, by rw [hK]; exact e2, fun z => ?_, fun z p hp => ?_⟩
    · have hc : cutG ds lo hi = ds := by
        unfold cutG
        rw [e3.length, z.1, z.2]
        simp [← e3.length]
      rw [hc] at h
      exact h g H (Le.refl _) R _ (by rw [← e1]; exact rx)
    · obtain ⟨l, R', r'⟩ := R.tup hp (e3.cut lo hi)
      exact h _ _ l R' _ r'
  · split at h
    · rename_i ds hds
      obtain ⟨a, vs, e1, e2, e3⟩ := seqOf_H R rx hds
      refine .inr (.inl ⟨a, vs, e1, by rw [hK]; exact e2, fun p hp => ?_⟩)
      obtain ⟨l, R', r'⟩ := R.new (c := .lst (cutG ds lo hi)) hp ⟨_, rfl, e3.cut lo hi⟩
      exact h _ _ l R' _ r'
    · exact h.elim
theorem se_slice {a : Expr} {lo hi : Option Expr} {ca : XE} {cl ch : XO} {p2 pos : Pos} (hK : X.K = G.K) (ha : SE G W X a ca) (hl : SO G W X lo cl) (hh : SO G W X hi ch) : SE G W X (.Subscript a (.Slice lo hi none p2) pos) (xsl ca cl ch) :=
  ⟨PE_imp (pe_slice (ho_sl hK) ha.pe hl.po hh.po) fun σ H Q ⟨g, en, st, R, h⟩ => by
    refine ⟨g, en, st, R, (pX.bind h).imp fun x st1 g1 H1 l1 R1 h1 v rv => ?_⟩
    refine ⟨g1, en, st1, R1, (pX.bind h1).imp fun l st2 g2 H2 l2 R2 h2 => ?_⟩
    refine ⟨g2, en, st2, R2, (pX.bind h2).imp fun u st3 g3 H3 l3 R3 h3 => ?_⟩
    exact ⟨g3, en, st3, σ, x, R3, rv.mono (l2.trans l3), h3⟩⟩
abbrev XM := D → List D → Sto → R D
def rM (G : GS) (W : WX) (f : XM) : V → List V → Hp → VK → Prop := fun v vs H Q => ∃ g en st σ x ds, Rel G g en st σ H ∧ Rep G g x v ∧ RepL G g ds vs ∧ pX G W g en σ (f x ds st) fun d g' _ H' => ∀ v, Rep G g' d v → Q v H'
def tyM (st : Sto) (d : D) : Option String := match d with
  | .str _ => some "str"
  | .int _ => some "int"
  | d => if (seqOf st d).isSome then some "list" else none
theorem tyM_ok (hK : X.K = G.K) {g : Gh} {en : En} {st : Sto} {σ : L2.St} {H : Hp} {d : D} {v : V} {T : String} (R : Rel G g en st σ H) (r : Rep G g d v) (h : tyM st d = some T) : tyV X.K T v H := by
  unfold tyM at h
  split at h
  · cases h; cases r; rfl
  · cases h; cases r; rfl
  · split at h
    · rename_i c
      cases h
      obtain ⟨ds, hds⟩ := Option.isSome_iff_exists.mp c
      exact tyV_list hK R r hds
    · cases h
def xmeth (T : String) (f : XM) (a : XE) (c : XA) : XE := fun en st => (a en st).bind fun x st => if tyM st x = some T then (c en st).bind fun ds st => f x ds st else .bad
theorem MtR_imp {id : String} {r r' : V → List V → Hp → VK → Prop} (h : MtR X id r) (i : ∀ x xs H Q, r' x xs H Q → r x xs H Q) : MtR X id r' := fun pins s σ H x xs v us Q I rx rs w => h pins s σ H x xs v us Q I rx rs (i _ _ _ _ w)
theorem se_bm {T : String} {name : Str} {id : String} {f : XM} {o e : Expr} {es : List Expr} {ca : XE} {c : XA} {apos cpos : Pos} (pa : PlainAttrs T) (slot : Slot T name id) (hty : typeOf (.builtin id) = pure (.type "method_descriptor")) (hm : MtR X id (rM G W f)) (hK : X.K = G.K)
    (ho : SE G W X o ca) (ha : SA G W X (e :: es) c) (hbase : attributeBase o name X.env (eval o X.env) = eval o X.env := by rfl)
    (hfew : ((backTo cpos (starEach (e :: es) X.env)).all (fun x => !x.1) && (backToKw cpos (keywordEach [] X.env)).all (fun x => x.1.isSome)
      && decide ((e :: es).length + ([] : List Keyword).length + (if ([] : List Keyword).isEmpty then 0 else 1) < 30)) = true := by rfl)
    (hline : (apos.endLine == cpos.line) = true := by rfl) (hs : starEach (e :: es) X.env = (false, eval e X.env) :: starEach es X.env := by rfl) (hplain : (backTo cpos (starEach es X.env)).any (·.1) = false := by rfl) :
    SE G W X (.Call (.Attribute o name apos) (e :: es) [] cpos) (xmeth T f ca c) :=
  ⟨PE_imp (pe_bm pa slot hty hm ho.pe ha.pa hbase hfew hline hs hplain) fun σ H Q ⟨g, en, st, R, h⟩ => by
    refine ⟨g, en, st, R, (pX.bind h).imp fun x st1 g1 H1 l1 R1 h1 v rv => ?_⟩
    split at h1
    · rename_i ht
      refine ⟨tyM_ok hK R1 rv ht, g1, en, st1, R1, (pX.bind h1).imp fun ds st2 g2 H2 l2 R2 h2 vs rvs => ?_⟩
      exact ⟨g2, en, st2, σ, x, ds, R2, rv.mono l2, rvs, h2⟩
    · exact h1.elim⟩
def xmeth0 (T : String) (f : XM) (a : XE) : XE := fun en st => (a en st).bind fun x st => if tyM st x = some T then f x [] st else .bad
theorem se_bm0 {T : String} {name : Str} {id : String} {f : XM} {o : Expr} {ca : XE} {apos cpos : Pos} (pa : PlainAttrs T) (slot : Slot T name id) (hty : typeOf (.builtin id) = pure (.type "method_descriptor")) (hm : MtR X id (rM G W f)) (hK : X.K = G.K)
    (ho : SE G W X o ca) (hbase : attributeBase o name X.env (eval o X.env) = eval o X.env := by rfl) (hline : (apos.endLine == cpos.line) = true := by rfl) : SE G W X (.Call (.Attribute o name apos) [] [] cpos) (xmeth0 T f ca) :=
  ⟨PE_imp (pe_bm0 pa slot hty hm ho.pe hbase hline) fun σ H Q ⟨g, en, st, R, h⟩ => by
    refine ⟨g, en, st, R, (pX.bind h).imp fun x st1 g1 H1 l1 R1 h1 v rv => ?_⟩
    split at h1
    · rename_i ht
      exact ⟨tyM_ok hK R1 rv ht, g1, en, st1, σ, x, [], R1, rv, rfl, h1⟩
    · exact h1.elim⟩
def strsOf : List D → Option (List Str)
  | [] => some []
  | .str z :: r => (strsOf r).map (z :: ·)
  | _ => none
theorem strsOf_ok {g : Gh} : ∀ {ds : List D} {vs : List V} {ys : List Str}, RepL G g ds vs → strsOf ds = some ys → vs = ys.map V.str
  | [], _, _, r, h => by cases r; cases h; rfl
  | .str z :: ds, _, _, ⟨v, vr, e1, e2, e3⟩, h => by
    obtain ⟨y, hy, rfl⟩ := Option.map_eq_some_iff.mp h
    cases e2
    rw [e1, strsOf_ok e3 hy]; rfl
  | .non :: _, _, _, _, h => by cases h
  | .bl _ :: _, _, _, _, h => by cases h
  | .int _ :: _, _, _, _, h => by cases h
  | .tup _ :: _, _, _, _, h => by cases h
  | .lst _ _ :: _, _, _, _, h => by cases h
  | .dk _ _ _ :: _, _, _, _, h => by cases h
  | .dt _ _ _ :: _, _, _, _, h => by cases h
  | .obj _ _ _ :: _, _, _, _, h => by cases h
  | .cell _ :: _, _, _, _, h => by cases h
def intsOf : List D → Option (List Int)
  | [] => some []
  | .int z :: r => (intsOf r).map (z :: ·)
  | _ => none
theorem intsOf_ok {g : Gh} : ∀ {ds : List D} {vs : List V} {ys : List Int}, RepL G g ds vs → intsOf ds = some ys → vs = ys.map V.int
  | [], _, _, r, h => by cases r; cases h; rfl
  | .int z :: ds, _, _, ⟨v, vr, e1, e2, e3⟩, h => by
    obtain ⟨y, hy, rfl⟩ := Option.map_eq_some_iff.mp h
    cases e2
    rw [e1, intsOf_ok e3 hy]; rfl
  | .non :: _, _, _, _, h => by cases h
  | .bl _ :: _, _, _, _, h => by cases h
  | .str _ :: _, _, _, _, h => by cases h
  | .tup _ :: _, _, _, _, h => by cases h
  | .lst _ _ :: _, _, _, _, h => by cases h
  | .dk _ _ _ :: _, _, _, _, h => by cases h
  | .dt _ _ _ :: _, _, _, _, h => by cases h
  | .obj _ _ _ :: _, _, _, _, h => by cases h
  | .cell _ :: _, _, _, _, h => by cases h
def mJoin : XM := fun x ds st => match x, ds with
  | .str a, [d] => match (itemsOf st d).bind strsOf with
    | some ys => if decide ((ys.map (·.length)).sum + ys.length * a.length ≤ 16777216) then .ok (.str (Txt.join a ys)) st else .bad
    | none => .bad
  | _, _ => .bad
theorem hm_join (hK : X.K = G.K) : MtR X "str.join" (rM G W mJoin) := MtR_imp mt_join fun v vs H Q ⟨g, en, st, σ, x, ds, R, rx, rs, h⟩ => by
  unfold mJoin at h
  split at h
  · rename_i a d
    split at h
    · rename_i ys hys
      obtain ⟨es, h1, h2⟩ := Option.bind_eq_some_iff.mp hys
      split at h
      · rename_i c
        obtain ⟨u, r, rfl, ru, rfl⟩ := rs
        obtain ⟨p, us, rfl, e2, e3⟩ := itemsOf_H R ru h1
        have := strsOf_ok e3 h2
        subst this
        exact ⟨a, p, ys, rx, rfl, by rw [hK]; exact e2, of_decide_eq_true c, h g H (Le.refl _) R _ rfl⟩
      · exact h.elim
    · exact h.elim
  · exact h.elim
def mExtend : XM := fun x ds st => match x, ds with
  | .cell i, [d] => match st[i]?, lstOf st d with
    | some (.lst es), some fs => if fitL (es.length + fs.length) then .ok .non (st.set i (.lst (es ++ fs))) else .bad
    | _, _ => .bad
  | _, _ => .bad
theorem hm_extend : MtR X "list.extend" (rM G W mExtend) := MtR_imp mt_extend fun v vs H Q ⟨g, en, st, σ, x, ds, R, rx, rs, h⟩ => by
  unfold mExtend at h
  split at h
  · rename_i i d
    split at h
    · rename_i es fs hes hfs
      split at h
      · rename_i c
        obtain ⟨u, r, rfl, ru, rfl⟩ := rs
        obtain ⟨a, o, rfl, e2, e3, vs, rfl, e5⟩ := R.isCell hes (by intro z; cases z) rx
        obtain ⟨p, us, rfl, f2, f3⟩ := lstOf_H R ru hfs
        exact ⟨a, p, vs, us, rfl, rfl, e3, f2, by rw [← e5.length, ← f3.length]; exact fitL_ok c, h g _ (Le.refl _) (R.put hes (by intro z; cases z) e2 ⟨_, rfl, e5.append f3⟩) _ rfl⟩
      · exact h.elim
    · exact h.elim
  · exact h.elim
def mPop : XM := fun x ds st => match x, ds with
  | .cell i, [] => match st[i]? with
    | some (.lst es) => match es[es.length - 1]? with
      | some d => .ok d (st.set i (.lst es.dropLast))
      | none => .bad
    | _ => .bad
  | _, _ => .bad
theorem hm_pop : MtR X "list.pop" (rM G W mPop) := MtR_imp mt_pop fun v vs H Q ⟨g, en, st, σ, x, ds, R, rx, rs, h⟩ => by
  unfold mPop at h
  split at h
  · rename_i i
    split at h
    · rename_i es hes
      split at h
      · rename_i d hd
        cases rs
        obtain ⟨a, o, rfl, e2, e3, vs, rfl, e5⟩ := R.isCell hes (by intro z; cases z) rx
        obtain ⟨y, hy, ry⟩ := e5.get hd
        refine ⟨a, vs, y, rfl, rfl, e3, by rw [← e5.length]; exact hy, ?_⟩
        exact h g _ (Le.refl _) (R.put hes (by intro z; cases z) e2 ⟨_, rfl, e5.dropLast⟩) _ ry
      · exact h.elim
    · exact h.elim
  · exact h.elim
def mPopAt : XM := fun x ds st => match x, ds with
  | .cell i, [.int k] => match st[i]? with
    | some (.lst es) => match ixN es.length k with
      | some j => match es[j]? with
        | some d => if fitL es.length then .ok d (st.set i (.lst (es.eraseIdx j))) else .bad
        | none => .bad
      | none => .bad
    | _ => .bad
  | _, _ => .bad
theorem hm_popAt : MtR X "list.pop" (rM G W mPopAt) := MtR_imp mt_popAt fun v vs H Q ⟨g, en, st, σ, x, ds, R, rx, rs, h⟩ => by
  unfold mPopAt at h
  split at h
  · rename_i i k
    split at h
    · rename_i es hes
      split at h
      · rename_i j hj
        split at h
        · rename_i d hd
          split at h
          · rename_i c
            obtain ⟨u, r, rfl, rfl, rfl⟩ := rs
            obtain ⟨a, o, rfl, e2, e3, vs, rfl, e5⟩ := R.isCell hes (by intro z; cases z) rx
            obtain ⟨y, hy, ry⟩ := e5.get hd
            obtain ⟨q1, q2, q3, q4⟩ := ixN_seq hj
            have : es.length ≤ 16777216 := of_decide_eq_true c
            refine ⟨a, vs, k, j, y, rfl, rfl, e3, by omega, by omega, by rw [← e5.length]; exact q1, hy, ?_⟩
            exact h g _ (Le.refl _) (R.put hes (by intro z; cases z) e2 ⟨_, rfl, e5.eraseIdx j⟩) _ ry
          · exact h.elim
        · exact h.elim
      · exact h.elim
    · exact h.elim
  · exact h.elim
def mInsert : XM := fun x ds st => match x, ds with
  | .cell i, [.int k, y] => match st[i]? with
    | some (.lst es) => if decide (es.length < 16777216) && decide (0 ≤ k) && absLe k 4611686018427387903 then .ok .non (st.set i (.lst (es.take k.toNat ++ [y] ++ es.drop k.toNat))) else .bad
    | _ => .bad
  | _, _ => .bad
theorem hm_insert : MtR X "list.insert" (rM G W mInsert) := MtR_imp L2.mt_insert fun v vs H Q ⟨g, en, st, σ, x, ds, R, rx, rs, h⟩ => by
  unfold mInsert at h
  split at h
  · rename_i i k y
    split at h
    · rename_i es hes
      split at h
      · rename_i c
        simp only [Bool.and_eq_true, absLe_iff, decide_eq_true_eq] at c
        obtain ⟨u, r, rfl, rfl, v2, r2, rfl, r3, rfl⟩ := rs
        obtain ⟨a, o, rfl, e2, e3, vs, rfl, e5⟩ := R.isCell hes (by intro z; cases z) rx
        refine ⟨a, vs, k, v2, rfl, rfl, e3, by rw [← e5.length, sizeLine_eq]; exact c.1.1, c.1.2, by omega, ?_⟩
        exact h g _ (Le.refl _) (R.put hes (by intro z; cases z) e2 ⟨_, rfl, ((e5.take _).append (.one r3)).append (e5.drop _)⟩) _ rfl
      · exact h.elim
    · exact h.elim
  · exact h.elim
def mRemove : XM := fun x ds st => match x, ds with
  | .cell i, [.int k] => match st[i]? with
    | some (.lst es) => match intsOf es with
      | some ns => match ns.idxOf? k with
        | some j => .ok .non (st.set i (.lst ((ns.eraseIdx j).map D.int)))
        | none => .bad
      | none => .bad
    | _ => .bad
  | _, _ => .bad
theorem hm_remove : MtR X "list.remove" (rM G W mRemove) := MtR_imp mt_remove fun v vs H Q ⟨g, en, st, σ, x, ds, R, rx, rs, h⟩ => by
  unfold mRemove at h
  split at h
  · rename_i i k
    split at h
    · rename_i es hes
      split at h
      · rename_i ns hns
        split at h
        · rename_i j hj
          obtain ⟨u, r, rfl, rfl, rfl⟩ := rs
          obtain ⟨a, o, rfl, e2, e3, vs, rfl, e5⟩ := R.isCell hes (by intro z; cases z) rx
          have := intsOf_ok e5 hns
          subst this
          unfold List.idxOf? at hj
          rw [List.findIdx?_eq_some_iff_getElem] at hj
          obtain ⟨h1, h2, h3⟩ := hj
          refine ⟨a, ns, k, j, rfl, rfl, e3, by rw [List.getElem?_eq_getElem h1]; simpa using h2, fun m hm e => ?_, ?_⟩
          · obtain ⟨h4, h5⟩ := List.getElem?_eq_some_iff.mp e
            have := h3 m hm
            rw [h5] at this
            simp at this
          · exact h g _ (Le.refl _) (R.put hes (by intro z; cases z) e2 ⟨_, rfl, .ints _⟩) _ rfl
        · exact h.elim
      · exact h.elim
    · exact h.elim
  · exact h.elim
def mIndex : XM := fun x ds st => match ds with
  | [y] => match seqOf st x with
    | some es => match flD y, flL es with
      | some w, some ws => match ws.findIdx? (fun z => eqV z w) with
        | some j => .ok (.int j) st
        | none => .bad
      | _, _ => .bad
    | none => .bad
  | _ => .bad
theorem hm_index (hK : X.K = G.K) : MtR X "list.index" (rM G W mIndex) := MtR_imp mt_index fun v vs H Q ⟨g, en, st, σ, x, ds, R, rx, rs, h⟩ => by
  unfold mIndex at h
  split at h
  · rename_i y
    split at h
    · rename_i es hes
      split at h
      · rename_i w ws hw hws
        split at h
        · rename_i j hj
          obtain ⟨u, r, rfl, ru, rfl⟩ := rs
          obtain ⟨a, us, rfl, e2, e3⟩ := seqOf_H R rx hes
          obtain ⟨rfl, f1⟩ := flD_ok ru hw
          obtain ⟨rfl, f2⟩ := flL_ok e3 hws
          rw [List.findIdx?_eq_some_iff_getElem] at hj
          obtain ⟨h1, h2, h3⟩ := hj
          refine ⟨a, us, u, j, us[j], rfl, rfl, by rw [hK]; exact e2, f1, f2, List.getElem?_eq_getElem h1, h2, fun m z hm e => ?_, h g H (Le.refl _) R _ rfl⟩
          obtain ⟨h4, h5⟩ := List.getElem?_eq_some_iff.mp e
          have := h3 m hm
          rw [h5] at this
          simpa using this
        · exact h.elim
      · exact h.elim
    · exact h.elim
  · exact h.elim
def mFind : XM := fun x ds st => match x, ds with
  | .str a, [.str b] => .ok (.int (Txt.find a b)) st
  | _, _ => .bad
theorem hm_find : MtR X "str.find" (rM G W mFind) := MtR_imp mt_find fun v vs H Q ⟨g, en, st, σ, x, ds, R, rx, rs, h⟩ => by
  unfold mFind at h
  split at h
  · obtain ⟨u, r, rfl, rfl, rfl⟩ := rs
    exact ⟨_, _, rx, rfl, h g H (Le.refl _) R _ rfl⟩
  · exact h.elim
def mStarts : XM := fun x ds st => match x, ds with
  | .str a, [.str b] => .ok (.bl (Txt.startswith a b)) st
  | _, _ => .bad
theorem hm_starts : MtR X "str.startswith" (rM G W mStarts) := MtR_imp mt_startswith fun v vs H Q ⟨g, en, st, σ, x, ds, R, rx, rs, h⟩ => by
  unfold mStarts at h
  split at h
  · obtain ⟨u, r, rfl, rfl, rfl⟩ := rs
    exact ⟨_, _, rx, rfl, h g H (Le.refl _) R _ rfl⟩
  · exact h.elim
theorem RepL.strs {g : Gh} : ∀ (ns : List Str), RepL G g (ns.map D.str) (ns.map V.str)
  | [] => rfl
  | z :: r => ⟨_, _, rfl, rfl, RepL.strs r⟩
def mSplit : XM := fun x ds st => match x, ds with
  | .str a, [.str b] => if !(b.length == 0) && fitL (a.length + 2) then .ok (.cell st.length) (st ++ [.lst ((Txt.split a b).map D.str)]) else .bad
  | .str a, [] => if fitL (a.length + 2) then .ok (.cell st.length) (st ++ [.lst ((Txt.words a).map D.str)]) else .bad
  | _, _ => .bad
theorem hm_split : MtR X "str.split" (rM G W mSplit) := MtR_imp (MtR.or mt_split mt_words) fun v vs H Q ⟨g, en, st, σ, x, ds, R, rx, rs, h⟩ => by
  unfold mSplit at h
  split at h
  · rename_i a b
    split at h
    · rename_i c
      simp only [Bool.and_eq_true, Bool.not_eq_true'] at c
      obtain ⟨u, r, rfl, rfl, rfl⟩ := rs
      refine .inl ⟨a, b, rx, rfl, c.1, fitL_ok c.2, fun p hp => ?_⟩
      obtain ⟨l, R', r'⟩ := R.new (c := .lst ((Txt.split a b).map D.str)) hp ⟨_, rfl, RepL.strs _⟩
      exact h _ _ l R' _ r'
    · exact h.elim
  · rename_i a
    split at h
    · rename_i c
      cases rs
      refine .inr ⟨a, rx, rfl, fitL_ok c, fun p hp => ?_⟩
      obtain ⟨l, R', r'⟩ := R.new (c := .lst ((Txt.words a).map D.str)) hp ⟨_, rfl, RepL.strs _⟩
      exact h _ _ l R' _ r'
    · exact h.elim
  · exact h.elim
def xbits (a : XE) : XE := fun en st => (a en st).bind fun x st => match x with
  | .int i => .ok (.int (Builtin.Int.intBits i : Nat)) st
  | _ => .bad
theorem se_bits {o : Expr} {a : XE} {apos pos : Pos} (ho : SE G W X o a) (hbase : attributeBase o "bit_length" X.env (eval o X.env) = eval o X.env := by rfl) (hline : (apos.endLine == pos.line) = true := by rfl) : SE G W X (.Call (.Attribute o "bit_length" apos) [] [] pos) (xbits a) :=
  ⟨PE_imp (pe_bits ho.pe hbase hline) fun σ H Q ⟨g, en, st, R, h⟩ => by
    refine ⟨g, en, st, R, (pX.bind h).imp fun x st1 g1 H1 l1 R1 h1 v rv => ?_⟩
    split at h1
    · rename_i i
      exact ⟨i, rv, h1 g1 H1 (Le.refl _) R1 _ rfl⟩
    · exact h1.elim⟩
end
end Px
namespace Px
open PySem PySem.Spec L2
section
variable {G : GS} {W : WX} {X : Cx}
def srt (ns : List Int) : List Int := ns.mergeSort fun a b => decide (a ≤ b)
theorem srt_perm (ns : List Int) : (srt ns).Perm ns := List.mergeSort_perm _ _
theorem srt_ord (ns : List Int) : (srt ns).Pairwise (· ≤ ·) := by
  have := List.pairwise_mergeSort (le := fun a b : Int => decide (a ≤ b)) (fun a b c h1 h2 => by simp at *; omega) (fun a b => by simp; omega) ns
  exact this.imp (by simp)
theorem srt_uniq {ns ms : List Int} (h : ms.Perm ns) (p : ms.Pairwise (· ≤ ·)) : ms = srt ns :=
  List.Perm.eq_of_pairwise (fun a b _ _ h1 h2 => Int.le_antisymm h1 h2) p (srt_ord ns) (h.trans (srt_perm ns).symm)
def bSorted : XF := fun ds st => match ds with
  | [d] => match (seqOf st d).bind intsOf with
    | some ns => .ok (.cell st.length) (st ++ [.lst ((srt ns).map D.int)])
    | none => .bad
  | _ => .bad
theorem hc_sorted (hK : X.K = G.K) : CallR X (.builtin "sorted") (rA G W bSorted) := CallR_imp cr_sortedI fun vs H Q ⟨g, en, st, σ, ds, R, r, h⟩ => by
  unfold bSorted at h
  split at h
  · rename_i d
    split at h
    · rename_i ns hns
      obtain ⟨es, h1, h2⟩ := Option.bind_eq_some_iff.mp hns
      obtain ⟨v, rr, rfl, rv, rfl⟩ := r
      obtain ⟨a, us, rfl, e2, e3⟩ := seqOf_H R rv h1
      have := intsOf_ok e3 h2
      subst this
      refine ⟨a, ns, rfl, by rw [hK]; exact e2, fun ms p hp ho hn => ?_⟩
      obtain rfl := srt_uniq hp ho
      obtain ⟨l, R', r'⟩ := R.new (c := .lst ((srt ns).map D.int)) hn ⟨_, rfl, RepL.ints _⟩
      exact h _ _ l R' _ r'
    · exact h.elim
  · exact h.elim
def maxL : List Int → Int
  | [] => 0
  | [a] => a
  | a :: r => max a (maxL r)
def minL : List Int → Int
  | [] => 0
  | [a] => a
  | a :: r => min a (minL r)
theorem maxL_ok : ∀ {ns : List Int}, ns ≠ [] → maxL ns ∈ ns ∧ ∀ y ∈ ns, y ≤ maxL ns
  | [], h => (h rfl).elim
  | [a], _ => by simp [maxL]
  | a :: b :: r, _ => by
    obtain ⟨h1, h2⟩ := maxL_ok (ns := b :: r) (by simp)
    have e : maxL (a :: b :: r) = max a (maxL (b :: r)) := rfl
    refine ⟨?_, fun y hy => ?_⟩
    · rw [e]
      rcases Int.le_total a (maxL (b :: r)) with q | q
      · rw [Int.max_eq_right q]; exact List.mem_cons_of_mem _ h1
      · rw [Int.max_eq_left q]; exact List.mem_cons_self
    · rw [e]
      rcases List.mem_cons.mp hy with rfl | hy
      · exact Int.le_max_left _ _
      · exact Int.le_trans (h2 y hy) (Int.le_max_right _ _)
theorem minL_ok : ∀ {ns : List Int}, ns ≠ [] → minL ns ∈ ns ∧ ∀ y ∈ ns, minL ns ≤ y
  | [], h => (h rfl).elim
  | [a], _ => by simp [minL]
  | a :: b :: r, _ => by
    obtain ⟨h1, h2⟩ := minL_ok (ns := b :: r) (by simp)
    have e : minL (a :: b :: r) = min a (minL (b :: r)) := rfl
    refine ⟨?_, fun y hy => ?_⟩
    · rw [e]
      rcases Int.le_total a (minL (b :: r)) with q | q
      · rw [Int.min_eq_left q]; exact List.mem_cons_self
      · rw [Int.min_eq_right q]; exact List.mem_cons_of_mem _ h1
    · rw [e]
      rcases List.mem_cons.mp hy with rfl | hy
      · exact Int.min_le_left _ _
      · exact Int.le_trans (Int.min_le_right _ _) (h2 y hy)
def bMax1 : XF := fun ds st => match ds with
  | [.int i, .int j] => .ok (.int (if j > i then j else i)) st
  | [d] => match (seqOf st d).bind intsOf with
    | some ns => if ns.isEmpty then .bad else .ok (.int (maxL ns)) st
    | none => .bad
  | _ => .bad
def bMin1 : XF := fun ds st => match ds with
  | [.int i, .int j] => .ok (.int (if j < i then j else i)) st
  | [d] => match (seqOf st d).bind intsOf with
    | some ns => if ns.isEmpty then .bad else .ok (.int (minL ns)) st
    | none => .bad
  | _ => .bad
theorem CallR_or {f : Value} {r r' : List V → Hp → VK → Prop} (h : CallR X f r) (h' : CallR X f r') : CallR X f (fun x H Q => r x H Q ∨ r' x H Q) := fun pins s σ H x v Q I rx w => w.elim (h pins s σ H x v Q I rx) (h' pins s σ H x v Q I rx)
theorem hc_max1 (hK : X.K = G.K) (hc : X.calm = true) : CallR X (.builtin "max") (rA G W bMax1) := CallR_imp (CallR_or (call_max2 hc) (cr_max hc)) fun vs H Q ⟨g, en, st, σ, ds, R, r, h⟩ => by
  unfold bMax1 at h
  split at h
  · rename_i i j
    obtain ⟨v, rr, rfl, rfl, v2, r2, rfl, rfl, rfl⟩ := r
    exact .inl ⟨i, j, rfl, h g H (Le.refl _) R _ rfl⟩
  · rename_i d
    split at h
    · rename_i ns hns
      split at h
      · exact h.elim
      · rename_i hne
        obtain ⟨es, h1, h2⟩ := Option.bind_eq_some_iff.mp hns
        obtain ⟨v, rr, rfl, rv, rfl⟩ := r
        obtain ⟨a, us, rfl, e2, e3⟩ := seqOf_H R rv h1
        have := intsOf_ok e3 h2
        subst this
        have hne : ns ≠ [] := by simpa using hne
        obtain ⟨q1, q2⟩ := maxL_ok hne
        refine .inr ⟨a, ns, rfl, by rw [hK]; exact e2, List.length_pos_iff.mpr hne, fun m hm hy => ?_⟩
        obtain rfl : m = maxL ns := Int.le_antisymm (q2 m hm) (hy _ q1)
        exact h g H (Le.refl _) R _ rfl
    · exact h.elim
  · exact h.elim
theorem hc_min1 (hK : X.K = G.K) (hc : X.calm = true) : CallR X (.builtin "min") (rA G W bMin1) := CallR_imp (CallR_or (call_min2 hc) (cr_min hc)) fun vs H Q ⟨g, en, st, σ, ds, R, r, h⟩ => by
  unfold bMin1 at h
  split at h
  · rename_i i j
    obtain ⟨v, rr, rfl, rfl, v2, r2, rfl, rfl, rfl⟩ := r
    exact .inl ⟨i, j, rfl, h g H (Le.refl _) R _ rfl⟩
  · rename_i d
    split at h
    · rename_i ns hns
      split at h
      · exact h.elim
      · rename_i hne
        obtain ⟨es, h1, h2⟩ := Option.bind_eq_some_iff.mp hns
        obtain ⟨v, rr, rfl, rv, rfl⟩ := r
        obtain ⟨a, us, rfl, e2, e3⟩ := seqOf_H R rv h1
        have := intsOf_ok e3 h2
        subst this
        have hne : ns ≠ [] := by simpa using hne
        obtain ⟨q1, q2⟩ := minL_ok hne
        refine .inr ⟨a, ns, rfl, by rw [hK]; exact e2, List.length_pos_iff.mpr hne, fun m hm hy => ?_⟩
        obtain rfl : m = minL ns := Int.le_antisymm (hy _ q1) (q2 m hm)
        exact h g H (Le.refl _) R _ rfl
    · exact h.elim
  · exact h.elim
theorem walks_rev {g0 : Gh} {st0 : Sto} {d : D} {a : Addr} {it : Itm} (r : Rep G g0 d (.ref a)) (h : lsrc st0 d = some it) : Walks G g0 ⟨it.its.reverse, it.src⟩ (Itv G.K a it.its.length) := by
  obtain ⟨a', e, q⟩ := lsrc_H r h
  cases e
  intro g en st σ H i l R ok
  obtain ⟨vs, e1, e2⟩ := q g en st σ H l R ok
  refine ⟨fun hi => by show it.its.length ≤ i; simpa using hi, fun d hd => ?_⟩
  have hi : i < it.its.length := by
    have := (List.getElem?_eq_some_iff.mp hd).1
    simpa using this
  rw [List.getElem?_reverse hi] at hd
  obtain ⟨x, hx, rx⟩ := e2.get hd
  refine ⟨⟨hi, vs, x, e1, hx⟩, fun y H' z => ?_⟩
  obtain ⟨rfl, z⟩ := z
  have := z vs e1
  rw [hx] at this; cases this
  exact ⟨g, Le.refl _, R, rx⟩
def irev (c : XA) : XI := fun en st => (c en st).bind fun ds st => match ds with
  | [d] => match lsrc st d with
    | some it => .ok ⟨it.its.reverse, it.src⟩ st
    | none => .bad
  | _ => .bad
theorem si_rev {tg e : Expr} {c : XA} {p pos : Pos} (hK : X.K = G.K) (hm : X.mg "reversed" = none) (ha : SA G W X [e] c) (hg : Gl X "reversed" := by rfl) (hs : starEach [e] X.env = [(false, eval e X.env)] := by rfl) : SI G W X tg (.Call (.Name "reversed" p) [e] [] pos) (irev c) :=
  ⟨PI_imp (pi_reversed hg hm ha.pa hs) fun σ H K ⟨g, en, st, R, w⟩ => by
    refine ⟨g, en, st, R, (pX.bind w).imp fun ds st1 g1 H1 l1 R1 h1 vs rvs => ?_⟩
    split at h1
    · rename_i d
      split at h1
      · rename_i it hit
        obtain ⟨v, r, rfl, rv, rfl⟩ := rvs
        obtain ⟨a, rfl, q⟩ := lsrc_H rv hit
        obtain ⟨us, e1, e2⟩ := q g1 en st1 σ H1 (Le.refl _) R1 (lsrc_ok hit)
        refine ⟨a, us, rfl, by rw [hK]; exact e1, ?_⟩
        rw [← e2.length, hK]
        exact h1 g1 H1 (Le.refl _) R1 _ (walks_rev rv hit)
      · exact h1.elim
    · exact h1.elim⟩
def enumL (ds : List D) : List D := ds.mapIdx fun i d => .tup [.int i, d]
theorem walks_enum {g0 : Gh} {st0 : Sto} {d : D} {a : Addr} {it : Itm} (r : Rep G g0 d (.ref a)) (h : lsrc st0 d = some it) : Walks G g0 ⟨enumL it.its, it.src⟩ (Ite G.K a) := by
  obtain ⟨a', e, q⟩ := lsrc_H r h
  cases e
  intro g en st σ H i l R ok
  obtain ⟨vs, e1, e2⟩ := q g en st σ H l R ok
  refine ⟨fun hi => ⟨vs, e1, by rw [← e2.length]; simpa [enumL] using hi⟩, fun d hd => ?_⟩
  simp only [enumL, List.getElem?_mapIdx] at hd
  obtain ⟨d', hd', rfl⟩ := Option.map_eq_some_iff.mp hd
  obtain ⟨x, hx, rx⟩ := e2.get hd'
  refine ⟨⟨vs, x, e1, hx⟩, fun y H' z => ?_⟩
  obtain ⟨T, x', rfl, hT, rfl, z⟩ := z
  have := z vs e1
  rw [hx] at this; cases this
  obtain ⟨l', R', r'⟩ := R.tup hT (ds := [.int i, d']) ⟨_, _, rfl, rfl, .one rx⟩
  exact ⟨_, l', R', r'⟩
def ienum (c : XA) : XI := fun en st => (c en st).bind fun ds st => match ds with
  | [d] => match lsrc st d with
    | some it => .ok ⟨enumL it.its, it.src⟩ st
    | none => .bad
  | _ => .bad
theorem si_enum {e : Expr} {c : XA} {p pos tpos : Pos} {elts : List Expr} {kk : Nat} (hK : X.K = G.K) (hm : X.mg "enumerate" = none) (ha : SA G W X [e] c) (hg : Gl X "enumerate" := by rfl) (hs : starEach [e] X.env = [(false, eval e X.env)] := by rfl) :
    SI G W X (.Tuple elts kk tpos) (.Call (.Name "enumerate" p) [e] [] pos) (ienum c) :=
  ⟨PI_imp (pi_enum hg hm ha.pa hs) fun σ H K ⟨g, en, st, R, w⟩ => by
    refine ⟨g, en, st, R, (pX.bind w).imp fun ds st1 g1 H1 l1 R1 h1 vs rvs => ?_⟩
    split at h1
    · rename_i d
      split at h1
      · rename_i it hit
        obtain ⟨v, r, rfl, rv, rfl⟩ := rvs
        obtain ⟨a, rfl, q⟩ := lsrc_H rv hit
        obtain ⟨us, e1, e2⟩ := q g1 en st1 σ H1 (Le.refl _) R1 (lsrc_ok hit)
        refine ⟨a, us, rfl, by rw [hK]; exact e1, ?_⟩
        rw [hK]
        exact h1 g1 H1 (Le.refl _) R1 _ (walks_enum rv hit)
      · exact h1.elim
    · exact h1.elim⟩
def zipL : List D → List D → List D
  | a :: r, b :: s => .tup [a, b] :: zipL r s
  | _, _ => []
theorem zipL_get : ∀ (a b : List D) (i : Nat) (d : D), (zipL a b)[i]? = some d → ∃ x y, a[i]? = some x ∧ b[i]? = some y ∧ d = .tup [x, y]
  | [], _, i, d, h => by simp [zipL] at h
  | _ :: _, [], i, d, h => by simp [zipL] at h
  | x :: r, y :: s, 0, d, h => by simp [zipL] at h; exact ⟨x, y, rfl, rfl, h.symm⟩
  | x :: r, y :: s, i + 1, d, h => by
    simp [zipL] at h
    obtain ⟨x', y', h1, h2, h3⟩ := zipL_get r s i d h
    exact ⟨x', y', by simpa using h1, by simpa using h2, h3⟩
theorem zipL_length : ∀ (a b : List D), (zipL a b).length = min a.length b.length
  | [], _ => by simp [zipL]
  | _ :: _, [] => by simp [zipL]
  | x :: r, y :: s => by simp only [zipL, List.length_cons, zipL_length r s]; omega
theorem walks_zip {g0 : Gh} {st0 : Sto} {d d2 : D} {a b : Addr} {it it2 : Itm} (r : Rep G g0 d (.ref a)) (h : lsrc st0 d = some it) (r2 : Rep G g0 d2 (.ref b)) (h2 : lsrc st0 d2 = some it2) : Walks G g0 ⟨zipL it.its it2.its, it.src ++ it2.src⟩ (Itz G.K a b) := by
  obtain ⟨a', e, q⟩ := lsrc_H r h
  cases e
  obtain ⟨b', e, q'⟩ := lsrc_H r2 h2
  cases e
  intro g en st σ H i l R ok
  rw [okSrc_app, Bool.and_eq_true] at ok
  obtain ⟨vs, e1, e2⟩ := q g en st σ H l R ok.1
  obtain ⟨us, f1, f2⟩ := q' g en st σ H l R ok.2
  refine ⟨fun hi => ⟨vs, us, e1, f1, ?_⟩, fun d hd => ?_⟩
  · rw [← e2.length, ← f2.length]
    simp only [zipL_length] at hi
    omega
  · obtain ⟨x, y, hx, hy, rfl⟩ := zipL_get _ _ _ _ hd
    obtain ⟨xv, hxv, rx⟩ := e2.get hx
    obtain ⟨yv, hyv, ry⟩ := f2.get hy
    refine ⟨⟨vs, us, xv, yv, e1, f1, hxv, hyv⟩, fun v H' z => ?_⟩
    obtain ⟨T, x', y', rfl, hT, rfl, z1, z2⟩ := z
    have := z1 vs e1
    rw [hxv] at this; cases this
    have := z2 us f1
    rw [hyv] at this; cases this
    obtain ⟨l', R', r'⟩ := R.tup hT (ds := [x, y]) ⟨_, _, rfl, rx, .one ry⟩
    exact ⟨_, l', R', r'⟩
theorem walks_zipT {g0 : Gh} {ds ds2 : List D} {a b : Addr} (r : Rep G g0 (.tup ds) (.ref a)) (r2 : Rep G g0 (.tup ds2) (.ref b)) : Walks G g0 ⟨zipL ds ds2, []⟩ (RZ.ItzT G.K a b) := by
  intro g en st σ H i l R ok
  obtain ⟨a', vs, e, e1, e2⟩ := tup_H R (r.mono l)
  cases e
  obtain ⟨b', us, e, f1, f2⟩ := tup_H R (r2.mono l)
  cases e
  refine ⟨fun hi => ⟨vs, us, e1, f1, ?_⟩, fun d hd => ?_⟩
  · rw [← e2.length, ← f2.length]
    simp only [zipL_length] at hi
    omega
  · obtain ⟨x, y, hx, hy, rfl⟩ := zipL_get _ _ _ _ hd
    obtain ⟨xv, hxv, rx⟩ := e2.get hx
    obtain ⟨yv, hyv, ry⟩ := f2.get hy
    refine ⟨⟨vs, us, xv, yv, e1, f1, hxv, hyv⟩, fun v H' z => ?_⟩
    obtain ⟨T, x', y', rfl, hT, rfl, z1, z2⟩ := z
    have := z1 vs e1
    rw [hxv] at this; cases this
    have := z2 us f1
    rw [hyv] at this; cases this
    obtain ⟨l', R', r'⟩ := R.tup hT (ds := [x, y]) ⟨_, _, rfl, rx, .one ry⟩
    exact ⟨_, l', R', r'⟩
def izip (c : XA) : XI := fun en st => (c en st).bind fun ds st => match ds with
  | [.tup a, .tup b] => .ok ⟨zipL a b, []⟩ st
  | [d, e] => match lsrc st d, lsrc st e with
    | some x, some y => .ok ⟨zipL x.its y.its, x.src ++ y.src⟩ st
    | _, _ => .bad
  | _ => .bad
theorem si_zip {e e2 : Expr} {c : XA} {p pos tpos : Pos} {elts : List Expr} {kk : Nat} (hK : X.K = G.K) (hm : X.mg "zip" = none) (ha : SA G W X [e, e2] c) (hg : Gl X "zip" := by rfl) (hs : starEach [e, e2] X.env = (false, eval e X.env) :: starEach [e2] X.env := by rfl)
    (hpl : (backTo pos (starEach [e2] X.env)).any (·.1) = false := by rfl) : SI G W X (.Tuple elts kk tpos) (.Call (.Name "zip" p) [e, e2] [] pos) (izip c) :=
  ⟨PI_imp (RZ.pi_zipA hg hm ha.pa hs hpl) fun σ H K ⟨g, en, st, R, w⟩ => by
    refine ⟨g, en, st, R, (pX.bind w).imp fun ds st1 g1 H1 l1 R1 h1 vs rvs => ?_⟩
    split at h1
    · obtain ⟨v, r, rfl, rv, v2, r2, rfl, rv2, rfl⟩ := rvs
      obtain ⟨a, us, rfl, e1, e2⟩ := tup_H R1 rv
      obtain ⟨b, us2, rfl, f1, f2⟩ := tup_H R1 rv2
      exact ⟨a, b, us, us2, rfl, .inr ⟨by rw [hK]; exact e1, by rw [hK]; exact f1, by rw [hK]; exact h1 g1 H1 (Le.refl _) R1 _ (walks_zipT rv rv2)⟩⟩
    · split at h1
      · rename_i x y hx hy
        obtain ⟨v, r, rfl, rv, v2, r2, rfl, rv2, rfl⟩ := rvs
        obtain ⟨a, rfl, q⟩ := lsrc_H rv hx
        obtain ⟨us, e1, e2⟩ := q g1 en st1 σ H1 (Le.refl _) R1 (lsrc_ok hx)
        obtain ⟨b, rfl, q⟩ := lsrc_H rv2 hy
        obtain ⟨us2, f1, f2⟩ := q g1 en st1 σ H1 (Le.refl _) R1 (lsrc_ok hy)
        exact ⟨a, b, us, us2, rfl, .inl ⟨by rw [hK]; exact e1, by rw [hK]; exact f1, by rw [hK]; exact h1 g1 H1 (Le.refl _) R1 _ (walks_zip rv hx rv2 hy)⟩⟩
      · exact h1.elim
    · exact h1.elim⟩
def rngC (lo c : Int) (n : Nat) : List D := (List.range n).map fun (k : Nat) => .int (lo + (k : Int) * c)
theorem walks_rngC {g0 : Gh} {lo c : Int} {n : Nat} : Walks G g0 ⟨rngC lo c n, []⟩ (Itc lo c n) := by
  intro g en st σ H i l R ok
  refine ⟨fun hi => by show n ≤ i; simpa [rngC] using hi, fun d hd => ?_⟩
  simp only [rngC, List.getElem?_map] at hd
  obtain ⟨k, hk, rfl⟩ := Option.map_eq_some_iff.mp hd
  obtain ⟨h1, h2⟩ := List.getElem?_eq_some_iff.mp hk
  simp at h1 h2
  subst h2
  refine ⟨h1, fun y H' w => ?_⟩
  obtain ⟨rfl, rfl⟩ := w
  exact ⟨g, Le.refl _, R, rfl⟩
def irng3 (c : XA) : XI := fun en st => (c en st).bind fun ds st => match ds with
  | [.int i, .int j, .int k] => if ok62 i && ok62 j && decide (k = -1) then .ok ⟨rngC i (-1) (i - j).toNat, []⟩ st else .bad
  | _ => .bad
theorem si_rng3 {tg a b e : Expr} {c : XA} {p pos : Pos} (hm : X.mg "range" = none) (ha : SA G W X [a, b, e] c) (hg : Gl X "range" := by rfl) (hs : starEach [a, b, e] X.env = (false, eval a X.env) :: starEach [b, e] X.env := by rfl) (hpl : (backTo pos (starEach [b, e] X.env)).any (·.1) = false := by rfl) :
    SI G W X tg (.Call (.Name "range" p) [a, b, e] [] pos) (irng3 c) :=
  ⟨PI_imp (pi_range3 hg hm ha.pa hs hpl) fun σ H K ⟨g, en, st, R, w⟩ => by
    refine ⟨g, en, st, R, (pX.bind w).imp fun ds st1 g1 H1 l1 R1 h1 vs rvs => ?_⟩
    split at h1
    · rename_i i j k
      split at h1
      · rename_i c
        simp only [ok62_iff, Bool.and_eq_true, decide_eq_true_eq] at c
        obtain ⟨⟨⟨c1, c2⟩, c3, c4⟩, rfl⟩ := c
        obtain ⟨v, r, rfl, rfl, v2, r2, rfl, rfl, v3, r3, rfl, rfl, rfl⟩ := rvs
        exact ⟨i, j, -1, (i - j).toNat, rfl, RgC.neg (by omega) c2 (by omega) c4, h1 g1 H1 (Le.refl _) R1 _ walks_rngC⟩
      · exact h1.elim
    · exact h1.elim⟩
end
end Px
namespace Px
open PySem PySem.Spec L2
section
variable {G : GS} {W : WX} {X : Cx}
theorem sb_kin {x : Str} {kvs : List (Str × D)} {e : Expr} {c : XE} {p pos : Pos} (hK : X.K = G.K) (D : KD G X.w X.mg x kvs) (he : SE G W X e c) (hg : Gl X x := by rfl) (hd : (x == ("__debug__" : Str)) = false := by decide) (hm : behindInMarks .In (.Name x p) = false := by first | exact nomark _ | rfl) :
    SB G W X (.Compare e [.In] [.Name x p] pos) (xkin true kvs c) := by
  obtain ⟨a, es, n, h1, h2, h3⟩ := D.ex
  have h2' : L2.KDict X.K X.w a es n := by rw [hK]; exact h2
  refine ⟨PT_imp (pt_cmpR (L2.op_in_kd h2') he.pe (pe_glob (v := .ref a) hg h1 rfl hd) hm) fun σ H Q ⟨g, en, st, R, h⟩ => ?_⟩
  refine ⟨g, en, st, R, (pX.bind h).imp fun y st1 g1 H1 l1 R1 h1 u ru => ?_⟩
  split at h1
  · rename_i z
    obtain ⟨r, e1, e2⟩ := kin_of (z := z) hK h2 h3
    refine ⟨z, r, ru, rfl, e1, ?_⟩
    rw [e2]
    have := h1 g1 H1 (Le.refl _) R1
    exact ⟨_, rfl, by simpa using this⟩
  · exact h1.elim
theorem se_knot {x : Str} {kvs : List (Str × D)} {e : Expr} {c : XE} {p pos : Pos} (hK : X.K = G.K) (D : KD G X.w X.mg x kvs) (he : SE G W X e c) (hg : Gl X x := by rfl) (hd : (x == ("__debug__" : Str)) = false := by decide) (hm : behindInMarks .NotIn (.Name x p) = false := by first | exact nomark _ | rfl) :
    SE G W X (.Compare e [.NotIn] [.Name x p] pos) (xb (xkin false kvs c)) := by
  obtain ⟨a, es, n, h1, h2, h3⟩ := D.ex
  have h2' : L2.KDict X.K X.w a es n := by rw [hK]; exact h2
  refine ⟨PE_imp (pe_cmpR (L2.op_notIn_kd h2') he.pe (pe_glob (v := .ref a) hg h1 rfl hd) hm) fun σ H Q ⟨g, en, st, R, h⟩ => ?_⟩
  unfold xb xkin at h
  refine ⟨g, en, st, R, (pX.bind (pX.bind h)).imp fun y st1 g1 H1 l1 R1 h1 u ru => ?_⟩
  split at h1
  · rename_i z
    obtain ⟨r, e1, e2⟩ := kin_of (z := z) hK h2 h3
    refine ⟨z, r, ru, rfl, e1, ?_⟩
    rw [e2]
    have := h1 g1 H1 (Le.refl _) R1
    simpa using this g1 H1 (Le.refl _) R1 _ rfl
  · exact h1.elim
theorem sb_knot {x : Str} {kvs : List (Str × D)} {e : Expr} {c : XE} {p pos : Pos} (hK : X.K = G.K) (D : KD G X.w X.mg x kvs) (he : SE G W X e c) (hg : Gl X x := by rfl) (hd : (x == ("__debug__" : Str)) = false := by decide) (hm : behindInMarks .NotIn (.Name x p) = false := by first | exact nomark _ | rfl) :
    SB G W X (.Compare e [.NotIn] [.Name x p] pos) (xkin false kvs c) := by
  obtain ⟨a, es, n, h1, h2, h3⟩ := D.ex
  have h2' : L2.KDict X.K X.w a es n := by rw [hK]; exact h2
  refine ⟨PT_imp (pt_cmpR (L2.op_notIn_kd h2') he.pe (pe_glob (v := .ref a) hg h1 rfl hd) hm) fun σ H Q ⟨g, en, st, R, h⟩ => ?_⟩
  refine ⟨g, en, st, R, (pX.bind h).imp fun y st1 g1 H1 l1 R1 h1 u ru => ?_⟩
  split at h1
  · rename_i z
    obtain ⟨r, e1, e2⟩ := kin_of (z := z) hK h2 h3
    refine ⟨z, r, ru, rfl, e1, ?_⟩
    rw [e2]
    have := h1 g1 H1 (Le.refl _) R1
    exact ⟨_, rfl, by simpa using this⟩
  · exact h1.elim
theorem kd_dictnone {a : Addr} {es : Array DictEntry} {n : Nat} {pins : List (Addr × Obj)} {σ : L2.St} {H : Hp} {s : Shared} (D : L2.KDict X.K X.w a es n) (I : Inv X pins σ H s) : ∀ b, Value.ref a = .ref b → ∃ ob, s.heap.get? b = some ob ∧ ob.dict = none := fun b e => by
  cases e
  exact ⟨_, I.kIn _ _ D.at_, rfl⟩
theorem kd_find {kvs : List (Str × D)} {a : Addr} {es : Array DictEntry} {n : Nat} (hK : X.K = G.K) (h2 : L2.KDict G.K X.w a es n) (h3 : KRel G es.toList kvs) (z : Str) :
    (∃ d u v, kvs.lookup z = some d ∧ PySem.findBy Value.isStrOf es z = some u ∧ RelV v u ∧ ∀ g, Rep G g d v) ∨ (kvs.lookup z = none ∧ PySem.findBy Value.isStrOf es z = none) := by
  cases e : kvs.lookup z with
  | none => exact .inr ⟨rfl, PySem.W.find_K h2.at_ (kd_none h2 h3 e)⟩
  | some d =>
    obtain ⟨u, v, e1, e2, e3⟩ := kd_some h2 h3 e
    exact .inl ⟨d, u, v, rfl, PySem.W.find_K h2.at_ e1, e2, e3⟩
def xkget2 (kvs : List (Str × D)) (c f : XE) : XE := fun en st => (c en st).bind fun y st => (f en st).bind fun z st => match y with
  | .str k => .ok ((kvs.lookup k).getD z) st
  | _ => .bad
def tKGet2 (K : PySem.W.Frag) (w : World) (a : Addr) (es : Array DictEntry) (ty tx : TE) : TE := fun σ H Q => ty σ H fun y H1 => tx σ H1 fun z H2 => ∃ k : Str, y = .str k ∧ ∀ v, (∀ u, PySem.findBy Value.isStrOf es k = some u → RelV v u) → (PySem.findBy Value.isStrOf es k = none → v = z) → Q v H2
theorem pe_kget2 {x : Str} {a : Addr} {es : Array DictEntry} {n : Nat} {e f : Expr} {ty tx : TE} {p apos cpos : Pos} (hm : X.mg x = some (.ref a)) (D : L2.KDict X.K X.w a es n) (hv : ∀ u, (∃ k, PySem.findBy Value.isStrOf es k = some u) → ∃ v, RelV v u) (he : PE X e ty) (hf : PE X f tx) (m : M2 X (.Name x p) "get" apos e f cpos)
    (hg : Gl X x) (hd : (x == ("__debug__" : Str)) = false) : PE X (.Call (.Attribute (.Name x p) "get" apos) [e, f] [] cpos) (tKGet2 X.K X.w a es ty tx) := by
  refine ⟨fun pins s σ H Q I h => ?_⟩
  refine wpAny_Call_method m.base m.few m.line PySem.F.plainAttrs_dict PySem.F.slot_dict_get PySem.F.type_dict_get (ld_glob I hg hm ?_ hd)
  refine ⟨L2.kd_type D I, kd_dictnone D I, ?_⟩
  rw [m.trees]
  refine Calls.callWith_builtin rfl (Calls.evalArgs_plain (Calls.spliced_cons (thn (he.run pins s σ H _ I h) fun iv s2 ⟨y, H2, I2, ry, q2⟩ =>
    Calls.spliced_cons (thn (hf.run pins s2 σ H2 _ I2 q2) fun fv s3 ⟨z, H3, I3, rz, q3⟩ => Calls.spliced_nil ?_))))
  obtain ⟨k, rfl, q4⟩ := q3
  obtain ⟨t, rfl⟩ := ry
  have hmap := PySem.W.mapOf_K (prog := X.prog) (w := X.w) I3.kIn D.at_ D.lit
  refine call_meetsIn PySem.F.slot_dict_get (L2.kd_type D I3) PySem.F.entry_dict_get (PySem.F.args_dict_get_3 _ _ _) (meets_dict_get_default (strKind X.prog X.w) a (strKind_is X.prog X.w k t) D.low fv) ⟨_, hmap, ?_⟩
  cases e : PySem.findBy Value.isStrOf es k with
  | none => exact ⟨z, H3, I3.tok _, rz, q4 z (fun u hu => by rw [e] at hu; cases hu) fun _ => rfl⟩
  | some u =>
    obtain ⟨v, rv⟩ := hv u ⟨k, e⟩
    exact ⟨v, H3, I3.tok _, rv, q4 v (fun u' hu => by rw [e] at hu; cases hu; exact rv) fun hu => by rw [e] at hu; cases hu⟩
theorem se_kget2 {x : Str} {kvs : List (Str × D)} {e f : Expr} {c cf : XE} {p apos cpos : Pos} (hK : X.K = G.K) (D : KD G X.w X.mg x kvs) (he : SE G W X e c) (hf : SE G W X f cf) (hg : Gl X x := by rfl) (hd : (x == ("__debug__" : Str)) = false := by decide)
    (m : M2 X (.Name x p) "get" apos e f cpos := by exact ⟨rfl, rfl, rfl, rfl⟩) : SE G W X (.Call (.Attribute (.Name x p) "get" apos) [e, f] [] cpos) (xkget2 kvs c cf) := by
  obtain ⟨a, es, n, h1, h2, h3⟩ := D.ex
  have h2' : L2.KDict X.K X.w a es n := by rw [hK]; exact h2
  have hv : ∀ u, (∃ k, PySem.findBy Value.isStrOf es k = some u) → ∃ v, RelV v u := fun u ⟨k, hk⟩ => by
    rcases kd_find hK h2 h3 k with ⟨d, u', v, _, e1, e2, _⟩ | ⟨_, e1⟩
    · rw [hk] at e1; cases e1; exact ⟨v, e2⟩
    · rw [hk] at e1; cases e1
  refine ⟨PE_imp (pe_kget2 h1 h2' hv he.pe hf.pe m hg hd) fun σ H Q ⟨g, en, st, R, h⟩ => ?_⟩
  refine ⟨g, en, st, R, (pX.bind h).imp fun y st1 g1 H1 l1 R1 h1 u ru => ?_⟩
  refine ⟨g1, en, st1, R1, (pX.bind h1).imp fun z st2 g2 H2 l2 R2 h2x w rw' => ?_⟩
  split at h2x
  · rename_i k
    refine ⟨k, ru, fun v q1 q2 => ?_⟩
    rcases kd_find hK h2 h3 k with ⟨d, u', v', e0, e1, e2, e3⟩ | ⟨e0, e1⟩
    · have := q1 u' e1
      obtain rfl := this.inj e2
      rw [e0] at h2x
      exact h2x g2 H2 (Le.refl _) R2 v (e3 g2)
    · obtain rfl := q2 e1
      rw [e0] at h2x
      exact h2x g2 H2 (Le.refl _) R2 v rw'
  · exact h2x.elim
end
end Px
namespace Px
open PySem PySem.Spec L2
section
variable (en : En) (st : Sto)
@[simp] theorem ev_kget (kvs : List (Str × D)) (c : XE) : xkget kvs c en st = (c en st).bind fun y st => match y with
  | .str z => (match kvs.lookup z with | some d => .ok d st | none => .bad)
  | _ => .bad := (rfl)
@[simp] theorem ev_kin (b : Bool) (kvs : List (Str × D)) (c : XE) : xkin b kvs c en st = (c en st).bind fun y st => match y with
  | .str z => .ok (b == (kvs.lookup z).isSome) st
  | _ => .bad := (rfl)
@[simp] theorem ev_kget2 (kvs : List (Str × D)) (c f : XE) : xkget2 kvs c f en st = (c en st).bind fun y st => (f en st).bind fun z st => match y with
  | .str k => .ok ((kvs.lookup k).getD z) st
  | _ => .bad := (rfl)
@[simp] theorem ev_onone : xonone en st = .ok none st := (rfl)
@[simp] theorem ev_osome (c : XE) : xosome c en st = (c en st).bind fun d st => match d with | .int i => .ok (some i) st | _ => .bad := (rfl)
@[simp] theorem ev_sl (a : XE) (lo hi : XO) : xsl a lo hi en st = (a en st).bind fun x st => (lo en st).bind fun l st => (hi en st).bind fun h st => oSl x l h st := (rfl)
@[simp] theorem ev_meth (T : String) (f : XM) (a : XE) (c : XA) : xmeth T f a c en st = (a en st).bind fun x st => if tyM st x = some T then (c en st).bind fun ds st => f x ds st else .bad := (rfl)
@[simp] theorem ev_meth0 (T : String) (f : XM) (a : XE) : xmeth0 T f a en st = (a en st).bind fun x st => if tyM st x = some T then f x [] st else .bad := (rfl)
@[simp] theorem ev_bits (a : XE) : xbits a en st = (a en st).bind fun x st => match x with | .int i => .ok (.int (Builtin.Int.intBits i : Nat)) st | _ => .bad := (rfl)
@[simp] theorem ev_ch (f f' : Op2) (a b c : XE) : xch f f' a b c en st = (a en st).bind fun x st => (b en st).bind fun y st => (f x y st).bind fun k st => andD k (fun st => (c en st).bind fun z st => f' y z st) st := (rfl)
@[simp] theorem ev_rng2 (c : XA) : irng2 c en st = (c en st).bind fun ds st => match ds with
  | [.int i, .int j] => if ok62 i && ok62 j then .ok ⟨rngL i (j - i).toNat, []⟩ st else .bad
  | _ => .bad := (rfl)
@[simp] theorem ev_rng3 (c : XA) : irng3 c en st = (c en st).bind fun ds st => match ds with
  | [.int i, .int j, .int k] => if ok62 i && ok62 j && decide (k = -1) then .ok ⟨rngC i (-1) (i - j).toNat, []⟩ st else .bad
  | _ => .bad := (rfl)
@[simp] theorem ev_irev (c : XA) : irev c en st = (c en st).bind fun ds st => match ds with
  | [d] => (match lsrc st d with | some it => .ok ⟨it.its.reverse, it.src⟩ st | none => .bad)
  | _ => .bad := (rfl)
@[simp] theorem ev_ienum (c : XA) : ienum c en st = (c en st).bind fun ds st => match ds with
  | [d] => (match lsrc st d with | some it => .ok ⟨enumL it.its, it.src⟩ st | none => .bad)
  | _ => .bad := (rfl)
@[simp] theorem ev_izip (c : XA) : izip c en st = (c en st).bind fun ds st => match ds with
  | [.tup a, .tup b] => .ok ⟨zipL a b, []⟩ st
  | [d, e] => (match lsrc st d, lsrc st e with | some x, some y => .ok ⟨zipL x.its y.its, x.src ++ y.src⟩ st | _, _ => .bad)
  | _ => .bad := (rfl)
@[simp] theorem ev_lc (own : List Nat) (i : XI) (t : XG) (c : XT) (e : XE) : xlc own i t c e en st = (i en st).bind fun it st => R.quiet ((cloop own st.length it.src t c e en it.its (st ++ [.lst []])).bind fun _ st' => .ok (.cell st.length) st') en := (rfl)
@[simp] theorem ev_saug (i : Nat) (f : Op2) (c : XE) : saug i f c en st = match en[i]? with
  | some (some x) => (c en st).bind fun y st => (f x y st).bind fun z st => .ok (.nx, en.set i (some z)) st
  | _ => .bad := (rfl)
@[simp] theorem ev_while (fuel : En → Sto → Nat) (c : XT) (b : XS) : swhile fuel c b en st = wloop c b (fuel en st) en st := (rfl)
end
@[simp] theorem tyM_str (st : Sto) (z : Str) : tyM st (.str z) = some "str" := (rfl)
@[simp] theorem tyM_int (st : Sto) (z : Int) : tyM st (.int z) = some "int" := (rfl)
@[simp] theorem tyM_cell (st : Sto) (i : Nat) : tyM st (.cell i) = if (seqOf st (.cell i)).isSome then some "list" else none := (rfl)
@[simp] theorem tyM_lst (st : Sto) (m : Mk) (ds : List D) : tyM st (.lst m ds) = if (seqOf st (.lst m ds)).isSome then some "list" else none := (rfl)
@[simp] theorem ev_max2 (i j : Int) (st : Sto) : bMax1 [.int i, .int j] st = .ok (.int (if j > i then j else i)) st := (rfl)
@[simp] theorem ev_min2 (i j : Int) (st : Sto) : bMin1 [.int i, .int j] st = .ok (.int (if j < i then j else i)) st := (rfl)
@[simp] theorem ev_quiet_ok {α : Type} (a : α) (st : Sto) (en : En) : R.quiet (.ok a st) en = .ok a st := (rfl)
@[simp] theorem ev_tuple_t (es : List D) (st : Sto) : bTuple [.tup es] st = .ok (.tup es) st := (rfl)
@[simp] theorem ev_tuple_c (i : Nat) (st : Sto) : bTuple [.cell i] st = match seqOf st (.cell i) with | some es => .ok (.tup es) st | none => .bad := (rfl)
@[simp] theorem ev_tuple_l (m : Mk) (ds : List D) (st : Sto) : bTuple [.lst m ds] st = match seqOf st (.lst m ds) with | some es => .ok (.tup es) st | none => .bad := (rfl)
@[simp] theorem ev_list_t (es : List D) (st : Sto) : bList [.tup es] st = .ok (.cell st.length) (st ++ [.lst es]) := (rfl)
@[simp] theorem ev_list_c (i : Nat) (st : Sto) : bList [.cell i] st = match itemsOf st (.cell i) with | some es => .ok (.cell st.length) (st ++ [.lst es]) | none => .bad := (rfl)
@[simp] theorem ev_list_l (m : Mk) (ds : List D) (st : Sto) : bList [.lst m ds] st = match itemsOf st (.lst m ds) with | some es => .ok (.cell st.length) (st ++ [.lst es]) | none => .bad := (rfl)
def stp (t : XG) (b : XS) (d : D) : XS := fun en st => (t d en st).bind fun en st => b en st
theorem floop_cons (src : List (Nat × List D)) (t : XG) (b : XS) (d : D) (ds : List D) (en : En) (st : Sto) : floop src t b (d :: ds) en st = if okSrc src st then (match stp t b d en st with
      | .ok (.nx, en) st => floop src t b ds en st
      | .ok (.ct, en) st => floop src t b ds en st
      | .ok (.bk, en) st => .ok (.nx, en) st
      | r => r) else .bad := by
  rw [ev_floopS]
  unfold stp
  cases t d en st <;> rfl
theorem floop_run {src : List (Nat × List D)} {t : XG} {b : XS} {E : Nat → En} {S : Nat → Sto} : ∀ (ds : List D) (k : Nat), (∀ i (h : i < ds.length), okSrc src (S (k + i)) = true ∧ stp t b ds[i] (E (k + i)) (S (k + i)) = .ok (.nx, E (k + i + 1)) (S (k + i + 1))) →
    okSrc src (S (k + ds.length)) = true → floop src t b ds (E k) (S k) = .ok (.nx, E (k + ds.length)) (S (k + ds.length))
  | [], k, _, h => by
    simp only [List.length_nil, Nat.add_zero] at h ⊢
    simp [h]
  | d :: ds, k, h, hl => by
    obtain ⟨h1, h2⟩ := h 0 (by simp)
    simp only [Nat.add_zero, List.getElem_cons_zero] at h1 h2
    rw [floop_cons, if_pos h1, h2]
    simp only [List.length_cons]
    have e : k + (ds.length + 1) = k + 1 + ds.length := by omega
    rw [e]
    refine floop_run ds (k + 1) (fun i hi => ?_) (by rw [List.length_cons, e] at hl; exact hl)
    have := h (i + 1) (by simp; omega)
    have e2 : k + (i + 1) = k + 1 + i := by omega
    rw [e2] at this
    exact this
theorem floop_exit {src : List (Nat × List D)} {t : XG} {b : XS} {E : Nat → En} {S : Nat → Sto} {r : R (Fl × En)} : ∀ (ds : List D) (k m : Nat) (hm : m < ds.length), (∀ i (h : i < m), okSrc src (S (k + i)) = true ∧ stp t b ds[i] (E (k + i)) (S (k + i)) = .ok (.nx, E (k + i + 1)) (S (k + i + 1))) →
    okSrc src (S (k + m)) = true → stp t b ds[m] (E (k + m)) (S (k + m)) = r → (∀ en st, r ≠ .ok (.nx, en) st) → (∀ en st, r ≠ .ok (.ct, en) st) → (∀ en st, r ≠ .ok (.bk, en) st) → floop src t b ds (E k) (S k) = r
  | [], _, m, hm, _, _, _, _, _, _ => by simp at hm
  | d :: ds, k, 0, hm, h, ho, hr, n1, n2, n3 => by
    simp only [Nat.add_zero, List.getElem_cons_zero] at ho hr
    rw [floop_cons, if_pos ho, hr]
    cases r with
    | ok p st =>
      obtain ⟨fl, en⟩ := p
      cases fl with
      | nx => exact (n1 _ _ rfl).elim
      | ct => exact (n2 _ _ rfl).elim
      | bk => exact (n3 _ _ rfl).elim
      | rt d => rfl
    | exc => rfl
    | bad => rfl
  | d :: ds, k, m + 1, hm, h, ho, hr, n1, n2, n3 => by
    obtain ⟨h1, h2⟩ := h 0 (by omega)
    simp only [Nat.add_zero, List.getElem_cons_zero] at h1 h2
    rw [floop_cons, if_pos h1, h2]
    have e : k + (m + 1) = k + 1 + m := by omega
    rw [e] at ho hr
    refine floop_exit ds (k + 1) m (by simpa using hm) (fun i hi => ?_) ho hr n1 n2 n3
    have := h (i + 1) (by omega)
    have e2 : k + (i + 1) = k + 1 + i := by omega
    rw [e2] at this
    exact this
@[simp] theorem rngL_length (lo : Int) (n : Nat) : (rngL lo n).length = n := by simp [rngL]
@[simp] theorem rngL_at (lo : Int) (n i : Nat) (h : i < (rngL lo n).length) : (rngL lo n)[i] = .int (lo + (i : Int)) := by simp [rngL]
theorem floop_rng {t : XG} {b : XS} {E : Nat → En} {S : Nat → Sto} {lo : Int} {n : Nat} (h : ∀ i, i < n → stp t b (.int (lo + (i : Int))) (E i) (S i) = .ok (.nx, E (i + 1)) (S (i + 1))) : floop [] t b (rngL lo n) (E 0) (S 0) = .ok (.nx, E n) (S n) := by
  have := floop_run (src := []) (t := t) (b := b) (E := E) (S := S) (rngL lo n) 0 (fun i hi => ⟨rfl, by
    have hi' : i < n := by simpa using hi
    rw [rngL_at, Nat.zero_add]
    exact h i hi'⟩) rfl
  simpa using this
theorem floop_rngX {t : XG} {b : XS} {E : Nat → En} {S : Nat → Sto} {lo : Int} {n m : Nat} {d : D} {en : En} {st : Sto} (hm : m < n) (h : ∀ i, i < m → stp t b (.int (lo + (i : Int))) (E i) (S i) = .ok (.nx, E (i + 1)) (S (i + 1)))
    (hx : stp t b (.int (lo + (m : Int))) (E m) (S m) = .ok (.rt d, en) st) : floop [] t b (rngL lo n) (E 0) (S 0) = .ok (.rt d, en) st := by
  refine floop_exit (src := []) (t := t) (b := b) (E := E) (S := S) (rngL lo n) 0 m (by simpa using hm) (fun i hi => ⟨rfl, ?_⟩) rfl ?_ (by intro _ _ z; cases z) (by intro _ _ z; cases z) (by intro _ _ z; cases z)
  · rw [rngL_at, Nat.zero_add]
    exact h i hi
  · rw [rngL_at, Nat.zero_add]
    exact hx
def cstp (t : XG) (c : XT) (e : XE) (d : D) : En → Sto → R (Option D) := fun en st => (t d en st).bind fun en1 st => (c en1 st).bind fun b st => if b then (e en1 st).bind fun y st => .ok (some y) st else .ok none st
theorem cloop_map {own : List Nat} {src : List (Nat × List D)} {t : XG} {c : XT} {e : XE} {en : En} {st : Sto} {f : D → Option D} : ∀ (ds acc : List D), (∀ d ∈ ds, ∀ acc, okSrc src (st ++ [.lst acc]) = true ∧ cstp t c e d (wipeE en own) (st ++ [.lst acc]) = .ok (f d) (st ++ [.lst acc])) →
    (∀ acc, okSrc src (st ++ [.lst acc]) = true) → acc.length + ds.length ≤ 16777216 → cloop own st.length src t c e en ds (st ++ [.lst acc]) = .ok () (st ++ [.lst (acc ++ ds.filterMap f)])
  | [], acc, _, h, _ => by simp [cloop, h acc]
  | d :: ds, acc, h, hs, hl => by
    simp only [List.length_cons] at hl
    obtain ⟨h1, h2⟩ := h d (by simp) acc
    have ih := fun acc => cloop_map ds acc (fun x hx => h x (List.mem_cons_of_mem _ hx)) hs
    unfold cloop
    rw [if_pos h1]
    unfold cstp at h2
    cases e1 : t d (wipeE en own) (st ++ [.lst acc]) with
    | bad => rw [e1] at h2; cases h2
    | exc => rw [e1] at h2; cases h2
    | ok en1 st1 =>
      rw [e1] at h2
      simp only [bind_ok] at h2 ⊢
      cases e2 : c en1 st1 with
      | bad => rw [e2] at h2; cases h2
      | exc => rw [e2] at h2; cases h2
      | ok b st2 =>
        rw [e2] at h2
        simp only [bind_ok] at h2 ⊢
        cases b with
        | false =>
          rw [if_neg Bool.false_ne_true] at h2 ⊢
          injection h2 with q1 q2
          subst q2
          rw [ih acc (by omega), List.filterMap_cons, ← q1]
        | true =>
          rw [if_pos rfl] at h2 ⊢
          cases e3 : e en1 st2 with
          | bad => rw [e3] at h2; cases h2
          | exc => rw [e3] at h2; cases h2
          | ok y st3 =>
            rw [e3] at h2
            simp only [bind_ok] at h2 ⊢
            injection h2 with q1 q2
            subst q2
            rw [List.getElem?_append_right (Nat.le_refl _), Nat.sub_self]
            simp only [List.getElem?_cons_zero, List.set_append_right _ _ (Nat.le_refl _), Nat.sub_self, List.set_cons_zero]
            rw [if_pos (by simp; omega), ih (acc ++ [y]) (by simp; omega), List.filterMap_cons, ← q1]
            simp
end Px
namespace Px
open PySem PySem.Spec L2
@[simp] theorem ev_in (x y : D) (st : Sto) : oIn x y st = oB (inD st x y) st := (rfl)
@[simp] theorem ev_nin (x y : D) (st : Sto) : oNotIn x y st = oB ((inD st x y).map (!·)) st := (rfl)
@[simp] theorem oB_some (b : Bool) (st : Sto) : oB (some b) st = .ok (.bl b) st := (rfl)
@[simp] theorem inD_int (i : Int) (y : D) (st : Sto) : inD st (.int i) y = (itemsOf st y).bind fun ds => (flL ds).map (inV (.int i)) := by
  unfold inD
  simp only [flD]
  cases itemsOf st y <;> rfl
@[simp] theorem inD_str (i : Str) (y : D) (st : Sto) : inD st (.str i) y = (itemsOf st y).bind fun ds => (flL ds).map (inV (.str i)) := by
  unfold inD
  simp only [flD]
  cases itemsOf st y <;> rfl
@[simp] theorem flL_nil : flL [] = some [] := (rfl)
@[simp] theorem flL_int (i : Int) (r : List D) : flL (.int i :: r) = (flL r).map (V.int i :: ·) := by
  simp only [flL, flD]
  cases flL r <;> rfl
@[simp] theorem flL_str (i : Str) (r : List D) : flL (.str i :: r) = (flL r).map (V.str i :: ·) := by
  simp only [flL, flD]
  cases flL r <;> rfl
@[simp] theorem flL_ints (ns : List Int) : flL (ns.map D.int) = some (ns.map V.int) := by
  induction ns with
  | nil => rfl
  | cons n ns ih => rw [List.map_cons, flL_int, ih]; rfl
@[simp] theorem flL_strs (ns : List Str) : flL (ns.map D.str) = some (ns.map V.str) := by
  induction ns with
  | nil => rfl
  | cons n ns ih => rw [List.map_cons, flL_str, ih]; rfl
@[simp] theorem flL_tk (ns : List Int) (k : Nat) : flL ((ns.map D.int).take k) = some ((ns.take k).map V.int) := by rw [← List.map_take, flL_ints]
@[simp] theorem flL_tks (ns : List Str) (k : Nat) : flL ((ns.map D.str).take k) = some ((ns.take k).map V.str) := by rw [← List.map_take, flL_strs]
@[simp] theorem flL_dr (ns : List Int) (k : Nat) : flL ((ns.map D.int).drop k) = some ((ns.drop k).map V.int) := by rw [← List.map_drop, flL_ints]
@[simp] theorem inV_nil (x : V) : inV x [] = false := (rfl)
@[simp] theorem inV_cons (x y : V) (r : List V) : inV x (y :: r) = (eqV y x || inV x r) := (rfl)
@[simp] theorem eqV_ii (a b : Int) : eqV (.int a) (.int b) = (a == b) := (rfl)
@[simp] theorem eqV_ss (a b : Str) : eqV (.str a) (.str b) = (a == b) := (rfl)
@[simp] theorem eqV_is (a : Int) (b : Str) : eqV (.int a) (.str b) = false := (rfl)
@[simp] theorem eqV_si (a : Str) (b : Int) : eqV (.str a) (.int b) = false := (rfl)
@[simp] theorem inV_ints (x : Int) (ns : List Int) : inV (.int x) (ns.map V.int) = decide (x ∈ ns) := by
  induction ns with
  | nil => rfl
  | cons n ns ih =>
    rw [List.map_cons, inV_cons, ih, eqV_ii]
    by_cases h : n = x
    · subst h; simp
    · have : ¬ x = n := fun q => h q.symm
      simp [h, this]
@[simp] theorem inV_tk (x : Int) (ns : List Int) (k : Nat) : inV (.int x) ((ns.map V.int).take k) = decide (x ∈ ns.take k) := by rw [← List.map_take, inV_ints]
@[simp] theorem inV_dr (x : Int) (ns : List Int) (k : Nat) : inV (.int x) ((ns.map V.int).drop k) = decide (x ∈ ns.drop k) := by rw [← List.map_drop, inV_ints]
@[simp] theorem inV_strs (x : Str) (ns : List Str) : inV (.str x) (ns.map V.str) = decide (x ∈ ns) := by
  induction ns with
  | nil => rfl
  | cons n ns ih =>
    rw [List.map_cons, inV_cons, ih, eqV_ss]
    by_cases h : n = x
    · subst h; simp
    · have : ¬ x = n := fun q => h q.symm
      simp [h, this]
theorem sIx_0 (n : Nat) (d : Nat) : HT.sIx n d none = d := (rfl)
@[simp] theorem cutG_hi {α : Type} (xs : List α) (k : Nat) : cutG xs none (some (k : Int)) = xs.take k := by
  have e : HT.sIx xs.length xs.length (some (k : Int)) = min k xs.length := by
    unfold HT.sIx
    by_cases h : (k : Int) < 0
    · omega
    · simp [h]
  unfold cutG
  rw [e, sIx_0, List.drop_zero, Nat.sub_zero]
  rw [List.take_eq_take_iff]
  omega
@[simp] theorem cutG_lo {α : Type} (xs : List α) (k : Nat) : cutG xs (some (k : Int)) none = xs.drop k := by
  have e : HT.sIx xs.length 0 (some (k : Int)) = min k xs.length := by
    unfold HT.sIx
    by_cases h : (k : Int) < 0
    · omega
    · simp [h]
  unfold cutG
  rw [e, sIx_0]
  by_cases h : k ≤ xs.length
  · rw [Nat.min_eq_left h]
    rw [List.take_of_length_le (by simp)]
  · rw [Nat.min_eq_right (by omega), Nat.sub_self, List.take_zero, List.drop_eq_nil_of_le (by omega)]
@[simp] theorem cutG_hi_lit {α : Type} (xs : List α) (k : Nat) : cutG xs none (some (no_index (OfNat.ofNat k : Int))) = xs.take k := cutG_hi xs k
@[simp] theorem cutG_lo_lit {α : Type} (xs : List α) (k : Nat) : cutG xs (some (no_index (OfNat.ofNat k : Int))) none = xs.drop k := cutG_lo xs k
@[simp] theorem ev_slT (ds : List D) (lo hi : Option Int) (st : Sto) : oSl (.tup ds) lo hi st = .ok (.tup (cutG ds lo hi)) st := (rfl)
@[simp] theorem ev_slC (i : Nat) (lo hi : Option Int) (st : Sto) : oSl (.cell i) lo hi st = match seqOf st (.cell i) with | some ds => .ok (.cell st.length) (st ++ [.lst (cutG ds lo hi)]) | none => .bad := (rfl)
@[simp] theorem ev_slL (m : Mk) (ds : List D) (lo hi : Option Int) (st : Sto) : oSl (.lst m ds) lo hi st = match seqOf st (.lst m ds) with | some ds => .ok (.cell st.length) (st ++ [.lst (cutG ds lo hi)]) | none => .bad := (rfl)
@[simp] theorem ev_str (i : Int) (st : Sto) : bStr [.int i] st = if decide (i.natAbs.log2 < 1920) then .ok (.str (toString i)) st else .bad := (rfl)
theorem atI_intsN (ns : List Int) (k : Nat) (h : k < ns.length) : atI (ns.map D.int) (k : Int) = some (.int ns[k]) := by
  rw [atI_nat]
  simp [h]
theorem floop_inv {src : List (Nat × List D)} {t : XG} {b : XS} (I : Nat → En → Sto → Prop) : ∀ (ds : List D) (k : Nat) (en : En) (st : Sto), I k en st →
    (∀ i (h : i < ds.length) en st, I (k + i) en st → okSrc src st = true ∧ ∃ en' st', stp t b ds[i] en st = .ok (.nx, en') st' ∧ I (k + i + 1) en' st') → (∀ en st, I (k + ds.length) en st → okSrc src st = true) →
    ∃ en' st', floop src t b ds en st = .ok (.nx, en') st' ∧ I (k + ds.length) en' st'
  | [], k, en, st, h0, _, hl => ⟨en, st, by simp [hl en st h0], h0⟩
  | d :: ds, k, en, st, h0, h, hl => by
    obtain ⟨h1, en1, st1, h2, h3⟩ := h 0 (by simp) en st h0
    simp only [List.getElem_cons_zero] at h2
    rw [floop_cons, if_pos h1, h2]
    have e : k + (ds.length + 1) = k + 1 + ds.length := by omega
    simp only [List.length_cons] at hl ⊢
    rw [e] at hl ⊢
    refine floop_inv I ds (k + 1) en1 st1 h3 (fun i hi en st q => ?_) hl
    have e2 : k + 1 + i = k + (i + 1) := by omega
    rw [e2] at q ⊢
    exact h (i + 1) (by simp; omega) en st q
theorem floop_invX {src : List (Nat × List D)} {t : XG} {b : XS} (I : Nat → En → Sto → Prop) (X : D → Prop) : ∀ (ds : List D) (k : Nat) (en : En) (st : Sto), I k en st →
    (∀ i (h : i < ds.length) en st, I (k + i) en st → okSrc src st = true ∧ ∃ en' st', (stp t b ds[i] en st = .ok (.nx, en') st' ∧ I (k + i + 1) en' st') ∨ ∃ d, stp t b ds[i] en st = .ok (.rt d, en') st' ∧ X d) → (∀ en st, I (k + ds.length) en st → okSrc src st = true) →
    ∃ en' st', (floop src t b ds en st = .ok (.nx, en') st' ∧ I (k + ds.length) en' st') ∨ ∃ d, floop src t b ds en st = .ok (.rt d, en') st' ∧ X d
  | [], k, en, st, h0, _, hl => ⟨en, st, .inl ⟨by simp [hl en st h0], h0⟩⟩
  | d :: ds, k, en, st, h0, h, hl => by
    obtain ⟨h1, en1, st1, h2⟩ := h 0 (by simp) en st h0
    simp only [List.getElem_cons_zero] at h2
    rcases h2 with ⟨h2, h3⟩ | ⟨d', h2, h3⟩
    · have e : k + (ds.length + 1) = k + 1 + ds.length := by omega
      simp only [List.length_cons] at hl ⊢
      rw [e] at hl ⊢
      obtain ⟨en2, st2, q⟩ := floop_invX I X ds (k + 1) en1 st1 h3 (fun i hi en st q => by
        have e2 : k + 1 + i = k + (i + 1) := by omega
        rw [e2] at q ⊢
        exact h (i + 1) (by simp; omega) en st q) hl
      refine ⟨en2, st2, ?_⟩
      rw [floop_cons, if_pos h1, h2]
      exact q
    · refine ⟨en1, st1, .inr ⟨d', ?_, h3⟩⟩
      rw [floop_cons, if_pos h1, h2]
theorem floop_rngI {t : XG} {b : XS} {lo : Int} {n : Nat} {en : En} {st : Sto} (I : Nat → En → Sto → Prop) (h0 : I 0 en st) (h : ∀ i, i < n → ∀ en st, I i en st → ∃ en' st', stp t b (.int (lo + (i : Int))) en st = .ok (.nx, en') st' ∧ I (i + 1) en' st') :
    ∃ en' st', floop [] t b (rngL lo n) en st = .ok (.nx, en') st' ∧ I n en' st' := by
  have := floop_inv (src := []) (t := t) (b := b) I (rngL lo n) 0 en st h0 (fun i hi en st q => ⟨rfl, by
    rw [rngL_at]
    simp only [Nat.zero_add] at q ⊢
    exact h i (by simpa using hi) en st q⟩) fun _ _ _ => rfl
  simpa using this
theorem floop_rngIX {t : XG} {b : XS} {lo : Int} {n : Nat} {en : En} {st : Sto} (I : Nat → En → Sto → Prop) (X : D → Prop) (h0 : I 0 en st) (h : ∀ i, i < n → ∀ en st, I i en st → ∃ en' st', (stp t b (.int (lo + (i : Int))) en st = .ok (.nx, en') st' ∧ I (i + 1) en' st') ∨ ∃ d, stp t b (.int (lo + (i : Int))) en st = .ok (.rt d, en') st' ∧ X d) :
    ∃ en' st', (floop [] t b (rngL lo n) en st = .ok (.nx, en') st' ∧ I n en' st') ∨ ∃ d, floop [] t b (rngL lo n) en st = .ok (.rt d, en') st' ∧ X d := by
  have := floop_invX (src := []) (t := t) (b := b) I X (rngL lo n) 0 en st h0 (fun i hi en st q => ⟨rfl, by
    rw [rngL_at]
    simp only [Nat.zero_add] at q ⊢
    exact h i (by simpa using hi) en st q⟩) fun _ _ _ => rfl
  simpa using this
@[simp] theorem ev_cloop0 (own : List Nat) (k : Nat) (src : List (Nat × List D)) (t : XG) (c : XT) (e : XE) (en : En) (st : Sto) : cloop own k src t c e en [] st = if okSrc src st then .ok () st else .bad := (rfl)
theorem ev_cloopS (own : List Nat) (k : Nat) (src : List (Nat × List D)) (t : XG) (c : XT) (e : XE) (en : En) (d : D) (ds : List D) (st : Sto) : cloop own k src t c e en (d :: ds) st = if okSrc src st then (t d (wipeE en own) st).bind fun en1 st => (c en1 st).bind fun b st => if b then (e en1 st).bind fun y st => match st[k]? with
        | some (.lst acc) => if decide (acc.length < 16777216) then cloop own k src t c e en ds (st.set k (.lst (acc ++ [y]))) else .bad
        | _ => .bad
      else cloop own k src t c e en ds st
    else .bad := (rfl)
@[simp] theorem wipe_nil (en : En) : wipeE en [] = en := (rfl)
@[simp] theorem wipe_cons (en : En) (v : Nat) (vs : List Nat) : wipeE en (v :: vs) = (wipeE en vs).set v none := (rfl)
@[simp] theorem pat_nm (i : Nat) : Pat.x (.nm i) = gset i := (rfl)
@[simp] theorem pat_tp (ps : Pats) : Pat.x (.tp ps) = gtup ps.len ps.xs := (rfl)
@[simp] theorem pats_nil : Pats.xs .nil = gnil := (rfl)
@[simp] theorem pats_cons (p : Pat) (ps : Pats) : Pats.xs (.cons p ps) = gcons p.x ps.xs := (rfl)
@[simp] theorem pats_len0 : Pats.len .nil = 0 := (rfl)
@[simp] theorem pats_lenS (p : Pat) (ps : Pats) : Pats.len (.cons p ps) = ps.len + 1 := (rfl)
@[simp] theorem ev_yes (en : En) (st : Sto) : xyes en st = .ok true st := (rfl)
@[simp] theorem ev_addS (a b : Str) (st : Sto) : oAdd (.str a) (.str b) st = if fitL (a.length + b.length) then .ok (.str (a ++ b)) st else .bad := (rfl)
@[simp] theorem ev_iaddS (a b : Str) (st : Sto) : iAdd (.str a) (.str b) st = if fitL (a.length + b.length) then .ok (.str (a ++ b)) st else .bad := (rfl)
@[simp] theorem ev_addT (a b : List D) (st : Sto) : oAdd (.tup a) (.tup b) st = if fitL (a.length + b.length) then .ok (.tup (a ++ b)) st else .bad := (rfl)
@[simp] theorem ev_addCC (i j : Nat) (st : Sto) : oAdd (.cell i) (.cell j) st = match lstOf st (.cell i), lstOf st (.cell j) with
    | some a, some b => if fitL (a.length + b.length) then .ok (.cell st.length) (st ++ [.lst (a ++ b)]) else .bad
    | _, _ => .bad := (rfl)
@[simp] theorem ev_addCL (i : Nat) (m : Mk) (b : List D) (st : Sto) : oAdd (.cell i) (.lst m b) st = match lstOf st (.cell i), lstOf st (.lst m b) with
    | some a, some b => if fitL (a.length + b.length) then .ok (.cell st.length) (st ++ [.lst (a ++ b)]) else .bad
    | _, _ => .bad := (rfl)
@[simp] theorem ev_addLC (j : Nat) (m : Mk) (a : List D) (st : Sto) : oAdd (.lst m a) (.cell j) st = match lstOf st (.lst m a), lstOf st (.cell j) with
    | some a, some b => if fitL (a.length + b.length) then .ok (.cell st.length) (st ++ [.lst (a ++ b)]) else .bad
    | _, _ => .bad := (rfl)
@[simp] theorem ev_addLL (m n : Mk) (a b : List D) (st : Sto) : oAdd (.lst m a) (.lst n b) st = match lstOf st (.lst m a), lstOf st (.lst n b) with
    | some a, some b => if fitL (a.length + b.length) then .ok (.cell st.length) (st ++ [.lst (a ++ b)]) else .bad
    | _, _ => .bad := (rfl)
@[simp] theorem ev_mulCI (i : Nat) (k : Int) (st : Sto) : oMul (.cell i) (.int k) st = match lstOf st (.cell i) with
    | some a => if oMul.small62 k && fitL (a.length * k.toNat) then .ok (.cell st.length) (st ++ [.lst (List.replicate k.toNat a).flatten]) else .bad
    | none => .bad := (rfl)
theorem app_nil (a : Str) : a ++ ("" : Str) = a := congrArg Str.mk (show a.cps ++ #[] = a.cps from Array.append_empty)
theorem app_assoc (a b c : Str) : a ++ b ++ c = a ++ (b ++ c) := congrArg Str.mk Array.append_assoc
theorem nil_app (a : Str) : ("" : Str) ++ a = a := congrArg Str.mk (show #[] ++ a.cps = a.cps from Array.empty_append)
theorem empty_eq : Str.empty = ("" : Str) := rfl
theorem app_len (a b : Str) : (a ++ b).length = a.length + b.length := Array.size_append
@[simp] theorem strsOf_nil : strsOf [] = some [] := (rfl)
@[simp] theorem strsOf_cons (z : Str) (r : List D) : strsOf (.str z :: r) = (strsOf r).map (z :: ·) := (rfl)
@[simp] theorem strsOf_strs (r : List Str) : strsOf (r.map D.str) = some r := by
  induction r with
  | nil => rfl
  | cons z r ih => rw [List.map_cons, strsOf_cons, ih]; rfl
@[simp] theorem intsOf_nil : intsOf [] = some [] := (rfl)
@[simp] theorem intsOf_cons (z : Int) (r : List D) : intsOf (.int z :: r) = (intsOf r).map (z :: ·) := (rfl)
@[simp] theorem intsOf_ints (r : List Int) : intsOf (r.map D.int) = some r := by
  induction r with
  | nil => rfl
  | cons z r ih => rw [List.map_cons, intsOf_cons, ih]; rfl
@[simp] theorem ev_join (a : Str) (d : D) (st : Sto) : mJoin (.str a) [d] st = match (itemsOf st d).bind strsOf with
    | some ys => if decide ((ys.map (·.length)).sum + ys.length * a.length ≤ 16777216) then .ok (.str (Str.join a ys)) st else .bad
    | none => .bad := by
  unfold mJoin
  simp only [TL.join_eq]
  first | done | rfl
@[simp] theorem ev_andI (i j : Int) (st : Sto) : iAnd (.int i) (.int j) st = .ok (.int (Builtin.bitAnd i j)) st := (rfl)
@[simp] theorem ev_orI (i j : Int) (st : Sto) : iOr (.int i) (.int j) st = .ok (.int (Builtin.bitOr i j)) st := (rfl)
@[simp] theorem ev_xorI (i j : Int) (st : Sto) : iXor (.int i) (.int j) st = .ok (.int (Builtin.bitXor i j)) st := (rfl)
@[simp] theorem okShr_pos (i j : Int) (h : 0 ≤ j) : okShr i j = true := by unfold okShr; simp [h]
@[simp] theorem okShl_small (i j : Int) (h : 0 ≤ j) (h2 : j ≤ 1000000) (h3 : -18446744073709551616 < i) (h4 : i < 18446744073709551616) : okShl i j = true := by
  unfold okShl; simp only [Bool.and_eq_true, absLe_iff, decide_eq_true_eq]; omega
def finS : List Nat → List D → D → Sto → RF := fin
theorem fin_cell {ps : List D} {i : Nat} {st : Sto} {ds : List D} (h : st[i]? = some (.lst ds)) (hp : plL ds = true) : fin [] ps (.cell i) st = .ok (.lst .own ds) [] := by
  have e : take D.pl st 20 (.cell i) = some (.lst .own ds, [i]) := by
    have e1 : take D.pl st 20 (.cell i) = if D.pl (.cell i) then some (.cell i, []) else match st[i]? with
      | some (.lst ds) => (takeL D.pl (take D.pl st 19) ds).map fun p => (.lst .own p.1, p.2 ++ [i])
      | some (.dk ks ds) => (takeL D.pl (take D.pl st 19) ds).map fun p => (.dk .own ks p.1, p.2 ++ [i])
      | some (.dt ks ds) => (takeL D.pl (take D.pl st 19) ds).map fun p => (.dt .own ks p.1, p.2 ++ [i])
      | some (.obj c ds) => (takeL D.pl (take D.pl st 19) ds).map fun p => (.obj .own c p.1, p.2 ++ [i])
      | _ => none := rfl
    rw [e1, if_neg (by rw [pl_cell]; exact Bool.false_ne_true), h]
    show (takeL D.pl (take D.pl st 19) ds).map _ = _
    rw [takeL_id (by rw [all_pl]; exact hp)]
    rfl
  unfold fin
  rw [e]
  rfl
@[simp] theorem ev_finC (ps : List D) (i : Nat) (st : Sto) : fin [] ps (.cell i) st = match st[i]? with
    | some (.lst ds) => if plL ds = true then .ok (.lst .own ds) [] else finS [] ps (.cell i) st
    | _ => finS [] ps (.cell i) st := by
  split
  · rename_i ds h
    split
    · rename_i hp; exact fin_cell h hp
    · rfl
  · rfl
@[simp] theorem ev_sortedC (i : Nat) (st : Sto) : bSorted [.cell i] st = match (seqOf st (.cell i)).bind intsOf with
    | some ns => .ok (.cell st.length) (st ++ [.lst ((srt ns).map D.int)])
    | none => .bad := (rfl)
@[simp] theorem ev_sortedL (m : Mk) (ds : List D) (st : Sto) : bSorted [.lst m ds] st = match (seqOf st (.lst m ds)).bind intsOf with
    | some ns => .ok (.cell st.length) (st ++ [.lst ((srt ns).map D.int)])
    | none => .bad := (rfl)
end Px
namespace Px
open PySem PySem.Spec L2
structure ExF (G : GS) (mg : Str → Option Value) (x : Str) (c : Nat) : Prop where
  mg : mg x = some (.ref (G.exc c))
  exc : PySem.W.excIn G.K (G.exc c) [.type "ValueError", .type "Exception", .type "BaseException", .type "object"] "ValueError.__new__" = true
  keep : PySem.W.keepIn G.K (.ref (G.exc c)) = true
  sub : PySem.W.subIn G.K (.ref (G.exc c)) (.type "BaseException") = some true
  ty : PySem.W.typeIn G.K (.ref (G.exc c)) = some (.type "type")
structure ExN (G : GS) (mg : Str → Option Value) (x : Str) (c : Nat) (tbl : Nat → Option Bool) : Prop where
  mg : mg x = some (.ref (G.exc c))
  exm : ∀ k b, tbl k = some b → PySem.W.exmOne G.K (.ref (G.exc k)) (.ref (G.exc c)) = some b
  kit : ∀ k b, tbl k = some b → PySem.W.kitOne G.K (.ref (G.exc k)) (.ref (G.exc c)) = some b
  is : ∀ k b, tbl k = some b → L2.ExcC G.K (G.exc k)
theorem exn_pair {K : PySem.W.Frag} {T C : Addr} {b : Bool} (h1 : PySem.W.subIn K (.ref C) (.type "BaseException") = some true) (hd : PySem.W.hasDictIn K C = true) (ht : PySem.W.typeIn K (.ref C) = some (.type "type")) (hs : PySem.W.subIn K (.ref T) (.ref C) = some b) (hcc : PySem.W.subIn K (.ref C) (.ref C) = some true) :
    PySem.W.exmOne K (.ref T) (.ref C) = some b ∧ PySem.W.kitOne K (.ref T) (.ref C) = some b := by
  have e := PySem.W.exm_ref h1 hd ht hs
  refine ⟨e, ?_⟩
  unfold PySem.W.exmOne at e
  rw [if_pos (by rw [h1]; rfl)] at e
  unfold PySem.W.kitOne
  split
  · rename_i q
    have q' : T = C := by simpa using q
    subst q'
    rw [hcc] at hs
    exact hs
  · exact e
section
variable {G : GS} {W : WX} {X : Cx}
def sraise (c : Nat) : XS := fun en st => .exc c [] en st
theorem ss_raise {x m : Str} {j : Nat} {p p2 pos pos' : Pos} (c : Nat) (hK : X.K = G.K) (hc : X.calm = true) (tk : Takes X W) (F : ExF G X.mg x c) (hg : Gl X x := by rfl) (hdb : (x == ("__debug__" : Str)) = false := by decide) :
    SS G W X (.Raise (some (.Call (.Name x p) [.Constant (.str m) j p2] [] pos)) none pos') (sraise c) := by
  have q : PySem.W.excIn X.K (G.exc c) [.type "ValueError", .type "Exception", .type "BaseException", .type "object"] "ValueError.__new__" = true := by rw [hK]; exact F.exc
  have k : PySem.W.keepIn X.K (.ref (G.exc c)) = true := by rw [hK]; exact F.keep
  have r : Raises X (.ref (G.exc c)) := raises_own (by rw [hK]; exact F.sub) (by rw [hK]; exact F.ty)
  refine ⟨PS_imp (L2.ps_raise hc tk (L2.pmk_own PySem.F.excBase_ValueError q F.mg k r hg hdb)) fun D σ H ⟨g, en, st, R, h⟩ => ?_⟩
  exact h g σ H none (Le.refl _) R ⟨rfl, rfl⟩
theorem Rel.hide {g : Gh} {en : En} {st : Sto} {σ : L2.St} {H : Hp} (R : Rel G g en st σ H) (i : Nat) (o : Option V) : Rel G g (en.set i none) st (σ.set i o) H := by
  refine ⟨R.sF, R.sL, by simp [R.el], fun j d e => ?_, R.cell, R.len, R.inj, R.nd⟩
  by_cases hj : i = j
  · subst hj
    by_cases hl : i < en.length
    · rw [List.getElem?_set_self hl] at e; cases e
    · rw [List.getElem?_eq_none (by simpa using hl)] at e; cases e
  · rw [List.getElem?_set_ne hj] at e
    rw [List.getElem?_set_ne hj]
    exact R.en j d e
def tEp (i : Nat) (a : Addr) (t : TE) : TE := fun σ H Q => σ[i]? = some (some (.ref a)) ∧ t σ H Q
def tTp (i : Nat) (a : Addr) (t : TT) : TT := fun σ H Q => σ[i]? = some (some (.ref a)) ∧ t σ H Q
def tSp (i : Nat) (a : Addr) (t : TS) : TS := fun D σ H => σ[i]? = some (some (.ref a)) ∧ t D σ H
structure SEp (G : GS) (W : WX) (i : Nat) (a : Addr) (X : Cx) (e : Expr) (c : XE) : Prop where
  pe : PE X e (tEp i a (tE G W c))
structure SBp (G : GS) (W : WX) (i : Nat) (a : Addr) (X : Cx) (e : Expr) (c : XT) : Prop where
  pt : PT X e (tTp i a (tT G W c))
structure SSp (G : GS) (W : WX) (i : Nat) (a : Addr) (X : Cx) (s : Stmt) (c : XS) : Prop where
  ps : PS X s (tSp i a (tS G W c))
structure SLp (G : GS) (W : WX) (i : Nat) (a : Addr) (X : Cx) (s : List Stmt) (c : XS) : Prop where
  ps : PSs X s (tSp i a (tS G W c))
variable {i : Nat} {a : Addr}
theorem sep {e : Expr} {c : XE} (h : SE G W X e c) : SEp G W i a X e c := ⟨PE_imp h.pe fun _ _ _ w => w.2⟩
theorem sbp {e : Expr} {c : XT} (h : SB G W X e c) : SBp G W i a X e c := ⟨PT_imp h.pt fun _ _ _ w => w.2⟩
theorem slp {s : List Stmt} {c : XS} (h : SL G W X s c) : SLp G W i a X s c := ⟨PSs_imp h.ps fun _ _ _ w => w.2⟩
theorem ssp {s : Stmt} {c : XS} (h : SS G W X s c) : SSp G W i a X s c := ⟨PS_imp h.ps fun _ _ _ w => w.2⟩
theorem ssp_ret {e : Expr} {c : XE} {pos : Pos} (h : SEp G W i a X e c) : SSp G W i a X (.Return (some e) pos) (sret c) :=
  ⟨PS_imp (ps_ret h.pe) fun D σ H ⟨hp, g, en, st, R, h⟩ => ⟨hp, g, en, st, R, (pS.bind h).imp fun d st1 g1 H1 l1 R1 h1 v rv => h1 g1 σ H1 (Le.refl _) R1 v rv⟩⟩
theorem slp_one {s : Stmt} {c : XS} (h : SSp G W i a X s c) : SLp G W i a X [s] c := ⟨pss_one h.ps⟩
theorem slp_nil : SLp G W i a X [] snil := slp sl_nil
theorem ssp_if {c : Expr} {s s2 : List Stmt} {tc : XT} {ta tb : XS} {pos : Pos} (hc : SBp G W i a X c tc) (ha : SLp G W i a X s ta) (hb : SLp G W i a X s2 tb) : SSp G W i a X (.If c s s2 pos) (sif tc ta tb) :=
  ⟨PS_imp (ps_if hc.pt ha.ps hb.ps) fun D σ H ⟨hp, g, en, st, R, h⟩ => ⟨hp, g, en, st, R, (pS.bind h).imp fun k st1 g1 H1 l1 R1 h1 => by
    cases k with
    | true => rw [if_pos rfl]; exact ⟨hp, g1, en, st1, R1, h1⟩
    | false => rw [if_neg Bool.false_ne_true]; exact ⟨hp, g1, en, st1, R1, h1⟩⟩⟩
theorem sbp_val {e : Expr} {c : XE} (h : SEp G W i a X e c) (he : ∀ whole, isTrue e X.env whole = (do let v ← whole; standAt e.pos; holding [v] (truthy v)) := by intro _; rfl) : SBp G W i a X e (xt c) :=
  ⟨PT_imp (pt_val h.pe he) fun σ H Q ⟨hp, w⟩ => by
    obtain ⟨g, en, st, R, w⟩ := w
    refine ⟨hp, g, en, st, R, (pX.bind w).imp fun d st1 g1 H1 l1 R1 h1 v rv => ?_⟩
    cases d <;> try exact h1.elim
    rename_i b
    exact ⟨b, rv, h1 g1 H1 (Le.refl _) R1⟩⟩
theorem sep_one {op : BoolOp} {e : Expr} {c : XE} {pos : Pos} (h : SEp G W i a X e c) : SEp G W i a X (.BoolOp op [e] pos) c := ⟨pe_one h.pe⟩
theorem sep_and {e b : Expr} {rest : List Expr} {ca cb : XE} {pos : Pos} (ha : SEp G W i a X e ca) (hb : SEp G W i a X (.BoolOp .And (b :: rest) pos) cb) : SEp G W i a X (.BoolOp .And (e :: b :: rest) pos) (vand ca cb) :=
  ⟨PE_imp (pe_and ha.pe hb.pe) fun σ H Q ⟨hp, g, en, st, R, h⟩ => by
    refine ⟨hp, g, en, st, R, (pX.bind h).imp fun x st1 g1 H1 l1 R1 h1 v rv => ?_⟩
    cases x <;> try exact h1.elim
    rename_i b
    cases rv
    cases b with
    | true => exact ⟨true, rfl, hp, g1, en, st1, R1, h1⟩
    | false => exact ⟨false, rfl, h1 g1 H1 (Le.refl _) R1 _ rfl⟩⟩
theorem sep_or {e b : Expr} {rest : List Expr} {ca cb : XE} {pos : Pos} (ha : SEp G W i a X e ca) (hb : SEp G W i a X (.BoolOp .Or (b :: rest) pos) cb) : SEp G W i a X (.BoolOp .Or (e :: b :: rest) pos) (vor ca cb) :=
  ⟨PE_imp (pe_or ha.pe hb.pe) fun σ H Q ⟨hp, g, en, st, R, h⟩ => by
    refine ⟨hp, g, en, st, R, (pX.bind h).imp fun x st1 g1 H1 l1 R1 h1 v rv => ?_⟩
    cases x <;> try exact h1.elim
    rename_i b
    cases rv
    cases b with
    | false => exact ⟨false, rfl, hp, g1, en, st1, R1, h1⟩
    | true => exact ⟨true, rfl, h1 g1 H1 (Le.refl _) R1 _ rfl⟩⟩
theorem sbp_not {e : Expr} {c : XT} {pos : Pos} (h : SBp G W i a X e c) : SBp G W i a X (.UnaryOp .Not e pos) (xnot c) :=
  ⟨PT_imp (pt_not h.pt) fun σ H Q ⟨hp, g, en, st, R, h⟩ => by
    refine ⟨hp, g, en, st, R, (pX.bind h).imp fun k st1 g1 H1 l1 R1 h1 => ?_⟩
    exact h1 g1 H1 (Le.refl _) R1⟩
def xisx (tbl : Nat → Option Bool) (k : Nat) : XE := fun _ st => match tbl k with
  | some b => .ok (.bl b) st
  | none => .bad
theorem sep_isx {oe : Obj} {pn : List (Addr × Obj)} {n x : Str} {c k : Nat} {tbl : Nat → Option Bool} {p p2 p3 pos : Pos} (hK : X.K = G.K) (hz : Zc (.ref (G.exc k)) none oe) (hf : ∃ vs, oe.data = .fields vs) (F : ExN G X.mg x c tbl) (hm : X.mg "isinstance" = none)
    (hi : X.N[i]? = some n := by rfl) (hv : Vis X.env.scope n := by first | exact Or.inl rfl | exact Or.inr (Or.inl rfl) | exact Or.inr (Or.inr rfl)) (hd : (n == ("__debug__" : Str)) = false := by decide) (hcd : (n == ("__classdict__" : Str)) = false := by decide)
    (hg : Gl X "isinstance" := by rfl) (hgx : Gl X x := by rfl) (hdx : (x == ("__debug__" : Str)) = false := by decide)
    (he : starEach [.Name n p2, .Name x p3] X.env = (false, eval (.Name n p2) X.env) :: starEach [.Name x p3] X.env := by rfl) (he2 : starEach [.Name x p3] X.env = (false, eval (.Name x p3) X.env) :: starEach [] X.env := by rfl) (hpl : (backTo pos (starEach [.Name x p3] X.env)).any (·.1) = false := by rfl) :
    SEp G W0 i a (X.suite a ((a, oe) :: pn)) (.Call (.Name "isinstance" p) [.Name n p2, .Name x p3] [] pos) (xisx tbl k) := by
  by_cases hb : ∃ b, tbl k = some b
  · obtain ⟨b, hb⟩ := hb
    have C : L2.ExcC X.K (G.exc k) := by rw [hK]; exact F.is k b hb
    have hcall : CallR (X.suite a ((a, oe) :: pn)) (.builtin "isinstance") (L2.rIsE X.K (G.exc k) a) := L2.call_isE C hz hf
    have ha : PA (X.suite a ((a, oe) :: pn)) [.Name n p2, .Name x p3] (tCons (tVar i) (tCons (tC (.ref (G.exc c))) tNil)) :=
      pa_cons (pe_var (X := X.suite a ((a, oe) :: pn)) hi hv hd hcd) (pa_cons (pe_glob (X := X.suite a ((a, oe) :: pn)) (v := .ref (G.exc c)) hgx F.mg rfl hdx) pa_nil he2) he
    refine ⟨PE_imp (pe_callB (X := X.suite a ((a, oe) :: pn)) hcall hg hm (by decide +kernel) ha (by decide) (by decide) he hpl) fun σ H Q ⟨hp, g, en, st, R, h⟩ => ?_⟩
    unfold xisx at h
    rw [hb] at h
    refine ⟨.ref a, hp, .ref (G.exc c), .ref (G.exc c), b, rfl, fun u hu => hu, by rw [hK]; exact F.kit k b hb, ?_⟩
    exact h g H (Le.refl _) R _ rfl
  · refine ⟨⟨fun pins s σ H Q I w => ?_⟩⟩
    obtain ⟨_, g, en, st, R, h⟩ := w
    unfold xisx at h
    cases e : tbl k with
    | none => rw [e] at h; exact h.elim
    | some b => exact (hb ⟨b, e⟩).elim
def stry (tbl : Nat → Option Bool) (i : Nat) (body : XS) (h : Nat → XS) : XS := fun en st => match body en st with
  | .exc c ds en' st' => match tbl c with
    | some true => if ds.isEmpty && decide (i < en'.length) then (match h c (en'.set i none) st' with
      | .ok (.nx, e) s => .ok (.nx, e.set i none) s
      | .ok (.bk, e) s => .ok (.bk, e.set i none) s
      | .ok (.ct, e) s => .ok (.ct, e.set i none) s
      | .ok (.rt d, e) s => .ok (.rt d, e) s
      | _ => .bad) else .bad
    | some false => .exc c ds en' st'
    | none => .bad
  | r => r
theorem ss_try {x n : Str} {c : Nat} {tbl : Nat → Option Bool} {body suite : List Stmt} {b₀ : Stmt} {np pos pos' : Pos} {cb : XS} {h : Nat → XS} (i : Nat) (bd : Bd G W X) (F : ExN G X.mg x c tbl)
    (hb : ∀ (W : WX) (pn : List (Addr × Obj)) (xe : Value → Shared → Prop), Bd G W (X.tr pn xe) → SL G W (X.tr pn xe) body cb)
    (hh : ∀ (a : Addr) (oe : Obj) (pn : List (Addr × Obj)) (k : Nat), Zc (.ref (G.exc k)) none oe → (∃ vs, oe.data = .fields vs) → SLp G W0 i a (X.suite a ((a, oe) :: pn)) (b₀ :: suite) (h k))
    (hi : X.N[i]? = some n := by rfl) (hln : X.env.kindOf n = some .local := by rfl) (hs : X.stack = X.env :: X.outer := by rfl) (hf : X.env.frame = some X.env.locals := by rfl) (hg : Gl X x := by rfl) (hdb : (x == ("__debug__" : Str)) = false := by decide) :
    SS G W X (.Try body [.ExceptHandler (some (.Name x np)) (some n) (b₀ :: suite) pos'] [] [] pos) (stry tbl i cb h) := by
  refine ⟨PS_imp (L2.ps_try_as (c := .ref (G.exc c)) (Wout := W) (tb := fun W => tS G W cb)
    (ts := fun a cls d D σ H => ∃ k, cls = .ref (G.exc k) ∧ d = none ∧ tSp i a (tS G W0 (h k)) D σ H) hs hf bd.nd hi hln ⟨hg, hdb, .inl F.mg⟩ bd.tk (fun W pn xe tk own => (hb W pn xe ⟨bd.K, bd.nd, bd.calm, tk, own⟩).ps) fun a oe cls d pn hz hv => ?_) fun D σ H ⟨g, en, st, R, hS⟩ => ?_⟩
  · refine ⟨fun pins st σ H D I w => ?_⟩
    obtain ⟨k, rfl, rfl, w⟩ := w
    exact (hh a oe pn k hz hv).ps.run pins st σ H D I w
  · refine ⟨g, en, st, R, ?_⟩
    unfold stry at hS
    cases e : cb en st with
    | bad => rw [e] at hS; exact hS.elim
    | ok p st1 =>
      rw [e] at hS
      obtain ⟨fl, en1⟩ := p
      exact hS
    | exc k ds en' st' =>
      rw [e] at hS
      simp only at hS
      intro g' σ' H' d l R' er
      cases et : tbl k with
      | none => rw [et] at hS; exact hS.elim
      | some b =>
        rw [et] at hS
        cases b with
        | false =>
          refine ⟨false, by rw [bd.K]; exact F.exm k false et, fun z => Bool.noConfusion z, fun _ => ?_⟩
          exact hS g' σ' H' d l R' er
        | true =>
          obtain ⟨rfl, rfl⟩ := er
          simp only [List.isEmpty_nil, Bool.true_and] at hS
          by_cases hlt : i < en'.length
          case neg => rw [if_neg (by simpa using hlt)] at hS; exact hS.elim
          rw [if_pos (by simpa using hlt)] at hS
          refine ⟨true, by rw [bd.K]; exact F.exm k true et, fun _ a Ha => ⟨k, rfl, rfl, ?_, g', en'.set i none, st', R'.hide i _, ?_⟩, fun z => Bool.noConfusion z⟩
          · have hl : i < σ'.length := by rw [← R'.el]; exact hlt
            rw [List.getElem?_set_self hl]
          · cases e2 : h k (en'.set i none) st' with
            | bad => rw [e2] at hS; exact hS.elim
            | exc => rw [e2] at hS; exact hS.elim
            | ok p s =>
              rw [e2] at hS
              obtain ⟨fl, en2⟩ := p
              cases fl with
              | nx => exact fun g2 σ2 H2 l2 R2 => hS g2 _ H2 (l.trans l2) (R2.hide i none)
              | bk => exact fun g2 σ2 H2 l2 R2 => hS g2 _ H2 (l.trans l2) (R2.hide i none)
              | ct => exact fun g2 σ2 H2 l2 R2 => hS g2 _ H2 (l.trans l2) (R2.hide i none)
              | rt d => exact fun g2 σ2 H2 l2 R2 => hS g2 σ2 H2 (l.trans l2) R2
end
end Px
namespace Px
open PySem PySem.Spec L2
def keyOf : D → Option Key
  | .int i => some (.inl i)
  | .str x => some (.inr x)
  | _ => none
def keyD : Key → D
  | .inl i => .int i
  | .inr x => .str x
def kget : List Key → List D → Key → Option D
  | j :: ks, u :: us, k => if j = k then some u else kget ks us k
  | _, _, _ => none
def krep : List Key → List D → Key → D → List D
  | j :: ks, u :: us, k, d => (if j = k then d else u) :: krep ks us k d
  | _, us, _, _ => us
def khas : List Key → Key → Bool
  | [], _ => false
  | j :: ks, k => decide (j = k) || khas ks k
def kput (ks : List Key) (us : List D) (k : Key) (d : D) : List Key × List D := if khas ks k then (ks, krep ks us k d) else (ks ++ [k], us ++ [d])
def kdropK (ks : List Key) (k : Key) : List Key := ks.filter fun j => decide (j ≠ k)
def kdropU : List Key → List D → Key → List D
  | j :: ks, u :: us, k => if j = k then kdropU ks us k else u :: kdropU ks us k
  | _, us, _ => us
section
variable {G : GS} {g : Gh}
theorem keyOf_ok {d : D} {v : V} {k : Key} (r : Rep G g d v) (h : keyOf d = some k) : v = kV k := by
  cases d <;> cases h <;> exact r
theorem keyD_rep (k : Key) : Rep G g (keyD k) (kV k) := by cases k <;> rfl
theorem kget_ok : ∀ {ks : List Key} {us : List D} {vs : List V} {k : Key}, RepL G g us vs → (∀ d, kget ks us k = some d → ∃ v, valV (ks.zip vs) k = some v ∧ Rep G g d v) ∧ (ks.length = vs.length → kget ks us k = none → valV (ks.zip vs) k = none)
  | [], us, vs, k, _ => ⟨fun d h => by simp [kget] at h, fun _ _ => by simp [valV]⟩
  | j :: ks, [], vs, k, h => by
    cases h
    exact ⟨fun d h => by simp [kget] at h, fun l _ => by simp at l⟩
  | j :: ks, u :: us, vs, k, ⟨v, r, e, p, q⟩ => by
    subst e
    obtain ⟨h1, h2⟩ := kget_ok (ks := ks) (k := k) q
    have ez : (j :: ks).zip (v :: r) = (j, v) :: ks.zip r := rfl
    refine ⟨fun d h => ?_, fun l h => ?_⟩
    · simp only [kget] at h
      by_cases z : j = k
      · rw [if_pos z] at h; cases h
        exact ⟨v, by rw [ez, valV_pos (by exact z)], p⟩
      · rw [if_neg z] at h
        obtain ⟨w, hw, rw'⟩ := h1 d h
        exact ⟨w, by rw [ez, valV_neg (by exact z)]; exact hw, rw'⟩
    · simp only [kget] at h
      by_cases z : j = k
      · rw [if_pos z] at h; cases h
      · rw [if_neg z] at h
        rw [ez, valV_neg (by exact z)]
        exact h2 (by simpa using l) h
theorem khas_ok : ∀ {ks : List Key} {vs : List V} {k : Key}, ks.length = vs.length → khas ks k = ((ks.zip vs).any fun kv => decide (kv.1 = k))
  | [], vs, k, _ => by simp [khas]
  | j :: ks, [], k, l => by simp at l
  | j :: ks, v :: vs, k, l => by
    have := khas_ok (ks := ks) (vs := vs) (k := k) (by simpa using l)
    simp [khas, this]
theorem krep_ok : ∀ {ks : List Key} {us : List D} {vs : List V} {k : Key} {d : D} {y : V}, ks.length = vs.length → RepL G g us vs → Rep G g d y →
    ∃ ws, (ks.zip vs).map (fun kv => if kv.1 = k then (kv.1, y) else kv) = ks.zip ws ∧ ks.length = ws.length ∧ RepL G g (krep ks us k d) ws
  | [], us, vs, k, d, y, l, r, _ => by
    cases vs with
    | nil => exact ⟨[], rfl, rfl, by cases us <;> exact r⟩
    | cons v vs => simp at l
  | j :: ks, [], vs, k, d, y, l, r, _ => by cases r; simp at l
  | j :: ks, u :: us, vs, k, d, y, l, ⟨v, r, e, p, q⟩, h => by
    subst e
    obtain ⟨ws, e1, e2, e3⟩ := krep_ok (k := k) (by simpa using l) q h
    refine ⟨(if j = k then y else v) :: ws, ?_, by simp [e2], _, ws, rfl, ?_, e3⟩
    · show (if j = k then (j, y) else (j, v)) :: List.map (fun kv => if kv.1 = k then (kv.1, y) else kv) (ks.zip r) = (j, _) :: ks.zip ws
      rw [e1]
      by_cases z : j = k
      · rw [if_pos z, if_pos z]
      · rw [if_neg z, if_neg z]
    · by_cases z : j = k
      · rw [if_pos z, if_pos z]; exact h
      · rw [if_neg z, if_neg z]; exact p
theorem kput_ok {ks : List Key} {us : List D} {vs : List V} {k : Key} {d : D} {y : V} (l : ks.length = vs.length) (r : RepL G g us vs) (h : Rep G g d y) :
    ∃ ws, putK (ks.zip vs) k y = (kput ks us k d).1.zip ws ∧ (kput ks us k d).1.length = ws.length ∧ RepL G g (kput ks us k d).2 ws := by
  unfold kput putK
  rw [← khas_ok l]
  by_cases z : khas ks k = true
  · rw [if_pos z, if_pos z]
    exact krep_ok l r h
  · rw [if_neg z, if_neg z]
    refine ⟨vs ++ [y], ?_, by simp [l], r.append (.one h)⟩
    show _ = (ks ++ [k]).zip (vs ++ [y])
    rw [List.zip_append l]
    rfl
theorem kdrop_ok : ∀ {ks : List Key} {us : List D} {vs : List V} {k : Key}, ks.length = vs.length → RepL G g us vs →
    ∃ ws, dropK (ks.zip vs) k = (kdropK ks k).zip ws ∧ (kdropK ks k).length = ws.length ∧ RepL G g (kdropU ks us k) ws
  | [], us, vs, k, l, r => by
    cases vs with
    | nil => exact ⟨[], rfl, rfl, by cases us <;> exact r⟩
    | cons v vs => simp at l
  | j :: ks, [], vs, k, l, r => by cases r; simp at l
  | j :: ks, u :: us, vs, k, l, ⟨v, r, e, p, q⟩ => by
    subst e
    obtain ⟨ws, e1, e2, e3⟩ := kdrop_ok (k := k) (by simpa using l) q
    by_cases z : j = k
    · refine ⟨ws, ?_, ?_, ?_⟩
      · show List.filter _ ((j, v) :: ks.zip r) = _
        rw [List.filter_cons_of_neg (by simp [z])]
        have : kdropK (j :: ks) k = kdropK ks k := by unfold kdropK; rw [List.filter_cons_of_neg (by simp [z])]
        rw [this]; exact e1
      · have : kdropK (j :: ks) k = kdropK ks k := by unfold kdropK; rw [List.filter_cons_of_neg (by simp [z])]
        rw [this]; exact e2
      · simp only [kdropU]; rw [if_pos z]; exact e3
    · have ek : kdropK (j :: ks) k = j :: kdropK ks k := by unfold kdropK; rw [List.filter_cons_of_pos (by simp [z])]
      refine ⟨v :: ws, ?_, by rw [ek]; simp [e2], ?_⟩
      · show List.filter _ ((j, v) :: ks.zip r) = _
        rw [List.filter_cons_of_pos (by simp [z]), ek]
        show _ = (j, v) :: (kdropK ks k).zip ws
        rw [← e1]
        rfl
      · simp only [kdropU]; rw [if_neg z]; exact ⟨v, ws, rfl, p, e3⟩
end
def dictOf (st : Sto) : D → Option (List Key × List D)
  | .cell i => match st[i]? with
    | some (.dk ks us) => some (ks, us)
    | _ => none
  | .dk m ks us => if m = .frz ∨ m = .loan then some (ks, us) else none
  | _ => none
section
variable {G : GS} {W : WX} {X : Cx}
theorem dictOf_H {g : Gh} {en : En} {st : Sto} {σ : L2.St} {H : Hp} {d : D} {v : V} {p : List Key × List D} (R : Rel G g en st σ H) (r : Rep G g d v) (h : dictOf st d = some p) :
    ∃ a vs, v = .ref a ∧ Rd H a (.dK (p.1.zip vs)) ∧ p.1.length = vs.length ∧ RepL G g p.2 vs := by
  unfold dictOf at h
  split at h
  · rename_i i
    split at h
    · rename_i ks us hi
      cases h
      obtain ⟨a, o, e1, e2, e3, vs, e4, e5, e6⟩ := R.isCell hi (by intro w; cases w) r
      subst e4
      exact ⟨a, vs, e1, .inl e3, e5, e6⟩
    · cases h
  · rename_i m ks us
    split at h
    · rename_i hm
      cases h
      obtain ⟨a, vs, e1, e2, e3, e4⟩ := r
      refine ⟨a, vs, e1, ?_, e3, e4⟩
      rcases hm with rfl | rfl
      · obtain ⟨o, e⟩ := e2
        exact .inr ⟨o, R.sF _ _ e⟩
      · exact rd_same R.sL e2
    · cases h
  · cases h
theorem hu_of {k : Nat} {A : Around} (r : Room k A) : A.units + 1 < cLine := by have := r.units; omega
def oIxd : Op2 := fun x y st => match dictOf st x with
  | some p => match keyOf y with
    | some k => match kget p.1 p.2 k with
      | some d => .ok d st
      | none => .bad
    | none => .bad
  | none => oIx x y st
theorem ix_dict (hu : X.A.units + 1 < cLine) : IxR X (fun x y H Q => ∃ a v, x = .ref a ∧ DGet H a y (some v) ∧ Q v H) := by
  intro value slice pins s σ H x y v u Q I rx ry h hs
  obtain ⟨a, w, ex, g, q⟩ := h
  subst ex
  obtain rfl : v = Value.ref a := rx
  exact PyProof.Rows.tail_any (dict_typeIs I g) PySem.F.slot_dict_getitem.lookup (d_getItem hu I g ry fun w' s3 I3 rw' => ⟨w, H, I3, rw', q⟩) hs
theorem ho_ixd (hK : X.K = G.K) (hu : X.A.units + 1 < cLine) : IxR X (rD G W oIxd) := by
  refine IxR_imp (IxR.or (ix_dict hu) (ho_ix (G := G) (W := W) hK)) fun v u H Q ⟨g, en, st, σ, x, y, R, rx, ry, h⟩ => ?_
  unfold oIxd at h
  split at h
  · rename_i p hp
    split at h
    · rename_i k hk
      split at h
      · rename_i d hd
        obtain ⟨a, vs, e1, e2, e3, e4⟩ := dictOf_H R rx hp
        obtain ⟨w, h1, h2⟩ := (kget_ok e4).1 d hd
        exact .inl ⟨a, w, e1, .inl ⟨_, k, e2, keyOf_ok ry hk, h1.symm⟩, h g H (Le.refl _) R _ h2⟩
      · exact h.elim
    · exact h.elim
  · exact .inr ⟨g, en, st, σ, x, y, R, rx, ry, h⟩
theorem se_ixd {a b : Expr} {ca cb : XE} {pos : Pos} (hK : X.K = G.K) (hu : X.A.units + 1 < cLine) (ha : SE G W X a ca) (hb : SE G W X b cb) (hs : PlainIx b := by intro _ _; rfl) : SE G W X (.Subscript a b pos) (x2 oIxd ca cb) :=
  ⟨PE_imp (pe_ix (ho_ixd hK hu) ha.pe hb.pe hs) fun _ _ _ h => tOp_of h⟩
def oInd : Op2 := fun x y st => match dictOf st y with
  | some p => match keyOf x with
    | some k => .ok (.bl (khas p.1 k)) st
    | none => .bad
  | none => oIn x y st
def oNotInd : Op2 := fun x y st => match dictOf st y with
  | some p => match keyOf x with
    | some k => .ok (.bl (!khas p.1 k)) st
    | none => .bad
  | none => oNotIn x y st
theorem khas_val {ks : List Key} {vs : List V} {k : Key} (l : ks.length = vs.length) : khas ks k = (valV (ks.zip vs) k).isSome := by
  rw [khas_ok l, valV_any]
theorem or_dict (hu : X.A.units + 1 < cLine) : OpR X (compareOp .In) (fun y x H Q => ∃ a o, x = .ref a ∧ DGet H a y o ∧ Q (.bl o.isSome) H) := by
  intro pins s σ H y x u v Q I ry rx h
  obtain ⟨a, o, ex, g, q⟩ := h
  subst ex
  obtain rfl : v = Value.ref a := rx
  exact d_in hu I g ry fun s3 I3 => ⟨.bl o.isSome, H, I3, rfl, q⟩
theorem or_dictN (hu : X.A.units + 1 < cLine) : OpR X (compareOp .NotIn) (fun y x H Q => ∃ a o, x = .ref a ∧ DGet H a y o ∧ Q (.bl (!o.isSome)) H) := by
  intro pins s σ H y x u v Q I ry rx h
  obtain ⟨a, o, ex, g, q⟩ := h
  subst ex
  obtain rfl : v = Value.ref a := rx
  exact d_notIn hu I g ry fun s3 I3 => ⟨.bl (!o.isSome), H, I3, rfl, q⟩
theorem ho_ind (hK : X.K = G.K) (hu : X.A.units + 1 < cLine) : OpR X (compareOp .In) (rD G W oInd) := by
  refine OpR_imp (OpR.or (or_dict hu) (ho_in (G := G) (W := W) hK)) fun v u H Q ⟨g, en, st, σ, x, y, R, rx, ry, h⟩ => ?_
  unfold oInd at h
  split at h
  · rename_i p hp
    split at h
    · rename_i k hk
      obtain ⟨a, vs, e1, e2, e3, e4⟩ := dictOf_H R ry hp
      rw [khas_val e3] at h
      exact .inl ⟨a, _, e1, .inl ⟨_, k, e2, keyOf_ok rx hk, rfl⟩, h g H (Le.refl _) R _ rfl⟩
    · exact h.elim
  · exact .inr ⟨g, en, st, σ, x, y, R, rx, ry, h⟩
theorem ho_notind (hK : X.K = G.K) (hu : X.A.units + 1 < cLine) : OpR X (compareOp .NotIn) (rD G W oNotInd) := by
  refine OpR_imp (OpR.or (or_dictN hu) (ho_notin (G := G) (W := W) hK)) fun v u H Q ⟨g, en, st, σ, x, y, R, rx, ry, h⟩ => ?_
  unfold oNotInd at h
  split at h
  · rename_i p hp
    split at h
    · rename_i k hk
      obtain ⟨a, vs, e1, e2, e3, e4⟩ := dictOf_H R ry hp
      rw [khas_val e3] at h
      exact .inl ⟨a, _, e1, .inl ⟨_, k, e2, keyOf_ok rx hk, rfl⟩, h g H (Le.refl _) R _ rfl⟩
    · exact h.elim
  · exact .inr ⟨g, en, st, σ, x, y, R, rx, ry, h⟩
theorem pset_dict (hu : X.A.units + 1 < cLine) : PSet X (fun o i v H Q => ∃ a H', o = .ref a ∧ DPut H a i v H' ∧ Q H') := by
  intro pins s σ H o j v ov iv u Q I ro ri rv h
  obtain ⟨a, H', e, g, q⟩ := h
  subst e
  obtain rfl : ov = Value.ref a := ro
  exact d_setItem hu I g ri rv fun s4 I4 => ⟨H', I4, q⟩
def oSetD : Op3 := fun x y z st => match x with
  | .cell i => match st[i]? with
    | some (.dk ks us) => match keyOf y with
      | some k => if fitL (ks.length + 1) then .ok () (st.set i (.dk (kput ks us k z).1 (kput ks us k z).2)) else .bad
      | none => .bad
    | _ => oSetL x y z st
  | _ => .bad
theorem ho_setD (hu : X.A.units + 1 < cLine) : PSet X (rD3 G W oSetD) := PSet_imp (PSet_or (pset_dict hu) (ho_setL (G := G) (W := W))) fun o i v H Q ⟨g, en, st, σ, x, y, z, R, rx, ry, rz, h⟩ => by
  unfold oSetD at h
  split at h
  · rename_i ci
    split at h
    · rename_i ks us hi
      split at h
      · rename_i k hk
        split at h
        · rename_i hf
          obtain ⟨a, ob, e1, e2, e3, vs, e4, e5, e6⟩ := R.isCell hi (by intro w; cases w) rx
          subst e4
          obtain ⟨ws, f1, f2, f3⟩ := kput_ok (k := k) e5 e6 rz
          refine .inl ⟨a, _, e1, .inl ⟨_, k, e3, keyOf_ok ry hk, ?_, rfl⟩, ?_⟩
          · have := fitL_ok hf
            rw [List.length_zip, ← e5, Nat.min_self]
            omega
          · exact h g _ (Le.refl _) (R.put hi (by intro w; cases w) e2 ⟨ws, by rw [f1], f2, f3⟩)
        · exact h.elim
      · exact h.elim
    · exact .inr ⟨g, en, st, σ, _, y, z, R, rx, ry, rz, h⟩
  · exact h.elim
def sdel (a b : XE) : XS := fun en st => (a en st).bind fun x st => (b en st).bind fun y st => match x with
  | .cell i => match st[i]? with
    | some (.dk ks us) => match keyOf y with
      | some k => if khas ks k then .ok (.nx, en) (st.set i (.dk (kdropK ks k) (kdropU ks us k))) else .bad
      | none => .bad
    | _ => .bad
  | _ => .bad
theorem ss_del {o i : Expr} {a b : XE} {tpos pos : Pos} (ho : SE G W X o a) (hi : SE G W X i b) : SS G W X (.Delete [.Subscript o i tpos] pos) (sdel a b) :=
  ⟨PS_imp (ps_ddel ho.pe hi.pe) fun D σ H ⟨g, en, st, R, h⟩ => by
    refine ⟨g, en, st, R, (pS.bind h).imp fun x st1 g1 H1 l1 R1 h1 v rv => ?_⟩
    refine ⟨g1, en, st1, R1, (pS.bind h1).imp fun y st2 g2 H2 l2 R2 h2 u ru => ?_⟩
    have rv2 := rv.mono l2
    split at h2
    · rename_i ci
      split at h2
      · rename_i ks us hc
        split at h2
        · rename_i k hk
          split at h2
          · rename_i hh
            obtain ⟨a', ob, e1, e2, e3, vs, e4, e5, e6⟩ := R2.isCell hc (by intro w; cases w) rv2
            subst e4
            obtain ⟨ws, f1, f2, f3⟩ := kdrop_ok (k := k) e5 e6
            refine ⟨a', _, k, e1, e3, keyOf_ok ru hk, by rw [← khas_val e5]; exact hh, ?_⟩
            exact h2 g2 σ _ (Le.refl _) (R2.put hc (by intro w; cases w) e2 ⟨ws, by rw [f1], f2, f3⟩)
          · exact h2.elim
        · exact h2.elim
      · exact h2.elim
    · exact h2.elim⟩
theorem isD_of {g : Gh} {en : En} {st : Sto} {σ : L2.St} {H : Hp} {d : D} {v : V} (R : Rel G g en st σ H) (r : Rep G g d v) (h : (dictOf st d).isSome = true) : ∃ a, v = .ref a ∧ IsD H a := by
  cases e : dictOf st d with
  | none => rw [e] at h; cases h
  | some p =>
    obtain ⟨a, vs, e1, e2, e3, e4⟩ := dictOf_H R r e
    exact ⟨a, e1, .inl ⟨_, e2⟩⟩
def dgetD (p : Option (List Key × List D)) (y z : D) (st : Sto) : R D := match p with
  | some p => match keyOf y with
    | some k => .ok ((kget p.1 p.2 k).getD z) st
    | none => .bad
  | none => .bad
def xdget1 (a b : XE) : XE := fun en st => (a en st).bind fun x st => if (dictOf st x).isSome then (b en st).bind fun y st => dgetD (dictOf st x) y .non st else .bad
def xdget2 (a b c : XE) : XE := fun en st => (a en st).bind fun x st => if (dictOf st x).isSome then (b en st).bind fun y st => (c en st).bind fun z st => dgetD (dictOf st x) y z st else .bad
theorem dgetD_ok {g : Gh} {en : En} {st : Sto} {σ : L2.St} {H : Hp} {x y z : D} {vx vy vz : V} {Q : VK} (R : Rel G g en st σ H) (rx : Rep G g x vx) (ry : Rep G g y vy) (rz : Rep G g z vz) {a : Addr} (ea : vx = .ref a)
    (h : pX G W g en σ (dgetD (dictOf st x) y z st) fun d g' _ H' => ∀ v, Rep G g' d v → Q v H') : ∃ o, DGet H a vy o ∧ Q (o.getD vz) H := by
  unfold dgetD at h
  split at h
  · rename_i p hp
    split at h
    · rename_i k hk
      obtain ⟨a', vs, e1, e2, e3, e4⟩ := dictOf_H R rx hp
      rw [ea] at e1; cases e1
      refine ⟨_, .inl ⟨_, k, e2, keyOf_ok ry hk, rfl⟩, h g H (Le.refl _) R _ ?_⟩
      cases e : kget p.1 p.2 k with
      | none => rw [(kget_ok e4).2 e3 e]; exact rz
      | some d =>
        obtain ⟨v, h1, h2⟩ := (kget_ok e4).1 d e
        rw [h1]; exact h2
    · exact h.elim
  · exact h.elim
theorem m1_of {o e : Expr} {m : Str} {apos cpos : Pos} (base : attributeBase o m X.env (eval o X.env) = eval o X.env)
    (few : ((backTo cpos (starEach [e] X.env)).all (fun x => !x.1) && (backToKw cpos (keywordEach [] X.env)).all (fun x => x.1.isSome) && decide (([e] : List Expr).length + ([] : List Keyword).length + (if ([] : List Keyword).isEmpty then 0 else 1) < 30)) = true)
    (line : (apos.endLine == cpos.line) = true) (trees : backTo cpos (starEach [e] X.env) = [(false, eval e X.env)]) : M1 X o m apos e cpos := ⟨base, few, line, trees⟩
theorem se_dget1 {o e : Expr} {a b : XE} {apos cpos : Pos} (hu : X.A.units + 1 < cLine) (ho : SE G W X o a) (he : SE G W X e b) (m : M1 X o "get" apos e cpos := by exact ⟨rfl, rfl, rfl, rfl⟩) : SE G W X (.Call (.Attribute o "get" apos) [e] [] cpos) (xdget1 a b) :=
  ⟨PE_imp (pe_dget1 hu ho.pe he.pe m) fun σ H Q ⟨g, en, st, R, h⟩ => by
    refine ⟨g, en, st, R, (pX.bind h).imp fun x st1 g1 H1 l1 R1 h1 v rv => ?_⟩
    split at h1
    · rename_i hd
      obtain ⟨p, e1, e2⟩ := isD_of R1 rv hd
      refine ⟨p, e1, e2, g1, en, st1, R1, (pX.bind h1).imp fun y st2 g2 H2 l2 R2 h2 u ru => ?_⟩
      exact dgetD_ok R2 (rv.mono l2) ru (z := .non) (vz := .non) rfl e1 h2
    · exact h1.elim⟩
theorem se_dget2 {o e f : Expr} {a b c : XE} {apos cpos : Pos} (hu : X.A.units + 1 < cLine) (ho : SE G W X o a) (he : SE G W X e b) (hf : SE G W X f c) (m : M2 X o "get" apos e f cpos := by exact ⟨rfl, rfl, rfl, rfl⟩) : SE G W X (.Call (.Attribute o "get" apos) [e, f] [] cpos) (xdget2 a b c) :=
  ⟨PE_imp (pe_dget2 hu ho.pe he.pe hf.pe m) fun σ H Q ⟨g, en, st, R, h⟩ => by
    refine ⟨g, en, st, R, (pX.bind h).imp fun x st1 g1 H1 l1 R1 h1 v rv => ?_⟩
    split at h1
    · rename_i hd
      obtain ⟨p, e1, e2⟩ := isD_of R1 rv hd
      refine ⟨p, e1, e2, g1, en, st1, R1, (pX.bind h1).imp fun y st2 g2 H2 l2 R2 h2 u ru => ?_⟩
      refine ⟨g2, en, st2, R2, (pX.bind h2).imp fun z st3 g3 H3 l3 R3 h3 w rw' => ?_⟩
      exact dgetD_ok R3 (rv.mono (l2.trans l3)) (ru.mono l3) rw' e1 h3
    · exact h1.elim⟩
def dpopD (x y z : D) (st : Sto) : R D := match x with
  | .cell i => match st[i]? with
    | some (.dk ks us) => match keyOf y with
      | some k => match kget ks us k with
        | some d => .ok d (st.set i (.dk (kdropK ks k) (kdropU ks us k)))
        | none => .ok z st
      | none => .bad
    | _ => .bad
  | _ => .bad
def xdpop2 (a b c : XE) : XE := fun en st => (a en st).bind fun x st => if (dictOf st x).isSome then (b en st).bind fun y st => (c en st).bind fun z st => dpopD x y z st else .bad
theorem se_dpop2 {o e f : Expr} {a b c : XE} {apos cpos : Pos} (ho : SE G W X o a) (he : SE G W X e b) (hf : SE G W X f c) (m : M2 X o "pop" apos e f cpos := by exact ⟨rfl, rfl, rfl, rfl⟩) : SE G W X (.Call (.Attribute o "pop" apos) [e, f] [] cpos) (xdpop2 a b c) :=
  ⟨PE_imp (pe_dpop2 ho.pe he.pe hf.pe m) fun σ H Q ⟨g, en, st, R, h⟩ => by
    refine ⟨g, en, st, R, (pX.bind h).imp fun x st1 g1 H1 l1 R1 h1 v rv => ?_⟩
    split at h1
    · rename_i hd
      obtain ⟨p, e1, e2⟩ := isD_of R1 rv hd
      refine ⟨p, e1, e2, g1, en, st1, R1, (pX.bind h1).imp fun y st2 g2 H2 l2 R2 h2 u ru => ?_⟩
      refine ⟨g2, en, st2, R2, (pX.bind h2).imp fun z st3 g3 H3 l3 R3 h3 w rw' => ?_⟩
      unfold dpopD at h3
      split at h3
      · rename_i ci
        split at h3
        · rename_i ks us hc
          split at h3
          · rename_i k hk
            obtain ⟨a', ob, f1, f2, f3, vs, f4, f5, f6⟩ := R3.isCell hc (by intro w; cases w) (rv.mono (l2.trans l3))
            subst f4
            rw [e1] at f1; cases f1
            refine ⟨_, k, f3, keyOf_ok (ru.mono l3) hk, fun v' hv' => ?_, fun hn => ?_⟩
            · cases ek : kget ks us k with
              | none => rw [(kget_ok f6).2 f5 ek] at hv'; cases hv'
              | some d =>
                rw [ek] at h3
                obtain ⟨v1, q1, q2⟩ := (kget_ok f6).1 d ek
                rw [q1] at hv'; cases hv'
                obtain ⟨ws, t1, t2, t3⟩ := kdrop_ok (k := k) f5 f6
                exact h3 g3 _ (Le.refl _) (R3.put hc (by intro w; cases w) f2 ⟨ws, by rw [t1], t2, t3⟩) _ q2
            · cases ek : kget ks us k with
              | none => rw [ek] at h3; exact h3 g3 H3 (Le.refl _) R3 _ rw'
              | some d =>
                obtain ⟨v1, q1, q2⟩ := (kget_ok f6).1 d ek
                rw [q1] at hn; cases hn
          · exact h3.elim
        · exact h3.elim
      · exact h3.elim
    · exact h1.elim⟩
def dpop1D (x y : D) (st : Sto) : R D := match x with
  | .cell i => match st[i]? with
    | some (.dk ks us) => match keyOf y with
      | some k => match kget ks us k with
        | some d => .ok d (st.set i (.dk (kdropK ks k) (kdropU ks us k)))
        | none => .bad
      | none => .bad
    | _ => .bad
  | _ => .bad
def xdpop1 (a b : XE) : XE := fun en st => (a en st).bind fun x st => if (dictOf st x).isSome then (b en st).bind fun y st => dpop1D x y st else .bad
theorem se_dpop1 {o e : Expr} {a b : XE} {apos cpos : Pos} (ho : SE G W X o a) (he : SE G W X e b) (m : M1 X o "pop" apos e cpos := by exact ⟨rfl, rfl, rfl, rfl⟩) : SE G W X (.Call (.Attribute o "pop" apos) [e] [] cpos) (xdpop1 a b) :=
  ⟨PE_imp (pe_dpop1 ho.pe he.pe m) fun σ H Q ⟨g, en, st, R, h⟩ => by
    refine ⟨g, en, st, R, (pX.bind h).imp fun x st1 g1 H1 l1 R1 h1 v rv => ?_⟩
    split at h1
    · rename_i hd
      obtain ⟨p, e1, e2⟩ := isD_of R1 rv hd
      refine ⟨p, e1, e2, g1, en, st1, R1, (pX.bind h1).imp fun y st2 g2 H2 l2 R2 h2 u ru => ?_⟩
      unfold dpop1D at h2
      split at h2
      · rename_i ci
        split at h2
        · rename_i ks us hc
          split at h2
          · rename_i k hk
            split at h2
            · rename_i d ek
              obtain ⟨a', ob, f1, f2, f3, vs, f4, f5, f6⟩ := R2.isCell hc (by intro w; cases w) (rv.mono l2)
              subst f4
              rw [e1] at f1; cases f1
              obtain ⟨v1, q1, q2⟩ := (kget_ok f6).1 d ek
              obtain ⟨ws, t1, t2, t3⟩ := kdrop_ok (k := k) f5 f6
              exact ⟨_, k, v1, f3, keyOf_ok ru hk, q1, h2 g2 _ (Le.refl _) (R2.put hc (by intro w; cases w) f2 ⟨ws, by rw [t1], t2, t3⟩) _ q2⟩
            · exact h2.elim
          · exact h2.elim
        · exact h2.elim
      · exact h2.elim
    · exact h1.elim⟩
abbrev XP := En → Sto → R (List (D × D))
def xpnil : XP := fun _ st => .ok [] st
def xpcons (a b : XE) (c : XP) : XP := fun en st => (a en st).bind fun x st => (b en st).bind fun y st => (c en st).bind fun r st => .ok ((x, y) :: r) st
def keysOf : List (D × D) → Option (List (Key × D))
  | [] => some []
  | p :: r => match keyOf p.1, keysOf r with
    | some k, some q => some ((k, p.2) :: q)
    | _, _ => none
def kmerge (ks : List Key) (us : List D) : List (Key × D) → List Key × List D
  | [] => (ks, us)
  | p :: r => kmerge (kput ks us p.1 p.2).1 (kput ks us p.1 p.2).2 r
def xdisp (c : XP) : XE := fun en st => (c en (st ++ [.dk [] []])).bind fun ps st' => match keysOf ps with
  | some kds => if kds.length ≤ 15 then (match st'[st.length]? with
      | some (.dk [] []) => .ok (.cell st.length) (st'.set st.length (.dk (kmerge [] [] kds).1 (kmerge [] [] kds).2))
      | _ => .bad) else .bad
  | none => .bad
def RepP (G : GS) (g : Gh) : List (D × D) → List (V × V) → Prop
  | [], vs => vs = []
  | p :: r, vs => ∃ v q, vs = v :: q ∧ Rep G g p.1 v.1 ∧ Rep G g p.2 v.2 ∧ RepP G g r q
structure SPp (G : GS) (W : WX) (X : Cx) (pos : Pos) (keys : List (Option Expr)) (values : List Expr) (c : XP) : Prop where
  pp : ∃ trs, PPs X pos keys values trs ∧ ∀ (σ : L2.St) (H : Hp) (Q : List (V × V) → Hp → Prop) (g : Gh) (en : En) (st : Sto), Rel G g en st σ H → pX G W g en σ (c en st) (fun ps g' _ H' => ∀ vs, RepP G g' ps vs → Q vs H') → tPairs trs σ H Q
theorem spp_nil {pos : Pos} : SPp G W X pos [] [] xpnil := ⟨[], pps_nil, fun σ H Q g en st R h => h g H (Le.refl _) R [] rfl⟩
theorem spp_cons {pos : Pos} {k v : Expr} {ks : List (Option Expr)} {vs : List Expr} {a b : XE} {c : XP} (hk : SE G W X k a) (hv : SE G W X v b) (hr : SPp G W X pos ks vs c) : SPp G W X pos (some k :: ks) (v :: vs) (xpcons a b c) := by
  obtain ⟨trs, hp, hq⟩ := hr.pp
  refine ⟨_, pps_cons hk.pe hv.pe hp, fun σ H Q g en st R h => ?_⟩
  refine ⟨g, en, st, R, (pX.bind h).imp fun x st1 g1 H1 l1 R1 h1 v1 rv1 => ?_⟩
  refine ⟨g1, en, st1, R1, (pX.bind h1).imp fun y st2 g2 H2 l2 R2 h2 v2 rv2 => ?_⟩
  refine hq σ H2 _ g2 en st2 R2 ((pX.bind h2).imp fun r st3 g3 H3 l3 R3 h3 vr rvr => ?_)
  exact h3 g3 H3 (Le.refl _) R3 _ ⟨(v1, v2), vr, rfl, rv1.mono (l2.trans l3), rv2.mono l3, rvr⟩
theorem keysOf_ok {g : Gh} : ∀ {ps : List (D × D)} {vs : List (V × V)} {kds : List (Key × D)}, RepP G g ps vs → keysOf ps = some kds → ∃ kvs : List (Key × V), vs = kvs.map (fun kv => (kV kv.1, kv.2)) ∧ kvs.length = kds.length ∧ kvs.map (·.1) = kds.map (·.1) ∧ RepL G g (kds.map (·.2)) (kvs.map (·.2))
  | [], vs, kds, h, e => by cases h; cases e; exact ⟨[], rfl, rfl, rfl, rfl⟩
  | p :: r, vs, kds, ⟨v, q, e1, e2, e3, e4⟩, h => by
    simp only [keysOf] at h
    split at h
    · rename_i k rest hk hr
      cases h
      obtain ⟨kvs, f1, f2, f3, f4⟩ := keysOf_ok e4 hr
      refine ⟨(k, v.2) :: kvs, ?_, by simp [f2], by simp [f3], v.2, kvs.map (·.2), by simp, e3, f4⟩
      rw [e1, f1, List.map_cons, ← keyOf_ok e2 hk]
    · cases h
theorem kmerge_ok {g : Gh} : ∀ {kds : List (Key × D)} {kvs : List (Key × V)} {ks : List Key} {us : List D} {vs : List V}, kvs.map (·.1) = kds.map (·.1) → RepL G g (kds.map (·.2)) (kvs.map (·.2)) → ks.length = vs.length → RepL G g us vs →
    ∃ ws, mergeK (ks.zip vs) kvs = (kmerge ks us kds).1.zip ws ∧ (kmerge ks us kds).1.length = ws.length ∧ RepL G g (kmerge ks us kds).2 ws
  | [], [], ks, us, vs, _, _, l, r => ⟨vs, rfl, l, r⟩
  | [], _ :: _, _, _, _, h, _, _, _ => by simp at h
  | _ :: _, [], _, _, _, h, _, _, _ => by simp at h
  | p :: kds, q :: kvs, ks, us, vs, h, ⟨v, rr, e, e1, e2⟩, l, r => by
    simp only [List.map_cons, List.cons.injEq] at h e
    obtain ⟨rfl, rfl⟩ := e
    obtain ⟨ws, f1, f2, f3⟩ := kput_ok (k := p.1) l r e1
    obtain ⟨ws', g1, g2, g3⟩ := kmerge_ok (kds := kds) (kvs := kvs) h.2 e2 f2 f3
    refine ⟨ws', ?_, g2, g3⟩
    have e0 : mergeK (ks.zip vs) (q :: kvs) = mergeK (putK (ks.zip vs) q.1 q.2) kvs := rfl
    rw [e0, h.1, f1]
    exact g1
theorem se_disp {keys : List (Option Expr)} {values : List Expr} {c : XP} {pos : Pos} (h : SPp G W X pos keys values c) (hall : keys.all (·.isSome) = true := by rfl) (hl : keys.length = values.length := by rfl) (h0 : keys ≠ [] := by exact List.cons_ne_nil _ _) (h15 : keys.length ≤ 15 := by exact Nat.le_of_ble_eq_true rfl) :
    SE G W X (.Dict keys values pos) (xdisp c) := by
  obtain ⟨trs, hp, hq⟩ := h.pp
  refine ⟨PE_imp (pe_disp hp hall hl h0 h15) fun σ H Q ⟨g, en, st, R, w⟩ => ?_⟩
  intro p hpn
  obtain ⟨l0, R0, r0⟩ := R.new (c := .dk [] []) (o := .dK []) hpn ⟨[], rfl, rfl, rfl⟩
  refine hq σ _ _ _ en _ R0 ((pX.bind (pX.weak l0 w)).imp fun ps st1 g1 H1 l1 R1 h1 vs rvs => ?_)
  split at h1
  · rename_i kds hk
    split at h1
    · rename_i h15
      split at h1
      · rename_i hc
        obtain ⟨kvs, f1, f2, f3, f4⟩ := keysOf_ok rvs hk
        obtain ⟨a', ob, e1, e2, e3, us, e4, e5, e6⟩ := R1.isCell hc (by intro w; cases w) (r0.mono l1)
        cases e1
        cases e6
        subst e4
        obtain ⟨ws, k1, k2, k3⟩ := kmerge_ok (ks := []) (us := []) (vs := []) f3 f4 rfl rfl
        refine ⟨e3, kvs, f1, by omega, ?_⟩
        refine h1 g1 _ (Le.refl _) (R1.put hc (by intro w; cases w) e2 ⟨ws, by rw [← k1]; rfl, k2, k3⟩) _ ?_
        exact r0.mono l1
      · exact h1.elim
    · exact h1.elim
  · exact h1.elim
def xdnew : XE := fun _ st => .ok (.cell st.length) (st ++ [.dk [] []])
theorem se_dnew {pos : Pos} : SE G W X (.Dict [] [] pos) xdnew := ⟨PE_imp pe_dnewK fun σ H Q ⟨g, en, st, R, h⟩ p hp => by
  obtain ⟨l0, R0, r0⟩ := R.new (c := .dk [] []) (o := .dK []) hp ⟨[], rfl, rfl, rfl⟩
  exact h _ _ l0 R0 _ r0⟩
end
end Px
namespace Px
open PySem PySem.Spec L2
def iKeysL (X : Cx) (td : TE) : TI := fun σ H R => td σ H fun x H1 => ∃ d kvs, x = .ref d ∧ ((∃ o, H1 d = some (.frz o (.dK kvs)) ∧ R (Itk d o kvs) H1) ∨
  (H1 d = some (.dK kvs) ∧ ∀ o, (∀ o' u', X.H_0 d ≠ some (.frz o' u')) → R (Itk d o kvs) (upd H1 d (.frz o (.dK kvs)))))
def unl (X : Cx) (Q : Hp → Prop) (H : Hp) : Prop := Q H ∨ ∃ d o u, H d = some (.frz o u) ∧ (∀ o' u', X.H_0 d ≠ some (.frz o' u')) ∧ Q (upd H d u)
def unlD (X : Cx) (D : Ends) : Ends := ⟨fun σ H => unl X (D.nx σ) H, fun v H => unl X (D.rt v) H, fun σ H => unl X (D.bk σ) H, fun σ H => unl X (D.ct σ) H⟩
section
variable {X : Cx} {tg e : Expr} {td : TE}
theorem keysAt {d : Addr} {o : Obj} {kvs : List (Key × V)} {pins : List (Addr × Obj)} {σ : L2.St} {H1 : Hp} {s1 : Shared} {R : It → Hp → Prop} (I1 : Inv X pins σ H1 s1) (hd : H1 d = some (.frz o (.dK kvs))) (q : R (Itk d o kvs) H1) :
    wpAny (model X.prog X.w) X.A (pyIter (.ref d)) (PIE X pins σ tg R) X.xe s1 := by
  obtain ⟨hs, hgd, hx, es, ep, vs, hdt, hsz, kv, hm⟩ := I1.frzK hd
  refine iter_keys hs hgd hx hdt (pi_one (tk := s1.toks) I1 _ (turn_keys _ hdt) ⟨_, Heap.get?_push_size _ rfl, rfl, ?_⟩ q)
  rw [hsz] <;> rfl
theorem pi_keysL (he : PE X e td) : PI X tg e (iKeysL X td) := by
  refine ⟨fun pins s σ H R I h => ?_⟩
  refine thn (he.run pins s σ H _ I h) fun u s1 ⟨x, H1, I1, rx, d, kvs, ex, q⟩ => ?_
  subst ex
  obtain rfl : u = Value.ref d := rx
  rcases q with ⟨o, hd, q⟩ | ⟨hd, q⟩
  · exact keysAt I1 hd q
  · obtain ⟨od, I2⟩ := I1.lock hd True.intro
    exact keysAt I2 upd_same (q od (I1.nofrz hd True.intro))
theorem unl_run {pins : List (Addr × Obj)} {σ : L2.St} {H : Hp} {s : Shared} {Q : Hp → Prop} (I : Inv X pins σ H s) (h : unl X Q H) : ∃ H', Inv X pins σ H' s ∧ Q H' := by
  rcases h with h | ⟨d, o, u, hd, hn, h⟩
  · exact ⟨H, I, h⟩
  · exact ⟨_, I.unlock hd hn, h⟩
theorem ps_unl {st : Stmt} {t : TS} (h : PS X st t) : PS X st (fun D σ H => t (unlD X D) σ H) := by
  refine ⟨fun pins s σ H D I hw => ?_⟩
  refine thn (h.run pins s σ H _ I hw) fun f s1 q => ?_
  cases f with
  | next => obtain ⟨σ', H', I2, q⟩ := q; obtain ⟨H2, I3, q⟩ := unl_run I2 q; exact ⟨σ', _, I3, q⟩
  | brk => obtain ⟨σ', H', I2, q⟩ := q; obtain ⟨H2, I3, q⟩ := unl_run I2 q; exact ⟨σ', _, I3, q⟩
  | cont => obtain ⟨σ', H', I2, q⟩ := q; obtain ⟨H2, I3, q⟩ := unl_run I2 q; exact ⟨σ', _, I3, q⟩
  | ret v => obtain ⟨x, σ', H', I2, r, q⟩ := q; obtain ⟨H2, I3, q⟩ := unl_run I2 q; exact ⟨x, σ', _, I3, r, q⟩
theorem ps_frz {st : Stmt} {t : TS} (h : PS X st t) : PS X st (fun D σ H => t D σ H ∨ ∃ d u, H d = some u ∧ Mut (some u) ∧ ∀ od, t D σ (upd H d (.frz od u))) := by
  refine ⟨fun pins s σ H D I hw => ?_⟩
  rcases hw with hw | ⟨d, u, hd, mu, hw⟩
  · exact h.run pins s σ H D I hw
  · obtain ⟨od, I1⟩ := I.lock hd mu
    exact h.run pins s σ _ D I1 (hw od)
end
section
variable {G : GS} {W : WX} {X : Cx} {g : Gh} {en : En} {st : Sto} {σ : L2.St} {H : Hp}
def Gh.lockL (g : Gh) (a : Addr) (o : HO) : Gh := { g with L := upd g.L a o }
theorem lk_seq {a : Addr} {u : HO} {b : Addr} {vs : List V} {L : Hp} (h : L a = some u) (hn : u ≠ .lst vs) (hb : L b = some (.lst vs)) : b ≠ a := fun z => by rw [z, h] at hb; cases hb; exact hn rfl
section
variable {a : Addr} {kvs : List (Key × V)} {o : Obj}
mutual
theorem Rep.lk {g g' : Gh} (hF : g'.F = g.F) (ha : g'.as = g.as) (hL : ∀ b, b ≠ a → g'.L b = g.L b) (h1 : Rd g.L a (.dK kvs)) (h2 : Rd g'.L a (.dK kvs)) : ∀ (d : D) (v : V), Rep G g d v → Rep G g' d v
  | .non, _, h => h
  | .bl _, _, h => h
  | .int _, _, h => h
  | .str _, _, h => h
  | .tup ds, v, ⟨b, vs, e, q, r⟩ => ⟨b, vs, e, by rw [hF]; exact q, RepL.lk hF ha hL h1 h2 ds vs r⟩
  | .lst m ds, v, ⟨b, vs, e, q, r⟩ => ⟨b, vs, e, by
      cases m with
      | frz => show g'.F b = _; rw [hF]; exact q
      | loan =>
        have q' : g.L b = some (.lst vs) := q
        have nb : b ≠ a := fun z => by
          rw [z] at q'
          rcases h1 with h1 | ⟨o, h1⟩ <;> rw [h1] at q' <;> cases q'
        show g'.L b = _
        rw [hL b nb]; exact q'
      | ro => show SqL G.K g'.F b vs; rw [hF]; exact q
      | own => exact q, RepL.lk hF ha hL h1 h2 ds vs r⟩
  | .dk m ks ds, v, ⟨b, vs, e, q, l, r⟩ => ⟨b, vs, e, by
      cases m with
      | frz => obtain ⟨o, q⟩ := q; exact ⟨o, by rw [hF]; exact q⟩
      | loan =>
        have q' : Rd g.L b (.dK (ks.zip vs)) := q
        by_cases z : b = a
        · rw [z] at q' ⊢
          have : HO.dK (ks.zip vs) = .dK kvs := by
            rcases h1 with h1 | ⟨o, h1⟩ <;> rcases q' with q' | ⟨o', q'⟩ <;> rw [h1] at q' <;> cases q' <;> rfl
          show Rd g'.L a (.dK (ks.zip vs))
          rw [this]; exact h2
        · show Rd g'.L b _
          rcases q' with q' | ⟨o', q'⟩
          · exact .inl (by rw [hL b z]; exact q')
          · exact .inr ⟨o', by rw [hL b z]; exact q'⟩
      | ro => exact q
      | own => exact q, l, RepL.lk hF ha hL h1 h2 ds vs r⟩
  | .dt m ks ds, v, ⟨b, vs, e, q, l, r⟩ => ⟨b, vs, e, by
      cases m with
      | frz => obtain ⟨o, q⟩ := q; exact ⟨o, by rw [hF]; exact q⟩
      | loan =>
        have q' : Rd g.L b (.dT (ks.zip vs)) := q
        have nb : b ≠ a := fun z => by
          rw [z] at q'
          rcases h1 with h1 | ⟨o, h1⟩ <;> rcases q' with q' | ⟨o', q'⟩ <;> rw [h1] at q' <;> cases q'
        show Rd g'.L b _
        rcases q' with q' | ⟨o', q'⟩
        · exact .inl (by rw [hL b nb]; exact q')
        · exact .inr ⟨o', by rw [hL b nb]; exact q'⟩
      | ro => exact q
      | own => exact q, l, RepL.lk hF ha hL h1 h2 ds vs r⟩
  | .obj m c ds, v, ⟨b, dx, vs, e, q, l, r⟩ => ⟨b, dx, vs, e, by
      cases m with
      | frz => show g'.F b = _; rw [hF]; exact q
      | loan =>
        have q' : g.L b = some (.ins (G.cls c) dx ((G.flds c).zip vs)) := q
        have nb : b ≠ a := fun z => by
          rw [z] at q'
          rcases h1 with h1 | ⟨o, h1⟩ <;> rw [h1] at q' <;> cases q'
        show g'.L b = _
        rw [hL b nb]; exact q'
      | ro => exact q
      | own => exact q, l, RepL.lk hF ha hL h1 h2 ds vs r⟩
  | .cell i, v, ⟨b, q, e⟩ => ⟨b, by rw [ha]; exact q, e⟩
theorem RepL.lk {g g' : Gh} (hF : g'.F = g.F) (ha : g'.as = g.as) (hL : ∀ b, b ≠ a → g'.L b = g.L b) (h1 : Rd g.L a (.dK kvs)) (h2 : Rd g'.L a (.dK kvs)) : ∀ (ds : List D) (vs : List V), RepL G g ds vs → RepL G g' ds vs
  | [], _, h => h
  | d :: ds, vs, ⟨v, r, e, p, q⟩ => ⟨v, r, e, Rep.lk hF ha hL h1 h2 d v p, RepL.lk hF ha hL h1 h2 ds r q⟩
end
theorem CO.lk {g g' : Gh} {c : Cell} {ho : HO} (hF : g'.F = g.F) (ha : g'.as = g.as) (hL : ∀ b, b ≠ a → g'.L b = g.L b) (h1 : Rd g.L a (.dK kvs)) (h2 : Rd g'.L a (.dK kvs)) (h : CO G g c ho) : CO G g' c ho := by
  cases c with
  | lst ds => obtain ⟨vs, e, r⟩ := h; exact ⟨vs, e, RepL.lk hF ha hL h1 h2 _ _ r⟩
  | dk ks us => obtain ⟨vs, e, n, r⟩ := h; exact ⟨vs, e, n, RepL.lk hF ha hL h1 h2 _ _ r⟩
  | dt ks us => obtain ⟨vs, e, n, r⟩ := h; exact ⟨vs, e, n, RepL.lk hF ha hL h1 h2 _ _ r⟩
  | obj c fs => obtain ⟨dx, vs, e, n, r⟩ := h; exact ⟨dx, vs, e, n, RepL.lk hF ha hL h1 h2 _ _ r⟩
  | gone => exact h
theorem Rel.lk {g g' : Gh} {u u' : HO} (R : Rel G g en st σ H) (hF : g'.F = g.F) (ha : g'.as = g.as) (e1 : g.L a = some u) (e2 : g'.L = upd g.L a u') (h1 : Rd g.L a (.dK kvs)) (h2 : Rd g'.L a (.dK kvs)) (hFa : g.F a = none) : Rel G g' en st σ (upd H a u') := by
  have hL : ∀ b, b ≠ a → g'.L b = g.L b := fun b hb => by rw [e2, upd_ne hb]
  refine ⟨fun b o e => ?_, fun b o e => ?_, R.el, fun i d e => ?_, fun i c e n => ?_, by rw [ha]; exact R.len, fun i j c c' b x1 x2 n1 n2 b1 b2 => ?_, by rw [hF]; exact R.nd⟩
  · rw [hF] at e
    rw [upd_ne (ne_of_none e hFa)]; exact R.sF _ _ e
  · rw [e2] at e
    by_cases hb : b = a
    · subst hb; rw [upd_same] at e ⊢; exact e
    · rw [upd_ne hb] at e ⊢; exact R.sL _ _ e
  · obtain ⟨v, q1, q2⟩ := R.en i d e
    exact ⟨v, q1, Rep.lk hF ha hL h1 h2 _ _ q2⟩
  · obtain ⟨b, o, q1, q2, q3, q4, q5⟩ := R.cell i c e n
    have nb : b ≠ a := fun z => by rw [z, e1] at q5; cases q5
    exact ⟨b, o, by rw [ha]; exact q1, by rw [upd_ne nb]; exact q2, CO.lk hF ha hL h1 h2 q3, by rw [hF]; exact q4, by rw [hL b nb]; exact q5⟩
  · rw [ha] at b1 b2
    exact R.inj i j c c' b x1 x2 n1 n2 b1 b2
end
def sfrz (j : Nat) (b : XS) : XS := fun en st => match en[j]? with
  | some (some (.cell i)) => match st[i]? with
    | some (.dk ks us) => b (en.set j (some (.dk .frz ks us))) (st.set i .gone)
    | _ => b en st
  | _ => b en st
theorem Rel.freeze (R : Rel G g en st σ H) {i j : Nat} {ks : List Key} {us : List D} {v : V} {a : Addr} (hi : st[i]? = some (.dk ks us)) (hj : en[j]? = some (some (.cell i))) (hσ : σ[j]? = some (some v)) (rv : Rep G g (.cell i) v) :
    ∃ a kvs, v = .ref a ∧ H a = some (.dK kvs) ∧ ∀ od, Le g { g with F := upd g.F a (.frz od (.dK kvs)) } ∧ Rel G { g with F := upd g.F a (.frz od (.dK kvs)) } (en.set j (some (.dk .frz ks us))) (st.set i .gone) σ (upd H a (.frz od (.dK kvs))) := by
  obtain ⟨a, o, e1, e2, e3, vs, e4, e5, e6⟩ := R.isCell hi (by intro w; cases w) rv
  subst e4
  obtain ⟨a', o', f1, f2, f3, f4, f5⟩ := R.cell i _ hi (by intro w; cases w)
  rw [e2] at f1; cases f1
  have ilt : i < st.length := (List.getElem?_eq_some_iff.mp hi).1
  have jlt : j < en.length := (List.getElem?_eq_some_iff.mp hj).1
  refine ⟨a, _, e1, e3, fun od => ?_⟩
  have sF : Same g.F (upd g.F a (.frz od (.dK (ks.zip vs)))) := fun b o e => by rw [upd_ne (ne_of_none e f4)]; exact e
  have l : Le g { g with F := upd g.F a (.frz od (.dK (ks.zip vs))) } := ⟨sF, rfl, fun _ _ h => h, fun b o h => by
    by_cases e : b = a
    · subst e; exact .inr f5
    · have h' : upd g.F a (.frz od (.dK (ks.zip vs))) b = some o := h
      rw [upd_ne e] at h'; exact .inl h'⟩
  refine ⟨l, ⟨fun b o e => ?_, fun b o e => ?_, by simp [R.el], fun i' d e => ?_, fun i' c e n => ?_, by simp [R.len], fun i1 i2 c c' b x1 x2 n1 n2 b1 b2 => ?_, fun b k e => by
    have e' : upd g.F a (.frz od (.dK (ks.zip vs))) b = some (.dK k) := e
    by_cases q : b = a
    · subst q; rw [upd_same] at e'; cases e'
    · rw [upd_ne q] at e'; exact R.nd b k e'⟩⟩
  · have e' : upd g.F a (.frz od (.dK (ks.zip vs))) b = some o := e
    by_cases q : b = a
    · subst q; rw [upd_same] at e' ⊢; exact e'
    · rw [upd_ne q] at e' ⊢; exact R.sF _ _ e'
  · rw [upd_ne (ne_of_none e f5)]; exact R.sL _ _ e
  · by_cases q : j = i'
    · subst q
      rw [List.getElem?_set_self jlt] at e
      cases e
      exact ⟨v, hσ, a, vs, e1, ⟨od, upd_same⟩, e5, e6.mono l⟩
    · rw [List.getElem?_set_ne q] at e
      obtain ⟨w, q1, q2⟩ := R.en i' d e
      exact ⟨w, q1, q2.mono l⟩
  · by_cases q : i = i'
    · subst q
      rw [List.getElem?_set_self ilt] at e
      exact absurd (Option.some.inj e).symm n
    · rw [List.getElem?_set_ne q] at e
      obtain ⟨b, ob, q1, q2, q3, q4, q5⟩ := R.cell i' c e n
      have nb : b ≠ a := fun z => q (R.inj i i' _ c a hi e (by intro w; cases w) n e2 (by rw [← z]; exact q1))
      exact ⟨b, ob, q1, by rw [upd_ne nb]; exact q2, q3.mono l, by show upd g.F a _ b = none; rw [upd_ne nb]; exact q4, q5⟩
  · have sub : ∀ (k : Nat) (d : Cell), (st.set i .gone)[k]? = some d → d ≠ .gone → st[k]? = some d := fun k d e n => by
      by_cases q : i = k
      · subst q; rw [List.getElem?_set_self ilt] at e; exact absurd (Option.some.inj e).symm n
      · rw [List.getElem?_set_ne q] at e; exact e
    exact R.inj i1 i2 c c' b (sub i1 c x1 n1) (sub i2 c' x2 n2) n1 n2 b1 b2
theorem ss_frz {s : Stmt} {b : XS} (j : Nat) (h : SS G W X s b) : SS G W X s (sfrz j b) :=
  ⟨PS_imp (ps_frz h.ps) fun D σ H ⟨g, en, st, R, w⟩ => by
    unfold sfrz at w
    split at w
    · rename_i i hj
      split at w
      · rename_i ks us hi
        obtain ⟨v, hσ, rv⟩ := R.en j _ hj
        obtain ⟨a, kvs, e1, e2, e3⟩ := R.freeze (a := 0) hi hj hσ rv
        refine .inr ⟨a, _, e2, True.intro, fun od => ?_⟩
        obtain ⟨l, R'⟩ := e3 od
        exact ⟨_, _, _, R', pS.weak l w⟩
      · exact .inl ⟨g, en, st, R, w⟩
    · exact .inl ⟨g, en, st, R, w⟩⟩
def ikeysF (c : XE) : XI := fun en st => (c en st).bind fun d st => match d with
  | .dk .frz ks _ => .ok ⟨ks.map keyD, []⟩ st
  | _ => .bad
theorem walks_keys {g0 : Gh} {d : Addr} {o : Obj} {ks : List Key} {vs : List V} (l : ks.length = vs.length) (h : ∀ g en st σ H, Le g0 g → Rel G g en st σ H → H d = some (.frz o (.dK (ks.zip vs)))) : Walks G g0 ⟨ks.map keyD, []⟩ (Itk d o (ks.zip vs)) := by
  intro g en st σ H i le R _
  have hd := h g en st σ H le R
  have hl : (ks.zip vs).length = ks.length := by rw [List.length_zip, ← l, Nat.min_self]
  refine ⟨fun hi => ⟨hd, by rw [hl]; simpa using hi⟩, fun x hx => ?_⟩
  have hx : (ks.map keyD)[i]? = some x := hx
  rw [List.getElem?_map] at hx
  obtain ⟨k, hk, rfl⟩ := Option.map_eq_some_iff.mp hx
  have hi : i < ks.length := (List.getElem?_eq_some_iff.mp hk).1
  refine ⟨⟨hd, by rw [hl]; exact hi⟩, fun y H' w => ?_⟩
  obtain ⟨rfl, k', v', e1, rfl⟩ := w
  rw [List.getElem?_zip_eq_some] at e1
  have ek : k = k' := Option.some.inj (hk.symm.trans e1.1)
  rw [← ek]
  exact ⟨g, Le.refl _, R, keyD_rep k⟩
theorem si_keysF {tg e : Expr} {c : XE} (hK : X.K = G.K) (h : SE G W X e c) : SI G W X tg e (ikeysF c) :=
  ⟨PI_imp (pi_keysL h.pe) fun σ H K ⟨g, en, st, R, w⟩ => by
    refine ⟨g, en, st, R, (pX.bind w).imp fun d st1 g1 H1 l1 R1 h1 v rv => ?_⟩
    split at h1
    · rename_i ks us
      obtain ⟨a, vs, e1, ⟨o, e2⟩, e3, e4⟩ := rv
      refine ⟨a, _, e1, .inl ⟨o, R1.sF _ _ e2, h1 g1 H1 (Le.refl _) R1 _ (walks_keys e3 fun g en st σ H le R => R.sF _ _ (le.F _ _ e2))⟩⟩
    · exact h1.elim⟩
def noExc {α : Type} (b : Bool) (r : R α) : R α := if b then (match r with | .exc _ _ _ _ => .bad | r => r) else r
def sforK (c : XE) (t : XG) (b : XS) : XS := fun en st => (c en st).bind fun d st => match d with
  | .dk .frz ks _ => floop [] t b (ks.map keyD) en st
  | .dk .loan ks _ => noExc true (floop [] t b (ks.map keyD) en st)
  | _ => .bad
theorem for_go {t : XG} {b : XS} {it : Itm} {J : It} {D : Ends} {g1 : Gh} {en : En} {st1 : Sto} {σ : L2.St} {H1 : Hp} (R1 : Rel G g1 en st1 σ H1) (h1 : pS G W g1 (floop it.src t b it.its en st1) D) (hJ : Walks G g1 it J) :
    ∃ Wv : Nat → Nat → L2.St → Hp → Prop, (∃ n, Wv 0 n σ H1) ∧ ∀ i m σ H, Wv i m σ H → (J.stop i H ∧ D.nx σ H) ∨ (J.go i H ∧ ∃ P : L2.St → Hp → Prop, (∀ σ' H', P σ' H' → ∃ m', m' < m ∧ Wv (i + 1) m' σ' H') ∧
      ∀ x H', J.yld i H x H' → tG G W t x σ H' fun σ2 H2 => tS G W b ⟨P, D.rt, D.nx, P⟩ σ2 H2) := by
  refine ⟨fun i m σ H => ∃ g en st, Le g1 g ∧ Rel G g en st σ H ∧ m = it.its.length - i ∧ i ≤ it.its.length ∧ pS G W g (floop it.src t b (it.its.drop i) en st) D,
    ⟨it.its.length, g1, en, st1, Le.refl _, R1, by simp, Nat.zero_le _, by simpa using h1⟩, ?_⟩
  rintro i m σ H ⟨g, en, st, l, R, rfl, hi, h⟩
  by_cases hlt : i < it.its.length
  · have hd : it.its[i]? = some it.its[i] := by simp [hlt]
    rw [List.drop_eq_getElem_cons hlt] at h
    unfold floop at h
    by_cases ok : okSrc it.src st = true
    · rw [if_pos ok] at h
      obtain ⟨_, q⟩ := hJ g en st σ H i l R ok
      obtain ⟨go, yl⟩ := q _ hd
      refine .inr ⟨go, fun σ' H' => ∃ g en st, Le g1 g ∧ Rel G g en st σ' H' ∧ pS G W g (floop it.src t b (it.its.drop (i + 1)) en st) D, fun σ' H' ⟨g', en', st', l', R', h'⟩ => ⟨_, by omega, g', en', st', l', R', rfl, hlt, h'⟩, fun x H' y => ?_⟩
      obtain ⟨g2, l2, R2, r2⟩ := yl x H' y
      refine ⟨g2, en, st, it.its[i], R2, r2, ?_⟩
      cases e : t it.its[i] en st with
      | bad => rw [e] at h; exact h.elim
      | exc c ds en' st' => rw [e] at h; exact fun g' σ' H' d l' R' z => h g' σ' H' d (l2.trans l') R' z
      | ok en2 st2 =>
        rw [e, bind_ok] at h
        intro g3 σ3 H3 l3 R3
        refine ⟨g3, en2, st2, R3, ?_⟩
        have l13 : Le g g3 := l2.trans l3
        cases e2 : b en2 st2 with
        | bad => rw [e2] at h; exact h.elim
        | exc c ds en' st' => rw [e2] at h; exact fun g' σ' H' d l' R' z => h g' σ' H' d (l13.trans l') R' z
        | ok p st4 =>
          obtain ⟨fl, en4⟩ := p
          rw [e2] at h
          cases fl with
          | nx => exact fun g' σ' H' l' R' => ⟨g', en4, st4, l.trans (l13.trans l'), R', pS.weak (l13.trans l') h⟩
          | ct => exact fun g' σ' H' l' R' => ⟨g', en4, st4, l.trans (l13.trans l'), R', pS.weak (l13.trans l') h⟩
          | bk => exact fun g' σ' H' l' R' => h g' σ' H' (l13.trans l') R'
          | rt d => exact fun g' σ' H' l' R' => h g' σ' H' (l13.trans l') R'
    · rw [if_neg ok] at h; exact h.elim
  · have e : i = it.its.length := by omega
    subst e
    rw [List.drop_length] at h
    unfold floop at h
    by_cases ok : okSrc it.src st = true
    · rw [if_pos ok] at h
      exact .inl ⟨(hJ g en st σ H _ l R ok).1 (Nat.le_refl _), h g σ H (Le.refl _) R⟩
    · rw [if_neg ok] at h; exact h.elim
theorem pS.ends {r : R (Fl × En)} {D D' : Ends} (h : pS G W g r D) (hn : ∀ σ H, D.nx σ H → D'.nx σ H) (hb : ∀ σ H, D.bk σ H → D'.bk σ H) (hc : ∀ σ H, D.ct σ H → D'.ct σ H) (hr : ∀ v H, D.rt v H → D'.rt v H) : pS G W g r D' := by
  cases r with
  | bad => exact h
  | exc c ds en st => exact h
  | ok p st =>
    obtain ⟨fl, en⟩ := p
    intro g' σ' H' l R
    have q := h g' σ' H' l R
    cases fl with
    | nx => exact hn _ _ q
    | bk => exact hb _ _ q
    | ct => exact hc _ _ q
    | rt d => exact fun v rv => hr _ _ (q v rv)
theorem pS.lock {r : R (Fl × En)} {D : Ends} {a : Addr} {kvs : List (Key × V)} {od : Obj} (h : pS G W g (noExc true r) D) (hL : g.L a = some (.dK kvs)) (hF : g.F a = none) (hn : ∀ o' u', X.H_0 a ≠ some (.frz o' u')) :
    pS G W (g.lockL a (.frz od (.dK kvs))) r (unlD X D) := by
  -- the ghost behind
  have back : ∀ g' σ' H' en' st', Le (g.lockL a (.frz od (.dK kvs))) g' → Rel G g' en' st' σ' H' → ∃ g'', Le g g'' ∧ Rel G g'' en' st' σ' (upd H' a (.dK kvs)) ∧ (∀ d v, Rep G g' d v → Rep G g'' d v) ∧ H' a = some (.frz od (.dK kvs)) := by
    intro g' σ' H' en' st' l R
    have eL : g'.L = upd g.L a (.frz od (.dK kvs)) := l.L
    have la : g'.L a = some (.frz od (.dK kvs)) := by rw [eL]; exact upd_same
    have hFa : g'.F a = none := by
      cases e : g'.F a with
      | none => rfl
      | some u =>
        rcases l.nf a u e with z | z
        · have z' : g.F a = some u := z
          rw [hF] at z'; cases z'
        · have z' : upd g.L a (.frz od (.dK kvs)) a = none := z
          rw [upd_same] at z'; cases z'
    have eb : g.L = upd g'.L a (.dK kvs) := by
      funext b
      rw [eL, upd_upd]
      by_cases hb : b = a
      · subst hb; rw [upd_same]; exact hL
      · rw [upd_ne hb]
    have h1 : Rd g'.L a (.dK kvs) := .inr ⟨od, la⟩
    have h2 : Rd ({ g' with L := g.L } : Gh).L a (.dK kvs) := .inl hL
    have hLb : ∀ b, b ≠ a → ({ g' with L := g.L } : Gh).L b = g'.L b := fun b hb => by show g.L b = g'.L b; rw [eb, upd_ne hb]
    refine ⟨{ g' with L := g.L }, ⟨l.F, rfl, l.as, fun b o e => ?_⟩, R.lk (g' := { g' with L := g.L }) rfl rfl la eb h1 h2 hFa, fun d v rv => Rep.lk (g := g') (g' := { g' with L := g.L }) rfl rfl hLb h1 h2 d v rv, R.sL a _ la⟩
    rcases l.nf b o e with z | z
    · exact .inl z
    · have z' : upd g.L a (.frz od (.dK kvs)) b = none := z
      by_cases hb : b = a
      · subst hb; rw [upd_same] at z'; cases z'
      · rw [upd_ne hb] at z'; exact .inr z'
  cases r with
  | bad => exact h
  | exc c ds en st => exact h.elim
  | ok p st =>
    obtain ⟨fl, en⟩ := p
    have h' : pS G W g (.ok (fl, en) st) D := h
    intro g' σ' H' l R
    obtain ⟨g'', l2, R2, rp, ha⟩ := back g' σ' H' en st l R
    have q := h' g'' σ' _ l2 R2
    cases fl with
    | nx => exact .inr ⟨a, od, _, ha, hn, q⟩
    | bk => exact .inr ⟨a, od, _, ha, hn, q⟩
    | ct => exact .inr ⟨a, od, _, ha, hn, q⟩
    | rt d => exact fun v rv => .inr ⟨a, od, _, ha, hn, q v (rp d v rv)⟩
theorem ss_forK {tg iter : Expr} {body : List Stmt} {c : XE} {t : XG} {b : XS} {pos : Pos} (hp : PassesOwn (model X.prog X.w) X.A X.env X.xe) (hc : X.calm = true) (hK : X.K = G.K) (hi : SE G W X iter c) (hg : SG G W X tg t) (hb : SL G W X body b)
    (hs : ∀ x, foldedSetIterable iter X.env x = pure x := by intro _; rfl) : SS G W X (.For tg iter body [] pos) (sforK c t b) :=
  ⟨PS_imp (ps_unl (ps_for hp hc (pi_keysL hi.pe) hg.pg hb.ps hs)) fun D σ H ⟨g, en, st, R, h⟩ => by
    have up : ∀ {g : Gh} {r : Px.R (Fl × En)}, pS G W g r D → pS G W g r (unlD X D) := fun q => q.ends (fun _ _ z => .inl z) (fun _ _ z => .inl z) (fun _ _ z => .inl z) fun _ _ z => .inl z
    refine ⟨g, en, st, R, (pS.bind h).imp fun d st1 g1 H1 l1 R1 h1 v rv => ?_⟩
    split at h1
    · rename_i ks us
      obtain ⟨a, vs, e1, ⟨o, e2⟩, e3, e4⟩ := rv
      exact ⟨a, _, e1, .inl ⟨o, R1.sF _ _ e2, for_go (it := ⟨ks.map keyD, []⟩) R1 (up h1) (walks_keys e3 fun g en st σ H le R => R.sF _ _ (le.F _ _ e2))⟩⟩
    · rename_i ks us
      obtain ⟨a, vs, e1, e2, e3, e4⟩ := rv
      rcases e2 with e2 | ⟨o, e2⟩
      · have hH : H1 a = some (.dK (ks.zip vs)) := R1.sL _ _ e2
        have hF : g1.F a = none := by
          cases e : g1.F a with
          | none => rfl
          | some u =>
            have := R1.sF _ _ e
            rw [hH] at this; cases this
            exact (R1.nd _ _ e).elim
        refine ⟨a, _, e1, .inr ⟨hH, fun o hn => ?_⟩⟩
        have la : (g1.lockL a (.frz o (.dK (ks.zip vs)))).L a = some (.frz o (.dK (ks.zip vs))) := upd_same
        have R2 : Rel G (g1.lockL a (.frz o (.dK (ks.zip vs)))) en st1 σ (upd H1 a (.frz o (.dK (ks.zip vs)))) := R1.lk (kvs := ks.zip vs) rfl rfl e2 rfl (.inl e2) (.inr ⟨o, la⟩) hF
        exact for_go (it := ⟨ks.map keyD, []⟩) R2 (pS.lock (od := o) h1 e2 hF hn) (walks_keys e3 fun g en st σ H le R => R.sL _ _ (by rw [le.L]; exact la))
      · refine ⟨a, _, e1, .inl ⟨o, R1.sL _ _ e2, for_go (it := ⟨ks.map keyD, []⟩) R1 (up (g := g1) ?_) (walks_keys e3 fun g en st σ H le R => R.sL _ _ (by rw [le.L]; exact e2))⟩⟩
        unfold noExc at h1
        rw [if_pos rfl] at h1
        revert h1
        cases floop [] t b (ks.map keyD) en st1 with
        | exc c ds en st => exact fun h => h.elim
        | ok p st => exact fun h => h
        | bad => exact fun h => h
    · exact h1.elim⟩
end
end Px
namespace Px
open PySem PySem.Spec L2
structure ClsF (G : GS) (c : Nat) : Prop where
  cl : Cls G.K (G.cls c)
  no : ∀ f ∈ G.flds c, NoAttr G.K (G.cls c) f
  nd : (G.flds c).Nodup
  sm : (G.flds c).length < 1000
structure FldF (G : GS) (f : Str) (tb : Nat → Option Nat) : Prop where
  at_ : ∀ c n, tb c = some n → (G.flds c)[n]? = some f ∧ ClsF G c
theorem zip_lookup : ∀ {fs : List Str} {vs : List V} {n : Nat} {f : Str} {v : V}, fs.Nodup → fs[n]? = some f → vs[n]? = some v → (fs.zip vs).lookup f = some v
  | [], _, _, _, _, _, h, _ => by simp at h
  | _ :: _, [], _, _, _, _, _, h => by simp at h
  | g :: fs, x :: vs, 0, f, v, nd, h1, h2 => by
    simp at h1 h2
    subst h1; subst h2
    show List.lookup g ((g, x) :: _) = _
    simp [List.lookup]
  | g :: fs, x :: vs, n + 1, f, v, nd, h1, h2 => by
    have h1' : fs[n]? = some f := by simpa using h1
    have ne : (f == g) = false := by
      have hm : f ∈ fs := List.mem_of_getElem? h1'
      have := (List.nodup_cons.mp nd).1
      exact beq_eq_false_iff_ne.mpr fun e => this (e ▸ hm)
    show List.lookup f ((g, x) :: fs.zip vs) = _
    simp only [List.lookup, ne]
    exact zip_lookup (List.nodup_cons.mp nd).2 h1' (by simpa using h2)
theorem zip_none : ∀ {fs : List Str} {vs : List V} {f : Str}, f ∉ fs → (fs.zip vs).lookup f = none
  | [], _, _, _ => rfl
  | _ :: _, [], _, _ => rfl
  | g :: fs, x :: vs, f, h => by
    have ne : (f == g) = false := beq_eq_false_iff_ne.mpr fun e => h (by rw [e]; exact List.mem_cons_self)
    show List.lookup f ((g, x) :: fs.zip vs) = _
    simp only [List.lookup, ne]
    exact zip_none fun hm => h (List.mem_cons_of_mem _ hm)
theorem putF_set : ∀ {fs : List Str} {vs : List V} {n : Nat} {f : Str} {v : V}, fs.Nodup → fs[n]? = some f → n < vs.length → putF f v (fs.zip vs) = fs.zip (vs.set n v)
  | [], _, _, _, _, _, h, _ => by simp at h
  | _ :: _, [], _, _, _, _, _, h => by simp at h
  | g :: fs, x :: vs, 0, f, v, nd, h1, h2 => by
    simp at h1
    subst h1
    show (if g = g then _ else _) = _
    rw [if_pos rfl]; rfl
  | g :: fs, x :: vs, n + 1, f, v, nd, h1, h2 => by
    have h1' : fs[n]? = some f := by simpa using h1
    have ne : g ≠ f := fun e => (List.nodup_cons.mp nd).1 (e ▸ List.mem_of_getElem? h1')
    show (if g = f then _ else (g, x) :: putF f v (fs.zip vs)) = _
    rw [if_neg ne, putF_set (List.nodup_cons.mp nd).2 h1' (by simpa using h2)]; rfl
theorem putF_app : ∀ {fs : List Str} {vs : List V} {n : Nat} {f : Str} {v : V}, fs.Nodup → fs[n]? = some f → n = vs.length → putF f v (fs.zip vs) = fs.zip (vs ++ [v])
  | [], _, _, _, _, _, h, _ => by simp at h
  | g :: fs, [], n, f, v, nd, h1, h2 => by
    subst h2
    simp at h1
    subst h1
    show [(g, v)] = (g, v) :: fs.zip []
    rw [List.zip_nil_right]
  | g :: fs, x :: vs, 0, f, v, nd, h1, h2 => by simp at h2
  | g :: fs, x :: vs, n + 1, f, v, nd, h1, h2 => by
    have h1' : fs[n]? = some f := by simpa using h1
    have ne : g ≠ f := fun e => (List.nodup_cons.mp nd).1 (e ▸ List.mem_of_getElem? h1')
    show (if g = f then _ else (g, x) :: putF f v (fs.zip vs)) = _
    rw [if_neg ne, putF_app (List.nodup_cons.mp nd).2 h1' (by simpa using h2)]; rfl
def objOf (st : Sto) : D → Option (Nat × List D)
  | .cell i => match st[i]? with
    | some (.obj c fs) => some (c, fs)
    | _ => none
  | .obj m c fs => if m = .frz ∨ m = .loan then some (c, fs) else none
  | _ => none
section
variable {G : GS} {W : WX} {X : Cx}
theorem objOf_H {g : Gh} {en : En} {st : Sto} {σ : L2.St} {H : Hp} {d : D} {v : V} {p : Nat × List D} (R : Rel G g en st σ H) (r : Rep G g d v) (h : objOf st d = some p) :
    ∃ a dx vs, v = .ref a ∧ H a = some (.ins (G.cls p.1) dx ((G.flds p.1).zip vs)) ∧ vs.length ≤ (G.flds p.1).length ∧ RepL G g p.2 vs := by
  unfold objOf at h
  split at h
  · rename_i i
    split at h
    · rename_i c fs hi
      cases h
      obtain ⟨a, o, e1, e2, e3, dx, vs, e4, e5, e6⟩ := R.isCell hi (by intro w; cases w) r
      subst e4
      exact ⟨a, dx, vs, e1, e3, e5, e6⟩
    · cases h
  · rename_i m c fs
    split at h
    · rename_i hm
      cases h
      obtain ⟨a, dx, vs, e1, e2, e3, e4⟩ := r
      refine ⟨a, dx, vs, e1, ?_, e3, e4⟩
      rcases hm with rfl | rfl
      · exact R.sF _ _ e2
      · exact R.sL _ _ e2
    · cases h
  · cases h
def fldOf (tb : Nat → Option Nat) (p : Option (Nat × List D)) : Option D := match p with
  | some p => match tb p.1 with
    | some n => p.2[n]?
    | none => none
  | none => none
def oD (o : Option D) (st : Sto) : R D := match o with
  | some d => .ok d st
  | none => .bad
def xfld (tb : Nat → Option Nat) (a : XE) : XE := fun en st => (a en st).bind fun x st => oD (fldOf tb (objOf st x)) st
theorem fldOf_ok (hK : X.K = G.K) {f : Str} {tb : Nat → Option Nat} {g : Gh} {en : En} {st : Sto} {σ : L2.St} {H : Hp} {x d : D} {v : V} (F : FldF G f tb) (R : Rel G g en st σ H) (r : Rep G g x v) (h : fldOf tb (objOf st x) = some d) :
    ∃ a C dx fs u, v = .ref a ∧ H a = some (.ins C dx fs) ∧ Cls X.K C ∧ NoAttr X.K C f ∧ fs.lookup f = some u ∧ Rep G g d u := by
  unfold fldOf at h
  split at h
  · rename_i p hp
    split at h
    · rename_i n hn
      obtain ⟨a, dx, vs, e1, e2, e3, e4⟩ := objOf_H R r hp
      obtain ⟨f1, f2⟩ := F.at_ _ _ hn
      obtain ⟨u, h1, h2⟩ := e4.get h
      exact ⟨a, _, dx, _, u, e1, e2, by rw [hK]; exact f2.cl, by rw [hK]; exact f2.no f (List.mem_of_getElem? f1), zip_lookup f2.nd f1 h1, h2⟩
    · cases h
  · cases h
theorem se_fld {f : Str} {tb : Nat → Option Nat} {e : Expr} {a : XE} {pos : Pos} (hK : X.K = G.K) (F : FldF G f tb) (ha : SE G W X e a) (hb : attributeBase e f X.env (eval e X.env) = eval e X.env := by rfl) : SE G W X (.Attribute e f pos) (xfld tb a) :=
  ⟨PE_imp (pe_fld ha.pe hb) fun σ H Q ⟨g, en, st, R, h⟩ => by
    refine ⟨g, en, st, R, (pX.bind h).imp fun x st1 g1 H1 l1 R1 h1 v rv => ?_⟩
    unfold oD at h1
    split at h1
    · rename_i d hd
      obtain ⟨a', C, dx, fs, u, e1, e2, e3, e4, e5, e6⟩ := fldOf_ok hK F R1 rv hd
      exact ⟨a', C, dx, fs, u, e1, e2, e3, e4, e5, h1 g1 H1 (Le.refl _) R1 _ e6⟩
    · exact h1.elim⟩
def putO (tb : Nat → Option Nat) (x d : D) (st : Sto) : Option Sto := match x with
  | .cell i => match st[i]? with
    | some (.obj k fs) => match tb k with
      | some n => if n < fs.length then some (st.set i (.obj k (fs.set n d))) else if n = fs.length then some (st.set i (.obj k (fs ++ [d]))) else none
      | none => none
    | _ => none
  | _ => none
def oSt (o : Option Sto) (en : En) : R (Fl × En) := match o with
  | some st => .ok (.nx, en) st
  | none => .bad
theorem putO_ok (hK : X.K = G.K) {f : Str} {tb : Nat → Option Nat} {g : Gh} {en : En} {st st2 : Sto} {σ : L2.St} {H : Hp} {x d : D} {v y : V} (F : FldF G f tb) (R : Rel G g en st σ H) (r : Rep G g x v) (ry : Rep G g d y) (h : putO tb x d st = some st2) :
    ∃ a C dx fs, v = .ref a ∧ H a = some (.ins C dx fs) ∧ Cls X.K C ∧ NoAttr X.K C f ∧ fs.length < 1000 ∧ Rel G g en st2 σ (upd H a (.ins C dx (putF f y fs))) := by
  unfold putO at h
  split at h
  · rename_i i
    split at h
    · rename_i k fs hi
      split at h
      · rename_i n hn
        obtain ⟨a, o, e1, e2, e3, dx, vs, e4, e5, e6⟩ := R.isCell hi (by intro w; cases w) r
        subst e4
        obtain ⟨f1, f2⟩ := F.at_ _ _ hn
        have hl : ((G.flds k).zip vs).length < 1000 := by rw [List.length_zip]; have := f2.sm; omega
        refine ⟨a, _, dx, _, e1, e3, by rw [hK]; exact f2.cl, by rw [hK]; exact f2.no f (List.mem_of_getElem? f1), hl, ?_⟩
        have nlt : n < (G.flds k).length := (List.getElem?_eq_some_iff.mp f1).1
        split at h
        · rename_i hlt
          cases h
          exact R.put hi (by intro w; cases w) e2 ⟨dx, vs.set n y, by rw [putF_set f2.nd f1 (by rw [← e6.length]; exact hlt)], by simpa using e5, e6.set n ry⟩
        · split at h
          · rename_i _ he
            cases h
            refine R.put hi (by intro w; cases w) e2 ⟨dx, vs ++ [y], by rw [putF_app f2.nd f1 (by rw [← e6.length]; exact he)], ?_, e6.append (.one ry)⟩
            rw [List.length_append, ← e6.length, ← he]
            exact nlt
          · cases h
      · cases h
    · cases h
  · cases h
def sfld (tb : Nat → Option Nat) (a c : XE) : XS := fun en st => (c en st).bind fun d st => (a en st).bind fun x st => oSt (putO tb x d st) en
theorem ss_fld {f : Str} {tb : Nat → Option Nat} {o value : Expr} {a c : XE} {pos pos' : Pos} (hK : X.K = G.K) (F : FldF G f tb) (ha : SE G W X o a) (hv : SE G W X value c) (hs : swapsWith value (some (.Attribute o f pos')) pos.line X.env = pure false := by rfl) :
    SS G W X (.Assign [.Attribute o f pos'] value pos) (sfld tb a c) :=
  ⟨PS_imp (ps_fld ha.pe hv.pe hs) fun D σ H ⟨g, en, st, R, h⟩ => by
    refine ⟨g, en, st, R, (pS.bind h).imp fun d st1 g1 H1 l1 R1 h1 y ry => ?_⟩
    refine ⟨g1, en, st1, R1, (pS.bind h1).imp fun x st2 g2 H2 l2 R2 h2 v rv => ?_⟩
    unfold oSt at h2
    split at h2
    · rename_i st3 hp
      obtain ⟨a', C, dx, fs, e1, e2, e3, e4, e5, e6⟩ := putO_ok hK F R2 rv (ry.mono l2) hp
      exact ⟨a', C, dx, fs, e1, e2, e3, e4, e5, h2 g2 σ _ (Le.refl _) e6⟩
    · exact h2.elim⟩
def clsOf (p : Option (Nat × List D)) : Option Nat := match p with
  | some p => some p.1
  | none => none
def saugf (tb : Nat → Option Nat) (f : Op2) (a c : XE) : XS := fun en st => (a en st).bind fun x st => match fldOf tb (objOf st x) with
  | some d => (c en st).bind fun y st' => (f d y st').bind fun z st' => if clsOf (objOf st' x) = clsOf (objOf st x) then oSt (putO tb x z st') en else .bad
  | none => .bad
theorem ss_augf {f : Str} {tb : Nat → Option Nat} {o value : Expr} {a c : XE} {op : Operator} {f2 : Op2} {pos tpos : Pos} (hK : X.K = G.K) (F : FldF G f tb) (ho : OpR X (inplaceOp op) (rD G W f2)) (ha : SE G W X o a) (hv : SE G W X value c) :
    SS G W X (.AugAssign (.Attribute o f tpos) op value pos) (saugf tb f2 a c) :=
  ⟨PS_imp (ps_fldaug (rd := rD G W f2) ha.pe hv.pe (fun pins s σ H x y u v Q I rx ry w => ho pins s σ H x y u v Q I rx ry w)) fun D σ H ⟨g, en, st, R, h⟩ => by
    refine ⟨g, en, st, R, (pS.bind h).imp fun x st1 g1 H1 l1 R1 h1 v rv => ?_⟩
    split at h1
    · rename_i d hd
      obtain ⟨a', C, dx, fs, u, e1, e2, e3, e4, e5, e6⟩ := fldOf_ok hK F R1 rv hd
      refine ⟨a', C, dx, fs, u, e1, e2, e3, e4, e5, g1, en, st1, R1, (pS.bind h1).imp fun y st2 g2 H2 l2 R2 h2 w rw' => ?_⟩
      refine ⟨g2, en, st2, σ, d, y, R2, e6.mono l2, rw', (pS.bind h2).imp fun z st3 g3 H3 l3 R3 h3 t rt => ?_⟩
      split at h3
      · rename_i hc
        unfold oSt at h3
        split at h3
        · rename_i st4 hp
          have rv3 := rv.mono (l2.trans l3)
          obtain ⟨b, C', dx', fs', k1, k2, k3, k4, k5, k6⟩ := putO_ok hK F R3 rv3 rt hp
          rw [e1] at k1
          cases k1
          have cls : C' = C := by
            cases q1 : objOf st1 x with
            | none => rw [q1] at hd; cases hd
            | some p1 =>
              cases q3 : objOf st3 x with
              | none => rw [q1, q3] at hc; cases hc
              | some p3 =>
                rw [q1, q3] at hc
                have hc' : p3.1 = p1.1 := Option.some.inj hc
                obtain ⟨a2, dx2, vs2, y1, y2, _, _⟩ := objOf_H R1 rv q1
                obtain ⟨a3, dx3, vs3, z1, z2, _, _⟩ := objOf_H R3 rv3 q3
                rw [e1] at y1 z1
                cases y1; cases z1
                rw [e2] at y2; cases y2
                rw [k2] at z2; cases z2
                rw [hc']
          subst cls
          exact ⟨dx', fs', k2, k5, h3 g3 σ _ (Le.refl _) k6⟩
        · exact h3.elim
      · exact h3.elim
    · exact h1.elim⟩
structure MethF (P : Program) (w : World) (G : GS) (mg : Str → Option Value) (base : Heap) (c : Nat) (m : Str) (k np : Nat) (mu : List Nat) (sem : List D → RF) : Prop where
  cl : ClsF G c
  no : m ∉ G.flds c
  ex : ∃ (f : Addr) (fd : FuncData) (ps : List Str), Meth G.K (G.cls c) m f ∧ FnOk P w G.K mg base (L2.CX P w) k f fd ps (spF G np mu sem) ∧ Binds G.K fd ps []
def tMethS (C : Addr) (m : Str) (sp : Sp) (E : L2.St → XK) (ta : TE) (t : TA) : TE := fun σ H Q => ta σ H fun x H1 => ∃ a dx fs, x = .ref a ∧ H1 a = some (.ins C dx fs) ∧ fs.lookup m = none ∧ t σ H1 fun vs H2 => sp (x :: vs) H2 Q (E σ)
theorem pe_methS {CX : CXT} {k : Nat} {f C : Addr} {fd : FuncData} {ps : List Str} {sp : Sp} {E : L2.St → XK} {m : Str} {pos apos : Pos} {e o : Expr} {es : List Expr} {ta : TE} {t : TA} {pl : Sem Bool} (he : PE X o ta) (c : Cls X.K C) (hm : Meth X.K C m f) (F : FnOk X.prog X.w X.K X.mg X.base CX k f fd ps sp) (hr : Room k X.A) (hb : Binds X.K fd ps []) (hx : ∀ σ, PassesAt CX X σ (E σ)) (ha : PA X (e :: es) t)
    (hst : starEach (e :: es) X.env = (false, eval e X.env) :: starEach es X.env := by rfl) (hpl : (backTo pos (starEach es X.env)).any (·.1) = false := by rfl)
    (ht : eval (.Call (.Attribute o m apos) (e :: es) [] pos) X.env = (do
      let ov ← eval o X.env
      standAt apos.atName
      let (f, first) ← holding [ov] (getMethod ov m pl)
      callWith pos f first (backTo pos (starEach (e :: es) X.env)) (backToKw pos (keywordEach [] X.env))) := by rfl) :
    PE X (.Call (.Attribute o m apos) (e :: es) [] pos) (tMethS C m sp E ta t) := by
  refine ⟨fun pins s σ H Q I h => ?_⟩
  refine PySem.W.methodCall_KW (pl := pl) (thn (he.run pins s σ H _ I h) fun u s1 ⟨x, H1, I1, rx, a, dx, fs, ex, ea, l, q⟩ => ?_) ht
  subst ex
  obtain rfl : u = Value.ref a := rx
  refine getmeth_ok I1 ea c hm l ?_
  refine PySem.W.callWith_K (first := [.ref a]) (h₀ := X.base) I.ok.mod.kin hm.kp (thn (ha.run pos pins s1 σ H1 _ I1 q) fun us s2 ⟨vs, H2, I2, r, q2⟩ => ⟨I2.kIn, ?_⟩) hst hpl
  exact run_fnS (us := .ref a :: us) (vs := .ref a :: vs) F hr hb (hx σ) I2 (.cons rfl r) q2
theorem pe_methS0 {CX : CXT} {k : Nat} {f C : Addr} {fd : FuncData} {ps : List Str} {sp : Sp} {E : L2.St → XK} {m : Str} {pos apos : Pos} {o : Expr} {ta : TE} {pl : Sem Bool} (he : PE X o ta) (c : Cls X.K C) (hm : Meth X.K C m f) (F : FnOk X.prog X.w X.K X.mg X.base CX k f fd ps sp) (hr : Room k X.A) (hb : Binds X.K fd ps []) (hx : ∀ σ, PassesAt CX X σ (E σ))
    (ht : eval (.Call (.Attribute o m apos) [] [] pos) X.env = (do
      let ov ← eval o X.env
      standAt apos.atName
      let (f, first) ← holding [ov] (getMethod ov m pl)
      callWith pos f first (backTo pos (starEach [] X.env)) (backToKw pos (keywordEach [] X.env))) := by rfl) :
    PE X (.Call (.Attribute o m apos) [] [] pos) (tMethS C m sp E ta tNil) := by
  refine ⟨fun pins s σ H Q I h => ?_⟩
  refine PySem.W.methodCall_KW (pl := pl) (thn (he.run pins s σ H _ I h) fun u s1 ⟨x, H1, I1, rx, a, dx, fs, ex, ea, l, q⟩ => ?_) ht
  subst ex
  obtain rfl : u = Value.ref a := rx
  refine getmeth_ok I1 ea c hm l ?_
  exact PySem.W.callWith_K0 (first := [.ref a]) I1.kIn hm.kp (run_fnS (us := [.ref a]) (vs := [.ref a]) F hr hb (hx σ) I1 (.cons rfl .nil) q)
def mcallD (c np : Nat) (mu : List Nat) (sem : List D → RF) (ms : List Md) (x : D) (ds : List D) (en : En) (st : Sto) : R D := if ds.length + 1 = np then callD mu sem ms (x :: ds) en st else .bad
def xmcall (c np : Nat) (mu : List Nat) (sem : List D → RF) (ms : List Md) (o : XE) (a : XA) : XE := fun en st => (o en st).bind fun x st => if clsOf (objOf st x) = some c then (a en st).bind fun ds st => mcallD c np mu sem ms x ds en st else .bad
def xmcall0 (c np : Nat) (mu : List Nat) (sem : List D → RF) (ms : List Md) (o : XE) : XE := fun en st => (o en st).bind fun x st => if clsOf (objOf st x) = some c then mcallD c np mu sem ms x [] en st else .bad
theorem clsOf_H {g : Gh} {en : En} {st : Sto} {σ : L2.St} {H : Hp} {d : D} {v : V} {c : Nat} (R : Rel G g en st σ H) (r : Rep G g d v) (h : clsOf (objOf st d) = some c) : ∃ a dx vs, v = .ref a ∧ H a = some (.ins (G.cls c) dx ((G.flds c).zip vs)) := by
  cases q : objOf st d with
  | none => rw [q] at h; cases h
  | some p =>
    rw [q] at h
    obtain ⟨a, dx, vs, e1, e2, _, _⟩ := objOf_H R r q
    cases (show p.1 = c from Option.some.inj h)
    exact ⟨a, dx, vs, e1, e2⟩
theorem se_mcall {c k np : Nat} {mu : List Nat} {sem : List D → RF} {m : Str} {pos apos : Pos} {e o : Expr} {es : List Expr} {oc : XE} {a : XA} (ms : List Md) {pl : Sem Bool} (hK : X.K = G.K) (tk : Takes X W) (F : MethF X.prog X.w G X.mg X.base c m k np mu sem) (hr : Room k X.A) (ho : SE G W X o oc) (ha : SA G W X (e :: es) a)
    (hst : starEach (e :: es) X.env = (false, eval e X.env) :: starEach es X.env := by rfl) (hpl : (backTo pos (starEach es X.env)).any (·.1) = false := by rfl)
    (ht : eval (.Call (.Attribute o m apos) (e :: es) [] pos) X.env = (do
      let ov ← eval o X.env
      standAt apos.atName
      let (f, first) ← holding [ov] (getMethod ov m pl)
      callWith pos f first (backTo pos (starEach (e :: es) X.env)) (backToKw pos (keywordEach [] X.env))) := by rfl) :
    SE G W X (.Call (.Attribute o m apos) (e :: es) [] pos) (xmcall c np mu sem ms oc a) := by
  obtain ⟨f, fd, ps, h1, h2, h3⟩ := F.ex
  have cl := F.cl.cl
  rw [← hK] at h1 h2 h3 cl
  refine ⟨PE_imp (pe_methS ho.pe cl h1 h2 hr h3 (fun σ => passAt tk σ) ha.pa hst hpl ht) fun σ H Q ⟨g, en, st, R, h⟩ => ?_⟩
  refine ⟨g, en, st, R, (pX.bind h).imp fun x st1 g1 H1 l1 R1 h1 v rv => ?_⟩
  split at h1
  · rename_i hc
    obtain ⟨a', dx, vs, e1, e2⟩ := clsOf_H R1 rv hc
    refine ⟨a', dx, _, e1, e2, zip_none F.no, g1, en, st1, R1, (pX.bind h1).imp fun ds st2 g2 H2 l2 R2 h2 us rus => ?_⟩
    unfold mcallD at h2
    split at h2
    · rename_i hl
      exact call_sp R2 (ds := x :: ds) (vs := v :: us) ⟨v, us, rfl, rv.mono l2, rus⟩ (by rw [List.length_cons, ← rus.length]; exact hl) h2
    · exact h2.elim
  · exact h1.elim
theorem se_mcall0 {c k np : Nat} {mu : List Nat} {sem : List D → RF} {m : Str} {pos apos : Pos} {o : Expr} {oc : XE} (ms : List Md) {pl : Sem Bool} (hK : X.K = G.K) (tk : Takes X W) (F : MethF X.prog X.w G X.mg X.base c m k np mu sem) (hr : Room k X.A) (ho : SE G W X o oc)
    (ht : eval (.Call (.Attribute o m apos) [] [] pos) X.env = (do
      let ov ← eval o X.env
      standAt apos.atName
      let (f, first) ← holding [ov] (getMethod ov m pl)
      callWith pos f first (backTo pos (starEach [] X.env)) (backToKw pos (keywordEach [] X.env))) := by rfl) :
    SE G W X (.Call (.Attribute o m apos) [] [] pos) (xmcall0 c np mu sem ms oc) := by
  obtain ⟨f, fd, ps, h1, h2, h3⟩ := F.ex
  have cl := F.cl.cl
  rw [← hK] at h1 h2 h3 cl
  refine ⟨PE_imp (pe_methS0 ho.pe cl h1 h2 hr h3 (fun σ => passAt tk σ) ht) fun σ H Q ⟨g, en, st, R, h⟩ => ?_⟩
  refine ⟨g, en, st, R, (pX.bind h).imp fun x st1 g1 H1 l1 R1 h1 v rv => ?_⟩
  split at h1
  · rename_i hc
    obtain ⟨a', dx, vs, e1, e2⟩ := clsOf_H R1 rv hc
    refine ⟨a', dx, _, e1, e2, zip_none F.no, ?_⟩
    unfold mcallD at h1
    split at h1
    · rename_i hl
      exact call_sp R1 (ds := [x]) (vs := [v]) (.one rv) hl h1
    · exact h1.elim
  · exact h1.elim
structure PropF (P : Program) (w : World) (G : GS) (mg : Str → Option Value) (base : Heap) (c : Nat) (m : Str) (k : Nat) (sem : List D → RF) : Prop where
  cl : ClsF G c
  ex : ∃ (p f : Addr) (fd : FuncData) (ps : List Str), PropOf G.K (G.cls c) m p f ∧ FnOk P w G.K mg base (L2.CX P w) k f fd ps (spF G 1 [] sem) ∧ Binds G.K fd ps []
def xprop (c : Nat) (sem : List D → RF) (o : XE) : XE := fun en st => (o en st).bind fun x st => if clsOf (objOf st x) = some c then noExc true (callD [] sem [.val] [x] en st) else .bad
theorem pX.noExc {α : Type} {g : Gh} {en : En} {σ : L2.St} {r : R α} {K : α → Gh → Sto → Hp → Prop} (h : pX G W g en σ (noExc true r) K) : pX G W0 g en σ r K := by
  cases r with
  | ok a st => exact h
  | exc c ds en st => exact h.elim
  | bad => exact h
theorem pass_no : Passes (L2.CX X.prog X.w) X.nox (fun _ _ _ => False) := fun pins σ H s e s' I z => by
  obtain ⟨_, _, _, _, _, _, _, _, _, _, _, _, z⟩ := z
  exact z.elim
theorem se_prop {c k : Nat} {sem : List D → RF} {m : Str} {pos : Pos} {o : Expr} {oc : XE} (hK : X.K = G.K) (F : PropF X.prog X.w G X.mg X.base c m k sem) (hr : Room (k + 1) X.A) (ho : SE G W X o oc) (hb : attributeBase o m X.env (eval o X.env) = eval o X.env := by rfl) :
    SE G W X (.Attribute o m pos) (xprop c sem oc) := by
  obtain ⟨p, f, fd, ps, h1, h2, h3⟩ := F.ex
  have cl := F.cl.cl
  rw [← hK] at h1 h2 h3 cl
  refine ⟨PE_imp (pe_prop ho.pe cl h1 h2 hr h3 .nil pass_no hb) fun σ H Q ⟨g, en, st, R, h⟩ => ?_⟩
  refine ⟨g, en, st, R, (pX.bind h).imp fun x st1 g1 H1 l1 R1 h1 v rv => ?_⟩
  split at h1
  · rename_i hc
    obtain ⟨a', dx, vs, e1, e2⟩ := clsOf_H R1 rv hc
    refine ⟨a', dx, _, e1, e2, ?_⟩
    subst e1
    exact call_sp (W := W0) R1 (ds := [x]) (vs := [.ref a']) (.one rv) rfl (pX.noExc h1)
  · exact h1.elim
structure MakF (P : Program) (w : World) (G : GS) (mg : Str → Option Value) (base : Heap) (x : Str) (c k np : Nat) (mu : List Nat) (sem : List D → RF) (dd : List D) : Prop where
  cl : ClsF G c
  nm : mg x = some (.ref (G.cls c))
  ex : ∃ (f : Addr) (fd : FuncData) (ps : List Str) (dvs : List V) (ds : List Value), L2.Mk G.K (G.cls c) f ∧ FnOk P w G.K mg base (L2.CX P w) k f fd ps (spF G np mu sem) ∧ Binds G.K fd ps ds ∧ Vals dvs ds ∧ ∀ g, RepL G g dd dvs
def tMakeS (C : Addr) (sp : Sp) (dvs : List V) (E : L2.St → XK) (t : TA) : TE := fun σ H Q => t σ H fun vs H1 => ∀ x dx, H1 x = none → H1 dx = none → dx ≠ x →
  sp (.ref x :: (vs ++ dvs)) (upd (upd H1 dx (.own x)) x (.ins C dx [])) (fun v H2 => v = .non ∧ Q (.ref x) H2) (E σ)
theorem run_makeS {CX : CXT} {k : Nat} {f C : Addr} {fd : FuncData} {ps : List Str} {sp : Sp} {dvs : List V} {ds : List Value} {E : L2.St → XK} {pins : List (Addr × Obj)} {σ : L2.St} {H : Hp} {s : Shared} {Q : VK} {us : List Value} {vs : List V} (M : L2.Mk X.K C f) (F : FnOk X.prog X.w X.K X.mg X.base CX k f fd ps sp) (hr : Room (k + 1) X.A) (hb : Binds X.K fd ps ds) (hd : Vals dvs ds)
    (hx : PassesAt CX X σ (E σ)) (I : Inv X pins σ H s) (r : Vals vs us)
    (h : ∀ x dx, H x = none → H dx = none → dx ≠ x → sp (.ref x :: (vs ++ dvs)) (upd (upd H dx (.own x)) x (.ins C dx [])) (fun v H2 => v = .non ∧ Q (.ref x) H2) (E σ)) :
    wpAny (model X.prog X.w) X.A (call (.ref C) us) (EP X pins σ Q) X.xe s := by
  have hq := h (s.heap.objs.size + 1) s.heap.objs.size (I.hok.fresh (Nat.le_succ _)) (I.hok.fresh (Nat.le_refl _)) (Nat.ne_of_lt (Nat.lt_succ_self _))
  have I2 := Inv.made (C := C) I
  have r2 : Vals (V.ref (s.heap.objs.size + 1) :: (vs ++ dvs)) (Value.ref (s.heap.objs.size + 1) :: (us ++ ds)) := .cons rfl (r.append hd)
  have hl : (Value.ref (s.heap.objs.size + 1) :: us ++ ds).length = ps.length := by
    have e := r2.length
    rw [F.len _ _ _ _ hq] at e
    exact e.symm
  refine wpAny_call (make_map (f := f) I.kIn M.makes M.init (beq_iff_eq.mp M.fn) (codeAny_mono (F.run _ X.stack _ _ ⟨Value.ref (s.heap.objs.size + 1) :: us, []⟩ (Value.ref (s.heap.objs.size + 1) :: (us ++ ds)) _ _ (E σ) (hr.make C us [])
    (I2.env0.make C us []) (hb _ (Value.ref (s.heap.objs.size + 1) :: us) I2.kIn hl) r2 hq) fun r s' hq' => ?_))
  cases r with
  | error e => exact hx pins _ _ e s' I2 hq'
  | ok fl =>
    cases fl with
    | ret u =>
      obtain ⟨v, H', I3, rv, ev, q3⟩ := I2.after hq'
      subst ev
      exact ⟨rv, ⟨V.ref (s.heap.objs.size + 1), H', I3, rfl, q3⟩⟩
    | next => exact False.elim hq'
    | brk => exact False.elim hq'
    | cont => exact False.elim hq'
theorem pe_makeS {CX : CXT} {k : Nat} {f C : Addr} {fd : FuncData} {ps : List Str} {sp : Sp} {dvs : List V} {ds : List Value} {E : L2.St → XK} {x : Str} {p pos : Pos} {e : Expr} {es : List Expr} {t : TA} (M : L2.Mk X.K C f) (F : FnOk X.prog X.w X.K X.mg X.base CX k f fd ps sp) (hr : Room (k + 1) X.A) (hg : Gl X x) (hm : X.mg x = some (.ref C)) (hb : Binds X.K fd ps ds) (hd : Vals dvs ds) (hx : ∀ σ, PassesAt CX X σ (E σ))
    (ha : PA X (e :: es) t) (hdb : (x == ("__debug__" : Str)) = false := by decide) (he : starEach (e :: es) X.env = (false, eval e X.env) :: starEach es X.env := by rfl) (hpl : (backTo pos (starEach es X.env)).any (·.1) = false := by rfl) :
    PE X (.Call (.Name x p) (e :: es) [] pos) (tMakeS C sp dvs E t) := by
  refine ⟨fun pins s σ H Q I h => ?_⟩
  refine wpAny_Call_Name_kw (ld_glob I hg hm ?_ hdb)
  refine PySem.W.callWith_K (h₀ := X.base) I.ok.mod.kin M.kp (thn (ha.run pos pins s σ H _ I h) fun us s1 ⟨vs, H1, I1, r, q⟩ => ⟨I1.kIn, ?_⟩) he hpl
  exact run_makeS M F hr hb hd (hx σ) I1 r q
theorem pe_makeS0 {CX : CXT} {k : Nat} {f C : Addr} {fd : FuncData} {ps : List Str} {sp : Sp} {dvs : List V} {ds : List Value} {E : L2.St → XK} {x : Str} {p pos : Pos} (M : L2.Mk X.K C f) (F : FnOk X.prog X.w X.K X.mg X.base CX k f fd ps sp) (hr : Room (k + 1) X.A) (hg : Gl X x) (hm : X.mg x = some (.ref C)) (hb : Binds X.K fd ps ds) (hd : Vals dvs ds) (hx : ∀ σ, PassesAt CX X σ (E σ))
    (hdb : (x == ("__debug__" : Str)) = false := by decide) : PE X (.Call (.Name x p) [] [] pos) (tMakeS C sp dvs E tNil) := by
  refine ⟨fun pins s σ H Q I h => ?_⟩
  refine wpAny_Call_Name_kw (ld_glob I hg hm ?_ hdb)
  exact PySem.W.callWith_K0 I.kIn M.kp (run_makeS (us := []) M F hr hb hd (hx σ) I .nil h)
def madeD (n : Nat) (r : R D) : R D := match r with
  | .ok .non st => .ok (.cell n) st
  | .exc c ds en st => .exc c ds en st
  | _ => .bad
def makeD (c np : Nat) (mu : List Nat) (sem : List D → RF) (ms : List Md) (ds : List D) (en : En) (st : Sto) : R D := if ds.length + 1 = np then madeD st.length (callD mu sem ms (.cell st.length :: ds) en (st ++ [.obj c []])) else .bad
def xmake (c np : Nat) (mu : List Nat) (sem : List D → RF) (ms : List Md) (dd : List D) (a : XA) : XE := fun en st => (a en st).bind fun ds st => makeD c np mu sem ms (ds ++ dd) en st
theorem Rel.ownAt {g : Gh} {en : En} {st : Sto} {σ : L2.St} {H : Hp} (R : Rel G g en st σ H) {dx : Addr} {o : HO} (h : H dx = none) : Rel G g en st σ (upd H dx o) := by
  refine ⟨fun b u e => ?_, fun b u e => ?_, R.el, R.en, fun i c e n => ?_, R.len, R.inj, R.nd⟩
  · rw [upd_ne (ne_of_none (R.sF _ _ e) h)]; exact R.sF _ _ e
  · rw [upd_ne (ne_of_none (R.sL _ _ e) h)]; exact R.sL _ _ e
  · obtain ⟨a, u, q1, q2, q3, q4, q5⟩ := R.cell i c e n
    exact ⟨a, u, q1, by rw [upd_ne (ne_of_none q2 h)]; exact q2, q3, q4, q5⟩
theorem make_sp {g : Gh} {en : En} {st : Sto} {σ : L2.St} {H : Hp} {c np : Nat} {mu : List Nat} {sem : List D → RF} {ms : List Md} {ds : List D} {vs : List V} {Q : VK} (R : Rel G g en st σ H) (r : RepL G g ds vs)
    (h : pX G W g en σ (makeD c np mu sem ms ds en st) fun d g' _ H' => ∀ v, Rep G g' d v → Q v H') : ∀ x dx, H x = none → H dx = none → dx ≠ x → spF G np mu sem (.ref x :: vs) (upd (upd H dx (.own x)) x (.ins (G.cls c) dx [])) (fun v H2 => v = .non ∧ Q (.ref x) H2) (fun cls d H' => W cls d σ H') := by
  intro x dx hx hdx ne
  unfold makeD at h
  split at h
  · rename_i hl
    have hx' : upd H dx (.own x) x = none := by rw [upd_ne (Ne.symm ne)]; exact hx
    obtain ⟨l0, R0, r0⟩ := (R.ownAt (o := .own x) hdx).new (c := .obj c []) (o := .ins (G.cls c) dx []) hx' ⟨dx, [], by rw [List.zip_nil_right], Nat.zero_le _, rfl⟩
    have h' := pX.weak l0 h
    refine call_sp R0 (ms := ms) (ds := .cell st.length :: ds) (vs := .ref x :: vs) ⟨_, vs, rfl, r0, r.mono l0⟩ (by rw [List.length_cons, ← r.length]; exact hl) ?_
    revert h'
    cases callD mu sem ms (.cell st.length :: ds) en (st ++ [.obj c []]) with
    | bad => exact fun h => h
    | exc c' ds' en' st' => exact fun h => h
    | ok d st' =>
      intro h' g' H' l R' v rv
      cases d <;> try exact h'.elim
      exact ⟨rv, h' g' H' l R' _ (r0.mono l)⟩
  · exact h.elim
theorem se_make {c k np : Nat} {mu : List Nat} {sem : List D → RF} {dd : List D} {x : Str} {p pos : Pos} {e : Expr} {es : List Expr} {a : XA} (ms : List Md) (hK : X.K = G.K) (tk : Takes X W) (F : MakF X.prog X.w G X.mg X.base x c k np mu sem dd) (hr : Room (k + 1) X.A) (ha : SA G W X (e :: es) a) (hg : Gl X x := by rfl) (hdb : (x == ("__debug__" : Str)) = false := by decide)
    (he : starEach (e :: es) X.env = (false, eval e X.env) :: starEach es X.env := by rfl) (hpl : (backTo pos (starEach es X.env)).any (·.1) = false := by rfl) : SE G W X (.Call (.Name x p) (e :: es) [] pos) (xmake c np mu sem ms dd a) := by
  obtain ⟨f, fd, ps, dvs, ds0, h1, h2, h3, h4, h5⟩ := F.ex
  rw [← hK] at h1 h2 h3
  refine ⟨PE_imp (pe_makeS h1 h2 hr hg F.nm h3 h4 (fun σ => passAt tk σ) ha.pa hdb he hpl) fun σ H Q ⟨g, en, st, R, h⟩ => ?_⟩
  refine ⟨g, en, st, R, (pX.bind h).imp fun ds st1 g1 H1 l1 R1 h1 vs rvs => ?_⟩
  exact make_sp R1 (rvs.append (h5 g1)) h1
theorem se_make0 {c k np : Nat} {mu : List Nat} {sem : List D → RF} {dd : List D} {x : Str} {p pos : Pos} (ms : List Md) (hK : X.K = G.K) (tk : Takes X W) (F : MakF X.prog X.w G X.mg X.base x c k np mu sem dd) (hr : Room (k + 1) X.A) (hg : Gl X x := by rfl) (hdb : (x == ("__debug__" : Str)) = false := by decide) : SE G W X (.Call (.Name x p) [] [] pos) (xmake c np mu sem ms dd xnil) := by
  obtain ⟨f, fd, ps, dvs, ds0, h1, h2, h3, h4, h5⟩ := F.ex
  rw [← hK] at h1 h2 h3
  refine ⟨PE_imp (pe_makeS0 h1 h2 hr hg F.nm h3 h4 (fun σ => passAt tk σ) hdb) fun σ H Q ⟨g, en, st, R, h⟩ => ?_⟩
  exact make_sp R (ds := dd) (h5 g) h
end
end Px
namespace Px
open PySem PySem.Spec L2
section
variable {G : GS} {W : WX} {X : Cx} {i : Nat} {a : Addr}
structure SWp (G : GS) (W : WX) (i : Nat) (a : Addr) (X : Cx) (e : Expr) (c : XT) : Prop where
  pw : PW X e (tTp i a (tT G W c))
theorem swp_one_and {e : Expr} {c : XT} {pos : Pos} (h : SBp G W i a X e c) : SWp G W i a X (.BoolOp .And [e] pos) c := ⟨pw_and1 h.pt⟩
theorem swp_one_or {e : Expr} {c : XT} {pos : Pos} (h : SBp G W i a X e c) : SWp G W i a X (.BoolOp .Or [e] pos) c := ⟨pw_or1 h.pt⟩
theorem swp_and {e b : Expr} {rest : List Expr} {ca cb : XT} {pos : Pos} (ha : SBp G W i a X e ca) (hb : SWp G W i a X (.BoolOp .And (b :: rest) pos) cb) : SWp G W i a X (.BoolOp .And (e :: b :: rest) pos) (xand ca cb) :=
  ⟨PW_imp (pw_and ha.pt hb.pw) fun σ H Q ⟨hp, g, en, st, R, h⟩ => by
    refine ⟨hp, g, en, st, R, (pX.bind h).imp fun k st1 g1 H1 l1 R1 h1 => ?_⟩
    cases k with
    | true => rw [if_pos rfl]; exact ⟨hp, g1, en, st1, R1, h1⟩
    | false => exact h1 g1 H1 (Le.refl _) R1⟩
theorem swp_or {e b : Expr} {rest : List Expr} {ca cb : XT} {pos : Pos} (ha : SBp G W i a X e ca) (hb : SWp G W i a X (.BoolOp .Or (b :: rest) pos) cb) : SWp G W i a X (.BoolOp .Or (e :: b :: rest) pos) (xor_ ca cb) :=
  ⟨PW_imp (pw_or ha.pt hb.pw) fun σ H Q ⟨hp, g, en, st, R, h⟩ => by
    refine ⟨hp, g, en, st, R, (pX.bind h).imp fun k st1 g1 H1 l1 R1 h1 => ?_⟩
    cases k with
    | true => exact h1 g1 H1 (Le.refl _) R1
    | false => rw [if_neg Bool.false_ne_true]; exact ⟨hp, g1, en, st1, R1, h1⟩⟩
theorem sbp_w {e : Expr} {c : XT} (h : SWp G W i a X e c) : SBp G W i a X e c := ⟨h.pw.pt⟩
theorem sep_not {e : Expr} {c : XE} {pos : Pos} (h : SEp G W i a X e c) : SEp G W i a X (.UnaryOp .Not e pos) (vnot c) :=
  ⟨PE_imp (pe_not h.pe) fun σ H Q ⟨hp, g, en, st, R, h⟩ => by
    refine ⟨hp, g, en, st, R, (pX.bind h).imp fun x st1 g1 H1 l1 R1 h1 v rv => ?_⟩
    cases x <;> try exact h1.elim
    rename_i b
    exact ⟨b, rv, h1 g1 H1 (Le.refl _) R1 _ rfl⟩⟩
def noNx (r : R (Fl × En)) : R (Fl × En) := match r with
  | .ok (.nx, _) _ => .bad
  | r => r
def sifr (c : XT) (b r : XS) : XS := fun en st => (c en st).bind fun k st => if k then noNx (b en st) else r en st
theorem pS.noNx {g : Gh} {r : R (Fl × En)} {D D' : Ends} (h : pS G W g (noNx r) D) (hb : D'.bk = D.bk) (hc : D'.ct = D.ct) (hr : D'.rt = D.rt) : pS G W g r D' := by
  cases r with
  | bad => exact h
  | exc c ds en st => exact h
  | ok p st =>
    obtain ⟨fl, en⟩ := p
    cases fl with
    | nx => exact h.elim
    | bk => intro g' σ' H' l R; show D'.bk σ' H'; rw [hb]; exact h g' σ' H' l R
    | ct => intro g' σ' H' l R; show D'.ct σ' H'; rw [hc]; exact h g' σ' H' l R
    | rt d => intro g' σ' H' l R v rv; show D'.rt v H'; rw [hr]; exact h g' σ' H' l R v rv
theorem slp_ifr {c : Expr} {s ss : List Stmt} {tc : XT} {tb tr : XS} {pos : Pos} (hc : SBp G W i a X c tc) (hb : SLp G W i a X s tb) (hr : SLp G W i a X ss tr) : SLp G W i a X (.If c s [] pos :: ss) (sifr tc tb tr) :=
  ⟨PSs_imp (pss_cons (ps_if hc.pt hb.ps pss_nil) hr.ps) fun D σ H ⟨hp, g, en, st, R, h⟩ => by
    refine ⟨hp, g, en, st, R, (pS.bind h).imp fun k st1 g1 H1 l1 R1 h1 => ?_⟩
    cases k with
    | true =>
      rw [if_pos rfl]
      rw [if_pos rfl] at h1
      exact ⟨hp, g1, en, st1, R1, pS.noNx h1 rfl rfl rfl⟩
    | false =>
      rw [if_neg Bool.false_ne_true]
      rw [if_neg Bool.false_ne_true] at h1
      exact ⟨hp, g1, en, st1, R1, h1⟩⟩
theorem sep_cmp {op : CmpOp} {f : Op2} {e b : Expr} {ca cb : XE} {pos : Pos} (ho : OpR X (compareOp op) (rD G W f)) (ha : SEp G W i a X e ca) (hb : SE G W X b cb) (hm : behindInMarks op b = false := by first | exact nomark _ | rfl) : SEp G W i a X (.Compare e [op] [b] pos) (x2 f ca cb) :=
  ⟨PE_imp (pe_cmpR ho ha.pe hb.pe hm) fun σ H Q ⟨hp, h⟩ => by
    obtain ⟨g, en, st, R, h⟩ := h
    refine ⟨hp, g, en, st, R, (pX.bind h).imp fun x st1 g1 H1 l1 R1 h1 v rv => ?_⟩
    refine ⟨g1, en, st1, R1, (pX.bind h1).imp fun y st2 g2 H2 l2 R2 h2 u ru => ?_⟩
    exact ⟨g2, en, st2, σ, x, y, R2, rv.mono l2, ru, h2⟩⟩
end
end Px
namespace Px
open PySem PySem.Spec L2
section
variable {P : Program} {w : World} {mg : Str → Option Value} {base : Heap}
theorem body_ok {G : GS} {qual : Str} {sc : Scope} {bd : List Stmt} {f : Addr} {N ps : List Str} {k np nl : Nat} {mu : List Nat} {body : XS} (S : FnScope N ps sc) (hp : ps.length = np) (hl : N.length - np = nl)
    (hb : ∀ (cdv : Value) (A : Around) (outer : List Env) (s : Shared) (H : Hp) (E : XK), Room k (A.deeper (PyProof.Rows.envOfC qual sc s.heap.objs.size f cdv)) →
      Bd G (WB E) (cxOf (L2.CX P w) P w G.K mg base N qual sc f cdv A outer s H E) → SL G (WB E) (cxOf (L2.CX P w) P w G.K mg base N qual sc f cdv A outer s H E) bd body) :
    ∀ (cdv : Value) (A : Around) (outer : List Env) (s : Shared) (H : Hp) (vs : List V) (Q : VK) (E : XK), Room k (A.deeper (PyProof.Rows.envOfC qual sc s.heap.objs.size f cdv)) → spF G np mu (xfun np nl mu body) vs H Q E →
      ∃ t, PSs (cxOf (L2.CX P w) P w G.K mg base N qual sc f cdv A outer s H E) bd t ∧ t { nx := fun _ H' => Q .non H', rt := Q } (L2.start N vs) H := by
  intro cdv A outer s H vs Q E hr h
  have bd' : Bd G (WB E) (cxOf (L2.CX P w) P w G.K mg base N qual sc f cdv A outer s H E) := ⟨rfl, S.nd, rfl, takes_of rfl rfl rfl rfl, passes_of rfl⟩
  refine ⟨tS G (WB E) body, (hb cdv A outer s H E hr bd').ps, ?_⟩
  obtain ⟨g, ds, fp, ha, hnd, hlen, sF, sL, rT, nd, h⟩ := h
  obtain ⟨R, rp⟩ := start_ok ha hnd sF sL rT nd nl
  have es : L2.start N vs = vs.map some ++ List.replicate nl none := by
    unfold L2.start
    rw [← rT.length, hlen, hl]
  rw [es]
  refine ⟨⟨g.F, g.L, fp⟩, _, _, R, ?_⟩
  unfold xfun at h
  rw [if_pos hlen] at h
  cases e : body ((impL ds 0).1.map some ++ List.replicate nl none) (impL ds 0).2 with
  | bad => rw [e] at h; exact h.elim
  | exc c xs en st' =>
    rw [e] at h
    intro g' σ' H' d l R' hx
    simp only at h
    cases e2 : finX mu (impL ds 0).1 c xs st' with
    | bad => rw [e2] at h; exact h.elim
    | ok r ms =>
      unfold finX at e2
      split at e2
      · split at e2 <;> cases e2
      · cases e2
    | exc c' xs' ms =>
      obtain ⟨rfl, rfl, f2, h1, h2, h3, h4, h5, h6⟩ := finX_ok l R' rp hx e2
      rw [e2] at h
      exact h g'.F H' d f2 h1 h2 h3 h4 h5 h6
  | ok p st' =>
    obtain ⟨fl, en⟩ := p
    rw [e] at h
    intro g' σ' H' l R'
    have go : ∀ (d : D) (v : V), Rep G g' d v → (match fin mu (impL ds 0).1 d st' with
      | .ok r ms => ∀ F' H' v f1 f2, FL g F' → Same F' H' → Same g.L H' → RepT D.pl G ⟨F', g.L, []⟩ H' r v f1 → RepTL D.pl G ⟨F', g.L, []⟩ H' ms (mu.map fun i => vs.getD i .non) f2 → (f1 ++ f2).Nodup → Q v H'
      | .exc c xs ms => ∀ F' H' d f2, FL g F' → Same F' H' → Same g.L H' → ExcRep G ⟨F', g.L, []⟩ H' xs d → RepTL D.pl G ⟨F', g.L, []⟩ H' ms (mu.map fun i => vs.getD i .non) f2 → f2.Nodup → E (.ref (G.exc c)) d H'
      | .bad => False) → Q v H' := by
      intro d v rd h
      cases e2 : fin mu (impL ds 0).1 d st' with
      | bad => rw [e2] at h; exact h.elim
      | exc c xs ms =>
        unfold fin at e2
        split at e2
        · split at e2 <;> cases e2
        · cases e2
      | ok r ms =>
        rw [e2] at h
        obtain ⟨f1, f2, h1, h2, h3, h4, h5, h6⟩ := fin_ok l R' rp rd e2
        exact h g'.F H' v f1 f2 h1 h2 h3 h4 h5 h6
    cases fl with
    | nx => exact go .non .non rfl h
    | bk => exact h.elim
    | ct => exact h.elim
    | rt d => exact fun v rv => go d v rv h
theorem fn_okD {G : GS} {x qual : Str} {params : Arguments} {bd : List Stmt} {sc : Scope} {dvs : List V} {kws : List (Str × V)} {f : Addr} {fd : FuncData} {N ps : List Str} {k np nl : Nat} {mu : List Nat} {body : XS} (F : FunD G.K x qual params bd sc dvs kws f fd) (S : FnScope N ps sc) (hp : ps.length = np) (hl : N.length - np = nl)
    (hb : ∀ (cdv : Value) (A : Around) (outer : List Env) (s : Shared) (H : Hp) (E : XK), Room k (A.deeper (PyProof.Rows.envOfC qual sc s.heap.objs.size f cdv)) →
      Bd G (WB E) (cxOf (L2.CX P w) P w G.K mg base N qual sc f cdv A outer s H E) → SL G (WB E) (cxOf (L2.CX P w) P w G.K mg base N qual sc f cdv A outer s H E) bd body) :
    FnOk P w G.K mg base (L2.CX P w) (k + 1) f fd ps (spF G np mu (xfun np nl mu body)) :=
  F.ok S (fun vs H Q E h => by
    obtain ⟨g, ds, fp, _, _, h1, _, _, h2, _⟩ := h
    rw [hp, ← h1, h2.length]) (body_ok S hp hl hb)
section
variable {G : GS} {st : Stmt} {f : Addr} {ps : List Str} {oc : Value} {od an : Option Addr} {osl : Array (Option Value)} {kV doc pm cdv ct : Value} {x qual : Str} {c k np : Nat} {mu : List Nat} {sem : List D → RF}
theorem methF_of (cl : ClsF G c) (no : x ∉ G.flds c) (hm : Meth G.K (G.cls c) x f)
    (lk : G.K.lookup f = some ⟨oc, od, .func (PySem.W.fnOf x qual (defArgs st) (defBody st) (defScope st) .none kV doc pm an cdv ct), osl⟩) (cd : PySem.W.codeIn G.K cdv qual = true) (kp : PySem.W.keepIn G.K (.ref f) = true)
    (hb : ∀ (kV doc pm : Value) (an : Option Addr) (cdv ct : Value) (us : List Value), us.length = ps.length → bindArgs (PySem.W.fnOf x qual (defArgs st) (defBody st) (defScope st) .none kV doc pm an cdv ct) ⟨us, []⟩ = pure (ps.zip us))
    (ok : ∀ {f : Addr} {fd : FuncData}, Fun G.K x qual st f fd → FnOk P w G.K mg base (L2.CX P w) k f fd ps (spF G np mu sem)) : MethF P w G mg base c x k np mu sem :=
  have F := fun_mk (st := st) lk cd kp
  ⟨cl, no, f, _, ps, hm, ok F, F.binds hb⟩
theorem propF_of {p : Addr} (cl : ClsF G c) (hm : PropOf G.K (G.cls c) x p f)
    (lk : G.K.lookup f = some ⟨oc, od, .func (PySem.W.fnOf x qual (defArgs st) (defBody st) (defScope st) .none kV doc pm an cdv ct), osl⟩) (cd : PySem.W.codeIn G.K cdv qual = true) (kp : PySem.W.keepIn G.K (.ref f) = true)
    (hb : ∀ (kV doc pm : Value) (an : Option Addr) (cdv ct : Value) (us : List Value), us.length = ps.length → bindArgs (PySem.W.fnOf x qual (defArgs st) (defBody st) (defScope st) .none kV doc pm an cdv ct) ⟨us, []⟩ = pure (ps.zip us))
    (ok : ∀ {f : Addr} {fd : FuncData}, Fun G.K x qual st f fd → FnOk P w G.K mg base (L2.CX P w) k f fd ps (spF G 1 [] sem)) : PropF P w G mg base c x k sem :=
  have F := fun_mk (st := st) lk cd kp
  ⟨cl, p, f, _, ps, hm, ok F, F.binds hb⟩
theorem makF_of {cx : Str} (cl : ClsF G c) (hn : mg cx = some (.ref (G.cls c))) (hm : L2.Mk G.K (G.cls c) f)
    (lk : G.K.lookup f = some ⟨oc, od, .func (PySem.W.fnOf x qual (defArgs st) (defBody st) (defScope st) .none kV doc pm an cdv ct), osl⟩) (cd : PySem.W.codeIn G.K cdv qual = true) (kp : PySem.W.keepIn G.K (.ref f) = true)
    (hb : ∀ (kV doc pm : Value) (an : Option Addr) (cdv ct : Value) (us : List Value), us.length = ps.length → bindArgs (PySem.W.fnOf x qual (defArgs st) (defBody st) (defScope st) .none kV doc pm an cdv ct) ⟨us, []⟩ = pure (ps.zip us))
    (ok : ∀ {f : Addr} {fd : FuncData}, Fun G.K x qual st f fd → FnOk P w G.K mg base (L2.CX P w) k f fd ps (spF G np mu sem)) : MakF P w G mg base cx c k np mu sem [] :=
  have F := fun_mk (st := st) lk cd kp
  ⟨cl, hn, f, _, ps, [], [], hm, ok F, F.binds hb, .nil, fun g => rfl⟩
theorem makF_ofD {cx : Str} {fd : FuncData} {dvs : List V} {dd : List D} (cl : ClsF G c) (hn : mg cx = some (.ref (G.cls c))) (hm : L2.Mk G.K (G.cls c) f) (ok : FnOk P w G.K mg base (L2.CX P w) k f fd ps (spF G np mu sem))
    (hb : ∃ ds, Vals dvs ds ∧ Binds G.K fd ps ds) (hd : ∀ g, RepL G g dd dvs) : MakF P w G mg base cx c k np mu sem dd := by
  obtain ⟨ds, h1, h2⟩ := hb
  exact ⟨cl, hn, f, fd, ps, dvs, ds, hm, ok, h2, h1, hd⟩
theorem makF_ofD0 {cx : Str} {fd : FuncData} {dvs : List V} {n : Nat} (cl : ClsF G c) (hn : mg cx = some (.ref (G.cls c))) (hm : L2.Mk G.K (G.cls c) f) (ok : FnOk P w G.K mg base (L2.CX P w) k f fd ps (spF G np mu sem))
    (hb : ∃ ds, Vals (dvs.drop n) ds ∧ Binds G.K fd ps ds) (h0 : dvs.drop n = [] := by rfl) : MakF P w G mg base cx c k np mu sem [] := by
  obtain ⟨ds, h1, h2⟩ := hb
  rw [h0] at h1
  exact ⟨cl, hn, f, fd, ps, [], ds, hm, ok, h2, h1, fun g => rfl⟩
end
end
end Px
namespace Px
open PySem PySem.Spec L2
section
variable {G : GS} {W : WX} {X : Cx}
theorem repL_rg {g : Gh} {a b : Int} : RepL G g (rngL a (b - a).toNat) (rgV a b) := by
  unfold rngL rgV
  generalize (b - a).toNat = n
  have : ∀ l : List Nat, RepL G g (l.map fun (k : Nat) => D.int (a + ((k : Nat) : Int))) (l.map fun i => V.int (a + (i : Nat))) := by
    intro l
    induction l with
    | nil => rfl
    | cons x l ih => exact ⟨_, _, rfl, rfl, ih⟩
  exact this _
def okRg (a b : Int) : Bool := ok62 a && ok62 b && fitL (b - a).toNat
theorem okRg_ok {a b : Int} (h : okRg a b = true) : RgOk a b := by
  unfold okRg at h
  simp only [Bool.and_eq_true, ok62_iff] at h
  have := fitL_ok h.2
  rw [sizeLine_eq] at this
  exact ⟨by omega, h.1.1.2, by omega, h.1.2.2, by omega⟩
def xlrng1 (c : XE) : XE := fun en st => (c en st).bind fun d st => match d with
  | .int j => if okRg 0 j then .ok (.cell st.length) (st ++ [.lst (rngL 0 (j - 0).toNat)]) else .bad
  | _ => .bad
theorem se_lrng1 {a : Expr} {c : XE} {p p2 pos pos2 : Pos} (hc : X.calm = true) (hm : X.mg "list" = none) (hm2 : X.mg "range" = none) (ha : SE G W X a c) (hg : Gl X "list" := by rfl) (hg2 : Gl X "range" := by rfl)
    (na : starEach [a] X.env = (false, eval a X.env) :: starEach [] X.env := by rfl) (na2 : starEach [.Call (.Name "range" p2) [a] [] pos2] X.env = (false, eval (.Call (.Name "range" p2) [a] [] pos2) X.env) :: starEach [] X.env := by rfl) :
    SE G W X (.Call (.Name "list" p) [.Call (.Name "range" p2) [a] [] pos2] [] pos) (xlrng1 c) :=
  ⟨PE_imp (pe_listRg hc hg hm (prg_1 hg2 hm2 ha.pe na) na2) fun σ H Q ⟨g, en, st, R, h⟩ => by
    refine ⟨g, en, st, R, (pX.bind h).imp fun d st1 g1 H1 l1 R1 h1 v rv => ?_⟩
    cases d <;> try exact h1.elim
    rename_i j
    refine ⟨j, rv, ?_⟩
    simp only at h1
    split at h1
    · rename_i ok
      refine ⟨okRg_ok ok, fun q hq => ?_⟩
      obtain ⟨l, R', r'⟩ := R1.new (c := .lst (rngL 0 (j - 0).toNat)) hq ⟨_, rfl, repL_rg⟩
      exact h1 _ _ l R' _ r'
    · exact h1.elim⟩
def xlrng2 (c d : XE) : XE := fun en st => (c en st).bind fun x st => (d en st).bind fun y st => match x, y with
  | .int i, .int j => if okRg i j then .ok (.cell st.length) (st ++ [.lst (rngL i (j - i).toNat)]) else .bad
  | _, _ => .bad
theorem se_lrng2 {a b : Expr} {c d : XE} {p p2 pos pos2 : Pos} (hc : X.calm = true) (hm : X.mg "list" = none) (hm2 : X.mg "range" = none) (ha : SE G W X a c) (hb : SE G W X b d) (hg : Gl X "list" := by rfl) (hg2 : Gl X "range" := by rfl)
    (na : starEach [a, b] X.env = (false, eval a X.env) :: starEach [b] X.env := by rfl) (nb : starEach [b] X.env = (false, eval b X.env) :: starEach [] X.env := by rfl) (hp : (backTo pos2 (starEach [b] X.env)).any (·.1) = false := by rfl)
    (na2 : starEach [.Call (.Name "range" p2) [a, b] [] pos2] X.env = (false, eval (.Call (.Name "range" p2) [a, b] [] pos2) X.env) :: starEach [] X.env := by rfl) :
    SE G W X (.Call (.Name "list" p) [.Call (.Name "range" p2) [a, b] [] pos2] [] pos) (xlrng2 c d) :=
  ⟨PE_imp (pe_listRg hc hg hm (prg_2 hg2 hm2 ha.pe hb.pe na nb hp) na2) fun σ H Q ⟨g, en, st, R, h⟩ => by
    refine ⟨g, en, st, R, (pX.bind h).imp fun x st1 g1 H1 l1 R1 h1 v rv => ?_⟩
    refine ⟨g1, en, st1, R1, (pX.bind h1).imp fun y st2 g2 H2 l2 R2 h2 u ru => ?_⟩
    cases x <;> try exact h2.elim
    rename_i i
    cases y <;> try exact h2.elim
    rename_i j
    refine ⟨i, j, rv, ru, ?_⟩
    simp only at h2
    split at h2
    · rename_i ok
      refine ⟨okRg_ok ok, fun q hq => ?_⟩
      obtain ⟨l, R', r'⟩ := R2.new (c := .lst (rngL i (j - i).toNat)) hq ⟨_, rfl, repL_rg⟩
      exact h2 _ _ l R' _ r'
    · exact h2.elim⟩
theorem call_lenK : CallR X (.builtin "len") (fun xs H Q => ∃ a kvs, xs = [.ref a] ∧ Rd H a (.dK kvs) ∧ Q (.int (kvs.length : Nat)) H) := by
  intro pins s σ H xs us Q I r h
  obtain ⟨a, kvs, rfl, e, q⟩ := h
  obtain ⟨u, rfl, ru⟩ := vals1 r
  obtain rfl : u = Value.ref a := ru
  exact d_len I e fun t s' I' => ⟨.int (kvs.length : Nat), H, I', ⟨_, rfl⟩, q⟩
def bLend : XF := fun ds st => match ds with
  | [d] => match dictOf st d with
    | some p => .ok (.int (p.1.length : Nat)) st
    | none => bLen ds st
  | _ => .bad
theorem hc_lend (hK : X.K = G.K) : CallR X (.builtin "len") (rA G W bLend) := CallR_imp (CallR_or call_lenK (hc_len (G := G) (W := W) hK)) fun vs H Q ⟨g, en, st, σ, ds, R, r, h⟩ => by
  unfold bLend at h
  split at h
  · rename_i d
    split at h
    · rename_i p hp
      obtain ⟨v, q, e1, e2, e3⟩ := r
      cases e3
      obtain ⟨a, ws, f1, f2, f3, f4⟩ := dictOf_H R e2 hp
      refine .inl ⟨a, _, by rw [e1, f1], f2, ?_⟩
      rw [List.length_zip, ← f3, Nat.min_self]
      exact h g H (Le.refl _) R _ rfl
    · exact .inr ⟨g, en, st, σ, _, R, r, h⟩
  · exact h.elim
theorem repL_keys {g : Gh} : ∀ ks : List Key, RepL G g (ks.map keyD) (ks.map kV)
  | [] => rfl
  | k :: ks => ⟨_, _, rfl, keyD_rep k, repL_keys ks⟩
def bListd : XF := fun ds st => match ds with
  | [.cell i] => match st[i]? with
    | some (.dk ks us) => .ok (.cell st.length) (st ++ [.lst (ks.map keyD)])
    | _ => bList ds st
  | [.dk .loan ks us] => .ok (.cell st.length) (st ++ [.lst (ks.map keyD)])
  | _ => bList ds st
theorem hc_listd (hK : X.K = G.K) (hc : X.calm = true) : CallR X (.type "list") (rA G W bListd) := CallR_imp (CallR_or (CallR_or (call_list_dK hc) (call_listD hc)) (hc_list (G := G) (W := W) hK)) fun vs H Q ⟨g, en, st, σ, ds, R, r, h⟩ => by
  unfold bListd at h
  split at h
  · rename_i i
    split at h
    · rename_i ks us hi
      obtain ⟨v, q, e1, e2, e3⟩ := r
      cases e3
      obtain ⟨a, o, f1, f2, f3, ws, f4, f5, f6⟩ := R.isCell hi (by intro w; cases w) e2
      subst f4
      refine .inl (.inl ⟨a, _, by rw [e1, f1], f3, fun p hp => ?_⟩)
      have ek : (ks.zip ws).map (fun kv => kV kv.1) = ks.map kV := by
        rw [show (fun kv : Key × V => kV kv.1) = kV ∘ Prod.fst from rfl, ← List.map_map, List.map_fst_zip (by omega)]
      rw [ek]
      obtain ⟨l, R', r'⟩ := R.new (c := .lst (ks.map keyD)) hp ⟨_, rfl, repL_keys ks⟩
      exact h _ _ l R' _ r'
    · exact .inr ⟨g, en, st, σ, _, R, r, h⟩
  · rename_i ks us
    obtain ⟨v, q, e1, ⟨a, ws, f1, f3, f5, f6⟩, e3⟩ := r
    cases e3
    refine .inl (.inr ⟨a, _, by rw [e1, f1], rd_same R.sL f3, fun p hp => ?_⟩)
    have ek : (ks.zip ws).map (fun kv => kV kv.1) = ks.map kV := by
      rw [show (fun kv : Key × V => kV kv.1) = kV ∘ Prod.fst from rfl, ← List.map_map, List.map_fst_zip (by omega)]
    rw [ek]
    obtain ⟨l, R', r'⟩ := R.new (c := .lst (ks.map keyD)) hp ⟨_, rfl, repL_keys ks⟩
    exact h _ _ l R' _ r'
  · exact .inr ⟨g, en, st, σ, _, R, r, h⟩
end
end Px
namespace Px
open PySem PySem.Spec L2
@[simp] theorem ev_raise (c : Nat) (en : En) (st : Sto) : sraise c en st = .exc c [] en st := (rfl)
@[simp] theorem ev_try (tbl : Nat → Option Bool) (i : Nat) (body : XS) (h : Nat → XS) (en : En) (st : Sto) : stry tbl i body h en st = match body en st with
  | .exc c ds en' st' => match tbl c with
    | some true => if ds.isEmpty && decide (i < en'.length) then (match h c (en'.set i none) st' with
      | .ok (.nx, e) s => .ok (.nx, e.set i none) s
      | .ok (.bk, e) s => .ok (.bk, e.set i none) s
      | .ok (.ct, e) s => .ok (.ct, e.set i none) s
      | .ok (.rt d, e) s => .ok (.rt d, e) s
      | _ => .bad) else .bad
    | some false => .exc c ds en' st'
    | none => .bad
  | r => r := (rfl)
@[simp] theorem ev_isx (tbl : Nat → Option Bool) (k : Nat) (en : En) (st : Sto) : xisx tbl k en st = match tbl k with
  | some b => .ok (.bl b) st
  | none => .bad := (rfl)
@[simp] theorem ev_finX (ps : List D) (c : Nat) (st : Sto) : finX [] ps c [] st = .exc c [] [] := (rfl)
@[simp] theorem ev_sifr (c : XT) (b r : XS) (en : En) (st : Sto) : sifr c b r en st = (c en st).bind fun k st => if k then noNx (b en st) else r en st := (rfl)
@[simp] theorem noNx_rt (d : D) (en : En) (st : Sto) : noNx (.ok (.rt d, en) st) = .ok (.rt d, en) st := (rfl)
@[simp] theorem ev_ixd (x y : D) (st : Sto) : oIxd x y st = match dictOf st x with
  | some p => match keyOf y with
    | some k => match kget p.1 p.2 k with
      | some d => .ok d st
      | none => .bad
    | none => .bad
  | none => oIx x y st := (rfl)
@[simp] theorem dictOf_cell (st : Sto) (i : Nat) : dictOf st (.cell i) = match st[i]? with
    | some (.dk ks us) => some (ks, us)
    | _ => none := (rfl)
@[simp] theorem dictOf_frz (st : Sto) (ks : List Key) (us : List D) : dictOf st (.dk .frz ks us) = some (ks, us) := (rfl)
@[simp] theorem dictOf_loan (st : Sto) (ks : List Key) (us : List D) : dictOf st (.dk .loan ks us) = some (ks, us) := (rfl)
@[simp] theorem dictOf_tup (st : Sto) (us : List D) : dictOf st (.tup us) = none := (rfl)
@[simp] theorem dictOf_lst (st : Sto) (m : Mk) (us : List D) : dictOf st (.lst m us) = none := (rfl)
@[simp] theorem dictOf_str (st : Sto) (z : Str) : dictOf st (.str z) = none := (rfl)
@[simp] theorem keyOf_int (i : Int) : keyOf (.int i) = some (.inl i) := (rfl)
@[simp] theorem keyOf_str (i : Str) : keyOf (.str i) = some (.inr i) := (rfl)
@[simp] theorem keyD_int (i : Int) : keyD (.inl i) = .int i := (rfl)
@[simp] theorem keyD_str (i : Str) : keyD (.inr i) = .str i := (rfl)
@[simp] theorem kget_nil (us : List D) (k : Key) : kget [] us k = none := (rfl)
@[simp] theorem kget_cons (j : Key) (ks : List Key) (u : D) (us : List D) (k : Key) : kget (j :: ks) (u :: us) k = if j = k then some u else kget ks us k := (rfl)
@[simp] theorem khas_nil (k : Key) : khas [] k = false := (rfl)
@[simp] theorem khas_cons (j : Key) (ks : List Key) (k : Key) : khas (j :: ks) k = (decide (j = k) || khas ks k) := (rfl)
@[simp] theorem ev_ind (x y : D) (st : Sto) : oInd x y st = match dictOf st y with
  | some p => match keyOf x with
    | some k => .ok (.bl (khas p.1 k)) st
    | none => .bad
  | none => oIn x y st := (rfl)
@[simp] theorem ev_nind (x y : D) (st : Sto) : oNotInd x y st = match dictOf st y with
  | some p => match keyOf x with
    | some k => .ok (.bl (!khas p.1 k)) st
    | none => .bad
  | none => oNotIn x y st := (rfl)
@[simp] theorem ev_setD (i : Nat) (y z : D) (st : Sto) : oSetD (.cell i) y z st = match st[i]? with
    | some (.dk ks us) => match keyOf y with
      | some k => if fitL (ks.length + 1) then .ok () (st.set i (.dk (kput ks us k z).1 (kput ks us k z).2)) else .bad
      | none => .bad
    | _ => oSetL (.cell i) y z st := (rfl)
@[simp] theorem ev_dget1 (a b : XE) (en : En) (st : Sto) : xdget1 a b en st = (a en st).bind fun x st => if (dictOf st x).isSome then (b en st).bind fun y st => dgetD (dictOf st x) y .non st else .bad := (rfl)
@[simp] theorem ev_dget2 (a b c : XE) (en : En) (st : Sto) : xdget2 a b c en st = (a en st).bind fun x st => if (dictOf st x).isSome then (b en st).bind fun y st => (c en st).bind fun z st => dgetD (dictOf st x) y z st else .bad := (rfl)
@[simp] theorem ev_dpop1 (a b : XE) (en : En) (st : Sto) : xdpop1 a b en st = (a en st).bind fun x st => if (dictOf st x).isSome then (b en st).bind fun y st => dpop1D x y st else .bad := (rfl)
@[simp] theorem ev_dpop2 (a b c : XE) (en : En) (st : Sto) : xdpop2 a b c en st = (a en st).bind fun x st => if (dictOf st x).isSome then (b en st).bind fun y st => (c en st).bind fun z st => dpopD x y z st else .bad := (rfl)
@[simp] theorem dgetD_some (p : List Key × List D) (y z : D) (st : Sto) : dgetD (some p) y z st = match keyOf y with
    | some k => .ok ((kget p.1 p.2 k).getD z) st
    | none => .bad := (rfl)
@[simp] theorem dpopD_cell (i : Nat) (y z : D) (st : Sto) : dpopD (.cell i) y z st = match st[i]? with
    | some (.dk ks us) => match keyOf y with
      | some k => match kget ks us k with
        | some d => .ok d (st.set i (.dk (kdropK ks k) (kdropU ks us k)))
        | none => .ok z st
      | none => .bad
    | _ => .bad := (rfl)
@[simp] theorem ev_pnil (en : En) (st : Sto) : xpnil en st = .ok [] st := (rfl)
@[simp] theorem ev_pcons (a b : XE) (c : XP) (en : En) (st : Sto) : xpcons a b c en st = (a en st).bind fun x st => (b en st).bind fun y st => (c en st).bind fun r st => .ok ((x, y) :: r) st := (rfl)
@[simp] theorem keysOf_nil : keysOf [] = some [] := (rfl)
@[simp] theorem keysOf_cons (x y : D) (r : List (D × D)) : keysOf ((x, y) :: r) = match keyOf x, keysOf r with
    | some k, some q => some ((k, y) :: q)
    | _, _ => none := (rfl)
def kputs (p : List Key × List D) (k : Key) (d : D) : List Key × List D := kput p.1 p.2 k d
@[simp] theorem kmerge_nil (ks : List Key) (us : List D) : kmerge ks us [] = (ks, us) := (rfl)
@[simp] theorem kmerge_cons (ks : List Key) (us : List D) (k : Key) (d : D) (r : List (Key × D)) : kmerge ks us ((k, d) :: r) = kmerge (kput ks us k d).1 (kput ks us k d).2 r := (rfl)
theorem kput_eq (ks : List Key) (us : List D) (k : Key) (d : D) : kput ks us k d = if khas ks k then (ks, krep ks us k d) else (ks ++ [k], us ++ [d]) := (rfl)
@[simp] theorem kput_new {ks : List Key} {us : List D} {k : Key} {d : D} (h : khas ks k = false) : kput ks us k d = (ks ++ [k], us ++ [d]) := by unfold kput; rw [h]; rfl
theorem kput_old {ks : List Key} {us : List D} {k : Key} {d : D} (h : khas ks k = true) : kput ks us k d = (ks, krep ks us k d) := by unfold kput; rw [h]; rfl
@[simp] theorem ev_disp (c : XP) (en : En) (st : Sto) : xdisp c en st = (c en (st ++ [.dk [] []])).bind fun ps st' => match keysOf ps with
  | some kds => if kds.length ≤ 15 then (match st'[st.length]? with
      | some (.dk [] []) => .ok (.cell st.length) (st'.set st.length (.dk (kmerge [] [] kds).1 (kmerge [] [] kds).2))
      | _ => .bad) else .bad
  | none => .bad := (rfl)
@[simp] theorem ev_dnew (en : En) (st : Sto) : xdnew en st = .ok (.cell st.length) (st ++ [.dk [] []]) := (rfl)
@[simp] theorem ev_sfrz (j : Nat) (b : XS) (en : En) (st : Sto) : sfrz j b en st = match en[j]? with
  | some (some (.cell i)) => match st[i]? with
    | some (.dk ks us) => b (en.set j (some (.dk .frz ks us))) (st.set i .gone)
    | _ => b en st
  | _ => b en st := (rfl)
@[simp] theorem ev_forK (c : XE) (t : XG) (b : XS) (en : En) (st : Sto) : sforK c t b en st = (c en st).bind fun d st => match d with
  | .dk .frz ks _ => floop [] t b (ks.map keyD) en st
  | .dk .loan ks _ => noExc true (floop [] t b (ks.map keyD) en st)
  | _ => .bad := (rfl)
@[simp] theorem noExc_ok {α : Type} (b : Bool) (a : α) (st : Sto) : noExc b (.ok a st) = .ok a st := by cases b <;> rfl
@[simp] theorem ev_keysF (c : XE) (en : En) (st : Sto) : ikeysF c en st = (c en st).bind fun d st => match d with
  | .dk .frz ks _ => .ok ⟨ks.map keyD, []⟩ st
  | _ => .bad := (rfl)
@[simp] theorem ev_lend (d : D) (st : Sto) : bLend [d] st = match dictOf st d with
    | some p => .ok (.int (p.1.length : Nat)) st
    | none => bLen [d] st := (rfl)
@[simp] theorem ev_listd (i : Nat) (st : Sto) : bListd [.cell i] st = match st[i]? with
    | some (.dk ks us) => .ok (.cell st.length) (st ++ [.lst (ks.map keyD)])
    | _ => bList [.cell i] st := (rfl)
@[simp] theorem ev_listdL (ks : List Key) (us : List D) (st : Sto) : bListd [.dk .loan ks us] st = .ok (.cell st.length) (st ++ [.lst (ks.map keyD)]) := (rfl)
@[simp] theorem ev_lrng1 (c : XE) (en : En) (st : Sto) : xlrng1 c en st = (c en st).bind fun d st => match d with
  | .int j => if okRg 0 j then .ok (.cell st.length) (st ++ [.lst (rngL 0 (j - 0).toNat)]) else .bad
  | _ => .bad := (rfl)
@[simp] theorem ev_lrng2 (c d : XE) (en : En) (st : Sto) : xlrng2 c d en st = (c en st).bind fun x st => (d en st).bind fun y st => match x, y with
  | .int i, .int j => if okRg i j then .ok (.cell st.length) (st ++ [.lst (rngL i (j - i).toNat)]) else .bad
  | _, _ => .bad := (rfl)
@[simp] theorem ev_del (a b : XE) (en : En) (st : Sto) : sdel a b en st = (a en st).bind fun x st => (b en st).bind fun y st => match x with
  | .cell i => match st[i]? with
    | some (.dk ks us) => match keyOf y with
      | some k => if khas ks k then .ok (.nx, en) (st.set i (.dk (kdropK ks k) (kdropU ks us k))) else .bad
      | none => .bad
    | _ => .bad
  | _ => .bad := (rfl)
@[simp] theorem objOf_cell (st : Sto) (i : Nat) : objOf st (.cell i) = match st[i]? with
    | some (.obj c fs) => some (c, fs)
    | _ => none := (rfl)
@[simp] theorem objOf_loan (st : Sto) (c : Nat) (fs : List D) : objOf st (.obj .loan c fs) = some (c, fs) := (rfl)
@[simp] theorem objOf_frz (st : Sto) (c : Nat) (fs : List D) : objOf st (.obj .frz c fs) = some (c, fs) := (rfl)
@[simp] theorem clsOf_some (p : Nat × List D) : clsOf (some p) = some p.1 := (rfl)
@[simp] theorem fldOf_some (tb : Nat → Option Nat) (p : Nat × List D) : fldOf tb (some p) = match tb p.1 with
    | some n => p.2[n]?
    | none => none := (rfl)
@[simp] theorem oD_some (d : D) (st : Sto) : oD (some d) st = .ok d st := (rfl)
@[simp] theorem ev_fld (tb : Nat → Option Nat) (a : XE) (en : En) (st : Sto) : xfld tb a en st = (a en st).bind fun x st => oD (fldOf tb (objOf st x)) st := (rfl)
@[simp] theorem ev_sfld (tb : Nat → Option Nat) (a c : XE) (en : En) (st : Sto) : sfld tb a c en st = (c en st).bind fun d st => (a en st).bind fun x st => oSt (putO tb x d st) en := (rfl)
@[simp] theorem oSt_some (st : Sto) (en : En) : oSt (some st) en = .ok (.nx, en) st := (rfl)
@[simp] theorem putO_cell (tb : Nat → Option Nat) (i : Nat) (d : D) (st : Sto) : putO tb (.cell i) d st = match st[i]? with
    | some (.obj k fs) => match tb k with
      | some n => if n < fs.length then some (st.set i (.obj k (fs.set n d))) else if n = fs.length then some (st.set i (.obj k (fs ++ [d]))) else none
      | none => none
    | _ => none := (rfl)
@[simp] theorem ev_augf (tb : Nat → Option Nat) (f : Op2) (a c : XE) (en : En) (st : Sto) : saugf tb f a c en st = (a en st).bind fun x st => match fldOf tb (objOf st x) with
  | some d => (c en st).bind fun y st' => (f d y st').bind fun z st' => if clsOf (objOf st' x) = clsOf (objOf st x) then oSt (putO tb x z st') en else .bad
  | none => .bad := (rfl)
@[simp] theorem ev_mcall (c np : Nat) (mu : List Nat) (sem : List D → RF) (ms : List Md) (o : XE) (a : XA) (en : En) (st : Sto) : xmcall c np mu sem ms o a en st = (o en st).bind fun x st => if clsOf (objOf st x) = some c then (a en st).bind fun ds st => mcallD c np mu sem ms x ds en st else .bad := (rfl)
@[simp] theorem ev_mcall0 (c np : Nat) (mu : List Nat) (sem : List D → RF) (ms : List Md) (o : XE) (en : En) (st : Sto) : xmcall0 c np mu sem ms o en st = (o en st).bind fun x st => if clsOf (objOf st x) = some c then mcallD c np mu sem ms x [] en st else .bad := (rfl)
@[simp] theorem ev_mcallD (c np : Nat) (mu : List Nat) (sem : List D → RF) (ms : List Md) (x : D) (ds : List D) (en : En) (st : Sto) : mcallD c np mu sem ms x ds en st = if ds.length + 1 = np then callD mu sem ms (x :: ds) en st else .bad := (rfl)
@[simp] theorem ev_prop (c : Nat) (sem : List D → RF) (o : XE) (en : En) (st : Sto) : xprop c sem o en st = (o en st).bind fun x st => if clsOf (objOf st x) = some c then noExc true (callD [] sem [.val] [x] en st) else .bad := (rfl)
@[simp] theorem ev_make (c np : Nat) (mu : List Nat) (sem : List D → RF) (ms : List Md) (dd : List D) (a : XA) (en : En) (st : Sto) : xmake c np mu sem ms dd a en st = (a en st).bind fun ds st => makeD c np mu sem ms (ds ++ dd) en st := (rfl)
@[simp] theorem ev_makeD (c np : Nat) (mu : List Nat) (sem : List D → RF) (ms : List Md) (ds : List D) (en : En) (st : Sto) : makeD c np mu sem ms ds en st = if ds.length + 1 = np then madeD st.length (callD mu sem ms (.cell st.length :: ds) en (st ++ [.obj c []])) else .bad := (rfl)
@[simp] theorem madeD_ok (n : Nat) (st : Sto) : madeD n (.ok .non st) = .ok (.cell n) st := (rfl)
@[simp] theorem madeD_exc (n c : Nat) (ds : List D) (en : En) (st : Sto) : madeD n (.exc c ds en st) = .exc c ds en st := (rfl)
end Px
namespace Px
open PySem PySem.Spec L2
@[simp] theorem noc_dkl (ks : List Key) (ds : List D) : D.noc (.dk .loan ks ds) = nocL ds := by simp [D.noc]
@[simp] theorem noc_dkf (ks : List Key) (ds : List D) : D.noc (.dk .frz ks ds) = nocL ds := by simp [D.noc]
@[simp] theorem noc_dko (ks : List Key) (ds : List D) : D.noc (.dk .own ks ds) = false := by simp [D.noc]
@[simp] theorem noc_obl (c : Nat) (ds : List D) : D.noc (.obj .loan c ds) = nocL ds := by simp [D.noc]
@[simp] theorem noc_obf (c : Nat) (ds : List D) : D.noc (.obj .frz c ds) = nocL ds := by simp [D.noc]
@[simp] theorem noc_obo (c : Nat) (ds : List D) : D.noc (.obj .own c ds) = false := by simp [D.noc]
@[simp] theorem pl_own (ds : List D) : D.pl (.lst .own ds) = false := by simp [D.pl]
@[simp] theorem pl_dkl (ks : List Key) (ds : List D) : D.pl (.dk .loan ks ds) = false := by simp [D.pl]
@[simp] theorem pl_dkf (ks : List Key) (ds : List D) : D.pl (.dk .frz ks ds) = plL ds := by simp [D.pl]
@[simp] theorem pl_dko (ks : List Key) (ds : List D) : D.pl (.dk .own ks ds) = false := by simp [D.pl]
@[simp] theorem pl_obl (c : Nat) (ds : List D) : D.pl (.obj .loan c ds) = false := by simp [D.pl]
@[simp] theorem pl_obf (c : Nat) (ds : List D) : D.pl (.obj .frz c ds) = plL ds := by simp [D.pl]
@[simp] theorem pl_obo (c : Nat) (ds : List D) : D.pl (.obj .own c ds) = false := by simp [D.pl]
@[simp] theorem allNoc (ds : List D) : ds.all D.noc = nocL ds := all_noc ds
@[simp] theorem allPl (ds : List D) : ds.all D.pl = plL ds := all_pl ds
theorem nocL_map {α : Type} (f : α → D) : ∀ (l : List α), (∀ x ∈ l, (f x).noc = true) → nocL (l.map f) = true
  | [], _ => rfl
  | x :: l, h => by simp [h x (by simp), nocL_map f l fun y hy => h y (List.mem_cons_of_mem _ hy)]
theorem plL_map {α : Type} (f : α → D) : ∀ (l : List α), (∀ x ∈ l, (f x).pl = true) → plL (l.map f) = true
  | [], _ => rfl
  | x :: l, h => by simp [h x (by simp), plL_map f l fun y hy => h y (List.mem_cons_of_mem _ hy)]
@[simp] theorem take_tupS (ok : D → Bool) (st : Sto) (n : Nat) (ds : List D) (h : ok (.tup ds) = false) : take ok st (n + 1) (.tup ds) = (takeL ok (take ok st n) ds).map fun p => (.tup p.1, p.2) := by
  rw [take, h]
  show (if false = true then _ else _) = _
  rw [if_neg Bool.false_ne_true]
@[simp] theorem take_cellS (ok : D → Bool) (st : Sto) (n : Nat) (i : Nat) (h : ok (.cell i) = false) : take ok st (n + 1) (.cell i) = match st[i]? with
      | some (.lst ds) => (takeL ok (take ok st n) ds).map fun p => (.lst .own p.1, p.2 ++ [i])
      | some (.dk ks ds) => (takeL ok (take ok st n) ds).map fun p => (.dk .own ks p.1, p.2 ++ [i])
      | some (.dt ks ds) => (takeL ok (take ok st n) ds).map fun p => (.dt .own ks p.1, p.2 ++ [i])
      | some (.obj c ds) => (takeL ok (take ok st n) ds).map fun p => (.obj .own c p.1, p.2 ++ [i])
      | _ => none := by
  rw [take, h]
  show (if false = true then _ else _) = _
  rw [if_neg Bool.false_ne_true]
  all_goals rfl
@[simp] theorem take_ok_id (ok : D → Bool) (st : Sto) (n : Nat) (d : D) (h : ok d = true) : take ok st n d = some (d, []) := by
  cases n <;> simp [take, h]
@[simp] theorem takeL_y (ok : D → Bool) (f : D → Option (D × List Nat)) (ds : List D) (h : ds.all ok = true) : takeL ok f ds = some (ds, []) := by unfold takeL; rw [if_pos h]
@[simp] theorem takeL_n (ok : D → Bool) (f : D → Option (D × List Nat)) (ds : List D) (h : ds.all ok = false) : takeL ok f ds = mapO f ds := by unfold takeL; rw [if_neg (by rw [h]; exact Bool.false_ne_true)]
@[simp] theorem mapO_nil (f : D → Option (D × List Nat)) : mapO f [] = some ([], []) := (rfl)
@[simp] theorem mapO_cons (f : D → Option (D × List Nat)) (d : D) (r : List D) : mapO f (d :: r) = match f d, mapO f r with
    | some p, some q => some (p.1 :: q.1, p.2 ++ q.2)
    | _, _ => none := (rfl)
@[simp] theorem snap_tupS (st : Sto) (n : Nat) (ds : List D) (h : nocL ds = false) : snap st (n + 1) (.tup ds) = (snapL (snap st n) ds).map .tup := by
  rw [snap, noc_tup, h]
  rw [if_neg Bool.false_ne_true]
@[simp] theorem snap_cellS (st : Sto) (n : Nat) (i : Nat) : snap st (n + 1) (.cell i) = match st[i]? with
      | some (.lst ds) => (snapL (snap st n) ds).map (.lst .loan)
      | some (.dk ks ds) => (snapL (snap st n) ds).map (.dk .loan ks)
      | some (.dt ks ds) => (snapL (snap st n) ds).map (.dt .loan ks)
      | some (.obj c ds) => (snapL (snap st n) ds).map (.obj .loan c)
      | _ => none := by
  rw [snap, noc_cell]
  rw [if_neg Bool.false_ne_true]
  all_goals rfl
@[simp] theorem snap_ok_id (st : Sto) (n : Nat) (d : D) (h : d.noc = true) : snap st n d = some d := snap_id h
@[simp] theorem snapL_y (f : D → Option D) (ds : List D) (h : nocL ds = true) : snapL f ds = some ds := by unfold snapL; rw [if_pos (by rw [all_noc]; exact h)]
@[simp] theorem snapL_n (f : D → Option D) (ds : List D) (h : nocL ds = false) : snapL f ds = mapS f ds := by unfold snapL; rw [if_neg (by rw [all_noc, h]; exact Bool.false_ne_true)]
@[simp] theorem mapS_nil (f : D → Option D) : mapS f [] = some [] := (rfl)
@[simp] theorem mapS_cons (f : D → Option D) (d : D) (r : List D) : mapS f (d :: r) = match f d, mapS f r with
    | some p, some q => some (p :: q)
    | _, _ => none := (rfl)
@[simp] theorem prepT_nil (st : Sto) : prepT st [] [] = some ([], []) := (rfl)
@[simp] theorem prepT_val (st : Sto) (ms : List Md) (d : D) (ds : List D) : prepT st (.val :: ms) (d :: ds) = (prepT st ms ds).map fun q => (d :: q.1, q.2) := (rfl)
@[simp] theorem prepT_mov (st : Sto) (ms : List Md) (d : D) (ds : List D) : prepT st (.mov :: ms) (d :: ds) = match take D.noc st 20 d, prepT st ms ds with
    | some p, some q => some (p.1 :: q.1, p.2 ++ q.2)
    | _, _ => none := (rfl)
@[simp] theorem prepT_mut (st : Sto) (ms : List Md) (d : D) (ds : List D) : prepT st (.mut :: ms) (d :: ds) = match take D.noc st 20 d, prepT st ms ds with
    | some p, some q => some (p.1 :: q.1, p.2 ++ q.2)
    | _, _ => none := (rfl)
@[simp] theorem prepS_nil (st : Sto) : prepS st [] [] = some [] := (rfl)
@[simp] theorem prepS_val (st : Sto) (ms : List Md) (d : D) (ds : List D) : prepS st (.val :: ms) (d :: ds) = match snap st 20 d, prepS st ms ds with
    | some p, some q => some (p :: q)
    | _, _ => none := (rfl)
@[simp] theorem prepS_mov (st : Sto) (ms : List Md) (d : D) (ds : List D) : prepS st (.mov :: ms) (d :: ds) = (prepS st ms ds).map (d :: ·) := (rfl)
@[simp] theorem prepS_mut (st : Sto) (ms : List Md) (d : D) (ds : List D) : prepS st (.mut :: ms) (d :: ds) = (prepS st ms ds).map (d :: ·) := (rfl)
@[simp] theorem gone_nil (st : Sto) : goneAt [] st = st := (rfl)
@[simp] theorem gone_cons (j : Nat) (js : List Nat) (st : Sto) : goneAt (j :: js) st = goneAt js (st.set j .gone) := (rfl)
@[simp] theorem roots_nil (ds : List D) : rootsOf ds [] = some [] := (rfl)
def rootD : List D → Nat → D
  | d :: _, 0 => d
  | _ :: r, i + 1 => rootD r i
  | [], _ => .non
theorem rootD_eq : ∀ (ds : List D) (i : Nat), ds.getD i .non = rootD ds i
  | [], _ => rfl
  | d :: _, 0 => rfl
  | _ :: r, i + 1 => by rw [rootD, ← rootD_eq r i]; rfl
@[simp] theorem rootD_0 (d : D) (r : List D) : rootD (d :: r) 0 = d := (rfl)
@[simp] theorem rootD_S (d : D) (r : List D) (i : Nat) : rootD (d :: r) (i + 1) = rootD r i := (rfl)
@[simp] theorem rootD_1 (d : D) (r : List D) : rootD (d :: r) 1 = rootD r 0 := (rfl)
@[simp] theorem rootD_2 (d e : D) (r : List D) : rootD (d :: e :: r) 2 = rootD r 0 := (rfl)
@[simp] theorem rootD_3 (d e f : D) (r : List D) : rootD (d :: e :: f :: r) 3 = rootD r 0 := (rfl)
@[simp] theorem roots_cons (ds : List D) (i : Nat) (r : List Nat) : rootsOf ds (i :: r) = match rootD ds i, rootsOf ds r with
    | .cell j, some q => some (j :: q)
    | _, _ => none := by rw [rootsOf, rootD_eq]; all_goals rfl
@[simp] theorem back_nil (st : Sto) : back [] [] st = some st := (rfl)
@[simp] theorem back_cons (i : Nat) (is : List Nat) (t : D) (ts : List D) (st : Sto) : back (i :: is) (t :: ts) st = match impC t st.length with
    | some p => if i < st.length then back is ts ((st ++ p.2).set i p.1) else none
    | none => none := (rfl)
@[simp] theorem impC_lst (ds : List D) (n : Nat) : impC (.lst .own ds) n = if nocL ds then some (.lst ds, []) else some (.lst (impL ds n).1, (impL ds n).2) := (rfl)
@[simp] theorem impC_dk (ks : List Key) (ds : List D) (n : Nat) : impC (.dk .own ks ds) n = if nocL ds then some (.dk ks ds, []) else some (.dk ks (impL ds n).1, (impL ds n).2) := (rfl)
@[simp] theorem impC_obj (c : Nat) (ds : List D) (n : Nat) : impC (.obj .own c ds) n = if nocL ds then some (.obj c ds, []) else some (.obj c (impL ds n).1, (impL ds n).2) := (rfl)
@[simp] theorem imp_lst (ds : List D) (n : Nat) : imp (.lst .own ds) n = if nocL ds then (.cell n, [.lst ds]) else (.cell (n + (impL ds n).2.length), (impL ds n).2 ++ [.lst (impL ds n).1]) := by
  rw [imp]
@[simp] theorem imp_dk (ks : List Key) (ds : List D) (n : Nat) : imp (.dk .own ks ds) n = if nocL ds then (.cell n, [.dk ks ds]) else (.cell (n + (impL ds n).2.length), (impL ds n).2 ++ [.dk ks (impL ds n).1]) := by
  rw [imp]
@[simp] theorem imp_obj (c : Nat) (ds : List D) (n : Nat) : imp (.obj .own c ds) n = if nocL ds then (.cell n, [.obj c ds]) else (.cell (n + (impL ds n).2.length), (impL ds n).2 ++ [.obj c (impL ds n).1]) := by
  rw [imp]
@[simp] theorem imp_tup (ds : List D) (n : Nat) : imp (.tup ds) n = if nocL ds then (.tup ds, []) else (.tup (impL ds n).1, (impL ds n).2) := by
  rw [imp]
@[simp] theorem imp_ok_id (d : D) (n : Nat) (h : d.noc = true) : imp d n = (d, []) := imp_id d n h
@[simp] theorem impL_nil (n : Nat) : impL [] n = ([], []) := (rfl)
@[simp] theorem impL_ok_id (ds : List D) (n : Nat) (h : nocL ds = true) : impL ds n = (ds, []) := impL_id ds n h
@[simp] theorem impL_cons (d : D) (ds : List D) (n : Nat) : impL (d :: ds) n = ((imp d n).1 :: (impL ds (n + (imp d n).2.length)).1, (imp d n).2 ++ (impL ds (n + (imp d n).2.length)).2) := (rfl)
theorem callD_un (mu : List Nat) (sem : List D → RF) (ms : List Md) (ds : List D) (en : En) (st : Sto) : callD mu sem ms ds en st = match prepT st ms ds with
  | some t => if t.2.Nodup ∧ mutPos 0 ms = mu then
      match prepS (goneAt t.2 st) ms t.1, rootsOf ds mu with
      | some es, some roots => callF mu sem es roots en (goneAt t.2 st)
      | _, _ => .bad
    else .bad
  | none => .bad := (rfl)
@[simp] theorem callF_un (mu : List Nat) (sem : List D → RF) (es : List D) (roots : List Nat) (en : En) (st : Sto) : callF mu sem es roots en st = match sem es with
  | .ok r ts => match back roots ts (st ++ (imp r st.length).2) with
    | some st2 => .ok (imp r st.length).1 st2
    | none => .bad
  | .exc c xs ts => match back roots ts st with
    | some st2 => .exc c xs en st2
    | none => .bad
  | .bad => .bad := (rfl)
@[simp] theorem callD_mu (i : Nat) (mu : List Nat) (sem : List D → RF) (ms : List Md) (ds : List D) (en : En) (st : Sto) : callD (i :: mu) sem ms ds en st = match prepT st ms ds with
  | some t => if t.2.Nodup ∧ mutPos 0 ms = i :: mu then
      match prepS (goneAt t.2 st) ms t.1, rootsOf ds (i :: mu) with
      | some es, some roots => callF (i :: mu) sem es roots en (goneAt t.2 st)
      | _, _ => .bad
    else .bad
  | none => .bad := (rfl)
@[simp] theorem callD_val (sem : List D → RF) (ms : List Md) (ds : List D) (en : En) (st : Sto) (h : nocL ds = false) : callD [] sem ms ds en st = match prepT st ms ds with
  | some t => if t.2.Nodup ∧ mutPos 0 ms = [] then
      match prepS (goneAt t.2 st) ms t.1 with
      | some es => callF [] sem es [] en (goneAt t.2 st)
      | _ => .bad
    else .bad
  | none => .bad := by
  rw [callD_un]
  cases prepT st ms ds with
  | none => rfl
  | some t =>
    simp only [roots_nil]
    split
    · cases prepS (goneAt t.2 st) ms t.1 <;> rfl
    · rfl
@[simp] theorem xfun_un (np nl : Nat) (mu : List Nat) (body : XS) (ds : List D) (hl : ds.length = np) : xfun np nl mu body ds = match body ((impL ds 0).1.map some ++ List.replicate nl none) (impL ds 0).2 with
    | .ok (.rt d, _) st => fin mu (impL ds 0).1 d st
    | .ok (.nx, _) st => fin mu (impL ds 0).1 .non st
    | .ok _ _ => .bad
    | .exc c xs _ st => finX mu (impL ds 0).1 c xs st
    | .bad => .bad := by
  unfold xfun
  rw [if_pos hl]
  first | done | rfl
theorem fin_un (mu : List Nat) (ps : List D) (d : D) (st : Sto) : fin mu ps d st = match take D.pl st 20 d, takeL D.pl (take D.pl st 20) (mu.map fun i => ps.getD i .non) with
  | some p, some q => if (p.2 ++ q.2).Nodup then .ok p.1 q.1 else .bad
  | _, _ => .bad := (rfl)
@[simp] theorem fin_mu (i : Nat) (mu : List Nat) (ps : List D) (d : D) (st : Sto) : fin (i :: mu) ps d st = match take D.pl st 20 d, takeL D.pl (take D.pl st 20) ((i :: mu).map fun i => rootD ps i) with
  | some p, some q => if (p.2 ++ q.2).Nodup then .ok p.1 q.1 else .bad
  | _, _ => .bad := by
  rw [fin_un]
  simp only [rootD_eq]
@[simp] theorem finX_mu (i : Nat) (mu : List Nat) (ps : List D) (c : Nat) (xs : List D) (st : Sto) : finX (i :: mu) ps c xs st = match takeL D.pl (take D.pl st 20) ((i :: mu).map fun i => rootD ps i) with
  | some q => if q.2.Nodup && plL xs then .exc c xs q.1 else .bad
  | none => .bad := by
  unfold finX
  simp only [rootD_eq]
  first | done | rfl
theorem fin_0 (ps : List D) (d : D) (st : Sto) : fin [] ps d st = match take D.pl st 20 d with
  | some p => if p.2.Nodup then .ok p.1 [] else .bad
  | none => .bad := by
  rw [fin_un]
  simp only [List.map_nil]
  rw [takeL_y _ _ _ rfl]
  cases take D.pl st 20 d with
  | none => rfl
  | some p => simp
@[simp] theorem finS_un (ps : List D) (d : D) (st : Sto) : finS [] ps d st = match take D.pl st 20 d with
  | some p => if p.2.Nodup then .ok p.1 [] else .bad
  | none => .bad := fin_0 ps d st
@[simp] theorem fin_tup (ps : List D) (ds : List D) (st : Sto) (h : plL ds = false) : fin [] ps (.tup ds) st = finS [] ps (.tup ds) st := (rfl)
theorem ixN_n2 {n k : Nat} (h : k < n) : ixN n (k : Int) = some k := by
  unfold ixN
  simp [h]
@[simp] theorem ixN_nat2 (n k : Nat) (h : k < n) : ixN n (k : Int) = some k := ixN_n2 h
def eqS (a b : Option D) (fb : Option Bool) : Option Bool := match a, b with
  | some a, some b => if a.sh 64 && b.sh 64 then some (a.eqT b) else fb
  | _, _ => fb
@[simp] theorem eqS_some (a b : D) (fb : Option Bool) : eqS (some a) (some b) fb = if a.sh 64 && b.sh 64 then some (a.eqT b) else fb := (rfl)
def eqD0 : Sto → D → D → Option Bool := eqD
def isFlat : D → Bool
  | .int _ => true | .str _ => true | .bl _ => true
  | _ => false
theorem eqD_gen (st : Sto) (x y : D) (h : isFlat x = false) : eqD st x y = eqS (snap st 8 x) (snap st 8 y) (eqD0 st x y) := by
  cases e1 : snap st 8 x with
  | none => rfl
  | some a =>
    cases e2 : snap st 8 y with
    | none => rfl
    | some b =>
      rw [eqS_some]
      split
      · rename_i hs
        simp only [Bool.and_eq_true] at hs
        obtain ⟨p, p1, p2, p3⟩ := sh_py a 64 hs.1
        obtain ⟨q, q1, q2, q3⟩ := sh_py b 64 hs.2
        have h1 : SeqAt.shaped p = true := by simp [SeqAt.shaped, p2, p3]
        have h2 : SeqAt.shaped q = true := by simp [SeqAt.shaped, q2, q3]
        unfold eqD
        split
        · cases h
        · cases h
        · cases h
        · rw [e1, e2]
          simp [p1, q1, h1, h2, eqT_eqv a b p q p1 q1]
      · rfl
@[simp] theorem eqD_cell (st : Sto) (i : Nat) (y : D) : eqD st (.cell i) y = eqS (snap st 8 (.cell i)) (snap st 8 y) (eqD0 st (.cell i) y) := eqD_gen st _ y rfl
@[simp] theorem eqD_lst (st : Sto) (m : Mk) (ds : List D) (y : D) : eqD st (.lst m ds) y = eqS (snap st 8 (.lst m ds)) (snap st 8 y) (eqD0 st (.lst m ds) y) := eqD_gen st _ y rfl
theorem eqD_tup (st : Sto) (ds : List D) (y : D) : eqD st (.tup ds) y = eqS (snap st 8 (.tup ds)) (snap st 8 y) (eqD0 st (.tup ds) y) := eqD_gen st _ y rfl
@[simp] theorem ev_eqC (st : Sto) (i : Nat) (y : D) : oEq (.cell i) y st = oB (eqD st (.cell i) y) st := (rfl)
@[simp] theorem ev_neC (st : Sto) (i : Nat) (y : D) : oNe (.cell i) y st = oB ((eqD st (.cell i) y).map (!·)) st := (rfl)
@[simp] theorem ev_eqL (st : Sto) (m : Mk) (ds : List D) (y : D) : oEq (.lst m ds) y st = oB (eqD st (.lst m ds) y) st := (rfl)
@[simp] theorem ev_neL (st : Sto) (m : Mk) (ds : List D) (y : D) : oNe (.lst m ds) y st = oB ((eqD st (.lst m ds) y).map (!·)) st := (rfl)
@[simp] theorem isNon_non : isNon .non = true := (rfl)
@[simp] theorem isNon_int (i : Int) : isNon (.int i) = false := (rfl)
@[simp] theorem isNon_cell (i : Nat) : isNon (.cell i) = false := (rfl)
@[simp] theorem isNon_tup (ds : List D) : isNon (.tup ds) = false := (rfl)
@[simp] theorem isNon_str (z : Str) : isNon (.str z) = false := (rfl)
@[simp] theorem isNon_bl (z : Bool) : isNon (.bl z) = false := (rfl)
@[simp] theorem ev_is (x : D) (st : Sto) : oIs x .non st = .ok (.bl (isNon x)) st := (rfl)
@[simp] theorem ev_isnot (x : D) (st : Sto) : oIsNot x .non st = .ok (.bl (!isNon x)) st := (rfl)
@[simp] theorem mPopAt_c (i : Nat) (k : Int) (st : Sto) : mPopAt (.cell i) [.int k] st = match st[i]? with
    | some (.lst es) => match ixN es.length k with
      | some j => match es[j]? with
        | some d => if fitL es.length then .ok d (st.set i (.lst (es.eraseIdx j))) else .bad
        | none => .bad
      | none => .bad
    | _ => .bad := (rfl)
theorem nocL_iff : ∀ (l : List D), nocL l = true ↔ ∀ d ∈ l, d.noc = true
  | [] => by simp
  | d :: l => by simp [nocL_iff l]
theorem plL_iff : ∀ (l : List D), plL l = true ↔ ∀ d ∈ l, d.pl = true
  | [] => by simp
  | d :: l => by simp [plL_iff l]
theorem shL_iff (n : Nat) : ∀ (l : List D), shL l n = true ↔ ∀ d ∈ l, d.sh n = true
  | [] => by simp
  | d :: l => by simp [shL_iff n l]
@[simp] theorem nocL_set (l : List D) (i : Nat) (d : D) (h : nocL l = true) (hd : d.noc = true) : nocL (l.set i d) = true := (nocL_iff _).mpr fun x hx => by
  rcases List.mem_or_eq_of_mem_set hx with q | q
  · exact (nocL_iff _).mp h x q
  · subst q; exact hd
@[simp] theorem plL_set (l : List D) (i : Nat) (d : D) (h : plL l = true) (hd : d.pl = true) : plL (l.set i d) = true := (plL_iff _).mpr fun x hx => by
  rcases List.mem_or_eq_of_mem_set hx with q | q
  · exact (plL_iff _).mp h x q
  · subst q; exact hd
@[simp] theorem shL_set (l : List D) (i n : Nat) (d : D) (h : shL l n = true) (hd : d.sh n = true) : shL (l.set i d) n = true := (shL_iff n _).mpr fun x hx => by
  rcases List.mem_or_eq_of_mem_set hx with q | q
  · exact (shL_iff n _).mp h x q
  · subst q; exact hd
@[simp] theorem nocL_erase (l : List D) (i : Nat) (h : nocL l = true) : nocL (l.eraseIdx i) = true := (nocL_iff _).mpr fun x hx => (nocL_iff _).mp h x (List.mem_of_mem_eraseIdx hx)
@[simp] theorem plL_erase (l : List D) (i : Nat) (h : plL l = true) : plL (l.eraseIdx i) = true := (plL_iff _).mpr fun x hx => (plL_iff _).mp h x (List.mem_of_mem_eraseIdx hx)
@[simp] theorem plL_appn (a b : List D) : plL (a ++ b) = (plL a && plL b) := by
  induction a with
  | nil => simp
  | cons d a ih => simp [ih, Bool.and_assoc]
theorem map_eraseIdx' {α β : Type} (f : α → β) : ∀ (l : List α) (i : Nat), (l.map f).eraseIdx i = (l.eraseIdx i).map f
  | [], _ => rfl
  | _ :: _, 0 => rfl
  | a :: l, i + 1 => by simp [map_eraseIdx' f l i]
@[simp] theorem okRg_nat (p : Nat) (h : p ≤ 16777216) : okRg 0 (p : Int) = true := by
  unfold okRg
  have e : ok62 (p : Int) = true := ok62_small _ (by omega) (by omega)
  have e2 : fitL ((p : Int) - 0).toNat = true := ev_fit _ (by omega)
  rw [e, e2]; rfl
@[simp] theorem takeL_nil (ok : D → Bool) (f : D → Option (D × List Nat)) : takeL ok f [] = some ([], []) := (rfl)
@[simp] theorem snapL_nil (f : D → Option D) : snapL f [] = some [] := (rfl)
end Px
namespace Px
open PySem PySem.Spec L2
theorem ofString_inj {a b : String} (h : Str.ofString a = Str.ofString b) : a = b := by
  rw [Str.ofString_eq_toList, Str.ofString_eq_toList] at h
  injection h with h
  have h := congrArg Array.toList h
  simp only at h
  have e : ∀ l m : List Char, l.map Char.toNat = m.map Char.toNat → l = m := by
    intro l
    induction l with
    | nil => intro m h; cases m with
      | nil => rfl
      | cons => cases h
    | cons c l ih => intro m h; cases m with
      | nil => cases h
      | cons d m =>
        injection h with h1 h2
        have : c = d := by
          apply Char.ext
          apply UInt32.toNat_inj.mp
          exact h1
        rw [this, ih m h2]
  exact String.toList_inj.mp (e _ _ h)
@[simp] theorem str_eq (a b : String) : (Str.ofString a = Str.ofString b) = (a = b) := propext ⟨ofString_inj, fun h => h ▸ rfl⟩
@[simp] theorem ev_mInsert (i : Nat) (k : Int) (y : D) (st : Sto) : mInsert (.cell i) [.int k, y] st = match st[i]? with
    | some (.lst es) => if decide (es.length < 16777216) && decide (0 ≤ k) && absLe k 4611686018427387903 then .ok .non (st.set i (.lst (es.take k.toNat ++ [y] ++ es.drop k.toNat))) else .bad
    | _ => .bad := (rfl)
@[simp] theorem nocL_qs (qs : List Nat) : nocL (qs.map fun q : Nat => D.int (q : Int)) = true := nocL_map _ _ fun _ _ => by simp
@[simp] theorem plL_qs (qs : List Nat) : plL (qs.map fun q : Nat => D.int (q : Int)) = true := plL_map _ _ fun _ _ => by simp
@[simp] theorem ev_intB (b : Bool) (st : Sto) : bInt [.bl b] st = .ok (.int (if b then 1 else 0)) st := by cases b <;> rfl
@[simp] theorem ev_mExtend (i : Nat) (d : D) (st : Sto) : mExtend (.cell i) [d] st = match st[i]?, lstOf st d with
    | some (.lst es), some fs => if fitL (es.length + fs.length) then .ok .non (st.set i (.lst (es ++ fs))) else .bad
    | _, _ => .bad := (rfl)
theorem cloop_step {own : List Nat} {k : Nat} {src : List (Nat × List D)} {t : XG} {c : XT} {e : XE} {en : En} {d y : D} {ds acc : List D} {st st' : Sto} (ho : okSrc src st = true) (h : cstp t c e d (wipeE en own) st = .ok (some y) st') (hk : st'[k]? = some (.lst acc)) (hl : acc.length < 16777216) :
    cloop own k src t c e en (d :: ds) st = cloop own k src t c e en ds (st'.set k (.lst (acc ++ [y]))) := by
  conv => lhs; unfold cloop
  rw [if_pos ho]
  unfold cstp at h
  cases e1 : t d (wipeE en own) st with
  | bad => rw [e1] at h; cases h
  | exc => rw [e1] at h; cases h
  | ok en1 st1 =>
    rw [e1] at h
    simp only [bind_ok] at h ⊢
    cases e2 : c en1 st1 with
    | bad => rw [e2] at h; cases h
    | exc => rw [e2] at h; cases h
    | ok b st2 =>
      rw [e2] at h
      simp only [bind_ok] at h ⊢
      cases b with
      | false => rw [if_neg Bool.false_ne_true] at h; cases h
      | true =>
        rw [if_pos rfl] at h ⊢
        cases e3 : e en1 st2 with
        | bad => rw [e3] at h; cases h
        | exc => rw [e3] at h; cases h
        | ok z st3 =>
          rw [e3] at h
          simp only [bind_ok] at h ⊢
          injection h with q1 q2
          injection q1 with q1
          subst q1 q2
          rw [hk]
          simp only
          rw [if_pos (decide_eq_true hl)]
theorem cloop_skip {own : List Nat} {k : Nat} {src : List (Nat × List D)} {t : XG} {c : XT} {e : XE} {en : En} {d : D} {ds : List D} {st st' : Sto} (ho : okSrc src st = true) (h : cstp t c e d (wipeE en own) st = .ok none st') :
    cloop own k src t c e en (d :: ds) st = cloop own k src t c e en ds st' := by
  conv => lhs; unfold cloop
  rw [if_pos ho]
  unfold cstp at h
  cases e1 : t d (wipeE en own) st with
  | bad => rw [e1] at h; cases h
  | exc => rw [e1] at h; cases h
  | ok en1 st1 =>
    rw [e1] at h
    simp only [bind_ok] at h ⊢
    cases e2 : c en1 st1 with
    | bad => rw [e2] at h; cases h
    | exc => rw [e2] at h; cases h
    | ok b st2 =>
      rw [e2] at h
      simp only [bind_ok] at h ⊢
      cases b with
      | true =>
        rw [if_pos rfl] at h
        cases e3 : e en1 st2 with
        | bad => rw [e3] at h; cases h
        | exc => rw [e3] at h; cases h
        | ok z st3 => rw [e3] at h; simp only [bind_ok] at h; cases h
      | false =>
        rw [if_neg Bool.false_ne_true] at h ⊢
        injection h with q1 q2
        subst q2
        rfl
theorem floop_nx {src : List (Nat × List D)} {t : XG} {b : XS} {d : D} {ds : List D} {en en' : En} {st st' : Sto} (ho : okSrc src st = true) (h : stp t b d en st = .ok (.nx, en') st') : floop src t b (d :: ds) en st = floop src t b ds en' st' := by rw [floop_cons, if_pos ho, h]
theorem floop_rt {src : List (Nat × List D)} {t : XG} {b : XS} {d r : D} {ds : List D} {en en' : En} {st st' : Sto} (ho : okSrc src st = true) (h : stp t b d en st = .ok (.rt r, en') st') : floop src t b (d :: ds) en st = .ok (.rt r, en') st' := by rw [floop_cons, if_pos ho, h]
end Px
namespace Px
open PySem PySem.Spec L2
def relab (S T : Scope) : Scope := { S with names := S.names.map fun (n, k) => if (k == .free && T.kind == .function && T.names.lookup n == some .cell) then (n, .cell) else (n, k) }
theorem relab_eq (S : Scope) (env : Env) : relabel S env = relab S env.scope := rfl
section
variable {G : GS} {W : WX} {X : Cx}
def deepIn (st : Sto) (x y : D) : Option Bool := match y with
  | .tup ds => match (snap st 8 x).bind pyD, (snap st 8 (.tup ds)).bind pyD with
    | some p, some (.tuple qs) => if SeqAt.shaped p && SeqAt.shaped (.tuple qs) then some (qs.any fun z => PyData.eqv z p) else none
    | _, _ => none
  | y => match (snap st 8 x).bind pyD, (snap st 8 y).bind pyD with
    | some p, some (.list qs) => if SeqAt.shaped p && SeqAt.shaped (.list qs) then some (qs.any fun z => PyData.eqv z p) else none
    | _, _ => none
def oInT : Op2 := fun x y st => oB (deepIn st x y) st
def oNotInT : Op2 := fun x y st => oB ((deepIn st x y).map (!·)) st
def rInDT (K : PySem.W.Frag) : R2 := fun x y H Q => ∃ d ds, Dp K H x d ∧ Dp K H y (.tuple ds) ∧ SeqAt.shaped d = true ∧ SeqAt.shaped (.tuple ds) = true ∧ Q (.bl (ds.any fun z => PyData.eqv z d)) H
def rNotInDT (K : PySem.W.Frag) : R2 := fun x y H Q => ∃ d ds, Dp K H x d ∧ Dp K H y (.tuple ds) ∧ SeqAt.shaped d = true ∧ SeqAt.shaped (.tuple ds) = true ∧ Q (.bl (!ds.any fun z => PyData.eqv z d)) H
theorem op_inDT (hu : X.A.units + 65 < cLine) : OpR X (compareOp .In) (rInDT X.K) := by
  intro pins s σ H x y v u Q I rx ry h
  obtain ⟨d, ds, hd, he, sd, se, q⟩ := h
  obtain ⟨as, r1⟩ := Dp.reads I d x v hd rx
  obtain ⟨bs, r2⟩ := Dp.reads I (.tuple ds) y u he ry
  exact SeqAt.in_tuple_reads r2 r1 (SeqAt.canLay_of_shaped se) (SeqAt.canLay_of_shaped sd) (PyProof.Rows.room_in_shaped sd hu) ⟨.bl _, H, I, rfl, q⟩
theorem op_notInDT (hu : X.A.units + 65 < cLine) : OpR X (compareOp .NotIn) (rNotInDT X.K) := by
  intro pins s σ H x y v u Q I rx ry h
  obtain ⟨d, ds, hd, he, sd, se, q⟩ := h
  obtain ⟨as, r1⟩ := Dp.reads I d x v hd rx
  obtain ⟨bs, r2⟩ := Dp.reads I (.tuple ds) y u he ry
  exact SeqAt.notIn_tuple_reads r2 r1 (SeqAt.canLay_of_shaped se) (SeqAt.canLay_of_shaped sd) (PyProof.Rows.room_in_shaped sd hu) ⟨.bl _, H, I, rfl, q⟩
theorem deepIn_ok {g : Gh} {en : En} {st : Sto} {σ : L2.St} {H : Hp} {x y : D} {v u : V} {b : Bool} (R : Rel G g en st σ H) (rx : Rep G g x v) (ry : Rep G g y u) (h : deepIn st x y = some b) :
    (∃ p qs, Dp G.K H v p ∧ Dp G.K H u (.tuple qs) ∧ SeqAt.shaped p = true ∧ SeqAt.shaped (.tuple qs) = true ∧ b = qs.any fun z => PyData.eqv z p) ∨
    (∃ p qs, Dp G.K H v p ∧ Dp G.K H u (.list qs) ∧ SeqAt.shaped p = true ∧ SeqAt.shaped (.list qs) = true ∧ b = qs.any fun z => PyData.eqv z p) := by
  have go : ∀ {z : D} {w : V} {p : PyData}, Rep G g z w → (snap st 8 z).bind pyD = some p → Dp G.K H w p := by
    intro z w p r e
    obtain ⟨a, e1, e2⟩ := Option.bind_eq_some_iff.mp e
    exact pyD_ok R.sF a w p (snap_ok R _ _ _ _ e1 r).1 e2
  unfold deepIn at h
  split at h
  · split at h
    · rename_i p qs h1 h2
      split at h
      · rename_i z
        simp only [Bool.and_eq_true] at z
        cases h
        exact .inl ⟨p, qs, go rx h1, go ry h2, z.1, z.2, rfl⟩
      · cases h
    · cases h
  · split at h
    · rename_i p qs h1 h2
      split at h
      · rename_i z
        simp only [Bool.and_eq_true] at z
        cases h
        exact .inr ⟨p, qs, go rx h1, go ry h2, z.1, z.2, rfl⟩
      · cases h
    · cases h
theorem hu65 {k : Nat} {A : Around} (r : Room k A) : A.units + 65 < cLine := by have := r.un; omega
theorem ho_inT (hK : X.K = G.K) (hu : X.A.units + 65 < cLine) : OpR X (compareOp .In) (rD G W oInT) := by
  refine OpR_imp (OpR.or (op_inDT hu) (op_inD hu)) fun v u H Q ⟨g, en, st, σ, x, y, R, rx, ry, h⟩ => ?_
  unfold oInT oB at h
  cases e : deepIn st x y with
  | none => rw [e] at h; exact h.elim
  | some b =>
    rw [e] at h
    have q := h g H (Le.refl g) R _ rfl
    rcases deepIn_ok R rx ry e with ⟨p, qs, h1, h2, h3, h4, rfl⟩ | ⟨p, qs, h1, h2, h3, h4, rfl⟩
    · exact .inl ⟨p, qs, by rw [hK]; exact h1, by rw [hK]; exact h2, h3, h4, q⟩
    · exact .inr ⟨p, qs, by rw [hK]; exact h1, by rw [hK]; exact h2, h3, h4, q⟩
theorem ho_notinT (hK : X.K = G.K) (hu : X.A.units + 65 < cLine) : OpR X (compareOp .NotIn) (rD G W oNotInT) := by
  refine OpR_imp (OpR.or (op_notInDT hu) (op_notInD hu)) fun v u H Q ⟨g, en, st, σ, x, y, R, rx, ry, h⟩ => ?_
  unfold oNotInT oB at h
  cases e : deepIn st x y with
  | none => rw [e] at h; exact h.elim
  | some b =>
    rw [e] at h
    have q := h g H (Le.refl g) R _ rfl
    rcases deepIn_ok R rx ry e with ⟨p, qs, h1, h2, h3, h4, rfl⟩ | ⟨p, qs, h1, h2, h3, h4, rfl⟩
    · exact .inl ⟨p, qs, by rw [hK]; exact h1, by rw [hK]; exact h2, h3, h4, q⟩
    · exact .inr ⟨p, qs, by rw [hK]; exact h1, by rw [hK]; exact h2, h3, h4, q⟩
def anyT (x : D) : List D → Bool
  | [] => false
  | d :: ds => D.eqT d x || anyT x ds
theorem any_eqv {x : D} {p : PyData} (hx : pyD x = some p) : ∀ (ds : List D) (qs : List PyData), pyL ds = some qs → (qs.any fun z => PyData.eqv z p) = anyT x ds
  | [], qs, h => by cases h; rfl
  | d :: ds, qs, h => by
    simp only [pyL] at h
    split at h
    · rename_i a b e1 e2
      cases h
      simp [anyT, eqT_eqv d x a p e1 hx, any_eqv hx ds b e2]
    · cases h
theorem ev_deepT {st : Sto} {x : D} {ds : List D} (hx : x.noc = true) (hy : nocL ds = true) (sx : x.sh 64 = true) (sy : shL ds 63 = true) : deepIn st x (.tup ds) = some (anyT x ds) := by
  obtain ⟨p, e1, c1, l1⟩ := sh_py x 64 sx
  obtain ⟨qs, e2, c2, l2⟩ := shL_py ds 63 sy
  have h1 : SeqAt.shaped p = true := by simp [SeqAt.shaped, c1, l1]
  have h2 : SeqAt.shaped (.tuple qs) = true := by simp [SeqAt.shaped, PyData.canLay0, PyData.depth, c2]; omega
  unfold deepIn
  simp only [snap_id hx, snap_id (show D.noc (.tup ds) = true by simpa [D.noc] using hy), Option.bind_some, e1, pyD, e2, Option.map_some, h1, h2, Bool.and_self, if_true, any_eqv e1 ds qs e2]
theorem ev_deepL {st : Sto} {x : D} {m : Mk} {ds : List D} (hm : m ≠ .own) (hx : x.noc = true) (hy : nocL ds = true) (sx : x.sh 64 = true) (sy : shL ds 63 = true) : deepIn st x (.lst m ds) = some (anyT x ds) := by
  obtain ⟨p, e1, c1, l1⟩ := sh_py x 64 sx
  obtain ⟨qs, e2, c2, l2⟩ := shL_py ds 63 sy
  have h1 : SeqAt.shaped p = true := by simp [SeqAt.shaped, c1, l1]
  have h2 : SeqAt.shaped (.list qs) = true := by simp [SeqAt.shaped, PyData.canLay0, PyData.depth, c2]; omega
  have hn : D.noc (.lst m ds) = true := by simp [D.noc, hm, hy]
  unfold deepIn
  simp only [snap_id hx, snap_id hn, Option.bind_some, e1, pyD, e2, Option.map_some, h1, h2, Bool.and_self, if_true, any_eqv e1 ds qs e2, hm, if_false]
theorem ev_deepC {st : Sto} {x : D} {i : Nat} {ds : List D} (hi : st[i]? = some (.lst ds)) (hx : x.noc = true) (hy : nocL ds = true) (sx : x.sh 64 = true) (sy : shL ds 63 = true) : deepIn st x (.cell i) = some (anyT x ds) := by
  obtain ⟨p, e1, c1, l1⟩ := sh_py x 64 sx
  obtain ⟨qs, e2, c2, l2⟩ := shL_py ds 63 sy
  have h1 : SeqAt.shaped p = true := by simp [SeqAt.shaped, c1, l1]
  have h2 : SeqAt.shaped (.list qs) = true := by simp [SeqAt.shaped, PyData.canLay0, PyData.depth, c2]; omega
  have es : snap st 8 (.cell i) = some (.lst .loan ds) := by simp [hi, hy]
  unfold deepIn
  have hm : ¬ Mk.loan = Mk.own := by decide
  simp only [snap_id hx, es, Option.bind_some, e1, pyD, e2, Option.map_some, h1, h2, Bool.and_self, if_true, any_eqv e1 ds qs e2, hm, if_false]
@[simp] theorem ev_inTt (x : D) (ds : List D) (st : Sto) (hx : x.noc = true) (hy : nocL ds = true) (sx : x.sh 64 = true) (sy : shL ds 63 = true) : oInT x (.tup ds) st = .ok (.bl (anyT x ds)) st := by unfold oInT; rw [ev_deepT hx hy sx sy]; rfl
@[simp] theorem ev_ninTt (x : D) (ds : List D) (st : Sto) (hx : x.noc = true) (hy : nocL ds = true) (sx : x.sh 64 = true) (sy : shL ds 63 = true) : oNotInT x (.tup ds) st = .ok (.bl !(anyT x ds)) st := by unfold oNotInT; rw [ev_deepT hx hy sx sy]; rfl
@[simp] theorem ev_inTl (x : D) (m : Mk) (ds : List D) (st : Sto) (hm : m ≠ .own) (hx : x.noc = true) (hy : nocL ds = true) (sx : x.sh 64 = true) (sy : shL ds 63 = true) : oInT x (.lst m ds) st = .ok (.bl (anyT x ds)) st := by unfold oInT; rw [ev_deepL hm hx hy sx sy]; rfl
@[simp] theorem ev_ninTl (x : D) (m : Mk) (ds : List D) (st : Sto) (hm : m ≠ .own) (hx : x.noc = true) (hy : nocL ds = true) (sx : x.sh 64 = true) (sy : shL ds 63 = true) : oNotInT x (.lst m ds) st = .ok (.bl !(anyT x ds)) st := by unfold oNotInT; rw [ev_deepL hm hx hy sx sy]; rfl
theorem ev_inTc (x : D) (i : Nat) (ds : List D) (st : Sto) (hi : st[i]? = some (.lst ds)) (hx : x.noc = true) (hy : nocL ds = true) (sx : x.sh 64 = true) (sy : shL ds 63 = true) : oInT x (.cell i) st = .ok (.bl (anyT x ds)) st := by unfold oInT; rw [ev_deepC hi hx hy sx sy]; rfl
theorem ev_ninTc (x : D) (i : Nat) (ds : List D) (st : Sto) (hi : st[i]? = some (.lst ds)) (hx : x.noc = true) (hy : nocL ds = true) (sx : x.sh 64 = true) (sy : shL ds 63 = true) : oNotInT x (.cell i) st = .ok (.bl !(anyT x ds)) st := by unfold oNotInT; rw [ev_deepC hi hx hy sx sy]; rfl
@[simp] theorem anyT_nil (x : D) : anyT x [] = false := (rfl)
@[simp] theorem anyT_cons (x d : D) (ds : List D) : anyT x (d :: ds) = (D.eqT d x || anyT x ds) := (rfl)
end
end Px
namespace Px
open PySem PySem.Spec L2
mutual
def D.wf : D → Bool
  | .tup ds => wfL ds
  | .lst .own ds => wfL ds
  | .dk .own _ ds => wfL ds
  | .dt .own _ ds => wfL ds
  | .obj .own _ ds => wfL ds
  | d => d.noc
def wfL : List D → Bool
  | [] => true
  | d :: ds => d.wf && wfL ds
end
mutual
def D.dp : D → Nat
  | .tup ds => dpL ds + 1
  | .lst _ ds => dpL ds + 1
  | .dk _ _ ds => dpL ds + 1
  | .dt _ _ ds => dpL ds + 1
  | .obj _ _ ds => dpL ds + 1
  | _ => 0
def dpL : List D → Nat
  | [] => 0
  | d :: ds => max d.dp (dpL ds)
end
mutual
def D.lend : D → D
  | .tup ds => .tup (lendL ds)
  | .lst .own ds => .lst .loan (lendL ds)
  | .dk .own ks ds => .dk .loan ks (lendL ds)
  | .dt .own ks ds => .dt .loan ks (lendL ds)
  | .obj .own c ds => .obj .loan c (lendL ds)
  | d => d
def lendL : List D → List D
  | [] => []
  | d :: ds => d.lend :: lendL ds
end
mutual
theorem lend_noc : ∀ (d : D), d.noc = true → d.lend = d
  | .non, _ => by simp [D.lend]
  | .bl _, _ => by simp [D.lend]
  | .int _, _ => by simp [D.lend]
  | .str _, _ => by simp [D.lend]
  | .cell _, _ => by simp [D.lend]
  | .tup ds, h => by rw [D.lend, lendL_noc ds (by simpa using h)]
  | .lst m ds, h => by cases m <;> simp [D.noc] at h <;> simp [D.lend]
  | .dk m ks ds, h => by cases m <;> simp [D.noc] at h <;> simp [D.lend]
  | .dt m ks ds, h => by cases m <;> simp [D.noc] at h <;> simp [D.lend]
  | .obj m c ds, h => by cases m <;> simp [D.noc] at h <;> simp [D.lend]
theorem lendL_noc : ∀ (ds : List D), nocL ds = true → lendL ds = ds
  | [], _ => rfl
  | d :: ds, h => by
    simp only [nocL, Bool.and_eq_true] at h
    rw [lendL, lend_noc d h.1, lendL_noc ds h.2]
end
theorem take_congr {ok : D → Bool} {st st' : Sto} : ∀ (n : Nat) (d t : D) (js : List Nat), take ok st n d = some (t, js) → (∀ j ∈ js, st'[j]? = st[j]?) → take ok st' n d = some (t, js) := by
  have hm : ∀ (n : Nat), (∀ (d t : D) (js : List Nat), take ok st n d = some (t, js) → (∀ j ∈ js, st'[j]? = st[j]?) → take ok st' n d = some (t, js)) →
      ∀ (ds ts : List D) (js : List Nat), takeL ok (take ok st n) ds = some (ts, js) → (∀ j ∈ js, st'[j]? = st[j]?) → takeL ok (take ok st' n) ds = some (ts, js) := by
    intro n ih ds ts js h hj
    unfold takeL at h ⊢
    split at h
    · rename_i c; rw [if_pos c]; exact h
    · rename_i c
      rw [if_neg c]
      clear c
      induction ds generalizing ts js with
      | nil => exact h
      | cons d ds ih2 =>
        simp only [mapO] at h ⊢
        cases e1 : take ok st n d with
        | none => rw [e1] at h; cases h
        | some p =>
          cases e2 : mapO (take ok st n) ds with
          | none => rw [e1, e2] at h; cases h
          | some q =>
            rw [e1, e2] at h
            simp only [Option.some.injEq, Prod.mk.injEq] at h
            obtain ⟨h1, h2⟩ := h
            subst h1 h2
            rw [ih d p.1 p.2 e1 (fun j hj' => hj j (List.mem_append_left _ hj')), ih2 q.1 q.2 (fun j hj' => hj j (List.mem_append_right _ hj')) e2]
  intro n
  induction n with
  | zero => intro d t js h hj; exact h
  | succ n ih =>
    intro d t js h hj
    unfold take at h ⊢
    split at h
    · rename_i c; rw [if_pos c]; exact h
    · rename_i c
      rw [if_neg c]
      cases d with
      | tup ds =>
        simp only [Option.map_eq_some_iff] at h ⊢
        obtain ⟨p, h1, h2⟩ := h
        obtain ⟨h2, h3⟩ := Prod.mk.inj h2
        subst h2 h3
        exact ⟨p, hm n ih _ p.1 p.2 h1 hj, rfl⟩
      | cell i =>
        have hi : i ∈ js → st'[i]? = st[i]? := fun z => hj i z
        have key : ∀ (mk : List D → D) (ds : List D), (takeL ok (take ok st n) ds).map (fun p => (mk p.1, p.2 ++ [i])) = some (t, js) → st'[i]? = st[i]? ∧ (takeL ok (take ok st' n) ds).map (fun p => (mk p.1, p.2 ++ [i])) = some (t, js) := by
          intro mk ds h
          simp only [Option.map_eq_some_iff] at h ⊢
          obtain ⟨p, h1, h2⟩ := h
          obtain ⟨h2, h3⟩ := Prod.mk.inj h2
          subst h2 h3
          exact ⟨hj i (by simp), p, hm n ih _ p.1 p.2 h1 (fun j z => hj j (List.mem_append_left _ z)), rfl⟩
        simp only at h ⊢
        split at h
        · rename_i ds e; obtain ⟨k1, k2⟩ := key (.lst .own) ds h; rw [k1, e]; exact k2
        · rename_i ks ds e; obtain ⟨k1, k2⟩ := key (.dk .own ks) ds h; rw [k1, e]; exact k2
        · rename_i ks ds e; obtain ⟨k1, k2⟩ := key (.dt .own ks) ds h; rw [k1, e]; exact k2
        · rename_i ks ds e; obtain ⟨k1, k2⟩ := key (.obj .own ks) ds h; rw [k1, e]; exact k2
        · cases h
      | _ => cases h
mutual
theorem imp_noc : ∀ (d : D) (n : Nat), d.wf = true → d.noc = false → (imp d n).1.noc = false
  | .tup ds, n, hw, hn => by
    have hn' : nocL ds = false := by simpa [D.noc] using hn
    rw [imp_tup, if_neg (by rw [hn']; exact Bool.false_ne_true)]
    show D.noc (.tup _) = false
    simp only [D.noc]
    exact impL_noc ds n (by simpa [D.wf] using hw) hn'
  | .lst m ds, n, hw, hn => by
    cases m with
    | own => rw [imp_lst]; split <;> simp [D.noc]
    | _ => simp only [D.wf] at hw; rw [hn] at hw; cases hw
  | .dk m ks ds, n, hw, hn => by
    cases m with
    | own => rw [imp_dk]; split <;> simp [D.noc]
    | _ => simp only [D.wf] at hw; rw [hn] at hw; cases hw
  | .dt m ks ds, n, hw, hn => by
    cases m with
    | own => unfold imp; split <;> simp [D.noc]
    | _ => simp only [D.wf] at hw; rw [hn] at hw; cases hw
  | .obj m c ds, n, hw, hn => by
    cases m with
    | own => rw [imp_obj]; split <;> simp [D.noc]
    | _ => simp only [D.wf] at hw; rw [hn] at hw; cases hw
  | .non, _, _, hn => by simp [D.noc] at hn
  | .bl _, _, _, hn => by simp [D.noc] at hn
  | .int _, _, _, hn => by simp [D.noc] at hn
  | .str _, _, _, hn => by simp [D.noc] at hn
  | .cell _, _, hw, _ => by simp [D.wf, D.noc] at hw
theorem impL_noc : ∀ (ds : List D) (n : Nat), wfL ds = true → nocL ds = false → nocL (impL ds n).1 = false
  | [], _, _, hn => by simp [nocL] at hn
  | d :: ds, n, hw, hn => by
    simp only [wfL, Bool.and_eq_true] at hw
    rw [impL_cons]
    simp only [nocL, Bool.and_eq_false_iff] at hn ⊢
    rcases hn with h | h
    · exact .inl (imp_noc d n hw.1 h)
    · exact .inr (impL_noc ds _ hw.2 h)
end
def LaidAt (st : Sto) (n : Nat) (cs : List Cell) : Prop := ∀ i (h : i < cs.length), st[n + i]? = some cs[i]
theorem LaidAt.left {st : Sto} {n : Nat} {a b : List Cell} (h : LaidAt st n (a ++ b)) : LaidAt st n a := fun i hi => by
  have := h i (by rw [List.length_append]; omega)
  rw [List.getElem_append_left hi] at this; exact this
theorem LaidAt.right {st : Sto} {n : Nat} {a b : List Cell} (h : LaidAt st n (a ++ b)) : LaidAt st (n + a.length) b := fun i hi => by
  have := h (a.length + i) (by rw [List.length_append]; omega)
  rw [List.getElem_append_right (by omega)] at this
  rw [Nat.add_assoc, this]; congr 2; omega
theorem LaidAt.app (st : Sto) (cs : List Cell) (r : Sto) : LaidAt (st ++ cs ++ r) st.length cs := fun i hi => by
  rw [List.getElem?_append_left (by rw [List.length_append]; omega), List.getElem?_append_right (by omega)]
  rw [List.getElem?_eq_getElem (by omega)]; congr 2; omega
mutual
theorem take_imp (st : Sto) : ∀ (d : D) (n fuel : Nat), d.wf = true → d.dp ≤ fuel → LaidAt st n (imp d n).2 → ∃ js, take D.noc st fuel (imp d n).1 = some (d, js) ∧ js.Nodup ∧ ∀ j ∈ js, n ≤ j ∧ j < n + (imp d n).2.length
  | .tup ds, n, fuel, hw, hd, hl => by
    by_cases hn : nocL ds = true
    · rw [imp_ok_id _ _ (by simpa [D.noc] using hn)]
      exact ⟨[], take_id (by simpa [D.noc] using hn), List.nodup_nil, by simp⟩
    · have hn' : nocL ds = false := by simpa using hn
      have hw' : wfL ds = true := by simpa [D.wf] using hw
      rw [imp_tup, if_neg hn] at hl ⊢
      cases fuel with
      | zero => simp [D.dp] at hd
      | succ f =>
        obtain ⟨js, h1, h2, h3⟩ := takeL_imp st ds n f hw' (by simp only [D.dp] at hd; omega) hl
        refine ⟨js, ?_, h2, h3⟩
        have hx := impL_noc ds n hw' hn'
        rw [take_tupS _ _ _ _ (by simpa [D.noc] using hx), takeL_n _ _ _ (by rw [all_noc]; exact hx), h1]; rfl
  | .lst m ds, n, fuel, hw, hd, hl => by
    cases m with
    | own =>
      have hw' : wfL ds = true := by simpa [D.wf] using hw
      cases fuel with
      | zero => simp [D.dp] at hd
      | succ f =>
        rw [imp_lst] at hl ⊢
        by_cases hn : nocL ds = true
        · rw [if_pos hn] at hl ⊢
          have h0 := hl 0 (by simp)
          exact ⟨[n], by rw [take_cellS _ _ _ _ (by simp [D.noc])]; simp at h0; simp [-getElem?_pos, h0, hn], by simp, by simp⟩
        · have hn' : nocL ds = false := by simpa using hn
          rw [if_neg hn] at hl ⊢
          obtain ⟨js, h1, h2, h3⟩ := takeL_imp st ds n f hw' (by simp only [D.dp] at hd; omega) hl.left
          have h0 := hl.right 0 (by simp)
          have hx := impL_noc ds n hw' hn'
          simp at h0
          refine ⟨js ++ [n + (impL ds n).2.length], ?_, ?_, ?_⟩
          · rw [take_cellS _ _ _ _ (by simp [D.noc])]
            simp only [h0]
            rw [takeL_n _ _ _ (by rw [all_noc]; exact hx), h1]; rfl
          · rw [List.nodup_append]
            exact ⟨h2, by simp, fun a ha b hb e => by have := (h3 a ha).2; simp at hb; omega⟩
          · intro j hj
            rw [List.length_append, List.length_singleton]
            rcases List.mem_append.mp hj with z | z
            · have := h3 j z; omega
            · simp at z; omega
    | _ => exact ⟨[], by rw [imp_ok_id _ _ hw]; exact take_id hw, List.nodup_nil, by simp⟩
  | .dk m ks ds, n, fuel, hw, hd, hl => by
    cases m with
    | own =>
      have hw' : wfL ds = true := by simpa [D.wf] using hw
      cases fuel with
      | zero => simp [D.dp] at hd
      | succ f =>
        rw [imp_dk] at hl ⊢
        by_cases hn : nocL ds = true
        · rw [if_pos hn] at hl ⊢
          have h0 := hl 0 (by simp)
          exact ⟨[n], by rw [take_cellS _ _ _ _ (by simp [D.noc])]; simp at h0; simp [-getElem?_pos, h0, hn], by simp, by simp⟩
        · have hn' : nocL ds = false := by simpa using hn
          rw [if_neg hn] at hl ⊢
          obtain ⟨js, h1, h2, h3⟩ := takeL_imp st ds n f hw' (by simp only [D.dp] at hd; omega) hl.left
          have h0 := hl.right 0 (by simp)
          have hx := impL_noc ds n hw' hn'
          simp at h0
          refine ⟨js ++ [n + (impL ds n).2.length], ?_, ?_, ?_⟩
          · rw [take_cellS _ _ _ _ (by simp [D.noc])]
            simp only [h0]
            rw [takeL_n _ _ _ (by rw [all_noc]; exact hx), h1]; rfl
          · rw [List.nodup_append]
            exact ⟨h2, by simp, fun a ha b hb e => by have := (h3 a ha).2; simp at hb; omega⟩
          · intro j hj
            rw [List.length_append, List.length_singleton]
            rcases List.mem_append.mp hj with z | z
            · have := h3 j z; omega
            · simp at z; omega
    | _ => exact ⟨[], by rw [imp_ok_id _ _ hw]; exact take_id hw, List.nodup_nil, by simp⟩
  | .dt m ks ds, n, fuel, hw, hd, hl => by
    cases m with
    | own =>
      have hw' : wfL ds = true := by simpa [D.wf] using hw
      have e : imp (.dt .own ks ds) n = if nocL ds then (.cell n, [.dt ks ds]) else (.cell (n + (impL ds n).2.length), (impL ds n).2 ++ [.dt ks (impL ds n).1]) := by unfold imp; split <;> rfl
      cases fuel with
      | zero => simp [D.dp] at hd
      | succ f =>
        rw [e] at hl ⊢
        by_cases hn : nocL ds = true
        · rw [if_pos hn] at hl ⊢
          have h0 := hl 0 (by simp)
          exact ⟨[n], by rw [take_cellS _ _ _ _ (by simp [D.noc])]; simp at h0; simp [-getElem?_pos, h0, hn], by simp, by simp⟩
        · have hn' : nocL ds = false := by simpa using hn
          rw [if_neg hn] at hl ⊢
          obtain ⟨js, h1, h2, h3⟩ := takeL_imp st ds n f hw' (by simp only [D.dp] at hd; omega) hl.left
          have h0 := hl.right 0 (by simp)
          have hx := impL_noc ds n hw' hn'
          simp at h0
          refine ⟨js ++ [n + (impL ds n).2.length], ?_, ?_, ?_⟩
          · rw [take_cellS _ _ _ _ (by simp [D.noc])]
            simp only [h0]
            rw [takeL_n _ _ _ (by rw [all_noc]; exact hx), h1]; rfl
          · rw [List.nodup_append]
            exact ⟨h2, by simp, fun a ha b hb e => by have := (h3 a ha).2; simp at hb; omega⟩
          · intro j hj
            rw [List.length_append, List.length_singleton]
            rcases List.mem_append.mp hj with z | z
            · have := h3 j z; omega
            · simp at z; omega
    | _ => exact ⟨[], by rw [imp_ok_id _ _ hw]; exact take_id hw, List.nodup_nil, by simp⟩
  | .obj m ks ds, n, fuel, hw, hd, hl => by
    cases m with
    | own =>
      have hw' : wfL ds = true := by simpa [D.wf] using hw
      cases fuel with
      | zero => simp [D.dp] at hd
      | succ f =>
        rw [imp_obj] at hl ⊢
        by_cases hn : nocL ds = true
        · rw [if_pos hn] at hl ⊢
          have h0 := hl 0 (by simp)
          exact ⟨[n], by rw [take_cellS _ _ _ _ (by simp [D.noc])]; simp at h0; simp [-getElem?_pos, h0, hn], by simp, by simp⟩
        · have hn' : nocL ds = false := by simpa using hn
          rw [if_neg hn] at hl ⊢
          obtain ⟨js, h1, h2, h3⟩ := takeL_imp st ds n f hw' (by simp only [D.dp] at hd; omega) hl.left
          have h0 := hl.right 0 (by simp)
          have hx := impL_noc ds n hw' hn'
          simp at h0
          refine ⟨js ++ [n + (impL ds n).2.length], ?_, ?_, ?_⟩
          · rw [take_cellS _ _ _ _ (by simp [D.noc])]
            simp only [h0]
            rw [takeL_n _ _ _ (by rw [all_noc]; exact hx), h1]; rfl
          · rw [List.nodup_append]
            exact ⟨h2, by simp, fun a ha b hb e => by have := (h3 a ha).2; simp at hb; omega⟩
          · intro j hj
            rw [List.length_append, List.length_singleton]
            rcases List.mem_append.mp hj with z | z
            · have := h3 j z; omega
            · simp at z; omega
    | _ => exact ⟨[], by rw [imp_ok_id _ _ hw]; exact take_id hw, List.nodup_nil, by simp⟩
  | .non, n, _, _, _, _ => ⟨[], by rw [imp_ok_id _ _ (by simp [D.noc])]; exact take_id (by simp [D.noc]), List.nodup_nil, by simp⟩
  | .bl _, n, _, _, _, _ => ⟨[], by rw [imp_ok_id _ _ (by simp [D.noc])]; exact take_id (by simp [D.noc]), List.nodup_nil, by simp⟩
  | .int _, n, _, _, _, _ => ⟨[], by rw [imp_ok_id _ _ (by simp [D.noc])]; exact take_id (by simp [D.noc]), List.nodup_nil, by simp⟩
  | .str _, n, _, _, _, _ => ⟨[], by rw [imp_ok_id _ _ (by simp [D.noc])]; exact take_id (by simp [D.noc]), List.nodup_nil, by simp⟩
  | .cell _, _, _, hw, _, _ => by simp [D.wf, D.noc] at hw
theorem takeL_imp (st : Sto) : ∀ (ds : List D) (n fuel : Nat), wfL ds = true → dpL ds ≤ fuel → LaidAt st n (impL ds n).2 → ∃ js, mapO (take D.noc st fuel) (impL ds n).1 = some (ds, js) ∧ js.Nodup ∧ ∀ j ∈ js, n ≤ j ∧ j < n + (impL ds n).2.length
  | [], n, _, _, _, _ => ⟨[], rfl, List.nodup_nil, by simp⟩
  | d :: ds, n, fuel, hw, hd, hl => by
    simp only [wfL, Bool.and_eq_true] at hw
    simp only [dpL] at hd
    rw [impL_cons] at hl ⊢
    obtain ⟨js, h1, h2, h3⟩ := take_imp st d n fuel hw.1 (by omega) hl.left
    obtain ⟨ks, g1, g2, g3⟩ := takeL_imp st ds (n + (imp d n).2.length) fuel hw.2 (by omega) hl.right
    refine ⟨js ++ ks, by rw [mapO_cons, h1, g1], ?_, ?_⟩
    · rw [List.nodup_append]
      exact ⟨h2, g2, fun a ha b hb e => by have := (h3 a ha).2; have := (g3 b hb).1; omega⟩
    · intro j hj
      simp only [List.length_append]
      rcases List.mem_append.mp hj with z | z
      · have := h3 j z; omega
      · have := g3 j z; omega
end
theorem take_mono {ok : D → Bool} {st : Sto} : ∀ (n : Nat) (d t : D) (js : List Nat), take ok st n d = some (t, js) → take ok st (n + 1) d = some (t, js) := by
  have hm : ∀ (n : Nat), (∀ (d t : D) (js : List Nat), take ok st n d = some (t, js) → take ok st (n + 1) d = some (t, js)) →
      ∀ (ds ts : List D) (js : List Nat), takeL ok (take ok st n) ds = some (ts, js) → takeL ok (take ok st (n + 1)) ds = some (ts, js) := by
    intro n ih ds ts js h
    unfold takeL at h ⊢
    split at h
    · rename_i c; rw [if_pos c]; exact h
    · rename_i c
      rw [if_neg c]
      clear c
      induction ds generalizing ts js with
      | nil => exact h
      | cons d ds ih2 =>
        simp only [mapO] at h ⊢
        cases e1 : take ok st n d with
        | none => rw [e1] at h; cases h
        | some p =>
          cases e2 : mapO (take ok st n) ds with
          | none => rw [e1, e2] at h; cases h
          | some q =>
            rw [e1, e2] at h
            simp only [Option.some.injEq, Prod.mk.injEq] at h
            obtain ⟨h1, h2⟩ := h
            subst h1 h2
            rw [ih d p.1 p.2 e1, ih2 q.1 q.2 e2]
  intro n
  induction n with
  | zero =>
    intro d t js h
    unfold take at h
    split at h
    · rename_i c; cases h; exact take_id c
    · cases h
  | succ n ih =>
    intro d t js h
    unfold take at h ⊢
    split at h
    · rename_i c; rw [if_pos c]; exact h
    · rename_i c
      rw [if_neg c]
      cases d with
      | tup ds =>
        simp only [Option.map_eq_some_iff] at h ⊢
        obtain ⟨p, h1, h2⟩ := h
        exact ⟨p, hm n ih _ p.1 p.2 h1, h2⟩
      | cell i =>
        simp only at h ⊢
        split at h
        · rename_i ds e; simp only [Option.map_eq_some_iff] at h ⊢; obtain ⟨p, h1, h2⟩ := h; exact ⟨p, hm n ih _ p.1 p.2 h1, h2⟩
        · rename_i ks ds e; simp only [Option.map_eq_some_iff] at h ⊢; obtain ⟨p, h1, h2⟩ := h; exact ⟨p, hm n ih _ p.1 p.2 h1, h2⟩
        · rename_i ks ds e; simp only [Option.map_eq_some_iff] at h ⊢; obtain ⟨p, h1, h2⟩ := h; exact ⟨p, hm n ih _ p.1 p.2 h1, h2⟩
        · rename_i ks ds e; simp only [Option.map_eq_some_iff] at h ⊢; obtain ⟨p, h1, h2⟩ := h; exact ⟨p, hm n ih _ p.1 p.2 h1, h2⟩
        · cases h
      | _ => cases h
theorem snap_take {st : Sto} : ∀ (n : Nat) (d t : D) (js : List Nat), take D.noc st n d = some (t, js) → snap st n d = some t.lend ∧ t.lend.noc = true := by
  have hm : ∀ (n : Nat), (∀ (d t : D) (js : List Nat), take D.noc st n d = some (t, js) → snap st n d = some t.lend ∧ t.lend.noc = true) →
      ∀ (ds ts : List D) (js : List Nat), takeL D.noc (take D.noc st n) ds = some (ts, js) → snapL (snap st n) ds = some (lendL ts) ∧ nocL (lendL ts) = true := by
    intro n ih ds ts js h
    unfold takeL at h
    unfold snapL
    split at h
    · rename_i c
      cases h
      rw [if_pos c, lendL_noc ds (by rw [← all_noc]; exact c)]
      exact ⟨rfl, by rw [← all_noc]; exact c⟩
    · rename_i c
      rw [if_neg c]
      clear c
      induction ds generalizing ts js with
      | nil => cases h; exact ⟨rfl, rfl⟩
      | cons d ds ih2 =>
        simp only [mapO] at h
        cases e1 : take D.noc st n d with
        | none => rw [e1] at h; cases h
        | some p =>
          cases e2 : mapO (take D.noc st n) ds with
          | none => rw [e1, e2] at h; cases h
          | some q =>
            rw [e1, e2] at h
            simp only [Option.some.injEq, Prod.mk.injEq] at h
            obtain ⟨h1, h2⟩ := h
            subst h1 h2
            obtain ⟨a1, a2⟩ := ih d p.1 p.2 e1
            obtain ⟨b1, b2⟩ := ih2 q.1 q.2 e2
            simp only [mapS, a1, b1, lendL, nocL, a2, b2, Bool.and_self, and_self]
  intro n
  induction n with
  | zero =>
    intro d t js h
    unfold take at h
    split at h
    · rename_i c; cases h; rw [lend_noc d c]; exact ⟨snap_id c, c⟩
    · cases h
  | succ n ih =>
    intro d t js h
    unfold take at h
    unfold snap
    split at h
    · rename_i c; cases h; rw [if_pos c, lend_noc d c]; exact ⟨rfl, c⟩
    · rename_i c
      rw [if_neg c]
      cases d with
      | tup ds =>
        simp only [Option.map_eq_some_iff] at h
        obtain ⟨p, h1, h2⟩ := h
        obtain ⟨h2, h3⟩ := Prod.mk.inj h2
        subst h2
        obtain ⟨a1, a2⟩ := hm n ih _ p.1 p.2 h1
        simp only [a1, Option.map_some, D.lend, D.noc, a2, and_self]
      | cell i =>
        simp only at h ⊢
        split at h
        all_goals first
          | cases h
          | (rename_i e
             simp only [Option.map_eq_some_iff] at h
             obtain ⟨p, h1, h2⟩ := h
             obtain ⟨h2, h3⟩ := Prod.mk.inj h2
             subst h2
             obtain ⟨a1, a2⟩ := hm n ih _ p.1 p.2 h1
             simp only [e, a1, Option.map_some, D.lend, D.noc, a2, and_self]
             simp)
      | _ => cases h
def Own (st : Sto) (K : List Nat) (c : Nat) (t : D) : Prop := ∃ js, take D.noc st 20 (.cell c) = some (t, js) ∧ js.Nodup ∧ ∀ j ∈ js, j < st.length ∧ j ∉ K
theorem Own.app {st : Sto} {K : List Nat} {c : Nat} {t : D} (h : Own st K c t) (r : Sto) : Own (st ++ r) K c t := by
  obtain ⟨js, h1, h2, h3⟩ := h
  exact ⟨js, take_congr 20 _ _ _ h1 (fun j hj => List.getElem?_append_left (h3 j hj).1), h2, fun j hj => ⟨by have := (h3 j hj).1; rw [List.length_append]; omega, (h3 j hj).2⟩⟩
theorem Own.sub {st : Sto} {K K' : List Nat} {c : Nat} {t : D} (h : Own st K c t) (s : ∀ k ∈ K', k ∈ K) : Own st K' c t := by
  obtain ⟨js, h1, h2, h3⟩ := h
  exact ⟨js, h1, h2, fun j hj => ⟨(h3 j hj).1, fun z => (h3 j hj).2 (s j z)⟩⟩
theorem Own.mem {st : Sto} {K : List Nat} {c : Nat} {t : D} (h : Own st K c t) : c < st.length ∧ c ∉ K := by
  obtain ⟨js, h1, h2, h3⟩ := h
  refine h3 c ?_
  rw [take_cellS _ _ _ _ (by simp [D.noc])] at h1
  split at h1
  · simp only [Option.map_eq_some_iff] at h1; obtain ⟨p, _, e⟩ := h1; rw [← (Prod.mk.inj e).2]; simp
  · simp only [Option.map_eq_some_iff] at h1; obtain ⟨p, _, e⟩ := h1; rw [← (Prod.mk.inj e).2]; simp
  · simp only [Option.map_eq_some_iff] at h1; obtain ⟨p, _, e⟩ := h1; rw [← (Prod.mk.inj e).2]; simp
  · simp only [Option.map_eq_some_iff] at h1; obtain ⟨p, _, e⟩ := h1; rw [← (Prod.mk.inj e).2]; simp
  · cases h1
theorem impC_take {st : Sto} {c n : Nat} {t : D} {x : Cell} {new : List Cell} (hi : impC t n = some (x, new)) (hw : t.wf = true) (hd : t.dp ≤ 20) (hc : st[c]? = some x) (hl : LaidAt st n new) (hcn : c < n) :
    ∃ js, take D.noc st 20 (.cell c) = some (t, js) ∧ js.Nodup ∧ ∀ j ∈ js, j = c ∨ (n ≤ j ∧ j < n + new.length) := by
  have fin : ∀ (mk : List D → D) (mc : List D → Cell) (ds : List D), wfL ds = true → dpL ds ≤ 19 → (if nocL ds then some (mc ds, []) else some (mc (impL ds n).1, (impL ds n).2)) = some (x, new) →
      (∀ es, x = mc es → take D.noc st 20 (.cell c) = (takeL D.noc (take D.noc st 19) es).map fun p => (mk p.1, p.2 ++ [c])) → ∃ js, take D.noc st 20 (.cell c) = some (mk ds, js) ∧ js.Nodup ∧ ∀ j ∈ js, j = c ∨ (n ≤ j ∧ j < n + new.length) := by
    intro mk mc ds w d e ht
    by_cases hn : nocL ds = true
    · rw [if_pos hn] at e
      obtain ⟨e1, e2⟩ := Prod.mk.inj (Option.some.inj e)
      refine ⟨[c], ?_, by simp, by simp⟩
      rw [ht ds e1.symm, takeL_y _ _ _ (by rw [all_noc]; exact hn)]; rfl
    · have hn' : nocL ds = false := by simpa using hn
      rw [if_neg hn] at e
      obtain ⟨e1, e2⟩ := Prod.mk.inj (Option.some.inj e)
      subst e2
      obtain ⟨js, h1, h2, h3⟩ := takeL_imp st ds n 19 w d hl
      refine ⟨js ++ [c], ?_, ?_, ?_⟩
      · rw [ht _ e1.symm, takeL_n _ _ _ (by rw [all_noc]; exact impL_noc ds n w hn'), h1]; rfl
      · rw [List.nodup_append]
        exact ⟨h2, by simp, fun a ha b hb e => by have := (h3 a ha).1; simp at hb; omega⟩
      · intro j hj
        rcases List.mem_append.mp hj with z | z
        · exact .inr (h3 j z)
        · exact .inl (by simpa using z)
  cases t with
  | lst m ds =>
    cases m with
    | own => exact fin (.lst .own) .lst ds (by simpa [D.wf] using hw) (by simp only [D.dp] at hd; omega) hi fun es e => by rw [take_cellS _ _ _ _ (by simp [D.noc]), hc, e]
    | _ => cases hi
  | dk m ks ds =>
    cases m with
    | own => exact fin (.dk .own ks) (.dk ks) ds (by simpa [D.wf] using hw) (by simp only [D.dp] at hd; omega) hi fun es e => by rw [take_cellS _ _ _ _ (by simp [D.noc]), hc, e]
    | _ => cases hi
  | dt m ks ds =>
    cases m with
    | own => exact fin (.dt .own ks) (.dt ks) ds (by simpa [D.wf] using hw) (by simp only [D.dp] at hd; omega) hi fun es e => by rw [take_cellS _ _ _ _ (by simp [D.noc]), hc, e]
    | _ => cases hi
  | obj m ks ds =>
    cases m with
    | own => exact fin (.obj .own ks) (.obj ks) ds (by simpa [D.wf] using hw) (by simp only [D.dp] at hd; omega) hi fun es e => by rw [take_cellS _ _ _ _ (by simp [D.noc]), hc, e]
    | _ => cases hi
  | _ => cases hi
def D.top : D → Bool
  | .lst .own _ => true
  | .dk .own _ _ => true
  | .dt .own _ _ => true
  | .obj .own _ _ => true
  | _ => false
theorem impC_top {t : D} (h : t.top = true) (n : Nat) : ∃ x new, impC t n = some (x, new) := by
  have go : ∀ (q : Bool) (a b : Cell × List Cell), ∃ x new, (if q = true then some a else some b) = some (x, new) := fun q a b => by cases q <;> exact ⟨_, _, rfl⟩
  cases t with
  | lst m ds => cases m <;> first | (simp [D.top] at h; done) | exact go _ _ _
  | dk m ks ds => cases m <;> first | (simp [D.top] at h; done) | exact go _ _ _
  | dt m ks ds => cases m <;> first | (simp [D.top] at h; done) | exact go _ _ _
  | obj m ks ds => cases m <;> first | (simp [D.top] at h; done) | exact go _ _ _
  | _ => cases h
theorem goneAt_out : ∀ (js : List Nat) (st : Sto) (k : Nat), k ∉ js → (goneAt js st)[k]? = st[k]?
  | [], _, _, _ => rfl
  | j :: js, st, k, h => by
    simp only [List.mem_cons, not_or] at h
    rw [goneAt, goneAt_out js _ k h.2, List.getElem?_set_ne (fun z => h.1 z.symm)]
theorem call_mut {st : Sto} {K : List Nat} {c : Nat} {t r t' : D} {sem : List D → RF} {ms : List Md} {as : List D} (en : En) (h : Own st K c t) (hK : ∀ k ∈ K, k < st.length) (hn : nocL as = true) (hl : ms.length = as.length) (hmu : mutPos 1 ms = [])
    (hs : sem (t :: as) = .ok r [t']) (ht : t'.top = true) (hw : t'.wf = true) (hd : t'.dp ≤ 20) :
    ∃ st', callD [0] sem (.mut :: ms) (.cell c :: as) en st = .ok (imp r st.length).1 st' ∧ Own st' K c t' ∧ LaidAt st' st.length (imp r st.length).2 ∧ st.length ≤ st'.length ∧ ∀ k ∈ K, st'[k]? = st[k]? := by
  have hcm := h.mem
  obtain ⟨js, h1, h2, h3⟩ := h
  have hg := goneAt_len js st
  obtain ⟨x, new, hx⟩ := impC_top ht (goneAt js st ++ (imp r st.length).2).length
  have e1 : prepT st (.mut :: ms) (.cell c :: as) = some (t :: as, js) := by rw [prepT_mut, h1, prepT_id ms as hl hn]; simp
  have e2 : ∀ s : Sto, prepS s (.mut :: ms) (t :: as) = some (t :: as) := fun s => by rw [prepS_mut, prepS_id ms as hl hn]; rfl
  have e3 : rootsOf (.cell c :: as) [0] = some [c] := rfl
  have e4 : mutPos 0 (.mut :: ms) = [0] := by rw [mutPos_mut, hmu]
  have hlen : c < (goneAt js st ++ (imp r st.length).2).length := by rw [List.length_append, hg]; omega
  refine ⟨((goneAt js st ++ (imp r st.length).2) ++ new).set c x, ?_, ?_, ?_, ?_, ?_⟩
  · unfold callD
    rw [e1]
    simp only [e4, h2, and_self, if_true, e2, e3]
    unfold callF
    rw [hs]
    simp only [hg]
    unfold back
    rw [hx]
    simp only [hlen, if_true]
    rfl
  · obtain ⟨ks, k1, k2, k3⟩ := impC_take (st := ((goneAt js st ++ (imp r st.length).2) ++ new).set c x) hx hw hd (by rw [List.getElem?_set_self (by rw [List.length_append]; omega)])
      (fun i hi => by rw [List.getElem?_set_ne (by omega), List.getElem?_append_right (by omega), List.getElem?_eq_getElem (by omega)]; congr 2; omega) hlen
    refine ⟨ks, k1, k2, fun j hj => ?_⟩
    rw [List.length_set, List.length_append]
    rcases k3 j hj with rfl | q
    · exact ⟨by omega, hcm.2⟩
    · refine ⟨by omega, fun z => ?_⟩
      have := hK j z
      rw [List.length_append, hg] at q; omega
  · intro i hi
    rw [List.getElem?_set_ne (by omega), List.getElem?_append_left (by rw [List.length_append, hg]; omega), List.getElem?_append_right (by omega), hg, List.getElem?_eq_getElem (by omega)]
    congr 2; omega
  · rw [List.length_set, List.length_append, List.length_append, hg]; omega
  · intro k hk
    have hk1 : k ≠ c := fun z => hcm.2 (z ▸ hk)
    have hk2 : k ∉ js := fun z => (h3 k z).2 hk
    have hk3 := hK k hk
    rw [List.getElem?_set_ne (fun z => hk1 z.symm), List.getElem?_append_left (by rw [List.length_append, hg]; omega), List.getElem?_append_left (by rw [hg]; omega), goneAt_out js st k hk2]
theorem call_mutN {st : Sto} {K : List Nat} {c : Nat} {t r t' : D} {sem : List D → RF} {ms : List Md} {as : List D} (en : En) (h : Own st K c t) (hK : ∀ k ∈ K, k < st.length) (hn : nocL as = true) (hl : ms.length = as.length) (hmu : mutPos 1 ms = [])
    (hs : sem (t :: as) = .ok r [t']) (hr : r.noc = true) (ht : t'.top = true) (hw : t'.wf = true) (hd : t'.dp ≤ 20) :
    ∃ st', callD [0] sem (.mut :: ms) (.cell c :: as) en st = .ok r st' ∧ Own st' K c t' ∧ st.length ≤ st'.length ∧ ∀ k ∈ K, st'[k]? = st[k]? := by
  obtain ⟨st', h1, h2, _, h3, h4⟩ := call_mut en h hK hn hl hmu hs ht hw hd
  rw [imp_ok_id _ _ hr] at h1
  exact ⟨st', h1, h2, h3, h4⟩
theorem call_mutX {st : Sto} {K : List Nat} {c x : Nat} {t t' : D} {xs : List D} {sem : List D → RF} {ms : List Md} {as : List D} (en : En) (h : Own st K c t) (hK : ∀ k ∈ K, k < st.length) (hn : nocL as = true) (hl : ms.length = as.length) (hmu : mutPos 1 ms = [])
    (hs : sem (t :: as) = .exc x xs [t']) (ht : t'.top = true) (hw : t'.wf = true) (hd : t'.dp ≤ 20) :
    ∃ st', callD [0] sem (.mut :: ms) (.cell c :: as) en st = .exc x xs en st' ∧ Own st' K c t' ∧ st.length ≤ st'.length ∧ ∀ k ∈ K, st'[k]? = st[k]? := by
  have hcm := h.mem
  obtain ⟨js, h1, h2, h3⟩ := h
  have hg := goneAt_len js st
  obtain ⟨y, new, hx⟩ := impC_top ht (goneAt js st).length
  have e1 : prepT st (.mut :: ms) (.cell c :: as) = some (t :: as, js) := by rw [prepT_mut, h1, prepT_id ms as hl hn]; simp
  have e2 : ∀ s : Sto, prepS s (.mut :: ms) (t :: as) = some (t :: as) := fun s => by rw [prepS_mut, prepS_id ms as hl hn]; rfl
  have e3 : rootsOf (.cell c :: as) [0] = some [c] := rfl
  have e4 : mutPos 0 (.mut :: ms) = [0] := by rw [mutPos_mut, hmu]
  have hlen : c < (goneAt js st).length := by rw [hg]; omega
  refine ⟨((goneAt js st) ++ new).set c y, ?_, ?_, ?_, ?_⟩
  · unfold callD
    rw [e1]
    simp only [e4, h2, and_self, if_true, e2, e3]
    unfold callF
    rw [hs]
    simp only
    unfold back
    rw [hx]
    simp only [hlen, if_true]
    rfl
  · obtain ⟨ks, k1, k2, k3⟩ := impC_take (st := ((goneAt js st) ++ new).set c y) hx hw hd (by rw [List.getElem?_set_self (by rw [List.length_append]; omega)])
      (fun i hi => by rw [List.getElem?_set_ne (by omega), List.getElem?_append_right (by omega), List.getElem?_eq_getElem (by omega)]; congr 2; omega) hlen
    refine ⟨ks, k1, k2, fun j hj => ?_⟩
    rw [List.length_set, List.length_append]
    rcases k3 j hj with rfl | q
    · exact ⟨by omega, hcm.2⟩
    · refine ⟨by omega, fun z => ?_⟩
      have := hK j z
      rw [hg] at q; omega
  · rw [List.length_set, List.length_append, hg]; omega
  · intro k hk
    have hk1 : k ≠ c := fun z => hcm.2 (z ▸ hk)
    have hk2 : k ∉ js := fun z => (h3 k z).2 hk
    have hk3 := hK k hk
    rw [List.getElem?_set_ne (fun z => hk1 z.symm), List.getElem?_append_left (by rw [hg]; omega), goneAt_out js st k hk2]
theorem call_val {st : Sto} {K : List Nat} {c : Nat} {t : D} {sem : List D → RF} {ms : List Md} {as : List D} (en : En) (h : Own st K c t) (hn : nocL as = true) (hl : ms.length = as.length) (hmu : mutPos 1 ms = []) : callD [] sem (.val :: ms) (.cell c :: as) en st = give (sem (t.lend :: as)) en st := by
  obtain ⟨js, h1, h2, h3⟩ := h
  obtain ⟨a1, a2⟩ := snap_take 20 _ _ _ h1
  have e1 : prepT st (.val :: ms) (.cell c :: as) = some (.cell c :: as, []) := by rw [prepT_val, prepT_id ms as hl hn]; rfl
  have e2 : prepS st (.val :: ms) (.cell c :: as) = some (t.lend :: as) := by rw [prepS_val, a1, prepS_id ms as hl hn]
  unfold callD
  rw [e1]
  simp only [mutPos_val, hmu, List.nodup_nil, and_self, if_true, gone_nil, e2, roots_nil]
  unfold callF give
  cases sem (t.lend :: as) with
  | bad => rfl
  | ok r ts => cases ts <;> rfl
  | exc c xs ts => cases ts <;> rfl
theorem call_mov {st : Sto} {K : List Nat} {c : Nat} {t : D} {sem : List D → RF} {ms : List Md} {as : List D} (en : En) (h : Own st K c t) (hn : nocL as = true) (hl : ms.length = as.length) (hmu : mutPos 1 ms = []) :
    ∃ st', callD [] sem (.mov :: ms) (.cell c :: as) en st = give (sem (t :: as)) en st' ∧ st'.length = st.length ∧ ∀ k ∈ K, st'[k]? = st[k]? := by
  obtain ⟨js, h1, h2, h3⟩ := h
  have e1 : prepT st (.mov :: ms) (.cell c :: as) = some (t :: as, js) := by rw [prepT_mov, h1, prepT_id ms as hl hn]; simp
  have e2 : ∀ s : Sto, prepS s (.mov :: ms) (t :: as) = some (t :: as) := fun s => by rw [prepS_mov, prepS_id ms as hl hn]; rfl
  refine ⟨goneAt js st, ?_, goneAt_len js st, fun k hk => goneAt_out js st k fun z => (h3 k z).2 hk⟩
  unfold callD
  rw [e1]
  simp only [mutPos_mov, hmu, h2, and_self, if_true, e2, roots_nil]
  unfold callF give
  cases sem (t :: as) with
  | bad => rfl
  | ok r ts => cases ts <;> rfl
  | exc c xs ts => cases ts <;> rfl
theorem take_noc {st : Sto} : ∀ (n : Nat) (d t : D) (js : List Nat), take D.noc st n d = some (t, js) → t.noc = true → d = t := by
  intro n
  induction n with
  | zero =>
    intro d t js h _
    unfold take at h
    split at h
    · cases h; rfl
    · cases h
  | succ n ih =>
    intro d t js h ht
    unfold take at h
    split at h
    · cases h; rfl
    · rename_i c
      cases d with
      | tup ds =>
        simp only [Option.map_eq_some_iff] at h
        obtain ⟨p, h1, h2⟩ := h
        obtain ⟨h2, h3⟩ := Prod.mk.inj h2
        subst h2
        unfold takeL at h1
        split at h1
        · cases h1; rfl
        · have g : ∀ (ds : List D) (q : List D × List Nat), mapO (take D.noc st n) ds = some q → nocL q.1 = true → ds = q.1 := by
            intro ds
            induction ds with
            | nil => intro q e _; cases e; rfl
            | cons d ds ih2 =>
              intro q e hq
              simp only [mapO] at e
              cases e1 : take D.noc st n d with
              | none => rw [e1] at e; cases e
              | some a =>
                cases e2 : mapO (take D.noc st n) ds with
                | none => rw [e1, e2] at e; cases e
                | some b =>
                  rw [e1, e2] at e
                  cases e
                  simp only [nocL, Bool.and_eq_true] at hq
                  rw [ih d a.1 a.2 e1 hq.1, ih2 b e2 hq.2]
          rw [g ds p h1 (by simpa [D.noc] using ht)]
      | cell i =>
        simp only at h
        split at h
        all_goals first
          | cases h
          | (simp only [Option.map_eq_some_iff] at h
             obtain ⟨p, h1, h2⟩ := h
             obtain ⟨h2, h3⟩ := Prod.mk.inj h2
             subst h2
             simp [D.noc] at ht)
      | _ => cases h
theorem mapO_get {st : Sto} {n : Nat} : ∀ (gs fs : List D) (js : List Nat), mapO (take D.noc st n) gs = some (fs, js) → gs.length = fs.length ∧ ∀ (i : Nat) (d : D), fs[i]? = some d → d.noc = true → gs[i]? = some d
  | [], fs, js, h => by cases h; exact ⟨rfl, fun i d e => by simp at e⟩
  | g :: gs, fs, js, h => by
    simp only [mapO] at h
    cases e1 : take D.noc st n g with
    | none => rw [e1] at h; cases h
    | some a =>
      cases e2 : mapO (take D.noc st n) gs with
      | none => rw [e1, e2] at h; cases h
      | some b =>
        rw [e1, e2] at h
        cases h
        obtain ⟨l, q⟩ := mapO_get gs b.1 b.2 e2
        refine ⟨by simp [l], fun i d e hd => ?_⟩
        cases i with
        | zero => simp at e; subst e; simp [take_noc n g a.1 a.2 e1 hd]
        | succ i => simp at e ⊢; exact q i d e hd
theorem Own.obj {st : Sto} {K : List Nat} {c k : Nat} {fs : List D} (h : Own st K c (.obj .own k fs)) : ∃ gs, st[c]? = some (.obj k gs) ∧ gs.length = fs.length ∧ ∀ (i : Nat) (d : D), fs[i]? = some d → d.noc = true → gs[i]? = some d := by
  obtain ⟨js, h1, h2, h3⟩ := h
  rw [take_cellS _ _ _ _ (by simp [D.noc])] at h1
  split at h1
  · simp at h1
  · simp at h1
  · simp at h1
  · rename_i k' gs e
    simp only [Option.map_eq_some_iff] at h1
    obtain ⟨p, h4, h5⟩ := h1
    obtain ⟨h5, h6⟩ := Prod.mk.inj h5
    injection h5 with _ hk hf
    subst hk hf
    refine ⟨gs, e, ?_⟩
    unfold takeL at h4
    split at h4
    · cases h4; exact ⟨rfl, fun i d e _ => e⟩
    · exact mapO_get gs p.1 p.2 h4
  · cases h1
theorem Own.lst {st : Sto} {K : List Nat} {c : Nat} {ds : List D} (h : Own st K c (.lst .own ds)) (hn : nocL ds = true) : st[c]? = some (.lst ds) := by
  obtain ⟨js, h1, h2, h3⟩ := h
  rw [take_cellS _ _ _ _ (by simp [D.noc])] at h1
  split at h1
  · rename_i gs e
    simp only [Option.map_eq_some_iff] at h1
    obtain ⟨p, h4, h5⟩ := h1
    obtain ⟨h5, h6⟩ := Prod.mk.inj h5
    injection h5 with _ hf
    subst hf
    rw [e]
    unfold takeL at h4
    split at h4
    · cases h4; rfl
    · obtain ⟨l, q⟩ := mapO_get gs p.1 p.2 h4
      congr 2
      apply List.ext_getElem?
      intro i
      by_cases hi : i < p.1.length
      · have e1 : p.1[i]? = some p.1[i] := List.getElem?_eq_getElem hi
        rw [e1]
        exact q i _ e1 ((nocL_iff _).mp hn _ (List.getElem_mem hi))
      · rw [List.getElem?_eq_none (by omega), List.getElem?_eq_none (by omega)]
  · simp at h1
  · simp at h1
  · simp at h1
  · cases h1
theorem own_imp {st : Sto} {K : List Nat} {t : D} (hw : t.wf = true) (hd : t.dp ≤ 20) (hK : ∀ k ∈ K, k < st.length) (ht : t.top = true) : ∃ c, (imp t st.length).1 = .cell c ∧ Own (st ++ (imp t st.length).2) K c t ∧ st.length ≤ c := by
  have hn : t.noc = false := by
    cases t with
    | lst m ds => cases m <;> first | (simp [D.top] at ht; done) | simp [D.noc]
    | dk m ks ds => cases m <;> first | (simp [D.top] at ht; done) | simp [D.noc]
    | dt m ks ds => cases m <;> first | (simp [D.top] at ht; done) | simp [D.noc]
    | obj m ks ds => cases m <;> first | (simp [D.top] at ht; done) | simp [D.noc]
    | _ => simp [D.top] at ht
  obtain ⟨js, h1, h2, h3⟩ := take_imp (st ++ (imp t st.length).2) t st.length 20 hw hd (by have := LaidAt.app st (imp t st.length).2 []; rwa [List.append_nil] at this)
  have hc : ∃ c, (imp t st.length).1 = .cell c := by
    cases t with
    | lst m ds => cases m <;> first | (simp [D.top] at ht; done) | (rw [imp_lst]; split <;> exact ⟨_, rfl⟩)
    | dk m ks ds => cases m <;> first | (simp [D.top] at ht; done) | (rw [imp_dk]; split <;> exact ⟨_, rfl⟩)
    | dt m ks ds => cases m <;> first | (simp [D.top] at ht; done) | (unfold imp; split <;> exact ⟨_, rfl⟩)
    | obj m ks ds => cases m <;> first | (simp [D.top] at ht; done) | (rw [imp_obj]; split <;> exact ⟨_, rfl⟩)
    | _ => simp [D.top] at ht
  obtain ⟨c, hc⟩ := hc
  rw [hc] at h1
  have ho : Own (st ++ (imp t st.length).2) K c t := ⟨js, h1, h2, fun j hj => ⟨by have := (h3 j hj).2; rw [List.length_append]; omega, fun z => by have := hK j z; have := (h3 j hj).1; omega⟩⟩
  refine ⟨c, hc, ho, ?_⟩
  have : c ∈ js := by
    rw [take_cellS _ _ _ _ (by simp [D.noc])] at h1
    split at h1
    · simp only [Option.map_eq_some_iff] at h1; obtain ⟨p, _, e⟩ := h1; rw [← (Prod.mk.inj e).2]; simp
    · simp only [Option.map_eq_some_iff] at h1; obtain ⟨p, _, e⟩ := h1; rw [← (Prod.mk.inj e).2]; simp
    · simp only [Option.map_eq_some_iff] at h1; obtain ⟨p, _, e⟩ := h1; rw [← (Prod.mk.inj e).2]; simp
    · simp only [Option.map_eq_some_iff] at h1; obtain ⟨p, _, e⟩ := h1; rw [← (Prod.mk.inj e).2]; simp
    · cases h1
  exact (h3 c this).1
mutual
def D.wp : D → Bool
  | .tup ds => wpL ds
  | .lst .own ds => wpL ds
  | .dk .own _ ds => wpL ds
  | .dt .own _ ds => wpL ds
  | .obj .own _ ds => wpL ds
  | d => d.pl
def wpL : List D → Bool
  | [] => true
  | d :: ds => d.wp && wpL ds
end
mutual
theorem wp_noc : ∀ (d : D), d.wp = true → d.noc = true → d.pl = true
  | .tup ds, h, n => by
    simp only [D.wp] at h; simp only [D.noc] at n; simp only [D.pl]
    exact wpL_noc ds h n
  | .lst m ds, h, n => by cases m <;> first | (simp [D.noc] at n; done) | exact h
  | .dk m _ ds, h, n => by cases m <;> first | (simp [D.noc] at n; done) | exact h
  | .dt m _ ds, h, n => by cases m <;> first | (simp [D.noc] at n; done) | exact h
  | .obj m _ ds, h, n => by cases m <;> first | (simp [D.noc] at n; done) | exact h
  | .non, h, _ => h
  | .bl _, h, _ => h
  | .int _, h, _ => h
  | .str _, h, _ => h
  | .cell _, h, _ => h
theorem wpL_noc : ∀ (ds : List D), wpL ds = true → nocL ds = true → plL ds = true
  | [], _, _ => rfl
  | d :: ds, h, n => by
    simp only [wpL, nocL, plL, Bool.and_eq_true] at *
    exact ⟨wp_noc d h.1 n.1, wpL_noc ds h.2 n.2⟩
end
mutual
theorem pl_noc : ∀ (d : D), d.pl = true → d.noc = true
  | .tup ds, h => by simp only [D.pl] at h; simp only [D.noc]; exact plL_nocL ds h
  | .lst m ds, h => by cases m <;> simp [D.pl] at h <;> simp [D.noc] <;> exact plL_nocL ds h
  | .dk m _ ds, h => by cases m <;> simp [D.pl] at h <;> simp [D.noc] <;> exact plL_nocL ds h
  | .dt m _ ds, h => by cases m <;> simp [D.pl] at h <;> simp [D.noc] <;> exact plL_nocL ds h
  | .obj m _ ds, h => by cases m <;> simp [D.pl] at h <;> simp [D.noc] <;> exact plL_nocL ds h
  | .non, _ => by simp [D.noc]
  | .bl _, _ => by simp [D.noc]
  | .int _, _ => by simp [D.noc]
  | .str _, _ => by simp [D.noc]
  | .cell _, h => by simp [D.pl] at h
theorem plL_nocL : ∀ (ds : List D), plL ds = true → nocL ds = true
  | [], _ => rfl
  | d :: ds, h => by
    simp only [nocL, plL, Bool.and_eq_true] at *
    exact ⟨pl_noc d h.1, plL_nocL ds h.2⟩
end
mutual
theorem wp_wf : ∀ (d : D), d.wp = true → d.wf = true
  | .tup ds, h => by simp only [D.wp] at h; simp only [D.wf]; exact wpL_wfL ds h
  | .lst m ds, h => by cases m <;> first | exact pl_noc _ h | (simp only [D.wp] at h; simp only [D.wf]; exact wpL_wfL ds h)
  | .dk m _ ds, h => by cases m <;> first | exact pl_noc _ h | (simp only [D.wp] at h; simp only [D.wf]; exact wpL_wfL ds h)
  | .dt m _ ds, h => by cases m <;> first | exact pl_noc _ h | (simp only [D.wp] at h; simp only [D.wf]; exact wpL_wfL ds h)
  | .obj m _ ds, h => by cases m <;> first | exact pl_noc _ h | (simp only [D.wp] at h; simp only [D.wf]; exact wpL_wfL ds h)
  | .non, h => pl_noc _ h
  | .bl _, h => pl_noc _ h
  | .int _, h => pl_noc _ h
  | .str _, h => pl_noc _ h
  | .cell _, h => pl_noc _ h
theorem wpL_wfL : ∀ (ds : List D), wpL ds = true → wfL ds = true
  | [], _ => rfl
  | d :: ds, h => by
    simp only [wpL, wfL, Bool.and_eq_true] at *
    exact ⟨wp_wf d h.1, wpL_wfL ds h.2⟩
end
theorem take_pl {st : Sto} : ∀ (n : Nat) (d t : D) (js : List Nat), take D.noc st n d = some (t, js) → t.wp = true → take D.pl st n d = some (t, js) := by
  have hm : ∀ (n : Nat), (∀ (d t : D) (js : List Nat), take D.noc st n d = some (t, js) → t.wp = true → take D.pl st n d = some (t, js)) →
      ∀ (ds ts : List D) (js : List Nat), takeL D.noc (take D.noc st n) ds = some (ts, js) → wpL ts = true → takeL D.pl (take D.pl st n) ds = some (ts, js) := by
    intro n ih ds ts js h hw
    unfold takeL at h ⊢
    split at h
    · rename_i c
      cases h
      rw [if_pos (by rw [all_pl]; exact wpL_noc _ hw (by rw [← all_noc]; exact c))]
    · rename_i c
      rw [if_neg (fun z => c (by rw [all_noc]; exact plL_nocL _ (by rw [← all_pl]; exact z)))]
      clear c
      induction ds generalizing ts js with
      | nil => exact h
      | cons d ds ih2 =>
        simp only [mapO] at h ⊢
        cases e1 : take D.noc st n d with
        | none => rw [e1] at h; cases h
        | some p =>
          cases e2 : mapO (take D.noc st n) ds with
          | none => rw [e1, e2] at h; cases h
          | some q =>
            rw [e1, e2] at h
            simp only [Option.some.injEq, Prod.mk.injEq] at h
            obtain ⟨h1, h2⟩ := h
            subst h1 h2
            simp only [wpL, Bool.and_eq_true] at hw
            rw [ih d p.1 p.2 e1 hw.1, ih2 q.1 q.2 hw.2 e2]
  intro n
  induction n with
  | zero =>
    intro d t js h hw
    unfold take at h
    split at h
    · rename_i c; cases h; exact take_id (wp_noc _ hw c)
    · cases h
  | succ n ih =>
    intro d t js h hw
    unfold take at h ⊢
    split at h
    · rename_i c; cases h; rw [if_pos (wp_noc _ hw c)]
    · rename_i c
      rw [if_neg (fun z => c (pl_noc _ z))]
      cases d with
      | tup ds =>
        simp only [Option.map_eq_some_iff] at h ⊢
        obtain ⟨p, h1, h2⟩ := h
        obtain ⟨h2, h3⟩ := Prod.mk.inj h2
        subst h2 h3
        exact ⟨p, hm n ih _ p.1 p.2 h1 (by simpa only [D.wp] using hw), rfl⟩
      | cell i =>
        simp only at h ⊢
        split at h
        all_goals first
          | cases h
          | (simp only [Option.map_eq_some_iff] at h ⊢
             obtain ⟨p, h1, h2⟩ := h
             obtain ⟨h2, h3⟩ := Prod.mk.inj h2
             subst h2 h3
             exact ⟨p, hm n ih _ p.1 p.2 h1 (by simpa only [D.wp] using hw), rfl⟩)
      | _ => cases h
theorem own_fin {st : Sto} {K : List Nat} {c : Nat} {t : D} (h : Own st K c t) (hw : t.wp = true) (ps : List D) : fin [] ps (.cell c) st = .ok t [] := by
  obtain ⟨js, h1, h2, h3⟩ := h
  have := take_pl 20 _ _ _ h1 hw
  rw [fin_0, this]
  simp [h2]
theorem Own.keep {st st' : Sto} {K : List Nat} {c : Nat} {t : D} (h : Own st K c t) (hk : ∀ k, k < st.length → st'[k]? = st[k]?) : Own st' K c t := by
  obtain ⟨js, h1, h2, h3⟩ := h
  refine ⟨js, take_congr 20 _ _ _ h1 (fun j hj => hk j (h3 j hj).1), h2, fun j hj => ⟨?_, (h3 j hj).2⟩⟩
  have e := hk j (h3 j hj).1
  rw [List.getElem?_eq_getElem (h3 j hj).1] at e
  exact (List.getElem?_eq_some_iff.mp e).1
theorem Own.appK {st : Sto} {K K' : List Nat} {c : Nat} {t : D} (h : Own st K c t) (r : Sto) (hk : ∀ k ∈ K', k ∈ K ∨ st.length ≤ k) : Own (st ++ r) K' c t := by
  obtain ⟨js, h1, h2, h3⟩ := h.app r
  obtain ⟨js', g1, g2, g3⟩ := h
  have e := take_congr (st' := st ++ r) 20 _ _ _ g1 (fun j hj => List.getElem?_append_left (g3 j hj).1)
  rw [h1] at e
  injection e with e
  injection e with e1 e2
  subst e2
  exact ⟨js, h1, h2, fun j hj => ⟨(h3 j hj).1, fun z => (hk j z).elim (h3 j hj).2 (fun q => by have := (g3 j hj).1; omega)⟩⟩
theorem make_own {st : Sto} {c np : Nat} {t' : D} {sem : List D → RF} {ms : List Md} {as : List D} (en : En) (hn : nocL as = true) (hl : ms.length = as.length) (hmu : mutPos 1 ms = []) (hp : as.length + 1 = np)
    (hs : sem (.obj .own c [] :: as) = .ok .non [t']) (ht : t'.top = true) (hw : t'.wf = true) (hd : t'.dp ≤ 20) :
    ∃ st', makeD c np [0] sem (.mut :: ms) as en st = .ok (.cell st.length) st' ∧ Own st' (List.range st.length) st.length t' ∧ st.length < st'.length ∧ ∀ k, k < st.length → st'[k]? = st[k]? := by
  have ho : Own (st ++ [.obj c []]) (List.range st.length) st.length (.obj .own c []) := by
    refine ⟨[st.length], ?_, by simp, by simp⟩
    rw [take_cellS _ _ _ _ (by simp [D.noc])]
    simp
  obtain ⟨st', h1, h2, h3, h4⟩ := call_mutN en ho (fun k hk => by have := List.mem_range.mp hk; rw [List.length_append]; omega) hn hl hmu hs (by simp [D.noc]) ht hw hd
  refine ⟨st', ?_, h2, by rw [List.length_append, List.length_singleton] at h3; omega, fun k hk => ?_⟩
  · unfold makeD
    rw [if_pos hp, h1]; rfl
  · rw [h4 k (List.mem_range.mpr hk), List.getElem?_append_left hk]
end Px
namespace Px
open PySem PySem.Spec L2 PyProof.Rows
theorem ints_of_rows {ys : List Value} {ms : List Int} (e : ys.length = ms.length) (g : ∀ (i : Nat) (y : Value), ys[i]? = some y → ∃ (n : Int) (k : Tok), ms[i]? = some n ∧ y = Value.int n k) : IntsAre ys ms := ints_each e g
def rSortD : List V → Hp → VK → Prop := fun xs H Q => ∃ (a : Addr) (es : List (Key × V)) (ms : List Int), xs = [.ref a] ∧ Rd H a (.dK es) ∧ es.map (·.1) = ms.map Sum.inl ∧ ms.length ≤ sizeLine ∧
    ∀ (zs : List Int) (p : Addr), zs.Perm ms → zs.Pairwise (· ≤ ·) → H p = none → Q (.ref p) (upd H p (.lst (zs.map V.int)))
section
variable {X : Cx}
theorem cr_sortD (cm : X.calm = true) : CallR X (.builtin "sorted") rSortD := by
  intro pins s σ H xs us Q I r ⟨a, es, ms, ex, dd, ek, lm, q⟩
  subst ex
  obtain ⟨u, eu, ru⟩ := vals1 r
  subst eu
  cases ru
  obtain ⟨_, low, ws, rel, dat⟩ := dk_rd I.hok dd
  obtain ⟨c0, cat⟩ := dat.dictAt
  have kk : ws.map (·.1) = ms.map Sum.inl := rel.keys.symm.trans ek
  have len : ws.length = ms.length := by simpa using congrArg List.length kk
  refine Calls.call_function_entry kind_sorted plain_sorted entry_sorted (args_sorted1 _) ?_
  unfold Builtin.«sorted»
  refine wpAny_bind (m := checkCount "sorted" 1 1 _) (wpAny_pure (wpAny_bind ?_))
  refine PySem.W.kdu_collect (A := X.A.in1) (PySem.W.kdl_dict (knd := mixKind X.prog X.w) (kvs := ws) (ep := c0) low) (I.ok.hd cm) cat (by omega) fun hp tk acc keep got => ?_
  have la : acc.toList.length = ms.length := by rw [Array.length_toList, got.1, len]
  have ia : IntsAre acc.toList ms := ints_of_rows la fun i y e => by
    obtain ⟨k, x, f1, f2⟩ := got.2 i y (by rw [← Array.getElem?_toList]; exact e)
    have f3 : (ms.map (Sum.inl : Int → Key))[i]? = some k := by rw [← kk, List.getElem?_map, f1]; rfl
    rw [List.getElem?_map] at f3
    obtain ⟨n, f4, f5⟩ := Option.map_eq_some_iff.mp f3
    subst f5
    rcases keyIs_shape (show keyIs (Sum.inl n) y = true from f2) with ⟨j, t, g1, g2⟩ | ⟨z, t, g1, g2⟩
    · cases g1; exact ⟨n, t, f4, g2⟩
    · cases g1
  have I1 : Inv X pins σ H { s with heap := hp, toks := tk } := I.kept keep
  refine wpAny_bind (wpAny_newList ?_ (by rw [la]; exact lm))
  have at0 : (hp.push (seqObj "list" acc.toList.toArray 0)).get? hp.objs.size = some (seqObj "list" acc.toList.toArray 0) := Heap.get?_push_size _ rfl
  show wpAny _ _ _ _ _ { s with heap := hp.push (seqObj "list" acc.toList.toArray 0), toks := tk }
  refine wpAny_bind (wpAny_holding (wpAny_call_entry slot_list_sort ⟨_, at0, rfl⟩ entry_list_sort (SrtO.list_sort_ord SrtO.swo_int at0 (by rw [la]; exact lm) (fun two => SrtO.ints_sortable ia two) fun out h1 h2 => ⟨_, rfl, ?_⟩) (args_list_sort _)))
  obtain ⟨g1, g2, g3⟩ := SrtO.ints_out ia h1 h2
  obtain ⟨c1, new⟩ := sortedHeap_at (vs := acc.toList) (out := out.toArray) at0
  have lz : ((out.map SrtO.iv).map V.int).length ≤ sizeLine := by rw [List.length_map, g2.length_eq]; exact lm
  refine wpAny_pure ⟨_, rfl, .ref hp.objs.size, upd H hp.objs.size (.lst ((out.map SrtO.iv).map V.int)), I1.laid (t' := tk) (fun b o e => ?_) (Nat.le_refl _) (show ObjOk X.prog X.w _ _ _ (.lst ((out.map SrtO.iv).map V.int)) from ⟨lz, out, c1, vals_of_ints g1, new⟩), rfl, q _ _ g2 g3 (I1.hok.fresh (Nat.le_refl _))⟩
  have bl : b < hp.objs.size := Heap.lt_size e
  rw [sortedHeap_old (Nat.ne_of_lt bl) (by rw [size_push']; exact Nat.lt_succ_of_lt bl)]
  exact Heap.get?_push_of_some _ e
variable {G : GS} {W : WX}
def kInts : List Key → Option (List Int)
  | [] => some []
  | .inl i :: ks => (kInts ks).map (i :: ·)
  | .inr _ :: _ => none
theorem kInts_ok : ∀ {ks : List Key} {ms : List Int}, kInts ks = some ms → ks = ms.map Sum.inl
  | [], ms, h => by cases h; rfl
  | .inl i :: ks, ms, h => by
    simp only [kInts, Option.map_eq_some_iff] at h
    obtain ⟨r, h1, rfl⟩ := h
    rw [kInts_ok h1]; rfl
  | .inr _ :: _, _, h => by cases h
def bSortedd : XF := fun ds st => match ds with
  | [d] => match dictOf st d with
    | some p => match kInts p.1 with
      | some ms => if fitL ms.length then .ok (.cell st.length) (st ++ [.lst ((srt ms).map D.int)]) else .bad
      | none => .bad
    | none => bSorted [d] st
  | _ => .bad
theorem hc_sortedd (hK : X.K = G.K) (hc : X.calm = true) : CallR X (.builtin "sorted") (rA G W bSortedd) := CallR_imp (CallR_or (cr_sortD hc) (hc_sorted (G := G) (W := W) hK)) fun vs H Q ⟨g, en, st, σ, ds, R, r, h⟩ => by
  unfold bSortedd at h
  split at h
  · rename_i d
    split at h
    · rename_i p hp
      split at h
      · rename_i ms hm
        split at h
        · rename_i fl
          obtain ⟨v, q, e1, e2, e3⟩ := r
          cases e3
          obtain ⟨a, ws, f1, f2, f3, f4⟩ := dictOf_H R e2 hp
          have ek : (p.1.zip ws).map (·.1) = ms.map Sum.inl := by rw [List.map_fst_zip (by omega)]; exact kInts_ok hm
          refine .inl ⟨a, _, ms, by rw [e1, f1], f2, ek, fitL_ok fl, fun zs b h1 h2 h3 => ?_⟩
          obtain rfl := srt_uniq h1 h2
          obtain ⟨l, R', r'⟩ := R.new (c := .lst ((srt ms).map D.int)) h3 ⟨_, rfl, RepL.ints _⟩
          exact h _ _ l R' _ r'
        · exact h.elim
      · exact h.elim
    · exact .inr ⟨g, en, st, σ, _, R, r, h⟩
  · exact h.elim
@[simp] theorem ev_sortedd (d : D) (st : Sto) : bSortedd [d] st = match dictOf st d with
    | some p => match kInts p.1 with
      | some ms => if fitL ms.length then .ok (.cell st.length) (st ++ [.lst ((srt ms).map D.int)]) else .bad
      | none => .bad
    | none => bSorted [d] st := (rfl)
end
end Px
namespace Px
open PySem PySem.Spec L2
def ItzM (K : PySem.W.Frag) (a b : Addr) : It :=
  ⟨fun i H => ∃ (xs ys : List V) (x y : V), SqT K H a xs ∧ SqL K H b ys ∧ xs[i]? = some x ∧ ys[i]? = some y,
    fun i H v H' => ∃ T x y, v = .ref T ∧ H T = none ∧ H' = upd H T (.tup [x, y]) ∧ (∀ xs, SqT K H a xs → xs[i]? = some x) ∧ ∀ ys, SqL K H b ys → ys[i]? = some y,
    fun i H => ∃ xs ys : List V, SqT K H a xs ∧ SqL K H b ys ∧ (xs.length ≤ i ∨ ys.length ≤ i)⟩
theorem endT {prog : Program} {w : World} {A : Around} (hh : A.handled = none) (it t : Addr) (items : Array Value) (i : Nat) (hi : items[i]? = none) :
    Draws prog w A it [it, t] i (fun _ _ => True) (fun j h => j = i ∧ h.IsTupleIter it t i ∧ h.IsTuple t items) where
  live := fun _ _ st => let ⟨o, ho, _⟩ := st.2.1; ⟨o, ho⟩
  frame := fun _ _ _ st hk => ⟨st.1, st.2.1.at fun o e => hk it (by simp) o e, st.2.2.at fun o e => hk t (by simp) o e⟩
  item := fun j s Q E hj st _ => by have := st.1; omega
  done := fun s Q E st hE => wpAny_nextOf_tuple_end hh st.2.1 st.2.2 hi hE
theorem endL {prog : Program} {w : World} {A : Around} (hh : A.handled = none) (it t : Addr) (items : Array Value) (i : Nat) (hi : items[i]? = none) :
    Draws prog w A it [it, t] i (fun _ _ => True) (fun j h => j = i ∧ h.IsListIter it t i ∧ h.IsList t items) where
  live := fun _ _ st => let ⟨o, ho, _⟩ := st.2.1; ⟨o, ho⟩
  frame := fun _ _ _ st hk => ⟨st.1, st.2.1.at fun o e => hk it (by simp) o e, st.2.2.at fun o e => hk t (by simp) o e⟩
  item := fun j s Q E hj st _ => by have := st.1; omega
  done := fun s Q E st hE => wpAny_nextOf_list_end hh st.2.1 st.2.2 hi hE
theorem turn_zipM {P : Program} {w : World} {K : PySem.W.Frag} {elts : List Expr} {kk : Nat} {tpos : Pos} {a b z TI TO i1 i2 : Addr} (S : ZipSep2 z TI TO i1 i2 [i1, a] [i2, b]) (n1 : a ≠ i1) (n2 : b ≠ i2) :
    Turn P w K (.Tuple elts kk tpos) (ItzM K a b) [z, TI, TO, i1, i2] z (fun i h => IsZip h z TI TO .none ∧ IsTupOf2 h TI (.ref i1) (.ref i2) ∧ (∃ x y, IsTupOf2 h TO x y) ∧ h.IsTupleIter i1 a i ∧ h.IsListIter i2 b i) where
  mem := by simp
  obj := fun i h st c hc => by
    obtain ⟨hz, hTI, ⟨x, y, hTO⟩, ⟨o1, e1, _, d1⟩, ⟨o2, e2, _, d2⟩⟩ := st
    simp only [List.mem_cons, List.not_mem_nil, or_false] at hc
    rcases hc with rfl | rfl | rfl | rfl | rfl
    · exact ⟨_, hz, fun v q => nomatch q⟩
    · exact ⟨_, hTI, fun v q => nomatch q⟩
    · exact ⟨_, hTO, fun v q => nomatch q⟩
    · exact ⟨o1, e1, fun v q => by rw [d1] at q; cases q⟩
    · exact ⟨o2, e2, fun v q => by rw [d2] at q; cases q⟩
  keep := fun i h h' st k => by
    obtain ⟨hz, hTI, ⟨x, y, hTO⟩, h1, h2⟩ := st
    exact ⟨k z (by simp) _ hz, k TI (by simp) _ hTI, ⟨x, y, k TO (by simp) _ hTO⟩, h1.at fun o q => k i1 (by simp) o q, h2.at fun o q => k i2 (by simp) o q⟩
  item := by
    intro X hP hw hK hc i pins s σ H E I hf st hg
    subst hP hw hK
    obtain ⟨hz, hTI, ⟨x0, y0, hTO⟩, h1, h2⟩ := st
    obtain ⟨xs, ys, x, y, hqx, hqy, hx, hy⟩ := hg
    obtain ⟨its, rv, p, _⟩ := I.tuple hqx
    obtain ⟨its2, rv2, p2, _⟩ := I.list hqy
    obtain ⟨u, hu, ru⟩ := rv.get hx
    obtain ⟨u2, hu2, ru2⟩ := rv2.get hy
    have hh : X.A.in1.handled = none := I.ok.hd hc
    have D1 := Draws.tuple (prog := X.prog) (w := X.w) (A := X.A.in1) hh i1 a n1 its.toArray
    have D2 := Draws.list (prog := X.prog) (w := X.w) (A := X.A.in1) hh i2 b n2 its2.toArray
    have l1 : i < its.toArray.size := by
      have := (List.getElem?_eq_some_iff.mp hu).1
      simpa using this
    have l2 : i < its2.toArray.size := by
      have := (List.getElem?_eq_some_iff.mp hu2).1
      simpa using this
    have hzl : z < s.heap.objs.size := Heap.lt_size hz
    refine wpAny_pyNext_zipD2_item S D1 D2 hz hTI hTO ⟨h1, p⟩ ⟨h2, p2.isList⟩ l1 l2 fun v1 v2 h' tk y1 y2 b1 b2 d1 d2 b5 b6 hk => ?_
    have e1 : v1 = u := by simp only [List.getElem?_toArray] at y1; rw [hu] at y1; injection y1 with y1; exact y1.symm
    have e2 : v2 = u2 := by simp only [List.getElem?_toArray] at y2; rw [hu2] at y2; injection y2 with y2; exact y2.symm
    subst e1 e2
    refine ⟨_, rfl, wpAny_letOwnedTupleGo_zip (s := { s with heap := h', toks := tk }) b1 fun h'' z'' sb => ?_⟩
    have hT2 : h''.get? s.heap.objs.size = some { cls := .type "tuple", data := .seq #[v1, v2] } := (sb.2 _ (Nat.ne_of_gt hzl)).trans b5
    have new : ObjOk X.prog X.w (upd H s.heap.objs.size (.tup [x, y])) h'' s.heap.objs.size (.tup [x, y]) :=
      ⟨by show 2 ≤ sizeLine; decide, [v1, v2], .cons ru (.cons ru2 .nil), ⟨_, hT2, rfl, _, rfl⟩⟩
    have I1 : Inv X pins σ (upd H s.heap.objs.size (.tup [x, y])) { s with heap := h'', toks := tk } :=
      I.turnedNew (t' := tk) (ch := [z, TI, TO, i1, i2]) (fun c o hb q => (sb.2 c (fun q' => hb (by simp [q']))).trans (hk c o (fun q' => hb (by simp [q'])) (fun q' => hb (by simp [q'])) (fun q' => hb (by simp [q'])) (fun q' => hb (by simp [q'])) q)) hf (Nat.le_refl _) new
    refine ⟨.ref s.heap.objs.size, _, I1, rfl, ⟨_, x, y, rfl, I.hok.fresh (Nat.le_refl _), rfl, fun l hl => by rw [I.tuple_inj hl hqx]; exact hx, fun l hl => by rw [I.list_inj hl hqy]; exact hy⟩, ⟨z'', ?_, ⟨v1, v2, ?_⟩, ?_, ?_⟩, fun c hcm => ?_⟩
    · exact (sb.2 _ S.TIz).trans (hk _ _ S.TIz S.TITO S.TIi1 S.TIi2 hTI)
    · exact (sb.2 _ S.TOz).trans b2
    · exact d1.1.at fun o q => (sb.2 _ S.zi1.symm).trans q
    · exact d2.1.at fun o q => (sb.2 _ S.zi2.symm).trans q
    · have hlt : c < s.heap.objs.size := by
        simp only [List.mem_cons, List.not_mem_nil, or_false] at hcm
        rcases hcm with q | q | q | q | q <;> rw [q]
        · exact hzl
        · exact Heap.lt_size hTI
        · exact Heap.lt_size hTO
        · obtain ⟨_, e1, _⟩ := h1; exact Heap.lt_size e1
        · obtain ⟨_, e2, _⟩ := h2; exact Heap.lt_size e2
      rw [upd_ne (Nat.ne_of_lt hlt)]
      exact (hf c hcm).1
  done := by
    intro X hP hw hK hc i pins s σ H E I hf st hg
    subst hP hw hK
    obtain ⟨hz, hTI, ⟨x0, y0, hTO⟩, h1, h2⟩ := st
    obtain ⟨xs, ys, hqx, hqy, hend⟩ := hg
    obtain ⟨its, rv, p, _⟩ := I.tuple hqx
    obtain ⟨its2, rv2, p2, _⟩ := I.list hqy
    have l1 := rv.length
    have l2 := rv2.length
    have hh : X.A.in1.handled = none := I.ok.hd hc
    have fin : ∀ h' tk, (∀ c o, c ≠ z → c ≠ TO → c ≠ i1 → c ≠ i2 → s.heap.get? c = some o → h'.get? c = some o) → (none : Option Value) = none ∧ Inv X pins σ H { s with heap := h', toks := tk } := fun h' tk hk =>
      ⟨rfl, I.turnedL (t' := tk) (ch := [z, TI, TO, i1, i2]) (fun c o hb q => hk c o (fun q' => hb (by simp [q'])) (fun q' => hb (by simp [q'])) (fun q' => hb (by simp [q'])) (fun q' => hb (by simp [q'])) q) hf⟩
    by_cases c1 : its.length ≤ i
    · have D1 := endT (prog := X.prog) (w := X.w) (A := X.A.in1) hh i1 a its.toArray i (by simp; omega)
      by_cases c2 : its2.length ≤ i
      · have D2 := endL (prog := X.prog) (w := X.w) (A := X.A.in1) hh i2 b its2.toArray i (by simp; omega)
        exact wpAny_pyNext_zipD2_end S D1 D2 hz hTI hTO ⟨rfl, h1, p⟩ ⟨rfl, h2, p2.isList⟩ (Nat.le_refl _) (Nat.le_refl _) (.inl rfl) fin
      · have D2 := Draws.list (prog := X.prog) (w := X.w) (A := X.A.in1) hh i2 b n2 its2.toArray
        exact wpAny_pyNext_zipD2_end S D1 D2 hz hTI hTO ⟨rfl, h1, p⟩ ⟨h2, p2.isList⟩ (Nat.le_refl _) (by simp; omega) (.inl rfl) fin
    · have D1 := Draws.tuple (prog := X.prog) (w := X.w) (A := X.A.in1) hh i1 a n1 its.toArray
      have D2 := endL (prog := X.prog) (w := X.w) (A := X.A.in1) hh i2 b its2.toArray i (by simp; omega)
      exact wpAny_pyNext_zipD2_end S D1 D2 hz hTI hTO ⟨h1, p⟩ ⟨rfl, h2, p2.isList⟩ (by simp; omega) (Nat.le_refl _) (.inr rfl) fin
  self := fun A i s Q E st h => wpAny_pyIter_zip st.1 h
def iZipM (K : PySem.W.Frag) (ta : TA) : TI := fun σ H R => ta σ H fun vs H1 => ∃ a b xs ys, vs = [.ref a, .ref b] ∧ SqT K H1 a xs ∧ SqL K H1 b ys ∧ R (ItzM K a b) H1
theorem pi_zipM {X : Cx} {e e2 : Expr} {ta : TA} {p pos tpos : Pos} {elts : List Expr} {kk : Nat} (hg : Gl X "zip") (hm : X.mg "zip" = none) (ha : PA X [e, e2] ta)
    (hs : starEach [e, e2] X.env = (false, eval e X.env) :: starEach [e2] X.env := by rfl) (hpl : (backTo pos (starEach [e2] X.env)).any (·.1) = false := by rfl) :
    PI X (.Tuple elts kk tpos) (.Call (.Name "zip" p) [e, e2] [] pos) (iZipM X.K ta) := by
  refine ⟨fun pins s σ H R I h => ?_⟩
  refine PyProof.Rows.Call_ (ld_blt I hg hm PyProof.Rows.boot_zip (PyProof.Rows.callWith_type1 (thn (ha.run pos pins s σ H _ I h) fun us s1 ⟨vs, H1, I1, r1, q1⟩ => ?_) hs hpl))
  obtain ⟨a, b, xs, ys, ex, hqx, hqy, q⟩ := q1
  subst ex
  cases r1 with
  | cons r rr =>
    cases rr with
    | cons r' rr =>
      cases rr
      cases r
      cases r'
      obtain ⟨its, rv, p1, _⟩ := I1.tuple hqx
      obtain ⟨its2, rv2, p2, _⟩ := I1.list hqy
      obtain ⟨o1, ho1, _⟩ := id p1
      have la : a < s1.heap.objs.size := Heap.lt_size ho1
      have lb : b < s1.heap.objs.size := p2.lt
      refine zip_begins2 (begins_tuple a its.toArray) (begins_list b its2.toArray) p1 p2.isList fun h' hz hTI hTO h1 h2 hsz hk => wpAny_pyIter_zip hz ?_
      have I2 : Inv X pins σ H1 { s1 with heap := h' } := I1.kept (t' := s1.toks) hk
      refine ⟨s1.heap.objs.size + 4, [s1.heap.objs.size + 4, s1.heap.objs.size + 2, s1.heap.objs.size + 3, s1.heap.objs.size, s1.heap.objs.size + 1], _, _, H1, rfl, I2, turn_zipM (zip_sep2 (fp1 := [a]) (fp2 := [b]) (by simpa using la) (by simpa using lb)) (Nat.ne_of_lt la) (Nat.ne_of_lt (Nat.lt_succ_of_lt lb)), ⟨hz, hTI, ⟨_, _, hTO⟩, ⟨_, h1, rfl, rfl⟩, ⟨_, h2, rfl, rfl⟩⟩, fun c hcm => ?_, q⟩
      have hle : s1.heap.objs.size ≤ c := by
        simp only [List.mem_cons, List.not_mem_nil, or_false] at hcm
        rcases hcm with z | z | z | z | z <;> rw [z]
        · exact Nat.le_add_right _ _
        · exact Nat.le_add_right _ _
        · exact Nat.le_add_right _ _
        · exact Nat.le_refl _
        · exact Nat.le_add_right _ _
      exact I1.fpOk hle (I1.hok.fresh hle)
variable {G : GS} {W : WX} {X : Cx}
theorem walks_zipM {g0 : Gh} {st0 : Sto} {ds : List D} {d2 : D} {a b : Addr} {it2 : Itm} (r : Rep G g0 (.tup ds) (.ref a)) (r2 : Rep G g0 d2 (.ref b)) (h2 : lsrc st0 d2 = some it2) : Walks G g0 ⟨zipL ds it2.its, it2.src⟩ (ItzM G.K a b) := by
  obtain ⟨b', e, q'⟩ := lsrc_H r2 h2
  cases e
  intro g en st σ H i l R ok
  obtain ⟨a', vs, e, e1, e2⟩ := tup_H R (r.mono l)
  cases e
  obtain ⟨us, f1, f2⟩ := q' g en st σ H l R ok
  refine ⟨fun hi => ⟨vs, us, e1, f1, ?_⟩, fun d hd => ?_⟩
  · rw [← e2.length, ← f2.length]
    simp only [zipL_length] at hi
    omega
  · obtain ⟨x, y, hx, hy, rfl⟩ := zipL_get _ _ _ _ hd
    obtain ⟨xv, hxv, rx⟩ := e2.get hx
    obtain ⟨yv, hyv, ry⟩ := f2.get hy
    refine ⟨⟨vs, us, xv, yv, e1, f1, hxv, hyv⟩, fun v H' z => ?_⟩
    obtain ⟨T, x', y', rfl, hT, rfl, z1, z2⟩ := z
    have := z1 vs e1
    rw [hxv] at this; cases this
    have := z2 us f1
    rw [hyv] at this; cases this
    obtain ⟨l', R', r'⟩ := R.tup hT (ds := [x, y]) ⟨_, _, rfl, rx, .one ry⟩
    exact ⟨_, l', R', r'⟩
def izipM (c : XA) : XI := fun en st => (c en st).bind fun ds st => match ds with
  | [.tup a, d] => match lsrc st d with
    | some y => .ok ⟨zipL a y.its, y.src⟩ st
    | none => .bad
  | _ => .bad
theorem si_zipM {e e2 : Expr} {c : XA} {p pos tpos : Pos} {elts : List Expr} {kk : Nat} (hK : X.K = G.K) (hm : X.mg "zip" = none) (ha : SA G W X [e, e2] c) (hg : Gl X "zip" := by rfl) (hs : starEach [e, e2] X.env = (false, eval e X.env) :: starEach [e2] X.env := by rfl)
    (hpl : (backTo pos (starEach [e2] X.env)).any (·.1) = false := by rfl) : SI G W X (.Tuple elts kk tpos) (.Call (.Name "zip" p) [e, e2] [] pos) (izipM c) :=
  ⟨PI_imp (pi_zipM hg hm ha.pa hs hpl) fun σ H K ⟨g, en, st, R, w⟩ => by
    refine ⟨g, en, st, R, (pX.bind w).imp fun ds st1 g1 H1 l1 R1 h1 vs rvs => ?_⟩
    split at h1
    · split at h1
      · rename_i y hy
        obtain ⟨v, r, rfl, rv, v2, r2, rfl, rv2, rfl⟩ := rvs
        obtain ⟨a, us, rfl, e1, e2⟩ := tup_H R1 rv
        obtain ⟨b, rfl, q⟩ := lsrc_H rv2 hy
        obtain ⟨us2, f1, f2⟩ := q g1 en st1 σ H1 (Le.refl _) R1 (lsrc_ok hy)
        exact ⟨a, b, us, us2, rfl, by rw [hK]; exact e1, by rw [hK]; exact f1, by rw [hK]; exact h1 g1 H1 (Le.refl _) R1 _ (walks_zipM rv rv2 hy)⟩
      · exact h1.elim
    · exact h1.elim⟩
@[simp] theorem ev_zipM (c : XA) (en : En) (st : Sto) : izipM c en st = (c en st).bind fun ds st => match ds with
  | [.tup a, d] => (match lsrc st d with
    | some y => .ok ⟨zipL a y.its, y.src⟩ st
    | none => .bad)
  | _ => .bad := (rfl)
end Px
namespace Px
open PySem PySem.Spec L2 PyProof.Rows
def rMaxDf (K : PySem.W.Frag) : List V → List V → Hp → VK → Prop := fun vs zs H Q => ∃ (a : Addr) (ns : List Int) (d : Int), vs = [.ref a] ∧ zs = [.int d] ∧ SqL K H a (ns.map V.int) ∧ (ns = [] → Q (.int d) H) ∧ (∀ m, m ∈ ns → (∀ y ∈ ns, y ≤ m) → Q (.int m) H)
theorem maxOf_ok : ∀ (ys : List Int) (y : Int), PySem.W.maxOf y ys ∈ y :: ys ∧ ∀ z ∈ y :: ys, z ≤ PySem.W.maxOf y ys
  | [], y => ⟨by show y ∈ [y]; simp, fun z hz => by simp at hz; subst hz; exact Int.le_refl _⟩
  | x :: ys, y => by
    have e : PySem.W.maxOf y (x :: ys) = PySem.W.maxOf (if PySem.W.DatumOrd.lt y x = true then x else y) ys := rfl
    rw [e]
    have hl : (PySem.W.DatumOrd.lt y x = true) ↔ y < x := by show (decide (y < x) = true) ↔ _; simp
    by_cases h : y < x
    · rw [if_pos (hl.mpr h)]
      obtain ⟨a, b⟩ := maxOf_ok ys x
      refine ⟨List.mem_cons_of_mem _ a, fun z hz => ?_⟩
      rcases List.mem_cons.mp hz with rfl | hz
      · exact Int.le_trans (Int.le_of_lt h) (b x List.mem_cons_self)
      · exact b z hz
    · rw [if_neg (fun q => h (hl.mp q))]
      obtain ⟨a, b⟩ := maxOf_ok ys y
      refine ⟨?_, fun z hz => ?_⟩
      · rcases List.mem_cons.mp a with a | a
        · rw [a]; exact List.mem_cons_self
        · exact List.mem_cons_of_mem _ (List.mem_cons_of_mem _ a)
      · rcases List.mem_cons.mp hz with rfl | hz
        · exact b _ List.mem_cons_self
        · rcases List.mem_cons.mp hz with rfl | hz
          · exact Int.le_trans (Int.not_lt.mp h) (b y List.mem_cons_self)
          · exact b z (List.mem_cons_of_mem _ hz)
section
variable {X : Cx}
theorem cr_maxDf (hc : X.calm = true) (hu : X.A.units + 65 < cLine) : CallRK X (.builtin "max") [Str.ofString "default"] (rMaxDf X.K) := by
  intro pins s σ H vs zs us ws Q I r rz h
  obtain ⟨a, ns, d, rfl, rfl, hs, q0, q1⟩ := h
  obtain rfl := Vals.ref1 r
  obtain ⟨w1, rfl, t, rfl⟩ := vals1 rz
  obtain ⟨its, rv, hl, hz⟩ := I.list hs
  have hi := rv.ints
  refine PySem.W.max_list_datum_default (α := Int) (xs := ns) (I.ok.hd hc) hl.isList ⟨[], ?_⟩ (by show X.A.units + 1 + 0 < _; omega) (fun e h' tk hk => ?_) fun y ys i v h' tk e hv hH hk => ?_
  · rw [List.toList_toArray]; exact IntsAre.reads s.heap hi
  · exact ⟨.int d, H, I.kept hk, ⟨t, rfl⟩, q0 e⟩
  · subst e
    obtain ⟨m1, m2⟩ := maxOf_ok ys y
    obtain ⟨bs, rd⟩ := hH
    cases rd with
    | int i t => exact ⟨.int _, H, I.kept hk, ⟨t, rfl⟩, q1 _ m1 m2⟩
variable {G : GS} {W : WX}
def maxD (k : Int) (ns : List Int) : Int := if ns.isEmpty then k else maxL ns
def xmaxd (c : XA) (k : XE) : XE := fun en st => (c en st).bind fun ds st => (k en st).bind fun z st => match ds, z with
  | [d], .int z => match (seqOf st d).bind intsOf with
    | some ns => .ok (.int (maxD z ns)) st
    | none => .bad
  | _, _ => .bad
theorem se_maxd {p pos kpos : Pos} {e ke : Expr} {es : List Expr} {c : XA} {k : XE} (hK : X.K = G.K) (hc : X.calm = true) (hu : X.A.units + 65 < cLine) (hm : X.mg "max" = none) (ha : SA G W X (e :: es) c) (hk : SE G W X ke k) (hg : Gl X "max" := by rfl)
    (he : backTo pos (starEach (e :: es) X.env) = (false, eval e X.env) :: backTo pos (starEach es X.env) := by rfl) (hpl : (backTo pos (starEach (e :: es) X.env)).any (·.1) = false := by rfl)
    (hall : (backToKw pos (keywordEach [⟨some "default", ke, kpos⟩] X.env)).all (·.1.isSome) = true := by rfl) (hnone : (backToKw pos (keywordEach [⟨some "default", ke, kpos⟩] X.env)).any (·.1.isNone) = false := by rfl) (hks : (backToKw pos (keywordEach [⟨some "default", ke, kpos⟩] X.env)).filterMap (·.1) = [Str.ofString "default"] := by rfl) :
    SE G W X (.Call (.Name "max" p) (e :: es) [⟨some "default", ke, kpos⟩] pos) (xmaxd c k) :=
  ⟨PE_imp (pe_callBK (cr_maxDf hc hu) hg hm (by decide +kernel) ha.pa (pk_cons hk.pe pk_nil) (by decide) (by decide) he hpl hall hnone hks) fun σ H Q ⟨g, en, st, R, h⟩ => by
    refine ⟨g, en, st, R, (pX.bind h).imp fun ds st1 g1 H1 l1 R1 h1 vs rvs => ?_⟩
    refine ⟨g1, en, st1, R1, (pX.bind h1).imp fun z st2 g2 H2 l2 R2 h2 u ru => ?_⟩
    split at h2
    · rename_i d z
      split at h2
      · rename_i ns hns
        obtain ⟨es, q1, q2⟩ := Option.bind_eq_some_iff.mp hns
        obtain ⟨v, rr, rfl, rv, rfl⟩ := rvs
        cases ru
        obtain ⟨a, us, rfl, e2, e3⟩ := seqOf_H R2 (rv.mono l2) q1
        have := intsOf_ok e3 q2
        subst this
        refine ⟨a, ns, z, rfl, rfl, by rw [hK]; exact e2, fun e => ?_, fun m hm hy => ?_⟩
        · subst e; exact h2 g2 H2 (Le.refl _) R2 _ rfl
        · have hne : ns ≠ [] := fun z => by subst z; simp at hm
          obtain ⟨x1, x2⟩ := maxL_ok hne
          obtain rfl : m = maxL ns := Int.le_antisymm (x2 m hm) (hy _ x1)
          refine h2 g2 H2 (Le.refl _) R2 _ ?_
          show _ = V.int (maxD z ns)
          unfold maxD
          rw [if_neg (by simpa using hne)]
      · exact h2.elim
    · exact h2.elim⟩
def bSum : XF := fun ds st => match ds with
  | [d] => match (seqOf st d).bind intsOf with
    | some ns => .ok (.int ns.sum) st
    | none => .bad
  | _ => .bad
theorem hc_sum (hK : X.K = G.K) (hc : X.calm = true) : CallR X (.builtin "sum") (rA G W bSum) := CallR_imp (cr_sum hc) fun vs H Q ⟨g, en, st, σ, ds, R, r, h⟩ => by
  unfold bSum at h
  split at h
  · rename_i d
    split at h
    · rename_i ns hns
      obtain ⟨es, h1, h2⟩ := Option.bind_eq_some_iff.mp hns
      obtain ⟨v, rr, rfl, rv, rfl⟩ := r
      obtain ⟨a, us, rfl, e2, e3⟩ := seqOf_H R rv h1
      have := intsOf_ok e3 h2
      subst this
      exact ⟨a, ns, rfl, by rw [hK]; exact e2, h g H (Le.refl _) R _ rfl⟩
    · exact h.elim
  · exact h.elim
def sdelL (a b : XE) : XS := fun en st => (a en st).bind fun x st => (b en st).bind fun y st => match x, y with
  | .cell i, .int k => match st[i]? with
    | some (.lst ds) => if ok62 k then match seqIndex? k ds.length with
      | some j => .ok (.nx, en) (st.set i (.lst (ds.eraseIdx j)))
      | none => .bad
      else .bad
    | _ => .bad
  | _, _ => .bad
theorem ss_delL {o i : Expr} {a b : XE} {pos tpos : Pos} (ha : SE G W X o a) (hb : SE G W X i b) : SS G W X (.Delete [.Subscript o i tpos] pos) (sdelL a b) :=
  ⟨PS_imp (ps_delL ha.pe hb.pe) fun D σ H ⟨g, en, st, R, h⟩ => by
    refine ⟨g, en, st, R, (pS.bind h).imp fun x st1 g1 H1 l1 R1 h1 v rv => ?_⟩
    refine ⟨g1, en, st1, R1, (pS.bind h1).imp fun y st2 g2 H2 l2 R2 h2 u ru => ?_⟩
    split at h2
    · rename_i ci k
      split at h2
      · rename_i ds hds
        split at h2
        · rename_i hk
          split at h2
          · rename_i j hj
            obtain ⟨a, ob, e1, e2, e3, vs, e4, e5⟩ := R2.isCell hds (by intro w; cases w) (rv.mono l2)
            subst e4
            rw [ok62_iff] at hk
            refine ⟨a, vs, k, j, e1, ru, e3, by omega, by omega, by rw [← e5.length]; exact hj, ?_⟩
            exact h2 g2 σ _ (Le.refl _) (R2.put hds (by intro w; cases w) e2 ⟨_, rfl, e5.eraseIdx j⟩)
          · exact h2.elim
        · exact h2.elim
      · exact h2.elim
    · exact h2.elim⟩
end
end Px
namespace Px
open PySem PySem.Spec L2 PyProof.Rows
section
variable {prog : Program} {w : World} {A : Around} {E : Value → Shared → Prop} {s : Shared}
theorem lr_init {R : Result → Shared → Prop} {it l : Addr} {items : Array Value} (hh : A.handled = none) (hit : s.heap.IsRevIter it l ((items.size : Int) - 1)) (hl : s.heap.IsList l items) (hne : l ≠ it) (hn : items.size ≤ sizeLine) (S : Addr) (hSi : S ≠ it) (hSl : S ≠ l) (hS : s.heap.get? S = some { cls := .type "list", data := .seq #[] })
    (hR : ∀ h' tk acc' c', (∀ b o, b ≠ S → b ≠ it → s.heap.get? b = some o → h'.get? b = some o) → h'.get? S = some { cls := .type "list", dict := none, data := .seq acc' c', slots := #[] } → ItemsOf (fun i v => items[items.size - 1 - i]? = some v) acc' items.size → R (.ok (.ret .none)) { s with heap := h', toks := tk }) :
    wpAny (model prog w) A.in1 (Builtin.«list.__init__» ⟨[.ref S, .ref it], []⟩)
      (fun fin s' => match fin with | .done f => R (.ok f) s' | .again c' => c'.quiet = true ∧ codeAny (model prog w) A c' R s') (fun e s' => R (.error e) s') s := by
  have W := (Walks.listRev (prog := prog) (w := w) (A := A.in1) hh it l hne items).toS
  have hSf : S ∉ [it, l] := by simp only [List.mem_cons, List.not_mem_nil, or_false, not_or]; exact ⟨hSi, hSl⟩
  show wpAny _ _ (do let old ← Builtin.List.listItems (.ref S); Builtin.List.listUpdate (.ref S) (fun _ => #[]); letGo old.toList.reverse; Builtin.List.listExtendWith (.ref S) (.ref it) .none) _ _ s
  refine wpAny_bind ?_
  unfold Builtin.List.listItems
  refine wpAny_bind (wpAny_seqItems hS rfl (wpAny_pure ?_))
  show wpAny _ _ (updateSeq S (fun _ => #[]) >>= fun _ => letGo (#[] : Array Value).toList.reverse >>= fun _ => Builtin.List.listExtendWith (.ref S) (.ref it) .none) _ _ s
  refine wpAny_bind (wpAny_updateSeq hS rfl ?_)
  have hS₂ := Heap.get?_update_self (Obj.mapSeq (fun _ => (#[] : Array Value))) hS rfl
  have oth : ∀ b o, b ≠ S → s.heap.get? b = some o → (s.heap.update S (Obj.mapSeq (fun _ => (#[] : Array Value)))).get? b = some o :=
    fun b o hb e => (Heap.get?_update_other _ _ (Ne.symm hb)).trans e
  refine wpAny_bind (wpAny_letGo ?_)
  have hit1 : (s.heap.update S (Obj.mapSeq (fun _ => (#[] : Array Value)))).IsRevIter it l ((items.size : Int) - 1) := hit.at fun o e => oth it o hSi.symm e
  have hl1 : (s.heap.update S (Obj.mapSeq (fun _ => (#[] : Array Value)))).IsList l items := hl.at fun o e => oth l o hSl.symm e
  have hT : ({ s with heap := s.heap.update S (Obj.mapSeq (fun _ => (#[] : Array Value))) } : Shared).TypeIs (.ref it) "list_reverseiterator" := Heap.IsRevIter.typeIs (s := { s with heap := s.heap.update S (Obj.mapSeq (fun _ => (#[] : Array Value))) }) hit1
  have h1 : Builtin.List.listSameRef (.ref S) (.ref it) = false := by simp [Builtin.List.listSameRef, hSi]
  unfold Builtin.List.listExtendWith
  refine wpAny_bind (wpAny_typeOf hT ?_)
  rw [if_neg (by rw [h1]; decide)]
  refine wpAny_bind (wpAny_pyIter_revIter (s := { s with heap := s.heap.update S (Obj.mapSeq (fun _ => (#[] : Array Value))) }) hit1 ?_)
  refine wpAny_bind (wpAny_holding ?_)
  unfold Builtin.List.listLengthHint
  refine wpAny_bind (wpAny_specialOf hT RT.nolen_lri ?_)
  show wpAny _ A.in1 (specialOf (Value.ref it) (Str.ofString "__length_hint__") >>= _) _ _ _
  refine wpAny_bind (wpAny_specialOf hT RT.hint_lri ?_)
  generalize hid : ("list_reverseiterator.__length_hint__" : String) = id0
  wp_delta
  rw [show splitId id0 = some ("list_reverseiterator", "__length_hint__") from by subst hid; decide +kernel]
  subst hid
  refine wpAny_bind (wpAny_isInstance (b := true) hT (by rw [isSubtype_type]; kernel_rfl) ?_)
  refine wpAny_pure ?_
  rw [if_neg (by decide)]
  have e0 : ((items.size : Nat) : Int) - 1 - ((0 : Nat) : Int) = (items.size : Int) - 1 := by omega
  refine wpAny_pure ⟨plainId_quiet PySem.F.plain_extend_loop _, codeAny_extend_loopS W hn _ hSf _ items.size 0 _ _ _ rfl (Nat.zero_le _) ⟨Nat.zero_le _, by rw [e0]; exact hit1, hl1⟩ hS₂ (ItemsOf.nil _) fun s' acc' c' hm hS' hacc => ?_⟩
  rw [Moved.eq_with hm]
  refine hR s'.heap s'.toks acc' c' (fun b o hb hb2 e => hm.heap b o (fun hmem => ?_) (oth b o hb e)) hS' hacc
  rcases List.mem_cons.mp hmem with e' | hmem
  · exact hb e'
  · exact hb2 (List.mem_singleton.mp hmem)
theorem lr_call {it l : Addr} {items : Array Value} {Q : Value → Shared → Prop} (hh : A.handled = none) (hit : s.heap.IsRevIter it l ((items.size : Int) - 1)) (hl : s.heap.IsList l items) (hne : l ≠ it) (hn : items.size ≤ sizeLine)
    (hQ : ∀ h' tk acc' c', (∀ b o, b ≠ it → s.heap.get? b = some o → h'.get? b = some o) → h'.get? s.heap.objs.size = some { cls := .type "list", dict := none, data := .seq acc' c', slots := #[] } → ItemsOf (fun i v => items[items.size - 1 - i]? = some v) acc' items.size → Q (.ref s.heap.objs.size) { s with heap := h', toks := tk }) :
    wpAny (model prog w) A (call (.type "list") [.ref it]) Q E s := by
  obtain ⟨oi, hoi, _⟩ := id hit
  obtain ⟨ol, hol, _⟩ := id hl
  refine callType_codes (Q₁ := fun obj s₁ => obj = .ref s.heap.objs.size ∧ s₁ = { s with heap := s.heap.push { cls := .type "list", data := .seq #[] } }) PySem.F.called_list (PySem.F.typeCall_list_1 _) PySem.F.entry_list_init
    (code_list_new _ ⟨rfl, rfl⟩) fun obj s₁ h₁ => ?_
  obtain ⟨rfl, rfl⟩ := h₁
  have hS : (s.heap.push { cls := .type "list", data := .seq #[] }).get? s.heap.objs.size = some { cls := .type "list", data := .seq #[] } := Heap.get?_push_size _ rfl
  refine ⟨⟨_, hS, rfl⟩, PySem.F.args_list_init_2 _ _, lr_init (A := A.in1) hh (hit.at fun o e => Heap.get?_push_of_some _ e) (hl.push _) hne hn _ (Nat.ne_of_gt (Heap.lt_size hoi)) (Nat.ne_of_gt (Heap.lt_size hol)) hS (fun h' tk acc' c' hk hS' hacc => ?_)⟩
  exact ⟨rfl, hQ h' tk acc' c' (fun b o hb e => hk b o (Nat.ne_of_lt (Heap.lt_size e)) hb (Heap.get?_push_of_some _ e)) hS' hacc⟩
end
def tListRev (K : PySem.W.Frag) (te : TE) : TE := fun σ H Q => te σ H fun v H1 => ∃ (a : Addr) (xs : List V), v = .ref a ∧ SqL K H1 a xs ∧ ∀ q, H1 q = none → Q (.ref q) (upd H1 q (.lst xs.reverse))
section
variable {X : Cx}
theorem pe_listRev {e : Expr} {te : TE} {p p2 pos pos2 : Pos} (hc : X.calm = true) (hg : Gl X "list") (hm : X.mg "list" = none) (hg2 : Gl X "reversed") (hm2 : X.mg "reversed" = none) (he : PE X e te)
    (hs : starEach [e] X.env = (false, eval e X.env) :: starEach [] X.env := by rfl)
    (hs2 : starEach [.Call (.Name "reversed" p2) [e] [] pos2] X.env = (false, eval (.Call (.Name "reversed" p2) [e] [] pos2) X.env) :: starEach [] X.env := by rfl) :
    PE X (.Call (.Name "list" p) [.Call (.Name "reversed" p2) [e] [] pos2] [] pos) (tListRev X.K te) := by
  refine ⟨fun pins s σ H Q I h => ?_⟩
  refine Call_ (ld_blt I hg hm boot_list (PyProof.Rows.callWith_type1 (args_cons (Call_ (ld_blt I hg2 hm2 PyProof.Rows.boot_reversed (PyProof.Rows.callWith_type1 (args_cons (thn (he.run pins s σ H _ I h) fun u s1 ⟨v, H1, I1, r1, q1⟩ => args_nil ?_) hs) hs rfl))) hs2) hs2 rfl))
  obtain ⟨a, xs, ev, hq, q⟩ := q1
  subst ev
  obtain rfl : u = Value.ref a := r1
  obtain ⟨its, rv, p', hz⟩ := I1.list hq
  refine call_reversed_list p'.isList (args_nil ?_)
  have k0 : ∀ b o, s1.heap.get? b = some o → (s1.heap.push (revObj a ((its.toArray.size : Int) - 1))).get? b = some o := fun b o e => Heap.get?_push_of_some _ e
  have I2 : Inv X pins σ H1 { s1 with heap := s1.heap.push (revObj a ((its.toArray.size : Int) - 1)) } := I1.kept (t' := s1.toks) k0
  obtain ⟨f0, f1, f2, f3, f4, f5⟩ := I1.fpOk (H' := H1) (b := s1.heap.objs.size) (Nat.le_refl _) (I1.hok.fresh (Nat.le_refl _))
  have hl := p'.isList
  obtain ⟨ol, hol, _⟩ := id hl
  have hne : a ≠ s1.heap.objs.size := Nat.ne_of_lt (Heap.lt_size hol)
  have hn : its.toArray.size ≤ sizeLine := by rw [List.size_toArray, ← rv.length]; exact hz
  refine lr_call (s := { s1 with heap := s1.heap.push (revObj a ((its.toArray.size : Int) - 1)) }) (I1.ok.hd hc) ⟨_, Heap.get?_push_size _ rfl, rfl, rfl⟩ (hl.push _) hne hn fun h' tk acc c' hk hS hi => ?_
  have hsz : (s1.heap.push (revObj a ((its.toArray.size : Int) - 1))).objs.size = s1.heap.objs.size + 1 := size_push' _ _
  refine ⟨.ref _, upd H1 (s1.heap.push (revObj a ((its.toArray.size : Int) - 1))).objs.size (.lst xs.reverse), I1.laid (t' := tk) (fun b o e => hk b o (Nat.ne_of_lt (Heap.lt_size e)) (k0 b o e)) (by rw [hsz]; exact Nat.le_succ _) (show ObjOk X.prog X.w _ _ _ (.lst xs.reverse) from ⟨by rw [List.length_reverse]; exact hz, acc.toList, c', RT.vals_rev rv hi, by rw [Array.toArray_toList]; exact hS⟩), rfl, q _ (I1.hok.fresh (by rw [hsz]; exact Nat.le_succ _))⟩
def tListVals (te : TE) : TE := fun σ H Q => te σ H fun x H1 => ∃ (d : Addr) (kvs : List (Key × V)), x = .ref d ∧ Rd H1 d (.dK kvs) ∧ ∀ p, H1 p = none → Q (.ref p) (upd H1 p (.lst (kvs.map (·.2))))
theorem pe_listVals {e : Expr} {te : TE} {p apos cpos pos : Pos} (hc : X.calm = true) (he : PE X e te) (hg : Gl X "list") (hm : X.mg "list" = none) (hbase : attributeBase e "values" X.env (eval e X.env) = eval e X.env := by rfl) (hline : (apos.endLine == cpos.line) = true := by rfl)
    (hs : starEach [.Call (.Attribute e "values" apos) [] [] cpos] X.env = (false, eval (.Call (.Attribute e "values" apos) [] [] cpos) X.env) :: starEach [] X.env := by rfl) :
    PE X (.Call (.Name "list" p) [.Call (.Attribute e "values" apos) [] [] cpos] [] pos) (tListVals te) := by
  refine ⟨fun pins s σ H Q I hq => ?_⟩
  refine wpAny_Call_Name_kw (ld_blt I hg hm boot_list ?_)
  refine PyProof.Rows.callWith_type1 ?_ hs rfl
  rw [hs]
  show wpAny _ _ (spliced ((false, eval (.Call (.Attribute e "values" apos) [] [] cpos) X.env) :: backTo pos (starEach [] X.env))) _ _ s
  refine Calls.spliced_cons ?_
  refine wpAny_Call_method (T := "dict") (id := "dict.values") hbase rfl hline PySem.F.plainAttrs_dict PySem.F.slot_dict_values PySem.F.type_dict_values (thn (he.run pins s σ H _ I hq) fun u s1 ⟨x, H1, I1, rx, d, kvs, ex, hd, q⟩ => ?_)
  subst ex
  obtain rfl : u = Value.ref d := rx
  obtain ⟨hz, hs0, vs, kv, hdo⟩ := dk_rd I1.hok hd
  obtain ⟨ep, hat⟩ := hdo.dictAt
  have lk : kvs.length = vs.length := Paired.length kv
  have k0 : ∀ b ob, s1.heap.get? b = some ob → (s1.heap.push { cls := .type "dict_values", data := .fields #[.ref d] }).get? b = some ob := fun b ob q => Heap.get?_push_of_some _ q
  refine ⟨hdo.typeIs, hdo.mapOf.noDict, ?_⟩
  show wpAny _ _ (callWith cpos (.builtin "dict.values") [.ref d] [] []) _ X.xe s1
  refine method_meetsIn PySem.F.slot_dict_values PySem.F.entry_dict_values rfl (PySem.evalArgs_none ⟨rfl, hdo.typeIs, PySem.F.args_dict_values_1 _, _, meets_dict_values (mixKind X.prog X.w) d hs0, ⟨vs, hdo⟩, ?_⟩)
  refine Calls.spliced_nil ?_
  refine PySem.W.kdl_call (PySem.W.kdl_values (knd := mixKind X.prog X.w) (kvs := vs) (ep := ep)) (I1.ok.hd hc) ⟨⟨_, Heap.get?_push_size _ rfl, rfl, rfl⟩, hat.push _⟩ (by rw [← lk]; exact hz) fun h' tk acc c hk hS hacc => ?_
  have hsz : (s1.heap.push { cls := .type "dict_values", data := .fields #[.ref d] }).objs.size = s1.heap.objs.size + 1 := size_push' _ _
  refine ⟨.ref _, upd H1 (s1.heap.push { cls := .type "dict_values", data := .fields #[.ref d] }).objs.size (.lst (kvs.map (·.2))), I1.laid (t' := tk) (fun b o e => hk b o (k0 b o e)) (by rw [hsz]; exact Nat.le_succ _) (show ObjOk X.prog X.w _ _ _ (.lst (kvs.map (·.2))) from ⟨by rw [List.length_map]; exact hz, acc.toList, c, ?_, by rw [Array.toArray_toList]; exact hS⟩), rfl, q _ (I1.hok.fresh (by rw [hsz]; exact Nat.le_succ _))⟩
  refine vals_of_at (by rw [List.length_map, lk, Array.length_toList]; exact hacc.1.symm) fun j x w h1 h2 => ?_
  obtain ⟨k, hky⟩ := hacc.2 j w (by rw [← Array.getElem?_toList]; exact h2)
  rw [List.getElem?_map] at h1
  obtain ⟨pk, e1, e2⟩ := Option.map_eq_some_iff.mp h1
  subst e2
  obtain ⟨qv, g1, g2, g3⟩ := LiI.paired_get kv e1
  rw [hky] at g1
  cases g1
  exact g3
variable {G : GS} {W : WX}
def xlrev (a : XE) : XE := fun en st => (a en st).bind fun x st => match seqOf st x with
  | some ds => .ok (.cell st.length) (st ++ [.lst ds.reverse])
  | none => .bad
theorem se_lrev {e : Expr} {a : XE} {p p2 pos pos2 : Pos} (hK : X.K = G.K) (hc : X.calm = true) (hm : X.mg "list" = none) (hm2 : X.mg "reversed" = none) (ha : SE G W X e a) (hg : Gl X "list" := by rfl) (hg2 : Gl X "reversed" := by rfl)
    (hs : starEach [e] X.env = (false, eval e X.env) :: starEach [] X.env := by rfl)
    (hs2 : starEach [.Call (.Name "reversed" p2) [e] [] pos2] X.env = (false, eval (.Call (.Name "reversed" p2) [e] [] pos2) X.env) :: starEach [] X.env := by rfl) :
    SE G W X (.Call (.Name "list" p) [.Call (.Name "reversed" p2) [e] [] pos2] [] pos) (xlrev a) :=
  ⟨PE_imp (pe_listRev hc hg hm hg2 hm2 ha.pe hs hs2) fun σ H Q ⟨g, en, st, R, h⟩ => by
    refine ⟨g, en, st, R, (pX.bind h).imp fun x st1 g1 H1 l1 R1 h1 v rv => ?_⟩
    split at h1
    · rename_i ds hds
      obtain ⟨b, us, rfl, e2, e3⟩ := seqOf_H R1 rv hds
      refine ⟨b, us, rfl, by rw [hK]; exact e2, fun q hq => ?_⟩
      obtain ⟨l, R', r'⟩ := R1.new (c := .lst ds.reverse) hq ⟨_, rfl, e3.reverse⟩
      exact h1 _ _ l R' _ r'
    · exact h1.elim⟩
def xlvals (a : XE) : XE := fun en st => (a en st).bind fun x st => match dictOf st x with
  | some p => .ok (.cell st.length) (st ++ [.lst p.2])
  | none => .bad
theorem se_lvals {e : Expr} {a : XE} {p apos cpos pos : Pos} (hc : X.calm = true) (hm : X.mg "list" = none) (ha : SE G W X e a) (hg : Gl X "list" := by rfl) (hbase : attributeBase e "values" X.env (eval e X.env) = eval e X.env := by rfl) (hline : (apos.endLine == cpos.line) = true := by rfl)
    (hs : starEach [.Call (.Attribute e "values" apos) [] [] cpos] X.env = (false, eval (.Call (.Attribute e "values" apos) [] [] cpos) X.env) :: starEach [] X.env := by rfl) :
    SE G W X (.Call (.Name "list" p) [.Call (.Attribute e "values" apos) [] [] cpos] [] pos) (xlvals a) :=
  ⟨PE_imp (pe_listVals hc ha.pe hg hm hbase hline hs) fun σ H Q ⟨g, en, st, R, h⟩ => by
    refine ⟨g, en, st, R, (pX.bind h).imp fun x st1 g1 H1 l1 R1 h1 v rv => ?_⟩
    split at h1
    · rename_i q hq
      obtain ⟨b, ws, rfl, f2, f3, f4⟩ := dictOf_H R1 rv hq
      refine ⟨b, _, rfl, f2, fun r hr => ?_⟩
      rw [List.map_snd_zip (by omega)]
      obtain ⟨l, R', r'⟩ := R1.new (c := .lst q.2) hr ⟨_, rfl, f4⟩
      exact h1 _ _ l R' _ r'
    · exact h1.elim⟩
end
section
variable (en : En) (st : Sto)
@[simp] theorem ev_maxd (c : XA) (k : XE) : xmaxd c k en st = (c en st).bind fun ds st => (k en st).bind fun z st => match ds, z with
  | [d], .int z => match (seqOf st d).bind intsOf with
    | some ns => .ok (.int (maxD z ns)) st
    | none => .bad
  | _, _ => .bad := (rfl)
@[simp] theorem ev_sum (d : D) : bSum [d] st = match (seqOf st d).bind intsOf with
    | some ns => .ok (.int ns.sum) st
    | none => .bad := (rfl)
@[simp] theorem ev_sdelL (a b : XE) : sdelL a b en st = (a en st).bind fun x st => (b en st).bind fun y st => match x, y with
  | .cell i, .int k => match st[i]? with
    | some (.lst ds) => if ok62 k then match seqIndex? k ds.length with
      | some j => .ok (.nx, en) (st.set i (.lst (ds.eraseIdx j)))
      | none => .bad
      else .bad
    | _ => .bad
  | _, _ => .bad := (rfl)
@[simp] theorem ev_lrev (a : XE) : xlrev a en st = (a en st).bind fun x st => match seqOf st x with
  | some ds => .ok (.cell st.length) (st ++ [.lst ds.reverse])
  | none => .bad := (rfl)
@[simp] theorem ev_lvals (a : XE) : xlvals a en st = (a en st).bind fun x st => match dictOf st x with
  | some p => .ok (.cell st.length) (st ++ [.lst p.2])
  | none => .bad := (rfl)
end
@[simp] theorem ev_max1c (i : Nat) (st : Sto) : bMax1 [.cell i] st = match (seqOf st (.cell i)).bind intsOf with
    | some ns => if ns.isEmpty then .bad else .ok (.int (maxL ns)) st
    | none => .bad := (rfl)
@[simp] theorem ev_min1c (i : Nat) (st : Sto) : bMin1 [.cell i] st = match (seqOf st (.cell i)).bind intsOf with
    | some ns => if ns.isEmpty then .bad else .ok (.int (minL ns)) st
    | none => .bad := (rfl)
end Px
namespace Px
open PySem PySem.Spec L2
abbrev KT := List Key
def keysT : List D → Option KT
  | [] => some []
  | d :: ds => match keyOf d, keysT ds with
    | some k, some ks => some (k :: ks)
    | _, _ => none
def tget : List KT → List D → KT → Option D
  | j :: ks, u :: us, k => if j = k then some u else tget ks us k
  | _, _, _ => none
def trep : List KT → List D → KT → D → List D
  | j :: ks, u :: us, k, d => (if j = k then d else u) :: trep ks us k d
  | _, us, _, _ => us
def thas : List KT → KT → Bool
  | [], _ => false
  | j :: ks, k => decide (j = k) || thas ks k
def tput' (ks : List KT) (us : List D) (k : KT) (d : D) : List KT × List D := if thas ks k then (ks, trep ks us k d) else (ks ++ [k], us ++ [d])
section
variable {G : GS} {g : Gh}
theorem keysT_ok : ∀ {ds : List D} {vs : List V} {k : KT}, RepL G g ds vs → keysT ds = some k → vs = k.map kV
  | [], _, _, r, h => by cases r; cases h; rfl
  | d :: ds, vs, k, ⟨v, vr, e, r1, r2⟩, h => by
    simp only [keysT] at h
    split at h
    · rename_i a ks ha hks
      cases h
      subst e
      rw [keyOf_ok r1 ha, keysT_ok r2 hks]; rfl
    · cases h
theorem tget_ok : ∀ {ks : List KT} {us : List D} {vs : List V} {k : KT}, RepL G g us vs → (∀ d, tget ks us k = some d → ∃ v, valV (ks.zip vs) k = some v ∧ Rep G g d v) ∧ (ks.length = vs.length → tget ks us k = none → valV (ks.zip vs) k = none)
  | [], us, vs, k, _ => ⟨fun d h => by simp [tget] at h, fun _ _ => by simp [valV]⟩
  | j :: ks, [], vs, k, h => by
    cases h
    exact ⟨fun d h => by simp [tget] at h, fun l _ => by simp at l⟩
  | j :: ks, u :: us, vs, k, ⟨v, r, e, p, q⟩ => by
    subst e
    obtain ⟨h1, h2⟩ := tget_ok (ks := ks) (k := k) q
    have ez : (j :: ks).zip (v :: r) = (j, v) :: ks.zip r := rfl
    refine ⟨fun d h => ?_, fun l h => ?_⟩
    · simp only [tget] at h
      by_cases z : j = k
      · rw [if_pos z] at h; cases h
        exact ⟨v, by rw [ez, valV_pos (by exact z)], p⟩
      · rw [if_neg z] at h
        obtain ⟨w, hw, rw'⟩ := h1 d h
        exact ⟨w, by rw [ez, valV_neg (by exact z)]; exact hw, rw'⟩
    · simp only [tget] at h
      by_cases z : j = k
      · rw [if_pos z] at h; cases h
      · rw [if_neg z] at h
        rw [ez, valV_neg (by exact z)]
        exact h2 (by simpa using l) h
theorem thas_ok : ∀ {ks : List KT} {vs : List V} {k : KT}, ks.length = vs.length → thas ks k = ((ks.zip vs).any fun kv => decide (kv.1 = k))
  | [], vs, k, _ => by simp [thas]
  | j :: ks, [], k, l => by simp at l
  | j :: ks, v :: vs, k, l => by
    have := thas_ok (ks := ks) (vs := vs) (k := k) (by simpa using l)
    simp [thas, this]
theorem thas_val {ks : List KT} {vs : List V} {k : KT} (l : ks.length = vs.length) : thas ks k = (valV (ks.zip vs) k).isSome := by
  rw [thas_ok l, valV_any]
theorem trep_ok : ∀ {ks : List KT} {us : List D} {vs : List V} {k : KT} {d : D} {y : V}, ks.length = vs.length → RepL G g us vs → Rep G g d y →
    ∃ ws, (ks.zip vs).map (fun kv => if kv.1 = k then (kv.1, y) else kv) = ks.zip ws ∧ ks.length = ws.length ∧ RepL G g (trep ks us k d) ws
  | [], us, vs, k, d, y, l, r, _ => by
    cases vs with
    | nil => exact ⟨[], rfl, rfl, by cases us <;> exact r⟩
    | cons v vs => simp at l
  | j :: ks, [], vs, k, d, y, l, r, _ => by cases r; simp at l
  | j :: ks, u :: us, vs, k, d, y, l, ⟨v, r, e, p, q⟩, h => by
    subst e
    obtain ⟨ws, e1, e2, e3⟩ := trep_ok (k := k) (by simpa using l) q h
    refine ⟨(if j = k then y else v) :: ws, ?_, by simp [e2], _, ws, rfl, ?_, e3⟩
    · show (if j = k then (j, y) else (j, v)) :: List.map (fun kv => if kv.1 = k then (kv.1, y) else kv) (ks.zip r) = (j, _) :: ks.zip ws
      rw [e1]
      by_cases z : j = k
      · rw [if_pos z, if_pos z]
      · rw [if_neg z, if_neg z]
    · by_cases z : j = k
      · rw [if_pos z, if_pos z]; exact h
      · rw [if_neg z, if_neg z]; exact p
theorem tput_ok' {ks : List KT} {us : List D} {vs : List V} {k : KT} {d : D} {y : V} (l : ks.length = vs.length) (r : RepL G g us vs) (h : Rep G g d y) :
    ∃ ws, putK (ks.zip vs) k y = (tput' ks us k d).1.zip ws ∧ (tput' ks us k d).1.length = ws.length ∧ RepL G g (tput' ks us k d).2 ws := by
  unfold tput' putK
  rw [← thas_ok l]
  by_cases z : thas ks k = true
  · rw [if_pos z, if_pos z]
    exact trep_ok l r h
  · rw [if_neg z, if_neg z]
    refine ⟨vs ++ [y], ?_, by simp [l], r.append (.one h)⟩
    show _ = (ks ++ [k]).zip (vs ++ [y])
    rw [List.zip_append l]
    rfl
end
def dictT (st : Sto) : D → Option (List KT × List D)
  | .cell i => match st[i]? with
    | some (.dt ks us) => some (ks, us)
    | _ => none
  | .dt m ks us => if m = .frz ∨ m = .loan then some (ks, us) else none
  | _ => none
section
variable {G : GS} {W : WX} {X : Cx}
theorem dictT_H {g : Gh} {en : En} {st : Sto} {σ : L2.St} {H : Hp} {d : D} {v : V} {p : List KT × List D} (R : Rel G g en st σ H) (r : Rep G g d v) (h : dictT st d = some p) :
    ∃ a vs, v = .ref a ∧ Rd H a (.dT (p.1.zip vs)) ∧ p.1.length = vs.length ∧ RepL G g p.2 vs := by
  unfold dictT at h
  split at h
  · rename_i i
    split at h
    · rename_i ks us hi
      cases h
      obtain ⟨a, o, e1, e2, e3, vs, e4, e5, e6⟩ := R.isCell hi (by intro w; cases w) r
      subst e4
      exact ⟨a, vs, e1, .inl e3, e5, e6⟩
    · cases h
  · rename_i m ks us
    split at h
    · rename_i hm
      cases h
      obtain ⟨a, vs, e1, e2, e3, e4⟩ := r
      refine ⟨a, vs, e1, ?_, e3, e4⟩
      rcases hm with rfl | rfl
      · obtain ⟨o, e⟩ := e2
        exact .inr ⟨o, R.sF _ _ e⟩
      · exact rd_same R.sL e2
    · cases h
  · cases h
def xtnew : XE := fun _ st => .ok (.cell st.length) (st ++ [.dt [] []])
theorem se_tnew {pos : Pos} : SE G W X (.Dict [] [] pos) xtnew :=
  ⟨PE_imp pe_dnewT fun σ H Q ⟨g, en, st, R, h⟩ p hp => by
    obtain ⟨l, R', r'⟩ := R.new (c := .dt [] []) hp ⟨[], rfl, rfl, rfl⟩
    exact h _ _ l R' _ r'⟩
def xinD (b : Bool) (c : XA) (d : XE) : XE := fun en st => (c en st).bind fun ks st => if fitL ks.length then (d en st).bind fun y st => match dictT st y, keysT ks with
    | some p, some k => .ok (.bl (b == thas p.1 k)) st
    | _, _ => .bad
  else .bad
theorem tOpD_of {c : XA} {d : XE} {b : Bool} {σ : L2.St} {H : Hp} {Q : VK} (h : tE G W (xinD b c d) σ H Q) :
    tOp (fun y x H Q => ∃ a o, x = .ref a ∧ DGet H a y o ∧ Q (.bl (b == o.isSome)) H) (tTup (tA G W c)) (tE G W d) σ H Q := by
  obtain ⟨g, en, st, R, h⟩ := h
  refine ⟨g, en, st, R, (pX.bind h).imp fun ks st1 g1 H1 l1 R1 h1 vs rvs => ?_⟩
  split at h1
  · rename_i fl
    refine ⟨by rw [← rvs.length]; exact fitL_ok fl, fun p hp => ?_⟩
    obtain ⟨l, R', r'⟩ := R1.tup hp rvs
    refine ⟨_, en, st1, R', (pX.bind (pX.weak l h1)).imp fun y st2 g2 H2 l2 R2 h2 u ru => ?_⟩
    split at h2
    · rename_i q k hq hk
      obtain ⟨a, ws, e1, e2, e3, e4⟩ := dictT_H R2 ru hq
      have ek := keysT_ok rvs hk
      have at2 : g2.F p = some (.tup vs) := l2.F _ _ upd_same
      rw [thas_val e3] at h2
      exact ⟨a, _, e1, .inr ⟨_, k, p, e2, rfl, by rw [← ek]; exact R2.sF _ _ at2, rfl⟩, h2 g2 H2 (Le.refl _) R2 _ rfl⟩
    · exact h2.elim
  · exact h1.elim
theorem or_dictT (hu : X.A.units + 1 < cLine) : OpR X (compareOp .In) (fun y x H Q => ∃ a o, x = .ref a ∧ DGet H a y o ∧ Q (.bl (true == o.isSome)) H) :=
  OpR_imp (or_dict hu) fun y x H Q ⟨a, o, e, d, q⟩ => ⟨a, o, e, d, by cases h : o.isSome <;> rw [h] at q <;> exact q⟩
theorem or_dictTN (hu : X.A.units + 1 < cLine) : OpR X (compareOp .NotIn) (fun y x H Q => ∃ a o, x = .ref a ∧ DGet H a y o ∧ Q (.bl (false == o.isSome)) H) :=
  OpR_imp (or_dictN hu) fun y x H Q ⟨a, o, e, d, q⟩ => ⟨a, o, e, d, by cases h : o.isSome <;> rw [h] at q <;> exact q⟩
theorem se_inD {es : List Expr} {k : Nat} {b : Expr} {c : XA} {d : XE} {tpos pos : Pos} (hu : X.A.units + 1 < cLine) (ha : SA G W X es c) (hb : SE G W X b d) (hm : behindInMarks .In b = false := by first | exact nomark _ | rfl) : SE G W X (.Compare (.Tuple es k tpos) [.In] [b] pos) (xinD true c d) :=
  ⟨PE_imp (pe_cmpR (or_dictT hu) (pe_tup ha.pa) hb.pe hm) fun _ _ _ h => tOpD_of h⟩
theorem sb_inD {es : List Expr} {k : Nat} {b : Expr} {c : XA} {d : XE} {tpos pos : Pos} (hu : X.A.units + 1 < cLine) (ha : SA G W X es c) (hb : SE G W X b d) (hm : behindInMarks .In b = false := by first | exact nomark _ | rfl) : SB G W X (.Compare (.Tuple es k tpos) [.In] [b] pos) (xt (xinD true c d)) :=
  ⟨PT_imp (pt_cmpR (or_dictT hu) (pe_tup ha.pa) hb.pe hm) fun _ _ _ h => tTest_of (fun _ _ _ w => tOpD_of w) h⟩
theorem se_ninD {es : List Expr} {k : Nat} {b : Expr} {c : XA} {d : XE} {tpos pos : Pos} (hu : X.A.units + 1 < cLine) (ha : SA G W X es c) (hb : SE G W X b d) (hm : behindInMarks .NotIn b = false := by first | exact nomark _ | rfl) : SE G W X (.Compare (.Tuple es k tpos) [.NotIn] [b] pos) (xinD false c d) :=
  ⟨PE_imp (pe_cmpR (or_dictTN hu) (pe_tup ha.pa) hb.pe hm) fun _ _ _ h => tOpD_of h⟩
theorem sb_ninD {es : List Expr} {k : Nat} {b : Expr} {c : XA} {d : XE} {tpos pos : Pos} (hu : X.A.units + 1 < cLine) (ha : SA G W X es c) (hb : SE G W X b d) (hm : behindInMarks .NotIn b = false := by first | exact nomark _ | rfl) : SB G W X (.Compare (.Tuple es k tpos) [.NotIn] [b] pos) (xt (xinD false c d)) :=
  ⟨PT_imp (pt_cmpR (or_dictTN hu) (pe_tup ha.pa) hb.pe hm) fun _ _ _ h => tTest_of (fun _ _ _ w => tOpD_of w) h⟩
def gsubT (a : XE) (c : XA) : XG := fun z en st => (a en st).bind fun x st => (c en st).bind fun ds st => if fitL ds.length then match x with
    | .cell i => match st[i]? with
      | some (.dt ks us) => match keysT ds with
        | some k => if fitL (ks.length + 1) then .ok en (st.set i (.dt (tput' ks us k z).1 (tput' ks us k z).2)) else .bad
        | none => .bad
      | _ => .bad
    | _ => .bad
  else .bad
theorem sg_subT {o : Expr} {es : List Expr} {k : Nat} {a : XE} {c : XA} {tpos pos : Pos} (hu : X.A.units + 1 < cLine) (ho : SE G W X o a) (hi : SA G W X es c)
    (ha : ∀ v, assign (.Subscript o (.Tuple es k tpos) pos) X.env v = (do
      let ov ← holding [v] (eval o X.env)
      let iv ← holding [v, ov] (eval (.Tuple es k tpos) X.env)
      standAt pos
      holding [v, ov, iv] (setItem ov iv v)
      release [v, ov, iv] []) := by intro _; rfl) : SG G W X (.Subscript o (.Tuple es k tpos) pos) (gsubT a c) :=
  ⟨PG_imp (pg_sub ho.pe (pe_tup hi.pa) (pset_dict hu) ha) fun v σ H Q ⟨g, en, st, d, R, r, h⟩ => by
    refine ⟨g, en, st, R, (pG.bind h).imp fun x st1 g1 H1 l1 R1 h1 ov rov => ?_⟩
    refine ⟨g1, en, st1, R1, (pG.bind h1).imp fun ds st2 g2 H2 l2 R2 h2 vs rvs => ?_⟩
    split at h2
    · rename_i fl
      refine ⟨by rw [← rvs.length]; exact fitL_ok fl, fun p hp => ?_⟩
      split at h2
      · rename_i i
        split at h2
        · rename_i ks us hds
          split at h2
          · rename_i kk hk
            split at h2
            · rename_i hf
              obtain ⟨l, R', r'⟩ := R2.tup hp rvs
              obtain ⟨a', ob, e1, e2, e3, ws, e4, e5, e6⟩ := R'.isCell hds (by intro w; cases w) ((rov.mono l2).mono l)
              subst e4
              obtain ⟨ws', f1, f2, f3⟩ := tput_ok' (k := kk) e5 e6 ((r.mono (l1.trans l2)).mono l)
              have ek := keysT_ok rvs hk
              refine ⟨a', _, e1, .inr ⟨_, kk, p, e3, rfl, by rw [← ek]; exact upd_same, ?_, rfl⟩, ?_⟩
              · have := fitL_ok hf
                rw [List.length_zip, ← e5, Nat.min_self]
                omega
              · exact h2 _ σ _ l (R'.put hds (by intro w; cases w) e2 ⟨ws', by rw [f1], f2, f3⟩)
            · exact h2.elim
          · exact h2.elim
        · exact h2.elim
      · exact h2.elim
    · exact h2.elim⟩
variable (en : En) (st : Sto)
@[simp] theorem ev_tnew : xtnew en st = .ok (.cell st.length) (st ++ [.dt [] []]) := (rfl)
@[simp] theorem ev_inD (b : Bool) (c : XA) (d : XE) : xinD b c d en st = (c en st).bind fun ks st => if fitL ks.length then (d en st).bind fun y st => match dictT st y, keysT ks with
    | some p, some k => .ok (.bl (b == thas p.1 k)) st
    | _, _ => .bad
  else .bad := (rfl)
@[simp] theorem ev_gsubT (a : XE) (c : XA) (z : D) : gsubT a c z en st = (a en st).bind fun x st => (c en st).bind fun ds st => if fitL ds.length then match x with
    | .cell i => match st[i]? with
      | some (.dt ks us) => match keysT ds with
        | some k => if fitL (ks.length + 1) then .ok en (st.set i (.dt (tput' ks us k z).1 (tput' ks us k z).2)) else .bad
        | none => .bad
      | _ => .bad
    | _ => .bad
  else .bad := (rfl)
@[simp] theorem keysT_nil : keysT [] = some [] := (rfl)
@[simp] theorem keysT_int (i : Int) (ds : List D) : keysT (.int i :: ds) = (keysT ds).map (Sum.inl i :: ·) := by
  simp only [keysT, keyOf]
  cases keysT ds <;> rfl
@[simp] theorem dictT_cell (i : Nat) : dictT st (.cell i) = match st[i]? with
    | some (.dt ks us) => some (ks, us)
    | _ => none := (rfl)
@[simp] theorem dictT_frz (ks : List KT) (us : List D) : dictT st (.dt .frz ks us) = some (ks, us) := (rfl)
@[simp] theorem dictT_loan (ks : List KT) (us : List D) : dictT st (.dt .loan ks us) = some (ks, us) := (rfl)
end
end Px
namespace Px
open PySem PySem.Spec L2
def frame (nl : Nat) (ds : List D) : En := ds.map some ++ List.replicate nl none
def spS (G : GS) (np nl : Nat) (body : XS) : Sp := fun vs H Q E => ∃ (g : Gh) (ds : List D) (st : Sto), Rel G g [] st [] H ∧ RepL G g ds vs ∧ ds.length = np ∧
  match body (frame nl ds) st with
  | .ok (.rt d, _) st' => ∀ g' H' v, Le g g' → Rel G g' [] st' [] H' → Rep G g' d v → Q v H'
  | .ok (.nx, _) st' => ∀ g' H', Le g g' → Rel G g' [] st' [] H' → Q .non H'
  | .exc c xs _ st' => ∀ g' H' d, Le g g' → Rel G g' [] st' [] H' → ExcRep G g' H' xs d → E (.ref (G.exc c)) d H'
  | _ => False
section
variable {G : GS} {g : Gh} {en : En} {st : Sto} {σ : L2.St} {H : Hp}
theorem Rel.bare (R : Rel G g en st σ H) : Rel G g [] st [] H := ⟨R.sF, R.sL, rfl, fun i d e => by simp at e, R.cell, R.len, R.inj, R.nd⟩
theorem Rel.frame (R : Rel G g en st σ H) {ds : List D} {vs : List V} (r : RepL G g ds vs) (nl : Nat) : Rel G g (Px.frame nl ds) st (vs.map some ++ List.replicate nl none) H := by
  unfold Px.frame
  refine ⟨R.sF, R.sL, by simp [r.length], fun i d e => ?_, R.cell, R.len, R.inj, R.nd⟩
  by_cases hi : i < ds.length
  · rw [List.getElem?_append_left (by simpa using hi), List.getElem?_map] at e
    obtain ⟨d', hd, e'⟩ := Option.map_eq_some_iff.mp e
    cases e'
    obtain ⟨v, hv, rv⟩ := r.get hd
    exact ⟨v, by rw [List.getElem?_append_left (by simp; rw [← r.length]; exact hi), List.getElem?_map, hv]; rfl, rv⟩
  · rw [List.getElem?_append_right (by simpa using hi)] at e
    have := List.mem_of_getElem? e
    simp at this
end
section
variable {P : Program} {w : World} {mg : Str → Option Value} {base : Heap}
theorem bodyS_ok {G : GS} {qual : Str} {sc : Scope} {bd : List Stmt} {f : Addr} {N ps : List Str} {k np nl : Nat} {body : XS} (S : FnScope N ps sc) (hp : ps.length = np) (hl : N.length - np = nl)
    (hb : ∀ (cdv : Value) (A : Around) (outer : List Env) (s : Shared) (H : Hp) (E : XK), Room k (A.deeper (PyProof.Rows.envOfC qual sc s.heap.objs.size f cdv)) →
      Bd G (WB E) (cxOf (L2.CX P w) P w G.K mg base N qual sc f cdv A outer s H E) → SL G (WB E) (cxOf (L2.CX P w) P w G.K mg base N qual sc f cdv A outer s H E) bd body) :
    ∀ (cdv : Value) (A : Around) (outer : List Env) (s : Shared) (H : Hp) (vs : List V) (Q : VK) (E : XK), Room k (A.deeper (PyProof.Rows.envOfC qual sc s.heap.objs.size f cdv)) → spS G np nl body vs H Q E →
      ∃ t, PSs (cxOf (L2.CX P w) P w G.K mg base N qual sc f cdv A outer s H E) bd t ∧ t { nx := fun _ H' => Q .non H', rt := Q } (L2.start N vs) H := by
  intro cdv A outer s H vs Q E hr h
  have bd' : Bd G (WB E) (cxOf (L2.CX P w) P w G.K mg base N qual sc f cdv A outer s H E) := ⟨rfl, S.nd, rfl, takes_of rfl rfl rfl rfl, passes_of rfl⟩
  refine ⟨tS G (WB E) body, (hb cdv A outer s H E hr bd').ps, ?_⟩
  obtain ⟨g, ds, st, R, r, hlen, h⟩ := h
  have es : L2.start N vs = vs.map some ++ List.replicate nl none := by
    unfold L2.start
    rw [← r.length, hlen, hl]
  rw [es]
  refine ⟨g, _, st, R.frame r nl, ?_⟩
  cases e : body (frame nl ds) st with
  | bad => rw [e] at h; exact h.elim
  | exc c xs en st' =>
    rw [e] at h
    exact fun g' σ' H' d l R' hx => h g' H' d l R'.bare hx
  | ok p st' =>
    obtain ⟨fl, en⟩ := p
    rw [e] at h
    intro g' σ' H' l R'
    cases fl with
    | nx => exact h g' H' l R'.bare
    | bk => exact h.elim
    | ct => exact h.elim
    | rt d => exact fun v rv => h g' H' v l R'.bare rv
theorem fn_okS {G : GS} {x qual : Str} {st : Stmt} {f : Addr} {fd : FuncData} {N ps : List Str} {k np nl : Nat} {body : XS} (F : Fun G.K x qual st f fd) (S : FnScope N ps (defScope st)) (hp : ps.length = np) (hl : N.length - np = nl)
    (hb : ∀ (cdv : Value) (A : Around) (outer : List Env) (s : Shared) (H : Hp) (E : XK), Room k (A.deeper (PyProof.Rows.envOfC qual (defScope st) s.heap.objs.size f cdv)) →
      Bd G (WB E) (cxOf (L2.CX P w) P w G.K mg base N qual (defScope st) f cdv A outer s H E) → SL G (WB E) (cxOf (L2.CX P w) P w G.K mg base N qual (defScope st) f cdv A outer s H E) (defBody st) body) :
    FnOk P w G.K mg base (L2.CX P w) (k + 1) f fd ps (spS G np nl body) :=
  F.okX S (fun vs H Q E h => by
    obtain ⟨g, ds, st, _, r, h1, _⟩ := h
    rw [hp, ← h1, r.length]) fun cdv A outer s H vs Q E hr h => bodyS_ok S hp hl hb cdv A outer s H vs Q E hr h
structure CallS (P : Program) (w : World) (G : GS) (mg : Str → Option Value) (base : Heap) (x : Str) (k np nl : Nat) (body : XS) : Prop where
  ex : ∃ (f : Addr) (fd : FuncData) (ps : List Str), FnOk P w G.K mg base (L2.CX P w) k f fd ps (spS G np nl body) ∧ mg x = some (.ref f) ∧ PySem.W.keepIn G.K (.ref f) = true ∧ Binds G.K fd ps []
structure MethS (P : Program) (w : World) (G : GS) (mg : Str → Option Value) (base : Heap) (c : Nat) (m : Str) (k np nl : Nat) (body : XS) : Prop where
  cl : ClsF G c
  no : m ∉ G.flds c
  ex : ∃ (f : Addr) (fd : FuncData) (ps : List Str), Meth G.K (G.cls c) m f ∧ FnOk P w G.K mg base (L2.CX P w) k f fd ps (spS G np nl body) ∧ Binds G.K fd ps []
theorem callS_of {G : GS} {x : Str} {k np nl : Nat} {body : XS} {st : Stmt} {f : Addr} {ps : List Str} {oc : Value} {od an : Option Addr} {osl : Array (Option Value)} {kV doc pm cdv ct : Value}
    (lk : G.K.lookup f = some ⟨oc, od, .func (PySem.W.fnOf x x (defArgs st) (defBody st) (defScope st) .none kV doc pm an cdv ct), osl⟩) (c : PySem.W.codeIn G.K cdv x = true) (kp : PySem.W.keepIn G.K (.ref f) = true) (hm : mg x = some (.ref f))
    (hb : ∀ (kV doc pm : Value) (an : Option Addr) (cdv ct : Value) (us : List Value), us.length = ps.length → bindArgs (PySem.W.fnOf x x (defArgs st) (defBody st) (defScope st) .none kV doc pm an cdv ct) ⟨us, []⟩ = pure (ps.zip us))
    (ok : ∀ {f : Addr} {fd : FuncData}, Fun G.K x x st f fd → FnOk P w G.K mg base (L2.CX P w) k f fd ps (spS G np nl body)) : CallS P w G mg base x k np nl body :=
  have F := fun_mk (st := st) lk c kp
  ⟨f, _, ps, ok F, hm, kp, F.binds hb⟩
theorem methS_of {G : GS} {st : Stmt} {f : Addr} {ps : List Str} {oc : Value} {od an : Option Addr} {osl : Array (Option Value)} {kV doc pm cdv ct : Value} {x qual : Str} {c k np nl : Nat} {body : XS} (cl : ClsF G c) (no : x ∉ G.flds c) (hm : Meth G.K (G.cls c) x f)
    (lk : G.K.lookup f = some ⟨oc, od, .func (PySem.W.fnOf x qual (defArgs st) (defBody st) (defScope st) .none kV doc pm an cdv ct), osl⟩) (cd : PySem.W.codeIn G.K cdv qual = true) (kp : PySem.W.keepIn G.K (.ref f) = true)
    (hb : ∀ (kV doc pm : Value) (an : Option Addr) (cdv ct : Value) (us : List Value), us.length = ps.length → bindArgs (PySem.W.fnOf x qual (defArgs st) (defBody st) (defScope st) .none kV doc pm an cdv ct) ⟨us, []⟩ = pure (ps.zip us))
    (ok : ∀ {f : Addr} {fd : FuncData}, Fun G.K x qual st f fd → FnOk P w G.K mg base (L2.CX P w) k f fd ps (spS G np nl body)) : MethS P w G mg base c x k np nl body :=
  have F := fun_mk (st := st) lk cd kp
  ⟨cl, no, f, _, ps, hm, ok F, F.binds hb⟩
end
def runS (np nl : Nat) (body : XS) (ds : List D) (en : En) (st : Sto) : R D := if ds.length = np then match body (frame nl ds) st with
    | .ok (.rt d, _) st' => .ok d st'
    | .ok (.nx, _) st' => .ok .non st'
    | .exc c xs _ st' => .exc c xs en st'
    | _ => .bad
  else .bad
section
variable {G : GS} {W : WX} {X : Cx}
theorem runS_sp {g : Gh} {en : En} {st : Sto} {σ : L2.St} {H : Hp} {np nl : Nat} {body : XS} {ds : List D} {vs : List V} {Q : VK} (R : Rel G g en st σ H) (r : RepL G g ds vs)
    (h : pX G W g en σ (runS np nl body ds en st) fun d g' _ H' => ∀ v, Rep G g' d v → Q v H') : spS G np nl body vs H Q (fun cls d H' => W cls d σ H') := by
  unfold runS at h
  split at h
  · rename_i hl
    refine ⟨g, ds, st, R.bare, r, hl, ?_⟩
    cases e : body (frame nl ds) st with
    | bad => rw [e] at h; exact h.elim
    | exc c xs en' st' =>
      rw [e] at h
      exact fun g' H' d l R' hx => h g' σ H' d l (R.envOf l R') hx
    | ok p st' =>
      obtain ⟨fl, en'⟩ := p
      rw [e] at h
      cases fl with
      | nx => exact fun g' H' l R' => h g' H' l (R.envOf l R') _ rfl
      | bk => exact h.elim
      | ct => exact h.elim
      | rt d => exact fun g' H' v l R' rv => h g' H' l (R.envOf l R') v rv
  · exact h.elim
def xcallS (np nl : Nat) (body : XS) (c : XA) : XE := fun en st => (c en st).bind fun ds st => runS np nl body ds en st
theorem se_callS {k np nl : Nat} {body : XS} {x : Str} {p pos : Pos} {e : Expr} {es : List Expr} {c : XA} (hK : X.K = G.K) (tk : Takes X W) (F : CallS X.prog X.w G X.mg X.base x k np nl body)
    (hr : Room k X.A) (ha : SA G W X (e :: es) c) (hg : Gl X x := by rfl) (hdb : (x == ("__debug__" : Str)) = false := by decide)
    (he : starEach (e :: es) X.env = (false, eval e X.env) :: starEach es X.env := by rfl) (hpl : (backTo pos (starEach es X.env)).any (·.1) = false := by rfl) : SE G W X (.Call (.Name x p) (e :: es) [] pos) (xcallS np nl body c) := by
  obtain ⟨f, fd, ps, h1, h2, h3, h4⟩ := F.ex
  rw [← hK] at h1 h3 h4
  exact ⟨PE_imp (pe_callS h1 hr hg h2 h3 h4 (fun σ => passAt tk σ) ha.pa hdb he hpl) fun σ H Q ⟨g, en, st, R, h⟩ => by
    refine ⟨g, en, st, R, (pX.bind h).imp fun ds st1 g1 H1 l1 R1 h1 vs rvs => ?_⟩
    exact runS_sp R1 rvs h1⟩
def xmcallS (c np nl : Nat) (body : XS) (o : XE) (a : XA) : XE := fun en st => (o en st).bind fun x st => if clsOf (objOf st x) = some c then (a en st).bind fun ds st => runS np nl body (x :: ds) en st else .bad
def xmcallS0 (c np nl : Nat) (body : XS) (o : XE) : XE := fun en st => (o en st).bind fun x st => if clsOf (objOf st x) = some c then runS np nl body [x] en st else .bad
theorem se_mcallS {c k np nl : Nat} {body : XS} {m : Str} {pos apos : Pos} {e o : Expr} {es : List Expr} {oc : XE} {a : XA} {pl : Sem Bool} (hK : X.K = G.K) (tk : Takes X W) (F : MethS X.prog X.w G X.mg X.base c m k np nl body) (hr : Room k X.A) (ho : SE G W X o oc) (ha : SA G W X (e :: es) a)
    (hst : starEach (e :: es) X.env = (false, eval e X.env) :: starEach es X.env := by rfl) (hpl : (backTo pos (starEach es X.env)).any (·.1) = false := by rfl)
    (ht : eval (.Call (.Attribute o m apos) (e :: es) [] pos) X.env = (do
      let ov ← eval o X.env
      standAt apos.atName
      let (f, first) ← holding [ov] (getMethod ov m pl)
      callWith pos f first (backTo pos (starEach (e :: es) X.env)) (backToKw pos (keywordEach [] X.env))) := by rfl) :
    SE G W X (.Call (.Attribute o m apos) (e :: es) [] pos) (xmcallS c np nl body oc a) := by
  obtain ⟨f, fd, ps, h1, h2, h3⟩ := F.ex
  have cl := F.cl.cl
  rw [← hK] at h1 h2 h3 cl
  refine ⟨PE_imp (pe_methS ho.pe cl h1 h2 hr h3 (fun σ => passAt tk σ) ha.pa hst hpl ht) fun σ H Q ⟨g, en, st, R, h⟩ => ?_⟩
  refine ⟨g, en, st, R, (pX.bind h).imp fun x st1 g1 H1 l1 R1 h1 v rv => ?_⟩
  split at h1
  · rename_i hc
    obtain ⟨a', dx, vs, e1, e2⟩ := clsOf_H R1 rv hc
    refine ⟨a', dx, _, e1, e2, zip_none F.no, g1, en, st1, R1, (pX.bind h1).imp fun ds st2 g2 H2 l2 R2 h2 us rus => ?_⟩
    exact runS_sp R2 (ds := x :: ds) (vs := v :: us) ⟨v, us, rfl, rv.mono l2, rus⟩ h2
  · exact h1.elim
theorem se_mcallS0 {c k np nl : Nat} {body : XS} {m : Str} {pos apos : Pos} {o : Expr} {oc : XE} {pl : Sem Bool} (hK : X.K = G.K) (tk : Takes X W) (F : MethS X.prog X.w G X.mg X.base c m k np nl body) (hr : Room k X.A) (ho : SE G W X o oc)
    (ht : eval (.Call (.Attribute o m apos) [] [] pos) X.env = (do
      let ov ← eval o X.env
      standAt apos.atName
      let (f, first) ← holding [ov] (getMethod ov m pl)
      callWith pos f first (backTo pos (starEach [] X.env)) (backToKw pos (keywordEach [] X.env))) := by rfl) :
    SE G W X (.Call (.Attribute o m apos) [] [] pos) (xmcallS0 c np nl body oc) := by
  obtain ⟨f, fd, ps, h1, h2, h3⟩ := F.ex
  have cl := F.cl.cl
  rw [← hK] at h1 h2 h3 cl
  refine ⟨PE_imp (pe_methS0 ho.pe cl h1 h2 hr h3 (fun σ => passAt tk σ) ht) fun σ H Q ⟨g, en, st, R, h⟩ => ?_⟩
  refine ⟨g, en, st, R, (pX.bind h).imp fun x st1 g1 H1 l1 R1 h1 v rv => ?_⟩
  split at h1
  · rename_i hc
    obtain ⟨a', dx, vs, e1, e2⟩ := clsOf_H R1 rv hc
    refine ⟨a', dx, _, e1, e2, zip_none F.no, ?_⟩
    exact runS_sp R1 (ds := [x]) (vs := [v]) (.one rv) h1
  · exact h1.elim
variable (en : En) (st : Sto)
@[simp] theorem ev_callS (np nl : Nat) (body : XS) (c : XA) : xcallS np nl body c en st = (c en st).bind fun ds st => runS np nl body ds en st := (rfl)
@[simp] theorem ev_mcallS (c np nl : Nat) (body : XS) (o : XE) (a : XA) : xmcallS c np nl body o a en st = (o en st).bind fun x st => if clsOf (objOf st x) = some c then (a en st).bind fun ds st => runS np nl body (x :: ds) en st else .bad := (rfl)
@[simp] theorem ev_mcallS0 (c np nl : Nat) (body : XS) (o : XE) : xmcallS0 c np nl body o en st = (o en st).bind fun x st => if clsOf (objOf st x) = some c then runS np nl body [x] en st else .bad := (rfl)
end
end Px
namespace Px
open PySem PySem.Spec L2
section
variable {X : Cx}
theorem pe_unl {e : Expr} {t : TE} (h : PE X e t) : PE X e (fun σ H Q => t σ H fun v H' => unl X (Q v) H') := by
  refine ⟨fun pins s σ H Q I hw => ?_⟩
  refine thn (h.run pins s σ H _ I hw) fun u s1 ⟨x, H1, I1, rx, q⟩ => ?_
  obtain ⟨H2, I2, q⟩ := unl_run I1 q
  exact ⟨x, H2, I2, rx, q⟩
end
section
variable {G : GS} {W : WX} {X : Cx}
theorem lc_go {own : List Nat} {it : Itm} {J : It} {p : Pat} {c : XT} {e : XE} {σ : L2.St} {Q : VK} {g1 : Gh} {en : En} {st1 : Sto} {H1 : Hp} (ho : ∀ i ∈ p.ns, i ∈ own) (R1 : Rel G g1 en st1 σ H1)
    (h1 : pX G W g1 en σ (R.quiet ((cloop own st1.length it.src p.x c e en it.its (st1 ++ [.lst []])).bind fun _ st' => .ok (.cell st1.length) st') en) fun d g' _ H' => ∀ v, Rep G g' d v → Q v H') (hJ : Walks G g1 it J) :
    tLc (fun _ H K => K J H) (p.g G.K) (tT G W0 c) (tE G W0 e) own σ H1 Q := by
  intro A hA
  obtain ⟨l2, R2, r2⟩ := R1.new (c := .lst []) hA ⟨[], rfl, rfl⟩
  have P0 : cP G Q σ en st1.length { g1 with as := g1.as ++ [A] } (cloop own st1.length it.src p.x c e en it.its (st1 ++ [.lst []])) := by
    unfold Px.R.quiet at h1
    cases e1 : cloop own st1.length it.src p.x c e en it.its (st1 ++ [.lst []]) with
    | ok u st' => rw [e1] at h1; exact fun g' H' l R' => h1 g' H' (l2.trans l) R'
    | exc _ _ _ _ => rw [e1] at h1; exact h1.elim
    | bad => rw [e1] at h1; exact h1.elim
  refine ⟨fun i m H => ∃ g s, Le { g1 with as := g1.as ++ [A] } g ∧ Rel G g en s σ H ∧ m = it.its.length - i ∧ i ≤ it.its.length ∧ cP G Q σ en st1.length g (cloop own st1.length it.src p.x c e en (it.its.drop i) s),
    ⟨it.its.length, _, _, Le.refl _, R2, by simp, Nat.zero_le _, by simpa using P0⟩, ?_⟩
  rintro i m H ⟨g, s, l, R, rfl, hi, hP⟩
  by_cases hlt : i < it.its.length
  · have hd : it.its[i]? = some it.its[i] := by simp [hlt]
    rw [List.drop_eq_getElem_cons hlt] at hP
    unfold cloop at hP
    by_cases ok : okSrc it.src s = true
    · rw [if_pos ok] at hP
      obtain ⟨_, q⟩ := hJ g en s σ H i (l2.trans l) R ok
      obtain ⟨go, yl⟩ := q _ hd
      refine .inr ⟨go, fun H' => ∃ g s, Le { g1 with as := g1.as ++ [A] } g ∧ Rel G g en s σ H' ∧ cP G Q σ en st1.length g (cloop own st1.length it.src p.x c e en (it.its.drop (i + 1)) s), fun H' ⟨g', s', l', R', h'⟩ => ⟨_, by omega, g', s', l', R', rfl, hlt, h'⟩, fun x H' y => ?_⟩
      obtain ⟨g3, l3, R3, r3⟩ := yl x H' y
      cases e1 : p.x it.its[i] (wipeE en own) s with
      | bad => rw [e1] at hP; exact hP.elim
      | exc _ _ _ _ => rw [e1] at hP; exact hP.elim
      | ok en2 s2 =>
        rw [e1, bind_ok] at hP
        refine pat_ok p it.its[i] x (wipeE en own) en2 s s2 (L2.wipe σ own) _ (R3.wipe own) r3 e1 ho fun es σ2 R4 w2 => ⟨w2.trans (wipe_wipe σ own), ?_⟩
        subst es
        cases e2 : c en2 s2 with
        | bad => rw [e2] at hP; exact hP.elim
        | exc _ _ _ _ => rw [e2] at hP; exact hP.elim
        | ok b s3 =>
          rw [e2, bind_ok] at hP
          refine ⟨g3, en2, s2, R4, ?_⟩
          rw [e2]
          intro g4 H4 l4 R5
          cases b with
          | false =>
            rw [if_neg Bool.false_ne_true] at hP ⊢
            refine ⟨g4, s3, l.trans (l3.trans l4), R3.envOf l4 R5, ?_⟩
            exact cP.weak (l3.trans l4) hP
          | true =>
            rw [if_pos rfl] at hP ⊢
            cases e4 : e en2 s3 with
            | bad => rw [e4] at hP; exact hP.elim
            | exc _ _ _ _ => rw [e4] at hP; exact hP.elim
            | ok yv s4 =>
              rw [e4, bind_ok] at hP
              refine ⟨g4, en2, s3, R5, ?_⟩
              rw [e4]
              intro g5 H5 l5 R6 v rv
              have lA : Le { g1 with as := g1.as ++ [A] } g5 := l.trans (l3.trans (l4.trans l5))
              have hat : g5.as[st1.length]? = some A := lA.as _ _ (by show (g1.as ++ [A])[st1.length]? = some A; rw [← R1.len]; simp)
              split at hP
              · rename_i acc hacc
                split at hP
                · rename_i hz
                  obtain ⟨a', o, e6, e7, e8, vs, e9, e10⟩ := R6.isCell hacc (by intro z; cases z) (v := .ref A) ⟨A, hat, rfl⟩
                  cases e6
                  subst e9
                  refine ⟨vs, e8, by rw [← e10.length, sizeLine_eq]; exact of_decide_eq_true hz, g5, s4.set st1.length (.lst (acc ++ [yv])), lA, ?_, ?_⟩
                  · have R7 := R6.put hacc (by intro z; cases z) hat (c' := .lst (acc ++ [yv])) ⟨_, rfl, e10.append (.one rv)⟩
                    exact R3.envOf (l4.trans l5) R7
                  · exact cP.weak (l3.trans (l4.trans l5)) hP
                · exact hP.elim
              · exact hP.elim
    · rw [if_neg ok] at hP; exact hP.elim
  · have e5 : i = it.its.length := by omega
    subst e5
    rw [List.drop_length] at hP
    unfold cloop at hP
    by_cases ok : okSrc it.src s = true
    · rw [if_pos ok] at hP
      exact .inl ⟨(hJ g en s σ H _ (l2.trans l) R ok).1 (Nat.le_refl _), hP g H (Le.refl _) R _ (r2.mono l)⟩
    · rw [if_neg ok] at hP; exact hP.elim
theorem back_lk {g : Gh} {a : Addr} {kvs : List (Key × V)} {od : Obj} (hL : g.L a = some (.dK kvs)) (hF : g.F a = none) : ∀ g' (σ' : L2.St) H' (en' : En) (st' : Sto), Le (g.lockL a (.frz od (.dK kvs))) g' → Rel G g' en' st' σ' H' → ∃ g'', Le g g'' ∧ Rel G g'' en' st' σ' (upd H' a (.dK kvs)) ∧ (∀ d v, Rep G g' d v → Rep G g'' d v) ∧ H' a = some (.frz od (.dK kvs)) := by
    intro g' σ' H' en' st' l R
    have eL : g'.L = upd g.L a (.frz od (.dK kvs)) := l.L
    have la : g'.L a = some (.frz od (.dK kvs)) := by rw [eL]; exact upd_same
    have hFa : g'.F a = none := by
      cases e : g'.F a with
      | none => rfl
      | some u =>
        rcases l.nf a u e with z | z
        · have z' : g.F a = some u := z
          rw [hF] at z'; cases z'
        · have z' : upd g.L a (.frz od (.dK kvs)) a = none := z
          rw [upd_same] at z'; cases z'
    have eb : g.L = upd g'.L a (.dK kvs) := by
      funext b
      rw [eL, upd_upd]
      by_cases hb : b = a
      · subst hb; rw [upd_same]; exact hL
      · rw [upd_ne hb]
    have h1 : Rd g'.L a (.dK kvs) := .inr ⟨od, la⟩
    have h2 : Rd ({ g' with L := g.L } : Gh).L a (.dK kvs) := .inl hL
    have hLb : ∀ b, b ≠ a → ({ g' with L := g.L } : Gh).L b = g'.L b := fun b hb => by show g.L b = g'.L b; rw [eb, upd_ne hb]
    refine ⟨{ g' with L := g.L }, ⟨l.F, rfl, l.as, fun b o e => ?_⟩, R.lk (g' := { g' with L := g.L }) rfl rfl la eb h1 h2 hFa, fun d v rv => Rep.lk (g := g') (g' := { g' with L := g.L }) rfl rfl hLb h1 h2 d v rv, R.sL a _ la⟩
    rcases l.nf b o e with z | z
    · exact .inl z
    · have z' : upd g.L a (.frz od (.dK kvs)) b = none := z
      by_cases hb : b = a
      · subst hb; rw [upd_same] at z'; cases z'
      · rw [upd_ne hb] at z'; exact .inr z'
theorem pX.lock {r : R D} {Q : VK} {en : En} {σ : L2.St} {g : Gh} {a : Addr} {kvs : List (Key × V)} {od : Obj} (h : pX G W g en σ (R.quiet r en) fun d g' _ H' => ∀ v, Rep G g' d v → Q v H') (hL : g.L a = some (.dK kvs)) (hF : g.F a = none) (hn : ∀ o' u', X.H_0 a ≠ some (.frz o' u')) :
    pX G W (g.lockL a (.frz od (.dK kvs))) en σ (R.quiet r en) fun d g' _ H' => ∀ v, Rep G g' d v → unl X (Q v) H' := by
  cases r with
  | bad => exact h
  | exc c ds en st => exact h.elim
  | ok d st =>
    intro g' H' l R v rv
    obtain ⟨g'', l2, R2, rp, ha⟩ := back_lk (od := od) hL hF g' σ H' en st l R
    exact .inr ⟨a, od, _, ha, hn, h g'' _ l2 R2 v (rp d v rv)⟩
def ikeysL (c : XE) : XI := fun en st => (c en st).bind fun d st => match d with
  | .dk .frz ks _ => .ok ⟨ks.map keyD, []⟩ st
  | .dk .loan ks _ => .ok ⟨ks.map keyD, []⟩ st
  | _ => .bad
theorem lcL_of {own : List Nat} {ci : XE} {p : Pat} {c : XT} {e : XE} {σ : L2.St} {H : Hp} {Q : VK} (ho : ∀ i ∈ p.ns, i ∈ own)
    (h : tE G W (xlc own (ikeysL ci) p.x c e) σ H Q) : tLc (iKeysL X (tE G W ci)) (p.g G.K) (tT G W0 c) (tE G W0 e) own σ H (fun v H' => unl X (Q v) H') := by
  obtain ⟨g, en, st, R, h⟩ := h
  have h' : pX G W g en σ ((ci en st).bind fun d st => match d with
      | .dk .frz ks _ => Px.R.quiet ((cloop own st.length [] p.x c e en (ks.map keyD) (st ++ [.lst []])).bind fun _ st' => .ok (.cell st.length) st') en
      | .dk .loan ks _ => Px.R.quiet ((cloop own st.length [] p.x c e en (ks.map keyD) (st ++ [.lst []])).bind fun _ st' => .ok (.cell st.length) st') en
      | _ => .bad) fun d g' _ H' => ∀ v, Rep G g' d v → Q v H' := by
    have e1 : xlc own (ikeysL ci) p.x c e en st = ((ci en st).bind fun d st => match d with
      | .dk .frz ks _ => Px.R.quiet ((cloop own st.length [] p.x c e en (ks.map keyD) (st ++ [.lst []])).bind fun _ st' => .ok (.cell st.length) st') en
      | .dk .loan ks _ => Px.R.quiet ((cloop own st.length [] p.x c e en (ks.map keyD) (st ++ [.lst []])).bind fun _ st' => .ok (.cell st.length) st') en
      | _ => .bad) := by
      unfold xlc ikeysL
      cases ci en st with
      | bad => rfl
      | exc _ _ _ _ => rfl
      | ok d st1 =>
        simp only [bind_ok]
        split <;> rfl
    rw [← e1]; exact h
  refine ⟨g, en, st, R, (pX.bind h').imp fun d st1 g1 H1 l1 R1 h1 v rv => ?_⟩
  split at h1
  · rename_i ks us
    obtain ⟨a, vs, e1, ⟨o, e2⟩, e3, e4⟩ := rv
    refine ⟨a, _, e1, .inl ⟨o, R1.sF _ _ e2, lc_go (it := ⟨ks.map keyD, []⟩) (Q := fun v H' => unl X (Q v) H') (c := c) (e := e) (p := p) (own := own) (st1 := st1) (en := en) (σ := σ) ho R1 (h1.imp fun d st g' H' _ _ q v rv => .inl (q v rv)) (walks_keys e3 fun g en st σ H le R => R.sF _ _ (le.F _ _ e2))⟩⟩
  · rename_i ks us
    obtain ⟨a, vs, e1, e2, e3, e4⟩ := rv
    rcases e2 with e2 | ⟨o, e2⟩
    · have hH : H1 a = some (.dK (ks.zip vs)) := R1.sL _ _ e2
      have hF : g1.F a = none := by
        cases e : g1.F a with
        | none => rfl
        | some u =>
          have := R1.sF _ _ e
          rw [hH] at this; cases this
          exact (R1.nd _ _ e).elim
      refine ⟨a, _, e1, .inr ⟨hH, fun o hn => ?_⟩⟩
      have la : (g1.lockL a (.frz o (.dK (ks.zip vs)))).L a = some (.frz o (.dK (ks.zip vs))) := upd_same
      have R2 : Rel G (g1.lockL a (.frz o (.dK (ks.zip vs)))) en st1 σ (upd H1 a (.frz o (.dK (ks.zip vs)))) := R1.lk (kvs := ks.zip vs) rfl rfl e2 rfl (.inl e2) (.inr ⟨o, la⟩) hF
      exact lc_go (it := ⟨ks.map keyD, []⟩) (Q := fun v H' => unl X (Q v) H') (c := c) (e := e) (p := p) (own := own) (st1 := st1) (en := en) (σ := σ) ho R2 (pX.lock (od := o) h1 e2 hF hn) (walks_keys e3 fun g en st σ H le R => R.sL _ _ (by rw [le.L]; exact la))
    · refine ⟨a, _, e1, .inl ⟨o, R1.sL _ _ e2, lc_go (it := ⟨ks.map keyD, []⟩) (Q := fun v H' => unl X (Q v) H') (c := c) (e := e) (p := p) (own := own) (st1 := st1) (en := en) (σ := σ) ho R1 (h1.imp fun d st g' H' _ _ q v rv => .inl (q v rv)) (walks_keys e3 fun g en st σ H le R => R.sL _ _ (by rw [le.L]; exact e2))⟩⟩
  · exact h1.elim
theorem se_lcL {elt tg iter : Expr} {ifs : List Expr} {scope : Scope} {own : List (Str × Nat)} {pos : Pos} {ci : XE} {p : Pat} {c : XT} {e : XE} (hc : X.calm = true) (hN : X.N.Nodup) (hi : SE G W X iter ci) (ok : BlkOk X.N X.env.scope scope own) (hp : ∀ i ∈ p.ns, i ∈ own.map (·.2))
    (hg : ∀ (s : Shared) (H : Hp) (C : Addr) (cl : List (Str × Addr)) (fp : List Addr), SPat (X.blk s H scope (compEnvC scope cl C X.env) fp) G.K tg p) (ht : ∀ (s : Shared) (H : Hp) (C : Addr) (cl : List (Str × Addr)) (fp : List Addr), STs G W0 (X.blk s H scope (compEnvC scope cl C X.env) fp) ifs c)
    (he : ∀ (s : Shared) (H : Hp) (C : Addr) (cl : List (Str × Addr)) (fp : List Addr), SE G W0 (X.blk s H scope (compEnvC scope cl C X.env) fp) elt e) (hs : ∀ x, foldedSetIterable iter X.env x = pure x := by intro _; rfl) :
    SE G W X (.ListComp elt [⟨tg, iter, ifs, 0⟩] scope pos) (xlc (own.map (·.2)) (ikeysL ci) p.x c e) :=
  ⟨PE_imp (pe_unl (pe_lc hc hN (pi_keysL hi.pe) ok (fun s H C cl fp => (hg s H C cl fp).pg) (fun s H C cl fp => (ht s H C cl fp).pts) (fun s H C cl fp => (he s H C cl fp).pe) hs)) fun _ _ _ h => lcL_of hp h⟩
@[simp] theorem ev_keysL (c : XE) (en : En) (st : Sto) : ikeysL c en st = (c en st).bind fun d st => match d with
  | .dk .frz ks _ => .ok ⟨ks.map keyD, []⟩ st
  | .dk .loan ks _ => .ok ⟨ks.map keyD, []⟩ st
  | _ => .bad := (rfl)
end
end Px
namespace Px
open PySem PySem.Spec L2
section
variable {G : GS} {W : WX} {X : Cx} {i : Nat} {a : Addr}
theorem sep_op {op : Operator} {f : Op2} {l r : Expr} {cl cr : XE} {pos : Pos} (ho : OpR X (binaryOp op) (rD G W f)) (ha : SEp G W i a X l cl) (hb : SEp G W i a X r cr) : SEp G W i a X (.BinOp l op r pos) (x2 f cl cr) :=
  ⟨PE_imp (pe_op ho ha.pe hb.pe) fun σ H Q ⟨hp, g, en, st, R, h⟩ => by
    refine ⟨hp, g, en, st, R, (pX.bind h).imp fun x st1 g1 H1 l1 R1 h1 v rv => ?_⟩
    refine ⟨hp, g1, en, st1, R1, (pX.bind h1).imp fun y st2 g2 H2 l2 R2 h2 u ru => ?_⟩
    exact ⟨g2, en, st2, σ, x, y, R2, rv.mono l2, ru, h2⟩⟩
theorem sep_ix {l r : Expr} {cl cr : XE} {pos : Pos} (hK : X.K = G.K) (ha : SEp G W i a X l cl) (hb : SEp G W i a X r cr) (hs : PlainIx r := by intro _ _; rfl) : SEp G W i a X (.Subscript l r pos) (x2 oIx cl cr) :=
  ⟨PE_imp (pe_ix (ho_ix hK) ha.pe hb.pe hs) fun σ H Q ⟨hp, g, en, st, R, h⟩ => by
    refine ⟨hp, g, en, st, R, (pX.bind h).imp fun x st1 g1 H1 l1 R1 h1 v rv => ?_⟩
    refine ⟨hp, g1, en, st1, R1, (pX.bind h1).imp fun y st2 g2 H2 l2 R2 h2 u ru => ?_⟩
    exact ⟨g2, en, st2, σ, x, y, R2, rv.mono l2, ru, h2⟩⟩
theorem sep_ty1 {f : XF} {x : Str} {p pos : Pos} {e : Expr} {c : XE} {T : String} (hc : CallR X (.type T) (rA G W f)) (hm : X.mg x = none) (ha : SEp G W i a X e c) (hv : bootBuiltins x = some (.type T) := by decide +kernel) (hg : Gl X x := by rfl)
    (hn : x ≠ "__name__" := by decide) (hdb : (x == ("__debug__" : Str)) = false := by decide) (he : starEach [e] X.env = (false, eval e X.env) :: starEach [] X.env := by rfl) (hpl : (backTo pos (starEach [] X.env)).any (·.1) = false := by rfl) :
    SEp G W i a X (.Call (.Name x p) [e] [] pos) (xbi f (xcons c xnil)) :=
  ⟨PE_imp (pe_callTy hc hg hm hv (pa_cons ha.pe pa_nil he) hn hdb he hpl) fun σ H Q ⟨hp, g, en, st, R, h⟩ => by
    refine ⟨hp, g, en, st, R, (pX.bind (pX.bind h)).imp fun x st1 g1 H1 l1 R1 h1 v rv => ?_⟩
    exact ⟨g1, en, st1, σ, [x], R1, .one rv, h1 g1 H1 (Le.refl _) R1⟩⟩
end
end Px
namespace Px
open PySem PySem.Spec L2
section
variable {G : GS} {W : WX} {X : Cx}
def idxD (st : Sto) (x y : D) : Option Nat := match (snap st 8 x).bind pyD, (snap st 8 y).bind pyD with
  | some (.list zs), some d => if SeqAt.shaped (.list zs) && SeqAt.shaped d then zs.findIdx? (fun z => PyData.eqv z d) else none
  | _, _ => none
def mIndexD : XM := fun x ds st => match ds with
  | [y] => if (seqOf st x).isSome then (match idxD st x y with
    | some j => .ok (.int j) st
    | none => .bad) else .bad
  | _ => .bad
theorem hm_indexD (hK : X.K = G.K) (hu : X.A.units + 65 < cLine) : MtR X "list.index" (rM G W mIndexD) := MtR_imp (mt_indexD hu) fun v vs H Q ⟨g, en, st, σ, x, ds, R, rx, rs, h⟩ => by
  have go : ∀ {z : D} {w : V} {p : PyData}, Rep G g z w → (snap st 8 z).bind pyD = some p → Dp G.K H w p := by
    intro z w p r e
    obtain ⟨a, e1, e2⟩ := Option.bind_eq_some_iff.mp e
    exact pyD_ok R.sF a w p (snap_ok R _ _ _ _ e1 r).1 e2
  unfold mIndexD at h
  split at h
  · rename_i y
    split at h
    · rename_i hs
      obtain ⟨es, hes⟩ := Option.isSome_iff_exists.mp hs
      split at h
      · rename_i j hj
        unfold idxD at hj
        split at hj
        · rename_i zs d h1 h2
          split at hj
          · rename_i sh
            simp only [Bool.and_eq_true] at sh
            obtain ⟨u, r, rfl, ru, rfl⟩ := rs
            obtain ⟨a, us, rfl, e2, e3⟩ := seqOf_H R rx hes
            rw [List.findIdx?_eq_some_iff_getElem] at hj
            obtain ⟨q1, q2, q3⟩ := hj
            refine ⟨a, u, d, zs, j, zs[j], rfl, rfl, by rw [hK]; exact go rx h1, by rw [hK]; exact go ru h2, sh.1, sh.2, List.getElem?_eq_getElem q1, q2, fun m z hm e => ?_, h g H (Le.refl _) R _ rfl⟩
            obtain ⟨h4, h5⟩ := List.getElem?_eq_some_iff.mp e
            have := q3 m hm
            rw [h5] at this
            simpa using this
          · cases hj
        · cases hj
      · exact h.elim
    · exact h.elim
  · exact h.elim
end
theorem snap_pl8 {st : Sto} (d : D) (h : d.noc = true) : snap st 8 d = some d := by unfold snap; simp [h]
theorem idx_of {st : Sto} {x y e : D} {es : List D} (hx : snap st 8 x = some (.lst .loan es)) (hy : snap st 8 y = some e) (sx : shL es 63 = true) (sy : e.sh 64 = true) : idxD st x y = es.findIdx? fun z => z.eqT e := by
  obtain ⟨q, q1, q2, q3⟩ := sh_py e 64 sy
  have sxx : (D.lst .loan es).sh 64 = true := by simpa using sx
  obtain ⟨p, p1, p2, p3⟩ := sh_py (.lst .loan es) 64 sxx
  have h1 : SeqAt.shaped p = true := by simp [SeqAt.shaped, p2, p3]
  have h2 : SeqAt.shaped q = true := by simp [SeqAt.shaped, q2, q3]
  unfold idxD
  rw [hx, hy]
  simp only [Option.bind_some, p1, q1]
  have pl : ∃ ps, pyL es = some ps ∧ p = .list ps := by
    rw [pyD] at p1
    cases e1 : pyL es with
    | none => rw [e1] at p1; simp at p1
    | some ps => rw [e1] at p1; simp at p1; exact ⟨ps, rfl, p1.symm⟩
  obtain ⟨ps, e1, rfl⟩ := pl
  simp only [h1, h2, Bool.and_self, if_true]
  have key : ∀ (es : List D) (ps : List PyData), pyL es = some ps → ps.findIdx? (fun z => PyData.eqv z q) = es.findIdx? fun z => z.eqT e := by
    intro es
    induction es with
    | nil => intro ps h; rw [pyL] at h; cases h; rfl
    | cons d es ih =>
      intro ps h
      rw [pyL] at h
      cases a1 : pyD d with
      | none => rw [a1] at h; simp at h
      | some a =>
        cases a2 : pyL es with
        | none => rw [a1, a2] at h; simp at h
        | some b =>
          rw [a1, a2] at h
          simp at h
          subst h
          rw [List.findIdx?_cons, List.findIdx?_cons, ih b a2, eqT_eqv d e a q a1 q1]
  exact key es ps e1
theorem deep_of {st : Sto} {x e : D} {i : Nat} {es : List D} (hx : snap st 8 (.cell i) = some (.lst .loan es)) (he : snap st 8 x = some e) (sx : shL es 63 = true) (sy : e.sh 64 = true) : deepIn st x (.cell i) = some (es.any fun z => z.eqT e) := by
  obtain ⟨q, q1, q2, q3⟩ := sh_py e 64 sy
  have sxx : (D.lst .loan es).sh 64 = true := by simpa using sx
  obtain ⟨p, p1, p2, p3⟩ := sh_py (.lst .loan es) 64 sxx
  have h1 : SeqAt.shaped p = true := by simp [SeqAt.shaped, p2, p3]
  have h2 : SeqAt.shaped q = true := by simp [SeqAt.shaped, q2, q3]
  have pl : ∃ ps, pyL es = some ps ∧ p = .list ps := by
    rw [pyD] at p1
    cases e1 : pyL es with
    | none => rw [e1] at p1; simp at p1
    | some ps => rw [e1] at p1; simp at p1; exact ⟨ps, rfl, p1.symm⟩
  obtain ⟨ps, e1, rfl⟩ := pl
  have key : ∀ (es : List D) (ps : List PyData), pyL es = some ps → (ps.any fun z => PyData.eqv z q) = es.any fun z => z.eqT e := by
    intro es
    induction es with
    | nil => intro ps h; rw [pyL] at h; cases h; rfl
    | cons d es ih =>
      intro ps h
      rw [pyL] at h
      cases a1 : pyD d with
      | none => rw [a1] at h; simp at h
      | some a =>
        cases a2 : pyL es with
        | none => rw [a1, a2] at h; simp at h
        | some b =>
          rw [a1, a2] at h
          simp at h
          subst h
          rw [List.any_cons, List.any_cons, ih b a2, eqT_eqv d e a q a1 q1]
  unfold deepIn
  simp only
  rw [he, hx]
  simp only [Option.bind_some, p1, q1, h1, h2, Bool.and_self, if_true]
  rw [key es ps e1]
end Px
namespace Px
open PySem PySem.Spec L2
def cloop2 (own own1 : List Nat) (k : Nat) (src : List (Nat × List D)) (t : XG) (c : XT) (i1 : XI) (t1 : XG) (c1 : XT) (e : XE) (en : En) : List D → Sto → R Unit
  | [], st => if okSrc src st then .ok () st else .bad
  | d :: ds, st => if okSrc src st then (t d (wipeE en own) st).bind fun en1 st => (c en1 st).bind fun b st => if b then (i1 en1 st).bind fun it1 st => (cloop own1 k it1.src t1 c1 e en1 it1.its st).bind fun _ st => cloop2 own own1 k src t c i1 t1 c1 e en ds st
      else cloop2 own own1 k src t c i1 t1 c1 e en ds st
    else .bad
def xlc2 (own own1 : List Nat) (i : XI) (t : XG) (c : XT) (i1 : XI) (t1 : XG) (c1 : XT) (e : XE) : XE := fun en st => (i en st).bind fun it st => R.quiet ((cloop2 own own1 st.length it.src t c i1 t1 c1 e en it.its (st ++ [.lst []])).bind fun _ st' => .ok (.cell st.length) st') en
section
variable {G : GS} {W : WX} {X : Cx}
theorem lc2_of {own own1 : List Nat} {i i1 : XI} {p p1 : Pat} {c c1 : XT} {e : XE} {σ : L2.St} {H : Hp} {Q : VK} (ho : ∀ i ∈ p.ns, i ∈ own) (ho1 : ∀ i ∈ p1.ns, i ∈ own1)
    (h : tE G W (xlc2 own own1 i p.x c i1 p1.x c1 e) σ H Q) : tLc2 (tI G W i) (p.g G.K) (tT G W0 c) (tI G W0 i1) (p1.g G.K) (tT G W0 c1) (tE G W0 e) own own1 σ H Q := by
  obtain ⟨g, en, st, R, h⟩ := h
  refine ⟨g, en, st, R, (pX.bind h).imp fun it st1 g1 H1 l1 R1 h1 J hJ => ?_⟩
  intro A hA
  obtain ⟨l2, R2, r2⟩ := R1.new (c := .lst []) hA ⟨[], rfl, rfl⟩
  have P0 : cP G Q σ en st1.length { g1 with as := g1.as ++ [A] } (cloop2 own own1 st1.length it.src p.x c i1 p1.x c1 e en it.its (st1 ++ [.lst []])) := by
    unfold Px.R.quiet at h1
    cases e1 : cloop2 own own1 st1.length it.src p.x c i1 p1.x c1 e en it.its (st1 ++ [.lst []]) with
    | ok u st' => rw [e1] at h1; exact fun g' H' l R' => h1 g' H' (l2.trans l) R'
    | exc _ _ _ _ => rw [e1] at h1; exact h1.elim
    | bad => rw [e1] at h1; exact h1.elim
  refine ⟨fun i m H => ∃ g s, Le { g1 with as := g1.as ++ [A] } g ∧ Rel G g en s σ H ∧ m = it.its.length - i ∧ i ≤ it.its.length ∧ cP G Q σ en st1.length g (cloop2 own own1 st1.length it.src p.x c i1 p1.x c1 e en (it.its.drop i) s),
    ⟨it.its.length, _, _, Le.refl _, R2, by simp, Nat.zero_le _, by simpa using P0⟩, ?_⟩
  rintro i m H ⟨g, s, l, R, rfl, hi, hP⟩
  by_cases hlt : i < it.its.length
  · have hd : it.its[i]? = some it.its[i] := by simp [hlt]
    rw [List.drop_eq_getElem_cons hlt] at hP
    unfold cloop2 at hP
    by_cases ok : okSrc it.src s = true
    · rw [if_pos ok] at hP
      obtain ⟨_, q⟩ := hJ g en s σ H i (l2.trans l) R ok
      obtain ⟨go, yl⟩ := q _ hd
      refine .inr ⟨go, fun H' => ∃ g s, Le { g1 with as := g1.as ++ [A] } g ∧ Rel G g en s σ H' ∧ cP G Q σ en st1.length g (cloop2 own own1 st1.length it.src p.x c i1 p1.x c1 e en (it.its.drop (i + 1)) s), fun H' ⟨g', s', l', R', h'⟩ => ⟨_, by omega, g', s', l', R', rfl, hlt, h'⟩, fun x H' y => ?_⟩
      obtain ⟨g3, l3, R3, r3⟩ := yl x H' y
      cases e1 : p.x it.its[i] (wipeE en own) s with
      | bad => rw [e1] at hP; exact hP.elim
      | exc _ _ _ _ => rw [e1] at hP; exact hP.elim
      | ok en2 s2 =>
        rw [e1, bind_ok] at hP
        refine pat_ok p it.its[i] x (wipeE en own) en2 s s2 (L2.wipe σ own) _ (R3.wipe own) r3 e1 ho fun es σ2 R4 w2 => ⟨w2.trans (wipe_wipe σ own), ?_⟩
        subst es
        cases e2 : c en2 s2 with
        | bad => rw [e2] at hP; exact hP.elim
        | exc _ _ _ _ => rw [e2] at hP; exact hP.elim
        | ok b s3 =>
          rw [e2, bind_ok] at hP
          refine ⟨g3, en2, s2, R4, ?_⟩
          rw [e2]
          intro g4 H4 l4 R5
          cases b with
          | false =>
            rw [if_neg Bool.false_ne_true] at hP ⊢
            refine ⟨g4, s3, l.trans (l3.trans l4), R3.envOf l4 R5, ?_⟩
            exact cP.weak (l3.trans l4) hP
          | true =>
            rw [if_pos rfl] at hP ⊢
            cases e3 : i1 en2 s3 with
            | bad => rw [e3] at hP; exact hP.elim
            | exc _ _ _ _ => rw [e3] at hP; exact hP.elim
            | ok it1 s4 =>
              rw [e3, bind_ok] at hP
              refine ⟨g4, en2, s3, R5, ?_⟩
              rw [e3]
              intro g5 H5 l5 R6 J1 hJ1
              have l05 : Le { g1 with as := g1.as ++ [A] } g5 := l.trans (l3.trans (l4.trans l5))
              refine ⟨fun j m H => ∃ g s, Le g5 g ∧ Rel G g en2 s σ2 H ∧ m = it1.its.length - j ∧ j ≤ it1.its.length ∧ cP G Q σ en st1.length g ((cloop own1 st1.length it1.src p1.x c1 e en2 (it1.its.drop j) s).bind fun _ st => cloop2 own own1 st1.length it.src p.x c i1 p1.x c1 e en (it.its.drop (i + 1)) st),
                ⟨it1.its.length, _, _, Le.refl _, R6, by simp, Nat.zero_le _, by simpa using cP.weak (l3.trans (l4.trans l5)) hP⟩, ?_⟩
              rintro j m H6 ⟨g6, s5, l6, R7, rfl, hj, hQ⟩
              by_cases hlt1 : j < it1.its.length
              · have hd1 : it1.its[j]? = some it1.its[j] := by simp [hlt1]
                rw [List.drop_eq_getElem_cons hlt1] at hQ
                unfold cloop at hQ
                by_cases ok1 : okSrc it1.src s5 = true
                · rw [if_pos ok1] at hQ
                  obtain ⟨_, q1⟩ := hJ1 g6 en2 s5 σ2 H6 j l6 R7 ok1
                  obtain ⟨go1, yl1⟩ := q1 _ hd1
                  refine .inr ⟨go1, fun H' => ∃ g s, Le g5 g ∧ Rel G g en2 s σ2 H' ∧ cP G Q σ en st1.length g ((cloop own1 st1.length it1.src p1.x c1 e en2 (it1.its.drop (j + 1)) s).bind fun _ st => cloop2 own own1 st1.length it.src p.x c i1 p1.x c1 e en (it.its.drop (i + 1)) st), fun H' ⟨g', s', l', R', h'⟩ => ⟨_, by omega, g', s', l', R', rfl, hlt1, h'⟩, fun x1 H7 y1 => ?_⟩
                  obtain ⟨g7, l7, R8, r8⟩ := yl1 x1 H7 y1
                  cases e4 : p1.x it1.its[j] (wipeE en2 own1) s5 with
                  | bad => rw [e4] at hQ; exact hQ.elim
                  | exc _ _ _ _ => rw [e4] at hQ; exact hQ.elim
                  | ok en3 s6 =>
                    rw [e4, bind_ok] at hQ
                    refine pat_ok p1 it1.its[j] x1 (wipeE en2 own1) en3 s5 s6 (L2.wipe σ2 own1) _ (R8.wipe own1) r8 e4 ho1 fun es σ3 R9 w3 => ⟨w3.trans (wipe_wipe σ2 own1), ?_⟩
                    subst es
                    cases e5 : c1 en3 s6 with
                    | bad => rw [e5] at hQ; exact hQ.elim
                    | exc _ _ _ _ => rw [e5] at hQ; exact hQ.elim
                    | ok b1 s7 =>
                      rw [e5, bind_ok] at hQ
                      refine ⟨g7, en3, s6, R9, ?_⟩
                      rw [e5]
                      intro g8 H8 l8 R10
                      cases b1 with
                      | false =>
                        rw [if_neg Bool.false_ne_true] at hQ ⊢
                        refine ⟨g8, s7, l6.trans (l7.trans l8), R8.envOf l8 R10, ?_⟩
                        exact cP.weak (l7.trans l8) hQ
                      | true =>
                        rw [if_pos rfl] at hQ ⊢
                        cases e6 : e en3 s7 with
                        | bad => rw [e6] at hQ; exact hQ.elim
                        | exc _ _ _ _ => rw [e6] at hQ; exact hQ.elim
                        | ok yv s8 =>
                          rw [e6, bind_ok] at hQ
                          refine ⟨g8, en3, s7, R10, ?_⟩
                          rw [e6]
                          intro g9 H9 l9 R11 v rv
                          have lA : Le { g1 with as := g1.as ++ [A] } g9 := l05.trans (l6.trans (l7.trans (l8.trans l9)))
                          have hat : g9.as[st1.length]? = some A := lA.as _ _ (by show (g1.as ++ [A])[st1.length]? = some A; rw [← R1.len]; simp)
                          split at hQ
                          · rename_i acc hacc
                            split at hQ
                            · rename_i hz
                              obtain ⟨a', o, f6, f7, f8, vs, f9, f10⟩ := R11.isCell hacc (by intro z; cases z) (v := .ref A) ⟨A, hat, rfl⟩
                              cases f6
                              subst f9
                              refine ⟨vs, f8, by rw [← f10.length, sizeLine_eq]; exact of_decide_eq_true hz, g9, s8.set st1.length (.lst (acc ++ [yv])), l6.trans (l7.trans (l8.trans l9)), ?_, ?_⟩
                              · have R12 := R11.put hacc (by intro z; cases z) hat (c' := .lst (acc ++ [yv])) ⟨_, rfl, f10.append (.one rv)⟩
                                exact R8.envOf (l8.trans l9) R12
                              · exact cP.weak (l7.trans (l8.trans l9)) hQ
                            · exact hQ.elim
                          · exact hQ.elim
                · rw [if_neg ok1] at hQ; exact hQ.elim
              · have e7 : j = it1.its.length := by omega
                subst e7
                rw [List.drop_length] at hQ
                unfold cloop at hQ
                by_cases ok1 : okSrc it1.src s5 = true
                · rw [if_pos ok1, bind_ok] at hQ
                  exact .inl ⟨(hJ1 g6 en2 s5 σ2 H6 _ l6 R7 ok1).1 (Nat.le_refl _), g6, s5, l05.trans l6, R3.envOf (l4.trans (l5.trans l6)) R7, hQ⟩
                · rw [if_neg ok1] at hQ; exact hQ.elim
    · rw [if_neg ok] at hP; exact hP.elim
  · have e5 : i = it.its.length := by omega
    subst e5
    rw [List.drop_length] at hP
    unfold cloop2 at hP
    by_cases ok : okSrc it.src s = true
    · rw [if_pos ok] at hP
      exact .inl ⟨(hJ g en s σ H _ (l2.trans l) R ok).1 (Nat.le_refl _), hP g H (Le.refl _) R _ (r2.mono l)⟩
    · rw [if_neg ok] at hP; exact hP.elim
theorem se_lc2 {elt tg iter tg1 iter1 : Expr} {ifs ifs1 : List Expr} {scope : Scope} {own : List (Str × Nat)} {vs1 : List Nat} {pos : Pos} {i i1 : XI} {p p1 : Pat} {c c1 : XT} {e : XE} (hc : X.calm = true) (hN : X.N.Nodup) (hi : SI G W X tg iter i) (ok : BlkOk X.N X.env.scope scope own) (hp : ∀ i ∈ p.ns, i ∈ own.map (·.2)) (hv : ∀ i ∈ vs1, i ∈ own.map (·.2)) (hp1 : ∀ i ∈ p1.ns, i ∈ vs1)
    (hg : ∀ (s : Shared) (H : Hp) (C : Addr) (cl : List (Str × Addr)) (fp : List Addr), SPat (X.blk s H scope (compEnvC scope cl C X.env) fp) G.K tg p) (ht : ∀ (s : Shared) (H : Hp) (C : Addr) (cl : List (Str × Addr)) (fp : List Addr), STs G W0 (X.blk s H scope (compEnvC scope cl C X.env) fp) ifs c)
    (hi1 : ∀ (s : Shared) (H : Hp) (C : Addr) (cl : List (Str × Addr)) (fp : List Addr), SI G W0 (X.blk s H scope (compEnvC scope cl C X.env) fp) tg1 iter1 i1)
    (hg1 : ∀ (s : Shared) (H : Hp) (C : Addr) (cl : List (Str × Addr)) (fp : List Addr), SPat (X.blk s H scope (compEnvC scope cl C X.env) fp) G.K tg1 p1) (ht1 : ∀ (s : Shared) (H : Hp) (C : Addr) (cl : List (Str × Addr)) (fp : List Addr), STs G W0 (X.blk s H scope (compEnvC scope cl C X.env) fp) ifs1 c1)
    (he : ∀ (s : Shared) (H : Hp) (C : Addr) (cl : List (Str × Addr)) (fp : List Addr), SE G W0 (X.blk s H scope (compEnvC scope cl C X.env) fp) elt e) (hs : ∀ x, foldedSetIterable iter X.env x = pure x := by intro _; rfl) (hs1 : ∀ env x, foldedSetIterable iter1 env x = pure x := by intro _ _; rfl) :
    SE G W X (.ListComp elt [⟨tg, iter, ifs, 0⟩, ⟨tg1, iter1, ifs1, 0⟩] scope pos) (xlc2 (own.map (·.2)) vs1 i p.x c i1 p1.x c1 e) :=
  ⟨PE_imp (pe_lc2 hc hN hi.pi ok hv (fun s H C cl fp => (hg s H C cl fp).pg) (fun s H C cl fp => (ht s H C cl fp).pts) (fun s H C cl fp => (hi1 s H C cl fp).pi) (fun s H C cl fp => (hg1 s H C cl fp).pg) (fun s H C cl fp => (ht1 s H C cl fp).pts) (fun s H C cl fp => (he s H C cl fp).pe) hs hs1) fun _ _ _ h => lc2_of hp hp1 h⟩
end
variable (en : En) (st : Sto)
@[simp] theorem ev_lc2 (own own1 : List Nat) (i : XI) (t : XG) (c : XT) (i1 : XI) (t1 : XG) (c1 : XT) (e : XE) : xlc2 own own1 i t c i1 t1 c1 e en st = (i en st).bind fun it st => R.quiet ((cloop2 own own1 st.length it.src t c i1 t1 c1 e en it.its (st ++ [.lst []])).bind fun _ st' => .ok (.cell st.length) st') en := (rfl)
@[simp] theorem ev_cloop20 (own own1 : List Nat) (k : Nat) (src : List (Nat × List D)) (t : XG) (c : XT) (i1 : XI) (t1 : XG) (c1 : XT) (e : XE) : cloop2 own own1 k src t c i1 t1 c1 e en [] st = if okSrc src st then .ok () st else .bad := (rfl)
theorem ev_cloop2S (own own1 : List Nat) (k : Nat) (src : List (Nat × List D)) (t : XG) (c : XT) (i1 : XI) (t1 : XG) (c1 : XT) (e : XE) (d : D) (ds : List D) : cloop2 own own1 k src t c i1 t1 c1 e en (d :: ds) st = if okSrc src st then (t d (wipeE en own) st).bind fun en1 st => (c en1 st).bind fun b st => if b then (i1 en1 st).bind fun it1 st => (cloop own1 k it1.src t1 c1 e en1 it1.its st).bind fun _ st => cloop2 own own1 k src t c i1 t1 c1 e en ds st
      else cloop2 own own1 k src t c i1 t1 c1 e en ds st
    else .bad := (rfl)
end Px
namespace Px
open PySem PySem.Spec L2
variable {G : GS} {W : WX} {X : Cx} {g g' : Gh} {en : En} {st : Sto} {σ : L2.St} {H : Hp}
theorem RepL.getT : ∀ {ds : List D} {vs : List V} {k : Nat} {d : D}, RepL G g ds vs → ds[k]? = some d → ∃ v, vs[k]? = some v ∧ Rep G g d v
  | [], vs, k, d, _, h => by cases h
  | e :: ds, vs, 0, d, ⟨v, r, q, p1, p2⟩, h => by
    cases h
    exact ⟨v, by rw [q]; rfl, p1⟩
  | e :: ds, vs, k + 1, d, ⟨v, r, q, p1, p2⟩, h => by
    obtain ⟨w, a, b⟩ := RepL.getT p2 (k := k) h
    exact ⟨w, by rw [q]; exact a, b⟩
theorem RepL.setT : ∀ {ds : List D} {vs : List V} {k : Nat} {d : D} {v : V}, RepL G g ds vs → vs[k]? = some v → Rep G g d v → RepL G g (ds.set k d) vs
  | [], vs, k, d, v, r, _, _ => r
  | e :: ds, vs, 0, d, v, ⟨w, r, q, p1, p2⟩, h, hr => by
    subst q
    cases h
    exact ⟨v, r, rfl, hr, p2⟩
  | e :: ds, vs, k + 1, d, v, ⟨w, r, q, p1, p2⟩, h, hr => by
    subst q
    exact ⟨w, r, rfl, p1, RepL.setT p2 (k := k) h hr⟩
theorem Rel.freezeT (R : Rel G g en st σ H) {i j k : Nat} {ks : List Key} {us ds : List D} (hi : st[i]? = some (.dk ks us)) (hj : en[j]? = some (some (.tup ds))) (hk : ds[k]? = some (.cell i)) :
    ∃ a kvs, H a = some (.dK kvs) ∧ ∀ od, Le g { g with F := upd g.F a (.frz od (.dK kvs)) } ∧ Rel G { g with F := upd g.F a (.frz od (.dK kvs)) } (en.set j (some (.tup (ds.set k (.dk .frz ks us))))) (st.set i .gone) σ (upd H a (.frz od (.dK kvs))) := by
  obtain ⟨v0, hσ, a0, vs0, ev0, sq0, rl0⟩ := R.en j _ hj
  obtain ⟨v, hvk, rv⟩ := rl0.getT hk
  obtain ⟨a, o, e1, e2, e3, vs, e4, e5, e6⟩ := R.isCell hi (by intro w; cases w) rv
  subst e4
  obtain ⟨a', o', f1, f2, f3, f4, f5⟩ := R.cell i _ hi (by intro w; cases w)
  rw [e2] at f1; cases f1
  have ilt : i < st.length := (List.getElem?_eq_some_iff.mp hi).1
  have jlt : j < en.length := (List.getElem?_eq_some_iff.mp hj).1
  refine ⟨a, _, e3, fun od => ?_⟩
  have sF : Same g.F (upd g.F a (.frz od (.dK (ks.zip vs)))) := fun b o e => by rw [upd_ne (ne_of_none e f4)]; exact e
  have l : Le g { g with F := upd g.F a (.frz od (.dK (ks.zip vs))) } := ⟨sF, rfl, fun _ _ h => h, fun b o h => by
    by_cases e : b = a
    · subst e; exact .inr f5
    · have h' : upd g.F a (.frz od (.dK (ks.zip vs))) b = some o := h
      rw [upd_ne e] at h'; exact .inl h'⟩
  refine ⟨l, ⟨fun b o e => ?_, fun b o e => ?_, by simp [R.el], fun i' d e => ?_, fun i' c e n => ?_, by simp [R.len], fun i1 i2 c c' b x1 x2 n1 n2 b1 b2 => ?_, fun b k e => by
    have e' : upd g.F a (.frz od (.dK (ks.zip vs))) b = some (.dK k) := e
    by_cases q : b = a
    · subst q; rw [upd_same] at e'; cases e'
    · rw [upd_ne q] at e'; exact R.nd b k e'⟩⟩
  · have e' : upd g.F a (.frz od (.dK (ks.zip vs))) b = some o := e
    by_cases q : b = a
    · subst q; rw [upd_same] at e' ⊢; exact e'
    · rw [upd_ne q] at e' ⊢; exact R.sF _ _ e'
  · rw [upd_ne (ne_of_none e f5)]; exact R.sL _ _ e
  · by_cases q : j = i'
    · subst q
      rw [List.getElem?_set_self jlt] at e
      cases e
      exact ⟨v0, hσ, a0, vs0, ev0, seqT_same sF sq0, (rl0.mono l).setT hvk ⟨a, vs, e1, ⟨od, upd_same⟩, e5, e6.mono l⟩⟩
    · rw [List.getElem?_set_ne q] at e
      obtain ⟨w, q1, q2⟩ := R.en i' d e
      exact ⟨w, q1, q2.mono l⟩
  · by_cases q : i = i'
    · subst q
      rw [List.getElem?_set_self ilt] at e
      exact absurd (Option.some.inj e).symm n
    · rw [List.getElem?_set_ne q] at e
      obtain ⟨b, ob, q1, q2, q3, q4, q5⟩ := R.cell i' c e n
      have nb : b ≠ a := fun z => q (R.inj i i' _ c a hi e (by intro w; cases w) n e2 (by rw [← z]; exact q1))
      exact ⟨b, ob, q1, by rw [upd_ne nb]; exact q2, q3.mono l, by show upd g.F a _ b = none; rw [upd_ne nb]; exact q4, q5⟩
  · have sub : ∀ (k : Nat) (d : Cell), (st.set i .gone)[k]? = some d → d ≠ .gone → st[k]? = some d := fun k d e n => by
      by_cases q : i = k
      · subst q; rw [List.getElem?_set_self ilt] at e; exact absurd (Option.some.inj e).symm n
      · rw [List.getElem?_set_ne q] at e; exact e
    exact R.inj i1 i2 c c' b (sub i1 c x1 n1) (sub i2 c' x2 n2) n1 n2 b1 b2
def sfrzT (j k : Nat) (b : XS) : XS := fun en st => match en[j]? with
  | some (some (.tup ds)) => match ds[k]? with
    | some (.cell i) => match st[i]? with
      | some (.dk ks us) => b (en.set j (some (.tup (ds.set k (.dk .frz ks us))))) (st.set i .gone)
      | _ => b en st
    | _ => b en st
  | _ => b en st
theorem ss_frzT {s : Stmt} {b : XS} (j k : Nat) (h : SS G W X s b) : SS G W X s (sfrzT j k b) :=
  ⟨PS_imp (ps_frz h.ps) fun D σ H ⟨g, en, st, R, w⟩ => by
    unfold sfrzT at w
    split at w
    · rename_i ds hj
      split at w
      · rename_i i hk
        split at w
        · rename_i ks us hi
          obtain ⟨a, kvs, e2, e3⟩ := R.freezeT hi hj hk
          refine .inr ⟨a, _, e2, True.intro, fun od => ?_⟩
          obtain ⟨l, R'⟩ := e3 od
          exact ⟨_, _, _, R', pS.weak l w⟩
        · exact .inl ⟨g, en, st, R, w⟩
      · exact .inl ⟨g, en, st, R, w⟩
    · exact .inl ⟨g, en, st, R, w⟩⟩
@[simp] theorem ev_sfrzT (j k : Nat) (b : XS) (en : En) (st : Sto) : sfrzT j k b en st = match en[j]? with
  | some (some (.tup ds)) => match ds[k]? with
    | some (.cell i) => match st[i]? with
      | some (.dk ks us) => b (en.set j (some (.tup (ds.set k (.dk .frz ks us))))) (st.set i .gone)
      | _ => b en st
    | _ => b en st
  | _ => b en st := (rfl)
end Px
namespace Px
open PySem PySem.Spec L2 PyProof.Rows
def dcnt : List Int → Nat
  | [] => 0
  | x :: xs => if x ∈ xs then dcnt xs else dcnt xs + 1
theorem dcnt_of : ∀ {ns L : List Int}, L.Nodup → (∀ k, k ∈ L ↔ k ∈ ns) → L.length = dcnt ns
  | [], L, _, h => by
    cases L with
    | nil => rfl
    | cons a L => exact absurd ((h a).mp (List.mem_cons_self ..)) (by simp)
  | x :: xs, L, nd, h => by
    rw [dcnt]
    by_cases c : x ∈ xs
    · rw [if_pos c]
      exact dcnt_of nd fun k => (h k).trans ⟨fun z => by rcases List.mem_cons.mp z with rfl | z; exact c; exact z, fun z => List.mem_cons_of_mem _ z⟩
    · rw [if_neg c]
      have hx : x ∈ L := (h x).mpr (List.mem_cons_self ..)
      have := dcnt_of (ns := xs) (L := L.erase x) (nd.erase _) fun k => by
        rw [nd.mem_erase_iff, h k, List.mem_cons]
        exact ⟨fun ⟨a, b⟩ => b.resolve_left a, fun z => ⟨fun e => c (e ▸ z), .inr z⟩⟩
      rw [List.length_erase_of_mem hx] at this
      have := List.length_pos_of_mem hx
      omega
theorem minOf_ok : ∀ (ys : List Int) (y : Int), PySem.W.minOf y ys ∈ y :: ys ∧ ∀ z ∈ y :: ys, PySem.W.minOf y ys ≤ z
  | [], y => ⟨by show y ∈ [y]; simp, fun z hz => by simp at hz; subst hz; exact Int.le_refl _⟩
  | x :: ys, y => by
    have e : PySem.W.minOf y (x :: ys) = PySem.W.minOf (if PySem.W.DatumOrd.lt x y = true then x else y) ys := rfl
    rw [e]
    have hl : (PySem.W.DatumOrd.lt x y = true) ↔ x < y := by show (decide (x < y) = true) ↔ _; simp
    by_cases h : x < y
    · rw [if_pos (hl.mpr h)]
      obtain ⟨a, b⟩ := minOf_ok ys x
      refine ⟨List.mem_cons_of_mem _ a, fun z hz => ?_⟩
      rcases List.mem_cons.mp hz with rfl | hz
      · exact Int.le_trans (b x List.mem_cons_self) (Int.le_of_lt h)
      · exact b z hz
    · rw [if_neg (fun q => h (hl.mp q))]
      obtain ⟨a, b⟩ := minOf_ok ys y
      refine ⟨?_, fun z hz => ?_⟩
      · rcases List.mem_cons.mp a with a | a
        · rw [a]; exact List.mem_cons_self
        · exact List.mem_cons_of_mem _ (List.mem_cons_of_mem _ a)
      · rcases List.mem_cons.mp hz with rfl | hz
        · exact b _ List.mem_cons_self
        · rcases List.mem_cons.mp hz with rfl | hz
          · exact Int.le_trans (b y List.mem_cons_self) (Int.not_lt.mp h)
          · exact b z (List.mem_cons_of_mem _ hz)
section
variable {X : Cx}
def tLenSetT (K : PySem.W.Frag) (ta : TE) : TE := fun σ H Q => ta σ H fun x H1 => ∃ (l : Addr) (ns : List Int), x = V.ref l ∧ SqT K H1 l (ns.map V.int) ∧ ns.length ≤ 1000 ∧ Q (.int (dcnt ns)) H1
theorem pe_lenSetT {a : Expr} {ta : TE} {p p2 q pos : Pos} (hc : X.calm = true) (hg : Gl X "len") (hm : X.mg "len" = none) (hg2 : Gl X "set") (hm2 : X.mg "set" = none) (ha : PE X a ta)
    (na : starEach [a] X.env = (false, eval a X.env) :: starEach [] X.env := by rfl) : PE X (.Call (.Name "len" p) [.Call (.Name "set" p2) [a] [] q] [] pos) (tLenSetT X.K ta) := by
  refine ⟨fun pins s σ H Q I h => ?_⟩
  refine Call_ (ld_blt I hg hm PySem.boot_len ?_)
  refine callWith_builtin1 (args_cons ?_ rfl) rfl rfl
  refine Call_ (ld_blt I hg2 hm2 PyProof.Rows.boot_set ?_)
  refine callWith_type1 (args_cons (thn (ha.run pins s σ H _ I h) fun v s1 ⟨x, H1, I1, r1, q1⟩ => args_nil ?_) na) na rfl
  obtain ⟨l, ns, rfl, hq, h1, q1⟩ := q1
  cases r1
  obtain ⟨its, rv, pt, hz⟩ := I1.tuple hq
  have hi : IntsAre its.toArray.toList ns := ints_of_vals rv
  have hd := I1.ok.hd hc
  refine call_set_tupI ns hd (show s1.heap.IsTuple l its.toArray from pt) hi (by unfold scanBound; omega) fun h' tk c R1 hcn k => ?_
  obtain ⟨o, es, ep, t, ho, hex, hdt, g, nd, hm2, hb, hf, hn, hr, hl2⟩ := R1
  refine args_nil ?_
  have I2 : Inv X pins σ H1 { s1 with heap := h', toks := tk } := I1.kept fun b o e => k b o e
  have e : es.size = dcnt ns := by
    have := dcnt_of nd (ns := ns) fun j => by rw [← hm2 j, decide_eq_true_eq]
    rw [List.length_map, Array.length_toList] at this
    exact this
  refine call_len_set ho hex hdt hf (by rw [hn] <;> omega) ⟨.int (dcnt ns), H1, I2.tok _, ⟨_, by rw [e]⟩, q1⟩
def rMinT (K : PySem.W.Frag) : List V → Hp → VK → Prop := fun vs H Q => ∃ (a : Addr) (ns : List Int), vs = [V.ref a] ∧ SqT K H a (ns.map V.int) ∧ 0 < ns.length ∧ ∀ m, m ∈ ns → (∀ y, y ∈ ns → m ≤ y) → Q (.int m) H
theorem cr_minT (hc : X.calm = true) (hu : X.A.units + 65 < cLine) : CallR X (.builtin "min") (rMinT X.K) := by
  intro pins s σ H vs us Q I r h
  obtain ⟨a, ns, rfl, hs, hne, q⟩ := h
  obtain rfl := Vals.ref1 r
  obtain ⟨its, rv, hl, _⟩ := I.tuple hs
  cases ns with
  | nil => cases hne
  | cons x xs =>
    have hi := ints_of_vals rv
    refine PySem.W.min_tuple_datum (α := Int) (x := x) (xs := xs) (I.ok.hd hc) (show s.heap.IsTuple a its.toArray from hl) ⟨[], ?_⟩ (by show X.A.units + 1 + 0 < _; omega) fun i v h' tk hv hH hk => ?_
    · rw [List.toList_toArray]; exact IntsAre.reads s.heap hi
    · obtain ⟨m1, m2⟩ := minOf_ok xs x
      obtain ⟨bs, rd⟩ := hH
      cases rd with
      | int i t => exact ⟨.int _, H, I.kept hk, ⟨t, rfl⟩, q _ m1 m2⟩
variable {G : GS} {W : WX}
def xlens (c : XE) : XE := fun en st => (c en st).bind fun d st => match d with
  | .tup ds => match intsOf ds with
    | some ns => if decide (ns.length ≤ 1000) then .ok (.int (dcnt ns : Nat)) st else .bad
    | none => .bad
  | _ => .bad
theorem se_lens {p p2 q pos : Pos} {a : Expr} {c : XE} (hK : X.K = G.K) (hc : X.calm = true) (hm : X.mg "len" = none) (hm2 : X.mg "set" = none) (ha : SE G W X a c) (hg : Gl X "len" := by rfl) (hg2 : Gl X "set" := by rfl)
    (na : starEach [a] X.env = (false, eval a X.env) :: starEach [] X.env := by rfl) : SE G W X (.Call (.Name "len" p) [.Call (.Name "set" p2) [a] [] q] [] pos) (xlens c) :=
  ⟨PE_imp (pe_lenSetT hc hg hm hg2 hm2 ha.pe na) fun σ H Q ⟨g, en, st, R, h⟩ => by
    refine ⟨g, en, st, R, (pX.bind h).imp fun d st1 g1 H1 l1 R1 h1 v rv => ?_⟩
    split at h1
    · rename_i ds
      split at h1
      · rename_i ns hns
        split at h1
        · rename_i hl
          obtain ⟨b, vs, rfl, e2, e3⟩ := tup_H R1 rv
          have := intsOf_ok e3 hns
          subst this
          exact ⟨b, ns, rfl, by rw [hK]; exact e2, by simpa using hl, h1 g1 H1 (Le.refl _) R1 _ rfl⟩
        · exact h1.elim
      · exact h1.elim
    · exact h1.elim⟩
def bMinT : XF := fun ds st => match ds with
  | [.tup es] => match intsOf es with
    | some ns => if ns.isEmpty then .bad else .ok (.int (minL ns)) st
    | none => .bad
  | _ => .bad
theorem hc_minT (hK : X.K = G.K) (hc : X.calm = true) (hu : X.A.units + 65 < cLine) : CallR X (.builtin "min") (rA G W bMinT) := CallR_imp (cr_minT hc hu) fun vs H Q ⟨g, en, st, σ, ds, R, r, h⟩ => by
  unfold bMinT at h
  split at h
  · rename_i es
    split at h
    · rename_i ns hns
      split at h
      · exact h.elim
      · rename_i hne
        obtain ⟨v, rr, rfl, rv, rfl⟩ := r
        obtain ⟨a, us, rfl, e2, e3⟩ := tup_H R rv
        have := intsOf_ok e3 hns
        subst this
        have hne : ns ≠ [] := by simpa using hne
        obtain ⟨q1, q2⟩ := minL_ok hne
        refine ⟨a, ns, rfl, by rw [hK]; exact e2, List.length_pos_iff.mpr hne, fun m hm hy => ?_⟩
        obtain rfl : m = minL ns := Int.le_antisymm (hy _ q1) (q2 m hm)
        exact h g H (Le.refl _) R _ rfl
    · exact h.elim
  · exact h.elim
end
@[simp] theorem ev_lens (c : XE) (en : En) (st : Sto) : xlens c en st = (c en st).bind fun d st => match d with
  | .tup ds => match intsOf ds with
    | some ns => if decide (ns.length ≤ 1000) then .ok (.int (dcnt ns : Nat)) st else .bad
    | none => .bad
  | _ => .bad := (rfl)
@[simp] theorem ev_minT (es : List D) (st : Sto) : bMinT [.tup es] st = match intsOf es with
    | some ns => if ns.isEmpty then .bad else .ok (.int (minL ns)) st
    | none => .bad := (rfl)
end Px

namespace Px
open PySem PySem.Spec L2

theorem bAnd (a b : Nat) : Builtin.bitAnd (a : Int) (b : Int) = ((a &&& b : Nat) : Int) := by
  rw [PyProof.Rows.bitAnd_pp (by omega) (by omega)]; rfl
theorem bOr (a b : Nat) : Builtin.bitOr (a : Int) (b : Int) = ((a ||| b : Nat) : Int) := by
  have := PyProof.Rows.nat_or_add_and a b
  rw [PyProof.Rows.bitOr_and, bAnd]; omega
theorem bXor (a b : Nat) : Builtin.bitXor (a : Int) (b : Int) = ((a ^^^ b : Nat) : Int) := by
  have h1 := PyProof.Rows.nat_or_add_and a b
  have h2 : (a ^^^ b) + 2 * (a &&& b) = a + b := Bits.nat_xor_add_and a b
  unfold Builtin.bitXor
  rw [bOr, bAnd]; omega
def pc (n : Nat) : Nat := if h : n = 0 then 0 else n % 2 + pc (n / 2)
termination_by n
decreasing_by omega
theorem pc_0 : pc 0 = 0 := by rw [pc]; simp
theorem pc_eq (n : Nat) : pc n = n % 2 + pc (n / 2) := by
  by_cases h : n = 0
  · subst h; rw [pc]; simp [pc_0]
  · conv => lhs; rw [pc]
    rw [dif_neg h]
theorem pc_pos {n : Nat} : 0 < n → 0 < pc n := by
  induction n using Nat.strongRecOn with
  | ind n ih =>
    intro h
    rw [pc_eq]
    by_cases h2 : n % 2 = 1
    · omega
    · have := ih (n / 2) (by omega) (by omega)
      omega
theorem pc_clear (n : Nat) : 0 < n → pc (n &&& (n - 1)) + 1 = pc n := by
  induction n using Nat.strongRecOn with
  | ind n ih =>
    intro h
    rw [pc_eq (n &&& (n - 1)), pc_eq n, Nat.and_div_two]
    have m1 := @Nat.and_mod_two_eq_one n (n - 1)
    rcases Nat.mod_two_eq_zero_or_one n with h2 | h2
    · have e : (n - 1) / 2 = n / 2 - 1 := by omega
      have e0 : (n &&& (n - 1)) % 2 = 0 := by omega
      rw [e, e0, h2]
      have := ih (n / 2) (by omega) (by omega)
      omega
    · have e : (n - 1) / 2 = n / 2 := by omega
      have e0 : (n &&& (n - 1)) % 2 = 0 := by omega
      rw [e, e0, h2, Nat.and_self]
      omega
def bs (n : Nat) : Nat → Nat
  | 0 => 0
  | k + 1 => bs n k + n / 2 ^ k % 2
theorem bs_succ (n : Nat) : ∀ k, bs n (k + 1) = n % 2 + bs (n / 2) k
  | 0 => by simp [bs]
  | k + 1 => by
    show bs n (k + 1) + n / 2 ^ (k + 1) % 2 = n % 2 + (bs (n / 2) k + n / 2 / 2 ^ k % 2)
    rw [bs_succ n k, Nat.div_div_eq_div_mul, ← Nat.pow_succ', Nat.succ_eq_add_one]
    omega
theorem bs_pc : ∀ (k n : Nat), n < 2 ^ k → bs n k = pc n
  | 0, n, h => by
    have : n = 0 := by omega
    subst this
    exact pc_0.symm
  | k + 1, n, h => by
    rw [bs_succ, pc_eq n, bs_pc k (n / 2) (by rw [Nat.pow_succ] at h; omega)]
def cv_MACROS : D := .tup [.str ("CS" : Str), .str ("CSDG" : Str), .str ("CCZ" : Str), .str ("CCX" : Str), .str ("CSWAP" : Str)]
def kv_MACRO_SIZES : List (Str × D) := [(("CS" : Str), .int (2)), (("CSDG" : Str), .int (2)), (("CCZ" : Str), .int (3)), (("CCX" : Str), .int (3)), (("CSWAP" : Str), .int (3))]
def tb_InvalidGate : Nat → Option Bool := fun k => [none, some true].getD k none
def tb_PhasorError : Nat → Option Bool := fun k => [none, some true].getD k none
def s_L_cell : List D → RF := xfun 2 0 [] (
    (sseq (sif (xt (x2 iLt (xvar 1) (xbi bLen (xcons (xvar 0) xnil))))
    (sret (x2 oIx (xvar 0) (xvar 1)))
    snil)
    (sret (xc (.int 0)))))
def s_is_macro : List D → RF := xfun 2 0 [] (
    (sseq (sif (xor_ (xt (x2 oNotIn (xvar 0) (xc cv_MACROS))) (xt (x2 oNe (xbi bLen (xcons (xvar 1) xnil)) (xkget kv_MACRO_SIZES (xvar 0)))))
    (sret (xc (.bl false)))
    snil)
    (sret (vand (x2 iGe (xbi bMinT (xcons (xvar 1) xnil)) (xc (.int 0))) (x2 oEq (xlens (xvar 1)) (xbi bLen (xcons (xvar 1) xnil)))))))
def s_ccz_gates : List D → RF := xfun 3 0 [] (
    (sret (xlst (xcons (xtup (xcons (xc (.str ("T" : Str))) (xcons (xtup (xcons (xvar 0) xnil)) xnil))) (xcons (xtup (xcons (xc (.str ("T" : Str))) (xcons (xtup (xcons (xvar 1) xnil)) xnil))) (xcons (xtup (xcons (xc (.str ("T" : Str))) (xcons (xtup (xcons (xvar 2) xnil)) xnil))) (xcons (xtup (xcons (xc (.str ("CX" : Str))) (xcons (xtup (xcons (xvar 0) (xcons (xvar 1) xnil))) xnil))) (xcons (xtup (xcons (xc (.str ("TDG" : Str))) (xcons (xtup (xcons (xvar 1) xnil)) xnil))) (xcons (xtup (xcons (xc (.str ("CX" : Str))) (xcons (xtup (xcons (xvar 0) (xcons (xvar 1) xnil))) xnil))) (xcons (xtup (xcons (xc (.str ("CX" : Str))) (xcons (xtup (xcons (xvar 1) (xcons (xvar 2) xnil))) xnil))) (xcons (xtup (xcons (xc (.str ("TDG" : Str))) (xcons (xtup (xcons (xvar 2) xnil)) xnil))) (xcons (xtup (xcons (xc (.str ("CX" : Str))) (xcons (xtup (xcons (xvar 0) (xcons (xvar 2) xnil))) xnil))) (xcons (xtup (xcons (xc (.str ("T" : Str))) (xcons (xtup (xcons (xvar 2) xnil)) xnil))) (xcons (xtup (xcons (xc (.str ("CX" : Str))) (xcons (xtup (xcons (xvar 1) (xcons (xvar 2) xnil))) xnil))) (xcons (xtup (xcons (xc (.str ("TDG" : Str))) (xcons (xtup (xcons (xvar 2) xnil)) xnil))) (xcons (xtup (xcons (xc (.str ("CX" : Str))) (xcons (xtup (xcons (xvar 0) (xcons (xvar 2) xnil))) xnil))) xnil))))))))))))))))
def s_ccx_gates : List D → RF := xfun 3 0 [] (
    (sret (x2 oAdd (x2 oAdd (xlst (xcons (xtup (xcons (xc (.str ("H" : Str))) (xcons (xtup (xcons (xvar 2) xnil)) xnil))) xnil)) (xcall 3 [] s_ccz_gates [.val, .val, .val] (xcons (xvar 0) (xcons (xvar 1) (xcons (xvar 2) xnil))))) (xlst (xcons (xtup (xcons (xc (.str ("H" : Str))) (xcons (xtup (xcons (xvar 2) xnil)) xnil))) xnil)))))
def s_macro_gates : List D → RF := xfun 2 3 [] (
    (sseq (sif (xnot (xt (xcall 2 [] s_is_macro [.val, .val] (xcons (xvar 0) (xcons (xvar 1) xnil)))))
    (sraise 1)
    snil)
    (sseq (sif (xt (x2 oEq (xvar 0) (xc (.str ("CS" : Str)))))
    (sseq (sasg (xvar 1) (gtup 2 (gcons (gset 2) (gcons (gset 3) gnil))))
    (sret (xlst (xcons (xtup (xcons (xc (.str ("T" : Str))) (xcons (xtup (xcons (xvar 2) xnil)) xnil))) (xcons (xtup (xcons (xc (.str ("T" : Str))) (xcons (xtup (xcons (xvar 3) xnil)) xnil))) (xcons (xtup (xcons (xc (.str ("CX" : Str))) (xcons (xtup (xcons (xvar 2) (xcons (xvar 3) xnil))) xnil))) (xcons (xtup (xcons (xc (.str ("TDG" : Str))) (xcons (xtup (xcons (xvar 3) xnil)) xnil))) (xcons (xtup (xcons (xc (.str ("CX" : Str))) (xcons (xtup (xcons (xvar 2) (xcons (xvar 3) xnil))) xnil))) xnil))))))))
    snil)
    (sseq (sif (xt (x2 oEq (xvar 0) (xc (.str ("CSDG" : Str)))))
    (sseq (sasg (xvar 1) (gtup 2 (gcons (gset 2) (gcons (gset 3) gnil))))
    (sret (xlst (xcons (xtup (xcons (xc (.str ("TDG" : Str))) (xcons (xtup (xcons (xvar 2) xnil)) xnil))) (xcons (xtup (xcons (xc (.str ("TDG" : Str))) (xcons (xtup (xcons (xvar 3) xnil)) xnil))) (xcons (xtup (xcons (xc (.str ("CX" : Str))) (xcons (xtup (xcons (xvar 2) (xcons (xvar 3) xnil))) xnil))) (xcons (xtup (xcons (xc (.str ("T" : Str))) (xcons (xtup (xcons (xvar 3) xnil)) xnil))) (xcons (xtup (xcons (xc (.str ("CX" : Str))) (xcons (xtup (xcons (xvar 2) (xcons (xvar 3) xnil))) xnil))) xnil))))))))
    snil)
    (sseq (sasg (xvar 1) (gtup 3 (gcons (gset 2) (gcons (gset 3) (gcons (gset 4) gnil)))))
    (sseq (sif (xt (x2 oEq (xvar 0) (xc (.str ("CCZ" : Str)))))
    (sret (xcall 3 [] s_ccz_gates [.val, .val, .val] (xcons (xvar 2) (xcons (xvar 3) (xcons (xvar 4) xnil)))))
    snil)
    (sseq (sif (xt (x2 oEq (xvar 0) (xc (.str ("CCX" : Str)))))
    (sret (xcall 3 [] s_ccx_gates [.val, .val, .val] (xcons (xvar 2) (xcons (xvar 3) (xcons (xvar 4) xnil)))))
    snil)
    (sret (x2 oAdd (x2 oAdd (xlst (xcons (xtup (xcons (xc (.str ("CX" : Str))) (xcons (xtup (xcons (xvar 4) (xcons (xvar 3) xnil))) xnil))) xnil)) (xcall 3 [] s_ccx_gates [.val, .val, .val] (xcons (xvar 2) (xcons (xvar 3) (xcons (xvar 4) xnil))))) (xlst (xcons (xtup (xcons (xc (.str ("CX" : Str))) (xcons (xtup (xcons (xvar 4) (xcons (xvar 3) xnil))) xnil))) xnil)))))))))))
def s_L_is_integer : List D → RF := xfun 1 0 [] (
    (sret (vand (x1 (bIsa "int") (xvar 0)) (vnot (x1 (bIsa "bool") (xvar 0))))))
def lb_L_gate_fits_0 : XS := (sif (xor_ (xnot (xt (xcall 1 [] s_L_is_integer [.val] (xcons (xvar 3) xnil)))) (xnot (xt (xch iLe iLt (xc (.int 0)) (xvar 3) (xvar 1)))))
    (sret (xc (.bl false)))
    snil)
def s_L_gate_fits : List D → RF := xfun 2 2 [] (
    (sseq (sset 2 (xdisp (xpcons (xc (.str ("H" : Str))) (xc (.int 1)) (xpcons (xc (.str ("X" : Str))) (xc (.int 1)) (xpcons (xc (.str ("Y" : Str))) (xc (.int 1)) (xpcons (xc (.str ("Z" : Str))) (xc (.int 1)) (xpcons (xc (.str ("S" : Str))) (xc (.int 1)) (xpcons (xc (.str ("SDG" : Str))) (xc (.int 1)) (xpcons (xc (.str ("T" : Str))) (xc (.int 1)) (xpcons (xc (.str ("TDG" : Str))) (xc (.int 1)) (xpcons (xc (.str ("CX" : Str))) (xc (.int 2)) (xpcons (xc (.str ("CZ" : Str))) (xc (.int 2)) (xpcons (xc (.str ("SWAP" : Str))) (xc (.int 2)) (xpcons (xc (.str ("W" : Str))) (xc (.int 0)) xpnil))))))))))))))
    (sseq (sif (xor_ (xnot (xt (x1 (bIsa "tuple") (xvar 0)))) (xt (x2 oNe (xbi bLen (xcons (xvar 0) xnil)) (xc (.int 2)))))
    (sret (xc (.bl false)))
    snil)
    (sseq (sif (xor_ (xnot (xt (x1 (bIsa "str") (x2 oIx (xvar 0) (xc (.int 0)))))) (xnot (xt (x1 (bIsa "tuple") (x2 oIx (xvar 0) (xc (.int 1)))))))
    (sret (xc (.bl false)))
    snil)
    (sseq (sif (xor_ (xt (x2 oNotInd (x2 oIx (xvar 0) (xc (.int 0))) (xvar 2))) (xt (x2 oNe (xbi bLen (xcons (x2 oIx (xvar 0) (xc (.int 1))) xnil)) (x2 oIxd (xvar 2) (x2 oIx (xvar 0) (xc (.int 0)))))))
    (sret (xc (.bl false)))
    snil)
    (sseq (sfor (iany (x2 oIx (xvar 0) (xc (.int 1)))) (gset 3) lb_L_gate_fits_0)
    (sret (vor (x2 iLt (xbi bLen (xcons (x2 oIx (xvar 0) (xc (.int 1))) xnil)) (xc (.int 2))) (x2 oNe (x2 oIx (x2 oIx (xvar 0) (xc (.int 1))) (xc (.int 0))) (x2 oIx (x2 oIx (xvar 0) (xc (.int 1))) (xc (.int 1))))))))))))
def lb_L_list_fits_0 : XS := (sif (xnot (xt (xcall 2 [] s_L_gate_fits [.val, .val] (xcons (xvar 2) (xcons (xvar 1) xnil)))))
    (sret (xc (.bl false)))
    snil)
def s_L_list_fits : List D → RF := xfun 2 1 [] (
    (sseq (sif (xnot (xt (x1 (bIsa "list") (xvar 0))))
    (sret (xc (.bl false)))
    snil)
    (sseq (sfor (iany (xvar 0)) (gset 2) lb_L_list_fits_0)
    (sret (xc (.bl true))))))
def s_L_due : List D → RF := xfun 3 4 [] (
    (sseq (sset 3 (x2 iAnd (x2 iShr (xvar 2) (x2 oIx (xvar 1) (xc (.int 0)))) (xc (.int 1))))
    (sseq (sset 4 (x2 iAnd (x2 iShr (xvar 2) (x2 oIx (xvar 1) (xc (.int 1)))) (xc (.int 1))))
    (sseq (sif (xt (x2 oEq (xvar 0) (xc (.str ("CS" : Str)))))
    (sret (xtup (xcons (xvar 2) (xcons (x2 oMul (x2 oMul (xc (.int 2)) (xvar 3)) (xvar 4)) xnil))))
    snil)
    (sseq (sif (xt (x2 oEq (xvar 0) (xc (.str ("CSDG" : Str)))))
    (sret (xtup (xcons (xvar 2) (xcons (x2 oMul (x2 oMul (xc (.int 6)) (xvar 3)) (xvar 4)) xnil))))
    snil)
    (sseq (sset 5 (x2 iAnd (x2 iShr (xvar 2) (x2 oIx (xvar 1) (xc (.int 2)))) (xc (.int 1))))
    (sseq (sif (xt (x2 oEq (xvar 0) (xc (.str ("CCZ" : Str)))))
    (sret (xtup (xcons (xvar 2) (xcons (x2 oMul (x2 oMul (x2 oMul (xc (.int 4)) (xvar 3)) (xvar 4)) (xvar 5)) xnil))))
    snil)
    (sseq (sif (xt (x2 oEq (xvar 0) (xc (.str ("CCX" : Str)))))
    (sret (xtup (xcons (x2 iXor (xvar 2) (x2 iShl (x2 oMul (xvar 3) (xvar 4)) (x2 oIx (xvar 1) (xc (.int 2))))) (xcons (xc (.int 0)) xnil))))
    snil)
    (sseq (sset 6 (x2 oMul (xvar 3) (x2 iXor (xvar 4) (xvar 5))))
    (sret (xtup (xcons (x2 iXor (x2 iXor (xvar 2) (x2 iShl (xvar 6) (x2 oIx (xvar 1) (xc (.int 1))))) (x2 iShl (xvar 6) (x2 oIx (xvar 1) (xc (.int 2))))) (xcons (xc (.int 0)) xnil)))))))))))))
def lb_L_root_1 : XS := (sseq (sset 5 (x2 oIxd (xvar 0) (xvar 4)))
    (sasg (xtup (xcons (x2 iSub (x2 oIxd (xvar 5) (xc (.int 1))) (x2 oIxd (xvar 5) (xc (.int 3)))) (xcons (x2 oAdd (x2 oIxd (xvar 5) (xc (.int 0))) (x2 oIxd (xvar 5) (xc (.int 2)))) (xcons (x2 oAdd (x2 oIxd (xvar 5) (xc (.int 1))) (x2 oIxd (xvar 5) (xc (.int 3)))) (xcons (x2 iSub (x2 oIxd (xvar 5) (xc (.int 2))) (x2 oIxd (xvar 5) (xc (.int 0)))) xnil))))) (gsub oSetD (xvar 3) (xvar 4))))
def lb_L_root_0 : XS := (sseq (sset 3 xdnew)
    (sseq (sfrz 0 (sforK (xvar 0) (gset 4) lb_L_root_1))
    (sset 0 (xvar 3))))
def s_L_root : List D → RF := xfun 2 4 [] (
    (sseq (sfor (irng1 (xcons (xvar 1) xnil)) (gset 2) lb_L_root_0)
    (sret (xvar 0))))
def lb_L_turn_0 : XS := (sset 0 (xtup (xcons (x1 oNeg (x2 oIxd (xvar 0) (xc (.int 3)))) (xcons (x2 oIxd (xvar 0) (xc (.int 0))) (xcons (x2 oIxd (xvar 0) (xc (.int 1))) (xcons (x2 oIxd (xvar 0) (xc (.int 2))) xnil))))))
def s_L_turn : List D → RF := xfun 2 1 [] (
    (sseq (sfor (irng1 (xcons (x2 iMod (xbi bInt (xcons (xvar 1) xnil)) (xc (.int 8))) xnil)) (gset 2) lb_L_turn_0)
    (sret (xvar 0))))
def lb_L_same_0 : XS := (sif (xt (x2 oNe (xdget2 (xvar 3) (xvar 5) (xtup (xcons (xc (.int 0)) (xcons (xc (.int 0)) (xcons (xc (.int 0)) (xcons (xc (.int 0)) xnil)))))) (xcall 2 [] s_L_turn [.mov, .val] (xcons (xdget2 (xvar 4) (xvar 5) (xtup (xcons (xc (.int 0)) (xcons (xc (.int 0)) (xcons (xc (.int 0)) (xcons (xc (.int 0)) xnil)))))) (xcons (xvar 2) xnil)))))
    (sret (xc (.bl false)))
    snil)
def s_L_same : List D → RF := xfun 3 3 [] (
    (sseq (sset 3 (xcall 2 [] s_L_root [.mov, .mov] (xcons (x2 oIx (xvar 0) (xc (.int 0))) (xcons (xbi bMax1 (xcons (xc (.int 0)) (xcons (x2 iSub (x2 oIx (xvar 1) (xc (.int 1))) (x2 oIx (xvar 0) (xc (.int 1)))) xnil))) xnil))))
    (sseq (sset 4 (xcall 2 [] s_L_root [.mov, .mov] (xcons (x2 oIx (xvar 1) (xc (.int 0))) (xcons (xbi bMax1 (xcons (xc (.int 0)) (xcons (x2 iSub (x2 oIx (xvar 0) (xc (.int 1))) (x2 oIx (xvar 1) (xc (.int 1)))) xnil))) xnil))))
    (sseq (sfor (iany (x2 oAdd (xbi bListd (xcons (xvar 3) xnil)) (xbi bListd (xcons (xvar 4) xnil)))) (gset 5) lb_L_same_0)
    (sret (xc (.bl true)))))))
def s_L_put : List D → RF := xfun 3 1 [0] (
    (sseq (sset 3 (xdget2 (xvar 0) (xvar 1) (xtup (xcons (xc (.int 0)) (xcons (xc (.int 0)) (xcons (xc (.int 0)) (xcons (xc (.int 0)) xnil)))))))
    (sasg (xtup (xcons (x2 oAdd (x2 oIxd (xvar 3) (xc (.int 0))) (x2 oIxd (xvar 2) (xc (.int 0)))) (xcons (x2 oAdd (x2 oIxd (xvar 3) (xc (.int 1))) (x2 oIxd (xvar 2) (xc (.int 1)))) (xcons (x2 oAdd (x2 oIxd (xvar 3) (xc (.int 2))) (x2 oIxd (xvar 2) (xc (.int 2)))) (xcons (x2 oAdd (x2 oIxd (xvar 3) (xc (.int 3))) (x2 oIxd (xvar 2) (xc (.int 3)))) xnil))))) (gsub oSetD (xvar 0) (xvar 1)))))
def s_L_move : List D → RF := xfun 2 5 [] (
    (sseq (sset 2 (x2 oIx (xvar 1) (xc (.int 0))))
    (sseq (sif (xt (x2 oEq (xvar 2) (xc (.str ("W" : Str)))))
    (sret (xtup (xcons (xvar 0) (xcons (xc (.int 1)) xnil))))
    snil)
    (sseq (sset 3 (x2 iAnd (x2 iShr (xvar 0) (x2 oIx (x2 oIx (xvar 1) (xc (.int 1))) (xc (.int 0)))) (xc (.int 1))))
    (sseq (sif (xt (x2 oEq (xvar 2) (xc (.str ("X" : Str)))))
    (sret (xtup (xcons (x2 iXor (xvar 0) (x2 iShl (xc (.int 1)) (x2 oIx (x2 oIx (xvar 1) (xc (.int 1))) (xc (.int 0))))) (xcons (xc (.int 0)) xnil))))
    snil)
    (sseq (sif (xt (x2 oEq (xvar 2) (xc (.str ("Y" : Str)))))
    (sret (xtup (xcons (x2 iXor (xvar 0) (x2 iShl (xc (.int 1)) (x2 oIx (x2 oIx (xvar 1) (xc (.int 1))) (xc (.int 0))))) (xcons (x2 oAdd (xc (.int 2)) (x2 oMul (xc (.int 4)) (xvar 3))) xnil))))
    snil)
    (sseq (sif (xt (x2 oIn (xvar 2) (xtup (xcons (xc (.str ("Z" : Str))) (xcons (xc (.str ("S" : Str))) (xcons (xc (.str ("SDG" : Str))) (xcons (xc (.str ("T" : Str))) (xcons (xc (.str ("TDG" : Str))) xnil))))))))
    (sseq (sset 6 (xdisp (xpcons (xc (.str ("Z" : Str))) (xc (.int 4)) (xpcons (xc (.str ("S" : Str))) (xc (.int 2)) (xpcons (xc (.str ("SDG" : Str))) (xc (.int 6)) (xpcons (xc (.str ("T" : Str))) (xc (.int 1)) (xpcons (xc (.str ("TDG" : Str))) (xc (.int 7)) xpnil)))))))
    (sret (xtup (xcons (xvar 0) (xcons (x2 oMul (x2 oIxd (xvar 6) (xvar 2)) (xvar 3)) xnil)))))
    snil)
    (sseq (sset 4 (x2 iAnd (x2 iShr (xvar 0) (x2 oIx (x2 oIx (xvar 1) (xc (.int 1))) (xc (.int 1)))) (xc (.int 1))))
    (sseq (sif (xt (x2 oEq (xvar 2) (xc (.str ("CX" : Str)))))
    (sret (xtup (xcons (x2 iXor (xvar 0) (x2 iShl (xvar 3) (x2 oIx (x2 oIx (xvar 1) (xc (.int 1))) (xc (.int 1))))) (xcons (xc (.int 0)) xnil))))
    snil)
    (sseq (sif (xt (x2 oEq (xvar 2) (xc (.str ("CZ" : Str)))))
    (sret (xtup (xcons (xvar 0) (xcons (x2 oMul (x2 oMul (xc (.int 4)) (xvar 3)) (xvar 4)) xnil))))
    snil)
    (sseq (sset 5 (x2 iXor (xvar 3) (xvar 4)))
    (sret (xtup (xcons (x2 iXor (x2 iXor (xvar 0) (x2 iShl (xvar 5) (x2 oIx (x2 oIx (xvar 1) (xc (.int 1))) (xc (.int 0))))) (x2 iShl (xvar 5) (x2 oIx (x2 oIx (xvar 1) (xc (.int 1))) (xc (.int 1))))) (xcons (xc (.int 0)) xnil)))))))))))))))
def lb_L_after_0 : XS := (sseq (sset 5 (x2 oIxd (xvar 0) (xvar 3)))
    (sif (xt (x2 oEq (x2 oIx (xvar 1) (xc (.int 0))) (xc (.str ("H" : Str)))))
    (sseq (sset 6 (x2 iAnd (x2 iShr (xvar 3) (x2 oIx (x2 oIx (xvar 1) (xc (.int 1))) (xc (.int 0)))) (xc (.int 1))))
    (sseq (sset 7 (x2 iSub (xvar 3) (x2 iShl (xvar 6) (x2 oIx (x2 oIx (xvar 1) (xc (.int 1))) (xc (.int 0))))))
    (sseq (sexpr (xcall 3 [0] s_L_put [.mut, .val, .val] (xcons (xvar 2) (xcons (xvar 7) (xcons (xvar 5) xnil)))))
    (sexpr (xcall 3 [0] s_L_put [.mut, .mov, .mov] (xcons (xvar 2) (xcons (x2 oAdd (xvar 7) (x2 iShl (xc (.int 1)) (x2 oIx (x2 oIx (xvar 1) (xc (.int 1))) (xc (.int 0))))) (xcons (xcall 2 [] s_L_turn [.val, .mov] (xcons (xvar 5) (xcons (x2 oMul (xc (.int 4)) (xvar 6)) xnil))) xnil))))))))
    (sseq (sset 8 (xcall 2 [] s_L_move [.val, .val] (xcons (xvar 3) (xcons (xvar 1) xnil))))
    (sexpr (xcall 3 [0] s_L_put [.mut, .val, .mov] (xcons (xvar 2) (xcons (x2 oIx (xvar 8) (xc (.int 0))) (xcons (xcall 2 [] s_L_turn [.val, .val] (xcons (xvar 5) (xcons (x2 oIx (xvar 8) (xc (.int 1))) xnil))) xnil))))))))
def lb_L_after_1 : XS := (sif (xt (x2 oNe (x2 oIxd (xvar 2) (xvar 3)) (xtup (xcons (xc (.int 0)) (xcons (xc (.int 0)) (xcons (xc (.int 0)) (xcons (xc (.int 0)) xnil)))))))
    (sasg (x2 oIxd (xvar 2) (xvar 3)) (gsub oSetD (xvar 4) (xvar 3)))
    snil)
def s_L_after : List D → RF := xfun 2 7 [] (
    (sseq (sset 2 xdnew)
    (sseq (sfrz 0 (sforK (xvar 0) (gset 3) lb_L_after_0))
    (sseq (sset 4 xdnew)
    (sseq (sfrz 2 (sforK (xvar 2) (gset 3) lb_L_after_1))
    (sret (xvar 4)))))))
def lb_L_sim_0 : XS := (sseq (sset 2 (xcall 2 [] s_L_after [.val, .val] (xcons (xvar 2) (xcons (xvar 4) xnil))))
    (sset 3 (x2 oAdd (xvar 3) (xbi bInt (xcons (x2 oEq (x2 oIx (xvar 4) (xc (.int 0))) (xc (.str ("H" : Str)))) xnil)))))
def s_L_sim : List D → RF := xfun 2 3 [] (
    (sseq (sset 2 (xdisp (xpcons (xvar 1) (xtup (xcons (xc (.int 1)) (xcons (xc (.int 0)) (xcons (xc (.int 0)) (xcons (xc (.int 0)) xnil))))) xpnil)))
    (sseq (sset 3 (xc (.int 0)))
    (sseq (sfor (iany (xvar 0)) (gset 4) lb_L_sim_0)
    (sret (xtup (xcons (xvar 2) (xcons (xvar 3) xnil))))))))
def ce_law_0 : XE := (x2 iMod (xbi bInt (xcons (x2 oAdd (xcall 2 [] s_L_cell [.val, .mov] (xcons (xvar 0) (xcons (x2 oAdd (xc (.int 2)) (xvar 9)) xnil))) (xvar 9)) xnil)) (xc (.int 5)))
def ce_law_1 : XE := (x2 iSub (x2 iMod (xbi bInt (xcons (xcall 2 [] s_L_cell [.val, .mov] (xcons (xvar 0) (xcons (x2 oAdd (xc (.int 2)) (xvar 9)) xnil))) xnil)) (xc (.int 6))) (xc (.int 1)))
def lb_law_0 : XS := (sset 8 (vand (xvar 8) (vand (x2 iGe (x2 oIx (xvar 6) (xvar 9)) (xc (.int 0))) (x2 oNotIn (x2 oIx (xvar 6) (xvar 9)) (xsl (xvar 6) xonone (xosome (xvar 9)))))))
def s_law : List D → RF := xfun 1 12 [] (
    (sseq (sset 1 (xlst (xcons (xc (.str ("CS" : Str))) (xcons (xc (.str ("CSDG" : Str))) (xcons (xc (.str ("CCZ" : Str))) (xcons (xc (.str ("CCX" : Str))) (xcons (xc (.str ("CSWAP" : Str))) (xcons (xc (.str ("CX" : Str))) (xcons (xc (.str ("W" : Str))) (xcons (xc (.str ("cs" : Str))) xnil))))))))))
    (sseq (sset 2 (xlst (xcons (xc (.int 2)) (xcons (xc (.int 2)) (xcons (xc (.int 3)) (xcons (xc (.int 3)) (xcons (xc (.int 3)) (xcons (x1 oNeg (xc (.int 1))) (xcons (x1 oNeg (xc (.int 1))) (xcons (x1 oNeg (xc (.int 1))) xnil))))))))))
    (sseq (sset 3 (xlst (xcons (xc (.int 5)) (xcons (xc (.int 5)) (xcons (xc (.int 13)) (xcons (xc (.int 15)) (xcons (xc (.int 17)) xnil)))))))
    (sseq (sset 4 (x2 iMod (xbi bInt (xcons (xcall 2 [] s_L_cell [.val, .val] (xcons (xvar 0) (xcons (xc (.int 0)) xnil))) xnil)) (xc (.int 8))))
    (sseq (sif (xt (x2 oNe (x2 iMod (xbi bInt (xcons (x2 iDiv (xcall 2 [] s_L_cell [.val, .val] (xcons (xvar 0) (xcons (xc (.int 0)) xnil))) (xc (.int 8))) xnil)) (xc (.int 4))) (xc (.int 0))))
    (sset 4 (x2 iMod (xbi bInt (xcons (x2 iDiv (xcall 2 [] s_L_cell [.val, .val] (xcons (xvar 0) (xcons (xc (.int 0)) xnil))) (xc (.int 8))) xnil)) (xc (.int 5))))
    snil)
    (sseq (sset 5 (xbi bMax1 (xcons (xc (.int 2)) (xcons (x2 oIx (xvar 2) (xvar 4)) xnil))))
    (sseq (sif (xt (x2 oEq (x2 iMod (xbi bInt (xcons (xcall 2 [] s_L_cell [.val, .val] (xcons (xvar 0) (xcons (xc (.int 1)) xnil))) xnil)) (xc (.int 4))) (xc (.int 0))))
    (sset 5 (x2 iMod (xbi bInt (xcons (x2 iDiv (xcall 2 [] s_L_cell [.val, .val] (xcons (xvar 0) (xcons (xc (.int 1)) xnil))) (xc (.int 4))) xnil)) (xc (.int 5))))
    snil)
    (sseq (sset 6 (xlc [9] (irng1 (xcons (xvar 5) xnil)) (Pat.x (.nm 9)) xyes ce_law_0))
    (sseq (sif (xt (x2 oEq (x2 iMod (xbi bInt (xcons (xcall 2 [] s_L_cell [.val, .val] (xcons (xvar 0) (xcons (xc (.int 6)) xnil))) xnil)) (xc (.int 4))) (xc (.int 0))))
    (sset 6 (xlc [9] (irng1 (xcons (xvar 5) xnil)) (Pat.x (.nm 9)) xyes ce_law_1))
    snil)
    (sseq (sset 7 (x2 iMod (xbi bInt (xcons (xcall 2 [] s_L_cell [.val, .val] (xcons (xvar 0) (xcons (xc (.int 7)) xnil))) xnil)) (xc (.int 32))))
    (sseq (sset 8 (x2 oEq (xvar 5) (x2 oIx (xvar 2) (xvar 4))))
    (sseq (sfor (irng1 (xcons (xvar 5) xnil)) (gset 9) lb_law_0)
    (sseq (stry tb_PhasorError 10
    (sset 12 (xcall 2 [] s_macro_gates [.val, .mov] (xcons (x2 oIx (xvar 1) (xvar 4)) (xcons (xbi bTuple (xcons (xvar 6) xnil)) xnil))))
    (fun k => (sret (vand (xisx tb_InvalidGate k) (vnot (xvar 8))))))
    (sseq (sif (xor_ (xnot (xt (xvar 8))) (xor_ (xnot (xt (xcall 2 [] s_L_list_fits [.val, .val] (xcons (xvar 12) (xcons (xc (.int 5)) xnil))))) (xor_ (xt (x2 oNe (xbi bLen (xcons (xvar 12) xnil)) (x2 oIx (xvar 3) (xvar 4)))) (xt (x2 oNe (xc cv_MACROS) (xbi bTuple (xcons (xsl (xvar 1) xonone (xosome (xc (.int 5)))) xnil)))))))
    (sret (xc (.bl false)))
    snil)
    (sseq (sset 11 (xcall 3 [] s_L_due [.val, .val, .val] (xcons (x2 oIx (xvar 1) (xvar 4)) (xcons (xvar 6) (xcons (xvar 7) xnil)))))
    (sret (xcall 3 [] s_L_same [.mov, .mov, .val] (xcons (xcall 2 [] s_L_sim [.val, .val] (xcons (xvar 12) (xcons (xvar 7) xnil))) (xcons (xtup (xcons (xdisp (xpcons (x2 oIx (xvar 11) (xc (.int 0))) (xcall 2 [] s_L_turn [.mov, .val] (xcons (xtup (xcons (xc (.int 1)) (xcons (xc (.int 0)) (xcons (xc (.int 0)) (xcons (xc (.int 0)) xnil))))) (xcons (x2 oIx (xvar 11) (xc (.int 1))) xnil))) xpnil)) (xcons (xc (.int 0)) xnil))) (xcons (xc (.int 0)) xnil)))))))))))))))))))))
def celA (ns : List Int) (k : Int) : Int := if k < ns.length then (ns[k.toNat]?).getD 0 else 0
theorem celA_sz {ns : List Int} (hb : ∀ z ∈ ns, Builtin.Int.intBits z ≤ 1048576) (k : Int) : Sz 1048576 (celA ns k) := by
  unfold celA
  split
  · cases e : ns[k.toNat]? with
    | none => exact Nat.two_pow_pos _
    | some z => exact Sz.bits (hb z (List.mem_of_getElem? e))
  · exact Nat.two_pow_pos _
theorem atI_ints (ns : List Int) (k : Int) (h0 : 0 ≤ k) (h : k < ns.length) : atI (ns.map D.int) k = some (.int (celA ns k)) := by
  unfold atI ixN celA
  have h2 : k.toNat < ns.length := by omega
  rw [if_pos h]
  simp [h, h0, h2]
theorem L_cell {ns : List Int} (hl : ns.length ≤ 63) (k : Nat) : s_L_cell [.lst .ro (ns.map D.int), .int k] = .ok (.int (celA ns k)) [] := by
  by_cases h : (k : Int) < ns.length
  · simp [s_L_cell, bLen, h, atI_ints ns k (by omega) h]
  · simp [s_L_cell, bLen, h, celA]
theorem l_int (a : Int) : s_L_is_integer [.int a] = .ok (.bl true) [] := by
  simp [s_L_is_integer]
theorem sh_nat (n k : Nat) : (n : Int) / 2 ^ k = ((n / 2 ^ k : Nat) : Int) := by
  rw [Int.natCast_ediv, Int.natCast_pow]; rfl
theorem an_nat (n : Nat) : Builtin.bitAnd (n : Int) 1 = ((n % 2 : Nat) : Int) := by
  have := bAnd n 1
  rw [Nat.and_one_is_mod] at this
  exact this
theorem bit_nat (n k : Nat) : Builtin.bitAnd ((n : Int) / 2 ^ k) 1 = ((n / 2 ^ k % 2 : Nat) : Int) := by rw [sh_nat, an_nat]
theorem xor_bits (a b : Nat) : (a % 2) ^^^ (b % 2) = (a + b) % 2 := by
  rcases Nat.mod_two_eq_zero_or_one a with h1 | h1 <;> rcases Nat.mod_two_eq_zero_or_one b with h2 | h2 <;> rw [h1, h2] <;> simp <;> omega
theorem sl_nat (b k : Nat) : (b : Int) * 2 ^ k = ((b * 2 ^ k : Nat) : Int) := by
  rw [Int.natCast_mul, Int.natCast_pow]; rfl
theorem sat0 (st r : Sto) : (st ++ r)[st.length]? = r[0]? := by rw [List.getElem?_append_right (Nat.le_refl _), Nat.sub_self]
theorem satk (st r : Sto) (k : Nat) : (st ++ r)[st.length + k]? = r[k]? := by rw [List.getElem?_append_right (by omega)]; congr 1; omega
theorem satkk (st r : Sto) (j k : Nat) : (st ++ r)[st.length + j + k]? = r[j + k]? := by rw [List.getElem?_append_right (by omega)]; congr 1; omega
theorem slow {st : Sto} {j : Nat} {c : Cell} (h : st[j]? = some c) (r : Sto) : (st ++ r)[j]? = some c := by rw [List.getElem?_append_left (List.getElem?_eq_some_iff.mp h).1, h]
theorem sset0 (st r : Sto) (c : Cell) : (st ++ r).set st.length c = st ++ r.set 0 c := by rw [List.set_append_right _ _ (Nat.le_refl _), Nat.sub_self]
theorem ssetk (st r : Sto) (k : Nat) (c : Cell) : (st ++ r).set (st.length + k) c = st ++ r.set k c := by rw [List.set_append_right _ _ (by omega)]; congr 2; omega
theorem ssetkk (st r : Sto) (j k : Nat) (c : Cell) : (st ++ r).set (st.length + j + k) c = st ++ r.set (j + k) c := by rw [List.set_append_right _ _ (by omega)]; congr 2; omega
theorem sgt0 (st : Sto) (r : Sto) (a : Cell) : st.length < (st ++ a :: r).length := by simp
theorem cloop_rng {own : List Nat} {t : XG} {c : XT} {e : XE} {en : En} {st : Sto} (n : Nat) (g : Nat → D) (h : ∀ k, k < n → ∀ acc, cstp t c e (.int ((k : Nat) : Int)) (wipeE en own) (st ++ [.lst acc]) = .ok (some (g k)) (st ++ [.lst acc])) (hn : n ≤ 16777216) :
    cloop own st.length [] t c e en (rngL 0 n) (st ++ [.lst []]) = .ok () (st ++ [.lst ((List.range n).map g)]) := by
  have := cloop_map (own := own) (src := []) (t := t) (c := c) (e := e) (en := en) (st := st) (f := fun d => match d with | .int i => some (g i.toNat) | _ => none) (rngL 0 n) [] (fun d hd acc => ?_) (fun _ => rfl) (by simp; omega)
  · rw [this]
    congr 2
    rw [List.nil_append]
    congr 2
    unfold rngL
    rw [List.filterMap_map]
    clear this h hn
    generalize List.range n = l
    induction l with
    | nil => rfl
    | cons a l ih => rw [List.map_cons, ← ih]; simp
  · refine ⟨rfl, ?_⟩
    unfold rngL at hd
    obtain ⟨k, hk, rfl⟩ := List.mem_map.mp hd
    have := h k (List.mem_range.mp hk) acc
    simp at this ⊢
    exact this
theorem cloop_seq {own : List Nat} {src : List (Nat × List D)} {t : XG} {c : XT} {e : XE} {en : En} {st : Sto} : ∀ (ds rs : List D), ds.length = rs.length → (∀ k (h : k < ds.length) (h' : k < rs.length) acc, okSrc src (st ++ [.lst acc]) = true ∧ cstp t c e ds[k] (wipeE en own) (st ++ [.lst acc]) = .ok (some rs[k]) (st ++ [.lst acc])) →
    (∀ acc, okSrc src (st ++ [.lst acc]) = true) → ds.length ≤ 16777216 → cloop own st.length src t c e en ds (st ++ [.lst []]) = .ok () (st ++ [.lst rs]) := by
  have gen : ∀ (ds rs acc : List D), ds.length = rs.length → (∀ k (h : k < ds.length) (h' : k < rs.length) acc, okSrc src (st ++ [.lst acc]) = true ∧ cstp t c e ds[k] (wipeE en own) (st ++ [.lst acc]) = .ok (some rs[k]) (st ++ [.lst acc])) →
      (∀ acc, okSrc src (st ++ [.lst acc]) = true) → acc.length + ds.length ≤ 16777216 → cloop own st.length src t c e en ds (st ++ [.lst acc]) = .ok () (st ++ [.lst (acc ++ rs)]) := by
    intro ds
    induction ds with
    | nil =>
      intro rs acc hl _ hs _
      have : rs = [] := List.length_eq_zero_iff.mp hl.symm
      subst this
      simp [cloop, hs acc]
    | cons d ds ih =>
      intro rs acc hl h hs hb
      cases rs with
      | nil => simp at hl
      | cons r rs =>
        have h0 := h 0 (by simp) (by simp) acc
        simp only [List.getElem_cons_zero] at h0
        have hb' : (acc ++ [r]).length + ds.length ≤ 16777216 := by simp only [List.length_append, List.length_cons, List.length_nil] at hb ⊢; omega
        have := ih rs (acc ++ [r]) (by simpa using hl) (fun k hk hk' acc => by
          have := h (k + 1) (by simpa using hk) (by simpa using hk') acc
          simpa using this) hs hb'
        rw [cloop_step h0.1 h0.2 (by rw [sat0]; rfl) (by simp only [List.length_cons] at hb; omega), sset0, List.set_cons_zero, this]
        simp
  intro ds rs hl h hs hb
  have := gen ds rs [] hl h hs (by simpa using hb)
  simpa using this
def GateOK (w : Nat) (K : Str) (qs : List Nat) : Prop :=
  (K = ("W" : Str) ∧ qs = []) ∨ (K ∈ [("H" : Str), ("X" : Str), ("Y" : Str), ("Z" : Str), ("S" : Str), ("SDG" : Str), ("T" : Str), ("TDG" : Str)] ∧ ∃ q, q < w ∧ qs = [q])
    ∨ (K ∈ [("CX" : Str), ("CZ" : Str), ("SWAP" : Str)] ∧ ∃ a b, a < w ∧ b < w ∧ a ≠ b ∧ qs = [a, b])
def gateD (K : Str) (qs : List Nat) : D := .tup [.str K, .tup (qs.map fun q : Nat => D.int (q : Int))]
@[simp] theorem gnoc (K : Str) (qs : List Nat) : (gateD K qs).noc = true := by unfold gateD; simp
@[simp] theorem gpl (K : Str) (qs : List Nat) : (gateD K qs).pl = true := by unfold gateD; simp
structure Qr where
  a : Int
  b : Int
  c : Int
  d : Int
deriving DecidableEq
def qD (x : Qr) : D := .tup [.int x.a, .int x.b, .int x.c, .int x.d]
@[simp] theorem noc_q (x : Qr) : D.noc (qD x) = true := by simp [qD]
@[simp] theorem pl_q (x : Qr) : D.pl (qD x) = true := by simp [qD]
@[simp] theorem sh_q (x : Qr) (n : Nat) : D.sh (qD x) (n + 1) = true := by simp [qD]
def Qr.z : Qr := ⟨0, 0, 0, 0⟩
theorem q_ext {x y : Qr} (h1 : x.a = y.a) (h2 : x.b = y.b) (h3 : x.c = y.c) (h4 : x.d = y.d) : x = y := by
  cases x; cases y; simp_all
@[simp] theorem eqT_q (x y : Qr) : D.eqT (qD x) (qD y) = decide (x = y) := by
  cases x; cases y
  simp [qD]
def Rt (x : Qr) : Qr := ⟨x.b - x.d, x.a + x.c, x.b + x.d, x.c - x.a⟩
def Rn : Nat → Qr → Qr
  | 0, x => x
  | n + 1, x => Rt (Rn n x)
theorem Rn_comm : ∀ (n : Nat) (x : Qr), Rn n (Rt x) = Rt (Rn n x)
  | 0, _ => rfl
  | n + 1, x => by
    show Rt (Rn n (Rt x)) = Rt (Rt (Rn n x))
    rw [Rn_comm n x]
theorem Rn_add : ∀ (n m : Nat) (x : Qr), Rn (n + m) x = Rn n (Rn m x)
  | 0, m, x => by rw [Nat.zero_add]; rfl
  | n + 1, m, x => by
    rw [Nat.succ_add]
    show Rt (Rn (n + m) x) = Rt (Rn n (Rn m x))
    rw [Rn_add n m x]
theorem Rt_inj {x y : Qr} (h : Rt x = Rt y) : x = y := by
  unfold Rt at h
  injection h with h1 h2 h3 h4
  exact q_ext (by omega) (by omega) (by omega) (by omega)
theorem Rt_zero {x : Qr} : Rt x = Qr.z ↔ x = Qr.z := by
  constructor
  · intro h
    exact Rt_inj (h.trans rfl)
  · rintro rfl; rfl
theorem Rn_zero {x : Qr} : ∀ n : Nat, Rn n x = Qr.z ↔ x = Qr.z
  | 0 => Iff.rfl
  | n + 1 => Rt_zero.trans (Rn_zero n)
theorem Rn_inj {x y : Qr} : ∀ {n : Nat}, Rn n x = Rn n y → x = y
  | 0, h => h
  | n + 1, h => Rn_inj (Rt_inj h)
def Hr (x : Qr) : Bool := decide ((x.a - x.c) % 2 = 0) && decide ((x.b - x.d) % 2 = 0)
def Or (x : Qr) : Qr := ⟨(x.b - x.d) / 2, (x.a + x.c) / 2, (x.b + x.d) / 2, (x.c - x.a) / 2⟩
theorem Rt_Or {x : Qr} (h : Hr x = true) : Rt (Or x) = x := by
  unfold Hr at h
  simp only [Bool.and_eq_true, decide_eq_true_eq] at h
  unfold Rt Or
  refine q_ext ?_ ?_ ?_ ?_ <;> simp only <;> omega
theorem Hr_Rt (x : Qr) : Hr (Rt x) = true := by
  unfold Hr Rt
  simp only [Bool.and_eq_true, decide_eq_true_eq]
  omega
theorem Or_Rt (x : Qr) : Or (Rt x) = x := Rt_inj (Rt_Or (Hr_Rt x))
def low : Nat → Qr → Qr × Nat
  | 0, x => (x, 0)
  | k + 1, x => if Hr x then low k (Or x) else (x, k + 1)
theorem low_ok : ∀ (k : Nat) (x : Qr), (low k x).2 ≤ k ∧ Rn (k - (low k x).2) (low k x).1 = x ∧ (0 < (low k x).2 → Hr (low k x).1 = false)
  | 0, x => ⟨Nat.le_refl _, rfl, fun h => absurd h (Nat.lt_irrefl _)⟩
  | k + 1, x => by
    unfold low
    by_cases h : Hr x = true
    · rw [if_pos h]
      obtain ⟨h1, h2, h3⟩ := low_ok k (Or x)
      refine ⟨by omega, ?_, h3⟩
      have e : k + 1 - (low k (Or x)).2 = (k - (low k (Or x)).2) + 1 := by omega
      rw [e]
      show Rt (Rn _ _) = x
      rw [h2, Rt_Or h]
    · rw [if_neg h]
      refine ⟨Nat.le_refl _, ?_, fun _ => by simpa using h⟩
      rw [Nat.sub_self]
      rfl
def lowZ (x : Qr) (e : Int) : Qr × Nat := if Rn (-e).toNat x = Qr.z then (Qr.z, 0) else low e.toNat (Rn (-e).toNat x)
def Tq (x : Qr) : Qr := ⟨-x.d, x.a, x.b, x.c⟩
def Tn : Nat → Qr → Qr
  | 0, x => x
  | n + 1, x => Tq (Tn n x)
def addQ (x y : Qr) : Qr := ⟨x.a + y.a, x.b + y.b, x.c + y.c, x.d + y.d⟩
def negQ (x : Qr) : Qr := ⟨-x.a, -x.b, -x.c, -x.d⟩
def conQ (x : Qr) : Qr := ⟨x.a, -x.d, -x.c, -x.b⟩
def mulQ (x y : Qr) : Qr := ⟨x.a * y.a - x.b * y.d - x.c * y.c - x.d * y.b, x.a * y.b + x.b * y.a - x.c * y.d - x.d * y.c, x.a * y.c + x.b * y.b + x.c * y.a - x.d * y.d, x.a * y.d + x.b * y.c + x.c * y.b + x.d * y.a⟩
theorem Rt_add (x y : Qr) : Rt (addQ x y) = addQ (Rt x) (Rt y) := by
  unfold Rt addQ
  refine q_ext ?_ ?_ ?_ ?_ <;> simp only <;> omega
theorem Rt_neg (x : Qr) : Rt (negQ x) = negQ (Rt x) := by
  unfold Rt negQ
  refine q_ext ?_ ?_ ?_ ?_ <;> simp only <;> omega
theorem Rt_con (x : Qr) : Rt (conQ x) = conQ (Rt x) := by
  unfold Rt conQ
  refine q_ext ?_ ?_ ?_ ?_ <;> simp only <;> omega
theorem Rt_Tq (x : Qr) : Rt (Tq x) = Tq (Rt x) := by
  unfold Rt Tq
  refine q_ext ?_ ?_ ?_ ?_ <;> simp only <;> omega
theorem Rt_mull (x y : Qr) : Rt (mulQ x y) = mulQ (Rt x) y := by
  unfold Rt mulQ
  refine q_ext ?_ ?_ ?_ ?_ <;> simp only <;> grind
theorem Rt_mulr (x y : Qr) : Rt (mulQ x y) = mulQ x (Rt y) := by
  unfold Rt mulQ
  refine q_ext ?_ ?_ ?_ ?_ <;> simp only <;> grind
theorem Rn_add2 (x y : Qr) : ∀ n, Rn n (addQ x y) = addQ (Rn n x) (Rn n y)
  | 0 => rfl
  | n + 1 => by show Rt (Rn n _) = _; rw [Rn_add2 x y n, Rt_add]; rfl
theorem Rn_neg (x : Qr) : ∀ n, Rn n (negQ x) = negQ (Rn n x)
  | 0 => rfl
  | n + 1 => by show Rt (Rn n _) = _; rw [Rn_neg x n, Rt_neg]; rfl
theorem Rn_con (x : Qr) : ∀ n, Rn n (conQ x) = conQ (Rn n x)
  | 0 => rfl
  | n + 1 => by show Rt (Rn n _) = _; rw [Rn_con x n, Rt_con]; rfl
theorem Rn_Tq (x : Qr) : ∀ n, Rn n (Tq x) = Tq (Rn n x)
  | 0 => rfl
  | n + 1 => by show Rt (Rn n _) = _; rw [Rn_Tq x n, Rt_Tq]; rfl
theorem Rn_Tn (x : Qr) (n : Nat) : ∀ k, Rn n (Tn k x) = Tn k (Rn n x)
  | 0 => rfl
  | k + 1 => by show Rn n (Tq _) = Tq _; rw [Rn_Tq, Rn_Tn x n k]
theorem Rn_mull (x y : Qr) : ∀ n, Rn n (mulQ x y) = mulQ (Rn n x) y
  | 0 => rfl
  | n + 1 => by show Rt (Rn n _) = _; rw [Rn_mull x y n, Rt_mull]; rfl
theorem Rn_mulr (x y : Qr) : ∀ n, Rn n (mulQ x y) = mulQ x (Rn n y)
  | 0 => rfl
  | n + 1 => by show Rt (Rn n _) = _; rw [Rn_mulr x y n, Rt_mulr]; rfl
theorem Rn_mul (x y : Qr) (n m : Nat) : Rn (n + m) (mulQ x y) = mulQ (Rn n x) (Rn m y) := by rw [Rn_add, Rn_mulr, Rn_mull]
theorem neg_z {x : Qr} : negQ x = Qr.z ↔ x = Qr.z := by
  constructor
  · intro h
    unfold negQ Qr.z at h
    injection h with h1 h2 h3 h4
    exact q_ext (by simp [Qr.z]; omega) (by simp [Qr.z]; omega) (by simp [Qr.z]; omega) (by simp [Qr.z]; omega)
  · rintro rfl; rfl
theorem con_z {x : Qr} : conQ x = Qr.z ↔ x = Qr.z := by
  constructor
  · intro h
    unfold conQ Qr.z at h
    injection h with h1 h2 h3 h4
    exact q_ext (by simp [Qr.z]; omega) (by simp [Qr.z]; omega) (by simp [Qr.z]; omega) (by simp [Qr.z]; omega)
  · rintro rfl; rfl
theorem Tq_z {x : Qr} : Tq x = Qr.z ↔ x = Qr.z := by
  constructor
  · intro h
    unfold Tq Qr.z at h
    injection h with h1 h2 h3 h4
    exact q_ext (by simp [Qr.z]; omega) (by simp [Qr.z]; omega) (by simp [Qr.z]; omega) (by simp [Qr.z]; omega)
  · rintro rfl; rfl
theorem Tn_z {x : Qr} : ∀ k, Tn k x = Qr.z ↔ x = Qr.z
  | 0 => Iff.rfl
  | k + 1 => Tq_z.trans (Tn_z k)
theorem Hr_neg (x : Qr) : Hr (negQ x) = Hr x := by
  unfold Hr negQ
  congr 1 <;> exact decide_eq_decide.mpr (by simp only; omega)
theorem Hr_con (x : Qr) : Hr (conQ x) = Hr x := by
  unfold Hr conQ
  congr 1 <;> exact decide_eq_decide.mpr (by simp only; omega)
theorem Hr_Tq (x : Qr) : Hr (Tq x) = Hr x := by
  unfold Hr Tq
  rw [Bool.and_comm]
  congr 1 <;> exact decide_eq_decide.mpr (by simp only; omega)
theorem Hr_Tn (x : Qr) : ∀ k, Hr (Tn k x) = Hr x
  | 0 => rfl
  | k + 1 => (Hr_Tq _).trans (Hr_Tn x k)
theorem Tn4 (x : Qr) : Tn 4 x = negQ x := rfl
structure SzQ (n : Nat) (x : Qr) : Prop where
  a : Sz n x.a
  b : Sz n x.b
  c : Sz n x.c
  d : Sz n x.d
theorem SzQ.con {n : Nat} {x : Qr} (h : SzQ n x) : SzQ n (conQ x) := ⟨h.a, h.d.neg, h.c.neg, h.b.neg⟩
theorem Sz.half {n : Nat} {a b : Int} (ha : Sz n a) (hb : Sz n b) : Sz n ((a - b) / 2) := by
  unfold Sz at *
  generalize 2 ^ n = k at *
  omega
theorem Sz.half2 {n : Nat} {a b : Int} (ha : Sz n a) (hb : Sz n b) : Sz n ((a + b) / 2) := by
  unfold Sz at *
  generalize 2 ^ n = k at *
  omega
theorem SzQ.Or {n : Nat} {x : Qr} (h : SzQ n x) : SzQ n (Or x) := ⟨h.b.half h.d, h.a.half2 h.c, h.b.half2 h.d, h.c.half h.a⟩
theorem SzQ.low {n : Nat} : ∀ (k : Nat) {x : Qr}, SzQ n x → SzQ n (Px.low k x).1
  | 0, _, h => h
  | k + 1, x, h => by
    unfold Px.low
    split
    · exact SzQ.low k h.Or
    · exact h
theorem add_c (x y : Qr) : addQ x y = addQ y x := q_ext (Int.add_comm _ _) (Int.add_comm _ _) (Int.add_comm _ _) (Int.add_comm _ _)
theorem add_a (x y z : Qr) : addQ (addQ x y) z = addQ x (addQ y z) := q_ext (Int.add_assoc _ _ _) (Int.add_assoc _ _ _) (Int.add_assoc _ _ _) (Int.add_assoc _ _ _)
theorem add_z (x : Qr) : addQ x Qr.z = x := q_ext (Int.add_zero _) (Int.add_zero _) (Int.add_zero _) (Int.add_zero _)
theorem z_add (x : Qr) : addQ Qr.z x = x := q_ext (Int.zero_add _) (Int.zero_add _) (Int.zero_add _) (Int.zero_add _)
theorem Tn_zz : ∀ k, Tn k Qr.z = Qr.z
  | 0 => rfl
  | k + 1 => by rw [Tn, Tn_zz k]; rfl
theorem Rn_zz : ∀ k, Rn k Qr.z = Qr.z
  | 0 => rfl
  | k + 1 => by rw [Rn, Rn_zz k]; rfl
abbrev Am := List (Nat × Qr)
def aget : Am → Nat → Qr
  | [], _ => Qr.z
  | (j, y) :: r, i => if j = i then y else aget r i
def aput : Am → Nat → Qr → Am
  | [], i, x => [(i, x)]
  | (j, y) :: r, i, x => if j = i then (j, x) :: r else (j, y) :: aput r i x
def akey (A : Am) : List Nat := A.map Prod.fst
theorem aget_put : ∀ (A : Am) (i : Nat) (x : Qr) (j : Nat), aget (aput A i x) j = if i = j then x else aget A j
  | [], i, x, j => by simp [aput, aget]
  | (k, y) :: r, i, x, j => by
    unfold aput
    by_cases h : k = i
    · subst h; simp only [if_true]; unfold aget; by_cases h2 : k = j <;> simp [h2]
    · simp only [h, if_false]; unfold aget; rw [aget_put r i x j]
      by_cases h2 : k = j
      · subst h2; have h' : ¬ i = k := fun z => h z.symm; simp [h']
      · simp [h2]
theorem akey_put : ∀ (A : Am) (i : Nat) (x : Qr), akey (aput A i x) = if i ∈ akey A then akey A else akey A ++ [i]
  | [], i, x => by simp [aput, akey]
  | (k, y) :: r, i, x => by
    unfold aput
    by_cases h : k = i
    · subst h; simp [akey]
    · have ih := akey_put r i x
      simp only [akey] at ih
      have h' : ¬ i = k := fun z => h z.symm
      by_cases m : i ∈ List.map Prod.fst r
      · simp only [m, if_true] at ih
        simp [h, h', akey, ih, m]
      · simp only [m, if_false] at ih
        simp only [h, if_false, akey, List.map_cons, ih, List.mem_cons, h', m, false_or]
        rfl
theorem aget_out : ∀ {A : Am} {i : Nat}, i ∉ akey A → aget A i = Qr.z
  | [], _, _ => rfl
  | (k, y) :: r, i, h => by
    simp only [akey, List.map_cons, List.mem_cons, not_or] at h
    have h' : ¬ k = i := fun z => h.1 z.symm
    unfold aget
    rw [if_neg h']
    exact aget_out h.2
theorem nd_put {A : Am} (h : (akey A).Nodup) (i : Nat) (x : Qr) : (akey (aput A i x)).Nodup := by
  rw [akey_put]
  split
  · exact h
  · rename_i hi
    rw [List.nodup_append]
    exact ⟨h, by simp, fun a ha b hb e => by rw [List.mem_singleton] at hb; subst hb; subst e; exact hi ha⟩
theorem lt_put {A : Am} {n : Nat} (h : ∀ k ∈ akey A, k < n) {i : Nat} (hi : i < n) (x : Qr) : ∀ k ∈ akey (aput A i x), k < n := by
  intro k hk
  rw [akey_put] at hk
  split at hk
  · exact h k hk
  · rcases List.mem_append.mp hk with z | z
    · exact h k z
    · rw [List.mem_singleton] at z; subst z; exact hi
theorem nd_len : ∀ (n : Nat) (l : List Nat), l.Nodup → (∀ x ∈ l, x < n) → l.length ≤ n
  | 0, [], _, _ => Nat.le_refl _
  | 0, a :: l, _, h => absurd (h a (List.mem_cons_self ..)) (Nat.not_lt_zero _)
  | n + 1, l, hd, h => by
    by_cases m : n ∈ l
    · have := nd_len n (l.erase n) (hd.erase n) (fun x hx => by
        have h1 := h x (List.mem_of_mem_erase hx)
        have h2 : x ≠ n := ((List.Nodup.mem_erase_iff hd).mp hx).1
        omega)
      rw [List.length_erase_of_mem m] at this
      omega
    · have := nd_len n l hd (fun x hx => by
        have h1 := h x hx
        have h2 : x ≠ n := fun e => m (e ▸ hx)
        omega)
      omega
def Ak (n : Nat) (A : Am) : Prop := (akey A).Nodup ∧ ∀ k ∈ akey A, k < n
theorem Ak.put {n : Nat} {A : Am} (h : Ak n A) {i : Nat} (hi : i < n) (x : Qr) : Ak n (aput A i x) := ⟨nd_put h.1 i x, lt_put h.2 hi x⟩
theorem Ak.len {n : Nat} {A : Am} (h : Ak n A) : A.length ≤ n := by
  have := nd_len n _ h.1 h.2
  rwa [akey, List.length_map] at this
theorem Ak.nil (n : Nat) : Ak n [] := ⟨List.nodup_nil, fun _ h => by cases h⟩
theorem Ak.one {n i : Nat} (hi : i < n) (x : Qr) : Ak n [(i, x)] := ⟨by simp [akey], fun k hk => by simp [akey] at hk; omega⟩
inductive Gt where
  | w
  | h (q : Nat)
  | x (q : Nat)
  | y (q : Nat)
  | p (k : Nat) (q : Nat)
  | cx (a b : Nat)
  | cz (a b : Nat)
  | sw (a b : Nat)
deriving DecidableEq
def phs (k : Nat) : Nat := [4, 2, 6, 1, 7].getD k 0
def okGt (w : Nat) : Gt → Prop
  | .w => True
  | .h q => q < w
  | .x q => q < w
  | .y q => q < w
  | .p k q => k < 5 ∧ q < w
  | .cx a b => a < w ∧ b < w ∧ a ≠ b
  | .cz a b => a < w ∧ b < w ∧ a ≠ b
  | .sw a b => a < w ∧ b < w ∧ a ≠ b
def bt (i q : Nat) : Nat := i / 2 ^ q % 2
theorem bt_lt (i q : Nat) : bt i q < 2 := Nat.mod_lt _ (by decide)
def mv : Gt → Nat → Nat × Nat
  | .w, i => (i, 1)
  | .h _, i => (i, 0)
  | .x q, i => (i ^^^ 2 ^ q, 0)
  | .y q, i => (i ^^^ 2 ^ q, 2 + 4 * bt i q)
  | .p k q, i => (i, phs k * bt i q)
  | .cx a b, i => (i ^^^ (bt i a * 2 ^ b), 0)
  | .cz a b, i => (i, 4 * bt i a * bt i b)
  | .sw a b, i => (i ^^^ ((bt i a ^^^ bt i b) * 2 ^ a) ^^^ ((bt i a ^^^ bt i b) * 2 ^ b), 0)
theorem bt_xor (j c b q : Nat) (hc : c < 2) : bt (j ^^^ (c * 2 ^ b)) q = (bt j q + if q = b then c else 0) % 2 := by
  have e : ∀ n : Nat, bt n q = (n.testBit q).toNat := fun n => (Nat.toNat_testBit n q).symm
  have c2 : c = 0 ∨ c = 1 := by omega
  rcases c2 with rfl | rfl
  · have := bt_lt j q
    simp; omega
  · rw [Nat.one_mul, e, e, Nat.testBit_xor, Nat.testBit_two_pow]
    by_cases h : q = b
    · subst h
      simp only [decide_true, if_pos]
      cases j.testBit q <;> rfl
    · have h' : ¬ b = q := fun z => h z.symm
      simp only [h, h', decide_false, if_false]
      cases j.testBit q <;> rfl
theorem bt_xor1 (j b q : Nat) : bt (j ^^^ 2 ^ b) q = (bt j q + if q = b then 1 else 0) % 2 := by
  have := bt_xor j 1 b q (by decide)
  rwa [Nat.one_mul] at this
theorem bt_xb (x y : Nat) (hx : x < 2) (hy : y < 2) : x ^^^ y = (x + y) % 2 := by
  have h1 : x = 0 ∨ x = 1 := by omega
  have h2 : y = 0 ∨ y = 1 := by omega
  rcases h1 with rfl | rfl <;> rcases h2 with rfl | rfl <;> rfl
theorem bt_ext (i j : Nat) (h : ∀ q, bt i q = bt j q) : i = j := by
  apply Nat.eq_of_testBit_eq
  intro q
  have := h q
  unfold bt at this
  rw [← Nat.toNat_testBit, ← Nat.toNat_testBit] at this
  cases h1 : i.testBit q <;> cases h2 : j.testBit q <;> simp_all
theorem mv_inv (w : Nat) (g : Gt) (h : okGt w g) (i : Nat) : (mv g (mv g i).1).1 = i := by
  apply bt_ext
  intro q
  have hq := bt_lt i q
  cases g with
  | w => rfl
  | h _ => rfl
  | p _ _ => rfl
  | cz _ _ => rfl
  | x a => simp only [mv]; rw [bt_xor1, bt_xor1]; split <;> omega
  | y a => simp only [mv]; rw [bt_xor1, bt_xor1]; split <;> omega
  | cx a b =>
    obtain ⟨_, _, hab⟩ := h
    have ha := bt_lt i a
    simp only [mv]
    rw [bt_xor _ _ _ a ha, if_neg hab, bt_xor _ _ _ q (by omega), bt_xor _ _ _ q ha]
    split <;> omega
  | sw a b =>
    obtain ⟨_, _, hab⟩ := h
    have hba : ¬ b = a := fun z => hab z.symm
    have ha := bt_lt i a
    have hb := bt_lt i b
    simp only [mv]
    rw [bt_xb _ _ ha hb]
    have hc : (bt i a + bt i b) % 2 < 2 := by omega
    generalize hC : (bt i a + bt i b) % 2 = C at *
    have e1 : bt (i ^^^ C * 2 ^ a ^^^ C * 2 ^ b) a = (bt i a + C) % 2 := by
      rw [bt_xor _ _ _ _ hc, bt_xor _ _ _ _ hc, if_neg hab, if_pos rfl]; omega
    have e2 : bt (i ^^^ C * 2 ^ a ^^^ C * 2 ^ b) b = (bt i b + C) % 2 := by
      rw [bt_xor _ _ _ _ hc, bt_xor _ _ _ _ hc, if_neg hba, if_pos rfl]; omega
    rw [e1, e2, bt_xb ((bt i a + C) % 2) ((bt i b + C) % 2) (by omega) (by omega)]
    have hE : ((bt i a + C) % 2 + (bt i b + C) % 2) % 2 = C := by omega
    rw [hE, bt_xor _ _ _ _ hc, bt_xor _ _ _ _ hc, bt_xor _ _ _ _ hc, bt_xor _ _ _ _ hc]
    by_cases z1 : q = a
    · have z2 : ¬ q = b := fun z => hab (z1 ▸ z)
      simp only [if_pos z1, if_neg z2]; omega
    · by_cases z2 : q = b
      · simp only [if_pos z2, if_neg z1]; omega
      · simp only [if_neg z1, if_neg z2]; omega
theorem mv_lt (w : Nat) (g : Gt) (h : okGt w g) (i : Nat) (hi : i < 2 ^ w) : (mv g i).1 < 2 ^ w := by
  have sh : ∀ c k, c < 2 → k < w → c * 2 ^ k < 2 ^ w := fun c k hc hk => by
    have : c * 2 ^ k ≤ 1 * 2 ^ k := Nat.mul_le_mul_right _ (by omega)
    have := Nat.pow_lt_pow_right (a := 2) (by decide) hk
    omega
  cases g with
  | w => exact hi
  | h _ => exact hi
  | p _ _ => exact hi
  | cz _ _ => exact hi
  | x a => exact Nat.xor_lt_two_pow hi (Nat.pow_lt_pow_right (by decide) h)
  | y a => exact Nat.xor_lt_two_pow hi (Nat.pow_lt_pow_right (by decide) h)
  | cx a b => exact Nat.xor_lt_two_pow hi (sh _ _ (bt_lt _ _) h.2.1)
  | sw a b =>
    have mx : bt i a ^^^ bt i b < 2 := by rw [bt_xb _ _ (bt_lt _ _) (bt_lt _ _)]; omega
    exact Nat.xor_lt_two_pow (Nat.xor_lt_two_pow hi (sh _ _ mx h.1)) (sh _ _ mx h.2.1)
def lo (q i : Nat) : Nat := i - bt i q * 2 ^ q
theorem bt_le (q i : Nat) : bt i q * 2 ^ q ≤ i := by
  have h1 : bt i q ≤ i / 2 ^ q := Nat.mod_le _ _
  have h2 := Nat.mul_le_mul_right (2 ^ q) h1
  have h3 := Nat.div_mul_le_self i (2 ^ q)
  omega
theorem lo_add (q i : Nat) : lo q i + bt i q * 2 ^ q = i := by have := bt_le q i; unfold lo; omega
theorem bt_lo (q i : Nat) : bt (lo q i) q = 0 := by
  have h1 := lo_add q i
  have h2 : i / 2 ^ q = lo q i / 2 ^ q + bt i q := by
    rw [← h1, Nat.add_mul_div_right _ _ (Nat.two_pow_pos q), h1]
  have h3 : bt i q = i / 2 ^ q % 2 := rfl
  have h4 : bt (lo q i) q = lo q i / 2 ^ q % 2 := rfl
  omega
theorem bt_hi (q i : Nat) : bt (lo q i + 2 ^ q) q = 1 := by
  have h2 : (lo q i + 2 ^ q) / 2 ^ q = lo q i / 2 ^ q + 1 := by rw [Nat.add_div_right _ (Nat.two_pow_pos q)]
  have h4 : bt (lo q i) q = lo q i / 2 ^ q % 2 := rfl
  have h5 : bt (lo q i + 2 ^ q) q = (lo q i + 2 ^ q) / 2 ^ q % 2 := rfl
  have := bt_lo q i
  omega
theorem lo_lo (q i : Nat) : lo q (lo q i) = lo q i := by
  have := bt_lo q i
  unfold lo at *
  rw [this]; omega
theorem lo_hi (q i : Nat) : lo q (lo q i + 2 ^ q) = lo q i := by
  have := bt_hi q i
  rw [lo, this]; omega
theorem hi_lt {w q i : Nat} (hq : q < w) (hi : i < 2 ^ w) : lo q i + 2 ^ q < 2 ^ w := by
  have e : 2 ^ w = 2 ^ (w - q - 1) * 2 * 2 ^ q := by rw [← Nat.pow_succ, ← Nat.pow_add]; congr 1; omega
  have h1 := lo_add q i
  have h2 := bt_lo q i
  have h3 : lo q i / 2 ^ q * 2 ^ q + lo q i % 2 ^ q = lo q i := by rw [Nat.mul_comm]; exact Nat.div_add_mod _ _
  have h4 : lo q i % 2 ^ q < 2 ^ q := Nat.mod_lt _ (Nat.two_pow_pos q)
  have h5 : lo q i / 2 ^ q < 2 ^ (w - q - 1) * 2 := Nat.div_lt_of_lt_mul (by rw [e] at hi; have := bt_le q i; rw [Nat.mul_comm]; omega)
  have h6 : bt (lo q i) q = lo q i / 2 ^ q % 2 := rfl
  have h7 : lo q i / 2 ^ q + 2 ≤ 2 ^ (w - q - 1) * 2 := by omega
  have h8 := Nat.mul_le_mul_right (2 ^ q) h7
  rw [Nat.add_mul] at h8
  rw [e]
  have := Nat.two_pow_pos q
  omega
def Ug (g : Gt) (F : Nat → Qr) (j : Nat) : Qr := match g with
  | .h q => addQ (F (lo q j)) (Tn (4 * bt j q) (F (lo q j + 2 ^ q)))
  | g => Tn ((mv g (mv g j).1).2 % 8) (F (mv g j).1)
def put1 (B : Am) (i : Nat) (x : Qr) : Am := aput B i (addQ (aget B i) x)
theorem put1_get (B : Am) (i : Nat) (x : Qr) (j : Nat) : aget (put1 B i x) j = addQ (aget B j) (if i = j then x else Qr.z) := by
  unfold put1
  rw [aget_put]
  split
  · rename_i e; subst e; rfl
  · rw [add_z]
theorem Ak.put1 {n : Nat} {A : Am} (h : Ak n A) {i : Nat} (hi : i < n) (x : Qr) : Ak n (put1 A i x) := h.put hi _
def s1b (g : Gt) (A : Am) (B : Am) (i : Nat) : Am := match g with
  | .h q => put1 (put1 B (lo q i) (aget A i)) (lo q i + 2 ^ q) (Tn (4 * bt i q) (aget A i))
  | g => put1 B (mv g i).1 (Tn ((mv g i).2 % 8) (aget A i))
theorem s1_get (w : Nat) (g : Gt) (hg : okGt w g) (nh : ∀ q, g ≠ .h q) (A : Am) (j : Nat) : ∀ (L : List Nat) (B : Am), L.Nodup →
    aget (L.foldl (s1b g A) B) j = addQ (aget B j) (if (mv g j).1 ∈ L then Tn ((mv g (mv g j).1).2 % 8) (aget A (mv g j).1) else Qr.z)
  | [], B, _ => by simp [add_z]
  | i :: L, B, hd => by
    obtain ⟨h1, h2⟩ := List.nodup_cons.mp hd
    rw [List.foldl_cons, s1_get w g hg nh A j L _ h2]
    have es : s1b g A B i = put1 B (mv g i).1 (Tn ((mv g i).2 % 8) (aget A i)) := by
      cases g with
      | h q => exact (nh q rfl).elim
      | _ => rfl
    rw [es, put1_get, add_a]
    congr 1
    have iv := mv_inv w g hg
    by_cases e : (mv g i).1 = j
    · have e2 : (mv g j).1 = i := by rw [← e, iv]
      rw [if_pos e, e2, if_neg h1, if_pos (List.mem_cons_self ..), add_z]
    · have e2 : ¬ (mv g j).1 = i := fun z => e (by rw [← z, iv])
      rw [if_neg e, z_add]
      simp [e2]
theorem s1_getH (q : Nat) (A : Am) (j : Nat) : ∀ (L : List Nat) (B : Am), L.Nodup →
    aget (L.foldl (s1b (.h q) A) B) j = addQ (addQ (aget B j) (if lo q j ∈ L then aget A (lo q j) else Qr.z)) (if lo q j + 2 ^ q ∈ L then Tn (4 * bt j q) (aget A (lo q j + 2 ^ q)) else Qr.z)
  | [], B, _ => by simp [add_z]
  | i :: L, B, hd => by
    obtain ⟨h1, h2⟩ := List.nodup_cons.mp hd
    rw [List.foldl_cons, s1_getH q A j L _ h2]
    have es : s1b (.h q) A B i = put1 (put1 B (lo q i) (aget A i)) (lo q i + 2 ^ q) (Tn (4 * bt i q) (aget A i)) := rfl
    rw [es, put1_get, put1_get]
    have pp := Nat.two_pow_pos q
    have la := lo_add q i
    have lj := lo_add q j
    have b2 := bt_lt i q
    have bj2 := bt_lt j q
    by_cases c0 : lo q i = lo q j
    · have bi : bt i q = 0 ∨ bt i q = 1 := by omega
      have bj : bt j q = 0 ∨ bt j q = 1 := by omega
      have ne1 : ¬ lo q j + 2 ^ q = lo q j := by omega
      have ne2 : ¬ lo q j = lo q j + 2 ^ q := by omega
      rw [c0]
      rcases bi with bi | bi
      · rw [bi, Nat.zero_mul, Nat.add_zero] at la
        have hi : lo q j = i := by omega
        rw [hi] at lj ⊢
        have n2 : ¬ i + 2 ^ q = i := by omega
        rcases bj with bj | bj
        · rw [bj, Nat.zero_mul, Nat.add_zero] at lj
          have e2 : ¬ i + 2 ^ q = j := by omega
          rw [← lj] at e2 ⊢
          simp only [List.mem_cons, h1, if_false, true_or, if_true, n2, false_or, add_z]
        · rw [bj, Nat.one_mul] at lj
          have e1 : ¬ i = j := by omega
          have e3 : ¬ j = i := fun z => e1 z.symm
          simp only [List.mem_cons, h1, if_false, true_or, if_true, e3, false_or, add_z, e1, lj, bi]
          rfl
      · rw [bi, Nat.one_mul] at la
        have hi : lo q j + 2 ^ q = i := by omega
        have n2 : ¬ lo q j = i := by omega
        rw [hi]
        rcases bj with bj | bj
        · rw [bj, Nat.zero_mul, Nat.add_zero] at lj
          have e2 : ¬ i = j := by omega
          have n3 : ¬ j = i := fun z => e2 z.symm
          simp only [List.mem_cons, h1, if_false, true_or, if_true, n3, false_or, add_z, e2, lj, bj]
          rw [add_a, add_a, add_c (aget A i)]
          rfl
        · rw [bj, Nat.one_mul] at lj
          have e2 : i = j := by omega
          have e1 : ¬ lo q j = j := by omega
          rw [← e2] at e1 bj n2 ⊢
          simp only [List.mem_cons, h1, if_false, true_or, if_true, n2, false_or, add_z, e1, bi]
          rw [add_a, add_a, add_c (Tn (4 * 1) (aget A i))]
    · have e1 : ¬ lo q i = j := fun z => c0 (by rw [← z, lo_lo])
      have e2 : ¬ lo q i + 2 ^ q = j := fun z => c0 (by rw [← z, lo_hi])
      have e3 : ¬ lo q j = i := fun z => c0 (by rw [← z, lo_lo])
      have e4 : ¬ lo q j + 2 ^ q = i := fun z => c0 (by rw [← z, lo_hi])
      rw [if_neg e1, if_neg e2, add_z, add_z]
      simp only [List.mem_cons, e3, e4, false_or]
def s1 (g : Gt) (A : Am) : Am := (akey A).foldl (s1b g A) []
theorem s1_sem (w : Nat) (g : Gt) (hg : okGt w g) (A : Am) (hA : (akey A).Nodup) (j : Nat) : aget (s1 g A) j = Ug g (aget A) j := by
  have mem : ∀ (i : Nat) (f : Qr → Qr), f Qr.z = Qr.z → (if i ∈ akey A then f (aget A i) else Qr.z) = f (aget A i) := by
    intro i f hf
    split
    · rfl
    · rename_i h; rw [aget_out h, hf]
  unfold s1
  by_cases hh : ∃ q, g = .h q
  · obtain ⟨q, rfl⟩ := hh
    rw [s1_getH q A j _ _ hA, mem _ (Tn (4 * bt j q)) (Tn_zz _), mem _ (fun x => x) rfl]
    show addQ (addQ Qr.z _) _ = _
    rw [z_add]
    rfl
  · rw [s1_get w g hg (fun q e => hh ⟨q, e⟩) A j _ _ hA, mem _ (Tn ((mv g (mv g j).1).2 % 8)) (Tn_zz _)]
    show addQ Qr.z _ = _
    rw [z_add]
    cases g with
    | h q => exact (hh ⟨q, rfl⟩).elim
    | _ => rfl
theorem s1b_ak (w : Nat) (g : Gt) (hg : okGt w g) (A B : Am) (hB : Ak (2 ^ w) B) (i : Nat) (hi : i < 2 ^ w) : Ak (2 ^ w) (s1b g A B i) := by
  by_cases hh : ∃ q, g = .h q
  · obtain ⟨q, rfl⟩ := hh
    have h1 : lo q i < 2 ^ w := by have := bt_le q i; unfold lo; omega
    exact (hB.put1 h1 _).put1 (hi_lt hg hi) _
  · have es : s1b g A B i = put1 B (mv g i).1 (Tn ((mv g i).2 % 8) (aget A i)) := by
      cases g with
      | h q => exact (hh ⟨q, rfl⟩).elim
      | _ => rfl
    rw [es]
    exact hB.put1 (mv_lt w g hg i hi) _
def s2b (A : Am) (B : Am) (i : Nat) : Am := if aget A i = Qr.z then B else aput B i (aget A i)
def s2 (A : Am) : Am := (akey A).foldl (s2b A) []
theorem s2_get (A : Am) (j : Nat) : ∀ (L : List Nat) (B : Am), aget (L.foldl (s2b A) B) j = if j ∈ L ∧ aget A j ≠ Qr.z then aget A j else aget B j
  | [], B => by simp
  | i :: L, B => by
    rw [List.foldl_cons, s2_get A j L]
    by_cases h : j ∈ L ∧ aget A j ≠ Qr.z
    · rw [if_pos h, if_pos ⟨List.mem_cons_of_mem _ h.1, h.2⟩]
    · rw [if_neg h]
      unfold s2b
      by_cases e : i = j
      · subst e
        by_cases z : aget A i = Qr.z
        · rw [if_pos z, if_neg (fun y => y.2 z)]
        · rw [if_neg z, aget_put, if_pos rfl, if_pos ⟨List.mem_cons_self .., z⟩]
      · have e' : ¬ j = i := fun z => e z.symm
        have n : ¬ (j ∈ i :: L ∧ aget A j ≠ Qr.z) := fun y => h ⟨by have := y.1; simp only [List.mem_cons, e', false_or] at this; exact this, y.2⟩
        rw [if_neg n]
        split
        · rfl
        · rw [aget_put, if_neg e]
theorem s2_sem (A : Am) (j : Nat) : aget (s2 A) j = aget A j := by
  unfold s2
  rw [s2_get]
  split
  · rfl
  · rename_i h
    by_cases z : aget A j = Qr.z
    · rw [z]; rfl
    · have : j ∉ akey A := fun m => h ⟨m, z⟩
      exact (z (aget_out this)).elim
theorem s2b_ak {n : Nat} (A B : Am) (hB : Ak n B) (i : Nat) (hi : i < n) : Ak n (s2b A B i) := by
  unfold s2b
  split
  · exact hB
  · exact hB.put hi _
theorem fold_ak {n : Nat} (f : Am → Nat → Am) (hf : ∀ B i, Ak n B → i < n → Ak n (f B i)) : ∀ (L : List Nat) (B : Am), (∀ i ∈ L, i < n) → Ak n B → Ak n (L.foldl f B)
  | [], _, _, h => h
  | i :: L, B, hl, h => fold_ak f hf L (f B i) (fun i hi => hl i (List.mem_cons_of_mem _ hi)) (hf B i h (hl i (List.mem_cons_self ..)))
theorem s1_ak {w : Nat} {g : Gt} (hg : okGt w g) {A : Am} (hA : Ak (2 ^ w) A) : Ak (2 ^ w) (s1 g A) := fold_ak _ (fun B i hB hi => s1b_ak w g hg A B hB i hi) _ _ hA.2 (Ak.nil _)
theorem s2_ak {n : Nat} {A : Am} (hA : Ak n A) : Ak n (s2 A) := fold_ak _ (fun B i hB hi => s2b_ak A B hB i hi) _ _ hA.2 (Ak.nil _)
def aft (g : Gt) (A : Am) : Am := s2 (s1 g A)
theorem aft_sem {w : Nat} {g : Gt} (hg : okGt w g) {A : Am} (hA : Ak (2 ^ w) A) : aget (aft g A) = Ug g (aget A) := by
  funext j
  rw [aft, s2_sem, s1_sem w g hg A hA.1]
theorem aft_ak {w : Nat} {g : Gt} (hg : okGt w g) {A : Am} (hA : Ak (2 ^ w) A) : Ak (2 ^ w) (aft g A) := s2_ak (s1_ak hg hA)
def isH : Gt → Nat
  | .h _ => 1
  | _ => 0
def sims : List Gt → Am → Am
  | [], A => A
  | g :: gs, A => sims gs (aft g A)
def rts : List Gt → Nat
  | [] => 0
  | g :: gs => isH g + rts gs
def Us : List Gt → (Nat → Qr) → Nat → Qr
  | [], F => F
  | g :: gs, F => Us gs (Ug g F)
theorem sims_sem {w : Nat} : ∀ (gs : List Gt) (A : Am), (∀ g ∈ gs, okGt w g) → Ak (2 ^ w) A → aget (sims gs A) = Us gs (aget A)
  | [], _, _, _ => rfl
  | g :: gs, A, h, hA => by
    have hg := h g (List.mem_cons_self ..)
    rw [sims, sims_sem gs _ (fun g hg => h g (List.mem_cons_of_mem _ hg)) (aft_ak hg hA), aft_sem hg hA]; rfl
theorem sims_ak {w : Nat} : ∀ (gs : List Gt) (A : Am), (∀ g ∈ gs, okGt w g) → Ak (2 ^ w) A → Ak (2 ^ w) (sims gs A)
  | [], _, _, hA => hA
  | g :: gs, A, h, hA => sims_ak gs _ (fun g hg => h g (List.mem_cons_of_mem _ hg)) (aft_ak (h g (List.mem_cons_self ..)) hA)
def rtb (A : Am) (B : Am) (i : Nat) : Am := aput B i (Rt (aget A i))
def rt1 (A : Am) : Am := (akey A).foldl (rtb A) []
theorem rt_get (A : Am) (j : Nat) : ∀ (L : List Nat) (B : Am), aget (L.foldl (rtb A) B) j = if j ∈ L then Rt (aget A j) else aget B j
  | [], B => by simp
  | i :: L, B => by
    rw [List.foldl_cons, rt_get A j L]
    by_cases h : j ∈ L
    · rw [if_pos h, if_pos (List.mem_cons_of_mem _ h)]
    · rw [if_neg h, rtb, aget_put]
      by_cases e : i = j
      · subst e; simp
      · have e' : ¬ j = i := fun z => e z.symm
        simp [e, e', h]
theorem rt1_sem (A : Am) (j : Nat) : aget (rt1 A) j = Rt (aget A j) := by
  unfold rt1
  rw [rt_get]
  split
  · rfl
  · rename_i h; rw [aget_out h]; rfl
theorem rt1_ak {n : Nat} {A : Am} (hA : Ak n A) : Ak n (rt1 A) := fold_ak _ (fun B i hB hi => hB.put hi _) _ _ hA.2 (Ak.nil _)
def rtn : Nat → Am → Am
  | 0, A => A
  | k + 1, A => rt1 (rtn k A)
theorem rtn_sem (A : Am) (j : Nat) : ∀ k, aget (rtn k A) j = Rn k (aget A j)
  | 0 => rfl
  | k + 1 => by rw [rtn, rt1_sem, rtn_sem A j k]; rfl
theorem rtn_ak {n : Nat} {A : Am} (hA : Ak n A) : ∀ k, Ak n (rtn k A)
  | 0 => hA
  | k + 1 => rt1_ak (rtn_ak hA k)
theorem Tn_add (a : Nat) (x : Qr) : ∀ b, Tn (a + b) x = Tn b (Tn a x)
  | 0 => rfl
  | b + 1 => by rw [Nat.add_succ, Tn, Tn_add a x b]; rfl
theorem Tn_8 (x : Qr) : Tn 8 x = x := by
  refine q_ext ?_ ?_ ?_ ?_ <;> simp [Tn, Tq]
theorem Tn_8k (x : Qr) : ∀ k, Tn (8 * k) x = x
  | 0 => rfl
  | k + 1 => by rw [Nat.mul_succ, Tn_add, Tn_8k x k, Tn_8]
theorem Rn_add' : ∀ (n m : Nat) (x : Qr), Rn (n + m) x = Rn n (Rn m x)
  | 0, m, x => by rw [Nat.zero_add]; rfl
  | n + 1, m, x => by rw [Nat.succ_add]; show Rt (Rn (n + m) x) = Rt (Rn n (Rn m x)); rw [Rn_add' n m x]
theorem Tn_mod (a : Nat) (x : Qr) : Tn (a % 8) x = Tn a x := by
  have h : a = 8 * (a / 8) + a % 8 := (Nat.div_add_mod a 8).symm
  conv => rhs; rw [h, Tn_add, Tn_8k]
theorem Tn_0 (a : Nat) (x : Qr) (h : a % 8 = 0) : Tn a x = x := by rw [← Tn_mod, h]; rfl
theorem Tn_Tn (a b : Nat) (x : Qr) : Tn b (Tn a x) = Tn (a + b) x := (Tn_add a x b).symm
theorem Rt_Tq' (x : Qr) : Rt (Tq x) = Tq (Rt x) := by
  unfold Rt Tq
  refine q_ext ?_ ?_ ?_ ?_ <;> simp only <;> omega
theorem Rt_Tn (x : Qr) : ∀ k, Rt (Tn k x) = Tn k (Rt x)
  | 0 => rfl
  | k + 1 => by show Rt (Tq _) = Tq _; rw [Rt_Tq', Rt_Tn x k]
theorem Rn_Tn' (x : Qr) (k : Nat) : ∀ n, Rn n (Tn k x) = Tn k (Rn n x)
  | 0 => rfl
  | n + 1 => by rw [Rn, Rn_Tn' x k n, Rt_Tn]; rfl
theorem Rt_add' (x y : Qr) : Rt (addQ x y) = addQ (Rt x) (Rt y) := by
  unfold Rt addQ
  refine q_ext ?_ ?_ ?_ ?_ <;> simp only <;> omega
theorem Rn_addQ (x y : Qr) : ∀ n, Rn n (addQ x y) = addQ (Rn n x) (Rn n y)
  | 0 => rfl
  | n + 1 => by rw [Rn, Rn_addQ x y n, Rt_add']; rfl
theorem Tq_add (x y : Qr) : Tq (addQ x y) = addQ (Tq x) (Tq y) := by
  unfold Tq addQ
  refine q_ext ?_ ?_ ?_ ?_ <;> simp only <;> omega
theorem Tn_addQ (x y : Qr) : ∀ n, Tn n (addQ x y) = addQ (Tn n x) (Tn n y)
  | 0 => rfl
  | n + 1 => by rw [Tn, Tn_addQ x y n, Tq_add]; rfl
theorem Ug_Rn (g : Gt) (F : Nat → Qr) (n : Nat) : Ug g (fun j => Rn n (F j)) = fun j => Rn n (Ug g F j) := by
  funext j
  cases g <;> simp only [Ug, Rn_addQ, Rn_Tn']
theorem Us_Rn : ∀ (gs : List Gt) (F : Nat → Qr) (n : Nat), Us gs (fun j => Rn n (F j)) = fun j => Rn n (Us gs F j)
  | [], _, _ => rfl
  | g :: gs, F, n => by rw [Us, Ug_Rn, Us_Rn gs]; rfl
theorem Ug_Tn (g : Gt) (F : Nat → Qr) (n : Nat) : Ug g (fun j => Tn n (F j)) = fun j => Tn n (Ug g F j) := by
  funext j
  cases g <;> simp only [Ug, Tn_addQ, Tn_Tn, Nat.add_comm]
theorem Us_Tn : ∀ (gs : List Gt) (F : Nat → Qr) (n : Nat), Us gs (fun j => Tn n (F j)) = fun j => Tn n (Us gs F j)
  | [], _, _ => rfl
  | g :: gs, F, n => by rw [Us, Ug_Tn, Us_Tn gs]; rfl
theorem Us_app : ∀ (gs hs : List Gt) (F : Nat → Qr), Us (gs ++ hs) F = Us hs (Us gs F)
  | [], _, _ => rfl
  | g :: gs, hs, F => by rw [List.cons_append, Us, Us_app gs hs]; rfl
theorem rts_app : ∀ gs hs : List Gt, rts (gs ++ hs) = rts gs + rts hs
  | [], _ => (Nat.zero_add _).symm
  | g :: gs, hs => by rw [List.cons_append, rts, rts_app gs hs, rts, Nat.add_assoc]
theorem Ug_mv {g : Gt} (nh : ∀ q, g ≠ .h q) (F : Nat → Qr) (j : Nat) : Ug g F j = Tn (mv g (mv g j).1).2 (F (mv g j).1) := by
  cases g with
  | h q => exact (nh q rfl).elim
  | _ => exact Tn_mod _ _
theorem Ug_2 {w : Nat} {g g' : Gt} (hg : okGt w g) (nh : ∀ q, g ≠ .h q) (nh' : ∀ q, g' ≠ .h q) (e : ∀ j, (mv g' j).1 = (mv g j).1) (es : ∀ j, ((mv g j).2 + (mv g' (mv g j).1).2) % 8 = 0) (F : Nat → Qr) (j : Nat) : Ug g' (Ug g F) j = F j := by
  have iv := mv_inv w g hg
  rw [Ug_mv nh', Ug_mv nh, e, iv, Tn_Tn]
  exact Tn_0 _ _ (es j)
theorem addQ_self (x : Qr) : addQ x x = Rn 2 x := by
  unfold addQ
  refine q_ext ?_ ?_ ?_ ?_ <;> simp only [Rn, Rt] <;> omega
theorem lo_0 {q j : Nat} (h : bt j q = 0) : lo q j = j := by have := lo_add q j; rw [h] at this; omega
theorem lo_1 {q j : Nat} (h : bt j q = 1) : lo q j + 2 ^ q = j := by have := lo_add q j; rw [h, Nat.one_mul] at this; exact this
theorem Ug_h0 (q : Nat) (F : Nat → Qr) (j : Nat) (h : bt j q = 0) : Ug (.h q) F j = addQ (F j) (F (j + 2 ^ q)) := by
  show addQ (F (lo q j)) (Tn (4 * bt j q) (F (lo q j + 2 ^ q))) = _
  rw [h, lo_0 h]; rfl
theorem Ug_h1 (q : Nat) (F : Nat → Qr) (j : Nat) (h : bt j q = 1) : Ug (.h q) F j = addQ (F (lo q j)) (Tn 4 (F j)) := by
  show addQ (F (lo q j)) (Tn (4 * bt j q) (F (lo q j + 2 ^ q))) = _
  rw [h, lo_1 h]
theorem Tn4_add (x : Qr) : addQ x (Tn 4 x) = Qr.z := by
  unfold addQ Qr.z
  refine q_ext ?_ ?_ ?_ ?_ <;> simp only [Tn, Tq] <;> omega
theorem Ug_hh (q : Nat) (F : Nat → Qr) (j : Nat) : Ug (.h q) (Ug (.h q) F) j = Rn 2 (F j) := by
  have hb := bt_lt j q
  have hc : bt j q = 0 ∨ bt j q = 1 := by omega
  rcases hc with h | h
  · have h1 : bt (j + 2 ^ q) q = 1 := by have := bt_hi q j; rwa [lo_0 h] at this
    have l1 : lo q (j + 2 ^ q) = j := by have := lo_hi q j; rwa [lo_0 h] at this
    rw [Ug_h0 _ _ _ h, Ug_h0 _ _ _ h, Ug_h1 _ _ _ h1, l1]
    rw [add_a, add_c (F (j + 2 ^ q)), add_a, add_c (Tn 4 _), Tn4_add, add_z, addQ_self]
  · have h0 := bt_lo q j
    have l1 := lo_1 h
    rw [Ug_h1 _ _ _ h, Ug_h0 _ _ _ h0, Ug_h1 _ _ _ h, l1, Tn_addQ, Tn_Tn]
    have e8 : Tn (4 + 4) (F j) = F j := Tn_8 _
    rw [e8, add_c (Tn 4 (F (lo q j))), add_a, add_c (F (lo q j)), add_a, add_a, add_c (Tn 4 (F (lo q j))), Tn4_add, add_z, addQ_self]
theorem L_turn_loop (n : Nat) (x : Qr) (s : Int) : ∃ o, floop [] (gset 2) lb_L_turn_0 (rngL 0 n) [some (qD x), some (.int s), none] [] = .ok (.nx, [some (qD (Tn n x)), some (.int s), o]) [] := by
  have := floop_rngI (t := gset 2) (b := lb_L_turn_0) (lo := 0) (n := n)
    (fun k en st => (∃ o, en = [some (qD (Tn k x)), some (.int s), o]) ∧ st = []) (en := [some (qD x), some (.int s), none]) (st := []) ⟨⟨none, rfl⟩, rfl⟩ ?_
  · obtain ⟨en', st', h, ⟨o, rfl⟩, rfl⟩ := this
    exact ⟨o, h⟩
  · rintro k hk en st ⟨⟨o, rfl⟩, rfl⟩
    refine ⟨_, _, ?_, ⟨some (.int k), rfl⟩, rfl⟩
    simp [stp, lb_L_turn_0, qD, Tn, Tq]
theorem L_turn (s : Int) (x : Qr) : s_L_turn [qD x, .int s] = .ok (qD (Tn (s % 8).toNat x)) [] := by
  obtain ⟨o, h⟩ := L_turn_loop (s % 8).toNat x s
  have e : ok62 (s % 8) = true := ok62_small _ (by omega) (by omega)
  simp [s_L_turn, e, h]
def aK (A : Am) : List Key := A.map fun p => Sum.inl (p.1 : Int)
def aV (A : Am) : List D := A.map fun p => qD p.2
theorem aK_len (A : Am) : (aK A).length = A.length := by simp [aK]
theorem aK_keys (A : Am) : (aK A).map keyD = (akey A).map fun i : Nat => D.int (i : Int) := by
  unfold aK akey
  rw [List.map_map, List.map_map]; rfl
@[simp] theorem aV_noc (A : Am) : nocL (aV A) = true := nocL_map _ _ fun p _ => noc_q _
@[simp] theorem aV_pl (A : Am) : plL (aV A) = true := plL_map _ _ fun p _ => pl_q _
theorem inl_i {i j : Nat} : ((Sum.inl (i : Int) : Key) = Sum.inl (j : Int)) ↔ i = j := by
  constructor
  · intro h; injection h with h; exact Int.ofNat_inj.mp h
  · rintro rfl; rfl
theorem kget_in : ∀ (A : Am) (i : Nat), i ∈ akey A → kget (aK A) (aV A) (Sum.inl (i : Int)) = some (qD (aget A i))
  | [], i, h => by cases h
  | (j, y) :: r, i, h => by
    show (if (Sum.inl (j : Int) : Key) = Sum.inl (i : Int) then some (qD y) else kget (aK r) (aV r) (Sum.inl (i : Int))) = some (qD (if j = i then y else aget r i))
    by_cases e : j = i
    · subst e; simp
    · rw [if_neg (fun z => e (inl_i.mp z)), if_neg e]
      exact kget_in r i (by simp only [akey, List.map_cons, List.mem_cons] at h; rcases h with z | z; exact (e z.symm).elim; exact z)
theorem kget_out : ∀ (A : Am) (i : Nat), i ∉ akey A → kget (aK A) (aV A) (Sum.inl (i : Int)) = none
  | [], i, h => rfl
  | (j, y) :: r, i, h => by
    simp only [akey, List.map_cons, List.mem_cons, not_or] at h
    show (if (Sum.inl (j : Int) : Key) = Sum.inl (i : Int) then some (qD y) else kget (aK r) (aV r) (Sum.inl (i : Int))) = none
    rw [if_neg (fun z => h.1 (inl_i.mp z).symm)]
    exact kget_out r i h.2
theorem kgetD_a (A : Am) (i : Nat) : (kget (aK A) (aV A) (Sum.inl (i : Int))).getD (.tup [.int 0, .int 0, .int 0, .int 0]) = qD (aget A i) := by
  by_cases h : i ∈ akey A
  · rw [kget_in A i h]; rfl
  · rw [kget_out A i h, aget_out h]; rfl
theorem khas_a : ∀ (A : Am) (i : Nat), khas (aK A) (Sum.inl (i : Int)) = decide (i ∈ akey A)
  | [], i => rfl
  | (j, y) :: r, i => by
    show (decide ((Sum.inl (j : Int) : Key) = Sum.inl (i : Int)) || khas (aK r) (Sum.inl (i : Int))) = _
    rw [khas_a r i]
    by_cases e : j = i
    · subst e; simp [akey]
    · have e1 : ¬ ((Sum.inl (j : Int) : Key) = Sum.inl (i : Int)) := fun z => e (inl_i.mp z)
      have e2 : ¬ i = j := fun z => e z.symm
      rw [decide_eq_false e1, Bool.false_or]
      exact decide_eq_decide.mpr (by simp [akey, e2])
theorem krep_a : ∀ (A : Am) (i : Nat) (x : Qr), (akey A).Nodup → i ∈ akey A → krep (aK A) (aV A) (Sum.inl (i : Int)) (qD x) = aV (aput A i x)
  | [], i, x, _, h => by cases h
  | (j, y) :: r, i, x, hd, h => by
    obtain ⟨h1, h2⟩ := List.nodup_cons.mp hd
    show (if (Sum.inl (j : Int) : Key) = Sum.inl (i : Int) then qD x else qD y) :: krep (aK r) (aV r) (Sum.inl (i : Int)) (qD x) = aV (if j = i then (j, x) :: r else (j, y) :: aput r i x)
    by_cases e : j = i
    · subst e
      rw [if_pos rfl, if_pos rfl]
      show _ = qD x :: aV r
      congr 1
      have no : ∀ (r : Am), j ∉ akey r → krep (aK r) (aV r) (Sum.inl (j : Int)) (qD x) = aV r := by
        intro r
        induction r with
        | nil => intro _; rfl
        | cons p r ih =>
          intro h
          simp only [akey, List.map_cons, List.mem_cons, not_or] at h
          show (if (Sum.inl (p.1 : Int) : Key) = Sum.inl (j : Int) then qD x else qD p.2) :: krep (aK r) (aV r) (Sum.inl (j : Int)) (qD x) = qD p.2 :: aV r
          rw [if_neg (fun z => h.1 (inl_i.mp z).symm), ih h.2]
      exact no r h1
    · rw [if_neg (fun z => e (inl_i.mp z)), if_neg e]
      show _ = qD y :: aV (aput r i x)
      rw [krep_a r i x h2 (by simp only [akey, List.map_cons, List.mem_cons] at h; rcases h with z | z; exact (e z.symm).elim; exact z)]
theorem aK_of_akey {A B : Am} (h : akey A = akey B) : aK A = aK B := by
  have e : ∀ A : Am, aK A = (akey A).map fun i : Nat => (Sum.inl (i : Int) : Key) := fun A => by unfold aK akey; rw [List.map_map]; rfl
  rw [e, e, h]
theorem aput_new : ∀ (A : Am) (i : Nat) (x : Qr), i ∉ akey A → aput A i x = A ++ [(i, x)]
  | [], _, _, _ => rfl
  | (j, y) :: r, i, x, h => by
    simp only [akey, List.map_cons, List.mem_cons, not_or] at h
    have e : ¬ j = i := fun z => h.1 z.symm
    unfold aput
    rw [if_neg e, aput_new r i x h.2]; rfl
theorem kput_a (A : Am) (hA : (akey A).Nodup) (i : Nat) (x : Qr) : kput (aK A) (aV A) (Sum.inl (i : Int)) (qD x) = (aK (aput A i x), aV (aput A i x)) := by
  by_cases h : i ∈ akey A
  · rw [kput_old (by rw [khas_a]; exact decide_eq_true h), krep_a A i x hA h]
    have : akey (aput A i x) = akey A := by rw [akey_put, if_pos h]
    rw [aK_of_akey this]
  · rw [kput_new (by rw [khas_a]; exact decide_eq_false h), aput_new A i x h]
    unfold aK aV
    rw [List.map_append, List.map_append]; rfl
theorem fit_a {n : Nat} {A : Am} (hA : Ak n A) (hn : n < 16777216) : fitL ((aK A).length + 1) = true := by
  have := hA.len
  rw [aK_len]
  exact decide_eq_true (by omega)
def pK (k : Nat) : Str := [("Z" : Str), ("S" : Str), ("SDG" : Str), ("T" : Str), ("TDG" : Str)].getD k ("Z" : Str)
def gtK : Gt → Str
  | .w => ("W" : Str)
  | .h _ => ("H" : Str)
  | .x _ => ("X" : Str)
  | .y _ => ("Y" : Str)
  | .p k _ => pK k
  | .cx _ _ => ("CX" : Str)
  | .cz _ _ => ("CZ" : Str)
  | .sw _ _ => ("SWAP" : Str)
def gtQ : Gt → List Nat
  | .w => []
  | .h q => [q]
  | .x q => [q]
  | .y q => [q]
  | .p _ q => [q]
  | .cx a b => [a, b]
  | .cz a b => [a, b]
  | .sw a b => [a, b]
def gtD (g : Gt) : D := gateD (gtK g) (gtQ g)
theorem gateOK_gt {w : Nat} {K : Str} {qs : List Nat} (h : GateOK w K qs) : ∃ g, okGt w g ∧ gateD K qs = gtD g := by
  rcases h with ⟨rfl, rfl⟩ | ⟨h, q, hq, rfl⟩ | ⟨h, a, b, ha, hb, hab, rfl⟩
  · exact ⟨.w, trivial, rfl⟩
  · simp only [List.mem_cons, List.mem_nil_iff, or_false] at h
    rcases h with rfl | rfl | rfl | rfl | rfl | rfl | rfl | rfl
    · exact ⟨.h q, hq, rfl⟩
    · exact ⟨.x q, hq, rfl⟩
    · exact ⟨.y q, hq, rfl⟩
    · exact ⟨.p 0 q, ⟨by decide, hq⟩, rfl⟩
    · exact ⟨.p 1 q, ⟨by decide, hq⟩, rfl⟩
    · exact ⟨.p 2 q, ⟨by decide, hq⟩, rfl⟩
    · exact ⟨.p 3 q, ⟨by decide, hq⟩, rfl⟩
    · exact ⟨.p 4 q, ⟨by decide, hq⟩, rfl⟩
  · simp only [List.mem_cons, List.mem_nil_iff, or_false] at h
    rcases h with rfl | rfl | rfl
    · exact ⟨.cx a b, ⟨ha, hb, hab⟩, rfl⟩
    · exact ⟨.cz a b, ⟨ha, hb, hab⟩, rfl⟩
    · exact ⟨.sw a b, ⟨ha, hb, hab⟩, rfl⟩
@[simp] theorem gtD_noc (g : Gt) : (gtD g).noc = true := gnoc _ _
@[simp] theorem gtD_pl (g : Gt) : (gtD g).pl = true := gpl _ _
@[simp] theorem gts_noc (gs : List Gt) : nocL (gs.map gtD) = true := nocL_map _ _ fun g _ => gtD_noc g
@[simp] theorem gts_pl (gs : List Gt) : plL (gs.map gtD) = true := plL_map _ _ fun g _ => gtD_pl g
theorem oNe_z (x : Qr) (st : Sto) : oNe (qD x) (.tup [.int 0, .int 0, .int 0, .int 0]) st = .ok (.bl (!decide (x = Qr.z))) st := by
  have := ev_neT [.int x.a, .int x.b, .int x.c, .int x.d] [.int 0, .int 0, .int 0, .int 0] st (by simp) (by simp) (by simp) (by simp)
  have e := eqT_q x Qr.z
  have ez : qD Qr.z = .tup [.int 0, .int 0, .int 0, .int 0] := rfl
  simp only [qD, ez, eqT_tup] at e
  unfold qD
  rw [this]
  rw [← e]
  rfl
theorem qNe (x : Qr) (st : Sto) : oNe (qD x) (qD x) st = .ok (.bl false) st := by
  have := ev_neT [.int x.a, .int x.b, .int x.c, .int x.d] [.int x.a, .int x.b, .int x.c, .int x.d] st (by simp) (by simp) (by simp) (by simp)
  have e := eqT_q x x
  simp only [qD, eqT_tup] at e
  unfold qD
  rw [this, e]
  simp
theorem L_put (n : Nat) (hn : n < 16777216) (A : Am) (hA : Ak n A) (i : Nat) (x : Qr) : s_L_put [.dk .own (aK A) (aV A), .int i, qD x] = .ok .non [.dk .own (aK (put1 A i x)) (aV (put1 A i x))] := by
  have h1 := kgetD_a A i
  have h2 := kput_a A hA.1 i (addQ (aget A i) x)
  have h3 := fit_a hA hn
  unfold put1
  generalize aput A i (addQ (aget A i) x) = B at *
  generalize aget A i = y at *
  have h2' : kput (aK A) (aV A) (Sum.inl (i : Int)) (.tup [.int (y.a + x.a), .int (y.b + x.b), .int (y.c + x.c), .int (y.d + x.d)]) = (aK B, aV B) := h2
  have e1 : qD y = .tup [.int y.a, .int y.b, .int y.c, .int y.d] := rfl
  rw [e1] at h1
  have e2 : qD x = .tup [.int x.a, .int x.b, .int x.c, .int x.d] := rfl
  rw [e2]
  simp [s_L_put, h1, h2', h3]
theorem L_moveT {w : Nat} (hw : w ≤ 64) (g : Gt) (hg : okGt w g) (nh : ∀ q, g ≠ .h q) (i : Nat) : s_L_move [.int i, gtD g] = .ok (.tup [.int ((mv g i).1 : Nat), .int ((mv g i).2 : Nat)]) [] := by
  cases g with
  | h q => exact (nh q rfl).elim
  | w => simp [s_L_move, gtD, gateD, gtK, gtQ, mv]
  | x q =>
    have hq : q < w := hg
    have ib := bit_nat i q
    have c1 : okShl 1 (q : Int) = true := okShl_small _ _ (by omega) (by omega) (by omega) (by omega)
    have s1 := sl_nat 1 q
    have x1 := bXor i (2 ^ q)
    simp only [mv]
    simp only [Nat.one_mul, Int.natCast_one, Int.one_mul] at s1
    generalize i / 2 ^ q % 2 = B at *
    generalize i ^^^ 2 ^ q = R at *
    generalize 2 ^ q = P at s1 x1
    simp [s_L_move, gtD, gateD, gtK, gtQ, ib, c1, s1, x1]
  | y q =>
    have hq : q < w := hg
    have ib := bit_nat i q
    have c1 : okShl 1 (q : Int) = true := okShl_small _ _ (by omega) (by omega) (by omega) (by omega)
    have s1 := sl_nat 1 q
    have x1 := bXor i (2 ^ q)
    simp only [mv, bt]
    simp only [Nat.one_mul, Int.natCast_one, Int.one_mul] at s1
    generalize i / 2 ^ q % 2 = B at *
    generalize i ^^^ 2 ^ q = R at *
    generalize 2 ^ q = P at s1 x1
    rw [s1] at ib
    simp [s_L_move, gtD, gateD, gtK, gtQ, ib, c1, s1, x1]
  | p k q =>
    have hq : q < w := hg.2
    have hk : k < 5 := hg.1
    have ib := bit_nat i q
    simp only [mv, bt]
    generalize i / 2 ^ q % 2 = B at *
    have kk : k = 0 ∨ k = 1 ∨ k = 2 ∨ k = 3 ∨ k = 4 := by omega
    rcases kk with rfl | rfl | rfl | rfl | rfl <;> simp [s_L_move, gtD, gateD, gtK, gtQ, pK, phs, ib]
  | cx a b =>
    obtain ⟨ha, hb, hab⟩ := hg
    have ia := bit_nat i a
    have ib := bit_nat i b
    have la : i / 2 ^ a % 2 < 2 := Nat.mod_lt _ (by decide)
    simp only [mv, bt]
    generalize i / 2 ^ a % 2 = A at *
    generalize i / 2 ^ b % 2 = B at *
    have c1 : okShl (A : Int) (b : Int) = true := okShl_small _ _ (by omega) (by omega) (by omega) (by omega)
    have s1 := sl_nat A b
    have x1 := bXor i (A * 2 ^ b)
    generalize i ^^^ A * 2 ^ b = R at *
    generalize A * 2 ^ b = P at *
    simp [s_L_move, gtD, gateD, gtK, gtQ, ia, ib, c1, s1, x1]
  | cz a b =>
    have ia := bit_nat i a
    have ib := bit_nat i b
    simp only [mv, bt]
    have la : i / 2 ^ a % 2 < 2 := Nat.mod_lt _ (by decide)
    have lb : i / 2 ^ b % 2 < 2 := Nat.mod_lt _ (by decide)
    generalize i / 2 ^ a % 2 = A at *
    generalize i / 2 ^ b % 2 = B at *
    have m1 : okMul (4 * (A : Int)) (B : Int) = true := okMul_r _ _ (by omega) (by omega)
    simp [s_L_move, gtD, gateD, gtK, gtQ, ia, ib, m1]
  | sw a b =>
    obtain ⟨ha, hb, hab⟩ := hg
    have ia := bit_nat i a
    have ib := bit_nat i b
    have la : i / 2 ^ a % 2 < 2 := Nat.mod_lt _ (by decide)
    have lb : i / 2 ^ b % 2 < 2 := Nat.mod_lt _ (by decide)
    simp only [mv, bt]
    have mx : (i / 2 ^ a % 2) ^^^ (i / 2 ^ b % 2) < 2 := by rw [bt_xb _ _ la lb]; omega
    generalize i / 2 ^ a % 2 = A at *
    generalize i / 2 ^ b % 2 = B at *
    have bx := bXor A B
    generalize A ^^^ B = C at *
    have c1 : okShl (C : Int) (a : Int) = true := okShl_small _ _ (by omega) (by omega) (by omega) (by omega)
    have c2 : okShl (C : Int) (b : Int) = true := okShl_small _ _ (by omega) (by omega) (by omega) (by omega)
    have s1 := sl_nat C a
    have s2 := sl_nat C b
    have x1 := bXor i (C * 2 ^ a)
    have x2 := bXor (i ^^^ C * 2 ^ a) (C * 2 ^ b)
    generalize C * 2 ^ a = P at *
    generalize C * 2 ^ b = Q at *
    generalize i ^^^ P = R at *
    generalize R ^^^ Q = T at *
    simp [s_L_move, gtD, gateD, gtK, gtQ, ia, ib, bx, c1, c2, s1, s2, x1, x2]
def Frz (A : Am) (a : D) (st : Sto) : Prop := (a = .dk .loan (aK A) (aV A) ∧ st = []) ∨ (a = .dk .frz (aK A) (aV A) ∧ st = [.gone])
theorem put_call {n : Nat} (hn : n < 16777216) (B : Am) (hB : Ak n B) (i : Nat) (x : Qr) (ms : List Md) (hm : ms = [.mut, .val, .val] ∨ ms = [.mut, .mov, .mov] ∨ ms = [.mut, .val, .mov]) (en : En) (st : Sto) (c : Nat) (hc : st[c]? = some (.dk (aK B) (aV B))) :
    callD [0] s_L_put ms [.cell c, .int i, qD x] en st = .ok .non (st.set c (.dk (aK (put1 B i x)) (aV (put1 B i x)))) := by
  have h := L_put n hn B hB i x
  have lt := (List.getElem?_eq_some_iff.mp hc).1
  rcases hm with rfl | rfl | rfl <;> simp [-getElem?_pos, List.getElem?_cons_zero, hc, h, lt]
theorem after_step {w : Nat} (hw : w ≤ 20) (g : Gt) (hg : okGt w g) (A B : Am) (hB : Ak (2 ^ w) B) (a : D) (st : Sto) (hf : Frz A a st) (i : Nat) (hi : i ∈ akey A) (hi2 : i < 2 ^ w) (o3 o4 o5 o6 o7 o8 : Option D) :
    ∃ o5' o6' o7' o8', stp (gset 3) lb_L_after_0 (.int i) [some a, some (gtD g), some (.cell st.length), o3, o4, o5, o6, o7, o8] (st ++ [.dk (aK B) (aV B)]) = .ok (.nx, [some a, some (gtD g), some (.cell st.length), some (.int i), o4, o5', o6', o7', o8']) (st ++ [.dk (aK (s1b g A B i)) (aV (s1b g A B i))]) := by
  have hn : 2 ^ w < 16777216 := Nat.lt_of_le_of_lt (Nat.pow_le_pow_right (by decide) hw) (by decide)
  have hk := kget_in A i hi
  have pc := fun (B : Am) (hB : Ak (2 ^ w) B) (i : Nat) (x : Qr) (ms : List Md) hm (en : En) (st : Sto) (c : Nat) hc => put_call hn B hB i x ms hm en st c hc
  have hx : ∀ r, (st ++ r)[st.length]? = r[0]? := fun r => sat0 st r
  by_cases hh : ∃ q, g = .h q
  · obtain ⟨q, rfl⟩ := hh
    have hq : q < w := hg
    have ib := bit_nat i q
    have hb := bt_lt i q
    have hle := bt_le q i
    have c0 : okShl (bt i q : Int) (q : Int) = true := okShl_small _ _ (by omega) (by omega) (by omega) (by omega)
    have c1 : okShl 1 (q : Int) = true := okShl_small _ _ (by omega) (by omega) (by omega) (by omega)
    have el : (i : Int) - (bt i q : Int) * 2 ^ q = (lo q i : Nat) := by rw [sl_nat]; unfold lo; omega
    have eh : ((lo q i : Nat) : Int) + 2 ^ q = (lo q i + 2 ^ q : Nat) := by rw [Int.natCast_add, Int.natCast_pow]; rfl
    have hlo : lo q i < 2 ^ w := by unfold lo; omega
    have ht := L_turn (4 * (bt i q : Int)) (aget A i)
    have e4 : (4 * (bt i q : Int) % 8).toNat = 4 * bt i q := by omega
    rw [e4] at ht
    have p1 := pc B hB (lo q i) (aget A i) [.mut, .val, .val] (by simp)
    have hB2 := hB.put1 hlo (aget A i)
    have p2 := pc (put1 B (lo q i) (aget A i)) hB2 (lo q i + 2 ^ q) (Tn (4 * bt i q) (aget A i)) [.mut, .mov, .mov] (by simp)
    have es : s1b (.h q) A B i = put1 (put1 B (lo q i) (aget A i)) (lo q i + 2 ^ q) (Tn (4 * bt i q) (aget A i)) := rfl
    rw [es]
    have fb : i / 2 ^ q % 2 = bt i q := rfl
    rw [fb] at ib
    generalize lo q i + 2 ^ q = hiq at *
    generalize lo q i = loq at *
    generalize Tn (4 * bt i q) (aget A i) = y at *
    generalize bt i q = b at *
    generalize aget A i = x at *
    have nx := noc_q x
    have ny := noc_q y
    generalize qD x = X at *
    generalize qD y = Y at *
    refine ⟨some X, some (.int b), some (.int loq), o8, ?_⟩
    rcases hf with ⟨rfl, rfl⟩ | ⟨rfl, rfl⟩ <;> simp (maxDischargeDepth := 9) [-callD_mu, stp, lb_L_after_0, hk, gtD, gateD, gtK, gtQ, ib, c0, c1, el, eh, ht, nx, ny, p1, p2]
  · have nh : ∀ q, g ≠ .h q := fun q e => hh ⟨q, e⟩
    have hmv := L_moveT (by omega) g hg nh i
    have ht := L_turn ((mv g i).2 : Nat) (aget A i)
    have e4 : (((mv g i).2 : Int) % 8).toNat = (mv g i).2 % 8 := by omega
    rw [e4] at ht
    have p1 := pc B hB (mv g i).1 (Tn ((mv g i).2 % 8) (aget A i)) [.mut, .val, .mov] (by simp)
    have es : s1b g A B i = put1 B (mv g i).1 (Tn ((mv g i).2 % 8) (aget A i)) := by
      cases g with
      | h q => exact (nh q rfl).elim
      | _ => rfl
    rw [es]
    have gx : oIx (gtD g) (.int 0) = fun st => .ok (.str (gtK g)) st := rfl
    have gk : ¬ gtK g = ("H" : Str) := by
      cases g with
      | h q => exact (nh q rfl).elim
      | p k q =>
        have hk : k < 5 := hg.1
        have kk : k = 0 ∨ k = 1 ∨ k = 2 ∨ k = 3 ∨ k = 4 := by omega
        rcases kk with rfl | rfl | rfl | rfl | rfl <;> simp [gtK, pK]
      | _ => simp [gtK]
    have gn := gtD_noc g
    generalize Tn ((mv g i).2 % 8) (aget A i) = y at *
    generalize (mv g i).1 = m at *
    generalize (mv g i).2 = s at *
    generalize gtD g = G at *
    generalize aget A i = x at *
    have nx := noc_q x
    have ny := noc_q y
    generalize qD x = X at *
    generalize qD y = Y at *
    refine ⟨some X, o6, o7, some (.tup [.int m, .int s]), ?_⟩
    rcases hf with ⟨rfl, rfl⟩ | ⟨rfl, rfl⟩ <;> simp (maxDischargeDepth := 9) [-callD_mu, stp, lb_L_after_0, hk, gx, gk, gn, hmv, ht, nx, ny, p1]
theorem after_loop {w : Nat} (hw : w ≤ 20) (g : Gt) (hg : okGt w g) (A : Am) (hA : Ak (2 ^ w) A) (a : D) (st : Sto) (hf : Frz A a st) (o4 : Option D) : ∀ (L : List Nat) (B : Am), (∀ i ∈ L, i ∈ akey A) → Ak (2 ^ w) B → ∀ (o3 o5 o6 o7 o8 : Option D),
    ∃ o3' o5' o6' o7' o8', floop [] (gset 3) lb_L_after_0 (L.map fun i : Nat => D.int (i : Int)) [some a, some (gtD g), some (.cell st.length), o3, o4, o5, o6, o7, o8] (st ++ [.dk (aK B) (aV B)]) = .ok (.nx, [some a, some (gtD g), some (.cell st.length), o3', o4, o5', o6', o7', o8']) (st ++ [.dk (aK (L.foldl (s1b g A) B)) (aV (L.foldl (s1b g A) B))])
  | [], B, _, hB, o3, o5, o6, o7, o8 => ⟨o3, o5, o6, o7, o8, by simp⟩
  | i :: L, B, hL, hB, o3, o5, o6, o7, o8 => by
    have hi := hL i (List.mem_cons_self ..)
    have hi2 := hA.2 i hi
    obtain ⟨o5', o6', o7', o8', h1⟩ := after_step hw g hg A B hB a st hf i hi hi2 o3 o4 o5 o6 o7 o8
    obtain ⟨p3, p5, p6, p7, p8, h2⟩ := after_loop hw g hg A hA a st hf o4 L (s1b g A B i) (fun j hj => hL j (List.mem_cons_of_mem _ hj)) (s1b_ak w g hg A B hB i hi2) (some (.int i)) o5' o6' o7' o8'
    refine ⟨p3, p5, p6, p7, p8, ?_⟩
    rw [List.map_cons, floop_nx rfl h1, List.foldl_cons]
    exact h2
theorem kept_step {w : Nat} (hw : w ≤ 20) (A B : Am) (hB : Ak (2 ^ w) B) (st : Sto) (i : Nat) (hi : i ∈ akey A) (o0 o1 o3 o5 o6 o7 o8 : Option D) :
    stp (gset 3) lb_L_after_1 (.int i) [o0, o1, some (.dk .frz (aK A) (aV A)), o3, some (.cell (st.length + 1)), o5, o6, o7, o8] (st ++ [.gone, .dk (aK B) (aV B)]) = .ok (.nx, [o0, o1, some (.dk .frz (aK A) (aV A)), some (.int i), some (.cell (st.length + 1)), o5, o6, o7, o8]) (st ++ [.gone, .dk (aK (s2b A B i)) (aV (s2b A B i))]) := by
  have hn : 2 ^ w < 16777216 := Nat.lt_of_le_of_lt (Nat.pow_le_pow_right (by decide) hw) (by decide)
  have hk := kget_in A i hi
  have hz := fun st => oNe_z (aget A i) st
  have hp := kput_a B hB.1 i (aget A i)
  have hf := fit_a hB hn
  unfold s2b
  by_cases z : aget A i = Qr.z
  · have e : decide (aget A i = Qr.z) = true := decide_eq_true z
    rw [e] at hz
    rw [if_pos z]
    simp [stp, lb_L_after_1, hk, hz]
  · have e : decide (aget A i = Qr.z) = false := decide_eq_false z
    rw [e] at hz
    rw [if_neg z]
    generalize aput B i (aget A i) = C at *
    generalize aget A i = x at *
    have nx := noc_q x
    generalize qD x = X at *
    simp (maxDischargeDepth := 9) [-getElem?_pos, List.getElem?_cons_zero, stp, lb_L_after_1, hk, hz, satk, ssetk, hp, hf]
theorem kept_loop {w : Nat} (hw : w ≤ 20) (A : Am) (hA : Ak (2 ^ w) A) (st : Sto) (o0 o1 o5 o6 o7 o8 : Option D) : ∀ (L : List Nat) (B : Am), (∀ i ∈ L, i ∈ akey A) → Ak (2 ^ w) B → ∀ (o3 : Option D),
    ∃ o3', floop [] (gset 3) lb_L_after_1 (L.map fun i : Nat => D.int (i : Int)) [o0, o1, some (.dk .frz (aK A) (aV A)), o3, some (.cell (st.length + 1)), o5, o6, o7, o8] (st ++ [.gone, .dk (aK B) (aV B)]) = .ok (.nx, [o0, o1, some (.dk .frz (aK A) (aV A)), o3', some (.cell (st.length + 1)), o5, o6, o7, o8]) (st ++ [.gone, .dk (aK (L.foldl (s2b A) B)) (aV (L.foldl (s2b A) B))])
  | [], B, _, hB, o3 => ⟨o3, by simp⟩
  | i :: L, B, hL, hB, o3 => by
    have hi := hL i (List.mem_cons_self ..)
    have h1 := kept_step hw A B hB st i hi o0 o1 o3 o5 o6 o7 o8
    obtain ⟨p3, h2⟩ := kept_loop hw A hA st o0 o1 o5 o6 o7 o8 L (s2b A B i) (fun j hj => hL j (List.mem_cons_of_mem _ hj)) (s2b_ak A B hB i (hA.2 i hi)) (some (.int i))
    refine ⟨p3, ?_⟩
    rw [List.map_cons, floop_nx rfl h1, List.foldl_cons]
    exact h2
theorem L_after {w : Nat} (hw : w ≤ 20) (g : Gt) (hg : okGt w g) (A : Am) (hA : Ak (2 ^ w) A) (m : Mk) (hm : m = .loan ∨ m = .own) : s_L_after [.dk m (aK A) (aV A), gtD g] = .ok (.dk .own (aK (aft g A)) (aV (aft g A))) [] := by
  have hA1 := s1_ak hg hA
  rcases hm with rfl | rfl
  · obtain ⟨o3, o5, o6, o7, o8, h1⟩ := after_loop hw g hg A hA (.dk .loan (aK A) (aV A)) [] (.inl ⟨rfl, rfl⟩) none (akey A) [] (fun _ h => h) (Ak.nil _) none none none none none
    obtain ⟨p3, h2⟩ := kept_loop hw (s1 g A) hA1 [] (some (.dk .loan (aK A) (aV A))) (some (gtD g)) o5 o6 o7 o8 (akey (s1 g A)) [] (fun _ h => h) (Ak.nil _) o3
    rw [← aK_keys] at h1 h2
    have e1 : (akey A).foldl (s1b g A) [] = s1 g A := rfl
    have e2 : (akey (s1 g A)).foldl (s2b (s1 g A)) [] = aft g A := rfl
    have e3 : aK [] = [] := rfl
    have e4 : aV [] = [] := rfl
    rw [e1, e3, e4] at h1
    rw [e2, e3, e4] at h2
    have n2 := aV_noc (aft g A)
    have n3 := aV_pl (aft g A)
    simp only [List.length_nil, List.nil_append] at h1 h2
    simp [s_L_after, h1, h2]
  · obtain ⟨o3, o5, o6, o7, o8, h1⟩ := after_loop hw g hg A hA (.dk .frz (aK A) (aV A)) [.gone] (.inr ⟨rfl, rfl⟩) none (akey A) [] (fun _ h => h) (Ak.nil _) none none none none none
    obtain ⟨p3, h2⟩ := kept_loop hw (s1 g A) hA1 [.gone] (some (.dk .frz (aK A) (aV A))) (some (gtD g)) o5 o6 o7 o8 (akey (s1 g A)) [] (fun _ h => h) (Ak.nil _) o3
    rw [← aK_keys] at h1 h2
    have e1 : (akey A).foldl (s1b g A) [] = s1 g A := rfl
    have e2 : (akey (s1 g A)).foldl (s2b (s1 g A)) [] = aft g A := rfl
    have e3 : aK [] = [] := rfl
    have e4 : aV [] = [] := rfl
    rw [e1, e3, e4] at h1
    rw [e2, e3, e4] at h2
    have n2 := aV_noc (aft g A)
    have n3 := aV_pl (aft g A)
    simp only [List.length_cons, List.length_nil, List.cons_append, List.nil_append, Nat.zero_add] at h1 h2
    simp [s_L_after, h1, h2]
theorem gtH (g : Gt) (hg : ∀ k q, g = .p k q → k < 5) : gtK g = ("H" : Str) ↔ isH g = 1 := by
  cases g with
  | h q => simp [gtK, isH]
  | p k q =>
    have hk : k < 5 := hg k q rfl
    have kk : k = 0 ∨ k = 1 ∨ k = 2 ∨ k = 3 ∨ k = 4 := by omega
    rcases kk with rfl | rfl | rfl | rfl | rfl <;> simp [gtK, pK, isH]
  | _ => simp [gtK, isH]
theorem okp {w : Nat} {g : Gt} (hg : okGt w g) : ∀ k q, g = .p k q → k < 5 := by rintro k q rfl; exact hg.1
theorem bH {w : Nat} {g : Gt} (hg : okGt w g) : (if gtK g = ("H" : Str) then (1 : Int) else 0) = (isH g : Nat) := by
  have h := gtH g (okp hg)
  have : isH g = 0 ∨ isH g = 1 := by cases g <;> simp [isH]
  split
  · rename_i e; rw [h.mp e]; rfl
  · rename_i e
    rcases this with z | z
    · rw [z]; rfl
    · exact (e (h.mpr z)).elim
def oneQ : Qr := ⟨1, 0, 0, 0⟩
def CameL (L : List D) (a : D) (src : List (Nat × List D)) (st : Sto) : Prop := (a = .lst .loan L ∧ src = []) ∨ (a = .cell 0 ∧ src = [(0, L)] ∧ st[0]? = some (.lst L))
theorem CameL.okS {L : List D} {a : D} {src : List (Nat × List D)} {st : Sto} (h : CameL L a src st) : okSrc src st = true := by
  rcases h with ⟨_, rfl⟩ | ⟨_, rfl, h⟩
  · rfl
  · simp [okSrc, h]
theorem CameL.app {L : List D} {a : D} {src : List (Nat × List D)} {st : Sto} (h : CameL L a src st) (r : Sto) : CameL L a src (st ++ r) := by
  rcases h with ⟨h1, h2⟩ | ⟨h1, h2, h⟩
  · exact .inl ⟨h1, h2⟩
  · exact .inr ⟨h1, h2, slow h r⟩
theorem sim_step {w : Nat} (hw : w ≤ 20) (g : Gt) (hg : okGt w g) (A : Am) (hA : Ak (2 ^ w) A) (c : Nat) (st : Sto) (hc : st[c]? = some (.dk (aK A) (aV A))) (r : Nat) (a i o4 : Option D) :
    stp (gset 4) lb_L_sim_0 (gtD g) [a, i, some (.cell c), some (.int r), o4] st = .ok (.nx, [a, i, some (.cell st.length), some (.int (r + isH g : Nat)), some (gtD g)]) (st ++ [.dk (aK (aft g A)) (aV (aft g A))]) := by
  have h := L_after hw g hg A hA .loan (.inl rfl)
  have gx : oIx (gtD g) (.int 0) = fun st => .ok (.str (gtK g)) st := rfl
  have gb := bH hg
  have gn := gtD_noc g
  generalize gtD g = G at *
  generalize gtK g = K at *
  by_cases e : K = ("H" : Str)
  · rw [if_pos e] at gb
    subst e
    have e1 : ((r + isH g : Nat) : Int) = (r : Int) + 1 := by omega
    rw [e1]
    simp [-getElem?_pos, List.getElem?_cons_zero, stp, lb_L_sim_0, hc, h, gx, gn]
  · rw [if_neg e] at gb
    have e1 : ((r + isH g : Nat) : Int) = (r : Int) := by omega
    have e2 : (K == ("H" : Str)) = false := by rw [beq_eq_false_iff_ne]; exact e
    rw [e1]
    simp [-getElem?_pos, List.getElem?_cons_zero, stp, lb_L_sim_0, hc, h, gx, gn, e, e2]
theorem sim_loop {w : Nat} (hw : w ≤ 20) (L : List D) (a : D) (src : List (Nat × List D)) (i : Option D) : ∀ (gs : List Gt) (A : Am) (c : Nat) (st : Sto) (r : Nat) (o4 : Option D), (∀ g ∈ gs, okGt w g) → Ak (2 ^ w) A → CameL L a src st → st[c]? = some (.dk (aK A) (aV A)) →
    ∃ o4' c' st', floop src (gset 4) lb_L_sim_0 (gs.map gtD) [some a, i, some (.cell c), some (.int r), o4] st = .ok (.nx, [some a, i, some (.cell c'), some (.int (r + rts gs : Nat)), o4']) st' ∧ st'[c']? = some (.dk (aK (sims gs A)) (aV (sims gs A)))
  | [], A, c, st, r, o4, _, hA, hs, hc => ⟨o4, c, st, by simp [hs.okS, rts], hc⟩
  | g :: gs, A, c, st, r, o4, hg, hA, hs, hc => by
    have hgg := hg g (List.mem_cons_self ..)
    have h1 := sim_step hw g hgg A hA c st hc r (some a) i o4
    obtain ⟨o4', c', st', h2, h3⟩ := sim_loop hw L a src i gs (aft g A) st.length (st ++ [.dk (aK (aft g A)) (aV (aft g A))]) (r + isH g) (some (gtD g)) (fun g hg' => hg g (List.mem_cons_of_mem _ hg')) (aft_ak hgg hA) (hs.app _) (by rw [sat0]; rfl)
    refine ⟨o4', c', st', ?_, h3⟩
    rw [List.map_cons, floop_nx hs.okS h1, h2, rts, Nat.add_assoc]
theorem L_sim {w : Nat} (hw : w ≤ 20) (gs : List Gt) (hg : ∀ g ∈ gs, okGt w g) (i : Nat) (hi : i < 2 ^ w) (m : Mk) (hm : m = .loan ∨ m = .own) : s_L_sim [.lst m (gs.map gtD), .int i] = .ok (.tup [.dk .own (aK (sims gs [(i, oneQ)])) (aV (sims gs [(i, oneQ)])), .int (rts gs : Nat)]) [] := by
  have hA := Ak.one hi oneQ
  have ek : aK [(i, oneQ)] = [Sum.inl (i : Int)] := rfl
  have ev : aV [(i, oneQ)] = [.tup [.int 1, .int 0, .int 0, .int 0]] := rfl
  rcases hm with rfl | rfl
  · obtain ⟨o4, c', st', h1, h2⟩ := sim_loop hw (gs.map gtD) (.lst .loan (gs.map gtD)) [] (some (.int i)) gs [(i, oneQ)] 0 [.dk (aK [(i, oneQ)]) (aV [(i, oneQ)])] 0 none hg hA (.inl ⟨rfl, rfl⟩) rfl
    rw [ek, ev, Nat.zero_add] at h1
    simp only [Int.natCast_zero] at h1
    simp [s_L_sim, kput_eq, lsrc, h1, h2]
  · obtain ⟨o4, c', st', h1, h2⟩ := sim_loop hw (gs.map gtD) (.cell 0) [(0, gs.map gtD)] (some (.int i)) gs [(i, oneQ)] 1 [.lst (gs.map gtD), .dk (aK [(i, oneQ)]) (aV [(i, oneQ)])] 0 none hg hA (.inr ⟨rfl, rfl, rfl⟩) rfl
    rw [ek, ev, Nat.zero_add] at h1
    simp only [Int.natCast_zero] at h1
    simp [s_L_sim, kput_eq, lsrc, h1, h2]
theorem root_step {w : Nat} (hw : w ≤ 20) (m : Mk) (hm : m = .frz) (A B : Am) (hB : Ak (2 ^ w) B) (st : Sto) (i : Nat) (hi : i ∈ akey A) (o1 o2 o4 o5 : Option D) :
    stp (gset 4) lb_L_root_1 (.int i) [some (.dk m (aK A) (aV A)), o1, o2, some (.cell st.length), o4, o5] (st ++ [.dk (aK B) (aV B)]) = .ok (.nx, [some (.dk m (aK A) (aV A)), o1, o2, some (.cell st.length), some (.int i), some (qD (aget A i))]) (st ++ [.dk (aK (rtb A B i)) (aV (rtb A B i))]) := by
  have hn : 2 ^ w < 16777216 := Nat.lt_of_le_of_lt (Nat.pow_le_pow_right (by decide) hw) (by decide)
  have hk := kget_in A i hi
  have hp := kput_a B hB.1 i (Rt (aget A i))
  have hf := fit_a hB hn
  unfold rtb
  generalize aput B i (Rt (aget A i)) = C at *
  generalize aget A i = x at *
  have hp' : kput (aK B) (aV B) (Sum.inl (i : Int)) (.tup [.int (x.b - x.d), .int (x.a + x.c), .int (x.b + x.d), .int (x.c - x.a)]) = (aK C, aV C) := hp
  have e1 : qD x = .tup [.int x.a, .int x.b, .int x.c, .int x.d] := rfl
  rw [e1] at hk ⊢
  subst hm
  simp (maxDischargeDepth := 9) [-getElem?_pos, List.getElem?_cons_zero, stp, lb_L_root_1, hk, sat0, sset0, hp', hf]
theorem root_in {w : Nat} (hw : w ≤ 20) (A : Am) (hA : Ak (2 ^ w) A) (st : Sto) (o1 o2 : Option D) : ∀ (L : List Nat) (B : Am), (∀ i ∈ L, i ∈ akey A) → Ak (2 ^ w) B → ∀ (o4 o5 : Option D),
    ∃ o4' o5', floop [] (gset 4) lb_L_root_1 (L.map fun i : Nat => D.int (i : Int)) [some (.dk .frz (aK A) (aV A)), o1, o2, some (.cell st.length), o4, o5] (st ++ [.dk (aK B) (aV B)]) = .ok (.nx, [some (.dk .frz (aK A) (aV A)), o1, o2, some (.cell st.length), o4', o5']) (st ++ [.dk (aK (L.foldl (rtb A) B)) (aV (L.foldl (rtb A) B))])
  | [], B, _, hB, o4, o5 => ⟨o4, o5, by simp⟩
  | i :: L, B, hL, hB, o4, o5 => by
    have hi := hL i (List.mem_cons_self ..)
    have h1 := root_step hw .frz rfl A B hB st i hi o1 o2 o4 o5
    obtain ⟨p4, p5, h2⟩ := root_in hw A hA st o1 o2 L (rtb A B i) (fun j hj => hL j (List.mem_cons_of_mem _ hj)) (hB.put (hA.2 i hi) _) (some (.int i)) (some (qD (aget A i)))
    refine ⟨p4, p5, ?_⟩
    rw [List.map_cons, floop_nx rfl h1, List.foldl_cons]
    exact h2
theorem root_out {w : Nat} (hw : w ≤ 20) (n : Nat) (A : Am) (hA : Ak (2 ^ w) A) (k : Nat) (c : Nat) (st : Sto) (hc : st[c]? = some (.dk (aK A) (aV A))) (o2 o3 o4 o5 : Option D) :
    ∃ c' st' o3' o4' o5', stp (gset 2) lb_L_root_0 (.int k) [some (.cell c), some (.int n), o2, o3, o4, o5] st = .ok (.nx, [some (.cell c'), some (.int n), some (.int k), o3', o4', o5']) st' ∧ st'[c']? = some (.dk (aK (rt1 A)) (aV (rt1 A))) := by
  have hlt := (List.getElem?_eq_some_iff.mp hc).1
  obtain ⟨o4', o5', h1⟩ := root_in hw A hA (st.set c .gone) (some (.int n)) (some (.int k)) (akey A) [] (fun _ h => h) (Ak.nil _) o4 o5
  have e3 : aK [] = [] := rfl
  have e4 : aV [] = [] := rfl
  have e1 : (akey A).foldl (rtb A) [] = rt1 A := rfl
  rw [e1, e3, e4, ← aK_keys, List.length_set] at h1
  have sl : ∀ (r : Sto) (x : Cell), (st ++ r).set c x = st.set c x ++ r := fun r x => List.set_append_left c x hlt
  have hc2 := slow hc [.dk [] []]
  refine ⟨st.length, st.set c .gone ++ [.dk (aK (rt1 A)) (aV (rt1 A))], some (.cell st.length), o4', o5', ?_, ?_⟩
  · simp (maxDischargeDepth := 9) [-getElem?_pos, List.getElem?_cons_zero, stp, lb_L_root_0, hc2, sl, h1]
  · rw [List.getElem?_append_right (by simp)]
    simp
theorem L_root {w : Nat} (hw : w ≤ 20) (n : Nat) (hn : n ≤ 100000) (A : Am) (hA : Ak (2 ^ w) A) : s_L_root [.dk .own (aK A) (aV A), .int n] = .ok (.dk .own (aK (rtn n A)) (aV (rtn n A))) [] := by
  have := floop_rngI (t := gset 2) (b := lb_L_root_0) (lo := 0) (n := n)
    (fun k en st => ∃ c o2 o3 o4 o5, en = [some (.cell c), some (.int n), o2, o3, o4, o5] ∧ st[c]? = some (.dk (aK (rtn k A)) (aV (rtn k A)))) (en := [some (.cell 0), some (.int n), none, none, none, none]) (st := [.dk (aK A) (aV A)]) ⟨0, none, none, none, none, rfl, rfl⟩ ?_
  · obtain ⟨en', st', h1, c, o2, o3, o4, o5, rfl, h2⟩ := this
    have ok : ok62 (n : Int) = true := ok62_small _ (by omega) (by omega)
    simp [s_L_root, ok, h1, h2]
  · rintro k hk en st ⟨c, o2, o3, o4, o5, rfl, hc⟩
    obtain ⟨c', st', o3', o4', o5', h1, h2⟩ := root_out hw n (rtn k A) (rtn_ak hA k) k c st hc o2 o3 o4 o5
    refine ⟨_, st', ?_, c', some (.int k), o3', o4', o5', rfl, h2⟩
    have e : (0 : Int) + (k : Int) = k := by omega
    rw [e]
    exact h1
theorem same_step (A B : Am) (t : Int) (i : Nat) (h : aget A i = Tn (t % 8).toNat (aget B i)) (o0 o1 o5 : Option D) (c d : Nat) (st : Sto) (hc : st[c]? = some (.dk (aK A) (aV A))) (hd : st[d]? = some (.dk (aK B) (aV B))) :
    stp (gset 5) lb_L_same_0 (.int i) [o0, o1, some (.int t), some (.cell c), some (.cell d), o5] st = .ok (.nx, [o0, o1, some (.int t), some (.cell c), some (.cell d), some (.int i)]) st := by
  have h1 := kgetD_a A i
  have h2 := kgetD_a B i
  have ht := L_turn t (aget B i)
  rw [← h] at ht
  generalize aget A i = x at *
  generalize aget B i = y at *
  have n1 := noc_q x
  have n2 := noc_q y
  have ne := qNe x st
  generalize qD x = X at *
  generalize qD y = Y at *
  simp (maxDischargeDepth := 9) [-getElem?_pos, List.getElem?_cons_zero, stp, lb_L_same_0, hc, hd, h1, h2, ht, n1, n2, ne]
theorem same_loop (A B : Am) (t : Int) (h : ∀ i, aget A i = Tn (t % 8).toNat (aget B i)) (o0 o1 : Option D) (c d : Nat) (st : Sto) (hc : st[c]? = some (.dk (aK A) (aV A))) (hd : st[d]? = some (.dk (aK B) (aV B))) (src : List (Nat × List D)) (hs : okSrc src st = true) : ∀ (L : List Nat) (o5 : Option D),
    ∃ o5', floop src (gset 5) lb_L_same_0 (L.map fun i : Nat => D.int (i : Int)) [o0, o1, some (.int t), some (.cell c), some (.cell d), o5] st = .ok (.nx, [o0, o1, some (.int t), some (.cell c), some (.cell d), o5']) st
  | [], o5 => ⟨o5, by simp [hs]⟩
  | i :: L, o5 => by
    obtain ⟨p5, h2⟩ := same_loop A B t h o0 o1 c d st hc hd src hs L (some (.int i))
    refine ⟨p5, ?_⟩
    rw [List.map_cons, floop_nx hs (same_step A B t i (h i) o0 o1 o5 c d st hc hd)]
    exact h2
theorem L_same {w : Nat} (hw : w ≤ 20) (A B : Am) (hA : Ak (2 ^ w) A) (hB : Ak (2 ^ w) B) (r s : Nat) (hr : r ≤ 10000) (hs : s ≤ 10000) (t : Int) (h : ∀ i, Rn (s - r) (aget A i) = Tn (t % 8).toNat (Rn (r - s) (aget B i))) :
    s_L_same [.tup [.dk .own (aK A) (aV A), .int r], .tup [.dk .own (aK B) (aV B), .int s], .int t] = .ok (.bl true) [] := by
  have h1 := L_root hw (s - r) (by omega) A hA
  have h2 := L_root hw (r - s) (by omega) B hB
  have hA2 := rtn_ak hA (s - r)
  have hB2 := rtn_ak hB (r - s)
  have hh : ∀ i, aget (rtn (s - r) A) i = Tn (t % 8).toNat (aget (rtn (r - s) B) i) := fun i => by rw [rtn_sem, rtn_sem]; exact h i
  generalize rtn (s - r) A = A2 at *
  generalize rtn (r - s) B = B2 at *
  have a1 : ∀ (i j : Nat), (if j < i then (i : Int) - (j : Int) else 0) = ((i - j : Nat) : Int) := fun i j => by split <;> omega
  have hn : 2 ^ w < 2 ^ 21 := Nat.pow_lt_pow_right (by decide) (by omega)
  have f1 := hA2.len
  have f2 := hB2.len
  have f3 : fitL ((aK A2).length + (aK B2).length) = true := by rw [aK_len, aK_len]; exact decide_eq_true (by omega)
  have f4 : fitL (A2.length + B2.length) = true := decide_eq_true (by omega)
  have f5 : A2.length + B2.length ≤ 16777216 := by omega
  have e1 : (aK A2).map keyD ++ (aK B2).map keyD = (akey A2 ++ akey B2).map fun i : Nat => D.int (i : Int) := by rw [aK_keys, aK_keys, List.map_append]
  obtain ⟨o5', hl⟩ := same_loop A2 B2 t hh (some (.tup [.cell 0, .int r])) (some (.tup [.cell 1, .int s])) 2 3 [.gone, .gone, .dk (aK A2) (aV A2), .dk (aK B2) (aV B2), .lst ((aK A2).map keyD), .lst ((aK B2).map keyD), .lst ((akey A2 ++ akey B2).map fun i : Nat => D.int (i : Int))] rfl rfl [(6, (akey A2 ++ akey B2).map fun i : Nat => D.int (i : Int))] (by simp [okSrc]) (akey A2 ++ akey B2) none
  rw [← e1] at hl
  simp [s_L_same, h1, h2, a1, aK_len, f5, lsrc, hl]
def isRet : R (Fl × En) → Bool
  | .ok (.rt (.bl true), _) _ => true
  | _ => false
theorem isRet_ex {x : R (Fl × En)} (h : isRet x = true) : ∃ en st, x = .ok (.rt (.bl true), en) st := by
  match x, h with
  | .ok (.rt (.bl true), en) st, _ => exact ⟨en, st, rfl⟩
theorem L_gfits {w : Nat} (g : Gt) (hg : okGt w g) : s_L_gate_fits [gtD g, .int w] = .ok (.bl true) [] := by
  cases g with
  | w => simp [s_L_gate_fits, gtD, gateD, gtK, gtQ, ev_floopS]
  | h q => have hq : q < w := hg; simp [s_L_gate_fits, lb_L_gate_fits_0, gtD, gateD, gtK, gtQ, ev_floopS, l_int, hq]
  | x q => have hq : q < w := hg; simp [s_L_gate_fits, lb_L_gate_fits_0, gtD, gateD, gtK, gtQ, ev_floopS, l_int, hq]
  | y q => have hq : q < w := hg; simp [s_L_gate_fits, lb_L_gate_fits_0, gtD, gateD, gtK, gtQ, ev_floopS, l_int, hq]
  | p k q =>
    obtain ⟨hk, hq⟩ := hg
    have kk : k = 0 ∨ k = 1 ∨ k = 2 ∨ k = 3 ∨ k = 4 := by omega
    rcases kk with rfl | rfl | rfl | rfl | rfl <;> simp [s_L_gate_fits, lb_L_gate_fits_0, gtD, gateD, gtK, gtQ, pK, ev_floopS, l_int, hq]
  | cx a b =>
    obtain ⟨ha, hb, hab⟩ := hg
    have h2 : ¬ (a : Int) = (b : Int) := by omega
    simp [s_L_gate_fits, lb_L_gate_fits_0, gtD, gateD, gtK, gtQ, ev_floopS, l_int, ha, hb, h2, hab]
  | cz a b =>
    obtain ⟨ha, hb, hab⟩ := hg
    have h2 : ¬ (a : Int) = (b : Int) := by omega
    simp [s_L_gate_fits, lb_L_gate_fits_0, gtD, gateD, gtK, gtQ, ev_floopS, l_int, ha, hb, h2, hab]
  | sw a b =>
    obtain ⟨ha, hb, hab⟩ := hg
    have h2 : ¬ (a : Int) = (b : Int) := by omega
    simp [s_L_gate_fits, lb_L_gate_fits_0, gtD, gateD, gtK, gtQ, ev_floopS, l_int, ha, hb, h2, hab]
theorem lfits_loop {w : Nat} (o0 : Option D) (src : List (Nat × List D)) (st : Sto) (hs : okSrc src st = true) : ∀ (gs : List Gt) (o2 : Option D), (∀ g ∈ gs, okGt w g) →
    ∃ o2', floop src (gset 2) lb_L_list_fits_0 (gs.map gtD) [o0, some (.int w), o2] st = .ok (.nx, [o0, some (.int w), o2']) st
  | [], o2, _ => ⟨o2, by simp [hs]⟩
  | g :: gs, o2, hg => by
    obtain ⟨o2', h2⟩ := lfits_loop o0 src st hs gs (some (gtD g)) (fun g hg' => hg g (List.mem_cons_of_mem _ hg'))
    refine ⟨o2', ?_⟩
    have hf := L_gfits g (hg g (List.mem_cons_self ..))
    have gn := gtD_noc g
    have h1 : stp (gset 2) lb_L_list_fits_0 (gtD g) [o0, some (.int w), o2] st = .ok (.nx, [o0, some (.int w), some (gtD g)]) st := by
      generalize gtD g = G at *
      simp [stp, lb_L_list_fits_0, hf, gn]
    rw [List.map_cons, floop_nx hs h1, h2]
theorem L_lfits {w : Nat} (gs : List Gt) (hg : ∀ g ∈ gs, okGt w g) : s_L_list_fits [.lst .loan (gs.map gtD), .int w] = .ok (.bl true) [] := by
  obtain ⟨o2, h⟩ := lfits_loop (some (.lst .loan (gs.map gtD))) [] [] rfl gs none hg
  simp [s_L_list_fits, lsrc, h]
theorem add4 (a b c d : Qr) : addQ (addQ a b) (addQ c d) = addQ (addQ a c) (addQ b d) := by
  rw [add_a, add_a, ← add_a b c d, add_c b c, add_a c b d]
theorem Ug_add (g : Gt) (F G : Nat → Qr) : Ug g (fun j => addQ (F j) (G j)) = fun j => addQ (Ug g F j) (Ug g G j) := by
  funext j
  cases g with
  | h q =>
    show addQ (addQ (F (lo q j)) (G (lo q j))) (Tn (4 * bt j q) (addQ (F (lo q j + 2 ^ q)) (G (lo q j + 2 ^ q)))) = addQ (addQ (F (lo q j)) (Tn (4 * bt j q) (F (lo q j + 2 ^ q)))) (addQ (G (lo q j)) (Tn (4 * bt j q) (G (lo q j + 2 ^ q))))
    rw [Tn_addQ, add4]
  | _ => exact Tn_addQ _ _ _
theorem Us_add : ∀ (gs : List Gt) (F G : Nat → Qr), Us gs (fun j => addQ (F j) (G j)) = fun j => addQ (Us gs F j) (Us gs G j)
  | [], _, _ => rfl
  | g :: gs, F, G => by rw [Us, Ug_add, Us_add gs]; rfl
theorem b01 (n q : Nat) : bt n q = 0 ∨ bt n q = 1 := by have := bt_lt n q; omega
def PSm : List Gt → Nat → Nat → Nat → Qr
  | [], i, p, j => if i = j then Tn p oneQ else Qr.z
  | .h q :: gs, i, p, j => addQ (PSm gs (lo q i) p j) (PSm gs (lo q i + 2 ^ q) (p + 4 * bt i q) j)
  | g :: gs, i, p, j => PSm gs (mv g i).1 (p + (mv g i).2) j
theorem PSm_h (q : Nat) (gs : List Gt) (i p j : Nat) : PSm (.h q :: gs) i p j = addQ (PSm gs (lo q i) p j) (PSm gs (lo q i + 2 ^ q) (p + 4 * bt i q) j) := rfl
theorem PSm_n {g : Gt} (nh : ∀ q, g ≠ .h q) (gs : List Gt) (i p j : Nat) : PSm (g :: gs) i p j = PSm gs (mv g i).1 (p + (mv g i).2) j := by
  cases g with
  | h q => exact (nh q rfl).elim
  | _ => rfl
theorem one_get (i : Nat) (x : Qr) (j : Nat) : aget [(i, x)] j = if i = j then x else Qr.z := rfl
theorem Ug_one_mv {w : Nat} {g : Gt} (hg : okGt w g) (nh : ∀ q, g ≠ .h q) (i : Nat) (x : Qr) : Ug g (aget [(i, x)]) = aget [((mv g i).1, Tn (mv g i).2 x)] := by
  funext j
  rw [Ug_mv nh, one_get, one_get]
  have iv := mv_inv w g hg
  by_cases e : (mv g i).1 = j
  · have e2 : i = (mv g j).1 := by rw [← e, iv]
    rw [if_pos e2, if_pos e, ← e2]
  · have e2 : ¬ i = (mv g j).1 := fun z => e (by rw [z, iv])
    rw [if_neg e2, if_neg e, Tn_zz]
theorem Ug_one_h (q i : Nat) (x : Qr) : Ug (.h q) (aget [(i, x)]) = fun j => addQ (aget [(lo q i, x)] j) (aget [(lo q i + 2 ^ q, Tn (4 * bt i q) x)] j) := by
  funext j
  have pp := Nat.two_pow_pos q
  rcases b01 j q with bj | bj
  · rw [Ug_h0 _ _ _ bj, one_get, one_get, one_get, one_get]
    have lj := lo_0 bj
    have n2 : ¬ lo q i + 2 ^ q = j := fun z => by have := bt_hi q i; rw [z, bj] at this; omega
    rw [if_neg n2, add_z]
    rcases b01 i q with bi | bi
    · rw [lo_0 bi]
      have n3 : ¬ i = j + 2 ^ q := fun z => by have := bt_hi q j; rw [lj, ← z, bi] at this; omega
      rw [if_neg n3, add_z]
    · have n3 : ¬ i = j := fun z => by rw [z, bj] at bi; omega
      rw [if_neg n3, z_add]
      have li := lo_1 bi
      by_cases e : i = j + 2 ^ q
      · rw [if_pos e, if_pos (by omega)]
      · rw [if_neg e, if_neg (by omega)]
  · rw [Ug_h1 _ _ _ bj, one_get, one_get, one_get, one_get]
    have lj := lo_1 bj
    have n2 : ¬ lo q i = j := fun z => by have := bt_lo q i; rw [z, bj] at this; omega
    rw [if_neg n2, z_add]
    rcases b01 i q with bi | bi
    · rw [lo_0 bi, bi]
      have n3 : ¬ i = j := fun z => by rw [z, bj] at bi; omega
      rw [if_neg n3, Tn_zz, add_z]
      by_cases e : i = lo q j
      · rw [if_pos e, if_pos (by omega)]; rfl
      · rw [if_neg e, if_neg (by omega)]
    · have li := lo_1 bi
      rw [bi]
      have n3 : ¬ i = lo q j := fun z => by have := bt_lo q j; rw [← z, bi] at this; omega
      rw [if_neg n3, z_add]
      by_cases e : i = j
      · rw [if_pos e, if_pos (by rw [← e]; exact li)]
      · rw [if_neg e, if_neg (fun z => e (by omega)), Tn_zz]
theorem Us_PSm {w : Nat} : ∀ (gs : List Gt) (i p j : Nat), (∀ g ∈ gs, okGt w g) → Us gs (aget [(i, Tn p oneQ)]) j = PSm gs i p j
  | [], i, p, j, _ => rfl
  | g :: gs, i, p, j, hg => by
    have hgg := hg g (List.mem_cons_self ..)
    have ht := fun x hx => hg x (List.mem_cons_of_mem _ hx)
    by_cases nh : ∀ q, g ≠ .h q
    · rw [PSm_n nh, Us, Ug_one_mv hgg nh, Tn_Tn, Us_PSm gs _ _ j ht]
    · obtain ⟨q, rfl⟩ : ∃ q, g = .h q := by
        cases g with
        | h q => exact ⟨q, rfl⟩
        | _ => exact absurd (by intro q; simp) nh
      rw [PSm_h, Us, Ug_one_h, Us_add, Tn_Tn]
      show addQ (Us gs _ j) (Us gs _ j) = _
      rw [Us_PSm gs _ _ j ht, Us_PSm gs _ _ j ht]
def cczG (a b c : Nat) : List Gt := [.p 3 a, .p 3 b, .p 3 c, .cx a b, .p 4 b, .cx a b, .cx b c, .p 4 c, .cx a c, .p 3 c, .cx b c, .p 4 c, .cx a c]
def ccxG (a b c : Nat) : List Gt := .h c :: cczG a b c ++ [.h c]
def macG (k a b c : Nat) : List Gt := match k with
  | 0 => [.p 3 a, .p 3 b, .cx a b, .p 4 b, .cx a b]
  | 1 => [.p 4 a, .p 4 b, .cx a b, .p 3 b, .cx a b]
  | 2 => cczG a b c
  | 3 => ccxG a b c
  | _ => .cx c b :: ccxG a b c ++ [.cx c b]
def dueP (k a b c i : Nat) : Nat × Nat := match k with
  | 0 => (i, 2 * bt i a * bt i b)
  | 1 => (i, 6 * bt i a * bt i b)
  | 2 => (i, 4 * bt i a * bt i b * bt i c)
  | 3 => (i ^^^ (bt i a * bt i b * 2 ^ c), 0)
  | _ => (i ^^^ (bt i a * (bt i b ^^^ bt i c) * 2 ^ b) ^^^ (bt i a * (bt i b ^^^ bt i c) * 2 ^ c), 0)
def brs : List Gt → Nat → Nat → List (Nat × Nat)
  | [], i, p => [(i, p % 8)]
  | .h q :: gs, i, p => brs gs (lo q i) p ++ brs gs (lo q i + 2 ^ q) (p + 4 * bt i q)
  | g :: gs, i, p => brs gs (mv g i).1 (p + (mv g i).2)
def sumB : List (Nat × Nat) → Nat → Qr
  | [], _ => Qr.z
  | x :: L, j => addQ (if x.1 = j then Tn x.2 oneQ else Qr.z) (sumB L j)
theorem sumB_app : ∀ (L M : List (Nat × Nat)) (j : Nat), sumB (L ++ M) j = addQ (sumB L j) (sumB M j)
  | [], M, j => by rw [sumB, z_add]; rfl
  | x :: L, M, j => by rw [List.cons_append, sumB, sumB, sumB_app L M, add_a]
theorem PSm_brs : ∀ (gs : List Gt) (i p j : Nat), PSm gs i p j = sumB (brs gs i p) j
  | [], i, p, j => by
    show (if i = j then Tn p oneQ else Qr.z) = addQ (if i = j then Tn (p % 8) oneQ else Qr.z) Qr.z
    rw [add_z, Tn_mod]
  | g :: gs, i, p, j => by
    by_cases nh : ∀ q, g ≠ .h q
    · have e : brs (g :: gs) i p = brs gs (mv g i).1 (p + (mv g i).2) := by
        cases g with
        | h q => exact (nh q rfl).elim
        | _ => rfl
      rw [PSm_n nh, e, PSm_brs gs]
    · obtain ⟨q, rfl⟩ : ∃ q, g = .h q := by
        cases g with
        | h q => exact ⟨q, rfl⟩
        | _ => exact absurd (by intro q; simp) nh
      rw [PSm_h, brs, sumB_app, PSm_brs gs, PSm_brs gs]
def chkB (j : Nat) : List (Nat × Nat) → Bool
  | [(u, s), (v, t), (u', s'), (v', t')] => Nat.beq u u' && Nat.beq v v' && !Nat.beq u v && ((Nat.beq u j && Nat.beq s 0 && Nat.beq s' 0 && Nat.beq t' ((t + 4) % 8)) || (Nat.beq v j && Nat.beq t 0 && Nat.beq t' 0 && Nat.beq s' ((s + 4) % 8)))
  | _ => false
def macT (k a b c i : Nat) : Bool := match k with
  | 0 | 1 | 2 => match brs (macG k a b c) i 0 with
    | [(u, s)] => Nat.beq u (dueP k a b c i).1 && Nat.beq s ((dueP k a b c i).2 % 8)
    | _ => false
  | _ => chkB (dueP k a b c i).1 (brs (macG k a b c) i 0)
def allN (n : Nat) (f : Nat → Bool) : Bool := match n with
  | 0 => true
  | n + 1 => f n && allN n f
def macA (k : Nat) : Bool := allN 5 fun a => allN 5 fun b => allN 5 fun c => (Nat.beq a b || Nat.beq a c || Nat.beq b c) || allN 32 fun i => macT k a b c i
theorem mac0 : macA 0 = true := by decide +kernel
theorem mac2 : macA 2 = true := by decide +kernel
theorem mac1 : macA 1 = true := by decide +kernel
theorem mac3 : macA 3 = true := by decide +kernel
theorem mac4 : macA 4 = true := by decide +kernel
theorem nbt {a b : Nat} : Nat.beq a b = true ↔ a = b := by rw [Nat.beq_eq]
theorem nbf {a b : Nat} : Nat.beq a b = false ↔ ¬ a = b := by rw [← nbt]; cases Nat.beq a b <;> simp
theorem allN_ok : ∀ {n : Nat} {f : Nat → Bool}, allN n f = true → ∀ i, i < n → f i = true
  | 0, _, _, i, h => by omega
  | n + 1, f, h, i, hi => by
    unfold allN at h
    rw [Bool.and_eq_true] at h
    by_cases e : i = n
    · subst e; exact h.1
    · exact allN_ok h.2 i (by omega)
theorem opp_sum (t : Nat) : addQ (Tn t oneQ) (Tn ((t + 4) % 8) oneQ) = Qr.z := by
  have e : (t + 4) % 8 = (t % 8 + 4) % 8 := by omega
  rw [← Tn_mod t, e]
  have h : t % 8 < 8 := Nat.mod_lt _ (by decide)
  generalize t % 8 = r at *
  have c : r = 0 ∨ r = 1 ∨ r = 2 ∨ r = 3 ∨ r = 4 ∨ r = 5 ∨ r = 6 ∨ r = 7 := by omega
  rcases c with rfl | rfl | rfl | rfl | rfl | rfl | rfl | rfl <;> rfl
theorem opp_sum2 (t : Nat) : addQ (Tn ((t + 4) % 8) oneQ) (Tn t oneQ) = Qr.z := by rw [add_c, opp_sum]
theorem chkB_ok {j : Nat} {L : List (Nat × Nat)} (h : chkB j L = true) (x : Nat) : sumB L x = Rn 2 (aget [(j, oneQ)] x) := by
  unfold chkB at h
  split at h
  · rename_i u s v t u' s' v' t'
    simp only [Bool.and_eq_true, Bool.or_eq_true, nbt, Bool.not_eq_true', nbf] at h
    obtain ⟨⟨⟨rfl, rfl⟩, uv⟩, h⟩ := h
    have uv : ¬ u = v := uv
    simp only [sumB]
    show _ = Rn 2 (if j = x then oneQ else Qr.z)
    rcases h with ⟨⟨⟨rfl, rfl⟩, rfl⟩, rfl⟩ | ⟨⟨⟨rfl, rfl⟩, rfl⟩, rfl⟩
    · by_cases e1 : u = x
      · subst e1
        have e2 : ¬ v = u := fun z => uv z.symm
        simp only [if_true, if_neg e2, z_add, add_z]
        rfl
      · by_cases e2 : v = x
        · subst e2
          simp only [if_true, if_neg e1, z_add, add_z]
          rw [opp_sum]
          rfl
        · simp only [if_neg e1, if_neg e2, z_add, add_z]
          rfl
    · by_cases e2 : v = x
      · subst e2
        simp only [if_true, if_neg uv, z_add, add_z]
        rfl
      · by_cases e1 : u = x
        · subst e1
          simp only [if_true, if_neg e2, z_add, add_z]
          rw [opp_sum]
          rfl
        · simp only [if_neg e1, if_neg e2, z_add, add_z]
          rfl
  · cases h
theorem mac_ok {w k a b c i : Nat} (hk : k < 5) (ha : a < 5) (hb : b < 5) (hc : c < 5) (ab : a ≠ b) (ac : a ≠ c) (bc : b ≠ c) (hi : i < 32) (hg : ∀ g ∈ macG k a b c, okGt w g) (j : Nat) :
    Us (macG k a b c) (aget [(i, oneQ)]) j = Rn (rts (macG k a b c)) (Tn ((dueP k a b c i).2 % 8) (aget [((dueP k a b c i).1, oneQ)] j)) := by
  have hA : macA k = true := by
    have q : k = 0 ∨ k = 1 ∨ k = 2 ∨ k = 3 ∨ k = 4 := by omega
    rcases q with rfl | rfl | rfl | rfl | rfl
    · exact mac0
    · exact mac1
    · exact mac2
    · exact mac3
    · exact mac4
  have h1 := allN_ok (allN_ok (allN_ok hA a ha) b hb) c hc
  have e : (Nat.beq a b || Nat.beq a c || Nat.beq b c) = false := by
    rw [Bool.or_eq_false_iff, Bool.or_eq_false_iff]
    exact ⟨⟨nbf.mpr ab, nbf.mpr ac⟩, nbf.mpr bc⟩
  rw [e, Bool.false_or] at h1
  have h2 := allN_ok h1 i hi
  have u := Us_PSm (macG k a b c) i 0 j hg
  have u0 : Tn 0 oneQ = oneQ := rfl
  rw [u0] at u
  rw [u, PSm_brs]
  have q : (k = 0 ∨ k = 1 ∨ k = 2) ∨ (k = 3 ∨ k = 4) := by omega
  rcases q with q | q
  · have h3 : (match brs (macG k a b c) i 0 with | [(u, s)] => Nat.beq u (dueP k a b c i).1 && Nat.beq s ((dueP k a b c i).2 % 8) | _ => false) = true := by
      rcases q with rfl | rfl | rfl <;> exact h2
    have r0 : rts (macG k a b c) = 0 := by rcases q with rfl | rfl | rfl <;> rfl
    rw [r0]
    split at h3
    · rename_i u' s he
      rw [Bool.and_eq_true, nbt, nbt] at h3
      obtain ⟨e1, e2⟩ := h3
      rw [he, e1, e2]
      show addQ (if _ = j then _ else Qr.z) Qr.z = Tn _ (if _ = j then oneQ else Qr.z)
      rw [add_z]
      split
      · rfl
      · rw [Tn_zz]
    · cases h3
  · have h3 : chkB (dueP k a b c i).1 (brs (macG k a b c) i 0) = true := by rcases q with rfl | rfl <;> exact h2
    have r2 : rts (macG k a b c) = 2 := by rcases q with rfl | rfl <;> rfl
    have t0 : (dueP k a b c i).2 = 0 := by rcases q with rfl | rfl <;> rfl
    rw [chkB_ok h3, r2, t0]
    rfl
def nmK (p : Nat) : Str := match p with
  | 0 => ("CS" : Str)
  | 1 => ("CSDG" : Str)
  | 2 => ("CCZ" : Str)
  | 3 => ("CCX" : Str)
  | 4 => ("CSWAP" : Str)
  | 5 => ("CX" : Str)
  | 6 => ("W" : Str)
  | _ => ("cs" : Str)
def szK (p : Nat) : Int := match p with
  | 0 => 2
  | 1 => 2
  | 2 => 3
  | 3 => 3
  | 4 => 3
  | _ => -1
theorem min_ge {L : List Int} (h : L ≠ []) : (0 ≤ minL L) ↔ ∀ q ∈ L, 0 ≤ q := by
  obtain ⟨h1, h2⟩ := minL_ok h
  exact ⟨fun z q hq => Int.le_trans z (h2 q hq), fun z => z _ h1⟩
theorem dcnt_le : ∀ L : List Int, dcnt L ≤ L.length
  | [] => Nat.le_refl _
  | x :: L => by
    have := dcnt_le L
    rw [dcnt, List.length_cons]
    split <;> omega
theorem dcnt_nd : ∀ L : List Int, dcnt L = L.length ↔ L.Nodup
  | [] => by simp [dcnt]
  | x :: L => by
    have h1 := dcnt_nd L
    have h2 := dcnt_le L
    rw [dcnt, List.length_cons, List.nodup_cons]
    by_cases c : x ∈ L
    · rw [if_pos c]
      exact ⟨fun z => by omega, fun z => (z.1 c).elim⟩
    · rw [if_neg c]
      exact ⟨fun z => ⟨c, h1.mp (by omega)⟩, fun z => by rw [h1.mpr z.2]⟩
def goodM (p : Nat) (qs : List Int) : Prop := (qs.length : Int) = szK p ∧ (∀ q ∈ qs, 0 ≤ q) ∧ qs.Nodup
theorem isMac (p : Nat) (hp : p < 8) (qs : List Int) (hl : qs.length ≤ 10) : ∃ b : Bool, (b = true ↔ goodM p qs) ∧ s_is_macro [.str (nmK p), .tup (qs.map D.int)] = .ok (.bl b) [] := by
  have ll : (qs.map D.int).length = qs.length := by simp
  have fl : fitL qs.length = true := decide_eq_true (by omega)
  have k0 : kv_MACRO_SIZES.lookup ("CS" : Str) = some (.int 2) := rfl
  have k1 : kv_MACRO_SIZES.lookup ("CSDG" : Str) = some (.int 2) := rfl
  have k2 : kv_MACRO_SIZES.lookup ("CCZ" : Str) = some (.int 3) := rfl
  have k3 : kv_MACRO_SIZES.lookup ("CCX" : Str) = some (.int 3) := rfl
  have k4 : kv_MACRO_SIZES.lookup ("CSWAP" : Str) = some (.int 3) := rfl
  have hm : cv_MACROS = .tup [.str ("CS" : Str), .str ("CSDG" : Str), .str ("CCZ" : Str), .str ("CCX" : Str), .str ("CSWAP" : Str)] := rfl
  have io : intsOf (qs.map D.int) = some qs := by simp
  have no_ : szK p = -1 → ¬ goodM p qs := fun h1 z => by
    have := z.1
    omega
  have l3 : qs.length ≤ 1000 := by omega
  have nq : nocL (qs.map D.int) = true := by simp
  have go : ∀ n : Nat, szK p = n → 0 < n → (goodM p qs ↔ (qs.length = n ∧ 0 ≤ minL qs ∧ dcnt qs = qs.length)) := fun n h1 h2 => by
    unfold goodM
    rw [h1, dcnt_nd]
    constructor
    · rintro ⟨a, b, c⟩
      have ne : qs ≠ [] := fun e => by subst e; simp at a; omega
      exact ⟨by omega, (min_ge ne).mpr b, c⟩
    · rintro ⟨a, b, c⟩
      have ne : qs ≠ [] := fun e => by subst e; simp at a; omega
      exact ⟨by omega, (min_ge ne).mp b, c⟩
  have some_ : ∀ n : Nat, (n = 2 ∨ n = 3) → szK p = n → kv_MACRO_SIZES.lookup (nmK p) = some (.int n) → oNotIn (.str (nmK p)) cv_MACROS [] = .ok (.bl false) [] → ∃ b : Bool, (b = true ↔ goodM p qs) ∧ s_is_macro [.str (nmK p), .tup (qs.map D.int)] = .ok (.bl b) [] := fun n hn h1 h2 h3 => by
    have g := go n h1 (by omega)
    refine ⟨decide (qs.length = n ∧ 0 ≤ minL qs ∧ dcnt qs = qs.length), by rw [decide_eq_true_iff]; exact g.symm, ?_⟩
    have ie : qs.length = n → qs.isEmpty = false := fun e => by cases qs with | nil => simp at e; omega | cons a b => rfl
    have ev : ∀ st, bMinT [.tup (qs.map D.int)] st = if qs.isEmpty then .bad else .ok (.int (minL qs)) st := fun st => by rw [ev_minT, io]
    generalize qs.map D.int = QS at *
    generalize nmK p = K at *
    generalize minL qs = m at *
    generalize hd : dcnt qs = dd at *
    generalize qs.isEmpty = em at *
    generalize hn' : qs.length = l at *
    clear go g no_
    by_cases c : l = n
    · subst c
      have := ie rfl
      subst this
      by_cases m0 : 0 ≤ m
      · by_cases d0 : dd = l
        · have d0' : (dd : Int) = (l : Int) := by omega
          simp [s_is_macro, nq, -ev_nin, -ev_minT, h2, h3, ll, fl, io, l3, ev, m0, d0, d0', hd, hn']
        · have d0' : ¬ (dd : Int) = (l : Int) := by omega
          simp [s_is_macro, nq, -ev_nin, -ev_minT, h2, h3, ll, fl, io, l3, ev, m0, d0, d0', hd, hn']
      · simp [s_is_macro, nq, -ev_nin, -ev_minT, h2, h3, ll, fl, io, l3, ev, m0, hd, hn']
    · have c' : ¬ (l : Int) = n := by omega
      simp [s_is_macro, nq, -ev_nin, -ev_minT, h2, h3, ll, fl, io, l3, c, c']
  have none_ : szK p = -1 → oNotIn (.str (nmK p)) cv_MACROS [] = .ok (.bl true) [] → ∃ b : Bool, (b = true ↔ goodM p qs) ∧ s_is_macro [.str (nmK p), .tup (qs.map D.int)] = .ok (.bl b) [] := fun h1 h3 => by
    refine ⟨false, ⟨fun z => (by cases z), fun z => (no_ h1 z).elim⟩, ?_⟩
    generalize qs.map D.int = QS at *
    generalize nmK p = K at *
    simp [s_is_macro, nq, -ev_nin, h3]
  have pc : p = 0 ∨ p = 1 ∨ p = 2 ∨ p = 3 ∨ p = 4 ∨ p = 5 ∨ p = 6 ∨ p = 7 := by omega
  rcases pc with rfl | rfl | rfl | rfl | rfl | rfl | rfl | rfl
  · exact some_ 2 (.inl rfl) rfl rfl (by simp [nmK, hm])
  · exact some_ 2 (.inl rfl) rfl rfl (by simp [nmK, hm])
  · exact some_ 3 (.inr rfl) rfl rfl (by simp [nmK, hm])
  · exact some_ 3 (.inr rfl) rfl rfl (by simp [nmK, hm])
  · exact some_ 3 (.inr rfl) rfl rfl (by simp [nmK, hm])
  · exact none_ rfl (by simp [nmK, hm])
  · exact none_ rfl (by simp [nmK, hm])
  · exact none_ rfl (by simp [nmK, hm])
theorem e_ccz (a b c : Nat) : s_ccz_gates [.int a, .int b, .int c] = .ok (.lst .own ((cczG a b c).map gtD)) [] := by
  simp [s_ccz_gates, cczG, gtD, gateD, gtK, gtQ, pK]
theorem cczG_noc (a b c : Nat) : nocL ((cczG a b c).map gtD) = true := gts_noc _
theorem e_ccx (a b c : Nat) : s_ccx_gates [.int a, .int b, .int c] = .ok (.lst .own ((ccxG a b c).map gtD)) [] := by
  have e := e_ccz a b c
  have n := gts_noc (cczG a b c)
  have pl := gts_pl (ccxG a b c)
  have ll : ((cczG a b c).map gtD).length = 13 := rfl
  have es : (ccxG a b c).map gtD = [.tup [.str ("H" : Str), .tup [.int c]]] ++ (cczG a b c).map gtD ++ [.tup [.str ("H" : Str), .tup [.int c]]] := by
    unfold ccxG
    rw [List.map_append, List.map_cons]; rfl
  rw [es] at pl ⊢
  have f1 : fitL 14 = true := by decide
  have f2 : fitL 15 = true := by decide
  generalize (cczG a b c).map gtD = CZ at *
  simp at pl
  simp [-getElem?_pos, List.getElem?_cons_zero, List.getElem?_cons_succ, s_ccx_gates, e, n, ll, f1, f2, give, imp, pl]
theorem mac_noc (k a b c : Nat) : nocL ((macG k a b c).map gtD) = true := gts_noc _
theorem macro_no (p : Nat) (hp : p < 8) (qs : List Int) (hl : qs.length ≤ 10) (h : ¬ goodM p qs) : s_macro_gates [.str (nmK p), .tup (qs.map D.int)] = .exc 1 [] [] := by
  obtain ⟨b, hb, e⟩ := isMac p hp qs hl
  have : b = false := by cases b with | false => rfl | true => exact (h (hb.mp rfl)).elim
  subst this
  have nq : nocL (qs.map D.int) = true := by simp
  generalize nmK p = K at *
  generalize qs.map D.int = QS at *
  simp [s_macro_gates, nq, e, finX]
theorem macro_two (p : Nat) (hp : p < 2) (a b c : Nat) (ab : a ≠ b) : s_macro_gates [.str (nmK p), .tup [.int a, .int b]] = .ok (.lst .own ((macG p a b c).map gtD)) [] := by
  obtain ⟨r, hb, e⟩ := isMac p (by omega) [(a : Int), (b : Int)] (by simp)
  have sz : szK p = 2 := by rcases (by omega : p = 0 ∨ p = 1) with rfl | rfl <;> rfl
  have : r = true := hb.mpr ⟨by rw [sz]; rfl, fun q hq => by simp at hq; omega, by simp; omega⟩
  subst this
  simp only [List.map_cons, List.map_nil] at e
  rcases (by omega : p = 0 ∨ p = 1) with rfl | rfl
  · simp [nmK] at e
    simp [s_macro_gates, nmK, e, macG, gtD, gateD, gtK, gtQ, pK]
  · simp [nmK] at e
    simp [s_macro_gates, nmK, e, macG, gtD, gateD, gtK, gtQ, pK]
theorem macro_three (p : Nat) (hp : 2 ≤ p) (hp5 : p < 5) (a b c : Nat) (ab : a ≠ b) (ac : a ≠ c) (bc : b ≠ c) : s_macro_gates [.str (nmK p), .tup [.int a, .int b, .int c]] = .ok (.lst .own ((macG p a b c).map gtD)) [] := by
  obtain ⟨r, hb, e⟩ := isMac p (by omega) [(a : Int), (b : Int), (c : Int)] (by simp)
  have pc : p = 2 ∨ p = 3 ∨ p = 4 := by omega
  have sz : szK p = 3 := by rcases pc with rfl | rfl | rfl <;> rfl
  have : r = true := hb.mpr ⟨by rw [sz]; rfl, fun q hq => by simp at hq; omega, by simp; omega⟩
  subst this
  simp only [List.map_cons, List.map_nil] at e
  have e1 := e_ccz a b c
  have e2 := e_ccx a b c
  have n1 := gts_noc (cczG a b c)
  have n2 := gts_noc (ccxG a b c)
  have p1 := gts_pl (cczG a b c)
  have p2 := gts_pl (ccxG a b c)
  rcases pc with rfl | rfl | rfl
  · simp [nmK] at e
    show _ = RF.ok (.lst .own ((cczG a b c).map gtD)) []
    generalize (cczG a b c).map gtD = CZ at *
    simp [s_macro_gates, nmK, e, e1, n1, p1, give, imp]
  · simp [nmK] at e
    show _ = RF.ok (.lst .own ((ccxG a b c).map gtD)) []
    generalize (ccxG a b c).map gtD = CZ at *
    simp [s_macro_gates, nmK, e, e2, n2, p2, give, imp]
  · simp [nmK] at e
    have es : (macG 4 a b c).map gtD = [.tup [.str ("CX" : Str), .tup [.int c, .int b]]] ++ (ccxG a b c).map gtD ++ [.tup [.str ("CX" : Str), .tup [.int c, .int b]]] := by
      show (Gt.cx c b :: ccxG a b c ++ [Gt.cx c b]).map gtD = _
      rw [List.map_append, List.map_cons]; rfl
    have pl := gts_pl (macG 4 a b c)
    have ll : ((ccxG a b c).map gtD).length = 15 := rfl
    have f1 : fitL 16 = true := by decide
    have f2 : fitL 17 = true := by decide
    rw [es] at pl ⊢
    generalize (ccxG a b c).map gtD = CZ at *
    simp at pl
    simp [-getElem?_pos, List.getElem?_cons_zero, List.getElem?_cons_succ, s_macro_gates, nmK, e, e2, n2, ll, f1, f2, give, imp, pl]
theorem om_small (x y : Int) (hx : -100 ≤ x) (hx2 : x ≤ 100) (hy : -100 ≤ y) (hy2 : y ≤ 100) : okMul x y = true := okMul_l x y (by omega) (by omega)
theorem bitq (i q : Nat) : Builtin.bitAnd ((i : Int) / 2 ^ q) 1 = (bt i q : Nat) := bit_nat i q
theorem due_two (p : Nat) (hp : p < 2) (a b c ix : Nat) (ha : a < 5) (hb : b < 5) : s_L_due [.str (nmK p), .lst .loan [.int a, .int b], .int ix] = .ok (.tup [.int ((dueP p a b c ix).1 : Nat), .int ((dueP p a b c ix).2 : Nat)]) [] := by
  have ba := bitq ix a
  have bb := bitq ix b
  have la := bt_lt ix a
  have lb := bt_lt ix b
  rcases (by omega : p = 0 ∨ p = 1) with rfl | rfl
  · show _ = RF.ok (.tup [.int (ix : Nat), .int ((2 * bt ix a * bt ix b : Nat) : Int)]) []
    generalize bt ix a = A at *
    generalize bt ix b = B at *
    have m1 := om_small (2 * A) B (by omega) (by omega) (by omega) (by omega)
    simp [s_L_due, nmK, ba, bb, m1]
  · show _ = RF.ok (.tup [.int (ix : Nat), .int ((6 * bt ix a * bt ix b : Nat) : Int)]) []
    generalize bt ix a = A at *
    generalize bt ix b = B at *
    have m1 := om_small (6 * A) B (by omega) (by omega) (by omega) (by omega)
    simp [s_L_due, nmK, ba, bb, m1]
theorem due_three (p : Nat) (hp : 2 ≤ p) (hp5 : p < 5) (a b c ix : Nat) (ha : a < 5) (hb : b < 5) (hc : c < 5) : s_L_due [.str (nmK p), .lst .loan [.int a, .int b, .int c], .int ix] = .ok (.tup [.int ((dueP p a b c ix).1 : Nat), .int ((dueP p a b c ix).2 : Nat)]) [] := by
  have ba := bitq ix a
  have bb := bitq ix b
  have bc := bitq ix c
  have la := bt_lt ix a
  have lb := bt_lt ix b
  have lc := bt_lt ix c
  rcases (by omega : p = 2 ∨ p = 3 ∨ p = 4) with rfl | rfl | rfl
  · show _ = RF.ok (.tup [.int (ix : Nat), .int ((4 * bt ix a * bt ix b * bt ix c : Nat) : Int)]) []
    generalize bt ix a = A at *
    generalize bt ix b = B at *
    generalize bt ix c = C at *
    have m1 := om_small (4 * A) B (by omega) (by omega) (by omega) (by omega)
    have m2 : okMul (4 * (A : Int) * (B : Int)) C = true := by
      have : A * B ≤ 1 * 1 := Nat.mul_le_mul (by omega) (by omega)
      have e : 4 * (A : Int) * (B : Int) = ((4 * (A * B) : Nat) : Int) := by rw [Int.natCast_mul, Int.natCast_mul, Int.mul_assoc]; rfl
      rw [e]
      exact om_small _ _ (by omega) (by omega) (by omega) (by omega)
    simp [s_L_due, nmK, ba, bb, bc, m1, m2]
  · show _ = RF.ok (.tup [.int ((ix ^^^ (bt ix a * bt ix b * 2 ^ c) : Nat) : Int), .int 0]) []
    generalize bt ix a = A at *
    generalize bt ix b = B at *
    generalize bt ix c = C at *
    have os : okShl ((A : Int) * (B : Int)) (c : Int) = true := by
      have : A * B ≤ 1 * 1 := Nat.mul_le_mul (by omega) (by omega)
      have e : (A : Int) * (B : Int) = ((A * B : Nat) : Int) := by rw [Int.natCast_mul]
      rw [e]
      exact okShl_small _ _ (by omega) (by omega) (by omega) (by omega)
    have x1 := bXor ix (A * B * 2 ^ c)
    rw [Int.natCast_mul, Int.natCast_mul, Int.natCast_pow] at x1
    generalize ix ^^^ (A * B * 2 ^ c) = R at *
    simp at x1
    have m1 := om_small (A : Int) B (by omega) (by omega) (by omega) (by omega)
    simp [s_L_due, nmK, ba, bb, bc, os, x1, m1]
  · show _ = RF.ok (.tup [.int ((ix ^^^ (bt ix a * (bt ix b ^^^ bt ix c) * 2 ^ b) ^^^ (bt ix a * (bt ix b ^^^ bt ix c) * 2 ^ c) : Nat) : Int), .int 0]) []
    generalize bt ix a = A at *
    generalize bt ix b = B at *
    generalize bt ix c = C at *
    have x0 := bXor B C
    have lx : B ^^^ C < 2 := Nat.xor_lt_two_pow (n := 1) lb lc
    generalize B ^^^ C = X at *
    have os : ∀ k : Nat, k < 5 → okShl ((A : Int) * (X : Int)) (k : Int) = true := fun k hk => by
      have : A * X ≤ 1 * 1 := Nat.mul_le_mul (by omega) (by omega)
      have e : (A : Int) * (X : Int) = ((A * X : Nat) : Int) := by rw [Int.natCast_mul]
      rw [e]
      exact okShl_small _ _ (by omega) (by omega) (by omega) (by omega)
    have o1 := os b hb
    have o2 := os c hc
    have x1 := bXor ix (A * X * 2 ^ b)
    rw [Int.natCast_mul, Int.natCast_mul, Int.natCast_pow] at x1
    generalize ix ^^^ (A * X * 2 ^ b) = R at *
    have x2 := bXor R (A * X * 2 ^ c)
    rw [Int.natCast_mul, Int.natCast_mul, Int.natCast_pow] at x2
    generalize R ^^^ (A * X * 2 ^ c) = R2 at *
    simp at x1 x2
    have m1 := om_small (A : Int) X (by omega) (by omega) (by omega) (by omega)
    simp [s_L_due, nmK, ba, bb, bc, o1, o2, x0, x1, x2, m1]
def tl13_law : XS :=
    (sseq (sif (xor_ (xnot (xt (xvar 8))) (xor_ (xnot (xt (xcall 2 [] s_L_list_fits [.val, .val] (xcons (xvar 12) (xcons (xc (.int 5)) xnil))))) (xor_ (xt (x2 oNe (xbi bLen (xcons (xvar 12) xnil)) (x2 oIx (xvar 3) (xvar 4)))) (xt (x2 oNe (xc cv_MACROS) (xbi bTuple (xcons (xsl (xvar 1) xonone (xosome (xc (.int 5)))) xnil)))))))
    (sret (xc (.bl false)))
    snil)
    (sseq (sset 11 (xcall 3 [] s_L_due [.val, .val, .val] (xcons (x2 oIx (xvar 1) (xvar 4)) (xcons (xvar 6) (xcons (xvar 7) xnil)))))
    (sret (xcall 3 [] s_L_same [.mov, .mov, .val] (xcons (xcall 2 [] s_L_sim [.val, .val] (xcons (xvar 12) (xcons (xvar 7) xnil))) (xcons (xtup (xcons (xdisp (xpcons (x2 oIx (xvar 11) (xc (.int 0))) (xcall 2 [] s_L_turn [.mov, .val] (xcons (xtup (xcons (xc (.int 1)) (xcons (xc (.int 0)) (xcons (xc (.int 0)) (xcons (xc (.int 0)) xnil))))) (xcons (x2 oIx (xvar 11) (xc (.int 1))) xnil))) xpnil)) (xcons (xc (.int 0)) xnil))) (xcons (xc (.int 0)) xnil)))))))
def tl12_law : XS :=
    (sseq (stry tb_PhasorError 10
    (sset 12 (xcall 2 [] s_macro_gates [.val, .mov] (xcons (x2 oIx (xvar 1) (xvar 4)) (xcons (xbi bTuple (xcons (xvar 6) xnil)) xnil))))
    (fun k => (sret (vand (xisx tb_InvalidGate k) (vnot (xvar 8))))))
    tl13_law)
def tl11_law : XS :=
    (sseq (sfor (irng1 (xcons (xvar 5) xnil)) (gset 9) lb_law_0)
    tl12_law)
def tl9_law : XS :=
    (sseq (sset 7 (x2 iMod (xbi bInt (xcons (xcall 2 [] s_L_cell [.val, .val] (xcons (xvar 0) (xcons (xc (.int 7)) xnil))) xnil)) (xc (.int 32))))
    (sseq (sset 8 (x2 oEq (xvar 5) (x2 oIx (xvar 2) (xvar 4))))
    tl11_law))
def tl7_law : XS :=
    (sseq (sset 6 (xlc [9] (irng1 (xcons (xvar 5) xnil)) (Pat.x (.nm 9)) xyes ce_law_0))
    (sseq (sif (xt (x2 oEq (x2 iMod (xbi bInt (xcons (xcall 2 [] s_L_cell [.val, .val] (xcons (xvar 0) (xcons (xc (.int 6)) xnil))) xnil)) (xc (.int 4))) (xc (.int 0))))
    (sset 6 (xlc [9] (irng1 (xcons (xvar 5) xnil)) (Pat.x (.nm 9)) xyes ce_law_1))
    snil)
    tl9_law))
def tl5_law : XS :=
    (sseq (sset 5 (xbi bMax1 (xcons (xc (.int 2)) (xcons (x2 oIx (xvar 2) (xvar 4)) xnil))))
    (sseq (sif (xt (x2 oEq (x2 iMod (xbi bInt (xcons (xcall 2 [] s_L_cell [.val, .val] (xcons (xvar 0) (xcons (xc (.int 1)) xnil))) xnil)) (xc (.int 4))) (xc (.int 0))))
    (sset 5 (x2 iMod (xbi bInt (xcons (x2 iDiv (xcall 2 [] s_L_cell [.val, .val] (xcons (xvar 0) (xcons (xc (.int 1)) xnil))) (xc (.int 4))) xnil)) (xc (.int 5))))
    snil)
    tl7_law))
theorem es_law : s_law = xfun 1 12 [] (
    (sseq (sset 1 (xlst (xcons (xc (.str ("CS" : Str))) (xcons (xc (.str ("CSDG" : Str))) (xcons (xc (.str ("CCZ" : Str))) (xcons (xc (.str ("CCX" : Str))) (xcons (xc (.str ("CSWAP" : Str))) (xcons (xc (.str ("CX" : Str))) (xcons (xc (.str ("W" : Str))) (xcons (xc (.str ("cs" : Str))) xnil))))))))))
    (sseq (sset 2 (xlst (xcons (xc (.int 2)) (xcons (xc (.int 2)) (xcons (xc (.int 3)) (xcons (xc (.int 3)) (xcons (xc (.int 3)) (xcons (x1 oNeg (xc (.int 1))) (xcons (x1 oNeg (xc (.int 1))) (xcons (x1 oNeg (xc (.int 1))) xnil))))))))))
    (sseq (sset 3 (xlst (xcons (xc (.int 5)) (xcons (xc (.int 5)) (xcons (xc (.int 13)) (xcons (xc (.int 15)) (xcons (xc (.int 17)) xnil)))))))
    (sseq (sset 4 (x2 iMod (xbi bInt (xcons (xcall 2 [] s_L_cell [.val, .val] (xcons (xvar 0) (xcons (xc (.int 0)) xnil))) xnil)) (xc (.int 8))))
    (sseq (sif (xt (x2 oNe (x2 iMod (xbi bInt (xcons (x2 iDiv (xcall 2 [] s_L_cell [.val, .val] (xcons (xvar 0) (xcons (xc (.int 0)) xnil))) (xc (.int 8))) xnil)) (xc (.int 4))) (xc (.int 0))))
    (sset 4 (x2 iMod (xbi bInt (xcons (x2 iDiv (xcall 2 [] s_L_cell [.val, .val] (xcons (xvar 0) (xcons (xc (.int 0)) xnil))) (xc (.int 8))) xnil)) (xc (.int 5))))
    snil)
    tl5_law)))))) := rfl
def nmL : List D := [.str ("CS" : Str), .str ("CSDG" : Str), .str ("CCZ" : Str), .str ("CCX" : Str), .str ("CSWAP" : Str), .str ("CX" : Str), .str ("W" : Str), .str ("cs" : Str)]
def szL : List D := [.int 2, .int 2, .int 3, .int 3, .int 3, .int (-1), .int (-1), .int (-1)]
def lnL : List D := [.int 5, .int 5, .int 13, .int 15, .int 17]
theorem nmL_at (p : Nat) (hp : p < 8) : atI nmL (p : Int) = some (.str (nmK p)) := by
  rw [atI_nat]
  have pc : p = 0 ∨ p = 1 ∨ p = 2 ∨ p = 3 ∨ p = 4 ∨ p = 5 ∨ p = 6 ∨ p = 7 := by omega
  rcases pc with rfl | rfl | rfl | rfl | rfl | rfl | rfl | rfl <;> rfl
theorem szL_at (p : Nat) (hp : p < 8) : atI szL (p : Int) = some (.int (szK p)) := by
  rw [atI_nat]
  have pc : p = 0 ∨ p = 1 ∨ p = 2 ∨ p = 3 ∨ p = 4 ∨ p = 5 ∨ p = 6 ∨ p = 7 := by omega
  rcases pc with rfl | rfl | rfl | rfl | rfl | rfl | rfl | rfl <;> rfl
theorem lnL_at (p : Nat) (hp : p < 5) (a b c : Nat) : atI lnL (p : Int) = some (.int ((macG p a b c).length : Nat)) := by
  rw [atI_nat]
  have pc : p = 0 ∨ p = 1 ∨ p = 2 ∨ p = 3 ∨ p = 4 := by omega
  rcases pc with rfl | rfl | rfl | rfl | rfl <;> rfl
theorem mac_gt (p : Nat) (hp : p < 5) (a b c : Nat) (ha : a < 5) (hb : b < 5) (hc : c < 5) (ab : a ≠ b) (ac : a ≠ c) (bc : b ≠ c) : ∀ g ∈ macG p a b c, okGt 5 g := by
  have pc : p = 0 ∨ p = 1 ∨ p = 2 ∨ p = 3 ∨ p = 4 := by omega
  have cb : c ≠ b := fun z => bc z.symm
  rcases pc with rfl | rfl | rfl | rfl | rfl <;> simp [macG, ccxG, cczG, okGt, ha, hb, hc, ab, ac, bc, cb]
theorem mac_eq : ∀ st, oNe cv_MACROS (.tup [.str ("CS" : Str), .str ("CSDG" : Str), .str ("CCZ" : Str), .str ("CCX" : Str), .str ("CSWAP" : Str)]) st = .ok (.bl false) st := fun st => by
  have s0 : PyData.strOk ("CS" : Str) = true := by decide +kernel
  have s1 : PyData.strOk ("CSDG" : Str) = true := by decide +kernel
  have s2 : PyData.strOk ("CCZ" : Str) = true := by decide +kernel
  have s3 : PyData.strOk ("CCX" : Str) = true := by decide +kernel
  have s4 : PyData.strOk ("CSWAP" : Str) = true := by decide +kernel
  unfold cv_MACROS
  rw [ev_neT _ _ _ (by simp) (by simp) (by simp [s0, s1, s2, s3, s4]) (by simp [s0, s1, s2, s3, s4])]
  simp
theorem k15_t13 (p : Nat) (hp : p < 5) (a b c : Nat) (ha : a < 5) (hb : b < 5) (hc : c < 5) (ab : a ≠ b) (ac : a ≠ c) (bc : b ≠ c) (ix : Nat) (hix : ix < 32) (QS : List D) (nq : nocL QS = true) (hd : s_L_due [.str (nmK p), .lst .loan QS, .int ix] = .ok (.tup [.int ((dueP p a b c ix).1 : Nat), .int ((dueP p a b c ix).2 : Nat)]) []) (hj : (dueP p a b c ix).1 < 32)
    {st : Sto} {cq cg : Nat} (s0 : st[0]? = some (.lst nmL)) (s2 : st[2]? = some (.lst lnL)) (sq : st[cq]? = some (.lst QS)) (sg : st[cg]? = some (.lst ((macG p a b c).map gtD))) (o0 o2 o5 o9 o10 o11 : Option D) :
    ∃ en' st', tl13_law [o0, some (.cell 0), o2, some (.cell 2), some (.int (p : Int)), o5, some (.cell cq), some (.int (ix : Int)), some (.bl true), o9, o10, o11, some (.cell cg)] st = .ok (.rt (.bl true), en') st' := by
  have hg := mac_gt p hp a b c ha hb hc ab ac bc
  have gn := gts_noc (macG p a b c)
  have lf : s_L_list_fits [.lst .loan ((macG p a b c).map gtD), .int 5] = .ok (.bl true) [] := L_lfits (w := 5) (macG p a b c) hg
  have na := nmL_at p (by omega)
  have la := lnL_at p hp a b c
  have ml : (macG p a b c).length ≤ 17 := by
    have pc : p = 0 ∨ p = 1 ∨ p = 2 ∨ p = 3 ∨ p = 4 := by omega
    rcases pc with rfl | rfl | rfl | rfl | rfl <;> simp [macG, ccxG, cczG]
  have mr : rts (macG p a b c) ≤ 2 := by
    have pc : p = 0 ∨ p = 1 ∨ p = 2 ∨ p = 3 ∨ p = 4 := by omega
    rcases pc with rfl | rfl | rfl | rfl | rfl <;> simp [macG, ccxG, cczG, rts, isH]
  have gl : ((macG p a b c).map gtD).length = (macG p a b c).length := by simp
  have fl : fitL (macG p a b c).length = true := decide_eq_true (by omega)
  have cu : cutG nmL none (some 5) = [.str ("CS" : Str), .str ("CSDG" : Str), .str ("CCZ" : Str), .str ("CCX" : Str), .str ("CSWAP" : Str)] := rfl
  have me := mac_eq
  have sm := L_sim (w := 5) (by omega) (macG p a b c) hg ix hix .loan (.inl rfl)
  have k1 := sims_ak (macG p a b c) _ hg (Ak.one (n := 2 ^ 5) hix oneQ)
  have u1 := sims_sem (macG p a b c) _ hg (Ak.one (n := 2 ^ 5) hix oneQ)
  have u2 := mac_ok hp ha hb hc ab ac bc hix hg
  have k2 := Ak.one (n := 2 ^ 5) hj (Tn ((dueP p a b c ix).2 % 8) oneQ)
  have ls := L_same (w := 5) (by omega) _ _ k1 k2 (rts (macG p a b c)) 0 (by omega) (by omega) 0 (fun j => by
    rw [u1, u2 j, Nat.zero_sub]
    show Rn (rts (macG p a b c)) (Tn _ (if _ = j then oneQ else Qr.z)) = Rn (rts (macG p a b c) - 0) (if _ = j then _ else Qr.z)
    rw [Nat.sub_zero]
    split
    · rfl
    · rw [Tn_zz])
  have lt := L_turn ((dueP p a b c ix).2 : Nat) oneQ
  have ct : ((((dueP p a b c ix).2 : Nat) : Int) % 8).toNat = (dueP p a b c ix).2 % 8 := by omega
  rw [ct] at lt
  have q1 : qD oneQ = .tup [.int 1, .int 0, .int 0, .int 0] := rfl
  rw [q1] at lt
  have ek : aK [((dueP p a b c ix).1, Tn ((dueP p a b c ix).2 % 8) oneQ)] = [Sum.inl (((dueP p a b c ix).1 : Nat) : Int)] := rfl
  have ev : aV [((dueP p a b c ix).1, Tn ((dueP p a b c ix).2 % 8) oneQ)] = [qD (Tn ((dueP p a b c ix).2 % 8) oneQ)] := rfl
  rw [ek, ev] at ls
  have nt := noc_q (Tn ((dueP p a b c ix).2 % 8) oneQ)
  have n1 := aV_noc (sims (macG p a b c) [(ix, oneQ)])
  have z0 : ((0 : Nat) : Int) = 0 := rfl
  rw [z0] at ls
  have s0' := fun r => slow s0 r
  have s2' := fun r => slow s2 r
  have sq' := fun r => slow sq r
  have sg' := fun r => slow sg r
  apply isRet_ex
  clear u1 u2 k1 k2 hg ek ev z0 ct q1
  unfold cv_MACROS at me
  generalize qD (Tn ((dueP p a b c ix).2 % 8) oneQ) = QT at *
  generalize (dueP p a b c ix).1 = dj at *
  generalize (dueP p a b c ix).2 = dt at *
  generalize sims (macG p a b c) [(ix, oneQ)] = SA at *
  generalize rts (macG p a b c) = r at *
  generalize (macG p a b c).map gtD = GS at *
  generalize (macG p a b c).length = l at *
  generalize nmK p = K at *
  generalize nmL = NL at *
  generalize lnL = LL at *
  simp [-getElem?_pos, List.getElem?_cons_zero, List.getElem?_cons_succ, -ev_neT, isRet, tl13_law, cv_MACROS, s0, s2, sq, sg, s0', s2', sq', sg', gn, lf, na, la, gl, fl, cu, me, sm, hd, nq, lt, nt, n1, ls, sat0, satk, give, imp]
theorem dueP_lt {p a b c ix : Nat} (hp : p < 5) (hb : b < 5) (hc : c < 5) (hi : ix < 32) : (dueP p a b c ix).1 < 32 := by
  have pw : ∀ A q : Nat, A < 2 → q < 5 → A * 2 ^ q < 2 ^ 5 := fun A q hA hq => by
    have h1 : A * 2 ^ q ≤ 1 * 2 ^ q := Nat.mul_le_mul_right _ (by omega)
    have h2 : 2 ^ q < 2 ^ 5 := Nat.pow_lt_pow_right (by decide) hq
    omega
  have la := bt_lt ix a
  have lb := bt_lt ix b
  have lc := bt_lt ix c
  have pc : p = 0 ∨ p = 1 ∨ p = 2 ∨ p = 3 ∨ p = 4 := by omega
  have ml : ∀ A B : Nat, A < 2 → B < 2 → A * B < 2 := fun A B h1 h2 => by
    have : A * B ≤ 1 * 1 := Nat.mul_le_mul (by omega) (by omega)
    omega
  have hi5 : ix < 2 ^ 5 := hi
  rcases pc with rfl | rfl | rfl | rfl | rfl
  · exact hi
  · exact hi
  · exact hi
  · exact Nat.xor_lt_two_pow hi5 (pw _ c (ml _ _ la lb) hc)
  · have lx : bt ix b ^^^ bt ix c < 2 := Nat.xor_lt_two_pow (n := 1) lb lc
    exact Nat.xor_lt_two_pow (Nat.xor_lt_two_pow hi5 (pw _ b (ml _ _ la lx) hb)) (pw _ c (ml _ _ la lx) hc)
theorem tb15 : tb_PhasorError 1 = some true ∧ tb_InvalidGate 1 = some true := ⟨rfl, rfl⟩
theorem k15_t12 (p : Nat) (hp : p < 8) (qs : List Int) (hq : ∀ q ∈ qs, q < 5) (hl : qs.length ≤ 4) (bb : Bool) (hb : bb = true ↔ goodM p qs) (ix : Nat) (hix : ix < 32) {st : Sto} {cq : Nat} (s0 : st[0]? = some (.lst nmL)) (s2 : st[2]? = some (.lst lnL)) (sq : st[cq]? = some (.lst (qs.map D.int))) (o0 o2 o5 o9 : Option D) :
    ∃ en' st', tl12_law [o0, some (.cell 0), o2, some (.cell 2), some (.int (p : Int)), o5, some (.cell cq), some (.int (ix : Int)), some (.bl bb), o9, none, none, none] st = .ok (.rt (.bl true), en') st' := by
  have na := nmL_at p hp
  have nq : nocL (qs.map D.int) = true := by simp
  have ll : (qs.map D.int).length = qs.length := by simp
  have fl : fitL qs.length = true := decide_eq_true (by omega)
  by_cases g : goodM p qs
  · have : bb = true := hb.mpr g
    subst this
    obtain ⟨g1, g2, g3⟩ := g
    have p5 : p < 5 := by
      rcases Nat.lt_or_ge p 5 with h | h
      · exact h
      · exfalso
        have pc : p = 5 ∨ p = 6 ∨ p = 7 := by omega
        rcases pc with rfl | rfl | rfl <;> (simp only [szK] at g1; omega)
    have fin : ∀ a b c : Nat, a < 5 → b < 5 → c < 5 → a ≠ b → a ≠ c → b ≠ c → s_macro_gates [.str (nmK p), .tup (qs.map D.int)] = .ok (.lst .own ((macG p a b c).map gtD)) [] → s_L_due [.str (nmK p), .lst .loan (qs.map D.int), .int ix] = .ok (.tup [.int ((dueP p a b c ix).1 : Nat), .int ((dueP p a b c ix).2 : Nat)]) [] →
        ∃ en' st', tl12_law [o0, some (.cell 0), o2, some (.cell 2), some (.int (p : Int)), o5, some (.cell cq), some (.int (ix : Int)), some (.bl true), o9, none, none, none] st = .ok (.rt (.bl true), en') st' := fun a b c ha hb' hc ab ac bc hm hd => by
      obtain ⟨en', st', ht⟩ := k15_t13 p p5 a b c ha hb' hc ab ac bc ix hix (qs.map D.int) nq hd (dueP_lt p5 hb' hc hix) (st := st ++ [.lst ((macG p a b c).map gtD)]) (cq := cq) (cg := st.length) (slow s0 _) (slow s2 _) (slow sq _) (by rw [sat0]; rfl) o0 o2 o5 o9 none none
      refine ⟨en', st', ?_⟩
      have gn := gts_noc (macG p a b c)
      clear hd
      generalize (macG p a b c).map gtD = GS at *
      generalize nmK p = K at *
      generalize qs.map D.int = QS at *
      generalize nmL = NL at *
      simp [-getElem?_pos, List.getElem?_cons_zero, List.getElem?_cons_succ, tl12_law, s0, sq, na, ll, fl, nq, hm, gn, give, imp, ht]
    by_cases p2 : p < 2
    · have l2 : qs.length = 2 := by
        rcases (by omega : p = 0 ∨ p = 1) with rfl | rfl <;> (simp only [szK] at g1; omega)
      match qs, l2 with
      | [x, y], _ =>
        obtain ⟨a, rfl⟩ := Int.eq_ofNat_of_zero_le (g2 x (by simp))
        obtain ⟨b, rfl⟩ := Int.eq_ofNat_of_zero_le (g2 y (by simp))
        have ha := hq a (by simp)
        have hb' := hq b (by simp)
        have ab : a ≠ b := fun e => by subst e; simp at g3
        obtain ⟨c, hc, ac, bc⟩ : ∃ c, c < 5 ∧ a ≠ c ∧ b ≠ c := by
          by_cases h0 : a = 0 ∨ b = 0
          · by_cases h1 : a = 1 ∨ b = 1
            · exact ⟨2, by omega, by omega, by omega⟩
            · exact ⟨1, by omega, by omega, by omega⟩
          · exact ⟨0, by omega, by omega, by omega⟩
        exact fin a b c (by omega) (by omega) hc ab ac bc (macro_two p p2 a b c ab) (due_two p p2 a b c ix (by omega) (by omega))
    · have l3 : qs.length = 3 := by
        rcases (by omega : p = 2 ∨ p = 3 ∨ p = 4) with rfl | rfl | rfl <;> (simp only [szK] at g1; omega)
      match qs, l3 with
      | [x, y, z], _ =>
        obtain ⟨a, rfl⟩ := Int.eq_ofNat_of_zero_le (g2 x (by simp))
        obtain ⟨b, rfl⟩ := Int.eq_ofNat_of_zero_le (g2 y (by simp))
        obtain ⟨c, rfl⟩ := Int.eq_ofNat_of_zero_le (g2 z (by simp))
        have ha := hq a (by simp)
        have hb' := hq b (by simp)
        have hc := hq c (by simp)
        simp at g3
        exact fin a b c (by omega) (by omega) (by omega) (by omega) (by omega) (by omega) (macro_three p (by omega) p5 a b c (by omega) (by omega) (by omega)) (due_three p (by omega) p5 a b c ix (by omega) (by omega) (by omega))
  · have : bb = false := by cases bb with | false => rfl | true => exact (g (hb.mp rfl)).elim
    subst this
    have e := macro_no p hp qs (by omega) g
    apply isRet_ex
    generalize nmK p = K at *
    generalize qs.map D.int = QS at *
    generalize nmL = NL at *
    simp [-getElem?_pos, List.getElem?_cons_zero, List.getElem?_cons_succ, isRet, tl12_law, s0, sq, na, ll, fl, nq, e, tb15]
def PK (p : Nat) (qs : List Int) (k : Nat) : Prop := (qs.length : Int) = szK p ∧ (∀ q ∈ qs.take k, 0 ≤ q) ∧ (qs.take k).Nodup
theorem PK_succ {p : Nat} {qs : List Int} {k : Nat} (hk : k < qs.length) : PK p qs (k + 1) ↔ PK p qs k ∧ 0 ≤ qs[k] ∧ qs[k] ∉ qs.take k := by
  have e : qs.take (k + 1) = qs.take k ++ [qs[k]] := by rw [List.take_add_one, List.getElem?_eq_getElem hk]; rfl
  unfold PK
  rw [e, List.nodup_append]
  constructor
  · rintro ⟨a, b, c, _, d⟩
    exact ⟨⟨a, fun q hq => b q (List.mem_append_left _ hq), c⟩, b _ (List.mem_append_right _ (List.mem_singleton.mpr rfl)), fun z => d _ z _ (List.mem_singleton.mpr rfl) rfl⟩
  · rintro ⟨⟨a, b, c⟩, d, f⟩
    refine ⟨a, fun q hq => ?_, c, by simp, fun x hx y hy => ?_⟩
    · rcases List.mem_append.mp hq with z | z
      · exact b q z
      · rw [List.mem_singleton.mp z]; exact d
    · rw [List.mem_singleton.mp hy]; exact fun e => f (e ▸ hx)
theorem k15_t11 (p : Nat) (hp : p < 8) (qs : List Int) (hq : ∀ q ∈ qs, q < 5) (hl : qs.length ≤ 4) (bb : Bool) (hb : bb = true ↔ (qs.length : Int) = szK p) (ix : Nat) (hix : ix < 32) {st : Sto} {cq : Nat} (s0 : st[0]? = some (.lst nmL)) (s2 : st[2]? = some (.lst lnL)) (sq : st[cq]? = some (.lst (qs.map D.int))) (o0 o2 : Option D) :
    ∃ en' st', tl11_law [o0, some (.cell 0), o2, some (.cell 2), some (.int (p : Int)), some (.int (qs.length : Nat)), some (.cell cq), some (.int (ix : Int)), some (.bl bb), none, none, none, none] st = .ok (.rt (.bl true), en') st' := by
  obtain ⟨en', st', ⟨hf, b, J, o9, he, hst, hbb⟩ | ⟨d, _, hX⟩⟩ := floop_rngIX (t := gset 9) (b := lb_law_0) (lo := 0) (n := qs.length) (en := [o0, some (.cell 0), o2, some (.cell 2), some (.int (p : Int)), some (.int (qs.length : Nat)), some (.cell cq), some (.int (ix : Int)), some (.bl bb), none, none, none, none]) (st := st)
    (fun k en st' => ∃ b J o9, en = [o0, some (.cell 0), o2, some (.cell 2), some (.int (p : Int)), some (.int (qs.length : Nat)), some (.cell cq), some (.int (ix : Int)), some (.bl b), o9, none, none, none] ∧ st' = st ++ J ∧ (b = true ↔ PK p qs k))
    (fun _ => False) ⟨bb, [], none, rfl, by simp, by rw [hb]; unfold PK; simp⟩ (fun k hk en st' ⟨b, J, o9, he, hst, hbb⟩ => by
      have sq' : st'[cq]? = some (.lst (qs.map D.int)) := by rw [hst]; exact slow sq J
      have sq2 := fun r => slow sq' r
      have at1 : atI (qs.map D.int) (k : Int) = some (.int qs[k]) := atI_intsN qs k hk
      have hi1 := cutG_hi (qs.map D.int) k
      have tk : (qs.map D.int).take k = (qs.take k).map D.int := List.map_take.symm
      rw [tk] at hi1
      have e0 : (0 : Int) + (k : Int) = k := by omega
      have ps := PK_succ (p := p) hk
      subst he
      cases b with
      | false =>
        refine ⟨_, st', .inl ⟨?_, false, J, some (.int (k : Int)), rfl, hst, ⟨fun z => (by cases z), fun z => hbb.mpr (ps.mp z).1⟩⟩⟩
        generalize qs.map D.int = QS at *
        simp [-getElem?_pos, List.getElem?_cons_zero, List.getElem?_cons_succ, stp, lb_law_0, e0]
      | true =>
        have pk := hbb.mp rfl
        by_cases c0 : 0 ≤ qs[k]
        · by_cases c1 : qs[k] ∈ qs.take k
          · refine ⟨_, st' ++ [.lst ((qs.take k).map D.int)], .inl ⟨?_, false, J ++ [.lst ((qs.take k).map D.int)], some (.int (k : Int)), rfl, by rw [hst, List.append_assoc], ⟨fun z => (by cases z), fun z => ((ps.mp z).2.2 c1).elim⟩⟩⟩
            generalize qs[k] = x at *
            generalize qs.take k = TK at *
            generalize qs.map D.int = QS at *
            simp [-getElem?_pos, List.getElem?_cons_zero, List.getElem?_cons_succ, stp, lb_law_0, e0, sq', sq2, at1, hi1, c0, c1, sat0]
          · refine ⟨_, st' ++ [.lst ((qs.take k).map D.int)], .inl ⟨?_, true, J ++ [.lst ((qs.take k).map D.int)], some (.int (k : Int)), rfl, by rw [hst, List.append_assoc], ⟨fun _ => ps.mpr ⟨pk, c0, c1⟩, fun _ => rfl⟩⟩⟩
            generalize qs[k] = x at *
            generalize qs.take k = TK at *
            generalize qs.map D.int = QS at *
            simp [-getElem?_pos, List.getElem?_cons_zero, List.getElem?_cons_succ, stp, lb_law_0, e0, sq', sq2, at1, hi1, c0, c1, sat0]
        · refine ⟨_, st', .inl ⟨?_, false, J, some (.int (k : Int)), rfl, hst, ⟨fun z => (by cases z), fun z => (c0 (ps.mp z).2.1).elim⟩⟩⟩
          have c0' : qs[k] < 0 := by omega
          generalize qs[k] = x at *
          generalize qs.map D.int = QS at *
          simp [-getElem?_pos, List.getElem?_cons_zero, List.getElem?_cons_succ, stp, lb_law_0, e0, sq', sq2, at1, c0, c0'])
  · subst he
    have hg : b = true ↔ goodM p qs := by
      rw [hbb]
      unfold PK goodM
      rw [List.take_length]
    obtain ⟨en2, st2, ht⟩ := k15_t12 p hp qs hq hl b hg ix hix (st := st') (cq := cq) (by rw [hst]; exact slow s0 J) (by rw [hst]; exact slow s2 J) (by rw [hst]; exact slow sq J) o0 o2 (some (.int (qs.length : Nat))) o9
    refine ⟨en2, st2, ?_⟩
    have ok : ok62 (qs.length : Int) = true := ok62_small _ (by omega) (by omega)
    clear hbb hg hb
    generalize qs.length = n at *
    simp [-getElem?_pos, List.getElem?_cons_zero, List.getElem?_cons_succ, tl11_law, ok, hf, ht]
  · exact hX.elim
theorem k15_t9 (p : Nat) (hp : p < 8) (qs : List Int) (hq : ∀ q ∈ qs, q < 5) (hl : qs.length ≤ 4) {ns : List Int} (hns : ns.length ≤ 63) {st : Sto} {cq : Nat} (s0 : st[0]? = some (.lst nmL)) (s1 : st[1]? = some (.lst szL)) (s2 : st[2]? = some (.lst lnL)) (sq : st[cq]? = some (.lst (qs.map D.int))) :
    ∃ en' st', tl9_law [some (.lst .ro (ns.map D.int)), some (.cell 0), some (.cell 1), some (.cell 2), some (.int (p : Int)), some (.int (qs.length : Nat)), some (.cell cq), none, none, none, none, none, none] st = .ok (.rt (.bl true), en') st' := by
  have c7 := L_cell hns 7
  simp at c7
  generalize celA ns 7 = a7 at *
  obtain ⟨ix, hi, lix⟩ : ∃ i : Nat, a7 % 32 = (i : Int) ∧ i < 32 := ⟨(a7 % 32).toNat, by omega, by omega⟩
  have za := szL_at p hp
  obtain ⟨en', st', ht⟩ := k15_t11 p hp qs hq hl (decide ((qs.length : Int) = szK p)) (by simp) ix lix s0 s2 sq (some (.lst .ro (ns.map D.int))) (some (.cell 1))
  refine ⟨en', st', ?_⟩
  generalize szK p = z at *
  generalize qs.length = n at *
  generalize szL = SL at *
  simp [-getElem?_pos, List.getElem?_cons_zero, List.getElem?_cons_succ, tl9_law, c7, hi, s1, za, ht]
def qA (ns : List Int) (n : Nat) : List Int := (List.range n).map fun k => (celA ns ((2 + k : Nat) : Int) + (k : Int)) % 5
def qB (ns : List Int) (n : Nat) : List Int := (List.range n).map fun k => celA ns ((2 + k : Nat) : Int) % 6 - 1
theorem rng_at (n k : Nat) (h : k < (rngL 0 n).length) : (rngL 0 n)[k] = .int (k : Int) := by
  have hk : k < n := by simpa using h
  have e : (rngL 0 n)[k]? = some (.int (k : Int)) := by
    unfold rngL
    rw [List.getElem?_map, List.getElem?_range hk]
    simp
  rw [List.getElem?_eq_getElem h] at e
  exact Option.some.inj e
theorem k15_t7 (p : Nat) (hp : p < 8) (n : Nat) (hn : n ≤ 4) {ns : List Int} (hns : ns.length ≤ 63) :
    ∃ en' st', tl7_law [some (.lst .ro (ns.map D.int)), some (.cell 0), some (.cell 1), some (.cell 2), some (.int (p : Int)), some (.int (n : Nat)), none, none, none, none, none, none, none] [.lst nmL, .lst szL, .lst lnL] = .ok (.rt (.bl true), en') st' := by
  have c6 := L_cell hns 6
  simp at c6
  have ok : ok62 (n : Int) = true := ok62_small _ (by omega) (by omega)
  have lr : (rngL 0 n).length = n := by simp
  have cl1 := cloop_seq (own := [9]) (src := []) (t := gset 9) (c := xyes) (e := ce_law_0) (en := [some (.lst .ro (ns.map D.int)), some (.cell 0), some (.cell 1), some (.cell 2), some (.int (p : Int)), some (.int (n : Nat)), none, none, none, none, none, none, none]) (st := [.lst nmL, .lst szL, .lst lnL]) (rngL 0 n) ((qA ns n).map D.int) (by simp [qA]) (fun k hk hk' acc => by
      have k1 : k < n := by simpa using hk
      have c := L_cell hns (2 + k)
      have e : ((2 + k : Nat) : Int) = 2 + (k : Int) := by omega
      rw [rng_at, List.getElem_map]
      unfold qA
      rw [List.getElem_map, List.getElem_range, e]
      rw [e] at c
      generalize celA ns (2 + (k : Int)) = x at *
      refine ⟨rfl, ?_⟩
      simp [-getElem?_pos, List.getElem?_cons_zero, List.getElem?_cons_succ, cstp, ce_law_0, wipeE, c]) (fun acc => rfl) (by rw [lr]; omega)
  have cl2 := cloop_seq (own := [9]) (src := []) (t := gset 9) (c := xyes) (e := ce_law_1) (en := [some (.lst .ro (ns.map D.int)), some (.cell 0), some (.cell 1), some (.cell 2), some (.int (p : Int)), some (.int (n : Nat)), some (.cell 3), none, none, none, none, none, none]) (st := [.lst nmL, .lst szL, .lst lnL, .lst ((qA ns n).map D.int)]) (rngL 0 n) ((qB ns n).map D.int) (by simp [qB]) (fun k hk hk' acc => by
      have k1 : k < n := by simpa using hk
      have c := L_cell hns (2 + k)
      have e : ((2 + k : Nat) : Int) = 2 + (k : Int) := by omega
      rw [rng_at, List.getElem_map]
      unfold qB
      rw [List.getElem_map, List.getElem_range, e]
      rw [e] at c
      generalize celA ns (2 + (k : Int)) = x at *
      refine ⟨rfl, ?_⟩
      simp [-getElem?_pos, List.getElem?_cons_zero, List.getElem?_cons_succ, cstp, ce_law_1, wipeE, c]) (fun acc => rfl) (by rw [lr]; omega)
  have l1 : [Cell.lst nmL, .lst szL, .lst lnL].length = 3 := rfl
  have l2 : [Cell.lst nmL, .lst szL, .lst lnL, .lst ((qA ns n).map D.int)].length = 4 := rfl
  rw [l1] at cl1
  rw [l2] at cl2
  simp only [List.cons_append, List.nil_append] at cl1 cl2
  have lA : (qA ns n).length = n := by simp [qA]
  have lB : (qB ns n).length = n := by simp [qB]
  have hA : ∀ q ∈ qA ns n, q < 5 := fun q hq => by
    obtain ⟨k, _, rfl⟩ := List.mem_map.mp hq
    omega
  have hB : ∀ q ∈ qB ns n, q < 5 := fun q hq => by
    obtain ⟨k, _, rfl⟩ := List.mem_map.mp hq
    omega
  by_cases c : celA ns 6 % 4 = 0
  · obtain ⟨en', st', ht⟩ := k15_t9 p hp (qB ns n) hB (by omega) hns (st := [.lst nmL, .lst szL, .lst lnL, .lst ((qA ns n).map D.int), .lst ((qB ns n).map D.int)]) (cq := 4) rfl rfl rfl rfl
    rw [lB] at ht
    refine ⟨en', st', ?_⟩
    generalize celA ns 6 = a6 at *
    generalize (qA ns n).map D.int = QA at *
    generalize (qB ns n).map D.int = QB at *
    generalize nmL = NL at *
    generalize szL = SL at *
    generalize lnL = LL at *
    simp [-getElem?_pos, List.getElem?_cons_zero, List.getElem?_cons_succ, tl7_law, ok, cl1, c6, c, cl2, ht]
  · obtain ⟨en', st', ht⟩ := k15_t9 p hp (qA ns n) hA (by omega) hns (st := [.lst nmL, .lst szL, .lst lnL, .lst ((qA ns n).map D.int)]) (cq := 3) rfl rfl rfl rfl
    rw [lA] at ht
    refine ⟨en', st', ?_⟩
    generalize celA ns 6 = a6 at *
    generalize (qA ns n).map D.int = QA at *
    generalize nmL = NL at *
    generalize szL = SL at *
    generalize lnL = LL at *
    simp [-getElem?_pos, List.getElem?_cons_zero, List.getElem?_cons_succ, tl7_law, ok, cl1, c6, c, ht]
theorem k15_t5 (p : Nat) (hp : p < 8) {ns : List Int} (hns : ns.length ≤ 63) :
    ∃ en' st', tl5_law [some (.lst .ro (ns.map D.int)), some (.cell 0), some (.cell 1), some (.cell 2), some (.int (p : Int)), none, none, none, none, none, none, none, none] [.lst nmL, .lst szL, .lst lnL] = .ok (.rt (.bl true), en') st' := by
  have c1 := L_cell hns 1
  simp at c1
  generalize celA ns 1 = a1 at *
  have za := szL_at p hp
  by_cases c : a1 % 4 = 0
  · obtain ⟨n, hn, ln⟩ : ∃ n : Nat, a1 / 4 % 5 = (n : Int) ∧ n ≤ 4 := ⟨(a1 / 4 % 5).toNat, by omega, by omega⟩
    obtain ⟨en', st', ht⟩ := k15_t7 p hp n ln hns
    refine ⟨en', st', ?_⟩
    generalize nmL = NL at *
    generalize szL = SL at *
    generalize lnL = LL at *
    generalize szK p = z at *
    by_cases zz : 2 < z
    · simp [-getElem?_pos, List.getElem?_cons_zero, List.getElem?_cons_succ, tl5_law, c1, c, hn, za, zz, ht]
    · simp [-getElem?_pos, List.getElem?_cons_zero, List.getElem?_cons_succ, tl5_law, c1, c, hn, za, zz, ht]
  · by_cases zz : 2 < szK p
    · have z3 : szK p = 3 := by
        have pc : p = 0 ∨ p = 1 ∨ p = 2 ∨ p = 3 ∨ p = 4 ∨ p = 5 ∨ p = 6 ∨ p = 7 := by omega
        rcases pc with rfl | rfl | rfl | rfl | rfl | rfl | rfl | rfl <;> first | rfl | (simp [szK] at zz)
      obtain ⟨en', st', ht⟩ := k15_t7 p hp 3 (by omega) hns
      have e3 : ((3 : Nat) : Int) = 3 := rfl
      rw [e3] at ht
      rw [z3] at za
      refine ⟨en', st', ?_⟩
      generalize nmL = NL at *
      generalize szL = SL at *
      generalize lnL = LL at *
      simp [-getElem?_pos, List.getElem?_cons_zero, List.getElem?_cons_succ, tl5_law, c1, c, za, ht]
    · obtain ⟨en', st', ht⟩ := k15_t7 p hp 2 (by omega) hns
      have e3 : ((2 : Nat) : Int) = 2 := rfl
      rw [e3] at ht
      refine ⟨en', st', ?_⟩
      generalize nmL = NL at *
      generalize szL = SL at *
      generalize lnL = LL at *
      generalize szK p = z at *
      simp [-getElem?_pos, List.getElem?_cons_zero, List.getElem?_cons_succ, tl5_law, c1, c, za, zz, ht]
theorem math : ∀ ns : List Int, ns.length ≤ 63 → (∀ z ∈ ns, Builtin.Int.intBits z ≤ 1048576) → s_law [.lst .ro (ns.map D.int)] = .ok (.bl true) [] := by
  intro ns hl hb
  have c0 := L_cell hl 0
  simp at c0
  generalize celA ns 0 = a0 at *
  obtain ⟨p1, h1, l1⟩ : ∃ n : Nat, a0 % 8 = (n : Int) ∧ n < 8 := ⟨(a0 % 8).toNat, by omega, by omega⟩
  obtain ⟨p2, h2, l2⟩ : ∃ n : Nat, a0 / 8 % 5 = (n : Int) ∧ n < 8 := ⟨(a0 / 8 % 5).toNat, by omega, by omega⟩
  rw [es_law]
  by_cases c : a0 / 8 % 4 = 0
  · obtain ⟨en', st', ht⟩ := k15_t5 p1 l1 hl
    unfold nmL szL lnL at ht
    simp [-getElem?_pos, List.getElem?_cons_zero, List.getElem?_cons_succ, c0, c, h1, ht]
  · obtain ⟨en', st', ht⟩ := k15_t5 p2 l2 hl
    unfold nmL szL lnL at ht
    simp [-getElem?_pos, List.getElem?_cons_zero, List.getElem?_cons_succ, c0, c, h1, h2, ht]

def topS (i : Nat) : Stmt := PySem.Challenge.pw_phasor_k15_macros.main.body.getD i (.Pass ⟨0, 0, 0, 0⟩)
section
variable {P : Program} {w : World} {G : GS} {mg : Str → Option Value} {base : Heap}
theorem sc_L_cell : FnScope [("_law_script" : Str), ("_law_k" : Str)] [("_law_script" : Str), ("_law_k" : Str)] (defScope (topS 12)) := ⟨rfl, rfl, rfl, by decide +kernel, rfl, by decide +kernel, by decide +kernel⟩
theorem ok_L_cell (z_len : mg ("len" : Str) = none) {f : Addr} {fd : FuncData} (F : Fun G.K ("_law_cell" : Str) ("_law_cell" : Str) (topS 12) f fd) :
    FnOk P w G.K mg base (L2.CX P w) 1 f fd [("_law_script" : Str), ("_law_k" : Str)] (spF G 2 [] s_L_cell) :=
  fn_ok F sc_L_cell rfl rfl fun cdv A outer s H E hr bd =>
    (sl_cons (ss_if (sb_cmp ho_lt (se_var 1) (se_bi (hc_len bd.K) z_len (sa_cons (se_var 0) sa_nil)))
    (sl_one (ss_ret (se_ix bd.K (se_var 0) (se_var 1))))
    sl_nil)
    (sl_one (ss_ret se_int)))
theorem sc_is_macro : FnScope [("kind" : Str), ("qubits" : Str)] [("kind" : Str), ("qubits" : Str)] (defScope (topS 8)) := ⟨rfl, rfl, rfl, by decide +kernel, rfl, by decide +kernel, by decide +kernel⟩
theorem ok_is_macro (z_len : mg ("len" : Str) = none) (z_min : mg ("min" : Str) = none) (z_set : mg ("set" : Str) = none) (k_MACROS : ConstF G mg ("MACROS" : Str) cv_MACROS) (k_MACRO_SIZES : KD G w mg ("MACRO_SIZES" : Str) kv_MACRO_SIZES) {f : Addr} {fd : FuncData} (F : Fun G.K ("is_macro" : Str) ("is_macro" : Str) (topS 8) f fd) :
    FnOk P w G.K mg base (L2.CX P w) 1 f fd [("kind" : Str), ("qubits" : Str)] (spF G 2 [] s_is_macro) :=
  fn_ok F sc_is_macro rfl rfl fun cdv A outer s H E hr bd =>
    (sl_cons (ss_if (sb_w (sw_or (sb_cmp (ho_notin bd.K) (se_var 0) (se_const k_MACROS)) (sw_one_or (sb_cmp (ho_ne bd.K hr.units) (se_bi (hc_len bd.K) z_len (sa_cons (se_var 1) sa_nil)) (se_kget bd.K k_MACRO_SIZES (se_var 0))))))
    (sl_one (ss_ret se_bl))
    sl_nil)
    (sl_one (ss_ret (se_and (se_cmp ho_ge (se_bi (hc_minT bd.K bd.calm (hu65 hr)) z_min (sa_cons (se_var 1) sa_nil)) se_int) (se_one (se_cmp (ho_eq bd.K hr.units) (se_lens bd.K bd.calm z_len z_set (se_var 1)) (se_bi (hc_len bd.K) z_len (sa_cons (se_var 1) sa_nil))))))))
theorem sc_ccz_gates : FnScope [("a" : Str), ("b" : Str), ("c" : Str)] [("a" : Str), ("b" : Str), ("c" : Str)] (defScope (topS 6)) := ⟨rfl, rfl, rfl, by decide +kernel, rfl, by decide +kernel, by decide +kernel⟩
theorem ok_ccz_gates {f : Addr} {fd : FuncData} (F : Fun G.K ("ccz_gates" : Str) ("ccz_gates" : Str) (topS 6) f fd) :
    FnOk P w G.K mg base (L2.CX P w) 1 f fd [("a" : Str), ("b" : Str), ("c" : Str)] (spF G 3 [] s_ccz_gates) :=
  fn_ok F sc_ccz_gates rfl rfl fun cdv A outer s H E hr bd =>
    (sl_one (ss_ret (se_lst (sa_cons (se_tup (sa_cons se_str (sa_cons (se_tup (sa_cons (se_var 0) sa_nil)) sa_nil))) (sa_cons (se_tup (sa_cons se_str (sa_cons (se_tup (sa_cons (se_var 1) sa_nil)) sa_nil))) (sa_cons (se_tup (sa_cons se_str (sa_cons (se_tup (sa_cons (se_var 2) sa_nil)) sa_nil))) (sa_cons (se_tup (sa_cons se_str (sa_cons (se_tup (sa_cons (se_var 0) (sa_cons (se_var 1) sa_nil))) sa_nil))) (sa_cons (se_tup (sa_cons se_str (sa_cons (se_tup (sa_cons (se_var 1) sa_nil)) sa_nil))) (sa_cons (se_tup (sa_cons se_str (sa_cons (se_tup (sa_cons (se_var 0) (sa_cons (se_var 1) sa_nil))) sa_nil))) (sa_cons (se_tup (sa_cons se_str (sa_cons (se_tup (sa_cons (se_var 1) (sa_cons (se_var 2) sa_nil))) sa_nil))) (sa_cons (se_tup (sa_cons se_str (sa_cons (se_tup (sa_cons (se_var 2) sa_nil)) sa_nil))) (sa_cons (se_tup (sa_cons se_str (sa_cons (se_tup (sa_cons (se_var 0) (sa_cons (se_var 2) sa_nil))) sa_nil))) (sa_cons (se_tup (sa_cons se_str (sa_cons (se_tup (sa_cons (se_var 2) sa_nil)) sa_nil))) (sa_cons (se_tup (sa_cons se_str (sa_cons (se_tup (sa_cons (se_var 1) (sa_cons (se_var 2) sa_nil))) sa_nil))) (sa_cons (se_tup (sa_cons se_str (sa_cons (se_tup (sa_cons (se_var 2) sa_nil)) sa_nil))) (sa_cons (se_tup (sa_cons se_str (sa_cons (se_tup (sa_cons (se_var 0) (sa_cons (se_var 2) sa_nil))) sa_nil))) sa_nil))))))))))))))))
theorem sc_ccx_gates : FnScope [("a" : Str), ("b" : Str), ("c" : Str)] [("a" : Str), ("b" : Str), ("c" : Str)] (defScope (topS 7)) := ⟨rfl, rfl, rfl, by decide +kernel, rfl, by decide +kernel, by decide +kernel⟩
theorem ok_ccx_gates (c_ccz_gates : CallF P w G mg base ("ccz_gates" : Str) 1 3 [] s_ccz_gates) {f : Addr} {fd : FuncData} (F : Fun G.K ("ccx_gates" : Str) ("ccx_gates" : Str) (topS 7) f fd) :
    FnOk P w G.K mg base (L2.CX P w) 2 f fd [("a" : Str), ("b" : Str), ("c" : Str)] (spF G 3 [] s_ccx_gates) :=
  fn_ok F sc_ccx_gates rfl rfl fun cdv A outer s H E hr bd =>
    (sl_one (ss_ret (se_op (ho_add bd.K) (se_op (ho_add bd.K) (se_lst (sa_cons (se_tup (sa_cons se_str (sa_cons (se_tup (sa_cons (se_var 2) sa_nil)) sa_nil))) sa_nil)) (se_callF [.val, .val, .val] bd.K bd.tk c_ccz_gates (hr.mono (by decide)) (sa_cons (se_var 0) (sa_cons (se_var 1) (sa_cons (se_var 2) sa_nil))))) (se_lst (sa_cons (se_tup (sa_cons se_str (sa_cons (se_tup (sa_cons (se_var 2) sa_nil)) sa_nil))) sa_nil)))))
theorem sc_macro_gates : FnScope [("kind" : Str), ("qubits" : Str), ("a" : Str), ("b" : Str), ("c" : Str)] [("kind" : Str), ("qubits" : Str)] (defScope (topS 9)) := ⟨rfl, rfl, rfl, by decide +kernel, rfl, by decide +kernel, by decide +kernel⟩
theorem ok_macro_gates (x_InvalidGate : ExF G mg ("InvalidGate" : Str) 1) (c_is_macro : CallF P w G mg base ("is_macro" : Str) 1 2 [] s_is_macro) (c_ccz_gates : CallF P w G mg base ("ccz_gates" : Str) 1 3 [] s_ccz_gates) (c_ccx_gates : CallF P w G mg base ("ccx_gates" : Str) 2 3 [] s_ccx_gates) {f : Addr} {fd : FuncData} (F : Fun G.K ("macro_gates" : Str) ("macro_gates" : Str) (topS 9) f fd) :
    FnOk P w G.K mg base (L2.CX P w) 3 f fd [("kind" : Str), ("qubits" : Str)] (spF G 2 [] s_macro_gates) :=
  fn_ok F sc_macro_gates rfl rfl fun cdv A outer s H E hr bd =>
    (sl_cons (ss_if (sb_not (sb_val (se_callF [.val, .val] bd.K bd.tk c_is_macro (hr.mono (by decide)) (sa_cons (se_var 0) (sa_cons (se_var 1) sa_nil)))))
    (sl_one (ss_raise 1 bd.K bd.calm bd.tk x_InvalidGate))
    sl_nil)
    (sl_cons (ss_if (sb_cmp (ho_eq bd.K hr.units) (se_var 0) se_str)
    (sl_cons (ss_asg (se_var 1) (sg_tup 2 bd.K bd.calm (sgs_cons (sg_name 2 bd.nd) (sgs_cons (sg_name 3 bd.nd) sgs_nil))))
    (sl_one (ss_ret (se_lst (sa_cons (se_tup (sa_cons se_str (sa_cons (se_tup (sa_cons (se_var 2) sa_nil)) sa_nil))) (sa_cons (se_tup (sa_cons se_str (sa_cons (se_tup (sa_cons (se_var 3) sa_nil)) sa_nil))) (sa_cons (se_tup (sa_cons se_str (sa_cons (se_tup (sa_cons (se_var 2) (sa_cons (se_var 3) sa_nil))) sa_nil))) (sa_cons (se_tup (sa_cons se_str (sa_cons (se_tup (sa_cons (se_var 3) sa_nil)) sa_nil))) (sa_cons (se_tup (sa_cons se_str (sa_cons (se_tup (sa_cons (se_var 2) (sa_cons (se_var 3) sa_nil))) sa_nil))) sa_nil)))))))))
    sl_nil)
    (sl_cons (ss_if (sb_cmp (ho_eq bd.K hr.units) (se_var 0) se_str)
    (sl_cons (ss_asg (se_var 1) (sg_tup 2 bd.K bd.calm (sgs_cons (sg_name 2 bd.nd) (sgs_cons (sg_name 3 bd.nd) sgs_nil))))
    (sl_one (ss_ret (se_lst (sa_cons (se_tup (sa_cons se_str (sa_cons (se_tup (sa_cons (se_var 2) sa_nil)) sa_nil))) (sa_cons (se_tup (sa_cons se_str (sa_cons (se_tup (sa_cons (se_var 3) sa_nil)) sa_nil))) (sa_cons (se_tup (sa_cons se_str (sa_cons (se_tup (sa_cons (se_var 2) (sa_cons (se_var 3) sa_nil))) sa_nil))) (sa_cons (se_tup (sa_cons se_str (sa_cons (se_tup (sa_cons (se_var 3) sa_nil)) sa_nil))) (sa_cons (se_tup (sa_cons se_str (sa_cons (se_tup (sa_cons (se_var 2) (sa_cons (se_var 3) sa_nil))) sa_nil))) sa_nil)))))))))
    sl_nil)
    (sl_cons (ss_asg (se_var 1) (sg_tup 3 bd.K bd.calm (sgs_cons (sg_name 2 bd.nd) (sgs_cons (sg_name 3 bd.nd) (sgs_cons (sg_name 4 bd.nd) sgs_nil)))))
    (sl_cons (ss_if (sb_cmp (ho_eq bd.K hr.units) (se_var 0) se_str)
    (sl_one (ss_ret (se_callF [.val, .val, .val] bd.K bd.tk c_ccz_gates (hr.mono (by decide)) (sa_cons (se_var 2) (sa_cons (se_var 3) (sa_cons (se_var 4) sa_nil))))))
    sl_nil)
    (sl_cons (ss_if (sb_cmp (ho_eq bd.K hr.units) (se_var 0) se_str)
    (sl_one (ss_ret (se_callF [.val, .val, .val] bd.K bd.tk c_ccx_gates (hr.mono (by decide)) (sa_cons (se_var 2) (sa_cons (se_var 3) (sa_cons (se_var 4) sa_nil))))))
    sl_nil)
    (sl_one (ss_ret (se_op (ho_add bd.K) (se_op (ho_add bd.K) (se_lst (sa_cons (se_tup (sa_cons se_str (sa_cons (se_tup (sa_cons (se_var 4) (sa_cons (se_var 3) sa_nil))) sa_nil))) sa_nil)) (se_callF [.val, .val, .val] bd.K bd.tk c_ccx_gates (hr.mono (by decide)) (sa_cons (se_var 2) (sa_cons (se_var 3) (sa_cons (se_var 4) sa_nil))))) (se_lst (sa_cons (se_tup (sa_cons se_str (sa_cons (se_tup (sa_cons (se_var 4) (sa_cons (se_var 3) sa_nil))) sa_nil))) sa_nil)))))))))))
theorem sc_L_is_integer : FnScope [("_law_actual" : Str)] [("_law_actual" : Str)] (defScope (topS 11)) := ⟨rfl, rfl, rfl, by decide +kernel, rfl, by decide +kernel, by decide +kernel⟩
theorem ok_L_is_integer (z_bool : mg ("bool" : Str) = none) (z_int : mg ("int" : Str) = none) (z_isinstance : mg ("isinstance" : Str) = none) {f : Addr} {fd : FuncData} (F : Fun G.K ("_law_is_integer" : Str) ("_law_is_integer" : Str) (topS 11) f fd) :
    FnOk P w G.K mg base (L2.CX P w) 1 f fd [("_law_actual" : Str)] (spF G 1 [] s_L_is_integer) :=
  fn_ok F sc_L_is_integer rfl rfl fun cdv A outer s H E hr bd =>
    (sl_one (ss_ret (se_and (se_isa bd.K z_isinstance z_int (se_var 0)) (se_one (se_not (se_isa bd.K z_isinstance z_bool (se_var 0)))))))
theorem sc_L_gate_fits : FnScope [("_law_gate" : Str), ("_law_width" : Str), ("_law_sizes" : Str), ("_law_qubit" : Str)] [("_law_gate" : Str), ("_law_width" : Str)] (defScope (topS 20)) := ⟨rfl, rfl, rfl, by decide +kernel, rfl, by decide +kernel, by decide +kernel⟩
theorem ok_L_gate_fits (z_isinstance : mg ("isinstance" : Str) = none) (z_len : mg ("len" : Str) = none) (z_str : mg ("str" : Str) = none) (z_tuple : mg ("tuple" : Str) = none) (c_L_is_integer : CallF P w G mg base ("_law_is_integer" : Str) 1 1 [] s_L_is_integer) {f : Addr} {fd : FuncData} (F : Fun G.K ("_law_gate_fits" : Str) ("_law_gate_fits" : Str) (topS 20) f fd) :
    FnOk P w G.K mg base (L2.CX P w) 2 f fd [("_law_gate" : Str), ("_law_width" : Str)] (spF G 2 [] s_L_gate_fits) :=
  fn_ok F sc_L_gate_fits rfl rfl fun cdv A outer s H E hr bd =>
    (sl_cons (ss_set 2 bd.nd (se_disp (spp_cons se_str se_int (spp_cons se_str se_int (spp_cons se_str se_int (spp_cons se_str se_int (spp_cons se_str se_int (spp_cons se_str se_int (spp_cons se_str se_int (spp_cons se_str se_int (spp_cons se_str se_int (spp_cons se_str se_int (spp_cons se_str se_int (spp_cons se_str se_int spp_nil))))))))))))))
    (sl_cons (ss_if (sb_w (sw_or (sb_not (sb_val (se_isa bd.K z_isinstance z_tuple (se_var 0)))) (sw_one_or (sb_cmp (ho_ne bd.K hr.units) (se_bi (hc_len bd.K) z_len (sa_cons (se_var 0) sa_nil)) se_int))))
    (sl_one (ss_ret se_bl))
    sl_nil)
    (sl_cons (ss_if (sb_w (sw_or (sb_not (sb_val (se_isa bd.K z_isinstance z_str (se_ix bd.K (se_var 0) se_int)))) (sw_one_or (sb_not (sb_val (se_isa bd.K z_isinstance z_tuple (se_ix bd.K (se_var 0) se_int)))))))
    (sl_one (ss_ret se_bl))
    sl_nil)
    (sl_cons (ss_if (sb_w (sw_or (sb_cmp (ho_notind bd.K (hu_of hr)) (se_ix bd.K (se_var 0) se_int) (se_var 2)) (sw_one_or (sb_cmp (ho_ne bd.K hr.units) (se_bi (hc_len bd.K) z_len (sa_cons (se_ix bd.K (se_var 0) se_int) sa_nil)) (se_ixd bd.K (hu_of hr) (se_var 2) (se_ix bd.K (se_var 0) se_int))))))
    (sl_one (ss_ret se_bl))
    sl_nil)
    (sl_cons (ss_for bd.own bd.calm (si_any bd.K (se_ix bd.K (se_var 0) se_int)) (sg_name 3 bd.nd)
    (sl_one (ss_if (sb_w (sw_or (sb_not (sb_val (se_callF [.val] bd.K bd.tk c_L_is_integer (hr.mono (by decide)) (sa_cons (se_var 3) sa_nil)))) (sw_one_or (sb_not (sb_chain ho_le ho_lt se_int (se_var 3) (se_var 1))))))
    (sl_one (ss_ret se_bl))
    sl_nil)))
    (sl_one (ss_ret (se_or (se_cmp ho_lt (se_bi (hc_len bd.K) z_len (sa_cons (se_ix bd.K (se_var 0) se_int) sa_nil)) se_int) (se_one (se_cmp (ho_ne bd.K hr.units) (se_ix bd.K (se_ix bd.K (se_var 0) se_int) se_int) (se_ix bd.K (se_ix bd.K (se_var 0) se_int) se_int)))))))))))
theorem sc_L_list_fits : FnScope [("_law_actual" : Str), ("_law_width" : Str), ("_law_gate" : Str)] [("_law_actual" : Str), ("_law_width" : Str)] (defScope (topS 21)) := ⟨rfl, rfl, rfl, by decide +kernel, rfl, by decide +kernel, by decide +kernel⟩
theorem ok_L_list_fits (z_isinstance : mg ("isinstance" : Str) = none) (z_list : mg ("list" : Str) = none) (c_L_gate_fits : CallF P w G mg base ("_law_gate_fits" : Str) 2 2 [] s_L_gate_fits) {f : Addr} {fd : FuncData} (F : Fun G.K ("_law_list_fits" : Str) ("_law_list_fits" : Str) (topS 21) f fd) :
    FnOk P w G.K mg base (L2.CX P w) 3 f fd [("_law_actual" : Str), ("_law_width" : Str)] (spF G 2 [] s_L_list_fits) :=
  fn_ok F sc_L_list_fits rfl rfl fun cdv A outer s H E hr bd =>
    (sl_cons (ss_if (sb_not (sb_val (se_isa bd.K z_isinstance z_list (se_var 0))))
    (sl_one (ss_ret se_bl))
    sl_nil)
    (sl_cons (ss_for bd.own bd.calm (si_any bd.K (se_var 0)) (sg_name 2 bd.nd)
    (sl_one (ss_if (sb_not (sb_val (se_callF [.val, .val] bd.K bd.tk c_L_gate_fits (hr.mono (by decide)) (sa_cons (se_var 2) (sa_cons (se_var 1) sa_nil)))))
    (sl_one (ss_ret se_bl))
    sl_nil)))
    (sl_one (ss_ret se_bl))))
theorem sc_L_due : FnScope [("_law_kind" : Str), ("_law_qubits" : Str), ("_law_index" : Str), ("_law_a" : Str), ("_law_b" : Str), ("_law_c" : Str), ("_law_change" : Str)] [("_law_kind" : Str), ("_law_qubits" : Str), ("_law_index" : Str)] (defScope (topS 22)) := ⟨rfl, rfl, rfl, by decide +kernel, rfl, by decide +kernel, by decide +kernel⟩
theorem ok_L_due {f : Addr} {fd : FuncData} (F : Fun G.K ("_law_due" : Str) ("_law_due" : Str) (topS 22) f fd) :
    FnOk P w G.K mg base (L2.CX P w) 1 f fd [("_law_kind" : Str), ("_law_qubits" : Str), ("_law_index" : Str)] (spF G 3 [] s_L_due) :=
  fn_ok F sc_L_due rfl rfl fun cdv A outer s H E hr bd =>
    (sl_cons (ss_set 3 bd.nd (se_op ho_and (se_op ho_shr (se_var 2) (se_ix bd.K (se_var 1) se_int)) se_int))
    (sl_cons (ss_set 4 bd.nd (se_op ho_and (se_op ho_shr (se_var 2) (se_ix bd.K (se_var 1) se_int)) se_int))
    (sl_cons (ss_if (sb_cmp (ho_eq bd.K hr.units) (se_var 0) se_str)
    (sl_one (ss_ret (se_tup (sa_cons (se_var 2) (sa_cons (se_op ho_mul (se_op ho_mul se_int (se_var 3)) (se_var 4)) sa_nil)))))
    sl_nil)
    (sl_cons (ss_if (sb_cmp (ho_eq bd.K hr.units) (se_var 0) se_str)
    (sl_one (ss_ret (se_tup (sa_cons (se_var 2) (sa_cons (se_op ho_mul (se_op ho_mul se_int (se_var 3)) (se_var 4)) sa_nil)))))
    sl_nil)
    (sl_cons (ss_set 5 bd.nd (se_op ho_and (se_op ho_shr (se_var 2) (se_ix bd.K (se_var 1) se_int)) se_int))
    (sl_cons (ss_if (sb_cmp (ho_eq bd.K hr.units) (se_var 0) se_str)
    (sl_one (ss_ret (se_tup (sa_cons (se_var 2) (sa_cons (se_op ho_mul (se_op ho_mul (se_op ho_mul se_int (se_var 3)) (se_var 4)) (se_var 5)) sa_nil)))))
    sl_nil)
    (sl_cons (ss_if (sb_cmp (ho_eq bd.K hr.units) (se_var 0) se_str)
    (sl_one (ss_ret (se_tup (sa_cons (se_op ho_xor (se_var 2) (se_op ho_shl (se_op ho_mul (se_var 3) (se_var 4)) (se_ix bd.K (se_var 1) se_int))) (sa_cons se_int sa_nil)))))
    sl_nil)
    (sl_cons (ss_set 6 bd.nd (se_op ho_mul (se_var 3) (se_op ho_xor (se_var 4) (se_var 5))))
    (sl_one (ss_ret (se_tup (sa_cons (se_op ho_xor (se_op ho_xor (se_var 2) (se_op ho_shl (se_var 6) (se_ix bd.K (se_var 1) se_int))) (se_op ho_shl (se_var 6) (se_ix bd.K (se_var 1) se_int))) (sa_cons se_int sa_nil)))))))))))))
theorem sc_L_root : FnScope [("_law_amps" : Str), ("_law_times" : Str), ("_law_k" : Str), ("_law_more" : Str), ("_law_index" : Str), ("_law_x" : Str)] [("_law_amps" : Str), ("_law_times" : Str)] (defScope (topS 18)) := ⟨rfl, rfl, rfl, by decide +kernel, rfl, by decide +kernel, by decide +kernel⟩
theorem ok_L_root (z_range : mg ("range" : Str) = none) {f : Addr} {fd : FuncData} (F : Fun G.K ("_law_root" : Str) ("_law_root" : Str) (topS 18) f fd) :
    FnOk P w G.K mg base (L2.CX P w) 1 f fd [("_law_amps" : Str), ("_law_times" : Str)] (spF G 2 [] s_L_root) :=
  fn_ok F sc_L_root rfl rfl fun cdv A outer s H E hr bd =>
    (sl_cons (ss_for bd.own bd.calm (si_rng1 z_range (sa_cons (se_var 1) sa_nil)) (sg_name 2 bd.nd)
    (sl_cons (ss_set 3 bd.nd se_dnew)
    (sl_cons (ss_frz 0 (ss_forK bd.own bd.calm bd.K (se_var 0) (sg_name 4 bd.nd)
    (sl_cons (ss_set 5 bd.nd (se_ixd bd.K (hu_of hr) (se_var 0) (se_var 4)))
    (sl_one (ss_asg (se_tup (sa_cons (se_op ho_sub (se_ixd bd.K (hu_of hr) (se_var 5) se_int) (se_ixd bd.K (hu_of hr) (se_var 5) se_int)) (sa_cons (se_op (ho_add bd.K) (se_ixd bd.K (hu_of hr) (se_var 5) se_int) (se_ixd bd.K (hu_of hr) (se_var 5) se_int)) (sa_cons (se_op (ho_add bd.K) (se_ixd bd.K (hu_of hr) (se_var 5) se_int) (se_ixd bd.K (hu_of hr) (se_var 5) se_int)) (sa_cons (se_op ho_sub (se_ixd bd.K (hu_of hr) (se_var 5) se_int) (se_ixd bd.K (hu_of hr) (se_var 5) se_int)) sa_nil))))) (sg_sub (se_var 3) (se_var 4) (ho_setD (hu_of hr))))))))
    (sl_one (ss_set 0 bd.nd (se_var 3))))))
    (sl_one (ss_ret (se_var 0))))
theorem sc_L_turn : FnScope [("_law_x" : Str), ("_law_steps" : Str), ("_law_k" : Str)] [("_law_x" : Str), ("_law_steps" : Str)] (defScope (topS 13)) := ⟨rfl, rfl, rfl, by decide +kernel, rfl, by decide +kernel, by decide +kernel⟩
theorem ok_L_turn (z_int : mg ("int" : Str) = none) (z_range : mg ("range" : Str) = none) {f : Addr} {fd : FuncData} (F : Fun G.K ("_law_turn" : Str) ("_law_turn" : Str) (topS 13) f fd) :
    FnOk P w G.K mg base (L2.CX P w) 1 f fd [("_law_x" : Str), ("_law_steps" : Str)] (spF G 2 [] s_L_turn) :=
  fn_ok F sc_L_turn rfl rfl fun cdv A outer s H E hr bd =>
    (sl_cons (ss_for bd.own bd.calm (si_rng1 z_range (sa_cons (se_op ho_mod (se_ty hc_int z_int (sa_cons (se_var 1) sa_nil)) se_int) sa_nil)) (sg_name 2 bd.nd)
    (sl_one (ss_set 0 bd.nd (se_tup (sa_cons (se_un ho_neg (se_ixd bd.K (hu_of hr) (se_var 0) se_int)) (sa_cons (se_ixd bd.K (hu_of hr) (se_var 0) se_int) (sa_cons (se_ixd bd.K (hu_of hr) (se_var 0) se_int) (sa_cons (se_ixd bd.K (hu_of hr) (se_var 0) se_int) sa_nil))))))))
    (sl_one (ss_ret (se_var 0))))
theorem sc_L_same : FnScope [("_law_first" : Str), ("_law_second" : Str), ("_law_turns" : Str), ("_law_one" : Str), ("_law_two" : Str), ("_law_index" : Str)] [("_law_first" : Str), ("_law_second" : Str), ("_law_turns" : Str)] (defScope (topS 19)) := ⟨rfl, rfl, rfl, by decide +kernel, rfl, by decide +kernel, by decide +kernel⟩
theorem ok_L_same (z_list : mg ("list" : Str) = none) (z_max : mg ("max" : Str) = none) (c_L_root : CallF P w G mg base ("_law_root" : Str) 1 2 [] s_L_root) (c_L_turn : CallF P w G mg base ("_law_turn" : Str) 1 2 [] s_L_turn) {f : Addr} {fd : FuncData} (F : Fun G.K ("_law_same" : Str) ("_law_same" : Str) (topS 19) f fd) :
    FnOk P w G.K mg base (L2.CX P w) 2 f fd [("_law_first" : Str), ("_law_second" : Str), ("_law_turns" : Str)] (spF G 3 [] s_L_same) :=
  fn_ok F sc_L_same rfl rfl fun cdv A outer s H E hr bd =>
    (sl_cons (ss_set 3 bd.nd (se_callF [.mov, .mov] bd.K bd.tk c_L_root (hr.mono (by decide)) (sa_cons (se_ix bd.K (se_var 0) se_int) (sa_cons (se_bi (hc_max1 bd.K bd.calm) z_max (sa_cons se_int (sa_cons (se_op ho_sub (se_ix bd.K (se_var 1) se_int) (se_ix bd.K (se_var 0) se_int)) sa_nil))) sa_nil))))
    (sl_cons (ss_set 4 bd.nd (se_callF [.mov, .mov] bd.K bd.tk c_L_root (hr.mono (by decide)) (sa_cons (se_ix bd.K (se_var 1) se_int) (sa_cons (se_bi (hc_max1 bd.K bd.calm) z_max (sa_cons se_int (sa_cons (se_op ho_sub (se_ix bd.K (se_var 0) se_int) (se_ix bd.K (se_var 1) se_int)) sa_nil))) sa_nil))))
    (sl_cons (ss_for bd.own bd.calm (si_any bd.K (se_op (ho_add bd.K) (se_ty (hc_listd bd.K bd.calm) z_list (sa_cons (se_var 3) sa_nil)) (se_ty (hc_listd bd.K bd.calm) z_list (sa_cons (se_var 4) sa_nil)))) (sg_name 5 bd.nd)
    (sl_one (ss_if (sb_cmp (ho_ne bd.K hr.units) (se_dget2 (hu_of hr) (se_var 3) (se_var 5) (se_tup (sa_cons se_int (sa_cons se_int (sa_cons se_int (sa_cons se_int sa_nil)))))) (se_callF [.mov, .val] bd.K bd.tk c_L_turn (hr.mono (by decide)) (sa_cons (se_dget2 (hu_of hr) (se_var 4) (se_var 5) (se_tup (sa_cons se_int (sa_cons se_int (sa_cons se_int (sa_cons se_int sa_nil)))))) (sa_cons (se_var 2) sa_nil))))
    (sl_one (ss_ret se_bl))
    sl_nil)))
    (sl_one (ss_ret se_bl)))))
theorem sc_L_put : FnScope [("_law_amps" : Str), ("_law_index" : Str), ("_law_x" : Str), ("_law_old" : Str)] [("_law_amps" : Str), ("_law_index" : Str), ("_law_x" : Str)] (defScope (topS 14)) := ⟨rfl, rfl, rfl, by decide +kernel, rfl, by decide +kernel, by decide +kernel⟩
theorem ok_L_put {f : Addr} {fd : FuncData} (F : Fun G.K ("_law_put" : Str) ("_law_put" : Str) (topS 14) f fd) :
    FnOk P w G.K mg base (L2.CX P w) 1 f fd [("_law_amps" : Str), ("_law_index" : Str), ("_law_x" : Str)] (spF G 3 [0] s_L_put) :=
  fn_ok F sc_L_put rfl rfl fun cdv A outer s H E hr bd =>
    (sl_cons (ss_set 3 bd.nd (se_dget2 (hu_of hr) (se_var 0) (se_var 1) (se_tup (sa_cons se_int (sa_cons se_int (sa_cons se_int (sa_cons se_int sa_nil)))))))
    (sl_one (ss_asg (se_tup (sa_cons (se_op (ho_add bd.K) (se_ixd bd.K (hu_of hr) (se_var 3) se_int) (se_ixd bd.K (hu_of hr) (se_var 2) se_int)) (sa_cons (se_op (ho_add bd.K) (se_ixd bd.K (hu_of hr) (se_var 3) se_int) (se_ixd bd.K (hu_of hr) (se_var 2) se_int)) (sa_cons (se_op (ho_add bd.K) (se_ixd bd.K (hu_of hr) (se_var 3) se_int) (se_ixd bd.K (hu_of hr) (se_var 2) se_int)) (sa_cons (se_op (ho_add bd.K) (se_ixd bd.K (hu_of hr) (se_var 3) se_int) (se_ixd bd.K (hu_of hr) (se_var 2) se_int)) sa_nil))))) (sg_sub (se_var 0) (se_var 1) (ho_setD (hu_of hr))))))
theorem sc_L_move : FnScope [("_law_index" : Str), ("_law_gate" : Str), ("_law_kind" : Str), ("_law_one" : Str), ("_law_two" : Str), ("_law_change" : Str), ("_law_steps" : Str)] [("_law_index" : Str), ("_law_gate" : Str)] (defScope (topS 15)) := ⟨rfl, rfl, rfl, by decide +kernel, rfl, by decide +kernel, by decide +kernel⟩
theorem ok_L_move {f : Addr} {fd : FuncData} (F : Fun G.K ("_law_move" : Str) ("_law_move" : Str) (topS 15) f fd) :
    FnOk P w G.K mg base (L2.CX P w) 1 f fd [("_law_index" : Str), ("_law_gate" : Str)] (spF G 2 [] s_L_move) :=
  fn_ok F sc_L_move rfl rfl fun cdv A outer s H E hr bd =>
    (sl_cons (ss_set 2 bd.nd (se_ix bd.K (se_var 1) se_int))
    (sl_cons (ss_if (sb_cmp (ho_eq bd.K hr.units) (se_var 2) se_str)
    (sl_one (ss_ret (se_tup (sa_cons (se_var 0) (sa_cons se_int sa_nil)))))
    sl_nil)
    (sl_cons (ss_set 3 bd.nd (se_op ho_and (se_op ho_shr (se_var 0) (se_ix bd.K (se_ix bd.K (se_var 1) se_int) se_int)) se_int))
    (sl_cons (ss_if (sb_cmp (ho_eq bd.K hr.units) (se_var 2) se_str)
    (sl_one (ss_ret (se_tup (sa_cons (se_op ho_xor (se_var 0) (se_op ho_shl se_int (se_ix bd.K (se_ix bd.K (se_var 1) se_int) se_int))) (sa_cons se_int sa_nil)))))
    sl_nil)
    (sl_cons (ss_if (sb_cmp (ho_eq bd.K hr.units) (se_var 2) se_str)
    (sl_one (ss_ret (se_tup (sa_cons (se_op ho_xor (se_var 0) (se_op ho_shl se_int (se_ix bd.K (se_ix bd.K (se_var 1) se_int) se_int))) (sa_cons (se_op (ho_add bd.K) se_int (se_op ho_mul se_int (se_var 3))) sa_nil)))))
    sl_nil)
    (sl_cons (ss_if (sb_cmp (ho_in bd.K) (se_var 2) (se_tup (sa_cons se_str (sa_cons se_str (sa_cons se_str (sa_cons se_str (sa_cons se_str sa_nil)))))))
    (sl_cons (ss_set 6 bd.nd (se_disp (spp_cons se_str se_int (spp_cons se_str se_int (spp_cons se_str se_int (spp_cons se_str se_int (spp_cons se_str se_int spp_nil)))))))
    (sl_one (ss_ret (se_tup (sa_cons (se_var 0) (sa_cons (se_op ho_mul (se_ixd bd.K (hu_of hr) (se_var 6) (se_var 2)) (se_var 3)) sa_nil))))))
    sl_nil)
    (sl_cons (ss_set 4 bd.nd (se_op ho_and (se_op ho_shr (se_var 0) (se_ix bd.K (se_ix bd.K (se_var 1) se_int) se_int)) se_int))
    (sl_cons (ss_if (sb_cmp (ho_eq bd.K hr.units) (se_var 2) se_str)
    (sl_one (ss_ret (se_tup (sa_cons (se_op ho_xor (se_var 0) (se_op ho_shl (se_var 3) (se_ix bd.K (se_ix bd.K (se_var 1) se_int) se_int))) (sa_cons se_int sa_nil)))))
    sl_nil)
    (sl_cons (ss_if (sb_cmp (ho_eq bd.K hr.units) (se_var 2) se_str)
    (sl_one (ss_ret (se_tup (sa_cons (se_var 0) (sa_cons (se_op ho_mul (se_op ho_mul se_int (se_var 3)) (se_var 4)) sa_nil)))))
    sl_nil)
    (sl_cons (ss_set 5 bd.nd (se_op ho_xor (se_var 3) (se_var 4)))
    (sl_one (ss_ret (se_tup (sa_cons (se_op ho_xor (se_op ho_xor (se_var 0) (se_op ho_shl (se_var 5) (se_ix bd.K (se_ix bd.K (se_var 1) se_int) se_int))) (se_op ho_shl (se_var 5) (se_ix bd.K (se_ix bd.K (se_var 1) se_int) se_int))) (sa_cons se_int sa_nil)))))))))))))))
theorem sc_L_after : FnScope [("_law_amps" : Str), ("_law_gate" : Str), ("_law_after_here" : Str), ("_law_index" : Str), ("_law_kept" : Str), ("_law_x" : Str), ("_law_bit" : Str), ("_law_low" : Str), ("_law_moved" : Str)] [("_law_amps" : Str), ("_law_gate" : Str)] (defScope (topS 16)) := ⟨rfl, rfl, rfl, by decide +kernel, rfl, by decide +kernel, by decide +kernel⟩
theorem ok_L_after (c_L_put : CallF P w G mg base ("_law_put" : Str) 1 3 [0] s_L_put) (c_L_turn : CallF P w G mg base ("_law_turn" : Str) 1 2 [] s_L_turn) (c_L_move : CallF P w G mg base ("_law_move" : Str) 1 2 [] s_L_move) {f : Addr} {fd : FuncData} (F : Fun G.K ("_law_after" : Str) ("_law_after" : Str) (topS 16) f fd) :
    FnOk P w G.K mg base (L2.CX P w) 2 f fd [("_law_amps" : Str), ("_law_gate" : Str)] (spF G 2 [] s_L_after) :=
  fn_ok F sc_L_after rfl rfl fun cdv A outer s H E hr bd =>
    (sl_cons (ss_set 2 bd.nd se_dnew)
    (sl_cons (ss_frz 0 (ss_forK bd.own bd.calm bd.K (se_var 0) (sg_name 3 bd.nd)
    (sl_cons (ss_set 5 bd.nd (se_ixd bd.K (hu_of hr) (se_var 0) (se_var 3)))
    (sl_one (ss_if (sb_cmp (ho_eq bd.K hr.units) (se_ix bd.K (se_var 1) se_int) se_str)
    (sl_cons (ss_set 6 bd.nd (se_op ho_and (se_op ho_shr (se_var 3) (se_ix bd.K (se_ix bd.K (se_var 1) se_int) se_int)) se_int))
    (sl_cons (ss_set 7 bd.nd (se_op ho_sub (se_var 3) (se_op ho_shl (se_var 6) (se_ix bd.K (se_ix bd.K (se_var 1) se_int) se_int))))
    (sl_cons (ss_expr (se_callF [.mut, .val, .val] bd.K bd.tk c_L_put (hr.mono (by decide)) (sa_cons (se_var 2) (sa_cons (se_var 7) (sa_cons (se_var 5) sa_nil)))))
    (sl_one (ss_expr (se_callF [.mut, .mov, .mov] bd.K bd.tk c_L_put (hr.mono (by decide)) (sa_cons (se_var 2) (sa_cons (se_op (ho_add bd.K) (se_var 7) (se_op ho_shl se_int (se_ix bd.K (se_ix bd.K (se_var 1) se_int) se_int))) (sa_cons (se_callF [.val, .mov] bd.K bd.tk c_L_turn (hr.mono (by decide)) (sa_cons (se_var 5) (sa_cons (se_op ho_mul se_int (se_var 6)) sa_nil))) sa_nil)))))))))
    (sl_cons (ss_set 8 bd.nd (se_callF [.val, .val] bd.K bd.tk c_L_move (hr.mono (by decide)) (sa_cons (se_var 3) (sa_cons (se_var 1) sa_nil))))
    (sl_one (ss_expr (se_callF [.mut, .val, .mov] bd.K bd.tk c_L_put (hr.mono (by decide)) (sa_cons (se_var 2) (sa_cons (se_ix bd.K (se_var 8) se_int) (sa_cons (se_callF [.val, .val] bd.K bd.tk c_L_turn (hr.mono (by decide)) (sa_cons (se_var 5) (sa_cons (se_ix bd.K (se_var 8) se_int) sa_nil))) sa_nil))))))))))))
    (sl_cons (ss_set 4 bd.nd se_dnew)
    (sl_cons (ss_frz 2 (ss_forK bd.own bd.calm bd.K (se_var 2) (sg_name 3 bd.nd)
    (sl_one (ss_if (sb_cmp (ho_ne bd.K hr.units) (se_ixd bd.K (hu_of hr) (se_var 2) (se_var 3)) (se_tup (sa_cons se_int (sa_cons se_int (sa_cons se_int (sa_cons se_int sa_nil))))))
    (sl_one (ss_asg (se_ixd bd.K (hu_of hr) (se_var 2) (se_var 3)) (sg_sub (se_var 4) (se_var 3) (ho_setD (hu_of hr)))))
    sl_nil))))
    (sl_one (ss_ret (se_var 4)))))))
theorem sc_L_sim : FnScope [("_law_gates" : Str), ("_law_index" : Str), ("_law_amps" : Str), ("_law_roots" : Str), ("_law_gate" : Str)] [("_law_gates" : Str), ("_law_index" : Str)] (defScope (topS 17)) := ⟨rfl, rfl, rfl, by decide +kernel, rfl, by decide +kernel, by decide +kernel⟩
theorem ok_L_sim (z_int : mg ("int" : Str) = none) (c_L_after : CallF P w G mg base ("_law_after" : Str) 2 2 [] s_L_after) {f : Addr} {fd : FuncData} (F : Fun G.K ("_law_sim" : Str) ("_law_sim" : Str) (topS 17) f fd) :
    FnOk P w G.K mg base (L2.CX P w) 3 f fd [("_law_gates" : Str), ("_law_index" : Str)] (spF G 2 [] s_L_sim) :=
  fn_ok F sc_L_sim rfl rfl fun cdv A outer s H E hr bd =>
    (sl_cons (ss_set 2 bd.nd (se_disp (spp_cons (se_var 1) (se_tup (sa_cons se_int (sa_cons se_int (sa_cons se_int (sa_cons se_int sa_nil))))) spp_nil)))
    (sl_cons (ss_set 3 bd.nd se_int)
    (sl_cons (ss_for bd.own bd.calm (si_any bd.K (se_var 0)) (sg_name 4 bd.nd)
    (sl_cons (ss_set 2 bd.nd (se_callF [.val, .val] bd.K bd.tk c_L_after (hr.mono (by decide)) (sa_cons (se_var 2) (sa_cons (se_var 4) sa_nil))))
    (sl_one (ss_set 3 bd.nd (se_op (ho_add bd.K) (se_var 3) (se_ty hc_int z_int (sa_cons (se_cmp (ho_eq bd.K hr.units) (se_ix bd.K (se_var 4) se_int) se_str) sa_nil)))))))
    (sl_one (ss_ret (se_tup (sa_cons (se_var 2) (sa_cons (se_var 3) sa_nil))))))))
theorem sc_law : FnScope [("_law_script" : Str), ("_law_names" : Str), ("_law_sizes" : Str), ("_law_lengths" : Str), ("_law_pick" : Str), ("_law_count" : Str), ("_law_qubits" : Str), ("_law_index" : Str), ("_law_due_here" : Str), ("_law_k" : Str), ("e" : Str), ("_law_moved" : Str), ("_law_gates" : Str)] [("_law_script" : Str)] (defScope (topS 23)) := ⟨rfl, rfl, rfl, by decide +kernel, rfl, by decide +kernel, by decide +kernel⟩
theorem ok_law (z_int : mg ("int" : Str) = none) (z_isinstance : mg ("isinstance" : Str) = none) (z_len : mg ("len" : Str) = none) (z_max : mg ("max" : Str) = none) (z_range : mg ("range" : Str) = none) (z_tuple : mg ("tuple" : Str) = none) (k_MACROS : ConstF G mg ("MACROS" : Str) cv_MACROS) (n_InvalidGate : ExN G mg ("InvalidGate" : Str) 1 tb_InvalidGate) (n_PhasorError : ExN G mg ("PhasorError" : Str) 0 tb_PhasorError) (c_L_cell : CallF P w G mg base ("_law_cell" : Str) 1 2 [] s_L_cell) (c_macro_gates : CallF P w G mg base ("macro_gates" : Str) 3 2 [] s_macro_gates) (c_L_list_fits : CallF P w G mg base ("_law_list_fits" : Str) 3 2 [] s_L_list_fits) (c_L_due : CallF P w G mg base ("_law_due" : Str) 1 3 [] s_L_due) (c_L_same : CallF P w G mg base ("_law_same" : Str) 2 3 [] s_L_same) (c_L_turn : CallF P w G mg base ("_law_turn" : Str) 1 2 [] s_L_turn) (c_L_sim : CallF P w G mg base ("_law_sim" : Str) 3 2 [] s_L_sim) {f : Addr} {fd : FuncData} (F : Fun G.K ("law" : Str) ("law" : Str) (topS 23) f fd) :
    FnOk P w G.K mg base (L2.CX P w) 4 f fd [("_law_script" : Str)] (spF G 1 [] s_law) :=
  fn_ok F sc_law rfl rfl fun cdv A outer s H E hr bd =>
    (sl_cons (ss_set 1 bd.nd (se_lst (sa_cons se_str (sa_cons se_str (sa_cons se_str (sa_cons se_str (sa_cons se_str (sa_cons se_str (sa_cons se_str (sa_cons se_str sa_nil))))))))))
    (sl_cons (ss_set 2 bd.nd (se_lst (sa_cons se_int (sa_cons se_int (sa_cons se_int (sa_cons se_int (sa_cons se_int (sa_cons (se_un ho_neg se_int) (sa_cons (se_un ho_neg se_int) (sa_cons (se_un ho_neg se_int) sa_nil))))))))))
    (sl_cons (ss_set 3 bd.nd (se_lst (sa_cons se_int (sa_cons se_int (sa_cons se_int (sa_cons se_int (sa_cons se_int sa_nil)))))))
    (sl_cons (ss_set 4 bd.nd (se_op ho_mod (se_ty hc_int z_int (sa_cons (se_callF [.val, .val] bd.K bd.tk c_L_cell (hr.mono (by decide)) (sa_cons (se_var 0) (sa_cons se_int sa_nil))) sa_nil)) se_int))
    (sl_cons (ss_if (sb_cmp (ho_ne bd.K hr.units) (se_op ho_mod (se_ty hc_int z_int (sa_cons (se_op ho_div (se_callF [.val, .val] bd.K bd.tk c_L_cell (hr.mono (by decide)) (sa_cons (se_var 0) (sa_cons se_int sa_nil))) se_int) sa_nil)) se_int) se_int)
    (sl_one (ss_set 4 bd.nd (se_op ho_mod (se_ty hc_int z_int (sa_cons (se_op ho_div (se_callF [.val, .val] bd.K bd.tk c_L_cell (hr.mono (by decide)) (sa_cons (se_var 0) (sa_cons se_int sa_nil))) se_int) sa_nil)) se_int)))
    sl_nil)
    (sl_cons (ss_set 5 bd.nd (se_bi (hc_max1 bd.K bd.calm) z_max (sa_cons se_int (sa_cons (se_ix bd.K (se_var 2) (se_var 4)) sa_nil))))
    (sl_cons (ss_if (sb_cmp (ho_eq bd.K hr.units) (se_op ho_mod (se_ty hc_int z_int (sa_cons (se_callF [.val, .val] bd.K bd.tk c_L_cell (hr.mono (by decide)) (sa_cons (se_var 0) (sa_cons se_int sa_nil))) sa_nil)) se_int) se_int)
    (sl_one (ss_set 5 bd.nd (se_op ho_mod (se_ty hc_int z_int (sa_cons (se_op ho_div (se_callF [.val, .val] bd.K bd.tk c_L_cell (hr.mono (by decide)) (sa_cons (se_var 0) (sa_cons se_int sa_nil))) se_int) sa_nil)) se_int)))
    sl_nil)
    (sl_cons (ss_setLc 6 (own := [(("_law_k" : Str), 9)]) bd.calm bd.nd (si_rng1 z_range (sa_cons (se_var 5) sa_nil)) (blkOk_by (by show blkC [("_law_script" : Str), ("_law_names" : Str), ("_law_sizes" : Str), ("_law_lengths" : Str), ("_law_pick" : Str), ("_law_count" : Str), ("_law_qubits" : Str), ("_law_index" : Str), ("_law_due_here" : Str), ("_law_k" : Str), ("e" : Str), ("_law_moved" : Str), ("_law_gates" : Str)] (defScope (topS 23)) _ _ = true; decide +kernel)) (by decide) (fun _ _ _ _ _ => (sp_name 9 bd.nd)) (fun _ _ _ _ _ => sts_nil) (fun _ _ _ _ _ => (se_op ho_mod (se_ty hc_int z_int (sa_cons (se_op (ho_add bd.K) (se_callF [.val, .mov] bd.K takes0 c_L_cell (hr.mono (by decide)) (sa_cons (se_var 0) (sa_cons (se_op (ho_add bd.K) se_int (se_var 9)) sa_nil))) (se_var 9)) sa_nil)) se_int)))
    (sl_cons (ss_if (sb_cmp (ho_eq bd.K hr.units) (se_op ho_mod (se_ty hc_int z_int (sa_cons (se_callF [.val, .val] bd.K bd.tk c_L_cell (hr.mono (by decide)) (sa_cons (se_var 0) (sa_cons se_int sa_nil))) sa_nil)) se_int) se_int)
    (sl_one (ss_setLc 6 (own := [(("_law_k" : Str), 9)]) bd.calm bd.nd (si_rng1 z_range (sa_cons (se_var 5) sa_nil)) (blkOk_by (by show blkC [("_law_script" : Str), ("_law_names" : Str), ("_law_sizes" : Str), ("_law_lengths" : Str), ("_law_pick" : Str), ("_law_count" : Str), ("_law_qubits" : Str), ("_law_index" : Str), ("_law_due_here" : Str), ("_law_k" : Str), ("e" : Str), ("_law_moved" : Str), ("_law_gates" : Str)] (defScope (topS 23)) _ _ = true; decide +kernel)) (by decide) (fun _ _ _ _ _ => (sp_name 9 bd.nd)) (fun _ _ _ _ _ => sts_nil) (fun _ _ _ _ _ => (se_op ho_sub (se_op ho_mod (se_ty hc_int z_int (sa_cons (se_callF [.val, .mov] bd.K takes0 c_L_cell (hr.mono (by decide)) (sa_cons (se_var 0) (sa_cons (se_op (ho_add bd.K) se_int (se_var 9)) sa_nil))) sa_nil)) se_int) se_int))))
    sl_nil)
    (sl_cons (ss_set 7 bd.nd (se_op ho_mod (se_ty hc_int z_int (sa_cons (se_callF [.val, .val] bd.K bd.tk c_L_cell (hr.mono (by decide)) (sa_cons (se_var 0) (sa_cons se_int sa_nil))) sa_nil)) se_int))
    (sl_cons (ss_set 8 bd.nd (se_cmp (ho_eq bd.K hr.units) (se_var 5) (se_ix bd.K (se_var 2) (se_var 4))))
    (sl_cons (ss_for bd.own bd.calm (si_rng1 z_range (sa_cons (se_var 5) sa_nil)) (sg_name 9 bd.nd)
    (sl_one (ss_set 8 bd.nd (se_and (se_var 8) (se_and (se_cmp ho_ge (se_ix bd.K (se_var 6) (se_var 9)) se_int) (se_one (se_cmp (ho_notin bd.K) (se_ix bd.K (se_var 6) (se_var 9)) (se_slice bd.K (se_var 6) so_none (so_some (se_var 9))))))))))
    (sl_cons (ss_try 10 bd n_PhasorError (fun W pn xe bd => (sl_one (ss_set 12 bd.nd (se_callF [.val, .mov] bd.K bd.tk c_macro_gates (hr.mono (by decide)) (sa_cons (se_ix bd.K (se_var 1) (se_var 4)) (sa_cons (se_ty (hc_tuple bd.K) z_tuple (sa_cons (se_var 6) sa_nil)) sa_nil)))))) (fun a oe pn k hz hf => (slp_one (ssp_ret (sep_and (sep_isx bd.K hz hf n_InvalidGate z_isinstance) (sep_one (sep (se_not (se_var 8)))))))))
    (sl_cons (ss_if (sb_w (sw_or (sb_not (sb_val (se_var 8))) (sw_or (sb_not (sb_val (se_callF [.val, .val] bd.K bd.tk c_L_list_fits (hr.mono (by decide)) (sa_cons (se_var 12) (sa_cons se_int sa_nil))))) (sw_or (sb_cmp (ho_ne bd.K hr.units) (se_bi (hc_len bd.K) z_len (sa_cons (se_var 12) sa_nil)) (se_ix bd.K (se_var 3) (se_var 4))) (sw_one_or (sb_cmp (ho_ne bd.K hr.units) (se_const k_MACROS) (se_ty (hc_tuple bd.K) z_tuple (sa_cons (se_slice bd.K (se_var 1) so_none (so_some se_int)) sa_nil))))))))
    (sl_one (ss_ret se_bl))
    sl_nil)
    (sl_cons (ss_set 11 bd.nd (se_callF [.val, .val, .val] bd.K bd.tk c_L_due (hr.mono (by decide)) (sa_cons (se_ix bd.K (se_var 1) (se_var 4)) (sa_cons (se_var 6) (sa_cons (se_var 7) sa_nil)))))
    (sl_one (ss_ret (se_callF [.mov, .mov, .val] bd.K bd.tk c_L_same (hr.mono (by decide)) (sa_cons (se_callF [.val, .val] bd.K bd.tk c_L_sim (hr.mono (by decide)) (sa_cons (se_var 12) (sa_cons (se_var 7) sa_nil))) (sa_cons (se_tup (sa_cons (se_disp (spp_cons (se_ix bd.K (se_var 11) se_int) (se_callF [.mov, .val] bd.K bd.tk c_L_turn (hr.mono (by decide)) (sa_cons (se_tup (sa_cons se_int (sa_cons se_int (sa_cons se_int (sa_cons se_int sa_nil))))) (sa_cons (se_ix bd.K (se_var 11) se_int) sa_nil))) spp_nil)) (sa_cons se_int sa_nil))) (sa_cons se_int sa_nil)))))))))))))))))))))
end
def exA (K : PySem.W.Frag) (x : Str) : Addr := match PySem.W.nsIn K mainGlobals x with | some (some (.ref a)) => a | _ => 0
def flN : Nat → List Str := fun n => ([] : List (List Str)).getD n []
def GK (K : PySem.W.Frag) : GS := ⟨K, fun n => exA K (([] : List Str).getD n ""), flN, fun n => exA K (([("PhasorError" : Str), ("InvalidGate" : Str)] : List Str).getD n "")⟩
theorem all_mk {l : PySem.W.OpenLaw} {w : World} {K : PySem.W.Frag} {h : Heap} {mg : Str → Option Value} {fa : Addr} (X : K.In h) (G : h.Ns mainGlobals mg) (hfa : mg "law" = some (.ref fa))
    {f1 : Addr} {od1 an1 : Option Addr} {sl1 : Array (Option Value)} {oc1 kV1 dc1 pm1 cd1 ct1 : Value}
    {f2 : Addr} {od2 an2 : Option Addr} {sl2 : Array (Option Value)} {oc2 kV2 dc2 pm2 cd2 ct2 : Value}
    {f3 : Addr} {od3 an3 : Option Addr} {sl3 : Array (Option Value)} {oc3 kV3 dc3 pm3 cd3 ct3 : Value}
    {f4 : Addr} {od4 an4 : Option Addr} {sl4 : Array (Option Value)} {oc4 kV4 dc4 pm4 cd4 ct4 : Value}
    {f5 : Addr} {od5 an5 : Option Addr} {sl5 : Array (Option Value)} {oc5 kV5 dc5 pm5 cd5 ct5 : Value}
    {f6 : Addr} {od6 an6 : Option Addr} {sl6 : Array (Option Value)} {oc6 kV6 dc6 pm6 cd6 ct6 : Value}
    {f7 : Addr} {od7 an7 : Option Addr} {sl7 : Array (Option Value)} {oc7 kV7 dc7 pm7 cd7 ct7 : Value}
    {f8 : Addr} {od8 an8 : Option Addr} {sl8 : Array (Option Value)} {oc8 kV8 dc8 pm8 cd8 ct8 : Value}
    {f9 : Addr} {od9 an9 : Option Addr} {sl9 : Array (Option Value)} {oc9 kV9 dc9 pm9 cd9 ct9 : Value}
    {f10 : Addr} {od10 an10 : Option Addr} {sl10 : Array (Option Value)} {oc10 kV10 dc10 pm10 cd10 ct10 : Value}
    {f11 : Addr} {od11 an11 : Option Addr} {sl11 : Array (Option Value)} {oc11 kV11 dc11 pm11 cd11 ct11 : Value}
    {f12 : Addr} {od12 an12 : Option Addr} {sl12 : Array (Option Value)} {oc12 kV12 dc12 pm12 cd12 ct12 : Value}
    {f13 : Addr} {od13 an13 : Option Addr} {sl13 : Array (Option Value)} {oc13 kV13 dc13 pm13 cd13 ct13 : Value}
    {f14 : Addr} {od14 an14 : Option Addr} {sl14 : Array (Option Value)} {oc14 kV14 dc14 pm14 cd14 ct14 : Value}
    {f15 : Addr} {od15 an15 : Option Addr} {sl15 : Array (Option Value)} {oc15 kV15 dc15 pm15 cd15 ct15 : Value}
    {f16 : Addr} {od16 an16 : Option Addr} {sl16 : Array (Option Value)} {oc16 kV16 dc16 pm16 cd16 ct16 : Value}
    {f17 : Addr} {od17 an17 : Option Addr} {sl17 : Array (Option Value)} {oc17 kV17 dc17 pm17 cd17 ct17 : Value}
    {t_MACROS_1 : Tok}
    {t_MACROS_2 : Tok}
    {t_MACROS_3 : Tok}
    {t_MACROS_4 : Tok}
    {t_MACROS_5 : Tok}
    {a_MACROS_1 : Addr} {n_MACROS_1 : Nat} {s_MACROS_1 : Array (Option Value)}
    {d_MACROS_1 : Option Addr}
    {a_MACRO_SIZES : Addr} {n_MACRO_SIZES : Nat}
    {t_MACRO_SIZES_1 : Tok}
    {t_MACRO_SIZES_2 : Tok}
    {t_MACRO_SIZES_3 : Tok}
    {t_MACRO_SIZES_4 : Tok}
    {t_MACRO_SIZES_5 : Tok}
    {t_MACRO_SIZES_6 : Tok}
    {t_MACRO_SIZES_7 : Tok}
    {t_MACRO_SIZES_8 : Tok}
    {t_MACRO_SIZES_9 : Tok}
    {t_MACRO_SIZES_10 : Tok}
    {xa_PhasorError : Addr}
    {xa_InvalidGate : Addr}
    (a1 : PySem.W.nsIn K mainGlobals ("_law_cell" : Str) = some (some (.ref f1)))
    (l1 : K.lookup f1 = some ⟨oc1, od1, .func (PySem.W.fnOf ("_law_cell" : Str) ("_law_cell" : Str) (defArgs (topS 12)) (defBody (topS 12)) (defScope (topS 12)) .none kV1 dc1 pm1 an1 cd1 ct1), sl1⟩) (e1 : PySem.W.codeIn K cd1 ("_law_cell" : Str) = true) (k1 : PySem.W.keepIn K (.ref f1) = true)
    (a2 : PySem.W.nsIn K mainGlobals ("is_macro" : Str) = some (some (.ref f2)))
    (l2 : K.lookup f2 = some ⟨oc2, od2, .func (PySem.W.fnOf ("is_macro" : Str) ("is_macro" : Str) (defArgs (topS 8)) (defBody (topS 8)) (defScope (topS 8)) .none kV2 dc2 pm2 an2 cd2 ct2), sl2⟩) (e2 : PySem.W.codeIn K cd2 ("is_macro" : Str) = true) (k2 : PySem.W.keepIn K (.ref f2) = true)
    (a3 : PySem.W.nsIn K mainGlobals ("ccz_gates" : Str) = some (some (.ref f3)))
    (l3 : K.lookup f3 = some ⟨oc3, od3, .func (PySem.W.fnOf ("ccz_gates" : Str) ("ccz_gates" : Str) (defArgs (topS 6)) (defBody (topS 6)) (defScope (topS 6)) .none kV3 dc3 pm3 an3 cd3 ct3), sl3⟩) (e3 : PySem.W.codeIn K cd3 ("ccz_gates" : Str) = true) (k3 : PySem.W.keepIn K (.ref f3) = true)
    (a4 : PySem.W.nsIn K mainGlobals ("ccx_gates" : Str) = some (some (.ref f4)))
    (l4 : K.lookup f4 = some ⟨oc4, od4, .func (PySem.W.fnOf ("ccx_gates" : Str) ("ccx_gates" : Str) (defArgs (topS 7)) (defBody (topS 7)) (defScope (topS 7)) .none kV4 dc4 pm4 an4 cd4 ct4), sl4⟩) (e4 : PySem.W.codeIn K cd4 ("ccx_gates" : Str) = true) (k4 : PySem.W.keepIn K (.ref f4) = true)
    (a5 : PySem.W.nsIn K mainGlobals ("macro_gates" : Str) = some (some (.ref f5)))
    (l5 : K.lookup f5 = some ⟨oc5, od5, .func (PySem.W.fnOf ("macro_gates" : Str) ("macro_gates" : Str) (defArgs (topS 9)) (defBody (topS 9)) (defScope (topS 9)) .none kV5 dc5 pm5 an5 cd5 ct5), sl5⟩) (e5 : PySem.W.codeIn K cd5 ("macro_gates" : Str) = true) (k5 : PySem.W.keepIn K (.ref f5) = true)
    (a6 : PySem.W.nsIn K mainGlobals ("_law_is_integer" : Str) = some (some (.ref f6)))
    (l6 : K.lookup f6 = some ⟨oc6, od6, .func (PySem.W.fnOf ("_law_is_integer" : Str) ("_law_is_integer" : Str) (defArgs (topS 11)) (defBody (topS 11)) (defScope (topS 11)) .none kV6 dc6 pm6 an6 cd6 ct6), sl6⟩) (e6 : PySem.W.codeIn K cd6 ("_law_is_integer" : Str) = true) (k6 : PySem.W.keepIn K (.ref f6) = true)
    (a7 : PySem.W.nsIn K mainGlobals ("_law_gate_fits" : Str) = some (some (.ref f7)))
    (l7 : K.lookup f7 = some ⟨oc7, od7, .func (PySem.W.fnOf ("_law_gate_fits" : Str) ("_law_gate_fits" : Str) (defArgs (topS 20)) (defBody (topS 20)) (defScope (topS 20)) .none kV7 dc7 pm7 an7 cd7 ct7), sl7⟩) (e7 : PySem.W.codeIn K cd7 ("_law_gate_fits" : Str) = true) (k7 : PySem.W.keepIn K (.ref f7) = true)
    (a8 : PySem.W.nsIn K mainGlobals ("_law_list_fits" : Str) = some (some (.ref f8)))
    (l8 : K.lookup f8 = some ⟨oc8, od8, .func (PySem.W.fnOf ("_law_list_fits" : Str) ("_law_list_fits" : Str) (defArgs (topS 21)) (defBody (topS 21)) (defScope (topS 21)) .none kV8 dc8 pm8 an8 cd8 ct8), sl8⟩) (e8 : PySem.W.codeIn K cd8 ("_law_list_fits" : Str) = true) (k8 : PySem.W.keepIn K (.ref f8) = true)
    (a9 : PySem.W.nsIn K mainGlobals ("_law_due" : Str) = some (some (.ref f9)))
    (l9 : K.lookup f9 = some ⟨oc9, od9, .func (PySem.W.fnOf ("_law_due" : Str) ("_law_due" : Str) (defArgs (topS 22)) (defBody (topS 22)) (defScope (topS 22)) .none kV9 dc9 pm9 an9 cd9 ct9), sl9⟩) (e9 : PySem.W.codeIn K cd9 ("_law_due" : Str) = true) (k9 : PySem.W.keepIn K (.ref f9) = true)
    (a10 : PySem.W.nsIn K mainGlobals ("_law_root" : Str) = some (some (.ref f10)))
    (l10 : K.lookup f10 = some ⟨oc10, od10, .func (PySem.W.fnOf ("_law_root" : Str) ("_law_root" : Str) (defArgs (topS 18)) (defBody (topS 18)) (defScope (topS 18)) .none kV10 dc10 pm10 an10 cd10 ct10), sl10⟩) (e10 : PySem.W.codeIn K cd10 ("_law_root" : Str) = true) (k10 : PySem.W.keepIn K (.ref f10) = true)
    (a11 : PySem.W.nsIn K mainGlobals ("_law_turn" : Str) = some (some (.ref f11)))
    (l11 : K.lookup f11 = some ⟨oc11, od11, .func (PySem.W.fnOf ("_law_turn" : Str) ("_law_turn" : Str) (defArgs (topS 13)) (defBody (topS 13)) (defScope (topS 13)) .none kV11 dc11 pm11 an11 cd11 ct11), sl11⟩) (e11 : PySem.W.codeIn K cd11 ("_law_turn" : Str) = true) (k11 : PySem.W.keepIn K (.ref f11) = true)
    (a12 : PySem.W.nsIn K mainGlobals ("_law_same" : Str) = some (some (.ref f12)))
    (l12 : K.lookup f12 = some ⟨oc12, od12, .func (PySem.W.fnOf ("_law_same" : Str) ("_law_same" : Str) (defArgs (topS 19)) (defBody (topS 19)) (defScope (topS 19)) .none kV12 dc12 pm12 an12 cd12 ct12), sl12⟩) (e12 : PySem.W.codeIn K cd12 ("_law_same" : Str) = true) (k12 : PySem.W.keepIn K (.ref f12) = true)
    (a13 : PySem.W.nsIn K mainGlobals ("_law_put" : Str) = some (some (.ref f13)))
    (l13 : K.lookup f13 = some ⟨oc13, od13, .func (PySem.W.fnOf ("_law_put" : Str) ("_law_put" : Str) (defArgs (topS 14)) (defBody (topS 14)) (defScope (topS 14)) .none kV13 dc13 pm13 an13 cd13 ct13), sl13⟩) (e13 : PySem.W.codeIn K cd13 ("_law_put" : Str) = true) (k13 : PySem.W.keepIn K (.ref f13) = true)
    (a14 : PySem.W.nsIn K mainGlobals ("_law_move" : Str) = some (some (.ref f14)))
    (l14 : K.lookup f14 = some ⟨oc14, od14, .func (PySem.W.fnOf ("_law_move" : Str) ("_law_move" : Str) (defArgs (topS 15)) (defBody (topS 15)) (defScope (topS 15)) .none kV14 dc14 pm14 an14 cd14 ct14), sl14⟩) (e14 : PySem.W.codeIn K cd14 ("_law_move" : Str) = true) (k14 : PySem.W.keepIn K (.ref f14) = true)
    (a15 : PySem.W.nsIn K mainGlobals ("_law_after" : Str) = some (some (.ref f15)))
    (l15 : K.lookup f15 = some ⟨oc15, od15, .func (PySem.W.fnOf ("_law_after" : Str) ("_law_after" : Str) (defArgs (topS 16)) (defBody (topS 16)) (defScope (topS 16)) .none kV15 dc15 pm15 an15 cd15 ct15), sl15⟩) (e15 : PySem.W.codeIn K cd15 ("_law_after" : Str) = true) (k15 : PySem.W.keepIn K (.ref f15) = true)
    (a16 : PySem.W.nsIn K mainGlobals ("_law_sim" : Str) = some (some (.ref f16)))
    (l16 : K.lookup f16 = some ⟨oc16, od16, .func (PySem.W.fnOf ("_law_sim" : Str) ("_law_sim" : Str) (defArgs (topS 17)) (defBody (topS 17)) (defScope (topS 17)) .none kV16 dc16 pm16 an16 cd16 ct16), sl16⟩) (e16 : PySem.W.codeIn K cd16 ("_law_sim" : Str) = true) (k16 : PySem.W.keepIn K (.ref f16) = true)
    (a17 : PySem.W.nsIn K mainGlobals ("law" : Str) = some (some (.ref f17)))
    (l17 : K.lookup f17 = some ⟨oc17, od17, .func (PySem.W.fnOf ("law" : Str) ("law" : Str) (defArgs (topS 23)) (defBody (topS 23)) (defScope (topS 23)) .none kV17 dc17 pm17 an17 cd17 ct17), sl17⟩) (e17 : PySem.W.codeIn K cd17 ("law" : Str) = true) (k17 : PySem.W.keepIn K (.ref f17) = true)
    (z_bool : PySem.W.nsIn K mainGlobals ("bool" : Str) = some none)
    (z_int : PySem.W.nsIn K mainGlobals ("int" : Str) = some none)
    (z_isinstance : PySem.W.nsIn K mainGlobals ("isinstance" : Str) = some none)
    (z_len : PySem.W.nsIn K mainGlobals ("len" : Str) = some none)
    (z_list : PySem.W.nsIn K mainGlobals ("list" : Str) = some none)
    (z_max : PySem.W.nsIn K mainGlobals ("max" : Str) = some none)
    (z_min : PySem.W.nsIn K mainGlobals ("min" : Str) = some none)
    (z_range : PySem.W.nsIn K mainGlobals ("range" : Str) = some none)
    (z_set : PySem.W.nsIn K mainGlobals ("set" : Str) = some none)
    (z_str : PySem.W.nsIn K mainGlobals ("str" : Str) = some none)
    (z_tuple : PySem.W.nsIn K mainGlobals ("tuple" : Str) = some none)
    (m_MACROS : PySem.W.nsIn K mainGlobals ("MACROS" : Str) = some (some (.ref a_MACROS_1)))
    (q_MACROS_1 : K.lookup a_MACROS_1 = some ⟨.type "tuple", d_MACROS_1, .seq #[.str ("CS" : Str) t_MACROS_1, .str ("CSDG" : Str) t_MACROS_2, .str ("CCZ" : Str) t_MACROS_3, .str ("CCX" : Str) t_MACROS_4, .str ("CSWAP" : Str) t_MACROS_5] n_MACROS_1, s_MACROS_1⟩)
    (m_MACRO_SIZES : PySem.W.nsIn K mainGlobals ("MACRO_SIZES" : Str) = some (some (.ref a_MACRO_SIZES)))
    (q_MACRO_SIZES : K.lookup a_MACRO_SIZES = some ⟨.type "dict", none, .dict #[⟨PyData.keyHash w.params ("CS" : Str), .str ("CS" : Str) t_MACRO_SIZES_6, .int (2) t_MACRO_SIZES_1⟩, ⟨PyData.keyHash w.params ("CSDG" : Str), .str ("CSDG" : Str) t_MACRO_SIZES_7, .int (2) t_MACRO_SIZES_2⟩, ⟨PyData.keyHash w.params ("CCZ" : Str), .str ("CCZ" : Str) t_MACRO_SIZES_8, .int (3) t_MACRO_SIZES_3⟩, ⟨PyData.keyHash w.params ("CCX" : Str), .str ("CCX" : Str) t_MACRO_SIZES_9, .int (3) t_MACRO_SIZES_4⟩, ⟨PyData.keyHash w.params ("CSWAP" : Str), .str ("CSWAP" : Str) t_MACRO_SIZES_10, .int (3) t_MACRO_SIZES_5⟩] n_MACRO_SIZES, #[]⟩)
    (w_MACRO_SIZES : (a_MACRO_SIZES == sysModules) = false)
    (xm_PhasorError : PySem.W.nsIn K mainGlobals ("PhasorError" : Str) = some (some (.ref xa_PhasorError)))
    (xsub_PhasorError : PySem.W.subIn K (.ref xa_PhasorError) (.type "BaseException") = some true)
    (xty_PhasorError : PySem.W.typeIn K (.ref xa_PhasorError) = some (.type "type"))
    (xhd_PhasorError : PySem.W.hasDictIn K xa_PhasorError = true)
    (xm_InvalidGate : PySem.W.nsIn K mainGlobals ("InvalidGate" : Str) = some (some (.ref xa_InvalidGate)))
    (xsub_InvalidGate : PySem.W.subIn K (.ref xa_InvalidGate) (.type "BaseException") = some true)
    (xty_InvalidGate : PySem.W.typeIn K (.ref xa_InvalidGate) = some (.type "type"))
    (xhd_InvalidGate : PySem.W.hasDictIn K xa_InvalidGate = true)
    (xexc_InvalidGate : PySem.W.excIn K xa_InvalidGate [.type "ValueError", .type "Exception", .type "BaseException", .type "object"] "ValueError.__new__" = true)
    (xkeep_InvalidGate : PySem.W.keepIn K (.ref xa_InvalidGate) = true)
    (yhg_InvalidGate : PySem.W.findIn K (.ref xa_InvalidGate) "__getattribute__" = some (some (.builtin "BaseException.__getattribute__")))
    (yhk_InvalidGate : PySem.W.findIn K (.ref xa_InvalidGate) "__getattr__" = some none)
    (yha_InvalidGate : PySem.W.findIn K (.ref xa_InvalidGate) "__class__" = some (some (.builtin "object.__class__")))
    (yhm_InvalidGate : PySem.W.mroIn K xa_InvalidGate (.type "object") = some true)
    (yhn : PySem.W.specialIn K (.builtin "object.__class__") "__get__" = some (some (.builtin "getset_descriptor.__get__"))) (yht : PySem.W.takesIn K (.builtin "object.__class__") = some true)
    (xs_InvalidGate_PhasorError : PySem.W.subIn K (.ref xa_InvalidGate) (.ref xa_PhasorError) = some true)
    (xs_PhasorError_PhasorError : PySem.W.subIn K (.ref xa_PhasorError) (.ref xa_PhasorError) = some true)
    (xs_InvalidGate_InvalidGate : PySem.W.subIn K (.ref xa_InvalidGate) (.ref xa_InvalidGate) = some true)
    : ∃ fd : FuncData, (∀ (s : Shared) (u : Value), BindsTo s fd ⟨[u], []⟩ [(("_law_script" : Str), u)]) ∧ ∀ base : Heap, K.In base → base.Ns mainGlobals mg → FnOk l.prog w K mg base (L2.CX l.prog w) 4 fa fd [("_law_script" : Str)] (spF (GK K) 1 [] s_law) := by
  have e := hfa.symm.trans (PySem.W.mg_of X G a17)
  cases e
  refine ⟨PySem.W.fnOf "law" "law" (defArgs (topS 23)) (defBody (topS 23)) (defScope (topS 23)) .none kV17 dc17 pm17 an17 cd17 ct17, fun s v => .of_eq rfl, fun base _ _ => ?_⟩
  have y_bool := PySem.W.mg_none_of X G z_bool
  have y_int := PySem.W.mg_none_of X G z_int
  have y_isinstance := PySem.W.mg_none_of X G z_isinstance
  have y_len := PySem.W.mg_none_of X G z_len
  have y_list := PySem.W.mg_none_of X G z_list
  have y_max := PySem.W.mg_none_of X G z_max
  have y_min := PySem.W.mg_none_of X G z_min
  have y_range := PySem.W.mg_none_of X G z_range
  have y_set := PySem.W.mg_none_of X G z_set
  have y_str := PySem.W.mg_none_of X G z_str
  have y_tuple := PySem.W.mg_none_of X G z_tuple
  have k_MACROS : ConstF (GK K) mg ("MACROS" : Str) cv_MACROS := ⟨⟨.ref a_MACROS_1, _, PySem.W.mg_of X G m_MACROS, rfl, fun g => (rep_ktup (G := GK K) (ds := [.str ("CS" : Str), .str ("CSDG" : Str), .str ("CCZ" : Str), .str ("CCX" : Str), .str ("CSWAP" : Str)]) q_MACROS_1 (vs := [.str ("CS" : Str), .str ("CSDG" : Str), .str ("CCZ" : Str), .str ("CCX" : Str), .str ("CSWAP" : Str)]) (Nat.le_of_ble_eq_true rfl) (.cons ⟨_, rfl⟩ (.cons ⟨_, rfl⟩ (.cons ⟨_, rfl⟩ (.cons ⟨_, rfl⟩ (.cons ⟨_, rfl⟩ .nil))))) (fun g => ⟨_, _, rfl, rfl, ⟨_, _, rfl, rfl, ⟨_, _, rfl, rfl, ⟨_, _, rfl, rfl, ⟨_, _, rfl, rfl, rfl⟩⟩⟩⟩⟩) g)⟩⟩
  have k_MACRO_SIZES : KD (GK K) w mg ("MACRO_SIZES" : Str) kv_MACRO_SIZES := ⟨⟨a_MACRO_SIZES, _, n_MACRO_SIZES, PySem.W.mg_of X G m_MACRO_SIZES, ⟨q_MACRO_SIZES, ⟨⟨_, _, rfl, rfl⟩, ⟨⟨_, _, rfl, rfl⟩, ⟨⟨_, _, rfl, rfl⟩, ⟨⟨_, _, rfl, rfl⟩, ⟨⟨_, _, rfl, rfl⟩, trivial⟩⟩⟩⟩⟩, w_MACRO_SIZES⟩, ⟨⟨_, rfl⟩, ⟨.int (2), ⟨_, rfl⟩, fun g => rfl⟩, ⟨⟨_, rfl⟩, ⟨.int (2), ⟨_, rfl⟩, fun g => rfl⟩, ⟨⟨_, rfl⟩, ⟨.int (3), ⟨_, rfl⟩, fun g => rfl⟩, ⟨⟨_, rfl⟩, ⟨.int (3), ⟨_, rfl⟩, fun g => rfl⟩, ⟨⟨_, rfl⟩, ⟨.int (3), ⟨_, rfl⟩, fun g => rfl⟩, trivial⟩⟩⟩⟩⟩⟩⟩
  have xe_PhasorError : (GK K).exc 0 = xa_PhasorError := by show exA K _ = _; unfold exA; simp [xm_PhasorError]
  have xe_InvalidGate : (GK K).exc 1 = xa_InvalidGate := by show exA K _ = _; unfold exA; simp [xm_InvalidGate]
  have x_InvalidGate : ExF (GK K) mg ("InvalidGate" : Str) 1 := ⟨by rw [xe_InvalidGate]; exact PySem.W.mg_of X G xm_InvalidGate, by rw [xe_InvalidGate]; exact xexc_InvalidGate, by rw [xe_InvalidGate]; exact xkeep_InvalidGate, by rw [xe_InvalidGate]; exact xsub_InvalidGate, by rw [xe_InvalidGate]; exact xty_InvalidGate⟩
  have xp_InvalidGate_PhasorError := exn_pair xsub_PhasorError xhd_PhasorError xty_PhasorError xs_InvalidGate_PhasorError xs_PhasorError_PhasorError
  have n_PhasorError : ExN (GK K) mg ("PhasorError" : Str) 0 tb_PhasorError := by
    refine ⟨by rw [xe_PhasorError]; exact PySem.W.mg_of X G xm_PhasorError, fun k b h => ?_, fun k b h => ?_, fun k b h => ?_⟩
    · rw [xe_PhasorError]
      match k, h with
      | 0, h => cases h
      | 1, h => cases h; rw [xe_InvalidGate]; exact xp_InvalidGate_PhasorError.1
      | n + 2, h => simp [tb_PhasorError] at h
    · rw [xe_PhasorError]
      match k, h with
      | 0, h => cases h
      | 1, h => cases h; rw [xe_InvalidGate]; exact xp_InvalidGate_PhasorError.2
      | n + 2, h => simp [tb_PhasorError] at h
    · skip
      match k, h with
      | 0, h => cases h
      | 1, h => rw [xe_InvalidGate]; exact ⟨yhg_InvalidGate, yhk_InvalidGate, xsub_InvalidGate, xhd_InvalidGate, yha_InvalidGate, yhn, yht, yhm_InvalidGate⟩
      | n + 2, h => simp [tb_PhasorError] at h
  have xp_InvalidGate_InvalidGate := exn_pair xsub_InvalidGate xhd_InvalidGate xty_InvalidGate xs_InvalidGate_InvalidGate xs_InvalidGate_InvalidGate
  have n_InvalidGate : ExN (GK K) mg ("InvalidGate" : Str) 1 tb_InvalidGate := by
    refine ⟨by rw [xe_InvalidGate]; exact PySem.W.mg_of X G xm_InvalidGate, fun k b h => ?_, fun k b h => ?_, fun k b h => ?_⟩
    · rw [xe_InvalidGate]
      match k, h with
      | 0, h => cases h
      | 1, h => cases h; rw [xe_InvalidGate]; exact xp_InvalidGate_InvalidGate.1
      | n + 2, h => simp [tb_InvalidGate] at h
    · rw [xe_InvalidGate]
      match k, h with
      | 0, h => cases h
      | 1, h => cases h; rw [xe_InvalidGate]; exact xp_InvalidGate_InvalidGate.2
      | n + 2, h => simp [tb_InvalidGate] at h
    · skip
      match k, h with
      | 0, h => cases h
      | 1, h => rw [xe_InvalidGate]; exact ⟨yhg_InvalidGate, yhk_InvalidGate, xsub_InvalidGate, xhd_InvalidGate, yha_InvalidGate, yhn, yht, yhm_InvalidGate⟩
      | n + 2, h => simp [tb_InvalidGate] at h
  have c_L_cell : CallF l.prog w (GK K) mg base ("_law_cell" : Str) 1 2 [] s_L_cell := callF_of (G := GK K) (st := topS 12) (ps := [("_law_script" : Str), ("_law_k" : Str)]) l1 e1 k1 (PySem.W.mg_of X G a1) (fun _ _ _ _ _ _ us hl => match us, hl with | [_, _], _ => rfl) fun F => ok_L_cell y_len F
  have c_is_macro : CallF l.prog w (GK K) mg base ("is_macro" : Str) 1 2 [] s_is_macro := callF_of (G := GK K) (st := topS 8) (ps := [("kind" : Str), ("qubits" : Str)]) l2 e2 k2 (PySem.W.mg_of X G a2) (fun _ _ _ _ _ _ us hl => match us, hl with | [_, _], _ => rfl) fun F => ok_is_macro y_len y_min y_set k_MACROS k_MACRO_SIZES F
  have c_ccz_gates : CallF l.prog w (GK K) mg base ("ccz_gates" : Str) 1 3 [] s_ccz_gates := callF_of (G := GK K) (st := topS 6) (ps := [("a" : Str), ("b" : Str), ("c" : Str)]) l3 e3 k3 (PySem.W.mg_of X G a3) (fun _ _ _ _ _ _ us hl => match us, hl with | [_, _, _], _ => rfl) fun F => ok_ccz_gates F
  have c_ccx_gates : CallF l.prog w (GK K) mg base ("ccx_gates" : Str) 2 3 [] s_ccx_gates := callF_of (G := GK K) (st := topS 7) (ps := [("a" : Str), ("b" : Str), ("c" : Str)]) l4 e4 k4 (PySem.W.mg_of X G a4) (fun _ _ _ _ _ _ us hl => match us, hl with | [_, _, _], _ => rfl) fun F => ok_ccx_gates c_ccz_gates F
  have c_macro_gates : CallF l.prog w (GK K) mg base ("macro_gates" : Str) 3 2 [] s_macro_gates := callF_of (G := GK K) (st := topS 9) (ps := [("kind" : Str), ("qubits" : Str)]) l5 e5 k5 (PySem.W.mg_of X G a5) (fun _ _ _ _ _ _ us hl => match us, hl with | [_, _], _ => rfl) fun F => ok_macro_gates x_InvalidGate c_is_macro c_ccz_gates c_ccx_gates F
  have c_L_is_integer : CallF l.prog w (GK K) mg base ("_law_is_integer" : Str) 1 1 [] s_L_is_integer := callF_of (G := GK K) (st := topS 11) (ps := [("_law_actual" : Str)]) l6 e6 k6 (PySem.W.mg_of X G a6) (fun _ _ _ _ _ _ us hl => match us, hl with | [_], _ => rfl) fun F => ok_L_is_integer y_bool y_int y_isinstance F
  have c_L_gate_fits : CallF l.prog w (GK K) mg base ("_law_gate_fits" : Str) 2 2 [] s_L_gate_fits := callF_of (G := GK K) (st := topS 20) (ps := [("_law_gate" : Str), ("_law_width" : Str)]) l7 e7 k7 (PySem.W.mg_of X G a7) (fun _ _ _ _ _ _ us hl => match us, hl with | [_, _], _ => rfl) fun F => ok_L_gate_fits y_isinstance y_len y_str y_tuple c_L_is_integer F
  have c_L_list_fits : CallF l.prog w (GK K) mg base ("_law_list_fits" : Str) 3 2 [] s_L_list_fits := callF_of (G := GK K) (st := topS 21) (ps := [("_law_actual" : Str), ("_law_width" : Str)]) l8 e8 k8 (PySem.W.mg_of X G a8) (fun _ _ _ _ _ _ us hl => match us, hl with | [_, _], _ => rfl) fun F => ok_L_list_fits y_isinstance y_list c_L_gate_fits F
  have c_L_due : CallF l.prog w (GK K) mg base ("_law_due" : Str) 1 3 [] s_L_due := callF_of (G := GK K) (st := topS 22) (ps := [("_law_kind" : Str), ("_law_qubits" : Str), ("_law_index" : Str)]) l9 e9 k9 (PySem.W.mg_of X G a9) (fun _ _ _ _ _ _ us hl => match us, hl with | [_, _, _], _ => rfl) fun F => ok_L_due F
  have c_L_root : CallF l.prog w (GK K) mg base ("_law_root" : Str) 1 2 [] s_L_root := callF_of (G := GK K) (st := topS 18) (ps := [("_law_amps" : Str), ("_law_times" : Str)]) l10 e10 k10 (PySem.W.mg_of X G a10) (fun _ _ _ _ _ _ us hl => match us, hl with | [_, _], _ => rfl) fun F => ok_L_root y_range F
  have c_L_turn : CallF l.prog w (GK K) mg base ("_law_turn" : Str) 1 2 [] s_L_turn := callF_of (G := GK K) (st := topS 13) (ps := [("_law_x" : Str), ("_law_steps" : Str)]) l11 e11 k11 (PySem.W.mg_of X G a11) (fun _ _ _ _ _ _ us hl => match us, hl with | [_, _], _ => rfl) fun F => ok_L_turn y_int y_range F
  have c_L_same : CallF l.prog w (GK K) mg base ("_law_same" : Str) 2 3 [] s_L_same := callF_of (G := GK K) (st := topS 19) (ps := [("_law_first" : Str), ("_law_second" : Str), ("_law_turns" : Str)]) l12 e12 k12 (PySem.W.mg_of X G a12) (fun _ _ _ _ _ _ us hl => match us, hl with | [_, _, _], _ => rfl) fun F => ok_L_same y_list y_max c_L_root c_L_turn F
  have c_L_put : CallF l.prog w (GK K) mg base ("_law_put" : Str) 1 3 [0] s_L_put := callF_of (G := GK K) (st := topS 14) (ps := [("_law_amps" : Str), ("_law_index" : Str), ("_law_x" : Str)]) l13 e13 k13 (PySem.W.mg_of X G a13) (fun _ _ _ _ _ _ us hl => match us, hl with | [_, _, _], _ => rfl) fun F => ok_L_put F
  have c_L_move : CallF l.prog w (GK K) mg base ("_law_move" : Str) 1 2 [] s_L_move := callF_of (G := GK K) (st := topS 15) (ps := [("_law_index" : Str), ("_law_gate" : Str)]) l14 e14 k14 (PySem.W.mg_of X G a14) (fun _ _ _ _ _ _ us hl => match us, hl with | [_, _], _ => rfl) fun F => ok_L_move F
  have c_L_after : CallF l.prog w (GK K) mg base ("_law_after" : Str) 2 2 [] s_L_after := callF_of (G := GK K) (st := topS 16) (ps := [("_law_amps" : Str), ("_law_gate" : Str)]) l15 e15 k15 (PySem.W.mg_of X G a15) (fun _ _ _ _ _ _ us hl => match us, hl with | [_, _], _ => rfl) fun F => ok_L_after c_L_put c_L_turn c_L_move F
  have c_L_sim : CallF l.prog w (GK K) mg base ("_law_sim" : Str) 3 2 [] s_L_sim := callF_of (G := GK K) (st := topS 17) (ps := [("_law_gates" : Str), ("_law_index" : Str)]) l16 e16 k16 (PySem.W.mg_of X G a16) (fun _ _ _ _ _ _ us hl => match us, hl with | [_, _], _ => rfl) fun F => ok_L_sim y_int c_L_after F
  exact ok_law y_int y_isinstance y_len y_max y_range y_tuple k_MACROS n_InvalidGate n_PhasorError c_L_cell c_macro_gates c_L_list_fits c_L_due c_L_same c_L_turn c_L_sim (G := GK K) (fun_mk (st := topS 23) l17 e17 k17)
theorem walk {l : PySem.W.OpenLaw} {q : Program} {loose : List Str} {XP : (Str → Option Value) → Heap → Prop} {YP : World → Heap → Prop} {d : DefRec} {K : Params → PySem.W.Frag} (hn : l.most = some 63) (hdf : d.params.defaults = [])
    (hY : ∀ (w : World) (h : Heap), YP w h → (K w.params).In h)
    (F : ∀ (w : World) (mg : Str → Option Value) (fa : Addr) (h : Heap), (K w.params).In h → h.Ns mainGlobals mg → mg d.name = some (.ref fa) →
      ∃ fd : FuncData, (∀ (s : Shared) (u : Value), BindsTo s fd ⟨[u], []⟩ [(("_law_script" : Str), u)]) ∧ ∀ base : Heap, (K w.params).In base → base.Ns mainGlobals mg → FnOk l.prog w (K w.params) mg base (L2.CX l.prog w) 4 fa fd [("_law_script" : Str)] (spF (GK (K w.params)) 1 [] s_law)) :
    PySem.W.WalkO q loose XP YP l.row.toRowW d [] (fun f vs => PySem.call f vs) :=
  law_walk GK (fun _ => rfl) hn hdf ⟨rfl, by decide, by decide⟩ hY F math
end Px
open PySem PySem.W PyProof.Rows in
set_option maxRecDepth 100000 in
set_option maxHeartbeats 0 in
theorem PySem.Challenge.cw_phasor_k15_macros_holds : PySem.Challenge.rw_phasor_k15_macros.Holds := by
  w_on; o_law; k_head; (case hw => w_witness2)
  k_fill
  refine Px.walk (l := PySem.Challenge.rw_phasor_k15_macros) rfl rfl (fun w h Y => PySem.W.kIn_of Y) ?F
  case F =>
    intro w mg fa h KX G hmg
    refine' Px.all_mk KX G hmg ?a1 ?l1 ?e1 ?k1 ?a2 ?l2 ?e2 ?k2 ?a3 ?l3 ?e3 ?k3 ?a4 ?l4 ?e4 ?k4 ?a5 ?l5 ?e5 ?k5 ?a6 ?l6 ?e6 ?k6 ?a7 ?l7 ?e7 ?k7 ?a8 ?l8 ?e8 ?k8 ?a9 ?l9 ?e9 ?k9 ?a10 ?l10 ?e10 ?k10 ?a11 ?l11 ?e11 ?k11 ?a12 ?l12 ?e12 ?k12 ?a13 ?l13 ?e13 ?k13 ?a14 ?l14 ?e14 ?k14 ?a15 ?l15 ?e15 ?k15 ?a16 ?l16 ?e16 ?k16 ?a17 ?l17 ?e17 ?k17 ?z_bool ?z_int ?z_isinstance ?z_len ?z_list ?z_max ?z_min ?z_range ?z_set ?z_str ?z_tuple ?m_MACROS ?q_MACROS_1 ?m_MACRO_SIZES ?q_MACRO_SIZES ?w_MACRO_SIZES ?xm_PhasorError ?xsub_PhasorError ?xty_PhasorError ?xhd_PhasorError ?xm_InvalidGate ?xsub_InvalidGate ?xty_InvalidGate ?xhd_InvalidGate ?xexc_InvalidGate ?xkeep_InvalidGate ?yhg_InvalidGate ?yhk_InvalidGate ?yha_InvalidGate ?yhm_InvalidGate ?yhn ?yht ?xs_InvalidGate_PhasorError ?xs_PhasorError_PhasorError ?xs_InvalidGate_InvalidGate
    (case a1 => k_is)
    (case l1 => k_is)
    (case e1 => k_is)
    (case k1 => k_is)
    (case a2 => k_is)
    (case l2 => k_is)
    (case e2 => k_is)
    (case k2 => k_is)
    (case a3 => k_is)
    (case l3 => k_is)
    (case e3 => k_is)
    (case k3 => k_is)
    (case a4 => k_is)
    (case l4 => k_is)
    (case e4 => k_is)
    (case k4 => k_is)
    (case a5 => k_is)
    (case l5 => k_is)
    (case e5 => k_is)
    (case k5 => k_is)
    (case a6 => k_is)
    (case l6 => k_is)
    (case e6 => k_is)
    (case k6 => k_is)
    (case a7 => k_is)
    (case l7 => k_is)
    (case e7 => k_is)
    (case k7 => k_is)
    (case a8 => k_is)
    (case l8 => k_is)
    (case e8 => k_is)
    (case k8 => k_is)
    (case a9 => k_is)
    (case l9 => k_is)
    (case e9 => k_is)
    (case k9 => k_is)
    (case a10 => k_is)
    (case l10 => k_is)
    (case e10 => k_is)
    (case k10 => k_is)
    (case a11 => k_is)
    (case l11 => k_is)
    (case e11 => k_is)
    (case k11 => k_is)
    (case a12 => k_is)
    (case l12 => k_is)
    (case e12 => k_is)
    (case k12 => k_is)
    (case a13 => k_is)
    (case l13 => k_is)
    (case e13 => k_is)
    (case k13 => k_is)
    (case a14 => k_is)
    (case l14 => k_is)
    (case e14 => k_is)
    (case k14 => k_is)
    (case a15 => k_is)
    (case l15 => k_is)
    (case e15 => k_is)
    (case k15 => k_is)
    (case a16 => k_is)
    (case l16 => k_is)
    (case e16 => k_is)
    (case k16 => k_is)
    (case a17 => k_is)
    (case l17 => k_is)
    (case e17 => k_is)
    (case k17 => k_is)
    (case z_bool => k_is)
    (case z_int => k_is)
    (case z_isinstance => k_is)
    (case z_len => k_is)
    (case z_list => k_is)
    (case z_max => k_is)
    (case z_min => k_is)
    (case z_range => k_is)
    (case z_set => k_is)
    (case z_str => k_is)
    (case z_tuple => k_is)
    (case m_MACROS => k_is)
    (case q_MACROS_1 => k_is)
    (case m_MACRO_SIZES => k_is)
    (case q_MACRO_SIZES => k_is)
    (case w_MACRO_SIZES => first | rfl | decide | k_is)
    (case xm_PhasorError => k_is)
    (case xsub_PhasorError => k_is)
    (case xty_PhasorError => k_is)
    (case xhd_PhasorError => k_is)
    (case xm_InvalidGate => k_is)
    (case xsub_InvalidGate => k_is)
    (case xty_InvalidGate => k_is)
    (case xhd_InvalidGate => k_is)
    (case xexc_InvalidGate => k_exc)
    (case xkeep_InvalidGate => k_is)
    (case yhg_InvalidGate => k_is)
    (case yhk_InvalidGate => k_is)
    (case yha_InvalidGate => k_is)
    (case yhm_InvalidGate => k_is)
    (case yhn => k_is)
    (case yht => k_is)
    (case xs_InvalidGate_PhasorError => first | k_is | rfl)
    (case xs_PhasorError_PhasorError => first | k_is | rfl)
    (case xs_InvalidGate_InvalidGate => first | k_is | rfl)
#print axioms PySem.Challenge.cw_phasor_k15_macros_holds
