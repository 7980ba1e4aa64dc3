import PyProof.Rows.All
import Wide.All
import OpenK.AllK
import Wide.FinOn
import HandS.ForMost
import HandS.ForExc
import HandS.Wide
import HandS.TupAny
import HandS.CallSlots
import HandS.FStr
import HandS.Deep
import HandS.RaiseMore
import HandS.Defaults
import HandS.MakeKw
import HandS.Style
import HandS.Zip
import HandS.Small
import HandS.OwnEq
import HandS.IsInst
import HandS.ExcInit
import HandS.ExcField
import HandS.ExcIs
import PyProof.InstNe
import KE.KExcIs
import PyProof.NeKinds
import PyProof.FactsAll.NoneType
import PyProof.FactsAll.int
import HandS.HeadHook1
import HandS.HeadHook2
import HandS.HeadEnd
import HandS.HeadHook3
import HandS.HeadHook4
import PyProof.FitsInt
import HandS.Head0
import HandS.Head1
import HandS.Head2
import PySem.Challenge.RW_hookspans_k03_places_told
set_option Elab.async false
set_option linter.all false
/-! PV1: values, stores and their operations, in plain Lean. -/
namespace PV
open PySem L2

/-- a value that never changes, or a reference to a shared thing -/
inductive D where
  | non
  | bl (b : Bool)
  | int (i : Int)
  | str (x : Str)
  | tup (ds : List D)
  | lst (ds : List D)
  | scr (ds : List D)
  | dic (ks : List Key) (ds : List D)
  | ins (c : Nat) (ns : List String) (ds : List D)
  | ref (id : Nat)
  deriving Inhabited

/-- a shared thing -/
inductive MO where
  | lst (ds : List D)
  | dic (ks : List Key) (ds : List D)
  | ins (c : Nat) (ns : List String) (ds : List D)
  deriving Inhabited

/-- what a name holds: a value, or a list, a dict, an instance of its own -/
inductive Ow where
  | val (d : D)
  | lst (ws : List Ow)
  | dic (ks : List Key) (ds : List D)
  | ins (c : Nat) (ns : List String) (ds : List D)
  deriving Inhabited

abbrev Store := List MO
abbrev Env := List (Option Ow)

/-- an outcome -/
inductive Out (α : Type) where
  | ok (a : α) (S : Store)
  | exc (c : Nat) (ns : List String) (ds : List D) (S : Store)
  | stuck

def M (α : Type) := Store → Out α
def M.pure {α : Type} (a : α) : M α := fun S => .ok a S
def M.bind {α β : Type} (m : M α) (f : α → M β) : M β := fun S => match m S with
  | .ok a S' => f a S'
  | .exc c ns ds S' => .exc c ns ds S'
  | .stuck => .stuck
instance : Monad M where
  pure := M.pure
  bind := M.bind
def M.stuck {α : Type} : M α := fun _ => .stuck
def M.ofO {α : Type} : Option α → M α
  | some a => M.pure a
  | none => M.stuck
def guardM (b : Bool) : M Unit := if b then M.pure () else M.stuck
theorem pure_ap {α : Type} (a : α) (S : Store) : (pure a : M α) S = .ok a S := rfl
theorem mpure_ap {α : Type} (a : α) (S : Store) : (M.pure a) S = .ok a S := rfl
theorem bind_ap {α β : Type} (m : M α) (f : α → M β) (S : Store) : (m >>= f) S = match m S with
  | .ok a S' => f a S'
  | .exc c ns ds S' => .exc c ns ds S'
  | .stuck => .stuck := rfl

mutual
def Ow.snap : Ow → D
  | .val d => d
  | .lst ws => .lst (Ow.snaps ws)
  | .dic ks ds => .dic ks ds
  | .ins c ns ds => .ins c ns ds
def Ow.snaps : List Ow → List D
  | [] => []
  | w :: r => Ow.snap w :: Ow.snaps r
end
theorem Ow.snaps_eq : ∀ ws : List Ow, Ow.snaps ws = ws.map Ow.snap
  | [] => rfl
  | w :: r => by rw [Ow.snaps, Ow.snaps_eq r]; rfl
def Ow.isVal : Ow → Bool
  | .val _ => true
  | _ => false
/-- a value that may be kept -/
def Ow.strict : Ow → M D
  | .val d => M.pure d
  | _ => M.stuck

/-! ### data -/
mutual
def D.py : D → Option PyData
  | .non => some .none
  | .bl b => some (.bool b)
  | .int i => some (.int i)
  | .str x => some (.str x)
  | .tup ds => (D.pys ds).map .tuple
  | .lst ds => (D.pys ds).map .list
  | _ => none
def D.pys : List D → Option (List PyData)
  | [] => some []
  | d :: r => match D.py d, D.pys r with
    | some x, some xs => some (x :: xs)
    | _, _ => none
end

def seqOf (S : Store) : D → Option (List D)
  | .lst ds => some ds
  | .scr ds => some ds
  | .tup ds => some ds
  | .ref id => match S[id]? with
    | some (.lst ds) => some ds
    | _ => none
  | _ => none
def lstOf (S : Store) : D → Option (List D)
  | .lst ds => some ds
  | .scr ds => some ds
  | .ref id => match S[id]? with
    | some (.lst ds) => some ds
    | _ => none
  | _ => none
def dicOf (S : Store) : D → Option (List Key × List D)
  | .dic ks ds => some (ks, ds)
  | .ref id => match S[id]? with
    | some (.dic ks ds) => some (ks, ds)
    | _ => none
  | _ => none
def insOf (S : Store) : D → Option (Nat × List String × List D)
  | .ins c ns ds => some (c, ns, ds)
  | .ref id => match S[id]? with
    | some (.ins c ns ds) => some (c, ns, ds)
    | _ => none
  | _ => none
abbrev line : Nat := 1000000
def getS : M Store := fun S => .ok S S
def setS (id : Nat) (m : MO) : M Unit := fun S => .ok () (S.set id m)
def newS (m : MO) : M D := fun S => .ok (.ref S.length) (S ++ [m])
end PV

set_option Elab.async false
set_option linter.all false
/-! PV2: how values stand in the heap; what holds between two steps. -/
namespace PV
open PySem L2

/-- ghost: what never changes any more, where the shared things stand -/
structure G where
  Φ : Hp
  μ : List Addr

structure Kx where
  K : PySem.W.Frag
  ca : Nat → Addr

mutual
inductive Rep (C : Kx) (g : G) : V → D → Prop
  | non : Rep C g .non .non
  | bl (b : Bool) : Rep C g (.bl b) (.bl b)
  | int (i : Int) : Rep C g (.int i) (.int i)
  | str (x : Str) : Rep C g (.str x) (.str x)
  | lst {a : Addr} {vs : List V} {ds : List D} : Rd g.Φ a (.lst vs) → Reps C g vs ds → Rep C g (.ref a) (.lst ds)
  | scr {a : Addr} {vs : List V} {ds : List D} : SqL C.K g.Φ a vs → Reps C g vs ds → Rep C g (.ref a) (.scr ds)
  | tup {a : Addr} {vs : List V} {ds : List D} : SqT C.K g.Φ a vs → Reps C g vs ds → Rep C g (.ref a) (.tup ds)
  | dic {a : Addr} {kvs : List (Key × V)} {ks : List Key} {ds : List D} : g.Φ a = some (.dK kvs) → kvs.map (·.1) = ks → Reps C g (kvs.map (·.2)) ds → Rep C g (.ref a) (.dic ks ds)
  | ins {a dx : Addr} {fs : List (Str × V)} {c : Nat} {ns : List String} {ds : List D} : g.Φ a = some (.ins (C.ca c) dx fs) → fs.map (·.1) = ns.map Str.ofString → Reps C g (fs.map (·.2)) ds → Rep C g (.ref a) (.ins c ns ds)
  | ref {a : Addr} {id : Nat} : g.μ[id]? = some a → Rep C g (.ref a) (.ref id)
inductive Reps (C : Kx) (g : G) : List V → List D → Prop
  | nil : Reps C g [] []
  | cons {v : V} {d : D} {vs : List V} {ds : List D} : Rep C g v d → Reps C g vs ds → Reps C g (v :: vs) (d :: ds)
end

/-- a later ghost; H: the heap at the elder one -/
structure G.Le (g g' : G) : Prop where
  fz : ∀ a o, g.Φ a = some o → g'.Φ a = some o
  mu : ∀ (i : Nat) a, g.μ[i]? = some a → g'.μ[i]? = some a
theorem G.Le.refl (g : G) : g.Le g := ⟨fun _ _ h => h, fun _ _ h => h⟩
theorem G.Le.trans {a b c : G} (x : a.Le b) (y : b.Le c) : a.Le c := ⟨fun d o h => y.fz d o (x.fz d o h), fun i d h => y.mu i d (x.mu i d h)⟩

theorem sqL_mono {K : PySem.W.Frag} {H H' : Hp} (k : ∀ a o, H a = some o → H' a = some o) {a : Addr} {xs : List V} (h : SqL K H a xs) : SqL K H' a xs := by
  rcases h with (h | ⟨o, h⟩) | h
  · exact .inl (.inl (k _ _ h))
  · exact .inl (.inr ⟨o, k _ _ h⟩)
  · exact .inr h
theorem sqT_mono {K : PySem.W.Frag} {H H' : Hp} (k : ∀ a o, H a = some o → H' a = some o) {a : Addr} {xs : List V} (h : SqT K H a xs) : SqT K H' a xs := by
  rcases h with (h | ⟨o, h⟩) | h
  · exact .inl (.inl (k _ _ h))
  · exact .inl (.inr ⟨o, k _ _ h⟩)
  · exact .inr h
theorem rd_mono {H H' : Hp} (k : ∀ a o, H a = some o → H' a = some o) {a : Addr} {u : HO} (h : Rd H a u) : Rd H' a u := by
  rcases h with h | ⟨o, h⟩
  · exact .inl (k _ _ h)
  · exact .inr ⟨o, k _ _ h⟩
mutual
theorem Rep.mono {C : Kx} {g g' : G} (l : g.Le g') : ∀ {v : V} {d : D}, Rep C g v d → Rep C g' v d
  | _, _, .non => .non
  | _, _, .bl b => .bl b
  | _, _, .int i => .int i
  | _, _, .str x => .str x
  | _, _, .lst h r => .lst (rd_mono l.fz h) (Reps.mono l r)
  | _, _, .scr h r => .scr (sqL_mono l.fz h) (Reps.mono l r)
  | _, _, .tup h r => .tup (sqT_mono l.fz h) (Reps.mono l r)
  | _, _, .dic h k r => .dic (l.fz _ _ h) k (Reps.mono l r)
  | _, _, .ins h k r => .ins (l.fz _ _ h) k (Reps.mono l r)
  | _, _, .ref h => .ref (l.mu _ _ h)
theorem Reps.mono {C : Kx} {g g' : G} (l : g.Le g') : ∀ {vs : List V} {ds : List D}, Reps C g vs ds → Reps C g' vs ds
  | _, _, .nil => .nil
  | _, _, .cons r s => .cons (Rep.mono l r) (Reps.mono l s)
end
section
variable {C : Kx} {g : G}
theorem Reps.length : ∀ {vs : List V} {ds : List D}, Reps C g vs ds → vs.length = ds.length
  | _, _, .nil => rfl
  | _, _, .cons _ r => by simp [Reps.length r]
theorem Reps.get : ∀ {vs : List V} {ds : List D} {i : Nat} {d : D}, Reps C g vs ds → ds[i]? = some d → ∃ v, vs[i]? = some v ∧ Rep C g v d
  | _, _, i, d, .nil, h => by simp at h
  | _, _, 0, d, .cons r s, h => by simp at h; subst h; exact ⟨_, rfl, r⟩
  | _, _, i + 1, d, .cons r s, h => by
    obtain ⟨v, h1, h2⟩ := Reps.get (i := i) s (by simpa using h)
    exact ⟨v, by simpa using h1, h2⟩
theorem Reps.append : ∀ {vs : List V} {ds : List D} {us : List V} {es : List D}, Reps C g vs ds → Reps C g us es → Reps C g (vs ++ us) (ds ++ es)
  | _, _, _, _, .nil, h => h
  | _, _, _, _, .cons r s, h => .cons r (Reps.append s h)
theorem Reps.one {v : V} {d : D} (h : Rep C g v d) : Reps C g [v] [d] := .cons h .nil
theorem Reps.set {v : V} {d : D} (r : Rep C g v d) : ∀ {vs : List V} {ds : List D} (i : Nat), Reps C g vs ds → Reps C g (vs.set i v) (ds.set i d)
  | _, _, _, .nil => .nil
  | _, _, 0, .cons _ t => .cons r t
  | _, _, i + 1, .cons q t => .cons q (Reps.set r i t)
theorem Reps.take : ∀ {vs : List V} {ds : List D} (n : Nat), Reps C g vs ds → Reps C g (vs.take n) (ds.take n)
  | _, _, 0, _ => .nil
  | _, _, _ + 1, .nil => .nil
  | _, _, n + 1, .cons r t => .cons r (Reps.take n t)
theorem Reps.drop : ∀ {vs : List V} {ds : List D} (n : Nat), Reps C g vs ds → Reps C g (vs.drop n) (ds.drop n)
  | _, _, 0, r => r
  | _, _, _ + 1, .nil => .nil
  | _, _, n + 1, .cons _ t => Reps.drop n t
theorem Reps.eraseIdx : ∀ {vs : List V} {ds : List D} (n : Nat), Reps C g vs ds → Reps C g (vs.eraseIdx n) (ds.eraseIdx n)
  | _, _, _, .nil => .nil
  | _, _, 0, .cons _ t => t
  | _, _, n + 1, .cons r t => .cons r (Reps.eraseIdx n t)
theorem Reps.reverse : ∀ {vs : List V} {ds : List D}, Reps C g vs ds → Reps C g vs.reverse ds.reverse
  | _, _, .nil => .nil
  | _, _, .cons r t => by rw [List.reverse_cons, List.reverse_cons]; exact (Reps.reverse t).append (.one r)
theorem Reps.dropLast {vs : List V} {ds : List D} (h : Reps C g vs ds) : Reps C g vs.dropLast ds.dropLast := by
  rw [List.dropLast_eq_take, List.dropLast_eq_take, h.length]; exact h.take _
end

/-- what stands by itself: a shared thing's object -/
def MoR (C : Kx) (g : G) (H : Hp) (a : Addr) : MO → Prop
  | .lst ds => ∃ vs, H a = some (.lst vs) ∧ Reps C g vs ds
  | .dic ks ds => ∃ kvs, H a = some (.dK kvs) ∧ kvs.map (·.1) = ks ∧ Reps C g (kvs.map (·.2)) ds
  | .ins c ns ds => ∃ dx fs, H a = some (.ins (C.ca c) dx fs) ∧ fs.map (·.1) = ns.map Str.ofString ∧ Reps C g (fs.map (·.2)) ds
/-- a name's own thing, with the addresses that it owns -/
inductive OwR (C : Kx) (g : G) (H : Hp) : V → Ow → List Addr → Prop
  | val {v : V} {d : D} : Rep C g v d → OwR C g H v (.val d) []
  | dic {a : Addr} {kvs : List (Key × V)} {ks : List Key} {ds : List D} : H a = some (.dK kvs) → kvs.map (·.1) = ks → Reps C g (kvs.map (·.2)) ds → OwR C g H (.ref a) (.dic ks ds) [a]
  | ins {a dx : Addr} {fs : List (Str × V)} {c : Nat} {ns : List String} {ds : List D} : H a = some (.ins (C.ca c) dx fs) → fs.map (·.1) = ns.map Str.ofString → Reps C g (fs.map (·.2)) ds → OwR C g H (.ref a) (.ins c ns ds) [a]
  | lst {a : Addr} {vs : List V} {ws : List Ow} {fps : List (List Addr)} : H a = some (.lst vs) → vs.length = ws.length → fps.length = ws.length →
      (∀ (i : Nat) v w fp, vs[i]? = some v → ws[i]? = some w → fps[i]? = some fp → OwR C g H v w fp) → OwR C g H (.ref a) (.lst ws) (a :: fps.flatten)

/-- a slot -/
def OwS (C : Kx) (g : G) (H : Hp) (v : Option V) (w : Option Ow) (fp : List Addr) : Prop := match w with
  | none => fp = []
  | some w => ∃ x, v = some x ∧ OwR C g H x w fp
/-- what is the same through a whole body: the heap and the shared things at its start, the object under way, what is locked -/
structure Bs where
  H0 : Hp
  g0 : G
  ex : List Addr
  lk0 : List Addr
  lk : List Addr
abbrev Bs.lks (B : Bs) : List Addr := B.lk ++ B.lk0

/-- as it was, or locked -/
def As (lk : List Addr) (H : Hp) (a : Addr) (o : HO) : Prop := if a ∈ lk then ∃ ob, H a = some (.frz ob o) else H a = some o

/-- the part that goes on through calls -/
structure Sim (C : Kx) (lk : List Addr) (g : G) (S : Store) (H : Hp) : Prop where
  fz : ∀ a o, g.Φ a = some o → As lk H a o
  lkf : ∀ a ∈ lk, ∃ kvs, g.Φ a = some (.dK kvs)
  shl : S.length = g.μ.length
  sh : ∀ (i : Nat) a m, g.μ[i]? = some a → S[i]? = some m → MoR C g H a m
  mf : ∀ a ∈ g.μ, g.Φ a = none
  md : g.μ.Nodup
/-- the object under way stands in the first slot -/
def SelfOk (B : Bs) (e : Env) (σ : St) : Prop := ∀ x r, B.ex = x :: r → (∃ c ns ds, e[0]?.getD none = some (.ins c ns ds)) → σ[0]?.getD none = some (.ref x)
structure StR (C : Kx) (B : Bs) (g : G) (e : Env) (S : Store) (σ : St) (H : Hp) : Prop extends Sim C B.lks g S H where
  le : B.g0.Le g
  nfz : ∀ a o, g.Φ a = some o → B.g0.Φ a = some o ∨ B.H0 a = none ∨ a ∈ B.g0.μ ∨ a ∈ B.ex
  mn : ∀ a ∈ g.μ, a ∈ B.g0.μ ∨ B.H0 a = none ∨ a ∈ B.ex
  fr : ∀ a o, B.H0 a = some o → a ∉ B.g0.μ → a ∉ B.ex → As B.lk H a o
  len : e.length = σ.length
  ow : ∃ F : List (List Addr), F.length = e.length ∧ (∀ (i : Nat) w fp, e[i]? = some w → F[i]? = some fp → OwS C g H (σ[i]?.getD none) w fp) ∧
    F.flatten.Nodup ∧ ∀ a ∈ F.flatten, g.Φ a = none ∧ a ∉ g.μ ∧ (B.H0 a = none ∨ a ∈ B.ex)
  sl : SelfOk B e σ

/-- from a step's start to its end -/
structure Frm (g : G) (H : Hp) (g' : G) (H' : Hp) : Prop where
  le : g.Le g'
  kp : ∀ a o, H a = some o → a ∉ g.μ → H' a = some o
  nw : ∀ a ∈ g'.μ, a ∈ g.μ ∨ H a = none
  nf : ∀ a o, g'.Φ a = some o → g.Φ a = some o ∨ H a = none ∨ a ∈ g.μ
theorem Frm.refl {g : G} {H : Hp} : Frm g H g H := ⟨.refl g, fun _ _ h _ => h, fun _ h => .inl h, fun _ _ h => .inl h⟩
theorem Frm.trans {g g1 g2 : G} {H H1 H2 : Hp} (a : Frm g H g1 H1) (b : Frm g1 H1 g2 H2) : Frm g H g2 H2 := by
  have no : ∀ c, H1 c = none → H c = none ∨ c ∈ g.μ := fun c z => by
    cases q : H c with
    | none => exact .inl rfl
    | some o =>
      by_cases hm : c ∈ g.μ
      · exact .inr hm
      · rw [a.kp c o q hm] at z; cases z
  refine ⟨a.le.trans b.le, fun c o h hn => b.kp c o (a.kp c o h hn) fun hc => ?_, fun c hc => ?_, fun c o hc => ?_⟩
  · rcases a.nw c hc with z | z
    · exact hn z
    · rw [h] at z; cases z
  · rcases b.nw c hc with z | z
    · exact a.nw c z
    · exact (no c z).symm
  · rcases b.nf c o hc with z | z | z
    · exact a.nf c o z
    · exact .inr (no c z)
    · exact .inr (a.nw c z).symm

section
variable {C : Kx} {B : Bs} {g g' : G} {e : Env} {S S' : Store} {σ : St} {H H' : Hp}
theorem OwR.mono (f : Frm g H g' H') {v : V} {w : Ow} {fp : List Addr} (h : OwR C g H v w fp) : (∀ a ∈ fp, a ∉ g.μ) → OwR C g' H' v w fp := by
  induction h with
  | val r => exact fun _ => .val (r.mono f.le)
  | dic h k r => exact fun n => .dic (f.kp _ _ h (n _ (by simp))) k (r.mono f.le)
  | ins h k r => exact fun n => .ins (f.kp _ _ h (n _ (by simp))) k (r.mono f.le)
  | lst h l1 l2 q ih => exact fun n => .lst (f.kp _ _ h (n _ (by simp))) l1 l2 fun i v w fp h1 h2 h3 => ih i v w fp h1 h2 h3 fun a ha => n a (by
      refine List.mem_cons_of_mem _ (List.mem_flatten.mpr ⟨fp, List.mem_of_getElem? h3, ha⟩))

theorem OwR.repv {v : V} {d : D} {fp : List Addr} (h : OwR C g H v (.val d) fp) : Rep C g v d := by cases h; assumption
theorem OwR.dom {v : V} {w : Ow} {fp : List Addr} (h : OwR C g H v w fp) : ∀ a ∈ fp, ∃ o, H a = some o := by
  induction h with
  | val r => intro a ha; cases ha
  | dic h k r => intro a ha; exact ⟨_, by simp at ha; subst ha; exact h⟩
  | ins h k r => intro a ha; exact ⟨_, by simp at ha; subst ha; exact h⟩
  | lst h l1 l2 q ih =>
    intro a ha
    rcases List.mem_cons.mp ha with e | e
    · subst e; exact ⟨_, h⟩
    · obtain ⟨fp, hf, hx⟩ := List.mem_flatten.mp e
      obtain ⟨i, hi, rfl⟩ := List.mem_iff_getElem.mp hf
      exact ih i _ _ _ (List.getElem?_eq_getElem (by omega)) (List.getElem?_eq_getElem (by omega)) (List.getElem?_eq_getElem hi) a hx
theorem OwS.mono (f : Frm g H g' H') {v : Option V} {w : Option Ow} {fp : List Addr} (h : OwS C g H v w fp) (n : ∀ a ∈ fp, a ∉ g.μ) : OwS C g' H' v w fp := by
  cases w with
  | none => exact h
  | some w => obtain ⟨x, e, r⟩ := h; exact ⟨x, e, r.mono f n⟩
theorem OwS.dom {v : Option V} {w : Option Ow} {fp : List Addr} (h : OwS C g H v w fp) : ∀ a ∈ fp, ∃ o, H a = some o := by
  cases w with
  | none => intro a ha; rw [show fp = [] from h] at ha; cases ha
  | some w => obtain ⟨x, e, r⟩ := h; exact r.dom
/-- as it may be read -/
def RepO (C : Kx) (g : G) (H : Hp) (v : V) (w : Ow) : Prop := ∃ fp, OwR C g H v w fp ∧ ∀ a ∈ fp, a ∉ g.μ
theorem RepO.mono (f : Frm g H g' H') {v : V} {w : Ow} (h : RepO C g H v w) : RepO C g' H' v w := by
  obtain ⟨fp, h, n⟩ := h
  refine ⟨fp, h.mono f n, fun a ha hm => ?_⟩
  rcases f.nw a hm with z | z
  · exact n a ha z
  · have : ∃ o, H a = some o := h.dom a ha
    obtain ⟨o, ho⟩ := this
    rw [ho] at z; cases z
theorem RepO.val {v : V} {d : D} (h : Rep C g v d) : RepO C g H v (.val d) := ⟨[], .val h, fun _ h => by cases h⟩
theorem RepO.rep {v : V} {d : D} (h : RepO C g H v (.val d)) : Rep C g v d := by
  obtain ⟨fp, h, _⟩ := h
  cases h; assumption

/-- a flat reading: its items are values -/
inductive RepF (C : Kx) (g : G) (H : Hp) : V → D → Prop
  | rep {v : V} {d : D} : Rep C g v d → RepF C g H v d
  | lst {a : Addr} {vs : List V} {ds : List D} : H a = some (.lst vs) → a ∉ g.μ → Reps C g vs ds → RepF C g H (.ref a) (.lst ds)
  | dic {a : Addr} {kvs : List (Key × V)} {ks : List Key} {ds : List D} : H a = some (.dK kvs) → a ∉ g.μ → kvs.map (·.1) = ks → Reps C g (kvs.map (·.2)) ds → RepF C g H (.ref a) (.dic ks ds)
  | ins {a dx : Addr} {fs : List (Str × V)} {c : Nat} {ns : List String} {ds : List D} : H a = some (.ins (C.ca c) dx fs) → a ∉ g.μ → fs.map (·.1) = ns.map Str.ofString → Reps C g (fs.map (·.2)) ds → RepF C g H (.ref a) (.ins c ns ds)
theorem RepF.mono (f : Frm g H g' H') {v : V} {d : D} (h : RepF C g H v d) : RepF C g' H' v d := by
  have no : ∀ a o, H a = some o → a ∉ g.μ → a ∉ g'.μ := fun a o h n hm => by
    rcases f.nw a hm with z | z
    · exact n z
    · rw [h] at z; cases z
  cases h with
  | rep r => exact .rep (r.mono f.le)
  | lst h n r => exact .lst (f.kp _ _ h n) (no _ _ h n) (r.mono f.le)
  | dic h n k r => exact .dic (f.kp _ _ h n) (no _ _ h n) k (r.mono f.le)
  | ins h n k r => exact .ins (f.kp _ _ h n) (no _ _ h n) k (r.mono f.le)
end
/-- the flat value of a thing -/
def Ow.flat : Ow → Option D
  | .val d => some d
  | .lst ws => if ws.all Ow.isVal then some (.lst (Ow.snaps ws)) else none
  | .dic ks ds => some (.dic ks ds)
  | .ins c ns ds => some (.ins c ns ds)
section
variable {C : Kx} {B : Bs} {g g' : G} {e : Env} {S S' : Store} {σ : St} {H H' : Hp}
theorem vals_of {ws : List Ow} (h : ws.all Ow.isVal = true) : ws = (Ow.snaps ws).map Ow.val := by
  induction ws with
  | nil => rfl
  | cons w r ih =>
    rw [List.all_cons, Bool.and_eq_true] at h
    rw [Ow.snaps, List.map_cons, ← ih h.2]
    cases w with
    | val d => rfl
    | _ => exact absurd h.1 (by simp [Ow.isVal])
theorem reps_of : ∀ {vs : List V} {ds : List D}, vs.length = ds.length → (∀ (i : Nat) v d, vs[i]? = some v → ds[i]? = some d → Rep C g v d) → Reps C g vs ds
  | [], [], _, _ => .nil
  | [], _ :: _, h, _ => by cases h
  | _ :: _, [], h, _ => by cases h
  | v :: vs, d :: ds, h, q => .cons (q 0 v d rfl rfl) (reps_of (by simpa using h) fun i v d h1 h2 => q (i + 1) v d (by simpa using h1) (by simpa using h2))
theorem RepO.flat {v : V} {w : Ow} {d : D} (h : RepO C g H v w) (e : w.flat = some d) : RepF C g H v d := by
  obtain ⟨fp, h, n⟩ := h
  cases h with
  | val r => cases e; exact .rep r
  | dic h k r => cases e; exact .dic h (n _ (by simp)) k r
  | ins h k r => cases e; exact .ins h (n _ (by simp)) k r
  | @lst a vs ws fps h l1 l2 q =>
    have e' : (if ws.all Ow.isVal then some (D.lst (Ow.snaps ws)) else none) = some d := e
    by_cases hv : ws.all Ow.isVal = true
    · rw [if_pos hv] at e'
      cases e'
      have ew := vals_of hv
      have el : ws.length = (Ow.snaps ws).length := by rw [Ow.snaps_eq, List.length_map]
      refine .lst h (n _ (by simp)) (reps_of (by omega) fun i v d h1 h2 => ?_)
      have h3 : ws[i]? = some (.val d) := by rw [ew, List.getElem?_map, h2]; rfl
      have hi : i < fps.length := by rw [l2]; exact (List.getElem?_eq_some_iff.mp h3).1
      exact (q i v _ _ h1 h3 (List.getElem?_eq_getElem hi)).repv
    · rw [if_neg hv] at e'; cases e'

theorem Sim.rdL {lk : List Addr} (s : Sim C lk g S H) {a : Addr} {vs : List V} (h : Rd g.Φ a (.lst vs)) : Rd H a (.lst vs) := by
  rcases h with h | ⟨o, h⟩
  · have q := s.fz _ _ h
    unfold As at q
    split at q
    · rename_i hl
      obtain ⟨kvs, hk⟩ := s.lkf a hl
      rw [h] at hk; cases hk
    · exact .inl q
  · have q := s.fz _ _ h
    unfold As at q
    split at q
    · rename_i hl
      obtain ⟨kvs, hk⟩ := s.lkf a hl
      rw [h] at hk; cases hk
    · exact .inr ⟨o, q⟩
theorem Sim.sqL {lk : List Addr} (s : Sim C lk g S H) {a : Addr} {vs : List V} (h : SqL C.K g.Φ a vs) : SqL C.K H a vs := by
  rcases h with h | h
  · exact .inl (s.rdL h)
  · exact .inr h
theorem Sim.sqT {lk : List Addr} (s : Sim C lk g S H) {a : Addr} {vs : List V} (h : SqT C.K g.Φ a vs) : SqT C.K H a vs := by
  rcases h with (h | ⟨o, h⟩) | h
  · have q := s.fz _ _ h
    unfold As at q
    split at q
    · rename_i hl
      obtain ⟨kvs, hk⟩ := s.lkf a hl
      rw [h] at hk; cases hk
    · exact .inl (.inl q)
  · have q := s.fz _ _ h
    unfold As at q
    split at q
    · rename_i hl
      obtain ⟨kvs, hk⟩ := s.lkf a hl
      rw [h] at hk; cases hk
    · exact .inl (.inr ⟨o, q⟩)
  · exact .inr h
theorem Sim.dK {lk : List Addr} (s : Sim C lk g S H) {a : Addr} {kvs : List (Key × V)} (h : g.Φ a = some (.dK kvs)) : Rd H a (.dK kvs) := by
  have q := s.fz _ _ h
  unfold As at q
  split at q
  · exact .inr q
  · exact .inl q
theorem Sim.shAt {lk : List Addr} (s : Sim C lk g S H) {a : Addr} {i : Nat} {m : MO} (h : g.μ[i]? = some a) (hm : S[i]? = some m) : MoR C g H a m := s.sh i a m h hm
/-- a list or a tuple that is read -/
theorem Sim.seq {lk : List Addr} (s : Sim C lk g S H) {v : V} {d : D} {ds : List D} (r : RepF C g H v d) (h : seqOf S d = some ds) :
    ∃ a vs, v = .ref a ∧ (SqL C.K H a vs ∨ SqT C.K H a vs) ∧ Reps C g vs ds := by
  cases r with
  | rep r =>
    cases r with
    | lst h1 r => cases h; exact ⟨_, _, rfl, .inl (.inl (s.rdL h1)), r⟩
    | scr h1 r => cases h; exact ⟨_, _, rfl, .inl (s.sqL h1), r⟩
    | tup h1 r => cases h; exact ⟨_, _, rfl, .inr (s.sqT h1), r⟩
    | @ref a id h1 =>
      have h' : (match S[id]? with | some (.lst ds) => some ds | _ => none) = some ds := h
      split at h'
      · rename_i ds' hS
        cases h'
        obtain ⟨vs, h2, r⟩ := s.shAt h1 hS
        exact ⟨_, vs, rfl, .inl (.inl (.inl h2)), r⟩
      · cases h'
    | _ => cases h
  | lst h1 n r => cases h; exact ⟨_, _, rfl, .inl (.inl (.inl h1)), r⟩
  | dic => cases h
  | ins => cases h
theorem Sim.lstq {lk : List Addr} (s : Sim C lk g S H) {v : V} {d : D} {ds : List D} (r : RepF C g H v d) (h : lstOf S d = some ds) :
    ∃ a vs, v = .ref a ∧ SqL C.K H a vs ∧ Reps C g vs ds := by
  cases r with
  | rep r =>
    cases r with
    | lst h1 r => cases h; exact ⟨_, _, rfl, .inl (s.rdL h1), r⟩
    | scr h1 r => cases h; exact ⟨_, _, rfl, s.sqL h1, r⟩
    | @ref a id h1 =>
      have h' : (match S[id]? with | some (.lst ds) => some ds | _ => none) = some ds := h
      split at h'
      · rename_i ds' hS
        cases h'
        obtain ⟨vs, h2, r⟩ := s.shAt h1 hS
        exact ⟨_, vs, rfl, .inl (.inl h2), r⟩
      · cases h'
    | _ => cases h
  | lst h1 n r => cases h; exact ⟨_, _, rfl, .inl (.inl h1), r⟩
  | dic => cases h
  | ins => cases h
theorem Sim.dicq {lk : List Addr} (s : Sim C lk g S H) {v : V} {d : D} {ks : List Key} {ds : List D} (r : RepF C g H v d) (h : dicOf S d = some (ks, ds)) :
    ∃ a kvs, v = .ref a ∧ Rd H a (.dK kvs) ∧ kvs.map (·.1) = ks ∧ Reps C g (kvs.map (·.2)) ds := by
  cases r with
  | rep r =>
    cases r with
    | dic h1 k r => cases h; exact ⟨_, _, rfl, s.dK h1, k, r⟩
    | @ref a id h1 =>
      have h' : (match S[id]? with | some (.dic ks ds) => some (ks, ds) | _ => none) = some (ks, ds) := h
      split at h'
      · rename_i hS
        cases h'
        obtain ⟨kvs, h2, k, r⟩ := s.shAt h1 hS
        exact ⟨_, kvs, rfl, .inl h2, k, r⟩
      · cases h'
    | _ => cases h
  | lst => cases h
  | dic h1 n k r => cases h; exact ⟨_, _, rfl, .inl h1, k, r⟩
  | ins => cases h
theorem Sim.insq {lk : List Addr} (s : Sim C lk g S H) {v : V} {d : D} {c : Nat} {ns : List String} {ds : List D} (r : RepF C g H v d) (h : insOf S d = some (c, ns, ds)) :
    ∃ a dx fs, v = .ref a ∧ H a = some (.ins (C.ca c) dx fs) ∧ fs.map (·.1) = ns.map Str.ofString ∧ Reps C g (fs.map (·.2)) ds := by
  cases r with
  | rep r =>
    cases r with
    | ins h1 k r =>
      cases h
      have q := s.fz _ _ h1
      unfold As at q
      split at q
      · rename_i hl
        obtain ⟨kvs, hk⟩ := s.lkf _ hl
        rw [h1] at hk; cases hk
      · exact ⟨_, _, _, rfl, q, k, r⟩
    | @ref a id h1 =>
      have h' : (match S[id]? with | some (.ins c ns ds) => some (c, ns, ds) | _ => none) = some (c, ns, ds) := h
      split at h'
      · rename_i hS
        cases h'
        obtain ⟨dx, fs, h2, k, r⟩ := s.shAt h1 hS
        exact ⟨_, dx, fs, rfl, h2, k, r⟩
      · cases h'
    | _ => cases h
  | lst => cases h
  | dic => cases h
  | ins h1 n k r => cases h; exact ⟨_, _, _, rfl, h1, k, r⟩

theorem As.ne {lk : List Addr} {a p : Addr} {o : HO} (h : As lk H a o) (hp : H p = none) : a ≠ p := by
  unfold As at h
  split at h
  · obtain ⟨ob, h⟩ := h; exact ne_of_none h hp
  · exact ne_of_none h hp
theorem As.kept {lk : List Addr} {a : Addr} {u : HO} (k : ∀ o, H a = some o → H' a = some o) (h : As lk H a u) : As lk H' a u := by
  unfold As at h ⊢
  split at h
  · rename_i hl
    obtain ⟨ob, h⟩ := h
    rw [if_pos hl]; exact ⟨ob, k _ h⟩
  · rename_i hl
    rw [if_neg hl]; exact k _ h
theorem MoR.dom {a : Addr} {m : MO} (z : MoR C g H a m) : ∃ o, H a = some o := by
  cases m with
  | lst ds => obtain ⟨vs, z, _⟩ := z; exact ⟨_, z⟩
  | dic ks ds => obtain ⟨vs, z, _⟩ := z; exact ⟨_, z⟩
  | ins c ns ds => obtain ⟨dx, vs, z, _⟩ := z; exact ⟨_, z⟩
theorem MoR.kept {a : Addr} {m : MO} (le : g.Le g') (k : ∀ o, H a = some o → H' a = some o) (z : MoR C g H a m) : MoR C g' H' a m := by
  cases m with
  | lst ds => obtain ⟨vs, q, r⟩ := z; exact ⟨vs, k _ q, r.mono le⟩
  | dic ks ds => obtain ⟨vs, q, kk, r⟩ := z; exact ⟨vs, k _ q, kk, r.mono le⟩
  | ins c ns ds => obtain ⟨dx, vs, q, kk, r⟩ := z; exact ⟨dx, vs, k _ q, kk, r.mono le⟩
/-- what is new is not among the known -/
theorem Sim.new {lk : List Addr} (s : Sim C lk g S H) {p : Addr} (hp : H p = none) : g.Φ p = none ∧ p ∉ lk ∧ p ∉ g.μ := by
  have np : g.Φ p = none := by
    cases q : g.Φ p with
    | none => rfl
    | some u => exact absurd rfl ((s.fz _ _ q).ne hp)
  refine ⟨np, fun h => ?_, fun h => ?_⟩
  · obtain ⟨kvs, q⟩ := s.lkf p h
    rw [np] at q; cases q
  · obtain ⟨i, hi, q⟩ := List.mem_iff_getElem.mp h
    have hS : i < S.length := by rw [s.shl]; exact hi
    obtain ⟨o, z⟩ := (s.sh i p _ (by rw [List.getElem?_eq_getElem hi, q]) (List.getElem?_eq_getElem hS)).dom
    rw [hp] at z; cases z
theorem StR.new0 (s : StR C B g e S σ H) {p : Addr} (hp : H p = none) : B.H0 p = none ∨ p ∈ B.g0.μ ∨ p ∈ B.ex := by
  cases q : B.H0 p with
  | none => exact .inl rfl
  | some o =>
    by_cases h1 : p ∈ B.g0.μ
    · exact .inr (.inl h1)
    · by_cases h2 : p ∈ B.ex
      · exact .inr (.inr h2)
      · exact absurd rfl ((s.fr p o q h1 h2).ne hp)
/-- behind a step that knows nothing of this body -/
theorem StR.call (s : StR C B g e S σ H) (f : Frm g H g' H') (m : Sim C B.lks g' S' H') : StR C B g' e S' σ H' := by
  refine ⟨m, s.le.trans f.le, fun a o h => ?_, fun a h => ?_, fun a o h1 h2 h3 => (s.fr a o h1 h2 h3).kept fun u hu => f.kp a u hu fun hm => ?_, s.len, ?_, s.sl⟩
  · rcases f.nf a o h with z | z | z
    · exact s.nfz a o z
    · exact .inr (s.new0 z)
    · rcases s.mn a z with q | q | q
      · exact .inr (.inr (.inl q))
      · exact .inr (.inl q)
      · exact .inr (.inr (.inr q))
  · rcases f.nw a h with z | z
    · exact s.mn a z
    · rcases s.new0 z with q | q | q
      · exact .inr (.inl q)
      · exact .inl q
      · exact .inr (.inr q)
  · rcases s.mn a hm with q | q | q
    · exact h2 q
    · rw [h1] at q; cases q
    · exact h3 q
  · obtain ⟨F, f1, f2, f3, f4⟩ := s.ow
    refine ⟨F, f1, fun i w fp h1 h2 => (f2 i w fp h1 h2).mono f fun a ha => (f4 a (List.mem_flatten.mpr ⟨fp, List.mem_of_getElem? h2, ha⟩)).2.1, f3, fun a ha => ?_⟩
    obtain ⟨n1, n2, n3⟩ := f4 a ha
    obtain ⟨fp, h1, h2⟩ := List.mem_flatten.mp ha
    obtain ⟨i, hi⟩ := List.mem_iff_getElem?.mp h1
    have hl : i < e.length := by rw [← f1]; exact (List.getElem?_eq_some_iff.mp hi).1
    obtain ⟨u, hu⟩ := (f2 i _ fp (List.getElem?_eq_getElem hl) hi).dom a h2
    refine ⟨?_, fun hm => ?_, n3⟩
    · cases q : g'.Φ a with
      | none => rfl
      | some o =>
        rcases f.nf a o q with z | z | z
        · rw [n1] at z; cases z
        · rw [hu] at z; cases z
        · exact absurd z n2
    · rcases f.nw a hm with z | z
      · exact n2 z
      · rw [hu] at z; cases z
/-- a new thing that never changes -/
theorem StR.froz (s : StR C B g e S σ H) {p : Addr} {o : HO} (hp : H p = none) :
    StR C B ⟨upd g.Φ p o, g.μ⟩ e S σ (upd H p o) ∧ Frm g H ⟨upd g.Φ p o, g.μ⟩ (upd H p o) := by
  obtain ⟨np, npl, mp⟩ := s.toSim.new hp
  have le : g.Le ⟨upd g.Φ p o, g.μ⟩ := ⟨fun a u h => by show upd g.Φ p o a = some u; rw [upd_ne (ne_of_none h np)]; exact h, fun _ _ h => h⟩
  have kk : ∀ a u, H a = some u → upd H p o a = some u := fun a u h => by rw [upd_ne (ne_of_none h hp)]; exact h
  have fm : Frm g H ⟨upd g.Φ p o, g.μ⟩ (upd H p o) := ⟨le, fun a u h _ => kk a u h, fun a h => .inl h, fun a u h => by
    by_cases q : a = p
    · subst q; exact .inr (.inl hp)
    · have h' : upd g.Φ p o a = some u := h
      rw [upd_ne q] at h'; exact .inl h'⟩
  refine ⟨⟨⟨fun a u h => ?_, fun a ha => ?_, s.shl, fun i a m h1 h2 => (s.sh i a m h1 h2).kept le (kk a), fun a ha => ?_, s.md⟩, s.le.trans le, fun a u h => ?_, s.mn, fun a u h1 h2 h3 => (s.fr a u h1 h2 h3).kept (kk a), s.len, ?_, s.sl⟩, fm⟩
  · have h0 : upd g.Φ p o a = some u := h
    by_cases q : a = p
    · subst q
      rw [upd_same] at h0
      cases h0
      unfold As
      rw [if_neg npl, upd_same]
    · rw [upd_ne q] at h0
      exact (s.fz a u h0).kept (kk a)
  · obtain ⟨kvs, h⟩ := s.lkf a ha
    exact ⟨kvs, le.fz _ _ h⟩
  · show upd g.Φ p o a = none
    rw [upd_ne fun q => mp (by rw [← q]; exact ha)]; exact s.mf a ha
  · have h0 : upd g.Φ p o a = some u := h
    by_cases q : a = p
    · subst q
      exact .inr (s.new0 hp)
    · rw [upd_ne q] at h0
      exact s.nfz a u h0
  · obtain ⟨F, f1, f2, f3, f4⟩ := s.ow
    refine ⟨F, f1, fun i w fp h1 h2 => (f2 i w fp h1 h2).mono fm fun a ha => (f4 a (List.mem_flatten.mpr ⟨fp, List.mem_of_getElem? h2, ha⟩)).2.1, f3, fun a ha => ?_⟩
    obtain ⟨n1, n2, n3⟩ := f4 a ha
    refine ⟨?_, n2, n3⟩
    show upd g.Φ p o a = none
    obtain ⟨fp, h1, h2⟩ := List.mem_flatten.mp ha
    obtain ⟨i, hi⟩ := List.mem_iff_getElem?.mp h1
    have hl : i < e.length := by rw [← f1]; exact (List.getElem?_eq_some_iff.mp hi).1
    obtain ⟨u, hu⟩ := (f2 i _ fp (List.getElem?_eq_getElem hl) hi).dom a h2
    rw [upd_ne (ne_of_none hu hp)]; exact n1
end
end PV

set_option Elab.async false
set_option linter.all false
set_option maxRecDepth 100000
set_option maxHeartbeats 1000000
/-! PV3: the judgement, and rules for expressions. -/
namespace PV
open PySem PySem.Spec L2
open PyProof.Rows hiding St

/-- how an exception lies -/
def ExR (C : Kx) (g : G) (H : Hp) (cls : Value) (d : Option Addr) (c : Nat) (ns : List String) (ds : List D) : Prop :=
  cls = .ref (C.ca c) ∧ ((d = none ∧ ns = [] ∧ ds = []) ∨ ∃ a fs, d = some a ∧ H a = some (.xd fs) ∧ fs.map (·.1) = ns.map Str.ofString ∧ Reps C g (fs.map (·.2)) ds)

section
variable (C : Kx) (B : Bs) (W : WX)
/-- from (g, S, H) the outcome o brings Q -/
def Post {α β : Type} (R : G → Hp → β → α → Prop) (g : G) (e : Env) (σ : St) (H : Hp) (o : Out α) (Q : β → Hp → Prop) : Prop := match o with
  | .ok w S' => ∀ v H' g', Frm g H g' H' → StR C B g' e S' σ H' → R g' H' v w → Q v H'
  | .exc c ns ds S' => ∀ cls d H' g', Frm g H g' H' → StR C B g' e S' σ H' → ExR C g' H' cls d c ns ds → W cls d σ H'
  | .stuck => False
def tG {α β : Type} (R : G → Hp → β → α → Prop) (f : Env → M α) (σ : St) (H : Hp) (Q : β → Hp → Prop) : Prop :=
  ∃ g e S, StR C B g e S σ H ∧ Post C B W R g e σ H (f e S) Q
abbrev RO : G → Hp → V → Ow → Prop := fun g H v w => RepO C g H v w
abbrev RB : G → Hp → Bool → Bool → Prop := fun _ _ v w => v = w
abbrev RS : G → Hp → List V → List D → Prop := fun g _ vs ds => Reps C g vs ds
def tE (f : Env → M Ow) : TE := tG C B W (RO C) f
def tT (f : Env → M Bool) : TT := tG C B W RB f
def tA (f : Env → M (List D)) : TA := tG C B W (RS C) f
end
section
variable {C : Kx} {B : Bs} {W : WX} {g g' : G} {e : Env} {S S' : Store} {σ : St} {H H' : Hp} {α β γ δ : Type} {R : G → Hp → β → α → Prop} {R2 : G → Hp → δ → γ → Prop}
theorem Post.later {o : Out α} {Q : β → Hp → Prop} (f : Frm g H g' H') (h : Post C B W R g e σ H o Q) : Post C B W R g' e σ H' o Q := by
  cases o with
  | ok a S => exact fun v H2 g2 f2 st r => h v H2 g2 (f.trans f2) st r
  | exc c ns ds S => exact fun cls d H2 g2 f2 st r => h cls d H2 g2 (f.trans f2) st r
  | stuck => exact h
theorem Post.imp {o : Out α} {Q Q' : β → Hp → Prop} (h : Post C B W R g e σ H o Q) (q : ∀ v H, Q v H → Q' v H) : Post C B W R g e σ H o Q' := by
  cases o with
  | ok a S => exact fun v H2 g2 f2 st r => q _ _ (h v H2 g2 f2 st r)
  | exc c ns ds S => exact h
  | stuck => exact h
theorem Post.seq {m : M α} {k : α → M γ} {Q : δ → Hp → Prop} {Z : β → Hp → Prop} (h : Post C B W R2 g e σ H ((m >>= k) S) Q)
    (hk : ∀ a S1 v1 H1 g1, Frm g H g1 H1 → StR C B g1 e S1 σ H1 → R g1 H1 v1 a → Post C B W R2 g1 e σ H1 (k a S1) Q → Z v1 H1) : Post C B W R g e σ H (m S) Z := by
  rw [bind_ap] at h
  cases q : m S with
  | ok a S1 =>
    rw [q] at h
    exact fun v H1 g1 f st r => hk a S1 v H1 g1 f st r (Post.later f h)
  | exc c ns ds S1 => rw [q] at h; exact h
  | stuck => rw [q] at h; exact h
/-- what is outright so: a step that does nothing -/
theorem Post.ret {a : α} {Q : β → Hp → Prop} {v : β} (h : Post C B W R g e σ H (.ok a S) Q) (st : StR C B g e S σ H) (r : R g H v a) : Q v H := h v H g .refl st r
theorem post_ofO {o : Option γ} {k : γ → M α} {Q : β → Hp → Prop} (h : Post C B W R g e σ H ((M.ofO o >>= k) S) Q) : ∃ a, o = some a ∧ Post C B W R g e σ H (k a S) Q := by
  cases o with
  | none => exact False.elim h
  | some a => exact ⟨a, rfl, h⟩
theorem post_guard {b : Bool} {k : Unit → M α} {Q : β → Hp → Prop} (h : Post C B W R g e σ H ((guardM b >>= k) S) Q) : b = true ∧ Post C B W R g e σ H (k () S) Q := by
  cases b with
  | false => exact False.elim h
  | true => exact ⟨rfl, h⟩
/-- a new thing that never changes, given out -/
theorem post_new {w : D} {Q : VK} (h : Post C B W (RO C) g e σ H (.ok (.val w) S) Q) (st : StR C B g e S σ H) {p : Addr} {o : HO} (hp : H p = none)
    (r : ∀ g', g.Le g' → g'.Φ p = some o → Rep C g' (.ref p) w) : Q (.ref p) (upd H p o) := by
  obtain ⟨s2, f⟩ := st.froz (o := o) hp
  exact h _ _ _ f s2 (.val (r _ f.le (by show upd g.Φ p o p = _; rw [upd_same])))
end

/-! ### the judgements -/
section
variable (X : Cx) (C : Kx) (B : Bs) (W : WX)
def Sv (pe : Expr) (f : Env → M Ow) : Prop := PE X pe (tE C B W f)
def Sb (pe : Expr) (f : Env → M Bool) : Prop := PT X pe (tT C B W f)
def Sa (ps : List Expr) (f : Env → M (List D)) : Prop := PA X ps (tA C B W f)
end
section
variable {X : Cx} {C : Kx} {B : Bs} {W : WX}
theorem PE.imp {pe : Expr} {t t' : TE} (h : PE X pe t) (q : ∀ σ H Q, t' σ H Q → t σ H Q) : PE X pe t' := ⟨fun pins s σ H Q I hw => h.run pins s σ H Q I (q σ H Q hw)⟩
theorem PT.imp {pe : Expr} {t t' : TT} (h : PT X pe t) (q : ∀ σ H Q, t' σ H Q → t σ H Q) : PT X pe t' := ⟨fun pins s σ H Q I hw => h.run pins s σ H Q I (q σ H Q hw)⟩
theorem PA.imp {ps : List Expr} {t t' : TA} (h : PA X ps t) (q : ∀ σ H Q, t' σ H Q → t σ H Q) : PA X ps t' := ⟨fun pos pins s σ H Q I hw => h.run pos pins s σ H Q I (q σ H Q hw)⟩

/-! ### names, constants -/
def evVar (i : Nat) : Env → M Ow := fun e => M.ofO (e[i]?.getD none)
theorem sv_var {i : Nat} {x : Str} {pos : Pos} (hN : X.N[i]? = some x) (hv : Vis X.env.scope x) (hd : (x == ("__debug__" : Str)) = false) (hcd : (x == ("__classdict__" : Str)) = false) : Sv X C B W (.Name x pos) (evVar i) := by
  refine PE.imp (pe_var hN hv hd hcd) fun σ H Q ⟨g, e, S, st, h⟩ => ?_
  unfold evVar at h
  cases q : e[i]? with
  | none => rw [q] at h; exact False.elim h
  | some o =>
    cases o with
    | none => rw [q] at h; exact False.elim h
    | some w =>
      rw [q] at h
      obtain ⟨F, f1, f2, f3, f4⟩ := st.ow
      have hi : i < F.length := by rw [f1]; exact (List.getElem?_eq_some_iff.mp q).1
      obtain ⟨v, hv, r⟩ := f2 i _ _ q (List.getElem?_eq_getElem hi)
      refine ⟨v, ?_, h v H g .refl st ⟨_, r, fun a ha => (f4 a (List.mem_flatten.mpr ⟨_, List.getElem_mem hi, ha⟩)).2.1⟩⟩
      cases z : σ[i]? with
      | none => rw [z] at hv; cases hv
      | some u => rw [z] at hv; exact congrArg some hv
def evC (d : D) : Env → M Ow := fun _ => M.pure (.val d)
theorem sv_const {pe : Expr} {v : V} {d : D} (h : PE X pe (tC v)) (r : ∀ g, Rep C g v d) : Sv X C B W pe (evC d) :=
  PE.imp h fun σ H Q ⟨g, e, S, st, q⟩ => q v H g .refl st (.val (r g))
theorem sv_int {i j pos} : Sv X C B W (.Constant (.int i) j pos) (evC (.int i)) := sv_const pe_int fun _ => .int i
theorem sv_bl {b j pos} : Sv X C B W (.Constant (.bool b) j pos) (evC (.bl b)) := sv_const pe_bl fun _ => .bl b
theorem sv_non {j pos} : Sv X C B W (.Constant .none j pos) (evC .non) := sv_const pe_non fun _ => .non
theorem sv_str {x j pos} : Sv X C B W (.Constant (.str x) j pos) (evC (.str x)) := sv_const pe_str fun _ => .str x

/-! ### operators -/
/-- flat values of two -/
def ev2 (k : D → D → M Ow) (a b : Env → M Ow) : Env → M Ow := fun e => do
  let x ← a e
  let y ← b e
  let x ← M.ofO x.flat
  let y ← M.ofO y.flat
  k x y
def Op2 (C : Kx) (B : Bs) (W : WX) (r : R2) (k : D → D → M Ow) : Prop := ∀ g e S σ H v1 v2 d1 d2 Q, StR C B g e S σ H → RepF C g H v1 d1 → RepF C g H v2 d2 → Post C B W (RO C) g e σ H (k d1 d2 S) Q → r v1 v2 H Q
theorem tOp_of {r : R2} {k : D → D → M Ow} (ho : Op2 C B W r k) {fa fb : Env → M Ow} {σ : St} {H : Hp} {Q : VK} (h : tE C B W (ev2 k fa fb) σ H Q) : tOp r (tE C B W fa) (tE C B W fb) σ H Q := by
  obtain ⟨g, e, S, st, h⟩ := h
  refine ⟨g, e, S, st, Post.seq h fun x S1 v1 H1 g1 f1 st1 r1 h1 => ?_⟩
  refine ⟨g1, e, S1, st1, Post.seq h1 fun y S2 v2 H2 g2 f2 st2 r2 h2 => ?_⟩
  obtain ⟨d1, e1, h2⟩ := post_ofO h2
  obtain ⟨d2, e2, h2⟩ := post_ofO h2
  exact ho g2 e S2 σ H2 v1 v2 d1 d2 Q st2 ((r1.mono f2).flat e1) (r2.flat e2) h2
theorem sv_op {pa pb : Expr} {op : Operator} {pos : Pos} {r : R2} {k : D → D → M Ow} {fa fb : Env → M Ow} (hr : OpR X (binaryOp op) r) (ho : Op2 C B W r k) (ha : Sv X C B W pa fa) (hb : Sv X C B W pb fb) :
    Sv X C B W (.BinOp pa op pb pos) (ev2 k fa fb) := PE.imp (pe_op hr ha hb) fun σ H Q h => tOp_of ho h
theorem sv_cmp {pa pb : Expr} {op : CmpOp} {pos : Pos} {r : R2} {k : D → D → M Ow} {fa fb : Env → M Ow} (hr : OpR X (compareOp op) r) (ho : Op2 C B W r k) (ha : Sv X C B W pa fa) (hb : Sv X C B W pb fb) (hm : behindInMarks op pb = false) :
    Sv X C B W (.Compare pa [op] [pb] pos) (ev2 k fa fb) := PE.imp (pe_cmpR hr ha hb hm) fun σ H Q h => tOp_of ho h
/-- a value that is True or False, as a test -/
def asB (f : Env → M Ow) : Env → M Bool := fun e => do
  let w ← f e
  match w with
  | .val (.bl b) => M.pure b
  | _ => M.stuck
theorem tTest_of {t : TE} {f : Env → M Ow} (ht : ∀ σ H Q, tE C B W f σ H Q → t σ H Q) {σ : St} {H : Hp} {Q : Bool → Hp → Prop} (h : tT C B W (asB f) σ H Q) : t σ H fun x H' => ∃ k, x = .bl k ∧ Q k H' := by
  obtain ⟨g, e, S, st, h⟩ := h
  refine ht _ _ _ ⟨g, e, S, st, Post.seq h fun w S1 v1 H1 g1 f1 st1 r1 h1 => ?_⟩
  split at h1
  · rename_i b
    have r := r1.rep
    cases r
    exact ⟨b, rfl, h1.ret st1 rfl⟩
  · exact False.elim h1
theorem sb_cmp {pa pb : Expr} {op : CmpOp} {pos : Pos} {r : R2} {k : D → D → M Ow} {fa fb : Env → M Ow} (hr : OpR X (compareOp op) r) (ho : Op2 C B W r k) (ha : Sv X C B W pa fa) (hb : Sv X C B W pb fb) (hm : behindInMarks op pb = false) :
    Sb X C B W (.Compare pa [op] [pb] pos) (asB (ev2 k fa fb)) := PT.imp (pt_cmpR hr ha hb hm) fun σ H Q h => tTest_of (fun σ H Q h => tOp_of ho h) h
theorem sb_val {pe : Expr} {f : Env → M Ow} (h : Sv X C B W pe f) (he : ∀ whole, isTrue pe X.env whole = (do let v ← whole; standAt pe.pos; holding [v] (truthy v))) : Sb X C B W pe (asB f) :=
  PT.imp (pt_val h he) fun σ H Q h => tTest_of (fun _ _ _ h => h) h
/-! #### arithmetic -/
def okMul (i j : Int) : Bool := decide (i.natAbs.log2 + j.natAbs.log2 < 1000000)
def subD : D → D → M Ow
  | .int i, .int j => M.pure (.val (.int (i - j)))
  | _, _ => M.stuck
def pI (i : Int) : M Ow := M.pure (.val (.int i))
def pB (b : Bool) : M Ow := M.pure (.val (.bl b))
theorem op2_sub : Op2 C B W (rI0 fun i j => .int (i - j)) subD := by
  intro g e S σ H v1 v2 d1 d2 Q st r1 r2 h
  unfold subD at h
  split at h
  · rename_i i j
    cases r1 with | rep r1 => cases r2 with | rep r2 => cases r1; cases r2; exact ⟨i, j, rfl, rfl, h.ret st (.val (.int _))⟩
  · exact False.elim h
def cmpD (p : Int → Int → Bool) : D → D → M Ow
  | .int i, .int j => M.pure (.val (.bl (p i j)))
  | _, _ => M.stuck
theorem op2_cmp {p : Int → Int → Bool} : Op2 C B W (rI0 fun i j => .bl (p i j)) (cmpD p) := by
  intro g e S σ H v1 v2 d1 d2 Q st r1 r2 h
  unfold cmpD at h
  split at h
  · rename_i i j
    cases r1 with | rep r1 => cases r2 with | rep r2 => cases r1; cases r2; exact ⟨i, j, rfl, rfl, h.ret st (.val (.bl _))⟩
  · exact False.elim h
def arD (c : Int → Int → Bool) (p : Int → Int → Int) : D → D → M Ow
  | .int i, .int j => if c i j then M.pure (.val (.int (p i j))) else M.stuck
  | _, _ => M.stuck
theorem op2_ar {c : Int → Int → Bool} {P : Int → Int → Prop} {p : Int → Int → Int} (hc : ∀ i j, c i j = true → P i j) : Op2 C B W (rI P fun i j => .int (p i j)) (arD c p) := by
  intro g e S σ H v1 v2 d1 d2 Q st r1 r2 h
  unfold arD at h
  split at h
  · rename_i i j
    split at h
    · rename_i hcc
      cases r1 with | rep r1 => cases r2 with | rep r2 => cases r1; cases r2; exact ⟨i, j, rfl, rfl, hc _ _ hcc, h.ret st (.val (.int _))⟩
    · exact False.elim h
  · exact False.elim h
/-- // and % by any number but nought, below 2 ^ 9000 -/
def okDiv (_ j : Int) : Bool := decide (j ≠ 0) && decide (j.natAbs.log2 < 9000)
def okMod (_ j : Int) : Bool := decide (j ≠ 0)
def okPow (i j : Int) : Bool := decide (0 ≤ j) && decide (j ≤ 1000000) && decide (i.natAbs < 2 ^ 64)
theorem op_fdivA : OpR X (binaryOp .FloorDiv) (rI (fun _ j => j ≠ 0 ∧ j.natAbs.log2 < 9000) fun i j => .int (i.fdiv j)) := opI fun i j _ _ _ _ _ hc q =>
  floordiv_int hc.1 q (.inl (PyProof.noPylong_of_log2 hc.2))
def fdivD : D → D → M Ow := arD okDiv Int.fdiv
def modD : D → D → M Ow := arD okMod Int.fmod
def powD : D → D → M Ow := arD okPow fun i j => i ^ j.toNat
theorem op2_fdiv : Op2 C B W (rI (fun _ j => j ≠ 0 ∧ j.natAbs.log2 < 9000) fun i j => .int (i.fdiv j)) fdivD := op2_ar fun i j h => by
  unfold okDiv at h; rw [Bool.and_eq_true] at h; exact ⟨of_decide_eq_true h.1, of_decide_eq_true h.2⟩
theorem op2_mod : Op2 C B W (rI (fun _ j => j ≠ 0) fun i j => .int (i.fmod j)) modD := op2_ar fun i j h => of_decide_eq_true h
theorem op2_pow : Op2 C B W (rI CPow fun i j => .int (i ^ j.toNat)) powD := op2_ar fun i j h => by
  unfold okPow at h; rw [Bool.and_eq_true, Bool.and_eq_true] at h; exact ⟨of_decide_eq_true h.1.1, of_decide_eq_true h.1.2, of_decide_eq_true h.2⟩
/-! #### list + list, tuple + tuple, text + text; list * int -/
theorem op_catL : OpR X (binaryOp .Add) (fun x y H Q => ∃ l b xs zs, x = .ref l ∧ y = .ref b ∧ SqL X.K H l xs ∧ SqL X.K H b zs ∧ xs.length + zs.length ≤ sizeLine ∧ ∀ p, H p = none → Q (.ref p) (upd H p (.lst (xs ++ zs)))) := by
  intro pins s σ H x y v u Q I rx ry h
  obtain ⟨l, b, xs, zs, rfl, rfl, hl, hb, hz, q⟩ := h
  cases rx
  cases ry
  obtain ⟨vs, r1, ⟨⟨cls, dd, data, sl⟩, n, ho, hc, hdd, hd⟩, z1⟩ := I.list hl
  obtain ⟨ws, r2, ⟨⟨cls2, dd2, data2, sl2⟩, n2, ho2, hc2, hdd2, hd2⟩, z2⟩ := I.list hb
  simp only at hc hd hc2 hd2
  subst hc hd hc2 hd2
  have e : vs.toArray ++ ws.toArray = (vs ++ ws).toArray := by simp
  have l1 := r1.length
  have l2 := r2.length
  refine concat_meets ⟨_, ho, rfl⟩ ⟨_, ho2, rfl⟩ noFill_list_add seq_list_add PySem.F.slot_list_add PySem.F.entry_list_add (PySem.F.args_list_add_2 _ _) (list_addW l b vs.toArray ws.toArray n n2 dd dd2 sl sl2 (by simp only [List.size_toArray]; omega)) ⟨ho, ho2, ?_⟩
  rw [e]
  exact ⟨.ref _, _, I.lnew (t' := s.toks) (r1.append r2) (by rw [List.length_append]; omega), rfl, q _ I.fresh⟩
def rAddA (K : PySem.W.Frag) : R2 := fun x y H Q => (∃ i j, x = .int i ∧ y = .int j ∧ Q (.int (i + j)) H) ∨ (∃ i j, x = .str i ∧ y = .str j ∧ i.length + j.length ≤ sizeLine ∧ Q (.str (i ++ j)) H) ∨
  (∃ l b xs zs, x = .ref l ∧ y = .ref b ∧ SqL K H l xs ∧ SqL K H b zs ∧ xs.length + zs.length ≤ sizeLine ∧ ∀ p, H p = none → Q (.ref p) (upd H p (.lst (xs ++ zs)))) ∨ rCatA K x y H Q
theorem op_addA : OpR X (binaryOp .Add) (rAddA X.K) := OpR.or op_add (OpR.or op_add_str (OpR.or op_catL op_catA))
def addD : D → D → M Ow := fun x y S => match x, y with
  | .int i, .int j => .ok (.val (.int (i + j))) S
  | .str a, .str b => if a.length + b.length ≤ line then .ok (.val (.str (a ++ b))) S else .stuck
  | .tup a, .tup b => if a.length + b.length ≤ line then .ok (.val (.tup (a ++ b))) S else .stuck
  | x, y => match lstOf S x, lstOf S y with
    | some a, some b => if a.length + b.length ≤ line then .ok (.val (.lst (a ++ b))) S else .stuck
    | _, _ => .stuck
theorem line_le {n : Nat} (h : n ≤ line) : n ≤ sizeLine := Nat.le_trans h (by rw [sizeLine_eq]; decide)
theorem op2_add : Op2 C B W (rAddA C.K) addD := by
  intro g e S σ H v1 v2 d1 d2 Q st r1 r2 h
  unfold addD at h
  split at h
  · rename_i i j
    cases r1 with | rep r1 => cases r2 with | rep r2 => cases r1; cases r2; exact .inl ⟨i, j, rfl, rfl, h.ret st (.val (.int _))⟩
  · rename_i a b
    split at h
    · rename_i hz
      cases r1 with | rep r1 => cases r2 with | rep r2 => cases r1; cases r2; exact .inr (.inl ⟨a, b, rfl, rfl, line_le hz, h.ret st (.val (.str _))⟩)
    · exact False.elim h
  · rename_i a b
    split at h
    · rename_i hz
      cases r1 with | rep r1 => cases r2 with | rep r2 =>
        cases r1 with | tup t1 q1 => cases r2 with | tup t2 q2 =>
          rename_i a1 vs1 a2 vs2
          have l1 := q1.length
          have l2 := q2.length
          refine .inr (.inr (.inr ⟨a1, a2, vs1, vs2, rfl, rfl, st.toSim.sqT t1, st.toSim.sqT t2, line_le (by omega), fun e1 => ?_, fun e1 e2 => ?_, fun e1 e2 p hp => ?_⟩))
          · subst e1
            cases q1
            exact h.ret st (.val (.tup t2 q2))
          · subst e2
            cases q2
            rw [List.append_nil] at h
            exact h.ret st (.val (.tup t1 q1))
          · exact post_new h st hp fun g' le hg => .tup (.inl (.inl hg)) ((q1.append q2).mono le)
    · exact False.elim h
  · split at h
    · rename_i a b ha hb
      split at h
      · rename_i hz
        obtain ⟨a1, vs1, e1, t1, q1⟩ := st.toSim.lstq r1 ha
        obtain ⟨a2, vs2, e2, t2, q2⟩ := st.toSim.lstq r2 hb
        have l1 := q1.length
        have l2 := q2.length
        exact .inr (.inr (.inl ⟨a1, a2, vs1, vs2, e1, e2, t1, t2, line_le (by omega), fun p hp => post_new h st hp fun g' le hg => .lst (.inl hg) ((q1.append q2).mono le)⟩))
      · exact False.elim h
    · exact False.elim h
end
end PV

set_option Elab.async false
set_option linter.all false
set_option maxRecDepth 100000
set_option maxHeartbeats 1000000
/-! PV4: more expressions. -/
namespace PV
open PySem PySem.Spec L2
open PyProof.Rows hiding St
section
variable {X : Cx} {C : Kx} {B : Bs} {W : WX} {g g' : G} {e : Env} {S S' : Store} {σ : St} {H H' : Hp}

/-! ### arguments -/
abbrev ROs (C : Kx) : G → Hp → List V → List Ow → Prop := fun g H vs ws => Paired (RepO C g H) vs ws
theorem ros_mono (f : Frm g H g' H') : ∀ {vs : List V} {ws : List Ow}, Paired (RepO C g H) vs ws → Paired (RepO C g' H') vs ws
  | _, _, .nil => .nil
  | _, _, .cons r t => .cons (r.mono f) (ros_mono f t)
def Sas (X : Cx) (C : Kx) (B : Bs) (W : WX) (ps : List Expr) (f : Env → M (List Ow)) : Prop := PA X ps (tG C B W (ROs C) f)
def evNil : Env → M (List Ow) := fun _ => M.pure []
def evCons (a : Env → M Ow) (r : Env → M (List Ow)) : Env → M (List Ow) := fun e => do
  let x ← a e
  let xs ← r e
  M.pure (x :: xs)
theorem sas_nil : Sas X C B W [] evNil := PA.imp pa_nil fun σ H Q ⟨g, e, S, st, h⟩ => h _ _ _ .refl st .nil
theorem starEach_cons {p : Expr} {ps : List Expr} {env : PySem.Env} (h : (match p with | .Starred _ _ => false | _ => true) = true) : starEach (p :: ps) env = (false, eval p env) :: starEach ps env := by
  cases p <;> first | rfl | cases h
theorem sas_cons {p : Expr} {ps : List Expr} {a : Env → M Ow} {r : Env → M (List Ow)} (ha : Sv X C B W p a) (hr : Sas X C B W ps r) (hs : starEach (p :: ps) X.env = (false, eval p X.env) :: starEach ps X.env) :
    Sas X C B W (p :: ps) (evCons a r) := PA.imp (pa_cons ha hr hs) fun σ H Q ⟨g, e, S, st, h⟩ => by
  refine ⟨g, e, S, st, Post.seq h fun x S1 v1 H1 g1 f1 st1 r1 h1 => ?_⟩
  refine ⟨g1, e, S1, st1, Post.seq h1 fun xs S2 vs H2 g2 f2 st2 r2 h2 => ?_⟩
  exact h2 _ _ _ .refl st2 (.cons (r1.mono f2) r2)
/-- kept values -/
def stricts : List Ow → Option (List D)
  | [] => some []
  | .val d :: r => (stricts r).map (d :: ·)
  | _ :: _ => none
theorem stricts_ok : ∀ {vs : List V} {ws : List Ow} {ds : List D}, Paired (RepO C g H) vs ws → stricts ws = some ds → Reps C g vs ds
  | _, _, _, .nil, h => by cases h; exact .nil
  | _, _, _, @Paired.cons _ _ _ v w vs ws r t, h => by
    cases w with
    | val d =>
      unfold stricts at h
      cases q : stricts ws with
      | none => rw [q] at h; cases h
      | some es => rw [q] at h; cases h; exact .cons r.rep (stricts_ok t q)
    | _ => cases h
def flats : List Ow → Option (List D)
  | [] => some []
  | w :: r => match w.flat, flats r with
    | some d, some ds => some (d :: ds)
    | _, _ => none
theorem flats_ok : ∀ {vs : List V} {ws : List Ow} {ds : List D}, Paired (RepO C g H) vs ws → flats ws = some ds → Paired (RepF C g H) vs ds
  | _, _, _, .nil, h => by cases h; exact .nil
  | _, _, _, @Paired.cons _ _ _ v w vs ws r t, h => by
    unfold flats at h
    cases q1 : w.flat with
    | none => rw [q1] at h; cases h
    | some d =>
      cases q2 : flats ws with
      | none => rw [q1, q2] at h; cases h
      | some es => rw [q1, q2] at h; cases h; exact .cons (r.flat q1) (flats_ok t q2)
/-- a call with flat arguments -/
def evF (k : List D → M Ow) (a : Env → M (List Ow)) : Env → M Ow := fun e => do
  let ws ← a e
  let ds ← M.ofO (flats ws)
  k ds
/-- a call with kept arguments -/
def evK (k : List D → M Ow) (a : Env → M (List Ow)) : Env → M Ow := fun e => do
  let ws ← a e
  let ds ← M.ofO (stricts ws)
  k ds
def CallF (C : Kx) (B : Bs) (W : WX) (r : List V → Hp → VK → Prop) (k : List D → M Ow) : Prop := ∀ g e S σ H vs ds Q, StR C B g e S σ H → Paired (RepF C g H) vs ds → Post C B W (RO C) g e σ H (k ds S) Q → r vs H Q
theorem tCB_of {r : List V → Hp → VK → Prop} {k : List D → M Ow} {a : Env → M (List Ow)} (hk : CallF C B W r k) {σ : St} {H : Hp} {Q : VK} (h : tE C B W (evF k a) σ H Q) : tCB r (tG C B W (ROs C) a) σ H Q := by
  obtain ⟨g, e, S, st, h⟩ := h
  refine ⟨g, e, S, st, Post.seq h fun ws S1 vs H1 g1 f1 st1 r1 h1 => ?_⟩
  obtain ⟨ds, e1, h1⟩ := post_ofO h1
  exact hk g1 e S1 σ H1 vs ds Q st1 (flats_ok r1 e1) h1
/-- a builtin by its name, b: whether it is a type -/
theorem sv_callB {id : String} {x : Str} {r : List V → Hp → VK → Prop} {k : List D → M Ow} {a : Env → M (List Ow)} {p pos : Pos} {pe : Expr} {ps : List Expr} (hc : CallR X (.builtin id) r) (hk : CallF C B W r k) (hg : Gl X x) (hm : X.mg x = none) (hv : bootBuiltins x = some (.builtin id))
    (hn : x ≠ "__name__") (hdb : (x == ("__debug__" : Str)) = false) (ha : Sas X C B W (pe :: ps) a) (he : starEach (pe :: ps) X.env = (false, eval pe X.env) :: starEach ps X.env) (hpl : (backTo pos (starEach ps X.env)).any (·.1) = false) :
    Sv X C B W (.Call (.Name x p) (pe :: ps) [] pos) (evF k a) := PE.imp (pe_callB hc hg hm hv ha hn hdb he hpl) fun σ H Q h => tCB_of hk h
theorem sv_callTy {T : String} {x : Str} {r : List V → Hp → VK → Prop} {k : List D → M Ow} {a : Env → M (List Ow)} {p pos : Pos} {pe : Expr} {ps : List Expr} (hc : CallR X (.type T) r) (hk : CallF C B W r k) (hg : Gl X x) (hm : X.mg x = none) (hv : bootBuiltins x = some (.type T))
    (hn : x ≠ "__name__") (hdb : (x == ("__debug__" : Str)) = false) (ha : Sas X C B W (pe :: ps) a) (he : starEach (pe :: ps) X.env = (false, eval pe X.env) :: starEach ps X.env) (hpl : (backTo pos (starEach ps X.env)).any (·.1) = false) :
    Sv X C B W (.Call (.Name x p) (pe :: ps) [] pos) (evF k a) := PE.imp (pe_callTy hc hg hm hv ha hn hdb he hpl) fun σ H Q h => tCB_of hk h
theorem pf1 {vs : List V} {d : D} (h : Paired (RepF C g H) vs [d]) : ∃ v, vs = [v] ∧ RepF C g H v d := by
  cases h with | cons r t => cases t; exact ⟨_, rfl, r⟩
theorem pf2 {vs : List V} {d d' : D} (h : Paired (RepF C g H) vs [d, d']) : ∃ v v', vs = [v, v'] ∧ RepF C g H v d ∧ RepF C g H v' d' := by
  cases h with | cons r t => cases t with | cons r' t => cases t; exact ⟨_, _, rfl, r, r'⟩
theorem RepF.int {v : V} {i : Int} (h : RepF C g H v (.int i)) : v = .int i := by cases h with | rep r => cases r; rfl
theorem RepF.bl {v : V} {i : Bool} (h : RepF C g H v (.bl i)) : v = .bl i := by cases h with | rep r => cases r; rfl
theorem RepF.str {v : V} {i : Str} (h : RepF C g H v (.str i)) : v = .str i := by cases h with | rep r => cases r; rfl

/-! ### mult, minus, == -/
def rRepR : R2 := fun x y H Q => ∃ l k xs, x = .ref l ∧ y = .int k ∧ Rd H l (.lst xs) ∧ -(2 ^ 63) ≤ k ∧ k < 2 ^ 63 ∧ xs.length * k.toNat ≤ sizeLine ∧
  ∀ p, H p = none → Q (.ref p) (upd H p (.lst (List.replicate k.toNat xs).flatten))
theorem op_repR : OpR X (binaryOp .Mult) rRepR := by
  intro pins s σ H x y v u Q I rx ry h
  obtain ⟨l, k, xs, rfl, rfl, hH, h1, h2, hz, q⟩ := h
  cases rx
  obtain ⟨t, rfl⟩ := ry
  obtain ⟨z, its, n, r, e⟩ := hH.ok I.hok
  have hl := r.length
  have hlen : its.toArray.size * k.toNat ≤ sizeLine := by rw [List.size_toArray, ← hl]; exact hz
  have hcap : ¬ its.toArray.size * k.toNat > (2 ^ 63 - 1) / 8 := by
    have : (sizeLine : Nat) ≤ (2 ^ 63 - 1) / 8 := by decide
    omega
  have hfit : ¬ (!Builtin.List.listFitsIndex k) = true := by
    rw [fitsIndex_both h1 h2]
    exact Bool.false_ne_true
  have hlong : ¬ Builtin.List.listTooLong (its.toArray.size * k.toNat) = true := by
    rw [notLongL hlen]
    exact Bool.false_ne_true
  have hnew : List.foldl (fun x1 x2 => x1 ++ x2) #[] (List.replicate (if its.toArray.isEmpty = true then 0 else k.toNat) its.toArray) = (List.replicate k.toNat its).flatten.toArray := by
    have f0 : ∀ m : Nat, List.foldl (fun x1 x2 => x1 ++ x2) #[] (List.replicate m its.toArray) = (List.replicate m its).flatten.toArray := fun m => by
      have := foldl_rep its m []
      rw [List.nil_append] at this
      exact this
    rw [f0]
    cases its with
    | nil => simp
    | cons a r' => rw [if_neg (by simp)]
  refine wpAny_binaryOp_repeat_ref (T := "list") (U := "int") (by decide) ⟨_, e, rfl⟩ (fun s' => typeIs_int s' k t) noFill_list_mul F.fills_int_mul F.slot_int_rmul repeat_list F.slot_int_index.lookup
    (call_meets F.slot_int_rmul (typeIs_int s k t) F.entry_int_rmul (F.args_int_rmul_2 _ _) (int___rmul___int_list k t l its.toArray n)
      ⟨e, rfl, ⟨_, e, rfl⟩, call_meets F.slot_list_mul ⟨_, e, rfl⟩ F.entry_list_mul (F.args_list_mul_2 _ _) (AutoListH.list___mul___list_int_3 l its.toArray n k t hfit hcap hlong) ⟨e, ?_⟩⟩)
  rw [hnew]
  exact ⟨.ref _, _, I.lnew (t' := s.toks) (r.rep k.toNat) (by rw [PyProof.Rows.lm_len_rep_flat, Nat.mul_comm]; exact hz), rfl, q _ I.fresh⟩
def rMulA : R2 := fun x y H Q => rI CMulW (fun i j => .int (i * j)) x y H Q ∨ rRepR x y H Q
theorem op_mulA : OpR X (binaryOp .Mult) rMulA := OpR.or op_mulW op_repR
def mulD : D → D → M Ow := fun x y => match x, y with
  | .int i, .int j => if okMul i j then M.pure (.val (.int (i * j))) else M.stuck
  | .lst ds, .int k => if decide (0 ≤ k) && decide (k ≤ 1000000) && decide (ds.length * k.toNat ≤ line) then M.pure (.val (.lst (List.replicate k.toNat ds).flatten)) else M.stuck
  | _, _ => M.stuck
theorem reps_rep {vs : List V} {ds : List D} (h : Reps C g vs ds) : ∀ k : Nat, Reps C g (List.replicate k vs).flatten (List.replicate k ds).flatten
  | 0 => .nil
  | k + 1 => by rw [List.replicate_succ, List.replicate_succ, List.flatten_cons, List.flatten_cons]; exact h.append (reps_rep h k)
theorem okMul_ok {i j : Int} (h : okMul i j = true) : CMulW i j := by
  have h2 : i.natAbs.log2 + j.natAbs.log2 < 1000000 := of_decide_eq_true h
  exact h2
theorem op2_mul : Op2 C B W rMulA mulD := by
  intro g e S σ H v1 v2 d1 d2 Q st r1 r2 h
  unfold mulD at h
  split at h
  · rename_i i j
    split at h
    · rename_i hc
      exact .inl ⟨i, j, r1.int, r2.int, okMul_ok hc, h.ret st (.val (.int _))⟩
    · exact False.elim h
  · rename_i ds k
    split at h
    · rename_i hc
      rw [Bool.and_eq_true, Bool.and_eq_true] at hc
      have c1 : 0 ≤ k := of_decide_eq_true hc.1.1
      have c2 : k ≤ 1000000 := of_decide_eq_true hc.1.2
      have c3 : ds.length * k.toNat ≤ line := of_decide_eq_true hc.2
      obtain ⟨a, vs, rfl, hl, q⟩ : ∃ a vs, v1 = .ref a ∧ Rd H a (.lst vs) ∧ Reps C g vs ds := by
        cases r1 with
        | rep r1 => cases r1 with | lst h1 r => exact ⟨_, _, rfl, st.toSim.rdL h1, r⟩
        | lst h1 n r => exact ⟨_, _, rfl, .inl h1, r⟩
      refine .inr ⟨a, k, vs, rfl, r2.int, hl, by omega, by omega, line_le (by rw [q.length]; exact c3), fun p hp => ?_⟩
      exact post_new h st hp fun g' le hg => .lst (.inl hg) ((reps_rep q k.toNat).mono le)
    · exact False.elim h
  · exact False.elim h
def ev1 (k : D → M Ow) (a : Env → M Ow) : Env → M Ow := fun e => do
  let x ← a e
  let x ← M.ofO x.flat
  k x
def negD : D → M Ow
  | .int i => M.pure (.val (.int (-i)))
  | _ => M.stuck
theorem sv_neg {pa : Expr} {pos : Pos} {a : Env → M Ow} (ha : Sv X C B W pa a) : Sv X C B W (.UnaryOp .USub pa pos) (ev1 negD a) := PE.imp (pe_un un_neg ha) fun σ H Q ⟨g, e, S, st, h⟩ => by
  refine ⟨g, e, S, st, Post.seq h fun x S1 v1 H1 g1 f1 st1 r1 h1 => ?_⟩
  obtain ⟨d, e1, h1⟩ := post_ofO h1
  unfold negD at h1
  split at h1
  · exact ⟨_, (r1.flat e1).int, h1.ret st1 (.val (.int _))⟩
  · exact False.elim h1

/-! ### data compared -/
mutual
theorem Rep.dp {lk : List Addr} (st : Sim C lk g S H) : ∀ {v : V} {d : D} {p : PyData}, Rep C g v d → D.py d = some p → Dp C.K H v p
  | _, _, _, .non, h => by cases h; exact .non
  | _, _, _, .bl b, h => by cases h; exact .bl b
  | _, _, _, .int b, h => by cases h; exact .int b
  | _, _, _, .str b, h => by cases h; exact .str b
  | _, _, _, @Rep.lst _ _ a vs ds q r, h => by
    have h' : (D.pys ds).map PyData.list = some _ := h
    cases z : D.pys ds with
    | none => rw [z] at h'; cases h'
    | some ps => rw [z] at h'; cases h'; exact .lst (.inl (st.rdL q)) (Reps.dp st r z)
  | _, _, _, @Rep.tup _ _ a vs ds q r, h => by
    have h' : (D.pys ds).map PyData.tuple = some _ := h
    cases z : D.pys ds with
    | none => rw [z] at h'; cases h'
    | some ps => rw [z] at h'; cases h'; exact .tup (st.sqT q) (Reps.dp st r z)
  | _, _, _, .scr _ _, h => by cases h
  | _, _, _, .dic _ _ _, h => by cases h
  | _, _, _, .ins _ _ _, h => by cases h
  | _, _, _, .ref _, h => by cases h
theorem Reps.dp {lk : List Addr} (st : Sim C lk g S H) : ∀ {vs : List V} {ds : List D} {ps : List PyData}, Reps C g vs ds → D.pys ds = some ps → DpAll C.K H vs ps
  | _, _, _, .nil, h => by cases h; exact .nil
  | _, _, _, @Reps.cons _ _ v d vs ds r t, h => by
    have h' : (match D.py d, D.pys ds with | some x, some xs => some (x :: xs) | _, _ => none) = some _ := h
    cases z1 : D.py d with
    | none => rw [z1] at h'; cases h'
    | some x =>
      cases z2 : D.pys ds with
      | none => rw [z1, z2] at h'; cases h'
      | some xs => rw [z1, z2] at h'; cases h'; exact .cons (Rep.dp st r z1) (Reps.dp st t z2)
end
/-- one step of a shared list's reading -/
def D.seen (S : Store) : D → D
  | .ref id => match S[id]? with
    | some (.lst ds) => .lst ds
    | _ => .ref id
  | d => d
def pyS (S : Store) (d : D) : Option PyData := match D.py (D.seen S d) with
  | some p => if SeqAt.shaped p then some p else none
  | none => none
theorem RepF.dp {lk : List Addr} (st : Sim C lk g S H) {v : V} {d : D} {p : PyData} (r : RepF C g H v d) (h : pyS S d = some p) : Dp C.K H v p ∧ SeqAt.shaped p = true := by
  unfold pyS at h
  cases q : D.py (D.seen S d) with
  | none => rw [q] at h; cases h
  | some p' =>
    rw [q] at h
    by_cases hs : SeqAt.shaped p' = true
    · simp only [hs, if_true] at h
      cases h
      refine ⟨?_, hs⟩
      have lst : ∀ {a : Addr} {vs : List V} {ds : List D}, SqL C.K H a vs → Reps C g vs ds → D.py (.lst ds) = some p → Dp C.K H (.ref a) p := fun {a vs ds} hl r h => by
        have h' : (D.pys ds).map PyData.list = some _ := h
        cases z : D.pys ds with
        | none => rw [z] at h'; cases h'
        | some ps => rw [z] at h'; cases h'; exact .lst hl (Reps.dp st r z)
      cases r with
      | rep r =>
        cases r with
        | @ref a id hm =>
          have q' : D.py (match S[id]? with | some (.lst ds) => .lst ds | _ => .ref id) = some p := q
          cases z : S[id]? with
          | none => rw [z] at q'; cases q'
          | some m =>
            cases m with
            | lst ds =>
              rw [z] at q'
              obtain ⟨vs, h2, r⟩ := st.shAt hm z
              exact lst (.inl (.inl h2)) r q'
            | _ => rw [z] at q'; cases q'
        | non => exact Rep.dp st .non q
        | bl b => exact Rep.dp st (.bl b) q
        | int b => exact Rep.dp st (.int b) q
        | str b => exact Rep.dp st (.str b) q
        | lst h1 r => exact Rep.dp st (.lst h1 r) q
        | tup h1 r => exact Rep.dp st (.tup h1 r) q
        | scr h1 r => cases q
        | dic h1 k r => cases q
        | ins h1 k r => cases q
      | lst h1 n r => exact lst (.inl (.inl h1)) r q
      | dic => cases q
      | ins => cases q
    · have h' : (if SeqAt.shaped p' then some p' else none) = some p := h
      rw [if_neg hs] at h'; cases h'
def eqD (neg : Bool) : D → D → M Ow := fun x y S => match x, y with
  | .str a, .str b => .ok (.val (.bl (if neg then !(decide (a = b)) else decide (a = b)))) S
  | x, y => match pyS S x, pyS S y with
    | some p, some q => .ok (.val (.bl (if neg then !PyData.eqv p q else PyData.eqv p q))) S
    | _, _ => .stuck
def rEqA (K : PySem.W.Frag) : R2 := fun x y H Q => rEqD K x y H Q ∨ rEq x y H Q
def rNeA (K : PySem.W.Frag) : R2 := fun x y H Q => rNeD K x y H Q ∨ rNe x y H Q
theorem op2_eq : Op2 C B W (rEqA C.K) (eqD false) := by
  intro g e S σ H v1 v2 d1 d2 Q st r1 r2 h
  unfold eqD at h
  split at h
  · rename_i a b
    obtain rfl := r1.str
    obtain rfl := r2.str
    refine .inr ⟨rfl, ?_⟩
    have e1 : decide (V.str a = V.str b) = decide (a = b) := by rw [decide_eq_decide]; exact ⟨fun h => by cases h; rfl, fun h => by rw [h]⟩
    rw [e1]
    exact h.ret st (.val (.bl _))
  · split at h
    · rename_i p q h1 h2
      obtain ⟨a1, b1⟩ := r1.dp st.toSim h1
      obtain ⟨a2, b2⟩ := r2.dp st.toSim h2
      exact .inl ⟨p, q, a1, a2, b1, b2, h.ret st (.val (.bl _))⟩
    · exact False.elim h
theorem op2_ne : Op2 C B W (rNeA C.K) (eqD true) := by
  intro g e S σ H v1 v2 d1 d2 Q st r1 r2 h
  unfold eqD at h
  split at h
  · rename_i a b
    obtain rfl := r1.str
    obtain rfl := r2.str
    refine .inr ⟨rfl, ?_⟩
    have e1 : decide (V.str a = V.str b) = decide (a = b) := by rw [decide_eq_decide]; exact ⟨fun h => by cases h; rfl, fun h => by rw [h]⟩
    rw [e1]
    exact h.ret st (.val (.bl _))
  · split at h
    · rename_i p q h1 h2
      obtain ⟨a1, b1⟩ := r1.dp st.toSim h1
      obtain ⟨a2, b2⟩ := r2.dp st.toSim h2
      exact .inl ⟨p, q, a1, a2, b1, b2, h.ret st (.val (.bl _))⟩
    · exact False.elim h

/-! ### if, and, or, not -/
def evIf (t : Env → M Bool) (a b : Env → M Ow) : Env → M Ow := fun e => do
  if ← t e then a e else b e
theorem sv_if {pt pa pb : Expr} {pos : Pos} {t : Env → M Bool} {a b : Env → M Ow} (ht : Sb X C B W pt t) (ha : Sv X C B W pa a) (hb : Sv X C B W pb b) : Sv X C B W (.IfExp pt pa pb pos) (evIf t a b) :=
  PE.imp (pe_ifExp ht ha hb) fun σ H Q ⟨g, e, S, st, h⟩ => by
    refine ⟨g, e, S, st, Post.seq h fun x S1 v1 H1 g1 f1 st1 r1 h1 => ?_⟩
    have r1 : v1 = x := r1
    subst r1
    cases v1 with
    | true => exact ⟨g1, e, S1, st1, h1⟩
    | false => exact ⟨g1, e, S1, st1, h1⟩
def tbAnd (t u : Env → M Bool) : Env → M Bool := fun e => do
  if ← t e then u e else M.pure false
def tbOr (t u : Env → M Bool) : Env → M Bool := fun e => do
  if ← t e then M.pure true else u e
def tbNot (t : Env → M Bool) : Env → M Bool := fun e => do
  let b ← t e
  M.pure (!b)
def Sw (X : Cx) (C : Kx) (B : Bs) (W : WX) (pe : Expr) (f : Env → M Bool) : Prop := PW X pe (tT C B W f)
theorem PW.imp {pe : Expr} {t t' : TT} (h : PW X pe t) (q : ∀ σ H Q, t' σ H Q → t σ H Q) : PW X pe t' := ⟨fun wh pins s σ H Q I hw => h.run wh pins s σ H Q I (q σ H Q hw)⟩
theorem Sw.sb {pe : Expr} {f : Env → M Bool} (h : Sw X C B W pe f) : Sb X C B W pe f := PW.pt h
theorem sw_and1 {pa : Expr} {pos : Pos} {t : Env → M Bool} (h : Sb X C B W pa t) : Sw X C B W (.BoolOp .And [pa] pos) t := pw_and1 h
theorem sw_or1 {pa : Expr} {pos : Pos} {t : Env → M Bool} (h : Sb X C B W pa t) : Sw X C B W (.BoolOp .Or [pa] pos) t := pw_or1 h
theorem sw_and {pa pb : Expr} {rest : List Expr} {pos : Pos} {t u : Env → M Bool} (h : Sb X C B W pa t) (h2 : Sw X C B W (.BoolOp .And (pb :: rest) pos) u) : Sw X C B W (.BoolOp .And (pa :: pb :: rest) pos) (tbAnd t u) :=
  PW.imp (pw_and h h2) fun σ H Q ⟨g, e, S, st, h⟩ => by
    refine ⟨g, e, S, st, Post.seq h fun x S1 v1 H1 g1 f1 st1 r1 h1 => ?_⟩
    have r1 : v1 = x := r1
    subst r1
    cases v1 with
    | true => exact ⟨g1, e, S1, st1, h1⟩
    | false => exact h1.ret st1 rfl
theorem sw_or {pa pb : Expr} {rest : List Expr} {pos : Pos} {t u : Env → M Bool} (h : Sb X C B W pa t) (h2 : Sw X C B W (.BoolOp .Or (pb :: rest) pos) u) : Sw X C B W (.BoolOp .Or (pa :: pb :: rest) pos) (tbOr t u) :=
  PW.imp (pw_or h h2) fun σ H Q ⟨g, e, S, st, h⟩ => by
    refine ⟨g, e, S, st, Post.seq h fun x S1 v1 H1 g1 f1 st1 r1 h1 => ?_⟩
    have r1 : v1 = x := r1
    subst r1
    cases v1 with
    | true => exact h1.ret st1 rfl
    | false => exact ⟨g1, e, S1, st1, h1⟩
theorem sb_not {pa : Expr} {pos : Pos} {t : Env → M Bool} (h : Sb X C B W pa t) : Sb X C B W (.UnaryOp .Not pa pos) (tbNot t) :=
  PT.imp (pt_not h) fun σ H Q ⟨g, e, S, st, h⟩ => by
    refine ⟨g, e, S, st, Post.seq h fun x S1 v1 H1 g1 f1 st1 r1 h1 => ?_⟩
    have r1 : v1 = x := r1
    subst r1
    exact h1.ret st1 rfl
/-- as values -/
def evAnd (a b : Env → M Ow) : Env → M Ow := fun e => do
  if ← asB a e then b e else M.pure (.val (.bl false))
def evOr (a b : Env → M Ow) : Env → M Ow := fun e => do
  if ← asB a e then M.pure (.val (.bl true)) else b e
def evNot (a : Env → M Ow) : Env → M Ow := fun e => do
  let b ← asB a e
  M.pure (.val (.bl (!b)))
theorem seqB {f : Env → M Ow} {α β : Type} {R : G → Hp → β → α → Prop} {k : Bool → M α} {Q : β → Hp → Prop} {Z : VK} (h : Post C B W R g e σ H ((asB f e >>= k) S) Q)
    (hk : ∀ b S1 H1 g1, Frm g H g1 H1 → StR C B g1 e S1 σ H1 → Post C B W R g1 e σ H1 (k b S1) Q → Z (.bl b) H1) : Post C B W (RO C) g e σ H (f e S) Z := by
  have h' : Post C B W R g e σ H ((f e >>= fun w => (match w with | .val (.bl b) => M.pure b | _ => M.stuck) >>= k) S) Q := by
    unfold asB at h
    rw [bind_ap, bind_ap] at h
    rw [bind_ap]
    cases q : f e S with
    | ok w S1 => rw [q] at h; exact h
    | exc c ns ds S1 => rw [q] at h; exact h
    | stuck => rw [q] at h; exact h
  refine Post.seq h' fun w S1 v1 H1 g1 f1 st1 r1 h1 => ?_
  rw [bind_ap] at h1
  cases w with
  | val d =>
    cases d with
    | bl b =>
      have r := r1.rep
      cases r
      exact hk b S1 H1 g1 f1 st1 h1
    | _ => exact False.elim h1
  | _ => exact False.elim h1
theorem sv_and1 {pa : Expr} {op : BoolOp} {pos : Pos} {a : Env → M Ow} (h : Sv X C B W pa a) : Sv X C B W (.BoolOp op [pa] pos) a := pe_one h
theorem sv_and {pa pb : Expr} {rest : List Expr} {pos : Pos} {a b : Env → M Ow} (ha : Sv X C B W pa a) (hb : Sv X C B W (.BoolOp .And (pb :: rest) pos) b) : Sv X C B W (.BoolOp .And (pa :: pb :: rest) pos) (evAnd a b) :=
  PE.imp (pe_and ha hb) fun σ H Q ⟨g, e, S, st, h⟩ => by
    refine ⟨g, e, S, st, seqB h fun c S1 H1 g1 f1 st1 h1 => ⟨c, rfl, ?_⟩⟩
    cases c with
    | true => exact ⟨g1, e, S1, st1, h1⟩
    | false => exact h1.ret st1 (.val (.bl _))
theorem sv_or {pa pb : Expr} {rest : List Expr} {pos : Pos} {a b : Env → M Ow} (ha : Sv X C B W pa a) (hb : Sv X C B W (.BoolOp .Or (pb :: rest) pos) b) : Sv X C B W (.BoolOp .Or (pa :: pb :: rest) pos) (evOr a b) :=
  PE.imp (pe_or ha hb) fun σ H Q ⟨g, e, S, st, h⟩ => by
    refine ⟨g, e, S, st, seqB h fun c S1 H1 g1 f1 st1 h1 => ⟨c, rfl, ?_⟩⟩
    cases c with
    | true => exact h1.ret st1 (.val (.bl _))
    | false => exact ⟨g1, e, S1, st1, h1⟩
theorem sv_not {pa : Expr} {pos : Pos} {a : Env → M Ow} (ha : Sv X C B W pa a) : Sv X C B W (.UnaryOp .Not pa pos) (evNot a) :=
  PE.imp (pe_not ha) fun σ H Q ⟨g, e, S, st, h⟩ => by
    exact ⟨g, e, S, st, seqB h fun c S1 H1 g1 f1 st1 h1 => ⟨c, rfl, h1.ret st1 (.val (.bl _))⟩⟩

/-! ### displays -/
def evTup (a : Env → M (List Ow)) : Env → M Ow := evK (fun ds => if ds.length ≤ line then M.pure (.val (.tup ds)) else M.stuck) a
def evLst (a : Env → M (List Ow)) : Env → M Ow := evK (fun ds => if ds.length ≤ line then M.pure (.val (.lst ds)) else M.stuck) a
theorem sv_tup {ps : List Expr} {k : Nat} {pos : Pos} {a : Env → M (List Ow)} (h : Sas X C B W ps a) : Sv X C B W (.Tuple ps k pos) (evTup a) := PE.imp (pe_tup h) fun σ H Q ⟨g, e, S, st, h⟩ => by
  refine ⟨g, e, S, st, Post.seq h fun ws S1 vs H1 g1 f1 st1 r1 h1 => ?_⟩
  obtain ⟨ds, e1, h1⟩ := post_ofO h1
  have r := stricts_ok r1 e1
  have h1 : Post C B W (RO C) g1 e σ H1 ((if ds.length ≤ line then M.pure (.val (.tup ds)) else M.stuck) S1) Q := h1
  by_cases hl : ds.length ≤ line
  · rw [if_pos hl] at h1
    exact ⟨line_le (by rw [r.length]; exact hl), fun p hp => post_new h1 st1 hp fun g' le hg => .tup (.inl (.inl hg)) (r.mono le)⟩
  · rw [if_neg hl] at h1; exact False.elim h1
theorem sv_lst {ps : List Expr} {pos : Pos} {a : Env → M (List Ow)} (h : Sas X C B W ps a) : Sv X C B W (.List ps pos) (evLst a) := PE.imp (pe_lst h) fun σ H Q ⟨g, e, S, st, h⟩ => by
  refine ⟨g, e, S, st, Post.seq h fun ws S1 vs H1 g1 f1 st1 r1 h1 => ?_⟩
  obtain ⟨ds, e1, h1⟩ := post_ofO h1
  have r := stricts_ok r1 e1
  have h1 : Post C B W (RO C) g1 e σ H1 ((if ds.length ≤ line then M.pure (.val (.lst ds)) else M.stuck) S1) Q := h1
  by_cases hl : ds.length ≤ line
  · rw [if_pos hl] at h1
    exact ⟨line_le (by rw [r.length]; exact hl), fun p hp => post_new h1 st1 hp fun g' le hg => .lst (.inl hg) (r.mono le)⟩
  · rw [if_neg hl] at h1; exact False.elim h1
end
end PV

set_option Elab.async false
set_option linter.all false
set_option maxRecDepth 100000
set_option maxHeartbeats 1000000
/-! PV5: calls of the text's own defs, instances. -/
namespace PV
open PySem PySem.Spec L2
open PyProof.Rows hiding St

/-! ### how arguments come to parameters -/
inductive Ar where
  | p (i : Nat)
  | k (j : Nat)
  | d (x : D)
def dV : D → V
  | .int i => .int i
  | .bl b => .bl b
  | .str x => .str x
  | _ => .non
def dD : D → D
  | .int i => .int i
  | .bl b => .bl b
  | .str x => .str x
  | _ => .non
def putV (its : List Ar) (us ws : List V) : List V := its.map fun
  | .p i => us.getD i .non
  | .k j => ws.getD j .non
  | .d x => dV x
def putD (its : List Ar) (us ws : List D) : List D := its.map fun
  | .p i => us.getD i .non
  | .k j => ws.getD j .non
  | .d x => dD x
section
variable {C : Kx} {g : G}
theorem reps_getD {vs : List V} {ds : List D} (h : Reps C g vs ds) (i : Nat) : Rep C g (vs.getD i .non) (ds.getD i .non) := by
  rw [List.getD_eq_getElem?_getD, List.getD_eq_getElem?_getD]
  cases q : ds[i]? with
  | some d =>
    obtain ⟨v, h1, h2⟩ := h.get q
    rw [h1]; exact h2
  | none =>
    have : vs[i]? = none := by rw [List.getElem?_eq_none_iff] at q ⊢; rw [h.length]; exact q
    rw [this]; exact .non
theorem rep_dV : ∀ x : D, Rep C g (dV x) (dD x)
  | .int i => .int i
  | .bl b => .bl b
  | .str x => .str x
  | .non => .non
  | .tup _ => .non
  | .lst _ => .non
  | .scr _ => .non
  | .dic _ _ => .non
  | .ins _ _ _ => .non
  | .ref _ => .non
theorem put_rep {vs ws : List V} {ds es : List D} (h1 : Reps C g vs ds) (h2 : Reps C g ws es) : ∀ its : List Ar, Reps C g (putV its vs ws) (putD its ds es)
  | [] => .nil
  | a :: r => by
    refine .cons ?_ (put_rep h1 h2 r)
    cases a with
    | p i => exact reps_getD h1 i
    | k j => exact reps_getD h2 j
    | d x => exact rep_dV x
end

/-! ### what a def promises -/
/-- the end of a call -/
def PostF (C : Kx) (lk : List Addr) (g : G) (H : Hp) (o : Out D) (Q : VK) (E : XK) : Prop := match o with
  | .ok d S' => ∀ v H' g', Frm g H g' H' → Sim C lk g' S' H' → Rep C g' v d → Q v H'
  | .exc c ns ds S' => ∀ cls dd H' g', Frm g H g' H' → Sim C lk g' S' H' → ExR C g' H' cls dd c ns ds → E cls dd H'
  | .stuck => False
def spD (C : Kx) (n : Nat) (F : List D → M D) : Sp := fun vs H Q E => vs.length = n ∧ ∃ lk g S ds, Sim C lk g S H ∧ Reps C g vs ds ∧ PostF C lk g H (F ds S) Q E
/-- an __init__: the new instance's fields -/
structure FrmX (x : Addr) (g : G) (H : Hp) (g' : G) (H' : Hp) : Prop where
  le : g.Le g'
  kp : ∀ a o, H a = some o → a ∉ g.μ → a ≠ x → H' a = some o
  nw : ∀ a ∈ g'.μ, a ∈ g.μ ∨ H a = none
  nf : ∀ a o, g'.Φ a = some o → g.Φ a = some o ∨ H a = none ∨ a ∈ g.μ
abbrev Fds := List String × List D
def PostI (C : Kx) (lk : List Addr) (x : Addr) (c : Nat) (g : G) (H : Hp) (o : Out Fds) (Q : VK) (E : XK) : Prop := match o with
  | .ok (ns, ds) S' => ∀ H' g' dx fs, FrmX x g H g' H' → Sim C lk g' S' H' → H' x = some (.ins (C.ca c) dx fs) → fs.map (·.1) = ns.map Str.ofString → Reps C g' (fs.map (·.2)) ds → g'.Φ x = none → x ∉ g'.μ → Q .non H'
  | .exc c ns ds S' => ∀ cls dd H' g', FrmX x g H g' H' → Sim C lk g' S' H' → ExR C g' H' cls dd c ns ds → E cls dd H'
  | .stuck => False
def spI (C : Kx) (c n : Nat) (F : List D → M Fds) : Sp := fun vs H Q E => vs.length = n + 1 ∧ ∃ lk x dx us g S ds, vs = .ref x :: us ∧ H x = some (.ins (C.ca c) dx []) ∧ g.Φ x = none ∧ x ∉ g.μ ∧ Sim C lk g S H ∧ Reps C g us ds ∧
  PostI C lk x c g H (F ds S) Q E

/-! ### calls as trees -/
def noStars (ps : List Expr) : Bool := ps.all fun
  | .Starred _ _ => false
  | _ => true
theorem starEach_free {env : PySem.Env} : ∀ {ps : List Expr}, noStars ps = true → starEach ps env = ps.map fun p => (false, eval p env)
  | [], _ => rfl
  | p :: ps, h => by
    unfold noStars at h
    rw [List.all_cons, Bool.and_eq_true] at h
    rw [starEach_cons h.1, List.map_cons, starEach_free (ps := ps) h.2]
theorem backTo_free {env : PySem.Env} {pos : Pos} {ps : List Expr} (h : noStars ps = true) : (backTo pos (starEach ps env)).any (·.1) = false := by
  rw [starEach_free h]
  unfold backTo
  rw [List.any_eq_false]
  intro x hx
  obtain ⟨y, hy, rfl⟩ := List.mem_map.mp hx
  obtain ⟨z, hz, rfl⟩ := List.mem_map.mp hy
  simp
theorem kwEach_eq {env : PySem.Env} : ∀ kws : List Keyword, keywordEach kws env = kws.map fun k => (k.arg, eval k.value env)
  | [] => rfl
  | ⟨_, _, _⟩ :: r => by rw [keywordEach, kwEach_eq r]; rfl
def kwNames (kws : List Keyword) : List Str := kws.filterMap (·.arg)
def kwAll (kws : List Keyword) : Bool := kws.all (·.arg.isSome)
theorem kw_all {env : PySem.Env} {pos : Pos} {kws : List Keyword} (h : kwAll kws = true) : (backToKw pos (keywordEach kws env)).all (·.1.isSome) = true := by
  rw [kwEach_eq]; unfold backToKw; rw [List.all_map, List.all_map]; exact h
theorem kw_none {env : PySem.Env} {pos : Pos} {kws : List Keyword} (h : kwAll kws = true) : (backToKw pos (keywordEach kws env)).any (·.1.isNone) = false := by
  rw [kwEach_eq]; unfold backToKw; rw [List.any_map, List.any_map, List.any_eq_false]
  intro k hk
  have := List.all_eq_true.mp h k hk
  cases q : k.arg with
  | none => rw [q] at this; cases this
  | some x => simp [q]
theorem kw_names {env : PySem.Env} {pos : Pos} {kws : List Keyword} : (backToKw pos (keywordEach kws env)).filterMap (·.1) = kwNames kws := by
  rw [kwEach_eq]; unfold backToKw kwNames; rw [List.filterMap_map, List.filterMap_map]; rfl

section
variable {X : Cx} {C : Kx} {B : Bs} {W : WX} {g g' : G} {e : Env} {S S' : Store} {σ : St} {H H' : Hp}
def Sks (X : Cx) (C : Kx) (B : Bs) (W : WX) (kws : List Keyword) (f : Env → M (List Ow)) : Prop := PK X kws (tG C B W (ROs C) f)
theorem PK.imp {ks : List Keyword} {t t' : TA} (h : PK X ks t) (q : ∀ σ H Q, t' σ H Q → t σ H Q) : PK X ks t' := ⟨fun pos pins s σ H Q I hw => h.run pos pins s σ H Q I (q σ H Q hw)⟩
theorem sks_nil : Sks X C B W [] evNil := PK.imp pk_nil fun σ H Q ⟨g, e, S, st, h⟩ => h _ _ _ .refl st .nil
theorem sks_cons {nm : Option Str} {kpos : Pos} {p : Expr} {ps : List Keyword} {a : Env → M Ow} {r : Env → M (List Ow)} (ha : Sv X C B W p a) (hr : Sks X C B W ps r) : Sks X C B W (⟨nm, p, kpos⟩ :: ps) (evCons a r) :=
  PK.imp (pk_cons ha hr) fun σ H Q ⟨g, e, S, st, h⟩ => by
    refine ⟨g, e, S, st, Post.seq h fun x S1 v1 H1 g1 f1 st1 r1 h1 => ?_⟩
    refine ⟨g1, e, S1, st1, Post.seq h1 fun xs S2 vs H2 g2 f2 st2 r2 h2 => ?_⟩
    exact h2 _ _ _ .refl st2 (.cons (r1.mono f2) r2)

/-- the callee runs, its arguments known -/
theorem run_call {pins : List (Addr × Obj)} {s : Shared} {k n : Nat} {f : Addr} {fd : FuncData} {ps ks : List Str} {sp : Sp} {us ws : List Value} {vs zs : List V} {Q : VK} {g : List Value → List Value → List Value} {gV : List V → List V → List V} {first : List Value} {fV : List V}
    (F : FnOk X.prog X.w X.K X.mg X.base (L2.CX X.prog X.w) k f fd ps sp) (hr : Room k X.A) (hb : KBn X.K fd ps n ks g gV) (tk : Takes X W)
    (I : Inv X pins σ H s) (rf : Vals fV first) (r : Vals vs us) (rz : Vals zs ws) (l1 : (fV ++ vs).length = n) (l2 : zs.length = ks.length) (h : sp (gV (fV ++ vs) zs) H Q (WE W σ)) :
    wpAny (model X.prog X.w) X.A (PySem.call (.ref f) (first ++ us) (ks.zip ws)) (EP X pins σ Q) X.xe s := by
  have r0 : Vals (fV ++ vs) (first ++ us) := rf.append r
  have r2 := hb.rel r0 rz
  refine wpAny_call (codeAny_mono (F.run X.A X.stack s H ⟨first ++ us, ks.zip ws⟩ (g (first ++ us) ws) (gV (fV ++ vs) zs) Q (WE W σ) hr I.env0 (hb.to s _ ws I.kIn (r0.length.symm.trans l1) (rz.length.symm.trans l2)) r2 h) fun r s' hq => ?_)
  cases r with
  | error e => exact passAt tk σ pins H s e s' I hq
  | ok fl =>
    cases fl with
    | ret u => exact I.after hq
    | next => exact False.elim hq
    | brk => exact False.elim hq
    | cont => exact False.elim hq

/-- a call: the positional values, the keywords' values -/
def evCall (F : List D → M D) (n m : Nat) (its : List Ar) (a b : Env → M (List Ow)) : Env → M Ow := fun e => do
  let ws ← a e
  let zs ← b e
  let ds ← M.ofO (stricts ws)
  let es ← M.ofO (stricts zs)
  guardM (ds.length == n && es.length == m)
  let d ← F (putD its ds es)
  M.pure (.val d)
theorem stricts_len : ∀ {ws : List Ow} {ds : List D}, stricts ws = some ds → ws.length = ds.length
  | [], _, h => by cases h; rfl
  | w :: r, ds, h => by
    cases w with
    | val d =>
      unfold stricts at h
      cases q : stricts r with
      | none => rw [q] at h; cases h
      | some es => rw [q] at h; cases h; simp [stricts_len q]
    | _ => cases h
/-- from the caller's end to the callee's -/
theorem post_call {d : Out D} {Q : VK} (st : StR C B g e S σ H) (h : Post C B W (RO C) g e σ H (match d with | .ok d S' => (M.pure (.val d) : M Ow) S' | .exc c ns ds S' => .exc c ns ds S' | .stuck => .stuck) Q) :
    PostF C B.lks g H d Q (WE W σ) := by
  cases d with
  | ok d S' => exact fun v H' g' f m r => h v H' g' f (st.call f m) (.val r)
  | exc c ns ds S' => exact fun cls dd H' g' f m r => h cls dd H' g' f (st.call f m) r
  | stuck => exact h
theorem call_end {F : List D → M D} {n m k : Nat} {its : List Ar} {ws zs : List Ow} {vs us : List V} {Q : VK} (st : StR C B g e S σ H) (r1 : Paired (RepO C g H) vs ws) (r2 : Paired (RepO C g H) us zs)
    (h : Post C B W (RO C) g e σ H (((do
      let ds ← M.ofO (stricts ws)
      let es ← M.ofO (stricts zs)
      guardM (ds.length == n && es.length == m)
      let d ← F (putD its ds es)
      M.pure (.val d)) : M Ow) S) Q) : vs.length = n ∧ us.length = m ∧ spD C its.length F (putV its vs us) H Q (WE W σ) := by
  obtain ⟨ds, e1, h⟩ := post_ofO h
  obtain ⟨es, e2, h⟩ := post_ofO h
  obtain ⟨hl, h⟩ := post_guard h
  rw [Bool.and_eq_true] at hl
  have a1 := stricts_ok r1 e1
  have a2 := stricts_ok r2 e2
  refine ⟨a1.length.trans (beq_iff_eq.mp hl.1), a2.length.trans (beq_iff_eq.mp hl.2), by simp [putV], B.lks, g, S, _, st.toSim, put_rep a1 a2 its, ?_⟩
  rw [bind_ap] at h
  refine post_call st ?_
  cases q : F (putD its ds es) S with
  | ok d S' => rw [q] at h; exact h
  | exc c ns ds S' => rw [q] at h; exact h
  | stuck => rw [q] at h; exact h
/-- f(..) -/
theorem sv_call {F : List D → M D} {k n : Nat} {f : Addr} {fd : FuncData} {prs : List Str} {its : List Ar} {x : Str} {p pos : Pos} {ps : List Expr} {kws : List Keyword} {a b : Env → M (List Ow)} {g : List Value → List Value → List Value}
    (G : FnOk X.prog X.w X.K X.mg X.base (L2.CX X.prog X.w) k f fd prs (spD C its.length F)) (hr : Room k X.A) (hg : Gl X x) (hm : X.mg x = some (.ref f)) (hk : PySem.W.keepIn X.K (.ref f) = true)
    (hb : KBn X.K fd prs n (kwNames kws) g (putV its)) (tk : Takes X W) (ha : Sas X C B W ps a) (hkw : Sks X C B W kws b) (hs : noStars ps = true) (hka : kwAll kws = true) (hdb : (x == ("__debug__" : Str)) = false) (hnil : ps = [] → a = evNil) :
    Sv X C B W (.Call (.Name x p) ps kws pos) (evCall F n (kwNames kws).length its a b) := by
  cases ps with
  | nil =>
    refine ⟨fun pins s σ H Q I ⟨g, e, S, st, h⟩ => ?_⟩
    refine wpAny_Call_Name_kw (ld_glob I hg hm ?_ hdb)
    refine PySem.W.callWith_KW0 (h₀ := X.base) I.ok.mod.kin hk (kw_all hka) ?_ (by rw [backTo_free hs, kw_none hka]; rfl)
    have ea := hnil rfl
    subst ea
    have h : Post C B W (RO C) g e σ H ((b e >>= fun zs => (do
      let ds ← M.ofO (stricts [])
      let es ← M.ofO (stricts zs)
      guardM (ds.length == n && es.length == (kwNames kws).length)
      let d ← F (putD its ds es)
      M.pure (.val d) : M Ow)) S) Q := h
    refine thn (hkw.run pos pins s σ H (fun us H2 => ([] : List V).length = n ∧ us.length = (kwNames kws).length ∧ spD C its.length F (putV its [] us) H2 Q (WE W σ)) I ?_) fun ws s2 ⟨zs, H2, I2, rz, l1, l2, q2⟩ => ⟨I2.kIn, ?_⟩
    · exact ⟨g, e, S, st, Post.seq h fun zs S2 us H2 g2 f2 st2 r2 h2 => call_end (k := k) st2 .nil r2 h2⟩
    · rw [kw_names]
      exact run_call (first := []) (fV := []) (vs := []) (us := []) G hr hb tk I2 .nil .nil rz l1 l2 q2
  | cons e0 ps =>
    refine ⟨fun pins s σ H Q I ⟨g, e, S, st, h⟩ => ?_⟩
    refine wpAny_Call_Name_kw (ld_glob I hg hm ?_ hdb)
    have hs0 : noStars ps = true ∧ starEach (e0 :: ps) X.env = (false, eval e0 X.env) :: starEach ps X.env := by
      unfold noStars at hs
      rw [List.all_cons, Bool.and_eq_true] at hs
      exact ⟨hs.2, starEach_cons hs.1⟩
    refine PySem.W.callWith_KW (h₀ := X.base) I.ok.mod.kin hk (kw_all hka) (thn (ha.run pos pins s σ H (fun vs H1 => tG C B W (ROs C) b σ H1 fun us H2 => vs.length = n ∧ us.length = (kwNames kws).length ∧ spD C its.length F (putV its vs us) H2 Q (WE W σ)) I ?_)
      fun us s1 ⟨vs, H1, I1, r, q⟩ => ?_) (by rw [backTo_free hs, kw_none hka]; rfl) hs0.2
    · refine ⟨g, e, S, st, Post.seq h fun ws S1 vs H1 g1 f1 st1 r1 h1 => ⟨g1, e, S1, st1, Post.seq h1 fun zs S2 us H2 g2 f2 st2 r2 h2 => ?_⟩⟩
      exact call_end (k := k) st2 (ros_mono f2 r1) r2 h2
    · refine thn (hkw.run pos pins s1 σ H1 _ I1 q) fun ws s2 ⟨zs, H2, I2, rz, l1, l2, q2⟩ => ⟨I2.kIn, ?_⟩
      rw [kw_names]
      exact run_call (first := []) (fV := []) G hr hb tk I2 .nil r rz l1 l2 q2
end
end PV

set_option Elab.async false
set_option linter.all false
set_option maxRecDepth 100000
set_option maxHeartbeats 1000000
/-! PV6: instances made, methods, fields. -/
namespace PV
open PySem PySem.Spec L2
open PyProof.Rows hiding St

theorem ofS_inj {a b : String} (h : Str.ofString a = Str.ofString b) : a = b := by
  rw [Str.ofString_eq_toList, Str.ofString_eq_toList] at h
  have h1 : (a.toList.map Char.toNat).toArray = (b.toList.map Char.toNat).toArray := congrArg Str.cps h
  have h2 : a.toList.map Char.toNat = b.toList.map Char.toNat := by simpa using h1
  have inj : ∀ l m : List Char, l.map Char.toNat = m.map Char.toNat → l = m := by
    intro l
    induction l with
    | nil => intro m h; cases m with
      | nil => rfl
      | cons _ _ => cases h
    | cons x l ih => intro m h; cases m with
      | nil => cases h
      | cons y m =>
        rw [List.map_cons, List.map_cons] at h
        injection h with h3 h4
        have : x = y := by
          apply Char.ext
          exact UInt32.toNat_inj.mp h3
        rw [this, ih m h4]
  have h3 := inj _ _ h2
  rw [← String.ofList_toList (s := a), ← String.ofList_toList (s := b), h3]

section
variable {X : Cx} {C : Kx} {B : Bs} {W : WX} {g g' : G} {e : Env} {S S' : Store} {σ : St} {H H' : Hp}

/-! ### a thing of one's own is given away: it never changes any more, or it is shared -/
theorem Sim.freeze {lk : List Addr} (m : Sim C lk g S H) {x : Addr} {o : HO} (hi : H x = some o) (n1 : g.Φ x = none) (n2 : x ∉ g.μ) : Sim C lk ⟨upd g.Φ x o, g.μ⟩ S H := by
  have le : g.Le ⟨upd g.Φ x o, g.μ⟩ := ⟨fun a u h => by show upd g.Φ x o a = some u; rw [upd_ne (ne_of_none h n1)]; exact h, fun _ _ h => h⟩
  have nl : x ∉ lk := fun h => by
    obtain ⟨kvs, q⟩ := m.lkf x h
    rw [n1] at q; cases q
  refine ⟨fun a u h => ?_, fun a ha => ?_, m.shl, fun i a mo h1 h2 => (m.sh i a mo h1 h2).kept le fun _ h => h, fun a ha => ?_, m.md⟩
  · have h0 : upd g.Φ x o a = some u := h
    by_cases q : a = x
    · subst q
      rw [upd_same] at h0
      cases h0
      unfold As
      rw [if_neg nl]; exact hi
    · rw [upd_ne q] at h0
      exact m.fz a u h0
  · obtain ⟨kvs, h⟩ := m.lkf a ha
    exact ⟨kvs, le.fz _ _ h⟩
  · show upd g.Φ x o a = none
    rw [upd_ne fun q => n2 (by rw [← q]; exact ha)]; exact m.mf a ha
theorem Sim.share {lk : List Addr} (m : Sim C lk g S H) {x : Addr} {o : MO} (hi : MoR C g H x o) (n1 : g.Φ x = none) (n2 : x ∉ g.μ) : Sim C lk ⟨g.Φ, g.μ ++ [x]⟩ (S ++ [o]) H := by
  have le : g.Le ⟨g.Φ, g.μ ++ [x]⟩ := ⟨fun _ _ h => h, fun i a h => by
    show (g.μ ++ [x])[i]? = some a
    rw [List.getElem?_append_left (List.getElem?_eq_some_iff.mp h).1]; exact h⟩
  refine ⟨m.fz, m.lkf, by simp [m.shl], fun i a mo h1 h2 => ?_, fun a ha => ?_, ?_⟩
  · have h1' : (g.μ ++ [x])[i]? = some a := h1
    by_cases hi' : i < g.μ.length
    · rw [List.getElem?_append_left hi'] at h1'
      rw [List.getElem?_append_left (by rw [m.shl]; exact hi')] at h2
      exact (m.sh i a mo h1' h2).kept le fun _ h => h
    · rw [List.getElem?_append_right (by omega)] at h1'
      rw [List.getElem?_append_right (by rw [m.shl]; omega)] at h2
      have e0 : i - g.μ.length = 0 := by
        have := (List.getElem?_eq_some_iff.mp h1').1
        simp at this; omega
      rw [e0] at h1'
      rw [m.shl, e0] at h2
      cases h1'
      cases h2
      exact hi.kept le fun _ h => h
  · rcases List.mem_append.mp ha with h | h
    · exact m.mf a h
    · simp at h; rw [h]; exact n1
  · rw [List.nodup_append]
    exact ⟨m.md, by simp, fun a ha b hb => by simp at hb; rw [hb]; exact fun q => n2 (by rw [← q]; exact ha)⟩
/-- a new instance, made -/
theorem frm_made {x dx : Addr} {Cl : Addr} (hx : H x = none) (hdx : H dx = none) (f : FrmX x g (upd (upd H dx (.own x)) x (.ins Cl dx [])) g' H') : Frm g H ⟨g'.Φ, g'.μ⟩ H' := by
  have up : ∀ a o, H a = some o → upd (upd H dx (.own x)) x (.ins Cl dx []) a = some o := fun a o h => by
    rw [upd_ne (ne_of_none h hx), upd_ne (ne_of_none h hdx)]; exact h
  have dn : ∀ a, upd (upd H dx (.own x)) x (.ins Cl dx []) a = none → H a = none := fun a h => by
    cases q : H a with
    | none => rfl
    | some o => rw [up a o q] at h; cases h
  exact ⟨f.le, fun a o h hn => f.kp a o (up a o h) hn (ne_of_none h hx), fun a h => (f.nw a h).imp id (dn a), fun a o h => (f.nf a o h).imp id (Or.imp (dn a) id)⟩
theorem Frm.freeze {x : Addr} {o : HO} (f : Frm g H g' H') (hx : H x = none) (n1 : g'.Φ x = none) : Frm g H ⟨upd g'.Φ x o, g'.μ⟩ H' := by
  refine ⟨⟨fun a u h => ?_, f.le.mu⟩, f.kp, f.nw, fun a u h => ?_⟩
  · have h1 := f.le.fz a u h
    show upd g'.Φ x o a = some u
    rw [upd_ne (ne_of_none h1 n1)]; exact h1
  · have h0 : upd g'.Φ x o a = some u := h
    by_cases q : a = x
    · subst q; exact .inr (.inl hx)
    · rw [upd_ne q] at h0; exact f.nf a u h0
theorem Frm.share {x : Addr} (f : Frm g H g' H') (hx : H x = none) : Frm g H ⟨g'.Φ, g'.μ ++ [x]⟩ H' := by
  refine ⟨⟨f.le.fz, fun i a h => ?_⟩, f.kp, fun a h => ?_, f.nf⟩
  · have := f.le.mu i a h
    show (g'.μ ++ [x])[i]? = some a
    rw [List.getElem?_append_left (List.getElem?_eq_some_iff.mp this).1]; exact this
  · rcases List.mem_append.mp h with q | q
    · exact f.nw a q
    · simp at q; rw [q]; exact .inr hx

/-! ### C(..) -/
def shA : Ar → Ar
  | .p i => .p (i + 1)
  | a => a
theorem putV_sh (x : V) (vs zs : List V) (its : List Ar) : putV (.p 0 :: its.map shA) (x :: vs) zs = x :: putV its vs zs := by
  unfold putV
  rw [List.map_cons, List.map_map]
  congr 1
  apply List.map_congr_left
  intro a _
  cases a with
  | p i => simp [shA]
  | k j => rfl
  | d x => rfl
/-- the new instance is given out as o says -/
def evMake (c : Nat) (shr : Bool) (F : List D → M Fds) (n m : Nat) (its : List Ar) (a b : Env → M (List Ow)) : Env → M Ow := fun e => do
  let ws ← a e
  let zs ← b e
  let ds ← M.ofO (stricts ws)
  let es ← M.ofO (stricts zs)
  guardM (ds.length == n && es.length == m)
  let (ns, fs) ← F (putD its ds es)
  if shr then do
    let d ← newS (.ins c ns fs)
    M.pure (.val d)
  else M.pure (.val (.ins c ns fs))
theorem make_end {c : Nat} {shr : Bool} {F : List D → M Fds} {n m : Nat} {its : List Ar} {ws zs : List Ow} {vs us : List V} {Q : VK} (st : StR C B g e S σ H) (r1 : Paired (RepO C g H) vs ws) (r2 : Paired (RepO C g H) us zs)
    (h : Post C B W (RO C) g e σ H (((do
      let ds ← M.ofO (stricts ws)
      let es ← M.ofO (stricts zs)
      guardM (ds.length == n && es.length == m)
      let (ns, fs) ← F (putD its ds es)
      if shr then do
        let d ← newS (.ins c ns fs)
        M.pure (.val d)
      else M.pure (.val (.ins c ns fs))) : M Ow) S) Q) :
    vs.length = n ∧ us.length = m ∧ ∀ x dx, H x = none → H dx = none → dx ≠ x → spI C c its.length F (.ref x :: putV its vs us) (upd (upd H dx (.own x)) x (.ins (C.ca c) dx [])) (fun v H2 => v = .non ∧ Q (.ref x) H2) (WE W σ) := by
  obtain ⟨ds, e1, h⟩ := post_ofO h
  obtain ⟨es, e2, h⟩ := post_ofO h
  obtain ⟨hl, h⟩ := post_guard h
  rw [Bool.and_eq_true] at hl
  have a1 := stricts_ok r1 e1
  have a2 := stricts_ok r2 e2
  refine ⟨a1.length.trans (beq_iff_eq.mp hl.1), a2.length.trans (beq_iff_eq.mp hl.2), fun x dx hx hdx hne => ?_⟩
  obtain ⟨z1, z2, z3⟩ := st.toSim.new hx
  have up : ∀ a o, H a = some o → upd (upd H dx (.own x)) x (.ins (C.ca c) dx []) a = some o := fun a o h => by
    rw [upd_ne (ne_of_none h hx), upd_ne (ne_of_none h hdx)]; exact h
  refine ⟨by simp [putV], B.lks, x, dx, _, g, S, _, rfl, upd_same, z1, z3, ?_, put_rep a1 a2 its, ?_⟩
  · exact ⟨fun a u h => (st.fz a u h).kept (up a), st.lkf, st.shl, fun i a m h1 h2 => (st.sh i a m h1 h2).kept (.refl g) (up a), st.mf, st.md⟩
  rw [bind_ap] at h
  cases q : F (putD its ds es) S with
  | exc c' ns ds' S' =>
    rw [q] at h
    intro cls dd H' g' f m r
    have fm := frm_made hx hdx f
    exact h cls dd H' g' fm (st.call fm m) r
  | stuck => rw [q] at h; exact h
  | ok p S' =>
    obtain ⟨ns, fs⟩ := p
    rw [q] at h
    intro H' g' dx vfs f m hi hn r n1 n2
    refine ⟨rfl, ?_⟩
    have fm := frm_made hx hdx f
    cases shr with
    | false =>
      have f2 := fm.freeze (o := .ins (C.ca c) dx vfs) hx n1
      have m2 := m.freeze hi n1 n2
      have le : g'.Le ⟨upd g'.Φ x (.ins (C.ca c) dx vfs), g'.μ⟩ := ⟨fun a u h => by show upd g'.Φ x _ a = some u; rw [upd_ne (ne_of_none h n1)]; exact h, fun _ _ h => h⟩
      exact h (.ref x) H' _ f2 (st.call f2 m2) (.val (.ins (by show upd g'.Φ x _ x = _; rw [upd_same]) hn (r.mono le)))
    | true =>
      have f2 := fm.share (x := x) hx
      have m2 := m.share (x := x) (o := .ins c ns fs) ⟨dx, vfs, hi, hn, r⟩ n1 n2
      refine h (.ref x) H' _ f2 (st.call f2 m2) (.val (.ref ?_))
      show (g'.μ ++ [x])[S'.length]? = some x
      rw [m.shl]; simp
theorem sv_make {c : Nat} {shr : Bool} {F : List D → M Fds} {k n : Nat} {f : Addr} {fd : FuncData} {prs : List Str} {its : List Ar} {x : Str} {p pos : Pos} {ps : List Expr} {kws : List Keyword} {a b : Env → M (List Ow)} {g : List Value → List Value → List Value}
    (M0 : Mk X.K (C.ca c) f) (G : FnOk X.prog X.w X.K X.mg X.base (L2.CX X.prog X.w) k f fd prs (spI C c its.length F)) (hr : Room (k + 1) X.A) (hg : Gl X x) (hm : X.mg x = some (.ref (C.ca c)))
    (hb : KBn X.K fd prs (n + 1) (kwNames kws) g (putV (.p 0 :: its.map shA))) (tk : Takes X W) (ha : Sas X C B W ps a) (hkw : Sks X C B W kws b) (hs : noStars ps = true) (hka : kwAll kws = true) (hdb : (x == ("__debug__" : Str)) = false) (hnil : ps = [] → a = evNil) :
    Sv X C B W (.Call (.Name x p) ps kws pos) (evMake c shr F n (kwNames kws).length its a b) := by
  have go : ∀ (pins : List (Addr × Obj)) (s : Shared) (σ : St) (H : Hp) (Q : VK) (us ws : List Value) (vs zs : List V), Inv X pins σ H s → Vals vs us → Vals zs ws → vs.length = n → zs.length = (kwNames kws).length →
      (∀ x dx, H x = none → H dx = none → dx ≠ x → spI C c its.length F (.ref x :: putV its vs zs) (upd (upd H dx (.own x)) x (.ins (C.ca c) dx [])) (fun v H2 => v = .non ∧ Q (.ref x) H2) (WE W σ)) →
      wpAny (model X.prog X.w) X.A (PySem.call (.ref (C.ca c)) us ((kwNames kws).zip ws)) (EP X pins σ Q) X.xe s := fun pins s σ H Q us ws vs zs I r rz l1 l2 h => by
    have hq := h (s.heap.objs.size + 1) s.heap.objs.size (I.hok.fresh (Nat.le_succ _)) (I.hok.fresh (Nat.le_refl _)) (Nat.ne_of_lt (Nat.lt_succ_self _))
    have I2 := Inv.made (C := C.ca c) I
    have r1 : Vals (V.ref (s.heap.objs.size + 1) :: vs) (Value.ref (s.heap.objs.size + 1) :: us) := .cons rfl r
    have r2 := hb.rel r1 rz
    rw [putV_sh] at r2
    have e1 : (Value.ref (s.heap.objs.size + 1) :: us).length = n + 1 := r1.length.symm.trans (congrArg Nat.succ l1)
    have e2 : ws.length = (kwNames kws).length := rz.length.symm.trans l2
    refine wpAny_call (make_map (f := f) I.kIn M0.makes M0.init (beq_iff_eq.mp M0.fn) (codeAny_mono (G.run _ X.stack _ _ ⟨Value.ref (s.heap.objs.size + 1) :: us, (kwNames kws).zip ws⟩ (g (Value.ref (s.heap.objs.size + 1) :: us) ws) _ _ (WE W σ) (hr.make (C.ca c) us ((kwNames kws).zip ws))
      (I2.env0.make (C.ca c) us ((kwNames kws).zip ws)) (hb.to _ (Value.ref (s.heap.objs.size + 1) :: us) ws I2.kIn e1 e2) r2 hq) fun r s' hq' => ?_))
    cases r with
    | error e => exact passAt tk σ pins _ _ e s' I2 hq'
    | ok fl =>
      cases fl with
      | ret u =>
        obtain ⟨v, H', I3, rv, ev, q3⟩ := I2.after hq'
        subst ev
        exact ⟨rv, ⟨V.ref (s.heap.objs.size + 1), H', I3, rfl, q3⟩⟩
      | next => exact False.elim hq'
      | brk => exact False.elim hq'
      | cont => exact False.elim hq'
  cases ps with
  | nil =>
    refine ⟨fun pins s σ H Q I ⟨g, e, S, st, h⟩ => ?_⟩
    refine wpAny_Call_Name_kw (ld_glob I hg hm ?_ hdb)
    refine PySem.W.callWith_KW0 (h₀ := X.base) I.ok.mod.kin M0.kp (kw_all hka) ?_ (by rw [backTo_free hs, kw_none hka]; rfl)
    have ea := hnil rfl
    subst ea
    have h : Post C B W (RO C) g e σ H ((b e >>= fun zs => (do
      let ds ← M.ofO (stricts [])
      let es ← M.ofO (stricts zs)
      guardM (ds.length == n && es.length == (kwNames kws).length)
      let (ns, fs) ← F (putD its ds es)
      if shr then do
        let d ← newS (.ins c ns fs)
        M.pure (.val d)
      else M.pure (.val (.ins c ns fs)) : M Ow)) S) Q := h
    refine thn (hkw.run pos pins s σ H (fun us H2 => ([] : List V).length = n ∧ us.length = (kwNames kws).length ∧ ∀ x dx, H2 x = none → H2 dx = none → dx ≠ x → spI C c its.length F (.ref x :: putV its [] us) (upd (upd H2 dx (.own x)) x (.ins (C.ca c) dx [])) (fun v H3 => v = .non ∧ Q (.ref x) H3) (WE W σ)) I ?_) fun ws s2 ⟨zs, H2, I2, rz, l1, l2, q2⟩ => ⟨I2.kIn, ?_⟩
    · exact ⟨g, e, S, st, Post.seq h fun zs S2 us H2 g2 f2 st2 r2 h2 => make_end st2 .nil r2 h2⟩
    · rw [kw_names]
      exact go pins s2 σ H2 Q [] ws [] zs I2 .nil rz l1 l2 q2
  | cons e0 ps =>
    refine ⟨fun pins s σ H Q I ⟨g, e, S, st, h⟩ => ?_⟩
    refine wpAny_Call_Name_kw (ld_glob I hg hm ?_ hdb)
    have hs0 : noStars ps = true ∧ starEach (e0 :: ps) X.env = (false, eval e0 X.env) :: starEach ps X.env := by
      unfold noStars at hs
      rw [List.all_cons, Bool.and_eq_true] at hs
      exact ⟨hs.2, starEach_cons hs.1⟩
    refine PySem.W.callWith_KW (h₀ := X.base) I.ok.mod.kin M0.kp (kw_all hka) (thn (ha.run pos pins s σ H (fun vs H1 => tG C B W (ROs C) b σ H1 fun us H2 => vs.length = n ∧ us.length = (kwNames kws).length ∧ ∀ x dx, H2 x = none → H2 dx = none → dx ≠ x → spI C c its.length F (.ref x :: putV its vs us) (upd (upd H2 dx (.own x)) x (.ins (C.ca c) dx [])) (fun v H3 => v = .non ∧ Q (.ref x) H3) (WE W σ)) I ?_)
      fun us s1 ⟨vs, H1, I1, r, q⟩ => ?_) (by rw [backTo_free hs, kw_none hka]; rfl) hs0.2
    · refine ⟨g, e, S, st, Post.seq h fun ws S1 vs H1 g1 f1 st1 r1 h1 => ⟨g1, e, S1, st1, Post.seq h1 fun zs S2 us H2 g2 f2 st2 r2 h2 => ?_⟩⟩
      exact make_end st2 (ros_mono f2 r1) r2 h2
    · refine thn (hkw.run pos pins s1 σ H1 _ I1 q) fun ws s2 ⟨zs, H2, I2, rz, l1, l2, q2⟩ => ⟨I2.kIn, ?_⟩
      rw [kw_names]
      exact go pins s2 σ H2 Q us ws vs zs I2 r rz l1 l2 q2

/-! ### fields -/
def lookF : List String → List D → String → Option D
  | n :: ns, d :: ds, f => if n == f then some d else lookF ns ds f
  | _, _, _ => none
theorem lookF_ok : ∀ {fs : List (Str × V)} {ns : List String} {ds : List D} {f : String} {d : D}, fs.map (·.1) = ns.map Str.ofString → Reps C g (fs.map (·.2)) ds → lookF ns ds f = some d → ∃ v, fs.lookup (Str.ofString f) = some v ∧ Rep C g v d
  | [], ns, ds, f, d, h, r, l => by
    cases ns with
    | nil => cases l
    | cons _ _ => cases h
  | (k, v) :: fs, ns, ds, f, d, h, r, l => by
    cases ns with
    | nil => cases h
    | cons n ns =>
      rw [List.map_cons, List.map_cons] at h
      injection h with h1 h2
      cases r with
      | @cons v' d' vs' ds' r1 r2 =>
        have h1 : k = Str.ofString n := h1
        have l' : (if n == f then some d' else lookF ns ds' f) = some d := l
        by_cases q : n = f
        · subst q
          rw [if_pos (beq_self_eq_true _)] at l'
          cases l'
          refine ⟨v, ?_, r1⟩
          rw [List.lookup_cons, h1]; simp
        · rw [if_neg (by simpa using q)] at l'
          obtain ⟨u, hu, ru⟩ := lookF_ok h2 r2 l'
          refine ⟨u, ?_, ru⟩
          rw [List.lookup_cons, h1]
          have : (Str.ofString f == Str.ofString n) = false := beq_eq_false_iff_ne.mpr fun z => q (ofS_inj z).symm
          rw [this]; exact hu
def fldD (f : String) (d : D) : M Ow := fun S => match insOf S d with
  | some (_, ns, ds) => match lookF ns ds f with
    | some x => .ok (.val x) S
    | none => .stuck
  | none => .stuck
def notCall : Expr → Bool
  | .Call .. => false
  | _ => true
theorem attrBase_free {o : Expr} {f : Str} {env : PySem.Env} (h : notCall o = true) : attributeBase o f env (eval o env) = eval o env := by
  cases o <;> first | rfl | cases h
/-- what is asked of the classes -/
structure ClsOk (K : PySem.W.Frag) (ca : Nat → Addr) (c : Nat) (f : Str) : Prop where
  cls : Cls K (ca c)
  no : NoAttr K (ca c) f
theorem sv_fld {po : Expr} {f : String} {pos : Pos} {a : Env → M Ow} {ok : Nat → Bool} (hK : X.K = C.K) (ha : Sv X C B W po a) (hb : notCall po = true) (hc : ∀ c, ok c = true → ClsOk C.K C.ca c (Str.ofString f)) :
    Sv X C B W (.Attribute po (Str.ofString f) pos) (ev1 (fun d S => match insOf S d with | some (c, _, _) => if ok c then fldD f d S else .stuck | none => .stuck) a) := PE.imp (pe_fld ha (attrBase_free hb)) fun σ H Q ⟨g, e, S, st, h⟩ => by
  refine ⟨g, e, S, st, Post.seq h fun x S1 v1 H1 g1 f1 st1 r1 h1 => ?_⟩
  obtain ⟨d, e1, h1⟩ := post_ofO h1
  have h1 : Post C B W (RO C) g1 e σ H1 (match insOf S1 d with | some (c, _, _) => if ok c then fldD f d S1 else .stuck | none => .stuck) Q := h1
  cases q : insOf S1 d with
  | none => rw [q] at h1; exact False.elim h1
  | some p =>
    obtain ⟨c, ns, ds⟩ := p
    rw [q] at h1
    have h1 : Post C B W (RO C) g1 e σ H1 (if ok c then fldD f d S1 else .stuck) Q := h1
    by_cases hk : ok c = true
    · rw [if_pos hk] at h1
      unfold fldD at h1
      rw [q] at h1
      have h1 : Post C B W (RO C) g1 e σ H1 (match lookF ns ds f with | some x => .ok (.val x) S1 | none => .stuck) Q := h1
      cases z : lookF ns ds f with
      | none => rw [z] at h1; exact False.elim h1
      | some x' =>
        rw [z] at h1
        obtain ⟨a', dx, fs, e2, hi, hn, r⟩ := st1.toSim.insq (r1.flat e1) q
        obtain ⟨u, hu, ru⟩ := lookF_ok hn r z
        have k := hc c hk
        rw [← hK] at k
        exact ⟨a', C.ca c, dx, fs, u, e2, hi, k.cls, k.no, hu, h1.ret st1 (.val ru)⟩
    · rw [if_neg hk] at h1; exact False.elim h1
end
end PV

set_option Elab.async false
set_option linter.all false
set_option maxRecDepth 100000
set_option maxHeartbeats 400000
/-! PV7: subscripts, slices, builtins, texts. -/
namespace PV
open PySem PySem.Spec L2
open PyProof.Rows hiding St
section
variable {X : Cx} {C : Kx} {B : Bs} {W : WX} {g g' : G} {e : Env} {S S' : Store} {σ : St} {H H' : Hp}

/-! ### a[i] -/
def keyOf : D → Option Key
  | .int i => some (.inl i)
  | .str x => some (.inr x)
  | _ => none
def lookK : List Key → List D → Key → Option D
  | k :: ks, d :: ds, q => if k = q then some d else lookK ks ds q
  | _, _, _ => none
theorem valV_cons {α : Type} [DecidableEq α] {k q : α} {v : V} {r : List (α × V)} : valV ((k, v) :: r) q = if k = q then some v else valV r q := by
  unfold valV
  by_cases h : k = q
  · subst h; simp
  · simp [h]
theorem lookK_ok : ∀ {kvs : List (Key × V)} {ks : List Key} {ds : List D} {q : Key}, kvs.map (·.1) = ks → Reps C g (kvs.map (·.2)) ds →
    (∀ d, lookK ks ds q = some d → ∃ v, valV kvs q = some v ∧ Rep C g v d) ∧ (lookK ks ds q = none → valV kvs q = none)
  | [], ks, ds, q, h, r => by
    subst h
    exact ⟨fun d z => (by cases z), fun _ => rfl⟩
  | (k, v) :: kvs, ks, ds, q, h, r => by
    subst h
    cases r with
    | @cons v' d' vs' ds' r1 r2 =>
      have ih := lookK_ok (q := q) (rfl : kvs.map (·.1) = kvs.map (·.1)) r2
      rw [valV_cons]
      by_cases z : k = q
      · subst z
        refine ⟨fun d h => ?_, fun h => ?_⟩
        · have h' : (if k = k then some d' else _) = some d := h
          rw [if_pos rfl] at h'
          cases h'
          exact ⟨v, by rw [if_pos rfl], r1⟩
        · have h' : (if k = k then some d' else _) = none := h
          rw [if_pos rfl] at h'; cases h'
      · have e1 : lookK ((k :: kvs.map (·.1))) (d' :: ds') q = lookK (kvs.map (·.1)) ds' q := by
          show (if k = q then some d' else _) = _
          rw [if_neg z]
        rw [if_neg z]
        exact ⟨fun d h => ih.1 d (by rw [← e1]; exact h), fun h => ih.2 (by rw [← e1]; exact h)⟩
def idxL (ds : List D) (i : D) : M Ow := match i with
  | .int k => match atI ds k with
    | some x => M.pure (.val x)
    | none => M.stuck
  | _ => M.stuck
def idxS (z : Str) (i : D) : M Ow := match i with
  | .int k => match atI z.cps.toList k with
    | some c => if z.length ≤ line then M.pure (.val (.str ⟨#[c]⟩)) else M.stuck
    | none => M.stuck
  | _ => M.stuck
def idxK (ks : List Key) (ds : List D) (i : D) : M Ow := match keyOf i with
  | some k => match lookK ks ds k with
    | some x => M.pure (.val x)
    | none => M.stuck
  | none => M.stuck
def idxD (d i : D) : M Ow := fun S => match seqOf S d with
  | some ds => idxL ds i S
  | none => match d with
    | .str z => idxS z i S
    | d => match dicOf S d with
      | some (ks, ds) => idxK ks ds i S
      | none => .stuck
def idxO (w : Ow) (i : D) : M Ow := match w, i with
  | .lst ws, .int k => M.ofO (atI ws k)
  | w, i => do
    let d ← M.ofO w.flat
    idxD d i
def evIdx (a b : Env → M Ow) : Env → M Ow := fun e => do
  let w ← a e
  let i ← b e
  let i ← M.ofO i.flat
  idxO w i
def rIxA (K : PySem.W.Frag) : R2 := fun x y H Q => rIxL K x y H Q ∨ rIxT K x y H Q ∨ rIxS x y H Q ∨ ∃ a v, x = .ref a ∧ DGet H a y (some v) ∧ Q v H
theorem ix_dict (hu : X.A.units + 1 < cLine) : IxR X (fun x y H Q => ∃ a v, x = .ref a ∧ DGet H a y (some v) ∧ Q v H) := by
  intro value slice pins s σ H x y v u Q I rx ry h hs
  obtain ⟨a, v', rfl, hg, q⟩ := h
  obtain rfl : v = Value.ref a := rx
  exact tail_any (dict_typeIs I hg) slot_dict_getitem.lookup (d_getItem hu I hg ry fun w' s3 I3 rw' => ⟨v', H, I3, rw', q⟩) hs
theorem ix_any (hu : X.A.units + 1 < cLine) : IxR X (rIxA X.K) := IxR.or ix_list (IxR.or ix_tup (IxR.or ix_str (ix_dict hu)))
theorem atI_rep {vs : List V} {ds : List D} {k : Int} {d : D} (r : Reps C g vs ds) (h : atI ds k = some d) : ∃ v, atI vs k = some v ∧ Rep C g v d := by
  unfold atI at h ⊢
  rw [r.length]
  cases q : ixN ds.length k with
  | none => rw [q] at h; cases h
  | some j => rw [q] at h; exact r.get h
theorem idxD_ok {d i : D} {v1 v2 : V} {Q : VK} (hK : X.K = C.K) (st : StR C B g e S σ H) (r1 : RepF C g H v1 d) (r2 : RepF C g H v2 i) (h : Post C B W (RO C) g e σ H (idxD d i S) Q) : rIxA X.K v1 v2 H Q := by
  unfold idxD at h
  cases hs : seqOf S d with
  | some ds =>
    rw [hs] at h
    have h : Post C B W (RO C) g e σ H (idxL ds i S) Q := h
    unfold idxL at h
    cases i with
    | int k =>
      dsimp only at h
      cases hx : atI ds k with
      | some x =>
        rw [hx] at h
        obtain ⟨a, vs, rfl, hl, r⟩ := st.toSim.seq r1 hs
        obtain ⟨u, hu, ru⟩ := atI_rep r hx
        have e2 := r2.int
        rcases hl with hl | hl
        · exact .inl ⟨a, vs, k, u, rfl, e2, by rw [hK]; exact hl, hu, h.ret st (.val ru)⟩
        · exact .inr (.inl ⟨a, vs, k, u, rfl, e2, by rw [hK]; exact hl, hu, h.ret st (.val ru)⟩)
      | none => rw [hx] at h; exact False.elim h
    | _ => exact False.elim h
  | none =>
    rw [hs] at h
    have dict : Post C B W (RO C) g e σ H (match dicOf S d with | some (ks, ds) => idxK ks ds i S | none => .stuck) Q → rIxA X.K v1 v2 H Q := fun h => by
      cases hd : dicOf S d with
      | none => rw [hd] at h; exact False.elim h
      | some p =>
        obtain ⟨ks, ds⟩ := p
        rw [hd] at h
        have h : Post C B W (RO C) g e σ H (idxK ks ds i S) Q := h
        unfold idxK at h
        cases hk : keyOf i with
        | none => rw [hk] at h; exact False.elim h
        | some k =>
          rw [hk] at h
          have h : Post C B W (RO C) g e σ H ((match lookK ks ds k with | some x => M.pure (.val x) | none => M.stuck : M Ow) S) Q := h
          cases hx : lookK ks ds k with
          | none => rw [hx] at h; exact False.elim h
          | some x =>
            rw [hx] at h
            obtain ⟨a, kvs, rfl, hr, e1, r⟩ := st.toSim.dicq r1 hd
            obtain ⟨u, hu, ru⟩ := (lookK_ok e1 r).1 x hx
            have e2 : v2 = kV k := by
              cases i with
              | int j => cases hk; exact r2.int
              | str j => cases hk; exact r2.str
              | _ => cases hk
            exact .inr (.inr (.inr ⟨a, u, rfl, .inl ⟨kvs, k, hr, e2, hu.symm⟩, h.ret st (.val ru)⟩))
    cases d with
    | str z =>
      have h : Post C B W (RO C) g e σ H (idxS z i S) Q := h
      unfold idxS at h
      cases i with
      | int k =>
        dsimp only at h
        cases hc : atI z.cps.toList k with
        | none => rw [hc] at h; exact False.elim h
        | some c =>
          rw [hc] at h
          have h : Post C B W (RO C) g e σ H ((if z.length ≤ line then M.pure (.val (.str ⟨#[c]⟩)) else M.stuck : M Ow) S) Q := h
          by_cases hz : z.length ≤ line
          · rw [if_pos hz] at h
            exact .inr (.inr (.inl ⟨z, k, c, r1.str, r2.int, line_le hz, hc, h.ret st (.val (.str _))⟩))
          · rw [if_neg hz] at h; exact False.elim h
      | _ => exact False.elim h
    | non => exact dict h
    | bl b => exact dict h
    | int k => exact dict h
    | tup ds => exact dict h
    | lst ds => exact dict h
    | scr ds => exact dict h
    | dic ks ds => exact dict h
    | ins c ns ds => exact dict h
    | ref id => exact dict h
theorem idxO_ok {w : Ow} {i : D} {v1 v2 : V} {Q : VK} (hK : X.K = C.K) (st : StR C B g e S σ H) (r1 : RepO C g H v1 w) (r2 : RepF C g H v2 i) (h : Post C B W (RO C) g e σ H (idxO w i S) Q) : rIxA X.K v1 v2 H Q := by
  unfold idxO at h
  split at h
  · rename_i ws k
    obtain ⟨fp, o, nm⟩ := r1
    cases q : atI ws k with
    | none => rw [q] at h; exact False.elim h
    | some w =>
      rw [q] at h
      cases o with
      | @lst a vs ws fps hl l1 l2 items =>
        unfold atI at q
        cases z : ixN ws.length k with
        | none => rw [z] at q; cases q
        | some j =>
          rw [z] at q
          have hj : j < ws.length := (List.getElem?_eq_some_iff.mp q).1
          have hv : vs[j]? = some vs[j] := List.getElem?_eq_getElem (by omega)
          have hf : fps[j]? = some fps[j] := List.getElem?_eq_getElem (by omega)
          have it := items j _ _ _ hv q hf
          have ev : atI vs k = some vs[j] := by
            have e0 : atI vs k = (ixN vs.length k).bind fun j => vs[j]? := rfl
            have e1 : ixN vs.length k = some j := by rw [l1]; exact z
            rw [e0, e1]; exact hv
          exact .inl ⟨a, vs, k, vs[j], rfl, r2.int, .inl (.inl hl), ev, h.ret st ⟨_, it, fun b hb => nm b (List.mem_cons_of_mem _ (List.mem_flatten.mpr ⟨_, List.getElem_mem _, hb⟩))⟩⟩
  · obtain ⟨d, e1, h⟩ := post_ofO h
    exact idxD_ok hK st (r1.flat e1) r2 h
def notSlice : Expr → Bool
  | .Slice .. => false
  | _ => true
theorem plain_of {b : Expr} (h : notSlice b = true) : PlainIx b := by
  intro o i
  cases b <;> first | rfl | cases h
theorem sv_idx {pa pb : Expr} {pos : Pos} {a b : Env → M Ow} (hK : X.K = C.K) (hu : X.A.units + 1 < cLine) (ha : Sv X C B W pa a) (hb : Sv X C B W pb b) (hs : notSlice pb = true) : Sv X C B W (.Subscript pa pb pos) (evIdx a b) :=
  PE.imp (pe_ix (ix_any hu) ha hb (plain_of hs)) fun σ H Q ⟨g, e, S, st, h⟩ => by
    refine ⟨g, e, S, st, Post.seq h fun x S1 v1 H1 g1 f1 st1 r1 h1 => ?_⟩
    refine ⟨g1, e, S1, st1, Post.seq h1 fun y S2 v2 H2 g2 f2 st2 r2 h2 => ?_⟩
    obtain ⟨d2, e2, h2⟩ := post_ofO h2
    exact idxO_ok hK st2 (r1.mono f2) (r2.flat e2) h2

end
end PV

set_option Elab.async false
set_option linter.all false
set_option maxRecDepth 100000
set_option maxHeartbeats 400000
/-! PV8: slices, builtins, texts. -/
namespace PV
open PySem PySem.Spec L2
open PyProof.Rows hiding St
section
variable {X : Cx} {C : Kx} {B : Bs} {W : WX} {g g' : G} {e : Env} {S S' : Store} {σ : St} {H H' : Hp}

/-! ### a[lo:hi], a[::-1] -/
def evOpt : Option (Env → M Ow) → Env → M (Option Int)
  | none, _ => M.pure none
  | some f, e => do
    let w ← f e
    match w with
    | .val (.int i) => M.pure (some i)
    | _ => M.stuck
abbrev RI : G → Hp → Option Int → Option Int → Prop := fun _ _ v w => v = w
inductive So (X : Cx) (C : Kx) (B : Bs) (W : WX) : Option Expr → Option (Env → M Ow) → Prop
  | no : So X C B W none none
  | yes {p : Expr} {f : Env → M Ow} : Sv X C B W p f → So X C B W (some p) (some f)
theorem So.po {p : Option Expr} {f : Option (Env → M Ow)} (h : So X C B W p f) : PO X p (tG C B W RI (evOpt f)) := by
  cases h with
  | no => exact ⟨fun pins s σ H Q I ⟨g, e, S, st, h⟩ => po_none.run pins s σ H Q I (h.ret st rfl)⟩
  | yes h => exact ⟨fun pins s σ H Q I ⟨g, e, S, st, q⟩ => (po_some h).run pins s σ H Q I ⟨g, e, S, st, Post.seq q fun w S1 v1 H1 g1 f1 st1 r1 h1 => by
      cases w with
      | val d =>
        cases d with
        | int i =>
          have r := r1.rep
          cases r
          exact ⟨i, rfl, h1.ret st1 rfl⟩
        | _ => exact False.elim h1
      | _ => exact False.elim h1⟩⟩
def cutD (ds : List D) (lo hi : Option Int) : List D := (ds.drop (HT.sIx ds.length 0 lo)).take (HT.sIx ds.length ds.length hi - HT.sIx ds.length 0 lo)
def slcD (lo hi : Option Int) (d : D) : M Ow := fun S => match d with
  | .tup ds => .ok (.val (.tup (cutD ds lo hi))) S
  | .str z => if z.length ≤ line then .ok (.val (.str (cutS z lo hi))) S else .stuck
  | d => match lstOf S d with
    | some ds => .ok (.val (.lst (cutD ds lo hi))) S
    | none => .stuck
def evSlc (a : Env → M Ow) (lo hi : Option (Env → M Ow)) : Env → M Ow := fun e => do
  let w ← a e
  let l ← evOpt lo e
  let u ← evOpt hi e
  let d ← M.ofO w.flat
  slcD l u d
def rSlAll (K : PySem.W.Frag) : V → Option Int → Option Int → Hp → VK → Prop := fun x lo hi H Q => rSlL K x lo hi H Q ∨ rSlA K x lo hi H Q ∨ rSlS x lo hi H Q
theorem sl_all : SlR X (rSlAll X.K) := SlR.or sl_list (SlR.or sl_tupA sl_str)
theorem cut_rep {vs : List V} {ds : List D} (r : Reps C g vs ds) (lo hi : Option Int) : Reps C g (cutV vs lo hi) (cutD ds lo hi) := by
  unfold cutV cutD
  rw [r.length]
  exact (r.drop _).take _
theorem cut_all {ds : List D} {lo hi : Option Int} (h : HT.sIx ds.length 0 lo = 0 ∧ HT.sIx ds.length ds.length hi = ds.length) : cutD ds lo hi = ds := by
  unfold cutD
  rw [h.1, h.2]; simp
theorem sv_slc {pa : Expr} {lo hi : Option Expr} {p2 pos : Pos} {a : Env → M Ow} {l u : Option (Env → M Ow)} (hK : X.K = C.K) (ha : Sv X C B W pa a) (hl : So X C B W lo l) (hh : So X C B W hi u) : Sv X C B W (.Subscript pa (.Slice lo hi none p2) pos) (evSlc a l u) :=
  PE.imp (pe_slice sl_all ha hl.po hh.po) fun σ H Q ⟨g, e, S, st, h⟩ => by
    refine ⟨g, e, S, st, Post.seq h fun x S1 v1 H1 g1 f1 st1 r1 h1 => ?_⟩
    refine ⟨g1, e, S1, st1, Post.seq h1 fun lo' S2 lo2 H2 g2 f2 st2 r2 h2 => ?_⟩
    refine ⟨g2, e, S2, st2, Post.seq h2 fun hi' S3 hi2 H3 g3 f3 st3 r3 h3 => ?_⟩
    have r2 : lo2 = lo' := r2
    have r3 : hi2 = hi' := r3
    subst r2
    subst r3
    obtain ⟨d, e1, h3⟩ := post_ofO h3
    have r := (r1.mono (f2.trans f3)).flat e1
    unfold slcD at h3
    split at h3
    · rename_i ds
      cases r with | rep r => cases r with | @tup a' vs ds t1 q1 =>
        have t1' := st3.toSim.sqT t1
        refine .inr (.inl ⟨a', vs, rfl, by rw [hK]; exact t1', fun hw => ?_, fun hw p hp => ?_⟩)
        · rw [q1.length] at hw
          rw [cut_all hw] at h3
          exact h3.ret st3 (.val (.tup t1 q1))
        · exact post_new h3 st3 hp fun g' le hg => .tup (.inl (.inl hg)) ((cut_rep q1 _ _).mono le)
    · rename_i z
      split at h3
      · rename_i hz
        exact .inr (.inr ⟨z, r.str, line_le hz, h3.ret st3 (.val (.str _))⟩)
      · exact False.elim h3
    · split at h3
      · rename_i ds hd
        obtain ⟨a', vs, rfl, t1, q1⟩ := st3.toSim.lstq r hd
        exact .inl ⟨a', vs, rfl, by rw [hK]; exact t1, fun p hp => post_new h3 st3 hp fun g' le hg => .lst (.inl hg) ((cut_rep q1 _ _).mono le)⟩
      · exact False.elim h3
def revD (d : D) : M Ow := fun S => match lstOf S d with
  | some ds => .ok (.val (.lst ds.reverse)) S
  | none => .stuck
theorem sv_rev {pa : Expr} {k : Nat} {p1 p2 p3 pos : Pos} {a : Env → M Ow} (hK : X.K = C.K) (ha : Sv X C B W pa a) : Sv X C B W (.Subscript pa (.Slice none none (some (.UnaryOp .USub (.Constant (.int 1) k p1) p2)) p3) pos) (ev1 revD a) :=
  PE.imp (pe_revL ha) fun σ H Q ⟨g, e, S, st, h⟩ => by
    refine ⟨g, e, S, st, Post.seq h fun x S1 v1 H1 g1 f1 st1 r1 h1 => ?_⟩
    obtain ⟨d, e1, h1⟩ := post_ofO h1
    unfold revD at h1
    split at h1
    · rename_i ds hd
      obtain ⟨a', vs, rfl, t1, q1⟩ := st1.toSim.lstq (r1.flat e1) hd
      exact ⟨a', vs, rfl, by rw [hK]; exact t1, fun p hp => post_new h1 st1 hp fun g' le hg => .lst (.inl hg) (q1.reverse.mono le)⟩
    · exact False.elim h1

/-! ### builtins -/
def absF : List D → M Ow
  | [.int i] => pI (if i < 0 then -i else i)
  | _ => M.stuck
theorem cf_abs : CallF C B W (fun xs H Q => ∃ i, xs = [.int i] ∧ Q (.int (if i < 0 then -i else i)) H) absF := by
  intro g e S σ H vs ds Q st r h
  unfold absF at h
  split at h
  · rename_i i
    obtain ⟨v, rfl, z1⟩ := pf1 r
    exact ⟨i, by rw [z1.int], h.ret st (.val (.int _))⟩
  · exact False.elim h
def max2F : List D → M Ow
  | [.int i, .int j] => pI (if j > i then j else i)
  | _ => M.stuck
theorem cf_max2 : CallF C B W (fun xs H Q => ∃ i j, xs = [.int i, .int j] ∧ Q (.int (if j > i then j else i)) H) max2F := by
  intro g e S σ H vs ds Q st r h
  unfold max2F at h
  split at h
  · rename_i i j
    obtain ⟨v, v', rfl, z1, z2⟩ := pf2 r
    exact ⟨i, j, by rw [z1.int, z2.int], h.ret st (.val (.int _))⟩
  · exact False.elim h
def min2F : List D → M Ow
  | [.int i, .int j] => pI (if j < i then j else i)
  | _ => M.stuck
theorem cf_min2 : CallF C B W (fun xs H Q => ∃ i j, xs = [.int i, .int j] ∧ Q (.int (if j < i then j else i)) H) min2F := by
  intro g e S σ H vs ds Q st r h
  unfold min2F at h
  split at h
  · rename_i i j
    obtain ⟨v, v', rfl, z1, z2⟩ := pf2 r
    exact ⟨i, j, by rw [z1.int, z2.int], h.ret st (.val (.int _))⟩
  · exact False.elim h
/-- len of a list, a tuple, a text, a dict -/
theorem call_lenA : CallR X (.builtin "len") (fun xs H Q => (∃ x n, xs = [x] ∧ LenV X.K x H n ∧ Q (.int n) H) ∨ ∃ a kvs, xs = [.ref a] ∧ Rd H a (.dK kvs) ∧ Q (.int (kvs.length : Nat)) H) := by
  intro pins s σ H xs us Q I r h
  rcases h with h | ⟨a, kvs, rfl, hr, q⟩
  · exact call_len pins s σ H xs us Q I r h
  · obtain ⟨u, rfl, r1⟩ := vals1 r
    obtain rfl : u = Value.ref a := r1
    exact d_len I hr fun t s' I' => ⟨.int (kvs.length : Nat), H, I', ⟨_, rfl⟩, q⟩
def lenF : List D → M Ow := fun ds S => match ds with
  | [.str z] => if z.length ≤ line then .ok (.val (.int z.length)) S else .stuck
  | [d] => match seqOf S d with
    | some ds => .ok (.val (.int ds.length)) S
    | none => match dicOf S d with
      | some (ks, _) => .ok (.val (.int ks.length)) S
      | none => .stuck
  | _ => .stuck
theorem cf_len (hK : X.K = C.K) : CallF C B W (fun xs H Q => (∃ x n, xs = [x] ∧ LenV X.K x H n ∧ Q (.int n) H) ∨ ∃ a kvs, xs = [.ref a] ∧ Rd H a (.dK kvs) ∧ Q (.int (kvs.length : Nat)) H) lenF := by
  intro g e S σ H vs ds Q st r h
  unfold lenF at h
  split at h
  · rename_i z
    split at h
    · rename_i hz
      obtain ⟨v, rfl, z1⟩ := pf1 r
      have := z1.str
      subst this
      exact .inl ⟨_, z.length, rfl, ⟨line_le hz, rfl⟩, h.ret st (.val (.int _))⟩
    · exact False.elim h
  · rename_i d _
    obtain ⟨v, rfl, z1⟩ := pf1 r
    split at h
    · rename_i es he
      obtain ⟨a, vs, rfl, hl, q⟩ := st.toSim.seq z1 he
      refine .inl ⟨_, es.length, rfl, ?_, h.ret st (.val (.int _))⟩
      rcases hl with hl | hl
      · exact .inl ⟨vs, by rw [hK]; exact hl, q.length.symm⟩
      · exact .inr ⟨vs, by rw [hK]; exact hl, q.length.symm⟩
    · split at h
      · rename_i ks es he
        obtain ⟨a, kvs, rfl, hr, e1, q⟩ := st.toSim.dicq z1 he
        refine .inr ⟨a, kvs, rfl, hr, ?_⟩
        have : ks.length = kvs.length := by rw [← e1, List.length_map]
        rw [← this]
        exact h.ret st (.val (.int _))
      · exact False.elim h
  · exact False.elim h
/-- str of an int, a text -/
theorem call_strA : CallR X (.type "str") (fun xs H Q => (∃ i, xs = [.int i] ∧ i.natAbs.log2 < 1920 ∧ Q (.str (toString i)) H) ∨ ∃ a, xs = [.str a] ∧ Q (.str a) H) := by
  intro pins s σ H xs us Q I r h
  rcases h with h | h
  · exact call_str_int pins s σ H xs us Q I r h
  · exact SkE.call_str_str pins s σ H xs us Q I r h
def strI (i : Int) : Str := toString i
def strF : List D → M Ow
  | [.int i] => if decide (i.natAbs.log2 < 1920) then M.pure (.val (.str (strI i))) else M.stuck
  | [.str a] => M.pure (.val (.str a))
  | _ => M.stuck
theorem cf_str : CallF C B W (fun xs H Q => (∃ i, xs = [.int i] ∧ i.natAbs.log2 < 1920 ∧ Q (.str (toString i)) H) ∨ ∃ a, xs = [.str a] ∧ Q (.str a) H) strF := by
  intro g e S σ H vs ds Q st r h
  unfold strF at h
  split at h
  · rename_i i
    split at h
    · rename_i hz
      obtain ⟨v, rfl, z1⟩ := pf1 r
      exact .inl ⟨i, by rw [z1.int], of_decide_eq_true hz, h.ret st (.val (.str _))⟩
    · exact False.elim h
  · rename_i a
    obtain ⟨v, rfl, z1⟩ := pf1 r
    exact .inr ⟨a, by rw [z1.str], h.ret st (.val (.str _))⟩
  · exact False.elim h
def listF : List D → M Ow := fun ds S => match ds with
  | [d] => match seqOf S d with
    | some ds => .ok (.val (.lst ds)) S
    | none => .stuck
  | _ => .stuck
theorem cf_list (hK : X.K = C.K) : CallF C B W (fun xs H Q => ∃ p ys, xs = [.ref p] ∧ (SqL X.K H p ys ∨ SqT X.K H p ys) ∧ ∀ l, H l = none → Q (.ref l) (upd H l (.lst ys))) listF := by
  intro g e S σ H vs ds Q st r h
  unfold listF at h
  split at h
  · split at h
    · rename_i es he
      obtain ⟨v, rfl, z1⟩ := pf1 r
      obtain ⟨a, vs, rfl, hl, q⟩ := st.toSim.seq z1 he
      exact ⟨a, vs, rfl, by rw [hK]; exact hl, fun p hp => post_new h st hp fun g' le hg => .lst (.inl hg) (q.mono le)⟩
    · exact False.elim h
  · exact False.elim h
def tupleF : List D → M Ow := fun ds S => match ds with
  | [d] => match seqOf S d with
    | some ds => .ok (.val (.tup ds)) S
    | none => .stuck
  | _ => .stuck
theorem cf_tuple (hK : X.K = C.K) : CallF C B W (fun xs H Q => ∃ p ys, xs = [.ref p] ∧ ((SqL X.K H p ys ∧ ∀ l, H l = none → Q (.ref l) (upd H l (.tup ys))) ∨ (SqT X.K H p ys ∧ Q (.ref p) H))) tupleF := by
  intro g e S σ H vs ds Q st r h
  unfold tupleF at h
  split at h
  · rename_i d
    split at h
    · rename_i es he
      obtain ⟨v, rfl, z1⟩ := pf1 r
      -- a tuple is itself, a list gives a new tuple
      cases d with
      | tup ts =>
        cases he
        cases z1 with | rep z1 => cases z1 with | @tup a' vs ds t1 q1 =>
          exact ⟨a', vs, rfl, .inr ⟨by rw [hK]; exact st.toSim.sqT t1, h.ret st (.val (.tup t1 q1))⟩⟩
      | lst ts =>
        obtain ⟨a', vs, rfl, t1, q1⟩ := st.toSim.lstq z1 (S := S) (ds := ts) rfl
        cases he
        exact ⟨a', vs, rfl, .inl ⟨by rw [hK]; exact t1, fun p hp => post_new h st hp fun g' le hg => .tup (.inl (.inl hg)) (q1.mono le)⟩⟩
      | scr ts =>
        have hl : lstOf S (.scr ts) = some es := he
        obtain ⟨a', vs, rfl, t1, q1⟩ := st.toSim.lstq z1 hl
        exact ⟨a', vs, rfl, .inl ⟨by rw [hK]; exact t1, fun p hp => post_new h st hp fun g' le hg => .tup (.inl (.inl hg)) (q1.mono le)⟩⟩
      | ref id =>
        have hl : lstOf S (.ref id) = some es := he
        obtain ⟨a', vs, rfl, t1, q1⟩ := st.toSim.lstq z1 hl
        exact ⟨a', vs, rfl, .inl ⟨by rw [hK]; exact t1, fun p hp => post_new h st hp fun g' le hg => .tup (.inl (.inl hg)) (q1.mono le)⟩⟩
      | _ => cases he
    · exact False.elim h
  · exact False.elim h
def intF : List D → M Ow
  | [.int i] => pI i
  | [.bl b] => pI (if b then 1 else 0)
  | _ => M.stuck
theorem cf_int : CallF C B W (fun xs H Q => (∃ i, xs = [.int i] ∧ Q (.int i) H) ∨ ∃ k, xs = [.bl k] ∧ Q (.int (if k then 1 else 0)) H) intF := by
  intro g e S σ H vs ds Q st r h
  unfold intF at h
  split at h
  · rename_i i
    obtain ⟨v, rfl, z1⟩ := pf1 r
    exact .inl ⟨i, by rw [z1.int], h.ret st (.val (.int _))⟩
  · rename_i b
    obtain ⟨v, rfl, z1⟩ := pf1 r
    exact .inr ⟨b, by rw [z1.bl], h.ret st (.val (.int _))⟩
  · exact False.elim h

/-! ### texts -/
def strsOf : List D → Option (List Str)
  | [] => some []
  | .str x :: r => (strsOf r).map (x :: ·)
  | _ :: _ => none
theorem strs_rep : ∀ {vs : List V} {ds : List D} {ys : List Str}, Reps C g vs ds → strsOf ds = some ys → vs = ys.map V.str
  | _, _, _, .nil, h => by cases h; rfl
  | _, _, _, @Reps.cons _ _ v d vs ds r t, h => by
    cases d with
    | str x =>
      have h' : (strsOf ds).map (x :: ·) = some _ := h
      cases q : strsOf ds with
      | none => rw [q] at h'; cases h'
      | some zs => rw [q] at h'; cases h'; cases r; rw [strs_rep t q]; rfl
    | _ => cases h
/-- o.m(y) of a text -/
def evS1 (k : Str → D → M Ow) (a b : Env → M Ow) : Env → M Ow := fun e => do
  let w ← a e
  match w with
  | .val (.str x) => do
    let y ← b e
    let y ← M.ofO y.flat
    k x y
  | _ => M.stuck
theorem seqS {f : Env → M Ow} {k : Str → M Ow} {Q : VK} {Z : VK} (h : Post C B W (RO C) g e σ H ((f e >>= fun w => match w with | .val (.str x) => k x | _ => M.stuck) S) Q)
    (hk : ∀ x S1 H1 g1, Frm g H g1 H1 → StR C B g1 e S1 σ H1 → Post C B W (RO C) g1 e σ H1 (k x S1) Q → Z (.str x) H1) : Post C B W (RO C) g e σ H (f e S) Z := by
  refine Post.seq h fun w S1 v1 H1 g1 f1 st1 r1 h1 => ?_
  cases w with
  | val d =>
    cases d with
    | str b =>
      have r := r1.rep
      cases r
      exact hk b S1 H1 g1 f1 st1 h1
    | _ => exact False.elim h1
  | _ => exact False.elim h1
theorem tM1_of {r : V → List V → Hp → VK → Prop} {k : Str → D → M Ow} {a b : Env → M Ow} (hk : ∀ g e S σ H x v d Q, StR C B g e S σ H → RepF C g H v d → Post C B W (RO C) g e σ H (k x d S) Q → r (.str x) [v] H Q) {σ : St} {H : Hp} {Q : VK}
    (h : tE C B W (evS1 k a b) σ H Q) : tM1 r (tE C B W a) (tE C B W b) σ H Q := by
  obtain ⟨g, e, S, st, h⟩ := h
  refine ⟨g, e, S, st, seqS h fun x S1 H1 g1 f1 st1 h1 => ⟨⟨x, rfl⟩, g1, e, S1, st1, Post.seq h1 fun y S2 v2 H2 g2 f2 st2 r2 h2 => ?_⟩⟩
  obtain ⟨d, e2, h2⟩ := post_ofO h2
  exact hk g2 e S2 σ H2 x v2 d Q st2 (r2.flat e2) h2
def joinD (a : Str) (y : D) : M Ow := fun S => match seqOf S y with
  | some ds => match strsOf ds with
    | some ys => if (ys.map (·.length)).sum + ys.length * a.length ≤ line then .ok (.val (.str (Txt.join a ys))) S else .stuck
    | none => .stuck
  | none => .stuck
theorem sv_join {po pe : Expr} {apos pos : Pos} {a b : Env → M Ow} (hK : X.K = C.K) (ha : Sv X C B W po a) (hb : Sv X C B W pe b) (hs : noStars [pe] = true) (hc : notCall po = true) (hl : (apos.endLine == pos.line) = true) :
    Sv X C B W (.Call (.Attribute po "join" apos) [pe] [] pos) (evS1 joinD a b) := PE.imp (pe_join ha hb (starEach_free hs) (attrBase_free hc) hl) fun σ H Q h => tM1_of (fun g e S σ H x v d Q st r h => by
  unfold joinD at h
  split at h
  · rename_i ds hd
    split at h
    · rename_i ys hy
      split at h
      · rename_i hz
        obtain ⟨p, vs, rfl, hq, q1⟩ := st.toSim.seq r hd
        have e1 := strs_rep q1 hy
        subst e1
        exact ⟨x, p, ys, rfl, rfl, by rw [hK]; exact hq, by have := line_le hz; rw [sizeLine_eq] at this; exact this, h.ret st (.val (.str _))⟩
      · exact False.elim h
    · exact False.elim h
  · exact False.elim h) h
/-- f'..' -/
def fmtD : D → M D
  | .str y => if y.length ≤ line then M.pure (.str y) else M.stuck
  | .int i => if decide (i.natAbs.log2 < 1920) then M.pure (.str (strI i)) else M.stuck
  | _ => M.stuck
def evFmt (a : Env → M Ow) : Env → M Ow := ev1 (fun d => do
  let x ← fmtD d
  M.pure (.val x)) a
theorem sv_fmt {pe : Expr} {pos : Pos} {a : Env → M Ow} (ha : Sv X C B W pe a) : Sv X C B W (.FormattedValue pe (-1) none pos) (evFmt a) := PE.imp (pe_fmt ha) fun σ H Q ⟨g, e, S, st, h⟩ => by
  refine ⟨g, e, S, st, Post.seq h fun x S1 v1 H1 g1 f1 st1 r1 h1 => ?_⟩
  obtain ⟨d, e1, h1⟩ := post_ofO h1
  have r := r1.flat e1
  cases d with
  | str y =>
    have h1 : Post C B W (RO C) g1 e σ H1 ((((if y.length ≤ line then M.pure (.str y) else M.stuck : M D)) >>= fun x => (M.pure (.val x) : M Ow)) S1) Q := h1
    by_cases hz : y.length ≤ line
    · rw [if_pos hz] at h1
      exact .inl ⟨y, r.str, line_le hz, Post.ret (a := Ow.val (.str y)) (S := S1) h1 st1 (.val (.str _))⟩
    · rw [if_neg hz] at h1; exact False.elim h1
  | int i =>
    have h1 : Post C B W (RO C) g1 e σ H1 ((((if decide (i.natAbs.log2 < 1920) then M.pure (.str (strI i)) else M.stuck : M D)) >>= fun x => (M.pure (.val x) : M Ow)) S1) Q := h1
    by_cases hz : i.natAbs.log2 < 1920
    · rw [if_pos (decide_eq_true hz)] at h1
      exact .inr ⟨i, r.int, hz, Post.ret (a := Ow.val (.str (strI i))) (S := S1) h1 st1 (.val (.str _))⟩
    · rw [if_neg (by simpa using hz)] at h1; exact False.elim h1
  | _ => exact False.elim h1
/-- the parts -/
inductive Sj (X : Cx) (C : Kx) (B : Bs) (W : WX) : List Expr → List (Env → M Ow) → Prop
  | nil : Sj X C B W [] []
  | cons {p : Expr} {f : Env → M Ow} {ps : List Expr} {fs : List (Env → M Ow)} : Sv X C B W p f → Sj X C B W ps fs → Sj X C B W (p :: ps) (f :: fs)
def partK (r : Str → M Str) (acc : Str) : Ow → M Str
  | .val (.str y) => if (acc ++ y).length ≤ line then r (acc ++ y) else M.stuck
  | _ => M.stuck
def evParts : List (Env → M Ow) → Str → Env → M Str
  | [], acc, _ => M.pure acc
  | f :: fs, acc, e => do
    let w ← f e
    partK (fun a => evParts fs a e) acc w
def evJoined (fs : List (Env → M Ow)) : Env → M Ow := fun e => do
  let x ← evParts fs Str.empty e
  M.pure (.val (.str x))
theorem Sj.pj {ps : List Expr} {fs : List (Env → M Ow)} (h : Sj X C B W ps fs) : PJ X ps (fs.map (tE C B W)) := by
  induction h with
  | nil => exact .nil
  | cons h _ ih => exact .cons h ih
theorem parts_ok : ∀ (fs : List (Env → M Ow)) (acc : Str) (g : G) (e : Env) (S : Store) (σ : St) (H : Hp) (k : Str → M Ow) (Q : VK) (Z : Str → Hp → Prop), StR C B g e S σ H → Post C B W (RO C) g e σ H ((evParts fs acc e >>= k) S) Q →
    (∀ x S1 H1 g1, Frm g H g1 H1 → StR C B g1 e S1 σ H1 → Post C B W (RO C) g1 e σ H1 (k x S1) Q → Z x H1) → tJs (fs.map (tE C B W)) acc σ H Z
  | [], acc, g, e, S, σ, H, k, Q, Z, st, h, hk => hk acc S H g .refl st h
  | f :: fs, acc, g, e, S, σ, H, k, Q, Z, st, h, hk => by
    have h' : Post C B W (RO C) g e σ H ((f e >>= fun w => partK (fun a => evParts fs a e) acc w >>= k) S) Q := by
      have e0 : ((evParts (f :: fs) acc e >>= k) S) = ((f e >>= fun w => partK (fun a => evParts fs a e) acc w >>= k) S) := by
        have e1 : evParts (f :: fs) acc e = (f e >>= fun w => partK (fun a => evParts fs a e) acc w) := by rw [evParts]
        rw [e1, bind_ap, bind_ap, bind_ap]
        cases f e S <;> rfl
      rw [← e0]; exact h
    refine ⟨g, e, S, st, Post.seq h' fun w S1 v1 H1 g1 f1 st1 r1 h1 => ?_⟩
    cases w with
    | val d =>
      cases d with
      | str y =>
        have r := r1.rep
        cases r
        have h1 : Post C B W (RO C) g1 e σ H1 (((if (acc ++ y).length ≤ line then evParts fs (acc ++ y) e else M.stuck) >>= k) S1) Q := h1
        by_cases hz : (acc ++ y).length ≤ line
        · rw [if_pos hz] at h1
          exact ⟨y, rfl, line_le hz, parts_ok fs (acc ++ y) g1 e S1 σ H1 k Q Z st1 h1 fun x S2 H2 g2 f2 st2 h2 => hk x S2 H2 g2 (f1.trans f2) st2 h2⟩
        · rw [if_neg hz] at h1; exact False.elim h1
      | _ => exact False.elim h1
    | _ => exact False.elim h1
theorem sv_joined {p1 p2 : Expr} {ps : List Expr} {fs : List (Env → M Ow)} {pos : Pos} (h : Sj X C B W (p1 :: p2 :: ps) fs) : Sv X C B W (.JoinedStr (p1 :: p2 :: ps) pos) (evJoined fs) :=
  PE.imp (pe_joined h.pj) fun σ H Q ⟨g, e, S, st, h⟩ => parts_ok fs _ g e S σ H _ Q _ st h fun x S1 H1 g1 f1 st1 h1 => h1.ret st1 (.val (.str _))
end
end PV

set_option Elab.async false
set_option linter.all false
set_option maxRecDepth 100000
set_option maxHeartbeats 400000
/-! PV9: what is walked; list comprehensions. -/
namespace PV
open PySem PySem.Spec L2
open PyProof.Rows hiding St

mutual
def D.beq : D → D → Bool
  | .non, .non => true
  | .bl a, .bl b => a == b
  | .int a, .int b => a == b
  | .str a, .str b => a == b
  | .tup a, .tup b => D.beqs a b
  | .lst a, .lst b => D.beqs a b
  | .scr a, .scr b => D.beqs a b
  | .dic ks a, .dic ls b => decide (ks = ls) && D.beqs a b
  | .ins c ns a, .ins e ms b => c == e && ns == ms && D.beqs a b
  | .ref a, .ref b => a == b
  | _, _ => false
def D.beqs : List D → List D → Bool
  | [], [] => true
  | a :: r, b :: s => D.beq a b && D.beqs r s
  | _, _ => false
end
mutual
theorem D.beq_ok : ∀ {a b : D}, D.beq a b = true → a = b
  | .non, .non, _ => rfl
  | .bl a, .bl b, h => by rw [D.beq] at h; rw [beq_iff_eq.mp h]
  | .int a, .int b, h => by rw [D.beq] at h; rw [beq_iff_eq.mp h]
  | .str a, .str b, h => by rw [D.beq] at h; rw [beq_iff_eq.mp h]
  | .tup a, .tup b, h => by rw [D.beq] at h; rw [D.beqs_ok h]
  | .lst a, .lst b, h => by rw [D.beq] at h; rw [D.beqs_ok h]
  | .scr a, .scr b, h => by rw [D.beq] at h; rw [D.beqs_ok h]
  | .dic ks a, .dic ls b, h => by rw [D.beq, Bool.and_eq_true] at h; rw [of_decide_eq_true h.1, D.beqs_ok h.2]
  | .ins c ns a, .ins e ms b, h => by rw [D.beq, Bool.and_eq_true, Bool.and_eq_true] at h; rw [beq_iff_eq.mp h.1.1, beq_iff_eq.mp h.1.2, D.beqs_ok h.2]
  | .ref a, .ref b, h => by rw [D.beq] at h; rw [beq_iff_eq.mp h]
  | .non, .bl _, h | .non, .int _, h | .non, .str _, h | .non, .tup _, h | .non, .lst _, h | .non, .scr _, h | .non, .dic _ _, h | .non, .ins _ _ _, h | .non, .ref _, h => by cases h
  | .bl _, .non, h | .bl _, .int _, h | .bl _, .str _, h | .bl _, .tup _, h | .bl _, .lst _, h | .bl _, .scr _, h | .bl _, .dic _ _, h | .bl _, .ins _ _ _, h | .bl _, .ref _, h => by cases h
  | .int _, .non, h | .int _, .bl _, h | .int _, .str _, h | .int _, .tup _, h | .int _, .lst _, h | .int _, .scr _, h | .int _, .dic _ _, h | .int _, .ins _ _ _, h | .int _, .ref _, h => by cases h
  | .str _, .non, h | .str _, .bl _, h | .str _, .int _, h | .str _, .tup _, h | .str _, .lst _, h | .str _, .scr _, h | .str _, .dic _ _, h | .str _, .ins _ _ _, h | .str _, .ref _, h => by cases h
  | .tup _, .non, h | .tup _, .bl _, h | .tup _, .int _, h | .tup _, .str _, h | .tup _, .lst _, h | .tup _, .scr _, h | .tup _, .dic _ _, h | .tup _, .ins _ _ _, h | .tup _, .ref _, h => by cases h
  | .lst _, .non, h | .lst _, .bl _, h | .lst _, .int _, h | .lst _, .str _, h | .lst _, .tup _, h | .lst _, .scr _, h | .lst _, .dic _ _, h | .lst _, .ins _ _ _, h | .lst _, .ref _, h => by cases h
  | .scr _, .non, h | .scr _, .bl _, h | .scr _, .int _, h | .scr _, .str _, h | .scr _, .tup _, h | .scr _, .lst _, h | .scr _, .dic _ _, h | .scr _, .ins _ _ _, h | .scr _, .ref _, h => by cases h
  | .dic _ _, .non, h | .dic _ _, .bl _, h | .dic _ _, .int _, h | .dic _ _, .str _, h | .dic _ _, .tup _, h | .dic _ _, .lst _, h | .dic _ _, .scr _, h | .dic _ _, .ins _ _ _, h | .dic _ _, .ref _, h => by cases h
  | .ins _ _ _, .non, h | .ins _ _ _, .bl _, h | .ins _ _ _, .int _, h | .ins _ _ _, .str _, h | .ins _ _ _, .tup _, h | .ins _ _ _, .lst _, h | .ins _ _ _, .scr _, h | .ins _ _ _, .dic _ _, h | .ins _ _ _, .ref _, h => by cases h
  | .ref _, .non, h | .ref _, .bl _, h | .ref _, .int _, h | .ref _, .str _, h | .ref _, .tup _, h | .ref _, .lst _, h | .ref _, .scr _, h | .ref _, .dic _ _, h | .ref _, .ins _ _ _, h => by cases h
theorem D.beqs_ok : ∀ {a b : List D}, D.beqs a b = true → a = b
  | [], [], _ => rfl
  | a :: r, b :: s, h => by rw [D.beqs, Bool.and_eq_true] at h; rw [D.beq_ok h.1, D.beqs_ok h.2]
  | [], _ :: _, h => by cases h
  | _ :: _, [], h => by cases h
end
mutual
theorem D.beq_refl : ∀ a : D, D.beq a a = true
  | .non => rfl
  | .bl a => by rw [D.beq]; exact beq_self_eq_true a
  | .int a => by rw [D.beq]; exact beq_self_eq_true a
  | .str a => by rw [D.beq]; exact beq_self_eq_true a
  | .tup a => by rw [D.beq]; exact D.beqs_refl a
  | .lst a => by rw [D.beq]; exact D.beqs_refl a
  | .scr a => by rw [D.beq]; exact D.beqs_refl a
  | .dic ks a => by rw [D.beq, D.beqs_refl a]; simp
  | .ins c ns a => by rw [D.beq, D.beqs_refl a]; simp
  | .ref a => by rw [D.beq]; exact beq_self_eq_true a
theorem D.beqs_refl : ∀ a : List D, D.beqs a a = true
  | [] => rfl
  | a :: r => by rw [D.beqs, D.beq_refl a, D.beqs_refl r]; rfl
end

/-- what is walked: what it yields, whether a shared source is as it was, whether it is a name's own -/
structure Wlk where
  ys : List D
  chk : Store → Bool
  own : Bool
/-- the source is as it was -/
def okSrc (d : D) (ds : List D) (S : Store) : Bool := match d with
  | .ref id => match S[id]? with
    | some (.lst es) => D.beqs es ds
    | _ => false
  | _ => true
section
variable {X : Cx} {C : Kx} {B : Bs} {W : WX} {g g' : G} {e : Env} {S S' : Store} {σ : St} {H H' : Hp}
def WkOk (C : Kx) (B : Bs) (g0 : G) (H0 : Hp) (J : It) (w : Wlk) : Prop := ∀ g e S σ H, (if w.own then Frm g0 H0 g H else g0.Le g) → StR C B g e S σ H → w.chk S = true →
  (∀ (i : Nat) y, w.ys[i]? = some y → J.go i H ∧ ∀ x H', J.yld i H x H' → ∃ g', Frm g H g' H' ∧ StR C B g' e S σ H' ∧ Rep C g' x y) ∧ (∀ i, w.ys.length ≤ i → J.stop i H)
abbrev RW (C : Kx) (B : Bs) : G → Hp → It → Wlk → Prop := fun g H J w => WkOk C B g H J w
def Svi (X : Cx) (C : Kx) (B : Bs) (W : WX) (tg pe : Expr) (f : Env → M Wlk) : Prop := PI X tg pe (tG C B W (RW C B) f)
theorem PI.imp {tg pe : Expr} {t t' : TI} (h : PI X tg pe t) (q : ∀ σ H R, t' σ H R → t σ H R) : PI X tg pe t' := ⟨fun pins s σ H R I hw => h.run pins s σ H R I (q σ H R hw)⟩

/-! ### a list, a tuple -/
theorem pi_seqA {tg l : Expr} {tl : TE} (hl : PE X l tl) : PI X tg l (fun σ H R => tl σ H fun x H1 => ∃ a, x = .ref a ∧ (((∃ xs, SqL X.K H1 a xs) ∧ R (Itl X.K a) H1) ∨ ((∃ xs, SqT X.K H1 a xs) ∧ R (Itt X.K a) H1))) := by
  refine ⟨fun pins s σ H R I h => ?_⟩
  refine thn (hl.run pins s σ H _ I h) fun v s1 ⟨x, H1, I1, r1, q1⟩ => ?_
  obtain ⟨a, e, q⟩ := q1
  subst e
  cases r1
  rcases q with ⟨⟨xs, hq⟩, q⟩ | ⟨⟨xs, hq⟩, q⟩
  · obtain ⟨its, rv, p, hz⟩ := I1.list hq
    refine wpAny_pyIter_list p.isList ?_
    refine ⟨s1.heap.objs.size, [s1.heap.objs.size], _, _, H1, rfl, I1.kept (t' := s1.toks) fun b o e => Heap.get?_push_of_some _ e, turn_list a _, ⟨_, Heap.get?_push_size _ rfl, rfl, rfl⟩, fun b hb => ?_, q⟩
    have e : b = s1.heap.objs.size := by simpa using hb
    subst e
    exact I1.fpOk (Nat.le_refl _) (I1.hok.fresh (Nat.le_refl _))
  · obtain ⟨its, rv, p, hz⟩ := I1.tuple hq
    refine wpAny_pyIter_tuple (show s1.heap.IsTuple a its.toArray from p) ?_
    refine ⟨s1.heap.objs.size, [s1.heap.objs.size], _, _, H1, rfl, I1.kept (t' := s1.toks) fun b o e => Heap.get?_push_of_some _ e, turn_tuple a _, ⟨_, Heap.get?_push_size _ rfl, rfl, rfl⟩, fun b hb => ?_, q⟩
    have e : b = s1.heap.objs.size := by simpa using hb
    subst e
    exact I1.fpOk (Nat.le_refl _) (I1.hok.fresh (Nat.le_refl _))
def srcD (own : Bool) (d : D) : M Wlk := fun S => match seqOf S d with
  | some ds => .ok ⟨ds, okSrc d ds, own⟩ S
  | none => .stuck
def evSrc (a : Env → M Ow) : Env → M Wlk := fun e => do
  let w ← a e
  let d ← M.ofO w.flat
  srcD (!w.isVal) d
/-- a list that is read later -/
theorem lst_later {lk : List Addr} {a : Addr} {d : D} {ds : List D} (st : Sim C lk g S H) (r : RepF C g H (.ref a) d) (h : lstOf S d = some ds) : ∃ vs, SqL C.K H a vs ∧ Reps C g vs ds := by
  obtain ⟨a', vs, e, q1, q2⟩ := st.lstq r h
  cases e
  exact ⟨vs, q1, q2⟩
theorem wk_list {a : Addr} {d : D} {ds : List D} {own : Bool} (r : RepF C g H (.ref a) d) (ho : own = false → Rep C g (.ref a) d) (h : lstOf S d = some ds) : WkOk C B g H (Itl C.K a) ⟨ds, okSrc d ds, own⟩ := by
  intro g1 e1 S1 σ1 H1 hf st hc
  have r1 : RepF C g1 H1 (.ref a) d := by
    cases own with
    | false => exact .rep ((ho rfl).mono hf)
    | true => exact r.mono hf
  have h1 : lstOf S1 d = some ds := by
    cases d with
    | lst es => exact h
    | scr es => exact h
    | ref id =>
      have hc' : (match S1[id]? with | some (.lst es) => D.beqs es ds | _ => false) = true := hc
      show (match S1[id]? with | some (.lst ds) => some ds | _ => none) = some ds
      cases q : S1[id]? with
      | none => rw [q] at hc'; cases hc'
      | some m =>
        cases m with
        | lst es => rw [q] at hc'; rw [D.beqs_ok hc']
        | _ => rw [q] at hc'; cases hc'
    | _ => cases h
  obtain ⟨vs, hl, rs⟩ := lst_later st.toSim r1 h1
  refine ⟨fun i y hy => ?_, fun i hi => ⟨vs, hl, by rw [rs.length]; exact hi⟩⟩
  obtain ⟨v, hv, rv⟩ := rs.get hy
  refine ⟨⟨vs, v, hl, hv⟩, fun x H' ⟨e2, hx⟩ => ?_⟩
  subst e2
  have := hx vs hl
  rw [hv] at this
  cases this
  exact ⟨g1, .refl, st, rv⟩
theorem wk_tup {a : Addr} {ds : List D} (r : Rep C g (.ref a) (.tup ds)) : WkOk C B g H (Itt C.K a) ⟨ds, okSrc (.tup ds) ds, false⟩ := by
  intro g1 e1 S1 σ1 H1 hf st hc
  have r1 := r.mono (show g.Le g1 from hf)
  cases r1 with
  | @tup a vs ds t1 rs =>
    have hl := st.toSim.sqT t1
    refine ⟨fun i y hy => ?_, fun i hi => ⟨vs, hl, by rw [rs.length]; exact hi⟩⟩
    obtain ⟨v, hv, rv⟩ := rs.get hy
    refine ⟨⟨vs, v, hl, hv⟩, fun x H' ⟨e2, hx⟩ => ?_⟩
    subst e2
    have := hx vs hl
    rw [hv] at this
    cases this
    exact ⟨g1, .refl, st, rv⟩
theorem flat_own {w : Ow} {v : V} {d : D} (r : RepO C g H v w) (h : w.flat = some d) : (!w.isVal) = false → Rep C g v d := fun hv => by
  cases w with
  | val d' => cases h; exact r.rep
  | _ => cases hv
theorem svi_seq {tg pl : Expr} {a : Env → M Ow} (hK : X.K = C.K) (ha : Sv X C B W pl a) : Svi X C B W tg pl (evSrc a) := PI.imp (pi_seqA ha) fun σ H R ⟨g, e, S, st, h⟩ => by
  refine ⟨g, e, S, st, Post.seq h fun w S1 v1 H1 g1 f1 st1 r1 h1 => ?_⟩
  obtain ⟨d, e1, h1⟩ := post_ofO h1
  have rf := r1.flat e1
  have ro := flat_own r1 e1
  unfold srcD at h1
  cases hs : seqOf S1 d with
  | none => rw [hs] at h1; exact False.elim h1
  | some ds =>
    rw [hs] at h1
    have viaL : lstOf S1 d = some ds → ∃ a, v1 = .ref a ∧ (((∃ xs, SqL X.K H1 a xs) ∧ R (Itl X.K a) H1) ∨ ((∃ xs, SqT X.K H1 a xs) ∧ R (Itt X.K a) H1)) := fun hl => by
      obtain ⟨a', vs, rfl, q1, q2⟩ := st1.toSim.lstq rf hl
      refine ⟨a', rfl, .inl ⟨⟨vs, by rw [hK]; exact q1⟩, ?_⟩⟩
      rw [hK]
      exact h1.ret st1 (wk_list rf ro hl)
    cases d with
    | tup ts =>
      cases hs
      cases rf with
      | rep r =>
        have hw : w = .val (.tup ds) := by
          cases w with
          | val d' => cases e1; rfl
          | lst ws =>
            have e1' : (if ws.all Ow.isVal then some (D.lst (Ow.snaps ws)) else none) = some (D.tup ds) := e1
            split at e1' <;> cases e1'
          | dic ks ds => cases e1
          | ins c ns ds => cases e1
        subst hw
        cases r with
        | @tup a' vs ds t1 q1 =>
          refine ⟨a', rfl, .inr ⟨⟨vs, by rw [hK]; exact st1.toSim.sqT t1⟩, ?_⟩⟩
          rw [hK]
          exact h1.ret st1 (wk_tup (.tup t1 q1))
    | lst ts => exact viaL hs
    | scr ts => exact viaL hs
    | ref id => exact viaL hs
    | _ => cases hs

/-! ### range -/
def rangeD (lo hi : Int) : List D := (List.range (hi - lo).toNat).map fun (i : Nat) => .int (lo + i)
def okRg (lo hi : Int) : Bool := decide (-(1000000 : Int) ≤ lo) && decide (lo ≤ 1000000) && decide (-(1000000 : Int) ≤ hi) && decide (hi ≤ 1000000)
def rng1D : List D → M Wlk
  | [.int hi] => if okRg 0 hi then M.pure ⟨rangeD 0 hi, fun _ => true, false⟩ else M.stuck
  | _ => M.stuck
def rng2D : List D → M Wlk
  | [.int lo, .int hi] => if okRg lo hi then M.pure ⟨rangeD lo hi, fun _ => true, false⟩ else M.stuck
  | _ => M.stuck
def evRng (two : Bool) (a : Env → M (List Ow)) : Env → M Wlk := fun e => do
  let ws ← a e
  let ds ← M.ofO (flats ws)
  if two then rng2D ds else rng1D ds
theorem wk_rng {lo hi : Int} : WkOk C B g H (Itr lo (hi - lo).toNat) ⟨rangeD lo hi, fun _ => true, false⟩ := by
  intro g1 e1 S1 σ1 H1 hf st hc
  refine ⟨fun i y hy => ?_, fun i hi' => by show _ ≤ i; simpa [rangeD] using hi'⟩
  have hy' : ((List.range (hi - lo).toNat).map fun (i : Nat) => D.int (lo + i))[i]? = some y := hy
  rw [List.getElem?_map] at hy'
  have hi' : i < (hi - lo).toNat := by
    cases q : (List.range (hi - lo).toNat)[i]? with
    | none => rw [q] at hy'; cases hy'
    | some j => simpa using (List.getElem?_eq_some_iff.mp q).1
  rw [List.getElem?_range hi'] at hy'
  cases hy'
  refine ⟨hi', fun x H' ⟨e2, hx⟩ => ?_⟩
  subst e2
  subst hx
  exact ⟨g1, .refl, st, .int _⟩
theorem svi_rng1 {tg pa : Expr} {p pos : Pos} {a : Env → M (List Ow)} (hg : Gl X "range") (hm : X.mg "range" = none) (ha : Sas X C B W [pa] a) (hs : noStars [pa] = true) : Svi X C B W tg (.Call (.Name "range" p) [pa] [] pos) (evRng false a) :=
  PI.imp (pi_range1 hg hm ha (starEach_free hs)) fun σ H R ⟨g, e, S, st, h⟩ => by
    refine ⟨g, e, S, st, Post.seq h fun ws S1 vs H1 g1 f1 st1 r1 h1 => ?_⟩
    obtain ⟨ds, e1, h1⟩ := post_ofO h1
    have rf := flats_ok r1 e1
    have h1 : Post C B W (RW C B) g1 e σ H1 (rng1D ds S1) R := h1
    unfold rng1D at h1
    split at h1
    · rename_i hi _
      split at h1
      · rename_i hc
        unfold okRg at hc
        simp only [Bool.and_eq_true, decide_eq_true_eq] at hc
        obtain ⟨v, rfl, z1⟩ := pf1 rf
        have := h1.ret (v := Itr 0 (hi - 0).toNat) st1 wk_rng
        rw [Int.sub_zero] at this
        exact ⟨hi, by rw [z1.int], by omega, by omega, this⟩
      · exact False.elim h1
    · exact False.elim h1
theorem svi_rng2 {tg pa pb : Expr} {p pos : Pos} {a : Env → M (List Ow)} (hg : Gl X "range") (hm : X.mg "range" = none) (ha : Sas X C B W [pa, pb] a) (hs : noStars [pa, pb] = true) (hs2 : noStars [pb] = true) : Svi X C B W tg (.Call (.Name "range" p) [pa, pb] [] pos) (evRng true a) :=
  PI.imp (pi_range2 hg hm ha (starEach_free hs) (starEach_free hs2)) fun σ H R ⟨g, e, S, st, h⟩ => by
    refine ⟨g, e, S, st, Post.seq h fun ws S1 vs H1 g1 f1 st1 r1 h1 => ?_⟩
    obtain ⟨ds, e1, h1⟩ := post_ofO h1
    have rf := flats_ok r1 e1
    have h1 : Post C B W (RW C B) g1 e σ H1 (rng2D ds S1) R := h1
    unfold rng2D at h1
    split at h1
    · rename_i lo hi _
      split at h1
      · rename_i hc
        unfold okRg at hc
        simp only [Bool.and_eq_true, decide_eq_true_eq] at hc
        obtain ⟨v, v', rfl, z1, z2⟩ := pf2 rf
        exact ⟨lo, hi, by rw [z1.int, z2.int], ⟨by omega, by omega, by omega, by omega⟩, h1.ret st1 wk_rng⟩
      · exact False.elim h1
    · exact False.elim h1

/-! ### what changes in the names -/
theorem own_set {F : List (List Addr)} {i : Nat} {fp : List Addr} : ∀ a ∈ (F.set i []).flatten, a ∈ F.flatten := by
  intro a ha
  obtain ⟨fp, h1, h2⟩ := List.mem_flatten.mp ha
  rcases List.mem_or_eq_of_mem_set h1 with h | h
  · exact List.mem_flatten.mpr ⟨fp, h, h2⟩
  · subst h; cases h2
theorem nodup_set {F : List (List Addr)} {i : Nat} (h : F.flatten.Nodup) : (F.set i []).flatten.Nodup := by
  induction F generalizing i with
  | nil => exact h
  | cons fp r ih =>
    rw [List.flatten_cons, List.nodup_append] at h
    cases i with
    | zero => rw [List.set_cons_zero, List.flatten_cons, List.nil_append]; exact h.2.1
    | succ i =>
      rw [List.set_cons_succ, List.flatten_cons, List.nodup_append]
      exact ⟨h.1, ih h.2.1, fun a ha b hb => h.2.2 a ha b (own_set (fp := fp) b hb)⟩
/-- a slot takes a value, or is forgotten -/
theorem StR.put (s : StR C B g e S σ H) {i : Nat} {w : Option D} {v : Option V} (r : ∀ d, w = some d → ∃ x, v = some x ∧ Rep C g x d) : StR C B g (e.set i (w.map Ow.val)) S (σ.set i v) H := by
  obtain ⟨F, f1, f2, f3, f4⟩ := s.ow
  refine ⟨s.toSim, s.le, s.nfz, s.mn, s.fr, by rw [List.length_set, List.length_set]; exact s.len, ⟨F.set i [], by rw [List.length_set, List.length_set]; exact f1, fun j u fp h1 h2 => ?_, nodup_set f3, fun a ha => f4 a (own_set (fp := []) a ha)⟩, ?_⟩
  rotate_left
  · intro x r hx ⟨c, ns, ds, hq⟩
    by_cases h0 : i = 0
    · subst h0
      exfalso
      cases e with
      | nil => simp at hq
      | cons u r =>
        simp at hq
    · rw [List.getElem?_set_ne h0] at hq ⊢
      exact s.sl x r hx ⟨c, ns, ds, hq⟩
  by_cases hj : i = j
  · subst hj
    have hl : i < e.length := by
      have := (List.getElem?_eq_some_iff.mp h1).1
      rw [List.length_set] at this; exact this
    rw [List.getElem?_set_self hl] at h1
    rw [List.getElem?_set_self (by rw [f1]; exact hl)] at h2
    cases h1
    cases h2
    rw [List.getElem?_set_self (by rw [← s.len]; exact hl)]
    cases w with
    | none => rfl
    | some d =>
      obtain ⟨x, e1, r1⟩ := r d rfl
      exact ⟨x, e1, .val r1⟩
  · rw [List.getElem?_set_ne hj] at h1 h2
    rw [List.getElem?_set_ne hj]
    exact f2 j u fp h1 h2
def wipeE (e : Env) : List Nat → Env
  | [] => e
  | i :: r => (wipeE e r).set i none
theorem StR.wipe (s : StR C B g e S σ H) : ∀ is : List Nat, StR C B g (wipeE e is) S (wipe σ is) H
  | [] => s
  | i :: r => (StR.wipe s r).put (w := none) fun d h => by cases h

/-! ### targets -/
def Sg (X : Cx) (C : Kx) (B : Bs) (tg : Expr) (own : List Nat) (f : D → Env → Option Env) : Prop :=
  PG X tg fun v σ H Q => ∃ g e S d e', StR C B g e S σ H ∧ Rep C g v d ∧ f d e = some e' ∧ ∀ σ', StR C B g e' S σ' H → wipe σ' own = wipe σ own → Q σ' H
theorem PG.imp {tg : Expr} {t t' : TG} (h : PG X tg t) (q : ∀ v σ H Q, t' v σ H Q → t v σ H Q) : PG X tg t' := ⟨fun pins s σ H v u Q I r hw => h.run pins s σ H v u Q I r (q v σ H Q hw)⟩
def tgName (i : Nat) : D → Env → Option Env := fun d e => some (e.set i (some (.val d)))
theorem wipe_len {σ : St} : ∀ is : List Nat, (wipe σ is).length = σ.length
  | [] => rfl
  | i :: r => by rw [L2.wipe, List.length_set, wipe_len r]
theorem wipe_set {σ : St} {i : Nat} {v : Option V} : ∀ {is : List Nat}, i ∈ is → wipe (σ.set i v) is = wipe σ is
  | [], h => by cases h
  | j :: r, h => by
    show (wipe (σ.set i v) r).set j none = (wipe σ r).set j none
    by_cases hj : i = j
    · subst hj
      by_cases hr : i ∈ r
      · rw [wipe_set hr]
      · have : ∀ (is : List Nat), i ∉ is → wipe (σ.set i v) is = (wipe σ is).set i v := by
          intro is
          induction is with
          | nil => intro _; rfl
          | cons k r ih =>
            intro hk
            rw [List.mem_cons, not_or] at hk
            show (wipe (σ.set i v) r).set k none = ((wipe σ r).set k none).set i v
            rw [ih hk.2, List.set_comm _ _ hk.1]
        rw [this r hr, List.set_set]
    · have hr : i ∈ r := by
        rcases List.mem_cons.mp h with q | q
        · exact absurd q hj
        · exact q
      rw [wipe_set hr]
theorem sg_name {x : Str} {i : Nat} {own : List Nat} {pos : Pos} (hN : X.N.Nodup) (hi : X.N[i]? = some x) (hx : Loc X.env.scope x) (hf : X.fn x = true ∨ X.env.scope.names.lookup x = some .local) (ho : i ∈ own) : Sg X C B (.Name x pos) own (tgName i) :=
  PG.imp (pg_name hN hi hx hf) fun v σ H Q ⟨g, e, S, d, e', st, r, hf, h⟩ => by
    cases hf
    exact h _ (st.put (w := some d) fun d' e' => by cases e'; exact ⟨v, rfl, r⟩) (wipe_set ho)
inductive Sgs (X : Cx) (C : Kx) (B : Bs) : List Expr → List Nat → List (D → Env → Option Env) → Prop
  | nil {own : List Nat} : Sgs X C B [] own []
  | cons {t : Expr} {ts : List Expr} {own : List Nat} {f : D → Env → Option Env} {fs : List (D → Env → Option Env)} : Sg X C B t own f → Sgs X C B ts own fs → noStars [t] = true → Sgs X C B (t :: ts) own (f :: fs)
def tgAll : List (D → Env → Option Env) → List D → Env → Option Env
  | [], [], e => some e
  | f :: fs, d :: ds, e => (f d e).bind (tgAll fs ds)
  | _, _, _ => none
theorem assignEach_cons {env : PySem.Env} {t : Expr} {ts : List Expr} (h : noStars [t] = true) : assignEach (t :: ts) env = (false, assign t env) :: assignEach ts env := by
  cases t <;> first | rfl | cases h
theorem sgs_run {ts : List Expr} {own : List Nat} {fs : List (D → Env → Option Env)} (h : Sgs X C B ts own fs) : PGs X ts (fun vs σ H Q => ∃ g e S ds e', StR C B g e S σ H ∧ Reps C g vs ds ∧ tgAll fs ds e = some e' ∧ ∀ σ', StR C B g e' S σ' H → wipe σ' own = wipe σ own → Q σ' H) := by
  induction h with
  | nil => exact ⟨fun pins s σ H vs us Q I r ⟨g, e, S, ds, e', st, rs, hf, h⟩ => by
      cases rs with
      | nil =>
        cases hf
        exact pgs_nil.run pins s σ H [] us Q I r ⟨rfl, h σ st rfl⟩
      | cons _ _ => cases hf⟩
  | @cons t ts own f fs ht hts hn ih => exact ⟨fun pins s σ H vs us Q I r ⟨g, e, S, ds, e', st, rs, hf, h⟩ => by
      cases rs with
      | nil => cases hf
      | @cons v d vs ds r1 r2 =>
        have hf' : (f d e).bind (tgAll fs ds) = some e' := hf
        cases q : f d e with
        | none => rw [q] at hf'; cases hf'
        | some e1 =>
          rw [q] at hf'
          exact (pgs_cons ht ih (by rw [assignEach_cons hn]; rfl)).run pins s σ H _ us Q I r ⟨v, vs, rfl, g, e, S, d, e1, st, r1, q, fun σ1 st1 w1 => ⟨g, e1, S, ds, e', st1, r2, hf', fun σ2 st2 w2 => h σ2 st2 (w2.trans w1)⟩⟩⟩
/-! #### from a list, too -/
theorem draw_listA {prog : Program} {w : World} {A : Around} {E : Value → Shared → Prop} {it t : Addr} {items : Array Value} (hne : t ≠ it) : ∀ (n i : Nat) (s : Shared) (Q : List Value → Shared → Prop), s.heap.IsListIter it t i → s.heap.IsList t items → i + n ≤ items.size →
    (∀ h' : Heap, h'.IsListIter it t (i + n) → Heap.SameBut it s.heap h' → Q ((items.toList.drop i).take n) { s with heap := h' }) → wpAny (model prog w) A (draw (.ref it) n) Q E s
  | 0, i, s, Q, hit, _, _, hQ => by
    show wpAny _ _ (pure []) Q E s
    exact wpAny_pure (by simpa using hQ s.heap hit (Heap.SameBut.refl ..))
  | n + 1, i, s, Q, hit, ht, hle, hQ => by
    have hlt : i < items.size := by omega
    show wpAny _ _ (pyNext (.ref it) >>= _) Q E s
    refine wpAny_bind (wpAny_pyNext_list_item hit ht (x := items[i]) (by simp [hlt]) fun h₁ hit₁ hs₁ => ?_)
    refine wpAny_bind (wpAny_holding (draw_listA hne n (i + 1) _ _ hit₁ (ht.extBut hs₁.extBut hne) (by omega) fun h₂ hit₂ hs₂ => wpAny_pure ?_))
    have hd : items.toList.drop i = items[i] :: items.toList.drop (i + 1) := by simp [List.drop_eq_getElem_cons, hlt]
    have := hQ h₂ (by rw [show i + (n + 1) = i + 1 + n by omega]; exact hit₂) (hs₁.trans hs₂)
    rw [hd, List.take_succ_cons] at this
    exact this
theorem unpackItems_listA {prog : Program} {w : World} {A : Around} {E : Value → Shared → Prop} {s : Shared} {t : Addr} {items : Array Value} {Q : List Value → Shared → Prop} (hh : A.handled = none) (ht : s.heap.IsList t items)
    (hQ : ∀ h' : Heap, Heap.ExtBut s.heap.objs.size s.heap h' → Q items.toList { s with heap := h' }) : wpAny (model prog w) A (unpackItems (.ref t) items.size none) Q E s := by
  have hlt : t ≠ s.heap.objs.size := by obtain ⟨o, ho, _⟩ := ht; exact Nat.ne_of_lt (Heap.lt_size ho)
  unfold unpackItems
  refine wpAny_bind ?_
  · unfold notIterableAtAll
    refine wpAny_bind (wpAny_specialOf ht.typeIs slot_list_iter.lookup ?_)
    refine wpAny_pure ?_
    simp only [Bool.false_eq_true, if_false]
    refine wpAny_bind (wpAny_holding (wpAny_pyIter_list ht ?_))
    refine wpAny_bind (wpAny_holding (draw_listA hlt items.size 0 _ _ ⟨_, Heap.get?_push_size _ rfl, rfl, rfl⟩ (ht.push _) (by omega) fun h₁ hit₁ hs₁ => ?_))
    have hall : List.take items.size (List.drop 0 items.toList) = items.toList := by
      rw [List.drop_zero]; exact List.take_of_length_le (by simp)
    rw [hall]
    rw [if_neg (by simp)]
    have ht₁ : h₁.IsList t items := (ht.push _).extBut hs₁.extBut hlt
    refine wpAny_bind (wpAny_holding (wpAny_pyNext_list_end hh hit₁ ht₁ (by simp) fun h₂ he₂ => ?_))
    simp only [Option.isSome_none, Bool.false_eq_true, if_false]
    refine wpAny_pure (hQ h₂ fun b o hb e => he₂ b o hb (hs₁.extBut b o hb (Heap.get?_push_of_some _ e)))
theorem pg_lstA {es : List Expr} {k : Nat} {pos : Pos} {t : TGs} {n : Nat} (hc : X.calm = true) (h : PGs X es t)
    (hn : (assignEach es X.env).length = n) (hst : (assignEach es X.env).findIdx? (·.1) = none) : PG X (.Tuple es k pos) (fun v σ H Q => ∃ a xs, v = .ref a ∧ SqL X.K H a xs ∧ xs.length = n ∧ t xs σ H Q) := by
  refine ⟨fun pins s σ H v u Q I r hw => ?_⟩
  obtain ⟨a, xs, e1, hq, hl, hw⟩ := hw
  subst e1
  cases r
  obtain ⟨its, rv, ht, hz⟩ := I.list hq
  have hsz : (assignEach es X.env).length = its.toArray.size := by simp [hn, ← hl, rv.length]
  rw [assign_Tuple]
  refine wpAny_bind (wpAny_standAt ?_)
  unfold unpack
  rw [hsz, hst]
  refine wpAny_bind (wpAny_holding (unpackItems_listA (I.ok.hd hc) ht.isList fun h' hx => ?_))
  have I1 : Inv X pins σ H { s with heap := h' } := I.kept (t' := s.toks) fun b o e => hx b o (Nat.ne_of_lt (Heap.lt_size e)) e
  exact h.run pins _ σ H xs _ Q I1 (by simpa using rv) hw
def tgTup (fs : List (D → Env → Option Env)) : D → Env → Option Env := fun d e => match d with
  | .tup ds => tgAll fs ds e
  | .lst ds => tgAll fs ds e
  | _ => none
theorem tgAll_len : ∀ {fs : List (D → Env → Option Env)} {ds : List D} {e e' : Env}, tgAll fs ds e = some e' → ds.length = fs.length
  | [], [], _, _, _ => rfl
  | [], _ :: _, _, _, h => by cases h
  | _ :: _, [], _, _, h => by cases h
  | f :: fs, d :: ds, e, e', h => by
    have h' : (f d e).bind (tgAll fs ds) = some e' := h
    cases q : f d e with
    | none => rw [q] at h'; cases h'
    | some e1 => rw [q] at h'; simp [tgAll_len h']
theorem assignEach_len {env : PySem.Env} : ∀ {ts : List Expr}, noStars ts = true → (assignEach ts env).length = ts.length ∧ (assignEach ts env).findIdx? (·.1) = none
  | [], _ => ⟨rfl, rfl⟩
  | t :: ts, h => by
    unfold noStars at h
    rw [List.all_cons, Bool.and_eq_true] at h
    have h1 : noStars [t] = true := by unfold noStars; rw [List.all_cons, h.1]; rfl
    have ih := assignEach_len (ts := ts) (env := env) h.2
    rw [assignEach_cons h1]
    exact ⟨by simp [ih.1], by rw [List.findIdx?_cons]; simp [ih.2]⟩
theorem sg_tup {ts : List Expr} {k : Nat} {pos : Pos} {own : List Nat} {fs : List (D → Env → Option Env)} (hK : X.K = C.K) (hc : X.calm = true) (h : Sgs X C B ts own fs) (hn : noStars ts = true) (hl : ts.length = fs.length) : Sg X C B (.Tuple ts k pos) own (tgTup fs) :=
  ⟨fun pins s σ H v u Q I rv ⟨g, e, S, d, e', st, r, hf, h0⟩ => by
    cases d with
    | tup ds =>
      have hf' : tgAll fs ds e = some e' := hf
      cases r with
      | @tup a vs ds t1 rs =>
        exact (pg_tup (n := ts.length) hc (sgs_run h) (assignEach_len hn).1 (assignEach_len hn).2).run pins s σ H _ u Q I rv ⟨a, vs, rfl, by rw [hK]; exact st.toSim.sqT t1, by rw [rs.length, tgAll_len hf', hl], g, e, S, ds, e', st, rs, hf', h0⟩
    | lst ds =>
      have hf' : tgAll fs ds e = some e' := hf
      cases r with
      | @lst a vs ds t1 rs =>
        exact (pg_lstA (n := ts.length) hc (sgs_run h) (assignEach_len hn).1 (assignEach_len hn).2).run pins s σ H _ u Q I rv ⟨a, vs, rfl, .inl (st.toSim.rdL t1), by rw [rs.length, tgAll_len hf', hl], g, e, S, ds, e', st, rs, hf', h0⟩
    | _ => cases hf⟩
end
end PV

set_option Elab.async false
set_option linter.all false
set_option maxRecDepth 100000
set_option maxHeartbeats 400000
/-! PV10: list comprehensions. -/
namespace PV
open PySem PySem.Spec L2
open PyProof.Rows hiding St

def noX {α : Type} (m : M α) : M α := fun S => match m S with
  | .ok a S' => .ok a S'
  | _ => .stuck
def chkS (c : Store → Bool) : M Unit := fun S => if c S then .ok () S else .stuck
def compL (chk : Store → Bool) (tg : D → Env → Option Env) (cond : Env → M Bool) (elt : Env → M Ow) (e0 : Env) : List D → M (List D)
  | [] => do
    chkS chk
    M.pure []
  | y :: ys => do
    chkS chk
    let e1 ← M.ofO (tg y e0)
    let b ← noX (cond e1)
    if b then do
      let w ← noX (elt e1)
      let d ← w.strict
      let r ← compL chk tg cond elt e0 ys
      M.pure (d :: r)
    else compL chk tg cond elt e0 ys
def evComp (f : Env → M Wlk) (tg : D → Env → Option Env) (cond : Env → M Bool) (elt : Env → M Ow) (own : List Nat) : Env → M Ow := fun e => do
  let w ← f e
  guardM (decide (w.ys.length ≤ line))
  let ds ← noX (compL w.chk tg cond elt (wipeE e own) w.ys)
  M.pure (.val (.lst ds))

/-- an outcome that is right -/
theorem bind_ok {α β : Type} {m : M α} {f : α → M β} {S S' : Store} {b : β} (h : (m >>= f) S = .ok b S') : ∃ a S1, m S = .ok a S1 ∧ f a S1 = .ok b S' := by
  rw [bind_ap] at h
  cases q : m S with
  | ok a S1 => rw [q] at h; exact ⟨a, S1, rfl, h⟩
  | exc c ns ds S1 => rw [q] at h; cases h
  | stuck => rw [q] at h; cases h
theorem noX_ok {α : Type} {m : M α} {S S' : Store} {a : α} (h : noX m S = .ok a S') : m S = .ok a S' := by
  unfold noX at h
  cases q : m S with
  | ok a S1 => rw [q] at h; exact h
  | exc c ns ds S1 => rw [q] at h; cases h
  | stuck => rw [q] at h; cases h
theorem chk_ok {c : Store → Bool} {S S' : Store} {a : Unit} (h : chkS c S = .ok a S') : c S = true ∧ S' = S := by
  unfold chkS at h
  by_cases q : c S = true
  · rw [if_pos q] at h; cases h; exact ⟨q, rfl⟩
  · rw [if_neg q] at h; cases h
theorem ofO_ok {α : Type} {o : Option α} {S S' : Store} {a : α} (h : M.ofO o S = .ok a S') : o = some a ∧ S' = S := by
  cases o with
  | none => cases h
  | some b => cases h; exact ⟨rfl, rfl⟩
theorem guard_ok {b : Bool} {S S' : Store} {a : Unit} (h : guardM b S = .ok a S') : b = true ∧ S' = S := by
  cases b with
  | false => cases h
  | true => cases h; exact ⟨rfl, rfl⟩
theorem strict_ok {w : Ow} {S S' : Store} {d : D} (h : w.strict S = .ok d S') : w = .val d ∧ S' = S := by
  cases w with
  | val d' => cases h; exact ⟨rfl, rfl⟩
  | _ => cases h

abbrev Wf : WX := fun _ _ _ _ => False
section
variable {X : Cx} {C : Kx} {B : Bs} {W : WX} {g g' : G} {e : Env} {S S' : Store} {σ : St} {H H' : Hp}
/-- a thing that nothing knows of is changed -/
theorem Sim.poke {lk : List Addr} (m : Sim C lk g S H) {x : Addr} {o : HO} (n1 : g.Φ x = none) (n2 : x ∉ g.μ) : Sim C lk g S (upd H x o) := by
  have nl : ∀ a, (∃ u, g.Φ a = some u) → a ≠ x := fun a ⟨u, h⟩ q => by rw [q, n1] at h; cases h
  refine ⟨fun a u h => ?_, m.lkf, m.shl, fun i a mo h1 h2 => ?_, m.mf, m.md⟩
  · have := m.fz a u h
    unfold As at this ⊢
    rw [upd_ne (nl a ⟨u, h⟩)]; exact this
  · have ha : a ≠ x := fun q => n2 (by rw [← q]; exact List.mem_of_getElem? h1)
    have z := m.sh i a mo h1 h2
    cases mo with
    | lst ds => obtain ⟨vs, q, r⟩ := z; exact ⟨vs, by rw [upd_ne ha]; exact q, r⟩
    | dic ks ds => obtain ⟨vs, q, k, r⟩ := z; exact ⟨vs, by rw [upd_ne ha]; exact q, k, r⟩
    | ins c ns ds => obtain ⟨dx, vs, q, k, r⟩ := z; exact ⟨dx, vs, by rw [upd_ne ha]; exact q, k, r⟩
theorem Frm.poke (f : Frm g H g' H') {x : Addr} {o : HO} (hx : H x = none) : Frm g H g' (upd H' x o) :=
  ⟨f.le, fun a u h hn => by rw [upd_ne (ne_of_none h hx)]; exact f.kp a u h hn, f.nw, f.nf⟩

/-- the loop of a comprehension -/
theorem lc_run {J : It} {w : Wlk} {tg : D → Env → Option Env} {cond : Env → M Bool} {elt : Env → M Ow} {own : List Nat} {dsAll : List D} {Sf : Store} {Qd : Addr → Hp → Prop}
    (st : StR C B g e S σ H) (wk : WkOk C B g H J w) (hl : w.ys.length ≤ line) (eq : compL w.chk tg cond elt (wipeE e own) w.ys S = .ok dsAll Sf)
    (fin : ∀ (L : Addr) g' H' vs, H L = none → Frm g H g' H' → Sim C B.lks g' Sf H' → H' L = some (.lst vs) → Reps C g' vs dsAll → g'.Φ L = none → L ∉ g'.μ → Qd L H') :
    ∀ L, H L = none → ∃ W : Nat → Nat → Hp → Prop, (∃ m, W 0 m (upd H L (.lst []))) ∧ ∀ i m H, W i m H →
      (J.stop i H ∧ Qd L H) ∨ (J.go i H ∧ ∃ Nx : Hp → Prop, (∀ H', Nx H' → ∃ m', m' < m ∧ W (i + 1) m' H') ∧ ∀ x H', J.yld i H x H' →
        (fun v σ H Q => ∃ g e S d e', StR C B g e S σ H ∧ Rep C g v d ∧ tg d e = some e' ∧ ∀ σ', StR C B g e' S σ' H → wipe σ' own = wipe σ own → Q σ' H) x (wipe σ own) H' fun σ2 H2 => wipe σ2 own = wipe σ own ∧ tT C B Wf cond σ2 H2 fun b H3 =>
          if b = true then tE C B Wf elt σ2 H3 fun y H4 => ∃ acc, H4 L = some (.lst acc) ∧ acc.length < sizeLine ∧ Nx (upd H4 L (.lst (acc ++ [y]))) else Nx H3) := by
  intro L hL
  obtain ⟨z1, z2, z3⟩ := st.toSim.new hL
  let Inv0 : Nat → Hp → Prop := fun i H1 => i ≤ w.ys.length ∧ ∃ g1 S1 vs acc r, Frm g H g1 H1 ∧ Sim C B.lks g1 S1 H1 ∧ H1 L = some (.lst vs) ∧ Reps C g1 vs acc ∧ g1.Φ L = none ∧ L ∉ g1.μ ∧ acc.length ≤ i ∧
    compL w.chk tg cond elt (wipeE e own) (w.ys.drop i) S1 = .ok r Sf ∧ acc ++ r = dsAll
  refine ⟨fun i m H1 => m = w.ys.length - i ∧ Inv0 i H1, ⟨_, rfl, Nat.zero_le _, g, S, [], [], dsAll, Frm.refl.poke hL, st.toSim.poke z1 z3, upd_same, .nil, z1, z3, Nat.le_refl _, by rw [List.drop_zero]; exact eq, rfl⟩, ?_⟩
  rintro i m H1 ⟨rfl, hi, g1, S1, vs, acc, r, f1, m1, hL1, rs, n1, n2, hacc, eq1, eacc⟩
  have st1 : StR C B g1 e S1 σ H1 := st.call f1 m1
  have hcond : (if w.own then Frm g H g1 H1 else g.Le g1) := by
    split
    · exact f1
    · exact f1.le
  by_cases hlt : i < w.ys.length
  · refine .inr ?_
    have hy : w.ys[i]? = some w.ys[i] := List.getElem?_eq_getElem hlt
    have ed : w.ys.drop i = w.ys[i] :: w.ys.drop (i + 1) := List.drop_eq_getElem_cons hlt
    rw [ed] at eq1
    unfold compL at eq1
    obtain ⟨_, S2, c1, eq2⟩ := bind_ok eq1
    obtain ⟨hc, z0⟩ := chk_ok c1
    subst z0
    obtain ⟨e1, S3, c2, eq3⟩ := bind_ok eq2
    obtain ⟨he1, z0⟩ := ofO_ok c2
    subst z0
    obtain ⟨b, S4, c3, eq4⟩ := bind_ok eq3
    have c3 := noX_ok c3
    obtain ⟨go, yl⟩ := (wk g1 e S3 σ H1 hcond st1 hc).1 i _ hy
    refine ⟨go, Inv0 (i + 1), fun H' q => ⟨_, by omega, rfl, q⟩, fun x H' hyl => ?_⟩
    obtain ⟨g2, f2, st2, r2⟩ := yl x H' hyl
    refine ⟨g2, wipeE e own, S3, w.ys[i], e1, st2.wipe own, r2, he1, fun σ2 st3 hw => ⟨?_, ?_⟩⟩
    · have idem : wipe (wipe σ own) own = wipe σ own := by
        have : ∀ (is js : List Nat) (τ : St), (∀ i ∈ is, i ∈ js) → wipe (wipe τ is) js = wipe τ js := by
          intro is
          induction is with
          | nil => intro js τ _; rfl
          | cons k r ih =>
            intro js τ h
            show wipe ((wipe τ r).set k none) js = _
            rw [wipe_set (h k List.mem_cons_self)]
            exact ih js τ fun i hi => h i (List.mem_cons_of_mem _ hi)
        exact this own own σ fun _ h => h
      rw [hw, idem]
    refine ⟨g2, e1, S3, st3, ?_⟩
    rw [c3]
    intro b' H3 g3 f3 st4 hb
    have hb : b' = b := hb
    subst hb
    have f123 : Frm g H g3 H3 := (f1.trans f2).trans f3
    have hL3 : H3 L = some (.lst vs) := (f2.trans f3).kp L _ hL1 n2
    have apart : g3.Φ L = none ∧ L ∉ g3.μ := by
      refine ⟨?_, fun hm => ?_⟩
      · cases q : g3.Φ L with
        | none => rfl
        | some o =>
          rcases (f2.trans f3).nf L o q with z | z | z
          · rw [n1] at z; cases z
          · rw [hL1] at z; cases z
          · exact absurd z n2
      · rcases (f2.trans f3).nw L hm with z | z
        · exact n2 z
        · rw [hL1] at z; cases z
    cases b' with
    | false =>
      rw [if_neg Bool.false_ne_true] at eq4 ⊢
      exact ⟨hlt, g3, S4, vs, acc, r, f123, st4.toSim, hL3, rs.mono (f2.trans f3).le, apart.1, apart.2, by omega, eq4, eacc⟩
    | true =>
      rw [if_pos rfl] at eq4 ⊢
      obtain ⟨w2, S5, c4, eq5⟩ := bind_ok eq4
      have c4 := noX_ok c4
      obtain ⟨d, S6, c5, eq6⟩ := bind_ok eq5
      obtain ⟨hw2, z0⟩ := strict_ok c5
      subst z0
      obtain ⟨r', S7, c6, eq7⟩ := bind_ok eq6
      cases eq7
      refine ⟨g3, e1, S4, st4, ?_⟩
      rw [c4]
      intro v H4 g4 f4 st5 rv
      subst hw2
      have rv := rv.rep
      have hL4 : H4 L = some (.lst vs) := f4.kp L _ hL3 apart.2
      have apart4 : g4.Φ L = none ∧ L ∉ g4.μ := by
        refine ⟨?_, fun hm => ?_⟩
        · cases q : g4.Φ L with
          | none => rfl
          | some o =>
            rcases f4.nf L o q with z | z | z
            · rw [apart.1] at z; cases z
            · rw [hL3] at z; cases z
            · exact absurd z apart.2
        · rcases f4.nw L hm with z | z
          · exact apart.2 z
          · rw [hL3] at z; cases z
      have rs4 : Reps C g4 vs acc := rs.mono ((f2.trans f3).trans f4).le
      refine ⟨vs, hL4, ?_, ?_⟩
      · have := rs.length
        have h1 := line_le hl
        omega
      · refine ⟨hlt, g4, _, vs ++ [v], acc ++ [d], r', (f123.trans f4).poke hL, st5.toSim.poke apart4.1 apart4.2, upd_same, rs4.append (.one rv), apart4.1, apart4.2, by simp; omega, c6, ?_⟩
        rw [← eacc]; simp
  · have ei : i = w.ys.length := by omega
    refine .inl ?_
    rw [ei, List.drop_length] at eq1
    unfold compL at eq1
    obtain ⟨_, S2, c1, eq2⟩ := bind_ok eq1
    obtain ⟨hc, z0⟩ := chk_ok c1
    subst z0
    cases eq2
    rw [List.append_nil] at eacc
    subst eacc
    exact ⟨(wk g1 e _ σ H1 hcond st1 hc).2 i (by omega), fin L g1 H1 vs hL f1 m1 hL1 rs n1 n2⟩
/-- its reading -/
theorem tLc_of {f : Env → M Wlk} {tg : D → Env → Option Env} {cond : Env → M Bool} {elt : Env → M Ow} {own : List Nat} {σ : St} {H : Hp} {Q : VK} (h : tE C B W (evComp f tg cond elt own) σ H Q) :
    tLc (tG C B W (RW C B) f) (fun v σ H Q => ∃ g e S d e', StR C B g e S σ H ∧ Rep C g v d ∧ tg d e = some e' ∧ ∀ σ', StR C B g e' S σ' H → wipe σ' own = wipe σ own → Q σ' H) (tT C B Wf cond) (tE C B Wf elt) own σ H Q := by
  obtain ⟨g, e, S, st, h⟩ := h
  refine ⟨g, e, S, st, Post.seq h fun w S1 J H1 g1 f1 st1 wk h1 => ?_⟩
  obtain ⟨hl, h1⟩ := post_guard h1
  rw [bind_ap] at h1
  cases q : noX (compL w.chk tg cond elt (wipeE e own) w.ys) S1 with
  | exc c ns ds S2 => unfold noX at q; split at q <;> cases q
  | stuck => rw [q] at h1; exact False.elim h1
  | ok ds Sf =>
    rw [q] at h1
    refine lc_run st1 wk (of_decide_eq_true hl) (noX_ok q) fun L g' H' vs hL f' m' hL' rs n1 n2 => ?_
    have f2 := f'.freeze (o := .lst vs) hL n1
    have m2 := m'.freeze hL' n1 n2
    have le : g'.Le ⟨upd g'.Φ L (.lst vs), g'.μ⟩ := ⟨fun a u h => by show upd g'.Φ L _ a = some u; rw [upd_ne (ne_of_none h n1)]; exact h, fun _ _ h => h⟩
    exact h1 (.ref L) H' _ f2 (st1.call f2 m2) (.val (.lst (.inl (by show upd g'.Φ L _ L = _; rw [upd_same])) (rs.mono le)))
/-- tests -/
theorem pts_of {ifs : List Expr} {t : TT} {cond : Env → M Bool} (h : (ifs = [] ∧ cond = fun _ => M.pure true) ∨ ∃ c, ifs = [c] ∧ Sb X C B Wf c cond) : PTs X ifs (tT C B Wf cond) := by
  rcases h with ⟨rfl, rfl⟩ | ⟨c, rfl, h⟩
  · exact ⟨fun pins s σ H Q I ⟨g, e, S, st, q⟩ => pts_nil.run pins s σ H Q I (q.ret st rfl)⟩
  · exact pts_one h
theorem sv_comp {elt tgt iter : Expr} {ifs : List Expr} {scope : Scope} {own : List (Str × Nat)} {pos : Pos} {f : Env → M Wlk} {tg : D → Env → Option Env} {cond : Env → M Bool} {ef : Env → M Ow} (hc : X.calm = true) (hN : X.N.Nodup) (hi : Svi X C B W tgt iter f) (ok : BlkOk X.N X.env.scope scope own)
    (hg : ∀ (s : Shared) (H : Hp) (C0 : Addr) (cl : List (Str × Addr)) (fp : List Addr), Sg (X.blk s H scope (compEnvC scope cl C0 X.env) fp) C B tgt (own.map (·.2)) tg)
    (ht : ∀ (s : Shared) (H : Hp) (C0 : Addr) (cl : List (Str × Addr)) (fp : List Addr), PTs (X.blk s H scope (compEnvC scope cl C0 X.env) fp) ifs (tT C B Wf cond))
    (he : ∀ (s : Shared) (H : Hp) (C0 : Addr) (cl : List (Str × Addr)) (fp : List Addr), Sv (X.blk s H scope (compEnvC scope cl C0 X.env) fp) C B Wf elt ef) (hs : ∀ x, foldedSetIterable iter X.env x = pure x) :
    Sv X C B W (.ListComp elt [⟨tgt, iter, ifs, 0⟩] scope pos) (evComp f tg cond ef (own.map (·.2))) := PE.imp (pe_lc hc hN hi ok hg ht he hs) fun σ H Q h => tLc_of h
end
end PV

set_option Elab.async false
set_option linter.all false
set_option maxRecDepth 100000
set_option maxHeartbeats 400000
/-! PV11: statements. -/
namespace PV
open PySem PySem.Spec L2
open PyProof.Rows hiding St

inductive Fl where
  | nx | brk | cont | ret (d : D)
inductive OutS where
  | ok (f : Fl) (e : Env) (S : Store)
  | exc (c : Nat) (ns : List String) (ds : List D) (e : Env) (S : Store)
  | stuck
abbrev MS := Env → Store → OutS
/-- an expression, then a statement's rest -/
def sb {α : Type} (m : Env → M α) (k : α → MS) : MS := fun e S => match m e S with
  | .ok a S' => k a e S'
  | .exc c ns ds S' => .exc c ns ds e S'
  | .stuck => .stuck
/-- one statement, then others -/
def ss (a b : MS) : MS := fun e S => match a e S with
  | .ok .nx e' S' => b e' S'
  | o => o
def sNext : MS := fun e S => .ok .nx e S

section
variable (C : Kx) (B : Bs) (W : WX)
def PostS (g : G) (o : OutS) (D : Ends) : Prop := match o with
  | .ok .nx e' S' => ∀ σ' H' g', g.Le g' → StR C B g' e' S' σ' H' → D.nx σ' H'
  | .ok .brk e' S' => ∀ σ' H' g', g.Le g' → StR C B g' e' S' σ' H' → D.bk σ' H'
  | .ok .cont e' S' => ∀ σ' H' g', g.Le g' → StR C B g' e' S' σ' H' → D.ct σ' H'
  | .ok (.ret d) e' S' => ∀ v σ' H' g', g.Le g' → StR C B g' e' S' σ' H' → Rep C g' v d → D.rt v H'
  | .exc c ns ds e' S' => ∀ cls dd σ' H' g', g.Le g' → StR C B g' e' S' σ' H' → ExR C g' H' cls dd c ns ds → W cls dd σ' H'
  | .stuck => False
def tS (f : MS) : TS := fun D σ H => ∃ g e S, StR C B g e S σ H ∧ PostS C B W g (f e S) D
end
section
variable (X : Cx) (C : Kx) (B : Bs) (W : WX)
def Ss (ps : Stmt) (f : MS) : Prop := PS X ps (tS C B W f)
def Sss (ps : List Stmt) (f : MS) : Prop := PSs X ps (tS C B W f)
end
section
variable {X : Cx} {C : Kx} {B : Bs} {W : WX} {g g' : G} {e : Env} {S S' : Store} {σ : St} {H H' : Hp} {D : Ends}
theorem PS.imp {p : Stmt} {t t' : TS} (h : PS X p t) (q : ∀ D σ H, t' D σ H → t D σ H) : PS X p t' := ⟨fun pins s σ H D I hw => h.run pins s σ H D I (q D σ H hw)⟩
theorem PSs.imp {p : List Stmt} {t t' : TS} (h : PSs X p t) (q : ∀ D σ H, t' D σ H → t D σ H) : PSs X p t' := ⟨fun pins s σ H D I hw => h.run pins s σ H D I (q D σ H hw)⟩
theorem PostS.later {o : OutS} (f : g.Le g') (h : PostS C B W g o D) : PostS C B W g' o D := by
  cases o with
  | ok fl e S =>
    cases fl with
    | nx => exact fun σ H g2 l st => h σ H g2 (f.trans l) st
    | brk => exact fun σ H g2 l st => h σ H g2 (f.trans l) st
    | cont => exact fun σ H g2 l st => h σ H g2 (f.trans l) st
    | ret d => exact fun v σ H g2 l st r => h v σ H g2 (f.trans l) st r
  | exc c ns ds e S => exact fun cls dd σ H g2 l st r => h cls dd σ H g2 (f.trans l) st r
  | stuck => exact h
theorem PostS.seq {α β : Type} {R : G → Hp → β → α → Prop} {m : Env → M α} {k : α → MS} {Z : β → Hp → Prop} (st : StR C B g e S σ H) (h : PostS C B W g (sb m k e S) D)
    (hk : ∀ a S1 v1 H1 g1, Frm g H g1 H1 → StR C B g1 e S1 σ H1 → R g1 H1 v1 a → PostS C B W g1 (k a e S1) D → Z v1 H1) : Post C B W R g e σ H (m e S) Z := by
  unfold sb at h
  cases q : m e S with
  | ok a S1 =>
    rw [q] at h
    exact fun v H1 g1 f st r => hk a S1 v H1 g1 f st r (h.later f.le)
  | exc c ns ds S1 =>
    rw [q] at h
    exact fun cls dd H1 g1 f st r => h cls dd σ H1 g1 f.le st r
  | stuck => rw [q] at h; exact h
/-- the end of a statement -/
theorem PostS.nx {e' : Env} (h : PostS C B W g (sNext e' S) D) (st : StR C B g e' S σ H) : D.nx σ H := h σ H g (.refl g) st

/-! ### blocks -/
theorem sss_nil : Sss X C B W [] sNext := PSs.imp pss_nil fun D σ H ⟨g, e, S, st, h⟩ => h.nx st
theorem sss_cons {p : Stmt} {ps : List Stmt} {a b : MS} (ha : Ss X C B W p a) (hb : Sss X C B W ps b) : Sss X C B W (p :: ps) (ss a b) := PSs.imp (pss_cons ha hb) fun D σ H ⟨g, e, S, st, h⟩ => by
  refine ⟨g, e, S, st, ?_⟩
  unfold ss at h
  cases q : a e S with
  | ok fl e1 S1 =>
    cases fl with
    | nx =>
      rw [q] at h
      exact fun σ' H' g' l st' => ⟨g', e1, S1, st', PostS.later l h⟩
    | brk => rw [q] at h; exact h
    | cont => rw [q] at h; exact h
    | ret d => rw [q] at h; exact h
  | exc c ns ds e1 S1 => rw [q] at h; exact h
  | stuck => rw [q] at h; exact h
/-- something that only the ghost sees -/
theorem sss_ghost {ps : List Stmt} {a b : MS} (hb : Sss X C B W ps b) (ha : ∀ g e S σ H e1 S1, StR C B g e S σ H → a e S = .ok .nx e1 S1 → ∃ g1, g.Le g1 ∧ StR C B g1 e1 S1 σ H) (hn : ∀ e S o, a e S = o → (∃ e1 S1, o = .ok .nx e1 S1) ∨ o = .stuck) :
    Sss X C B W ps (ss a b) := PSs.imp hb fun D σ H ⟨g, e, S, st, h⟩ => by
  unfold ss at h
  rcases hn e S _ rfl with ⟨e1, S1, q⟩ | q
  · rw [q] at h
    obtain ⟨g1, l, st1⟩ := ha g e S σ H e1 S1 st q
    exact ⟨g1, e1, S1, st1, PostS.later l h⟩
  · rw [q] at h; exact False.elim h

/-! ### small statements -/
theorem ss_pass {pos : Pos} : Ss X C B W (.Pass pos) sNext := PS.imp ps_pass fun D σ H ⟨g, e, S, st, h⟩ => h.nx st
theorem ss_break {pos : Pos} : Ss X C B W (.Break pos) (fun e S => .ok .brk e S) := PS.imp ps_break fun D σ H ⟨g, e, S, st, h⟩ => h σ H g (.refl g) st
theorem ss_cont {pos : Pos} : Ss X C B W (.Continue pos) (fun e S => .ok .cont e S) := PS.imp ps_continue fun D σ H ⟨g, e, S, st, h⟩ => h σ H g (.refl g) st
theorem ss_doc {x j pos pos'} : Ss X C B W (.Expr (.Constant (.str x) j pos) pos') sNext := PS.imp ps_doc fun D σ H ⟨g, e, S, st, h⟩ => h.nx st
def notComp : Expr → Bool
  | .ListComp .. | .SetComp .. | .DictComp .. => false
  | _ => true
theorem swaps_free {e : Expr} {t : Option Expr} {l : Nat} {env : PySem.Env} (h : notComp e = true) : swapsWith e t l env = pure false := by
  cases e <;> first | rfl | cases h
def sExpr (f : Env → M Ow) : MS := sb f fun _ => sNext
theorem ss_expr {pe : Expr} {pos : Pos} {f : Env → M Ow} (h : Sv X C B W pe f) (hn : notComp pe = true) : Ss X C B W (.Expr pe pos) (sExpr f) := PS.imp (ps_expr h (swaps_free hn)) fun D σ H ⟨g, e, S, st, h⟩ =>
  ⟨g, e, S, st, PostS.seq st h fun a S1 v1 H1 g1 f1 st1 r1 h1 => h1.nx st1⟩
def sRet (f : Env → M Ow) : MS := sb f fun w e S => match w with
  | .val d => .ok (.ret d) e S
  | _ => .stuck
theorem ss_ret {pe : Expr} {pos : Pos} {f : Env → M Ow} (h : Sv X C B W pe f) : Ss X C B W (.Return (some pe) pos) (sRet f) := PS.imp (ps_ret h) fun D σ H ⟨g, e, S, st, h⟩ =>
  ⟨g, e, S, st, PostS.seq st h fun w S1 v1 H1 g1 f1 st1 r1 h1 => by
    cases w with
    | val d => exact h1 v1 σ H1 g1 (.refl g1) st1 r1.rep
    | _ => exact False.elim h1⟩
def sRetN : MS := fun e S => .ok (.ret .non) e S
theorem ss_retN {pos : Pos} : Ss X C B W (.Return none pos) sRetN := PS.imp ps_retN fun D σ H ⟨g, e, S, st, h⟩ => h .non σ H g (.refl g) st .non
def sIf (t : Env → M Bool) (a b : MS) : MS := sb t fun c => if c then a else b
theorem ss_if {pt : Expr} {pa pb : List Stmt} {pos : Pos} {t : Env → M Bool} {a b : MS} (ht : Sb X C B W pt t) (ha : Sss X C B W pa a) (hb : Sss X C B W pb b) : Ss X C B W (.If pt pa pb pos) (sIf t a b) := PS.imp (ps_if ht ha hb) fun D σ H ⟨g, e, S, st, h⟩ =>
  ⟨g, e, S, st, PostS.seq st h fun c S1 v1 H1 g1 f1 st1 r1 h1 => by
    have r1 : v1 = c := r1
    subst r1
    cases v1 with
    | true => exact ⟨g1, e, S1, st1, h1⟩
    | false => exact ⟨g1, e, S1, st1, h1⟩⟩

/-! ### x = e -/
def sSet (i : Nat) (f : Env → M Ow) : MS := sb f fun w e S => match w with
  | .val d => .ok .nx (e.set i (some (.val d))) S
  | _ => .stuck
theorem sset_of {f : Env → M Ow} {i : Nat} {D : Ends} {σ : St} {H : Hp} (h : tS C B W (sSet i f) D σ H) : tAsg (tE C B W f) (gName i) D σ H := by
  obtain ⟨g, e, S, st, h⟩ := h
  refine ⟨g, e, S, st, PostS.seq st h fun w S1 v1 H1 g1 f1 st1 r1 h1 => ?_⟩
  cases w with
  | val d => exact h1 _ H1 g1 (.refl g1) (st1.put (w := some d) fun d' q => by cases q; exact ⟨v1, rfl, r1.rep⟩)
  | _ => exact False.elim h1
theorem ss_set {x : Str} {i : Nat} {pe : Expr} {pos pos' : Pos} {f : Env → M Ow} (hN : X.N.Nodup) (hi : X.N[i]? = some x) (hx : Loc X.env.scope x) (hf : X.fn x = true ∨ X.env.scope.names.lookup x = some .local) (h : Sv X C B W pe f) (hn : notComp pe = true) :
    Ss X C B W (.Assign [.Name x pos'] pe pos) (sSet i f) := PS.imp (ps_set hN hi hx h (swaps_free hn) hf) fun D σ H h => sset_of h
/-- name = [..] on one line -/
theorem ss_setLc {i : Nat} {y : Str} {py : Pos} {elt tgt iter : Expr} {ifs : List Expr} {scope : Scope} {own : List (Str × Nat)} {pos spos : Pos} {f : Env → M Wlk} {tg : PV.D → Env → Option Env} {cond : Env → M Bool} {ef : Env → M Ow} (hc : X.calm = true) (hN : X.N.Nodup) (hy : X.N[i]? = some y) (hyl : X.env.scope.names.lookup y = some .local)
    (hsw : swapsWith (.ListComp elt [⟨tgt, iter, ifs, 0⟩] scope pos) (some (.Name y py)) spos.line X.env = pure true) (hi : Svi X C B W tgt iter f) (ok : BlkOk X.N X.env.scope scope own)
    (hg : ∀ (s : Shared) (H : Hp) (C0 : Addr) (cl : List (Str × Addr)) (fp : List Addr), Sg (X.blk s H scope (compEnvC scope cl C0 X.env) fp) C B tgt (own.map (·.2)) tg)
    (ht : ∀ (s : Shared) (H : Hp) (C0 : Addr) (cl : List (Str × Addr)) (fp : List Addr), PTs (X.blk s H scope (compEnvC scope cl C0 X.env) fp) ifs (tT C B Wf cond))
    (he : ∀ (s : Shared) (H : Hp) (C0 : Addr) (cl : List (Str × Addr)) (fp : List Addr), Sv (X.blk s H scope (compEnvC scope cl C0 X.env) fp) C B Wf elt ef) (hs : ∀ x, foldedSetIterable iter X.env x = pure x) :
    Ss X C B W (.Assign [.Name y py] (.ListComp elt [⟨tgt, iter, ifs, 0⟩] scope pos) spos) (sSet i (evComp f tg cond ef (own.map (·.2)))) :=
  PS.imp (ps_setLc hc hN hy hyl hsw hi ok hg ht he hs) fun D σ H h => by
    have h2 := sset_of h
    exact tLc_of h2

/-! ### a, b = e -/
def sTup (f : Env → M Ow) (tg : PV.D → Env → Option Env) : MS := sb f fun w e S => match w with
  | .val d => match tg d e with
    | some e' => .ok .nx e' S
    | none => .stuck
  | _ => .stuck
theorem ss_asg {tgt pe : Expr} {pos : Pos} {f : Env → M Ow} {own : List Nat} {tg : PV.D → Env → Option Env} (h : Sv X C B W pe f) (hg : Sg X C B tgt own tg) (hs : swapsWithSole [tgt] pe pos.line X.env = pure false) (hw : swappedStores [tgt] pe X.env = pure none) (h1 : noStars [tgt] = true) :
    Ss X C B W (.Assign [tgt] pe pos) (sTup f tg) := PS.imp (ps_asg h hg hs hw (by rw [assignEach_cons h1]; rfl)) fun D σ H ⟨g, e, S, st, h⟩ =>
  ⟨g, e, S, st, PostS.seq st h fun w S1 v1 H1 g1 f1 st1 r1 h1 => by
    cases w with
    | val d =>
      have h1 : PostS C B W g1 (match tg d e with | some e' => .ok .nx e' S1 | none => .stuck) D := h1
      cases q : tg d e with
      | none => rw [q] at h1; exact False.elim h1
      | some e' =>
        rw [q] at h1
        exact ⟨g1, e, S1, d, e', st1, r1.rep, q, fun σ' st' _ => h1 σ' H1 g1 (.refl g1) st'⟩
    | _ => exact False.elim h1⟩
def sPar (i j : Nat) (a : Env → M (List Ow)) : MS := sb a fun ws e S => match ws with
  | [.val x, .val y] => .ok .nx ((e.set i (some (.val x))).set j (some (.val y))) S
  | _ => .stuck
theorem ss_par {i j : Nat} {x y : Str} {a b : Expr} {px py pt : Pos} {kt k2 pt2 pos} {f : Env → M (List Ow)} (hc : X.calm = true) (hN : X.N.Nodup) (hi : X.N[i]? = some x) (hj : X.N[j]? = some y) (hij : i ≠ j)
    (hx : X.env.scope.names.lookup x = some .local) (hy : X.env.scope.names.lookup y = some .local) (ha : Sas X C B W [a, b] f)
    (hw : swappedStores [.Tuple [.Name x px, .Name y py] kt pt] (.Tuple [a, b] k2 pt2) X.env = pure (some [x, y]))
    (hs : swapsWithSole [.Tuple [.Name x px, .Name y py] kt pt] (.Tuple [a, b] k2 pt2) pos.line X.env = pure false) :
    Ss X C B W (.Assign [.Tuple [.Name x px, .Name y py] kt pt] (.Tuple [a, b] k2 pt2) pos) (sPar i j f) := PS.imp (ps_par hc hN hi hj hij hx hy ha hw hs) fun D σ H ⟨g, e, S, st, h⟩ =>
  ⟨g, e, S, st, PostS.seq st h fun ws S1 vs H1 g1 f1 st1 r1 h1 => by
    cases r1 with
    | nil => exact False.elim h1
    | @cons v w vs ws ra rr =>
      cases rr with
      | nil => cases w <;> exact False.elim h1
      | @cons v' w' vs ws rb rr =>
        cases rr with
        | cons _ _ => cases w <;> cases w' <;> exact False.elim h1
        | nil =>
          cases w with
          | val d =>
            cases w' with
            | val d' =>
              refine ⟨v, v', rfl, h1 _ H1 g1 (.refl g1) ?_⟩
              exact (st1.put (w := some d) (fun d0 q => by cases q; exact ⟨v, rfl, ra.rep⟩)).put (w := some d') (fun d0 q => by cases q; exact ⟨v', rfl, rb.rep⟩)
            | _ => exact False.elim h1
          | _ => cases w' <;> exact False.elim h1⟩

/-! ### while -/
def whileN (t : Env → M Bool) (b : MS) : Nat → Env → Store → Option OutS
  | 0, _, _ => none
  | n + 1, e, S => match t e S with
    | .ok true S1 => match b e S1 with
      | .ok .nx e2 S2 => whileN t b n e2 S2
      | .ok .cont e2 S2 => whileN t b n e2 S2
      | .ok .brk e2 S2 => some (.ok .nx e2 S2)
      | o => some o
    | .ok false S1 => some (.ok .nx e S1)
    | .exc c ns ds S1 => some (.exc c ns ds e S1)
    | .stuck => some .stuck
open Classical in
noncomputable def sWhile (t : Env → M Bool) (b : MS) : MS := fun e S => if h : ∃ n o, whileN t b n e S = some o then Classical.choose (Classical.choose_spec h) else .stuck
theorem whileN_mono {t : Env → M Bool} {b : MS} : ∀ {n m : Nat} {e : Env} {S : Store} {o : OutS}, whileN t b n e S = some o → n ≤ m → whileN t b m e S = some o
  | 0, _, _, _, _, h, _ => by cases h
  | n + 1, 0, _, _, _, _, hm => by omega
  | n + 1, m + 1, e, S, o, h, hm => by
    unfold whileN at h ⊢
    cases q : t e S with
    | ok c S1 =>
      rw [q] at h
      cases c with
      | true =>
        dsimp only at h ⊢
        cases q2 : b e S1 with
        | ok f e2 S2 =>
          rw [q2] at h
          cases f with
          | nx => exact whileN_mono (n := n) (m := m) h (by omega)
          | cont => exact whileN_mono (n := n) (m := m) h (by omega)
          | brk => exact h
          | ret d => exact h
        | exc c ns ds e2 S2 => rw [q2] at h; exact h
        | stuck => rw [q2] at h; exact h
      | false => exact h
    | exc c ns ds S1 => rw [q] at h; exact h
    | stuck => rw [q] at h; exact h
theorem sWhile_eq {t : Env → M Bool} {b : MS} {n : Nat} {e : Env} {S : Store} {o : OutS} (h : whileN t b n e S = some o) : sWhile t b e S = o := by
  unfold sWhile
  have hx : ∃ n o, whileN t b n e S = some o := ⟨n, o, h⟩
  rw [dif_pos hx]
  have h2 := Classical.choose_spec (Classical.choose_spec hx)
  have h3 := whileN_mono h2 (Nat.le_max_left (Classical.choose hx) n)
  have h4 := whileN_mono h (Nat.le_max_right (Classical.choose hx) n)
  rw [h3] at h4
  exact Option.some.inj h4
theorem sWhile_none {t : Env → M Bool} {b : MS} {e : Env} {S : Store} (h : ¬ ∃ n o, whileN t b n e S = some o) : sWhile t b e S = .stuck := by
  unfold sWhile
  rw [dif_neg h]
theorem ss_while {pt : Expr} {body : List Stmt} {pos : Pos} {t : Env → M Bool} {b : MS} (hp : PassesOwn (model X.prog X.w) X.A X.env X.xe) (ht : Sb X C B W pt t) (hb : Sss X C B W body b) : Ss X C B W (.While pt body [] pos) (sWhile t b) :=
  PS.imp (ps_while hp ht hb) fun D σ H ⟨g, e, S, st, h⟩ => by
    by_cases hx : ∃ n o, whileN t b n e S = some o
    · obtain ⟨n, o, hn⟩ := hx
      rw [sWhile_eq hn] at h
      refine ⟨fun m σ1 H1 => ∃ g1 e1 S1, StR C B g1 e1 S1 σ1 H1 ∧ whileN t b m e1 S1 = some o ∧ PostS C B W g1 o D, ⟨n, g, e, S, st, hn, h⟩, ?_⟩
      rintro m σ1 H1 ⟨g1, e1, S1, st1, hm, h1⟩
      cases m with
      | zero => cases hm
      | succ m =>
        unfold whileN at hm
        refine ⟨g1, e1, S1, st1, ?_⟩
        cases q : t e1 S1 with
        | stuck => rw [q] at hm; cases hm; exact False.elim h1
        | exc c ns ds S2 =>
          rw [q] at hm
          cases hm
          exact fun cls dd H2 g2 f2 st2 r => h1 cls dd σ1 H2 g2 f2.le st2 r
        | ok c S2 =>
          rw [q] at hm
          intro c' H2 g2 f2 st2 hc
          have hc : c' = c := hc
          subst hc
          cases c' with
          | false =>
            rw [if_neg Bool.false_ne_true]
            cases hm
            exact h1 σ1 H2 g2 f2.le st2
          | true =>
            rw [if_pos rfl]
            refine ⟨fun σ' H' => ∃ g3 e3 S3, StR C B g3 e3 S3 σ' H' ∧ whileN t b m e3 S3 = some o ∧ PostS C B W g3 o D, fun σ' H' ⟨g3, e3, S3, a, b', c⟩ => ⟨m, Nat.lt_succ_self m, g3, e3, S3, a, b', c⟩, g2, e1, S2, st2, ?_⟩
            dsimp only at hm
            cases q2 : b e1 S2 with
            | stuck => rw [q2] at hm; cases hm; exact False.elim h1
            | exc c ns ds e3 S3 =>
              rw [q2] at hm
              cases hm
              exact fun cls dd σ' H' g' l st' r => h1 cls dd σ' H' g' (f2.le.trans l) st' r
            | ok fl e3 S3 =>
              rw [q2] at hm
              cases fl with
              | nx => exact fun σ' H' g' l st' => ⟨g', e3, S3, st', hm, PostS.later (f2.le.trans l) h1⟩
              | cont => exact fun σ' H' g' l st' => ⟨g', e3, S3, st', hm, PostS.later (f2.le.trans l) h1⟩
              | brk => cases hm; exact fun σ' H' g' l st' => h1 σ' H' g' (f2.le.trans l) st'
              | ret d => cases hm; exact fun v σ' H' g' l st' r => h1 v σ' H' g' (f2.le.trans l) st' r
    · rw [sWhile_none hx] at h
      exact False.elim h

/-! ### for -/
def forL (chk : Store → Bool) (tg : PV.D → Env → Option Env) (b : MS) : List PV.D → MS
  | [] => fun e S => if chk S then .ok .nx e S else .stuck
  | y :: ys => fun e S => if chk S then match tg y e with
      | some e1 => match b e1 S with
        | .ok .nx e2 S2 => forL chk tg b ys e2 S2
        | .ok .cont e2 S2 => forL chk tg b ys e2 S2
        | .ok .brk e2 S2 => .ok .nx e2 S2
        | o => o
      | none => .stuck
    else .stuck
def sFor (f : Env → M Wlk) (tg : PV.D → Env → Option Env) (b : MS) : MS := sb f fun w e S => if w.own then .stuck else forL w.chk tg b w.ys e S
theorem ss_for {tgt iter : Expr} {body : List Stmt} {pos : Pos} {f : Env → M Wlk} {tg : PV.D → Env → Option Env} {own : List Nat} {b : MS} (hp : PassesOwn (model X.prog X.w) X.A X.env X.xe) (hc : X.calm = true) (hi : Svi X C B W tgt iter f) (hg : Sg X C B tgt own tg) (hb : Sss X C B W body b)
    (hs : ∀ x, foldedSetIterable iter X.env x = pure x) : Ss X C B W (.For tgt iter body [] pos) (sFor f tg b) := PS.imp (ps_for hp hc hi hg hb hs) fun D σ H ⟨g, e, S, st, h⟩ => by
  refine ⟨g, e, S, st, PostS.seq st h fun w S1 J H1 g1 f1 st1 wk h1 => ?_⟩
  have h1 : PostS C B W g1 (if w.own then .stuck else forL w.chk tg b w.ys e S1) D := h1
  by_cases ho : w.own = true
  · rw [if_pos ho] at h1; exact False.elim h1
  · rw [if_neg ho] at h1
    refine ⟨fun i m σ2 H2 => m = w.ys.length - i ∧ i ≤ w.ys.length ∧ ∃ g2 e2 S2, g1.Le g2 ∧ StR C B g2 e2 S2 σ2 H2 ∧ PostS C B W g2 (forL w.chk tg b (w.ys.drop i) e2 S2) D, ⟨_, rfl, Nat.zero_le _, g1, e, S1, .refl g1, st1, by rw [List.drop_zero]; exact h1⟩, ?_⟩
    rintro i m σ2 H2 ⟨rfl, hi, g2, e2, S2, l2, st2, h2⟩
    have hcond : (if w.own then Frm g1 H1 g2 H2 else g1.Le g2) := by rw [if_neg ho]; exact l2
    by_cases hlt : i < w.ys.length
    · have hy : w.ys[i]? = some w.ys[i] := List.getElem?_eq_getElem hlt
      have ed : w.ys.drop i = w.ys[i] :: w.ys.drop (i + 1) := List.drop_eq_getElem_cons hlt
      rw [ed] at h2
      unfold forL at h2
      by_cases hck : w.chk S2 = true
      · rw [if_pos hck] at h2
        obtain ⟨go, yl⟩ := (wk g2 e2 S2 σ2 H2 hcond st2 hck).1 i _ hy
        refine .inr ⟨go, fun σ' H' => ∃ g3 e3 S3, g1.Le g3 ∧ StR C B g3 e3 S3 σ' H' ∧ PostS C B W g3 (forL w.chk tg b (w.ys.drop (i + 1)) e3 S3) D, fun σ' H' q => ⟨_, by omega, rfl, hlt, q⟩, fun x H' hyl => ?_⟩
        obtain ⟨g3, f3, st3, r3⟩ := yl x H' hyl
        cases q : tg w.ys[i] e2 with
        | none => rw [q] at h2; exact False.elim h2
        | some e3 =>
          rw [q] at h2
          refine ⟨g3, e2, S2, w.ys[i], e3, st3, r3, q, fun σ' st' _ => ⟨g3, e3, S2, st', ?_⟩⟩
          dsimp only at h2
          have l3 : g1.Le g3 := l2.trans f3.le
          have h3 := PostS.later f3.le h2
          cases q2 : b e3 S2 with
          | stuck => rw [q2] at h3; exact False.elim h3
          | exc c ns ds e4 S4 => rw [q2] at h3; exact h3
          | ok fl e4 S4 =>
            rw [q2] at h3
            cases fl with
            | nx => exact fun σ' H' g' l st' => ⟨g', e4, S4, l3.trans l, st', PostS.later l h3⟩
            | cont => exact fun σ' H' g' l st' => ⟨g', e4, S4, l3.trans l, st', PostS.later l h3⟩
            | brk => exact fun σ' H' g' l st' => h3 σ' H' g' l st'
            | ret d => exact h3
      · rw [if_neg hck] at h2; exact False.elim h2
    · have ei : i = w.ys.length := by omega
      rw [ei, List.drop_length] at h2
      unfold forL at h2
      by_cases hck : w.chk S2 = true
      · rw [if_pos hck] at h2
        exact .inl ⟨(wk g2 e2 S2 σ2 H2 hcond st2 hck).2 i (by omega), h2 σ2 H2 g2 (.refl g2) st2⟩
      · rw [if_neg hck] at h2; exact False.elim h2
end
end PV

set_option Elab.async false
set_option linter.all false
set_option maxRecDepth 100000
set_option maxHeartbeats 400000
/-! PV12: shared things made and changed; one's own instance. -/
namespace PV
open PySem PySem.Spec L2
open PyProof.Rows hiding St

section
variable {X : Cx} {C : Kx} {B : Bs} {W : WX} {g g' : G} {e : Env} {S S' : Store} {σ : St} {H H' : Hp}

/-! ### a shared thing changes -/
theorem Frm.shUpd {x : Addr} {o : HO} (hx : x ∈ g.μ) : Frm g H g (upd H x o) :=
  ⟨.refl g, fun a u h hn => by rw [upd_ne fun q => hn (by rw [q]; exact hx)]; exact h, fun a h => .inl h, fun a u h => .inl h⟩
theorem MoR.ne {x a : Addr} {o : HO} {m : MO} (hne : a ≠ x) (z : MoR C g H a m) : MoR C g (upd H x o) a m := by
  cases m with
  | lst ds => obtain ⟨vs, q, r⟩ := z; exact ⟨vs, by rw [upd_ne hne]; exact q, r⟩
  | dic ks ds => obtain ⟨vs, q, k, r⟩ := z; exact ⟨vs, by rw [upd_ne hne]; exact q, k, r⟩
  | ins c ns ds => obtain ⟨dx, vs, q, k, r⟩ := z; exact ⟨dx, vs, by rw [upd_ne hne]; exact q, k, r⟩
theorem StR.shUpd (s : StR C B g e S σ H) {x : Addr} {id : Nat} {o : HO} {m : MO} (hx : g.μ[id]? = some x) (r : MoR C g (upd H x o) x m) : StR C B g e (S.set id m) σ (upd H x o) := by
  have hm : x ∈ g.μ := List.mem_of_getElem? hx
  have nx := s.mf x hm
  refine ⟨⟨fun a u h => ?_, s.lkf, by rw [List.length_set]; exact s.shl, fun i a mo h1 h2 => ?_, s.mf, s.md⟩, s.le, s.nfz, s.mn, fun a u h1 h2 h3 => ?_, s.len, ?_, s.sl⟩
  · have ha : a ≠ x := fun q => by rw [q, nx] at h; cases h
    have z := s.fz a u h
    unfold As at z ⊢
    rw [upd_ne ha]; exact z
  · by_cases hi : i = id
    · subst hi
      rw [hx] at h1
      cases h1
      have hl : i < S.length := by rw [s.shl]; exact (List.getElem?_eq_some_iff.mp hx).1
      rw [List.getElem?_set_self hl] at h2
      cases h2
      exact r
    · rw [List.getElem?_set_ne (Ne.symm hi)] at h2
      refine (s.sh i a mo h1 h2).ne fun q => hi ?_
      subst q
      have l1 := (List.getElem?_eq_some_iff.mp h1).1
      exact (List.getElem?_inj l1 s.md).mp (by rw [h1, hx])
  · have z := s.fr a u h1 h2 h3
    have ha : a ≠ x := fun q => by
      subst q
      rcases s.mn a hm with w | w | w
      · exact h2 w
      · rw [h1] at w; cases w
      · exact h3 w
    unfold As at z ⊢
    rw [upd_ne ha]; exact z
  · obtain ⟨F, f1, f2, f3, f4⟩ := s.ow
    exact ⟨F, f1, fun i w fp h1 h2 => (f2 i w fp h1 h2).mono (Frm.shUpd hm) fun a ha => (f4 a (List.mem_flatten.mpr ⟨fp, List.mem_of_getElem? h2, ha⟩)).2.1, f3, f4⟩
/-- a new shared thing -/
theorem StR.shNew (s : StR C B g e S σ H) {p : Addr} {o : HO} {m : MO} (hp : H p = none) (r : MoR C g (upd H p o) p m) :
    StR C B ⟨g.Φ, g.μ ++ [p]⟩ e (S ++ [m]) σ (upd H p o) ∧ Frm g H ⟨g.Φ, g.μ ++ [p]⟩ (upd H p o) ∧ (g.μ ++ [p])[S.length]? = some p := by
  obtain ⟨z1, z2, z3⟩ := s.toSim.new hp
  have f : Frm g H g (upd H p o) := ⟨.refl g, fun a u h _ => by rw [upd_ne (ne_of_none h hp)]; exact h, fun a h => .inl h, fun a u h => .inl h⟩
  have m1 := s.toSim.poke (o := o) z1 z3
  have f2 := f.share (x := p) hp
  refine ⟨s.call f2 (m1.share r z1 z3), f2, ?_⟩
  rw [s.shl]; simp

/-! ### [..] that is shared -/
def evNewL (a : Env → M (List Ow)) : Env → M Ow := fun e => do
  let ws ← a e
  let ds ← M.ofO (stricts ws)
  guardM (decide (ds.length ≤ line))
  let d ← newS (.lst ds)
  M.pure (.val d)
theorem newS_ap {m : MO} {S : Store} : ((newS m >>= fun d => (M.pure (.val d) : M Ow)) S) = .ok (.val (.ref S.length)) (S ++ [m]) := rfl
theorem post_newL {ds : List D} {vs : List V} {Q : VK} (h : Post C B W (RO C) g e σ H ((newS (.lst ds) >>= fun d => (M.pure (.val d) : M Ow)) S) Q) (st : StR C B g e S σ H) (r : Reps C g vs ds) {p : Addr} (hp : H p = none) : Q (.ref p) (upd H p (.lst vs)) := by
  rw [newS_ap] at h
  obtain ⟨s2, f2, e2⟩ := st.shNew (o := .lst vs) (m := .lst ds) hp ⟨vs, upd_same, r⟩
  exact h _ _ _ f2 s2 (.val (.ref e2))
theorem sv_newL {ps : List Expr} {pos : Pos} {a : Env → M (List Ow)} (h : Sas X C B W ps a) : Sv X C B W (.List ps pos) (evNewL a) := PE.imp (pe_lst h) fun σ H Q ⟨g, e, S, st, h⟩ => by
  refine ⟨g, e, S, st, Post.seq h fun ws S1 vs H1 g1 f1 st1 r1 h1 => ?_⟩
  obtain ⟨ds, e1, h1⟩ := post_ofO h1
  obtain ⟨hl, h1⟩ := post_guard h1
  have r := stricts_ok r1 e1
  exact ⟨line_le (by rw [r.length]; exact of_decide_eq_true hl), fun p hp => post_newL h1 st1 r hp⟩

/-! ### o[i] = e of a shared list or dict -/
def putKD (ks : List Key) (ds : List D) (q : Key) (v : D) : List Key × List D :=
  if (ks.any fun k => decide (k = q)) = true then (ks, List.zipWith (fun k d => if k = q then v else d) ks ds) else (ks ++ [q], ds ++ [v])
theorem put_map {q : Key} {v : V} {d : D} (r : Rep C g v d) : ∀ {kvs : List (Key × V)} {ds : List D}, Reps C g (kvs.map (·.2)) ds →
    Reps C g ((kvs.map fun kv => if kv.1 = q then (kv.1, v) else kv).map (·.2)) (List.zipWith (fun k d' => if k = q then d else d') (kvs.map (·.1)) ds) ∧ (kvs.map fun kv => if kv.1 = q then (kv.1, v) else kv).map (·.1) = kvs.map (·.1)
  | [], _, .nil => ⟨.nil, rfl⟩
  | kv :: kvs, _, .cons (d := d0) r1 r2 => by
    obtain ⟨i1, i2⟩ := put_map r r2
    refine ⟨.cons ?_ i1, ?_⟩
    · show Rep C g (if kv.1 = q then (kv.1, v) else kv).2 (if kv.1 = q then d else d0)
      by_cases h : kv.1 = q
      · rw [if_pos h, if_pos h]; exact r
      · rw [if_neg h, if_neg h]; exact r1
    · rw [List.map_cons, List.map_cons, List.map_cons, i2]
      by_cases h : kv.1 = q
      · rw [if_pos h]
      · rw [if_neg h]
theorem putKD_ok {kvs : List (Key × V)} {ks : List Key} {ds : List D} {q : Key} {v : V} {d : D} (e1 : kvs.map (·.1) = ks) (r : Reps C g (kvs.map (·.2)) ds) (r1 : Rep C g v d) :
    (putK kvs q v).map (·.1) = (putKD ks ds q d).1 ∧ Reps C g ((putK kvs q v).map (·.2)) (putKD ks ds q d).2 := by
  subst e1
  have ea : ((kvs.map (·.1)).any fun k => decide (k = q)) = (kvs.any fun kv => decide (kv.1 = q)) := by rw [List.any_map]; rfl
  unfold putK putKD
  rw [ea]
  by_cases h : (kvs.any fun kv => decide (kv.1 = q)) = true
  · rw [if_pos h, if_pos h]
    obtain ⟨i1, i2⟩ := put_map (q := q) r1 r
    exact ⟨i2, i1⟩
  · rw [if_neg h, if_neg h]
    refine ⟨by simp, ?_⟩
    rw [List.map_append]
    exact r.append (.one r1)
def keyV_ok {i : D} {k : Key} {v : V} (r : RepF C g H v i) (hk : keyOf i = some k) : v = kV k := by
  cases i with
  | int j => cases hk; exact r.int
  | str j => cases hk; exact r.str
  | _ => cases hk
/-- the store behind o[i] = v -/
def setM (i v : D) : MO → Option MO
  | .lst ds => match i with
    | .int k => (ixN ds.length k).map fun j => .lst (ds.set j v)
    | _ => none
  | .dic ks ds => (keyOf i).bind fun q => if ks.length < line then some (.dic (putKD ks ds q v).1 (putKD ks ds q v).2) else none
  | .ins _ _ _ => none
def setD (o i v : D) (S : Store) : Option Store := match o with
  | .ref id => (S[id]?.bind (setM i v)).map fun m => S.set id m
  | _ => none
def rSetA : TSet := fun o i v H Q => rSetL o i v H Q ∨ rSetD o i v H Q
theorem set_any (hu : X.A.units + 1 < cLine) : PSet X rSetA := by
  intro pins s σ H o i v ov iv u Q I ro ri rv h
  rcases h with h | h
  · exact set_list pins s σ H o i v ov iv u Q I ro ri rv h
  · exact set_dict hu pins s σ H o i v ov iv u Q I ro ri rv h
theorem setD_ok {vo vi vv : V} {o i v : D} {S2 : Store} {Q : Hp → Prop} (st : StR C B g e S σ H) (ro : Rep C g vo o) (ri : RepF C g H vi i) (rv : Rep C g vv v) (h : setD o i v S = some S2)
    (k : ∀ H', StR C B g e S2 σ H' → Q H') : rSetA vo vi vv H Q := by
  cases o with
  | ref id =>
    cases ro with
    | @ref a _ hm =>
      have h : (S[id]?.bind (setM i v)).map (fun m => S.set id m) = some S2 := h
      cases hS : S[id]? with
      | none => rw [hS] at h; cases h
      | some m =>
        rw [hS] at h
        have h : (setM i v m).map (fun m => S.set id m) = some S2 := h
        cases m with
        | lst ds =>
          cases i with
          | int j =>
            have h : ((ixN ds.length j).map fun j => MO.lst (ds.set j v)).map (fun m => S.set id m) = some S2 := h
            cases hj : ixN ds.length j with
            | none => rw [hj] at h; cases h
            | some n =>
              rw [hj] at h
              cases h
              obtain ⟨vs, h1, r⟩ := st.shAt hm hS
              exact .inl ⟨a, vs, j, n, rfl, ri.int, h1, by rw [r.length]; exact hj, k _ (st.shUpd hm ⟨_, upd_same, r.set rv n⟩)⟩
          | _ => cases h
        | dic ks ds =>
          have h : ((keyOf i).bind fun q => if ks.length < line then some (MO.dic (putKD ks ds q v).1 (putKD ks ds q v).2) else none).map (fun m => S.set id m) = some S2 := h
          cases hk : keyOf i with
          | none => rw [hk] at h; cases h
          | some q =>
            rw [hk] at h
            have h : (if ks.length < line then some (MO.dic (putKD ks ds q v).1 (putKD ks ds q v).2) else none).map (fun m => S.set id m) = some S2 := h
            by_cases hl : ks.length < line
            · rw [if_pos hl] at h
              cases h
              obtain ⟨kvs, h1, e1, r⟩ := st.shAt hm hS
              have e2 := keyV_ok ri hk
              subst e2
              obtain ⟨p1, p2⟩ := putKD_ok (q := q) e1 r rv
              have hz : kvs.length < sizeLine := by
                have e3 : kvs.length = ks.length := by rw [← e1, List.length_map]
                have := line_le (Nat.le_of_lt hl)
                rw [sizeLine_eq] at this ⊢
                have : line = 1000000 := rfl
                omega
              exact .inr ⟨a, _, rfl, .k h1 hz, k _ (st.shUpd hm ⟨_, upd_same, p1, p2⟩)⟩
            · rw [if_neg hl] at h; cases h
        | ins c ns ds => cases h
  | _ => cases h
def nxO (e : Env) : Option Store → OutS
  | some S => .ok .nx e S
  | none => .stuck
def setIxK : Ow → Ow → Option D → MS
  | .val v, .val o, some i => fun e S => nxO e (setD o i v S)
  | _, _, _ => fun _ _ => .stuck
def sSetIx (fo fi fv : Env → M Ow) : MS := sb fv fun w => sb fo fun o => sb fi fun i => setIxK w o i.flat
def plainSub (o i : Expr) : Bool := match i with
  | .Slice .. => false
  | _ => true
theorem ss_setIx {po pi pv : Expr} {p1 pos : Pos} {fo fi fv : Env → M Ow} (hu : X.A.units + 1 < cLine) (ho : Sv X C B W po fo) (hi : Sv X C B W pi fi) (hv : Sv X C B W pv fv)
    (ha : ∀ v, assign (.Subscript po pi p1) X.env v = (do
      let ov ← holding [v] (eval po X.env)
      let iv ← holding [v, ov] (eval pi X.env)
      standAt p1
      holding [v, ov, iv] (setItem ov iv v)
      release [v, ov, iv] []))
    (hs : swapsWithSole [.Subscript po pi p1] pv pos.line X.env = pure false) (hw : swappedStores [.Subscript po pi p1] pv X.env = pure none) : Ss X C B W (.Assign [.Subscript po pi p1] pv pos) (sSetIx fo fi fv) :=
  PS.imp (ps_asg hv (pg_sub ho hi (set_any hu) ha) hs hw rfl) fun D σ H ⟨g, e, S, st, h⟩ => by
    refine ⟨g, e, S, st, PostS.seq st h fun w S1 v1 H1 g1 f1 st1 r1 h1 => ?_⟩
    refine ⟨g1, e, S1, st1, PostS.seq st1 h1 fun o S2 v2 H2 g2 f2 st2 r2 h2 => ?_⟩
    refine ⟨g2, e, S2, st2, PostS.seq st2 h2 fun i S3 v3 H3 g3 f3 st3 r3 h3 => ?_⟩
    cases w with
    | val v =>
      cases o with
      | val o =>
        have h3 : PostS C B W g3 (setIxK (.val v) (.val o) i.flat e S3) D := h3
        cases q : i.flat with
        | none => rw [q] at h3; exact False.elim h3
        | some i' =>
          rw [q] at h3
          have h3 : PostS C B W g3 (nxO e (setD o i' v S3)) D := h3
          cases z : setD o i' v S3 with
          | none => rw [z] at h3; exact False.elim h3
          | some S4 =>
            rw [z] at h3
            exact setD_ok st3 (r2.rep.mono f3.le) (r3.flat q) (r1.rep.mono (f2.trans f3).le) z fun H' st' => h3 σ H' g3 (.refl g3) st'
      | _ => exact False.elim h3
    | _ => exact False.elim h3

/-! ### self.f = e, self being one's own -/
def putFD (f : String) (v : D) : List String → List D → List String × List D
  | n :: ns, d :: ds => if n = f then (n :: ns, v :: ds) else
    let r := putFD f v ns ds
    (n :: r.1, d :: r.2)
  | _, _ => ([f], [v])
theorem putFD_ok {f : String} {v : V} {d : D} (r1 : Rep C g v d) : ∀ {fs : List (Str × V)} {ns : List String} {ds : List D}, fs.map (·.1) = ns.map Str.ofString → Reps C g (fs.map (·.2)) ds →
    (putF (Str.ofString f) v fs).map (·.1) = (putFD f d ns ds).1.map Str.ofString ∧ Reps C g ((putF (Str.ofString f) v fs).map (·.2)) (putFD f d ns ds).2
  | [], ns, ds, h, r => by
    cases ns with
    | cons _ _ => cases h
    | nil => cases r; exact ⟨rfl, .one r1⟩
  | (k, x) :: fs, ns, ds, h, r => by
    cases ns with
    | nil => cases h
    | cons n ns =>
      rw [List.map_cons, List.map_cons] at h
      injection h with h1 h2
      have h1 : k = Str.ofString n := h1
      subst h1
      cases r with
      | @cons v' d' vs' ds' ra rb =>
        have eL : putF (Str.ofString f) v ((Str.ofString n, x) :: fs) = if Str.ofString n = Str.ofString f then (Str.ofString n, v) :: fs else (Str.ofString n, x) :: putF (Str.ofString f) v fs := rfl
        have eR : putFD f d (n :: ns) (d' :: ds') = if n = f then (n :: ns, d :: ds') else (n :: (putFD f d ns ds').1, d' :: (putFD f d ns ds').2) := rfl
        rw [eL, eR]
        by_cases q : n = f
        · rw [if_pos q, if_pos (by rw [q])]
          exact ⟨by rw [List.map_cons, List.map_cons, h2], .cons r1 rb⟩
        · rw [if_neg q, if_neg fun z => q (ofS_inj z)]
          obtain ⟨i1, i2⟩ := putFD_ok r1 h2 rb
          exact ⟨by rw [List.map_cons, List.map_cons, i1], .cons ra i2⟩
theorem OwR.ne {x : Addr} {o : HO} {v : V} {w : Ow} {fp : List Addr} (h : OwR C g H v w fp) : x ∉ fp → OwR C g (upd H x o) v w fp := by
  induction h with
  | val r => exact fun _ => .val r
  | dic h k r => exact fun n => .dic (by rw [upd_ne fun q => n (by simp [q])]; exact h) k r
  | ins h k r => exact fun n => .ins (by rw [upd_ne fun q => n (by simp [q])]; exact h) k r
  | lst h l1 l2 q ih => exact fun n => .lst (by rw [upd_ne fun q => n (by simp [q])]; exact h) l1 l2 fun i v w fp h1 h2 h3 => ih i v w fp h1 h2 h3 fun hx => n (List.mem_cons_of_mem _ (List.mem_flatten.mpr ⟨fp, List.mem_of_getElem? h3, hx⟩))
/-- a thing of one's own changes where it stands -/
theorem StR.ownUpd (s : StR C B g e S σ H) {i : Nat} {w w2 : Ow} {v : V} {x : Addr} {o : HO} {F : List (List Addr)} {fp fp2 : List Addr} (hi : e[i]? = some (some w)) (hF : F[i]? = some fp) (f1 : F.length = e.length)
    (f2 : ∀ (i : Nat) w fp, e[i]? = some w → F[i]? = some fp → OwS C g H (σ[i]?.getD none) w fp) (f3 : F.flatten.Nodup) (f4 : ∀ a ∈ F.flatten, g.Φ a = none ∧ a ∉ g.μ ∧ (B.H0 a = none ∨ a ∈ B.ex))
    (hx : x ∈ fp) (hv : σ[i]?.getD none = some v) (r : OwR C g (upd H x o) v w2 fp2) (hsub : ∀ a ∈ fp2, a ∈ fp) (hnd : fp2.Nodup) (hins : (∃ c ns ds, w2 = .ins c ns ds) → ∃ c ns ds, w = .ins c ns ds) : StR C B g (e.set i (some w2)) S σ (upd H x o) := by
  obtain ⟨n1, n2, n3⟩ := f4 x (List.mem_flatten.mpr ⟨fp, List.mem_of_getElem? hF, hx⟩)
  refine ⟨s.toSim.poke n1 n2, s.le, s.nfz, s.mn, fun a u h1 h2 h3 => ?_, by rw [List.length_set]; exact s.len, ⟨F.set i fp2, by rw [List.length_set, List.length_set]; exact f1, fun j u fq h1 h2 => ?_, ?_, fun a ha => ?_⟩, fun y r hy ⟨c, ns, ds, hq⟩ => s.sl y r hy ?_⟩
  rotate_right
  · by_cases h0 : i = 0
    · subst h0
      have hl : 0 < e.length := (List.getElem?_eq_some_iff.mp hi).1
      rw [List.getElem?_set_self hl] at hq
      obtain ⟨c', ns', ds', hw⟩ := hins ⟨c, ns, ds, by injection hq⟩
      exact ⟨c', ns', ds', by rw [hi, hw]; rfl⟩
    · rw [List.getElem?_set_ne h0] at hq
      exact ⟨c, ns, ds, hq⟩
  · have z := s.fr a u h1 h2 h3
    have ha : a ≠ x := fun q => by
      subst q
      rcases n3 with w | w
      · rw [h1] at w; cases w
      · exact h3 w
    unfold As at z ⊢
    rw [upd_ne ha]; exact z
  · by_cases hj : i = j
    · subst hj
      have hl : i < e.length := (List.getElem?_eq_some_iff.mp hi).1
      rw [List.getElem?_set_self hl] at h1
      rw [List.getElem?_set_self (by rw [f1]; exact hl)] at h2
      cases h1
      cases h2
      exact ⟨v, hv, r⟩
    · rw [List.getElem?_set_ne hj] at h1 h2
      have z := f2 j u fq h1 h2
      cases u with
      | none => exact z
      | some u =>
        obtain ⟨y, e1, r1⟩ := z
        refine ⟨y, e1, r1.ne fun hm => ?_⟩
        -- x is owned by slot i alone
        have dis : ∀ (F : List (List Addr)) (i j : Nat) (fi fj : List Addr), F.flatten.Nodup → F[i]? = some fi → F[j]? = some fj → i ≠ j → ∀ a ∈ fi, a ∉ fj := by
          intro F
          induction F with
          | nil => intro i j fi fj _ h; simp at h
          | cons f r ih =>
            intro i j fi fj hn h1 h2 hij a ha hb
            rw [List.flatten_cons, List.nodup_append] at hn
            cases i with
            | zero =>
              cases j with
              | zero => exact hij rfl
              | succ j =>
                simp at h1 h2
                subst h1
                exact hn.2.2 a ha a (List.mem_flatten.mpr ⟨fj, List.mem_of_getElem? h2, hb⟩) rfl
            | succ i =>
              cases j with
              | zero =>
                simp at h1 h2
                subst h2
                exact hn.2.2 a hb a (List.mem_flatten.mpr ⟨fi, List.mem_of_getElem? h1, ha⟩) rfl
              | succ j =>
                simp at h1 h2
                exact ih i j fi fj hn.2.1 h1 h2 (fun q => hij (by rw [q])) a ha hb
        exact dis F i j fp fq f3 hF h2 hj x hx hm
  · -- still no address twice
    have nd : ∀ (F : List (List Addr)) (i : Nat) (fi fj : List Addr), F.flatten.Nodup → F[i]? = some fi → (∀ a ∈ fj, a ∈ fi) → fj.Nodup → (F.set i fj).flatten.Nodup ∧ ∀ a ∈ (F.set i fj).flatten, a ∈ F.flatten := by
      intro F
      induction F with
      | nil => intro i fi fj _ h; simp at h
      | cons f r ih =>
        intro i fi fj hn h1 hs hj
        rw [List.flatten_cons, List.nodup_append] at hn
        cases i with
        | zero =>
          simp at h1
          subst h1
          rw [List.set_cons_zero, List.flatten_cons, List.nodup_append]
          refine ⟨⟨hj, hn.2.1, fun a ha b hb => hn.2.2 a (hs a ha) b hb⟩, fun a ha => ?_⟩
          rcases List.mem_append.mp ha with q | q
          · exact List.mem_append.mpr (.inl (hs a q))
          · exact List.mem_append.mpr (.inr q)
        | succ i =>
          simp at h1
          obtain ⟨q1, q2⟩ := ih i fi fj hn.2.1 h1 hs hj
          rw [List.set_cons_succ, List.flatten_cons, List.nodup_append]
          refine ⟨⟨hn.1, q1, fun a ha b hb => hn.2.2 a ha b (q2 b hb)⟩, fun a ha => ?_⟩
          rcases List.mem_append.mp ha with q | q
          · exact List.mem_append.mpr (.inl q)
          · exact List.mem_append.mpr (.inr (q2 a q))
    exact (nd F i fp fp2 f3 hF hsub hnd).1
  · have sub : ∀ (F : List (List Addr)) (i : Nat) (fi fj : List Addr), F[i]? = some fi → (∀ a ∈ fj, a ∈ fi) → ∀ a ∈ (F.set i fj).flatten, a ∈ F.flatten := by
      intro F i fi fj h1 hs a ha
      obtain ⟨fq, q1, q2⟩ := List.mem_flatten.mp ha
      rcases List.mem_or_eq_of_mem_set q1 with z | z
      · exact List.mem_flatten.mpr ⟨fq, z, q2⟩
      · subst z
        exact List.mem_flatten.mpr ⟨fi, List.mem_of_getElem? h1, hs a q2⟩
    exact f4 a (sub F i fp fp2 hF hsub a ha)
def selfK (ok : Nat → Bool) (i : Nat) (f : String) : Ow → Option Ow → MS
  | .val v, some (.ins c ns ds) => fun e S => if ok c && decide (ns.length < 900) then .ok .nx (e.set i (some (.ins c (putFD f v ns ds).1 (putFD f v ns ds).2))) S else .stuck
  | _, _ => fun _ _ => .stuck
def sSelf (ok : Nat → Bool) (i : Nat) (f : String) (fv : Env → M Ow) : MS := sb fv fun w e S => selfK ok i f w (e[i]?.getD none) e S
theorem ss_self {i : Nat} {x : Str} {f : String} {p0 p1 pos : Pos} {pv : Expr} {fv : Env → M Ow} {ok : Nat → Bool} (hK : X.K = C.K) (hN : X.N[i]? = some x) (hx : Vis X.env.scope x) (hd : (x == ("__debug__" : Str)) = false) (hcd : (x == ("__classdict__" : Str)) = false)
    (hv : Sv X C B W pv fv) (hc : ∀ c, ok c = true → ClsOk C.K C.ca c (Str.ofString f)) (hs : swapsWith pv (some (.Attribute (.Name x p0) (Str.ofString f) p1)) pos.line X.env = pure false) :
    Ss X C B W (.Assign [.Attribute (.Name x p0) (Str.ofString f) p1] pv pos) (sSelf ok i f fv) := PS.imp (ps_fld (pe_var hN hx hd hcd) hv hs) fun D σ H ⟨g, e, S, st, h⟩ => by
  refine ⟨g, e, S, st, PostS.seq st h fun w S1 v1 H1 g1 f1 st1 r1 h1 => ?_⟩
  have h1 : PostS C B W g1 (selfK ok i f w (e[i]?.getD none) e S1) D := h1
  cases w with
  | val v =>
    cases q : e[i]?.getD none with
    | none => rw [q] at h1; exact False.elim h1
    | some u =>
      rw [q] at h1
      cases u with
      | ins c ns ds =>
        have h1 : PostS C B W g1 (if ok c && decide (ns.length < 900) then .ok .nx (e.set i (some (.ins c (putFD f v ns ds).1 (putFD f v ns ds).2))) S1 else .stuck) D := h1
        have hi : e[i]? = some (some (.ins c ns ds)) := by
          cases z : e[i]? with
          | none => rw [z] at q; cases q
          | some u => rw [z] at q; exact congrArg some q
        by_cases hk : (ok c && decide (ns.length < 900)) = true
        · rw [if_pos hk] at h1
          rw [Bool.and_eq_true] at hk
          obtain ⟨F, f1', f2, f3, f4⟩ := st1.ow
          have hF : F[i]? = some F[i]! := by
            have hl : i < F.length := by rw [f1']; exact (List.getElem?_eq_some_iff.mp hi).1
            rw [List.getElem?_eq_getElem hl, getElem!_pos F i hl]
          obtain ⟨y, ey, ry⟩ := f2 i _ _ hi hF
          generalize F[i]! = fp at hF ry
          cases ry with
          | @ins a dx fs c ns ds ha hn r =>
            have k := hc c hk.1
            obtain ⟨p1', p2'⟩ := putFD_ok (f := f) r1.rep hn r
            refine ⟨.ref a, ?_, a, C.ca c, dx, fs, rfl, ha, by rw [hK]; exact k.cls, by rw [hK]; exact k.no, ?_, ?_⟩
            · cases z : σ[i]? with
              | none => rw [z] at ey; cases ey
              | some u => rw [z] at ey; exact congrArg some ey
            · have := of_decide_eq_true hk.2
              have e3 : fs.length = ns.length := by
                have := congrArg List.length hn
                rw [List.length_map, List.length_map] at this; exact this
              omega
            · refine h1 σ _ g1 (.refl g1) (st1.ownUpd hi hF f1' f2 f3 f4 (x := a) (fp2 := [a]) (by simp) ey (.ins upd_same p1' p2') (fun _ h => h) (by simp) fun _ => ⟨_, _, _, rfl⟩)
        · rw [if_neg hk] at h1; exact False.elim h1
      | _ => exact False.elim h1
  | _ => exact False.elim h1
end
end PV

set_option Elab.async false
set_option linter.all false
set_option maxRecDepth 100000
set_option maxHeartbeats 400000
/-! PV13: a def's body gives its promise. -/
namespace PV
open PySem PySem.Spec L2
open PyProof.Rows hiding St

def startE (n : Nat) (ds : List D) : Env := ds.map (fun d => some (.val d)) ++ List.replicate (n - ds.length) none
def outF : OutS → Out D
  | .ok .nx _ S => .ok .non S
  | .ok (.ret d) _ S => .ok d S
  | .ok .brk _ _ => .stuck
  | .ok .cont _ _ => .stuck
  | .exc c ns ds _ S => .exc c ns ds S
  | .stuck => .stuck
def funF (n : Nat) (m : MS) : List D → M D := fun ds S => outF (m (startE n ds) S)
def startI (n c : Nat) (ds : List D) : Env := some (.ins c [] []) :: startE (n - 1) ds
def insAt (c : Nat) (S : Store) : Option Ow → Out Fds
  | some (.ins c' ns ds) => if c' = c then .ok (ns, ds) S else .stuck
  | _ => .stuck
def insExc (k : Out Fds) : Option Ow → Out Fds
  | some (.ins _ _ _) => k
  | _ => .stuck
def outI (c : Nat) : OutS → Out Fds
  | .ok .nx e S => insAt c S (e[0]?.getD none)
  | .ok (.ret .non) e S => insAt c S (e[0]?.getD none)
  | .ok _ _ _ => .stuck
  | .exc c' ns ds e S => insExc (.exc c' ns ds S) (e[0]?.getD none)
  | .stuck => .stuck
def iniF (n c : Nat) (m : MS) : List D → M Fds := fun ds S => outI c (m (startI n c ds) S)

section
variable {C : Kx} {g g' : G} {e : Env} {S S' : Store} {σ : St} {H H' : Hp}
theorem start_len {N : List Str} {vs : List V} {ds : List D} (r : Reps C g vs ds) : (startE N.length ds).length = (L2.start N vs).length := by
  unfold startE L2.start
  rw [List.length_append, List.length_append, List.length_map, List.length_map, List.length_replicate, List.length_replicate, r.length]
theorem start_val {n : Nat} {vs : List V} {ds : List D} (r : Reps C g vs ds) {i : Nat} {w : Option Ow} (h : (startE n ds)[i]? = some w) : OwS C g H ((vs.map some ++ List.replicate (n - vs.length) none)[i]?.getD none) w [] := by
  unfold startE at h
  by_cases hi : i < ds.length
  · rw [List.getElem?_append_left (by rw [List.length_map]; exact hi), List.getElem?_map] at h
    cases q : ds[i]? with
    | none => rw [q] at h; cases h
    | some d =>
      rw [q] at h
      cases h
      obtain ⟨v, hv, rv⟩ := r.get q
      rw [List.getElem?_append_left (by rw [List.length_map, r.length]; exact hi), List.getElem?_map, hv]
      exact ⟨v, rfl, .val rv⟩
  · rw [List.getElem?_append_right (by rw [List.length_map]; omega)] at h
    rw [List.length_map] at h
    have hw : w = none := (List.mem_replicate.mp (List.mem_of_getElem? h)).2
    subst hw
    rfl
theorem nil_flat (n : Nat) : (List.replicate n ([] : List Addr)).flatten = [] := by
  induction n with
  | zero => rfl
  | succ n ih => rw [List.replicate_succ, List.flatten_cons, ih]; rfl
theorem str_start {lk : List Addr} {N : List Str} {vs : List V} {ds : List D} (m : Sim C lk g S H) (r : Reps C g vs ds) : StR C ⟨H, g, [], lk, []⟩ g (startE N.length ds) S (L2.start N vs) H := by
  refine ⟨m, .refl g, fun a o h => .inl h, fun a h => .inl h, fun a o h _ _ => by unfold As; rw [if_neg (by simp)]; exact h, start_len r, ⟨List.replicate (startE N.length ds).length [], by simp, fun i w fp h1 h2 => ?_, by rw [nil_flat]; exact List.nodup_nil, fun a ha => by rw [nil_flat] at ha; cases ha⟩, fun x r hx => by cases hx⟩
  have hf : fp = [] := (List.mem_replicate.mp (List.mem_of_getElem? h2)).2
  subst hf
  exact start_val r h1
theorem str_frm {lk : List Addr} {g0 : G} {H0 : Hp} (st : StR C ⟨H0, g0, [], lk, []⟩ g' e S' σ H') : Frm g0 H0 g' H' := by
  refine ⟨st.le, fun a o h hn => ?_, fun a h => ?_, fun a o h => ?_⟩
  · have z := st.fr a o h hn (by simp)
    unfold As at z
    rw [if_neg (by simp)] at z; exact z
  · rcases st.mn a h with q | q | q
    · exact .inl q
    · exact .inr q
    · cases q
  · rcases st.nfz a o h with q | q | q | q
    · exact .inl q
    · exact .inr (.inl q)
    · exact .inr (.inr q)
    · cases q
theorem str_startI {lk : List Addr} {N : List Str} {x dx : Addr} {c : Nat} {vs : List V} {ds : List D} (hN : N ≠ []) (m : Sim C lk g S H) (r : Reps C g vs ds) (hx : H x = some (.ins (C.ca c) dx [])) (n1 : g.Φ x = none) (n2 : x ∉ g.μ) :
    StR C ⟨H, g, [x], lk, []⟩ g (startI N.length c ds) S (L2.start N (.ref x :: vs)) H := by
  obtain ⟨k, hk⟩ : ∃ k, N.length = k + 1 := by
    cases N with
    | nil => exact absurd rfl hN
    | cons a b => exact ⟨b.length, rfl⟩
  have es : L2.start N (.ref x :: vs) = some (.ref x) :: (vs.map some ++ List.replicate (k - vs.length) none) := by
    unfold L2.start
    rw [List.map_cons, List.cons_append, List.length_cons, hk, Nat.add_sub_add_right]
  have el : (startE k ds).length = (vs.map some ++ List.replicate (k - vs.length) none).length := by
    unfold startE
    rw [List.length_append, List.length_append, List.length_map, List.length_map, List.length_replicate, List.length_replicate, r.length]
  have ee : startI N.length c ds = some (.ins c [] []) :: startE k ds := by unfold startI; rw [hk]; rfl
  rw [es, ee]
  refine ⟨m, .refl g, fun a o h => .inl h, fun a h => .inl h, fun a o h _ _ => by unfold As; rw [if_neg (by simp)]; exact h, by rw [List.length_cons, List.length_cons, el], ⟨[x] :: List.replicate (startE k ds).length [], by simp, fun i w fp h1 h2 => ?_, by rw [List.flatten_cons, nil_flat]; simp, fun a ha => ?_⟩, fun y r hy _ => by cases hy; rfl⟩
  · cases i with
    | zero =>
      simp at h1 h2
      subst h1 h2
      exact ⟨.ref x, rfl, .ins hx rfl .nil⟩
    | succ i =>
      simp only [List.getElem?_cons_succ] at h1 h2 ⊢
      have hf : fp = [] := (List.mem_replicate.mp (List.mem_of_getElem? h2)).2
      subst hf
      exact start_val r h1
  · rw [List.flatten_cons, nil_flat, List.append_nil] at ha
    have ha : a = x := by simpa using ha
    subst ha
    exact ⟨n1, n2, .inr (by simp)⟩
/-- the new instance, at an __init__'s end -/
theorem own_at {B : Bs} {c : Nat} {ns : List String} {ds : List D} (st : StR C B g e S σ H) (h : e[0]?.getD none = some (.ins c ns ds)) : ∃ a dx fs, σ[0]?.getD none = some (.ref a) ∧ H a = some (.ins (C.ca c) dx fs) ∧ fs.map (·.1) = ns.map Str.ofString ∧ Reps C g (fs.map (·.2)) ds ∧ g.Φ a = none ∧ a ∉ g.μ ∧ (B.H0 a = none ∨ a ∈ B.ex) := by
  have hi : e[0]? = some (some (.ins c ns ds)) := by
    cases z : e[0]? with
    | none => rw [z] at h; cases h
    | some u => rw [z] at h; exact congrArg some h
  obtain ⟨F, f1, f2, f3, f4⟩ := st.ow
  have hl : 0 < F.length := by rw [f1]; exact (List.getElem?_eq_some_iff.mp hi).1
  obtain ⟨y, ey, ry⟩ := f2 0 _ _ hi (List.getElem?_eq_getElem hl)
  generalize hF : F[0]'hl = fp at ry
  cases ry with
  | @ins a dx fs c ns ds ha hn r =>
    have mem : a ∈ F.flatten := List.mem_flatten.mpr ⟨F[0]'hl, List.getElem_mem hl, by rw [hF]; simp⟩
    obtain ⟨n1, n2, n3⟩ := f4 a mem
    exact ⟨a, dx, fs, ey, ha, hn, r, n1, n2, n3⟩
end

/-! ### what is known of a body's context -/
structure Yx where
  P : Program
  w : World
  K : PySem.W.Frag
  mg : Str → Option Value
  base : Heap
structure Xe (Y : Yx) (k : Nat) (N : List Str) (sc : Scope) (X : Cx) (W : WX) : Prop where
  prog : X.prog = Y.P
  w : X.w = Y.w
  K : X.K = Y.K
  mg : X.mg = Y.mg
  base : X.base = Y.base
  N : X.N = N
  scope : X.env.scope = sc
  room : Room (k + 2) X.A
  calm : X.calm = true
  takes : Takes X W
structure Xs (Y : Yx) (k : Nat) (N : List Str) (sc : Scope) (X : Cx) (W : WX) : Prop extends Xe Y k N sc X W where
  stack : X.stack = X.env :: X.outer
  frame : X.env.frame = some X.env.locals
  passes : PassesOwn (model X.prog X.w) X.A X.env X.xe
  fn : ∀ x, X.fn x = true
  kind : sc.kind = .function
theorem Xe.room1 {Y : Yx} {k : Nat} {N : List Str} {sc : Scope} {X : Cx} {W : WX} (h : Xe Y k N sc X W) : Room k X.A := h.room.mono (by omega)
theorem Xe.units {Y : Yx} {k : Nat} {N : List Str} {sc : Scope} {X : Cx} {W : WX} (h : Xe Y k N sc X W) : X.A.units + 1 < cLine := by have := h.room.un; omega
section
variable {Y : Yx} {C : Kx} {N ps : List Str} {scope : Scope} {x qual : Str} {params : Arguments} {body : List Stmt} {dvs : List V} {kws : List (Str × V)} {f : Addr} {fd : FuncData} {k : Nat}
theorem xe_body (hk : scope.kind = .function) {cdv : Value} {A : Around} {outer : List PySem.Env} {s : Shared} {H : Hp} {E : XK} (hr : Room (k + 2) (A.deeper (envOfC qual scope s.heap.objs.size f cdv))) :
    Xs Y k N scope (cxOf (L2.CX Y.P Y.w) Y.P Y.w Y.K Y.mg Y.base N qual scope f cdv A outer s H E) (fun cls d _ H => E cls d H) :=
  ⟨⟨rfl, rfl, rfl, rfl, rfl, rfl, rfl, hr, rfl, takes_of rfl rfl rfl rfl⟩, rfl, rfl, passes_of (K := fun e s'' => L2.CX Y.P Y.w outer H s E e s'') rfl, fun _ => rfl, hk⟩
/-- a def -/
theorem fn_body {m : MS} (F : FunD Y.K x qual params body scope dvs kws f fd) (Sc : FnScope N ps scope)
    (hb : ∀ (X : Cx) (B : Bs) (W : WX), Xs Y k N scope X W → Sss X C B W body m) : FnOk Y.P Y.w Y.K Y.mg Y.base (L2.CX Y.P Y.w) (k + 3) f fd ps (spD C ps.length (funF N.length m)) := by
  refine F.ok Sc (fun vs H Q E h => h.1) fun cdv A outer s H vs Q E hr ⟨hl, lk, g, S, ds, sim, r, po⟩ => ?_
  refine ⟨_, hb _ ⟨H, g, [], lk, []⟩ (fun cls d _ H => E cls d H) (xe_body Sc.kind hr), g, startE N.length ds, S, str_start sim r, ?_⟩
  unfold funF at po
  cases q : m (startE N.length ds) S with
  | stuck => rw [q] at po; exact po
  | exc c ns fs e' S' =>
    rw [q] at po
    exact fun cls dd σ' H' g' l st re => po cls dd H' g' (str_frm st) st.toSim re
  | ok fl e' S' =>
    rw [q] at po
    cases fl with
    | nx => exact fun σ' H' g' l st => po .non H' g' (str_frm st) st.toSim .non
    | ret d => exact fun v σ' H' g' l st rv => po v H' g' (str_frm st) st.toSim rv
    | brk => exact False.elim po
    | cont => exact False.elim po
/-- at an __init__'s end -/
theorem own_x {B : Bs} {g : G} {e : Env} {S : Store} {σ : St} {H : Hp} {x : Addr} {r0 : List Addr} (hB : B.ex = x :: r0) {c : Nat} {ns : List String} {ds : List D} (st : StR C B g e S σ H) (h : e[0]?.getD none = some (.ins c ns ds)) :
    ∃ dx fs, H x = some (.ins (C.ca c) dx fs) ∧ fs.map (·.1) = ns.map Str.ofString ∧ Reps C g (fs.map (·.2)) ds ∧ g.Φ x = none ∧ x ∉ g.μ := by
  obtain ⟨a, dx, fs, e1, h1, h2, h3, h4, h5, h6⟩ := own_at st h
  rw [st.sl x r0 hB ⟨c, ns, ds, h⟩] at e1
  cases e1
  exact ⟨dx, fs, h1, h2, h3, h4, h5⟩
theorem str_frmX {lk : List Addr} {g0 g : G} {H0 H : Hp} {e : Env} {S : Store} {σ : St} {x : Addr} (st : StR C ⟨H0, g0, [x], lk, []⟩ g e S σ H) (n1 : g.Φ x = none) (n2 : x ∉ g.μ) : FrmX x g0 H0 g H := by
  refine ⟨st.le, fun a o h hn hx => ?_, fun a h => ?_, fun a o h => ?_⟩
  · have z := st.fr a o h hn (by simpa using hx)
    unfold As at z
    rw [if_neg (by simp)] at z; exact z
  · rcases st.mn a h with q | q | q
    · exact .inl q
    · exact .inr q
    · have q : a = x := by simpa using q
      subst q
      exact absurd h n2
  · rcases st.nfz a o h with q | q | q | q
    · exact .inl q
    · exact .inr (.inl q)
    · exact .inr (.inr q)
    · have q : a = x := by simpa using q
      subst q
      rw [n1] at h; cases h
theorem insAt_ok {c : Nat} {S : Store} {u : Option Ow} {lk : List Addr} {x : Addr} {g : G} {H : Hp} {Q : VK} {E : XK} (po : PostI C lk x c g H (insAt c S u) Q E) : ∃ ns ds, u = some (.ins c ns ds) ∧ PostI C lk x c g H (.ok (ns, ds) S) Q E := by
  cases u with
  | none => exact False.elim po
  | some u =>
    cases u with
    | ins c' ns ds =>
      have po : PostI C lk x c g H (if c' = c then .ok (ns, ds) S else .stuck) Q E := po
      by_cases h : c' = c
      · rw [if_pos h] at po
        subst h
        exact ⟨ns, ds, rfl, po⟩
      · rw [if_neg h] at po; exact False.elim po
    | _ => exact False.elim po
/-- an __init__ -/
theorem ini_body {m : MS} {c n : Nat} (F : FunD Y.K x qual params body scope dvs kws f fd) (Sc : FnScope N ps scope) (hn : ps.length = n + 1) (hN : N ≠ [])
    (hb : ∀ (X : Cx) (B : Bs) (W : WX), Xs Y k N scope X W → Sss X C B W body m) : FnOk Y.P Y.w Y.K Y.mg Y.base (L2.CX Y.P Y.w) (k + 3) f fd ps (spI C c n (iniF N.length c m)) := by
  refine F.ok Sc (fun vs H Q E h => h.1.trans hn.symm) fun cdv A outer s H vs Q E hr ⟨hl, lk, x, dx, us, g, S, ds, ev, hx, n1, n2, sim, r, po⟩ => ?_
  subst ev
  refine ⟨_, hb _ ⟨H, g, [x], lk, []⟩ (fun cls d _ H => E cls d H) (xe_body Sc.kind hr), g, startI N.length c ds, S, str_startI hN sim r hx n1 n2, ?_⟩
  unfold iniF at po
  cases q : m (startI N.length c ds) S with
  | stuck => rw [q] at po; exact po
  | exc c' ns fs e' S' =>
    rw [q] at po
    intro cls dd σ' H' g' l st re
    have po : PostI C lk x c g H (insExc (.exc c' ns fs S') (e'[0]?.getD none)) Q E := po
    cases z : e'[0]?.getD none with
    | none => rw [z] at po; exact False.elim po
    | some u =>
      rw [z] at po
      cases u with
      | ins c2 ns2 ds2 =>
        obtain ⟨dx', fs', h1, h2, h3, h4, h5⟩ := own_x rfl st z
        exact po cls dd H' g' (str_frmX st h4 h5) st.toSim re
      | _ => exact False.elim po
  | ok fl e' S' =>
    rw [q] at po
    have go : PostI C lk x c g H (insAt c S' (e'[0]?.getD none)) Q E → ∀ σ' H' g', g.Le g' → StR C ⟨H, g, [x], lk, []⟩ g' e' S' σ' H' → Q .non H' := fun po σ' H' g' l st => by
      obtain ⟨ns, ds', z, po⟩ := insAt_ok po
      obtain ⟨dx', fs', h1, h2, h3, h4, h5⟩ := own_x rfl st z
      exact po H' g' dx' fs' (str_frmX st h4 h5) st.toSim h1 h2 h3 h4 h5
    cases fl with
    | nx => exact fun σ' H' g' l st => go po σ' H' g' l st
    | ret d =>
      cases d with
      | non =>
        intro v σ' H' g' l st rv
        cases rv
        exact go po σ' H' g' l st
      | _ => exact False.elim po
    | brk => exact False.elim po
    | cont => exact False.elim po
end
end PV

set_option Elab.async false
set_option linter.all false
set_option maxRecDepth 100000
set_option maxHeartbeats 1000000
/-! PX1: methods; == and != of one's own. -/
namespace PV
open PySem PySem.Spec L2
open PyProof.Rows hiding St
/-- the class at C has no __ne__ and the __eq__ at f; it stands straight under object -/
def neB (K : PySem.W.Frag) (C f : Addr) : Bool := match K.lookup C with
  | some ⟨.type "type", _, .cls cd, sl⟩ => (match cd.mro, sl.toList with
    | [.ref C', .type "object"], [_, _, _, _, some (.builtin n), _] => decide (C' = C) && (!cd.hasDel && (PySem.W.nsOkIn K cd.ns && (decide (PySem.W.nsIn K cd.ns "__ne__" = some none) && decide (PySem.W.nsIn K cd.ns "__eq__" = some (some (.ref f))))))
    | _, _ => false)
  | _ => false
section
variable {X : Cx} {C : Kx} {B : Bs} {W : WX} {g g' : G} {e : Env} {S S' : Store} {σ : St} {H H' : Hp}
theorem someOf {K : PySem.W.Frag} {h : Heap} {N : Addr} {x : Str} {v : Value} (X0 : K.In h) (e0 : PySem.W.nsOkIn K N = true) (e : PySem.W.nsIn K N x = some (some v)) : h.nsMap N x = some v := by
  have G : h.Ns N (h.nsMap N) := .of_isNs (PySem.W.isNs_of_in X0 e0)
  obtain ⟨ob, ens, pl, hob, hdt, _, hfind⟩ := G
  unfold PySem.W.nsIn at e
  split at e
  · rename_i lk
    have same := X0 _ _ lk
    rw [hob] at same
    cases same
    cases hdt
    split at e
    · rename_i q
      cases e
      rw [← hfind]
      unfold nsFind findBy
      rw [← Array.find?_toList, q]; rfl
    · split at e <;> cases e
  · cases e
theorem noneOf {K : PySem.W.Frag} {h : Heap} {N : Addr} {x : Str} (X0 : K.In h) (e : PySem.W.nsOkIn K N = true) (q : PySem.W.nsIn K N x = some none) : h.nsMap N x = none := PySem.W.nsMap_none_of_in X0 e q
theorem neB_ok {K : PySem.W.Frag} {h : Heap} {x Ca f : Addr} {ox : Obj} (X0 : K.In h) (q : neB K Ca f = true) (hf : PySem.W.isFn K (.ref f) = true) (hx : h.get? x = some ox) (hc : ox.cls = .ref Ca) : Heap.OwnEqNoNe h x Ca f "object" [.type "object"] := by
  unfold neB at q
  split at q
  · rename_i dd cl sls lkC
    split at q
    · rename_i C1 k0 k1 k2 k3 nw k5 em es
      simp only [Bool.and_eq_true, decide_eq_true_eq, Bool.not_eq_true'] at q
      obtain ⟨e1, e2, hok, hne, heq⟩ := q
      subst e1
      obtain ⟨nm, bs, mr, ns, qn, hd, sn, sub, ab, col, dl⟩ := cl
      dsimp only at em e2 hok hne heq
      subst em e2
      obtain ⟨lsl⟩ := sls
      dsimp only at es
      subst es
      have ht : PySem.W.typeIn K (.ref f) = some (.type "function") := beq_iff_eq.mp hf
      obtain ⟨of, hof, hoc⟩ := Option.map_eq_some_iff.mp (show (K.lookup f).map (·.cls) = some (.type "function") from ht)
      exact ⟨ox, of, nm, qn, ns, bs, hd, sn, sub, ab, col, dd, k0, k1, k2, k3, k5, nw, h.nsMap ns, _, hx, hc, X0 _ _ lkC, .of_isNs (PySem.W.isNs_of_in X0 hok), someOf X0 hok heq, X0 _ _ hof, hoc, F.cmp_object.mro, F.cmp_object.eq.lookup, noneOf X0 hok hne⟩
    · cases q
  · cases q

/-- a def is called, from anywhere within this body's frame -/
theorem run_at {A : Around} {pins : List (Addr × Obj)} {s : Shared} {k : Nat} {f : Addr} {fd : FuncData} {ps : List Str} {sp : Sp} {us : List Value} {vs : List V} {Q : VK} {E : XK}
    (F : FnOk X.prog X.w X.K X.mg X.base (L2.CX X.prog X.w) k f fd ps sp) (hr : Room k A) (hfr : A.frames = X.A.frames) (hb : Binds X.K fd ps []) (hx : ∀ u s', L2.CX X.prog X.w X.stack H s E u s' → X.xe u s') (I : Inv X pins σ H s) (r : Vals vs us) (h : sp vs H Q E) :
    wpAny (model X.prog X.w) A (PySem.call (.ref f) us) (EP X pins σ Q) X.xe s := by
  have en : Env0 X.prog X.w X.K X.mg X.base A X.stack s H := by
    have e1 := I.env0
    exact ⟨hfr.trans e1.frames, e1.mod, e1.bs, e1.bsz, e1.funs, e1.frf, e1.hok, e1.bare⟩
  have ln : (us ++ []).length = ps.length := by rw [List.append_nil, ← r.length]; exact F.len _ _ _ _ h
  have bd := hb s us I.kIn ln
  rw [List.append_nil] at bd
  refine wpAny_call (codeAny_mono (F.run A X.stack s H ⟨us, []⟩ us vs Q E hr en bd r h) fun out s' hq => ?_)
  cases out with
  | error u => exact hx u s' hq
  | ok fl =>
    cases fl with
    | ret u => exact I.after hq
    | next => exact False.elim hq
    | brk => exact False.elim hq
    | cont => exact False.elim hq
theorem noExc {s : Shared} {u : Value} {s' : Shared} (h : L2.CX X.prog X.w X.stack H s (fun _ _ _ => False) u s') : X.xe u s' := by
  obtain ⟨_, _, _, _, _, _, _, _, _, _, _, _, q⟩ := h
  exact False.elim q
/-- what is known of a class's own == -/
structure EqC (X : Cx) (C : Kx) (k c : Nat) (F : List D → M D) : Prop where
  ex : ∃ f fd ps, FnOk X.prog X.w X.K X.mg X.base (L2.CX X.prog X.w) k f fd ps (spD C 2 F) ∧ PySem.W.findIn X.K (.ref (C.ca c)) "__eq__" = some (some (.ref f)) ∧ PySem.W.isFn X.K (.ref f) = true ∧ Binds X.K fd ps [] ∧ neB X.K (C.ca c) f = true
/-- x == y: the own ==, which tells True or False -/
def rOwn (C : Kx) (T : Nat → Option (List D → M D)) (neg : Bool) : R2 := fun x y H Q => ∃ a b c dx dy fs gs F, x = .ref a ∧ y = .ref b ∧ H a = some (.ins (C.ca c) dx fs) ∧ H b = some (.ins (C.ca c) dy gs) ∧ T c = some F ∧
  spD C 2 F [.ref a, .ref b] H (fun v H' => ∃ t, v = .bl t ∧ Q (.bl (if neg then !t else t)) H') fun _ _ _ => False
theorem op_eqOwn {k : Nat} {T : Nat → Option (List D → M D)} (hr : Room k X.A) (hT : ∀ c F, T c = some F → EqC X C k c F) : OpR X (compareOp .Eq) (rOwn C T false) := by
  intro pins s σ H x y u v Q I rx ry h
  obtain ⟨a, b, c, dx, dy, fs, gs, F, rfl, rfl, ha, hb, hF, sp⟩ := h
  obtain ⟨f, fd, ps, G, h1, h2, h3, h4⟩ := (hT c F hF).ex
  cases rx
  cases ry
  show wpAny (model X.prog X.w) X.A (richCompare .Eq (.ref a) (.ref b)) (EP X pins σ Q) X.xe s
  obtain ⟨m1, O1, _⟩ := ins_get I.hok ha
  obtain ⟨m2, O2, _⟩ := ins_get I.hok hb
  obtain ⟨o1, J1, _⟩ := O1.look
  obtain ⟨o2, J2, _⟩ := O2.look
  obtain ⟨m, fr⟩ := I.fr
  refine PySem.W.cmp_K (op := .Eq) (tb := .ref (C.ca c)) hr.units0 fr I.ok.mod.kin J1 J2.type (by simp [PySem.W.notFirst]) h1 h2 ?_
  refine wpAny_mono (run_at (Q := fun v H' => ∃ t, v = .bl t ∧ Q (.bl t) H') G hr rfl h3 (fun _ _ => noExc) I (us := [.ref a, .ref b]) (vs := [.ref a, .ref b]) (.cons rfl (.cons rfl .nil)) sp) (fun r s' q => ?_) fun _ _ z => z
  obtain ⟨z, H', I', rz, t, rfl, q⟩ := q
  cases rz
  exact ⟨.bl t, H', I', rfl, q⟩
theorem op_neOwn {k : Nat} {T : Nat → Option (List D → M D)} (hr : Room (k + 1) X.A) (hT : ∀ c F, T c = some F → EqC X C k c F) : OpR X (compareOp .NotEq) (rOwn C T true) := by
  intro pins s σ H x y u v Q I rx ry h
  obtain ⟨a, b, c, dx, dy, fs, gs, F, rfl, rfl, ha, hb, hF, sp⟩ := h
  obtain ⟨f, fd, ps, G, h1, h2, h3, h4⟩ := (hT c F hF).ex
  cases rx
  cases ry
  show wpAny (model X.prog X.w) X.A (richCompare .NotEq (.ref a) (.ref b)) (EP X pins σ Q) X.xe s
  obtain ⟨m1, O1, _⟩ := ins_get I.hok ha
  obtain ⟨m2, O2, _⟩ := ins_get I.hok hb
  have z1 := neB_ok I.kIn h4 h2 O1.obj rfl
  have go := run_at (A := X.A.in1) (Q := fun v H' => ∃ t, v = .bl t ∧ Q (.bl (!t)) H') G hr.in1 rfl h3 (fun _ _ => noExc) I (us := [.ref a, .ref b]) (vs := [.ref a, .ref b]) (.cons rfl (.cons rfl .nil)) sp
  obtain ⟨hp, gn, dr, tk, os⟩ := s
  refine richCompare_ne_ownEq PySem.F.cmp_object z1 O2.obj rfl (by have := hr.un; omega) (wpAny_mono go (fun r s' q => ?_) fun _ _ z => z)
  obtain ⟨z, H', I', rz, t, rfl, q⟩ := q
  cases rz
  exact ⟨t, rfl, .bl (!t), H', I', rfl, q⟩
end
end PV

set_option Elab.async false
set_option linter.all false
set_option maxRecDepth 100000
set_option maxHeartbeats 1000000
/-! PX2: methods, own ==, list(..) that will be changed, methods of lists. -/
namespace PV
open PySem PySem.Spec L2
open PyProof.Rows hiding St
/-! ### kept values -/
def evE2 (k : D → D → M Ow) (a b : Env → M Ow) : Env → M Ow := fun e => do
  let x ← a e
  let y ← b e
  let x ← x.strict
  let y ← y.strict
  k x y
def evAll : List (Env → M Ow) → Env → M (List Ow)
  | [] => evNil
  | f :: r => evCons f (evAll r)
section
variable {X : Cx} {C : Kx} {B : Bs} {W : WX} {g g' : G} {e : Env} {S S' : Store} {σ : St} {H H' : Hp}
theorem post_strict {α β : Type} {R : G → Hp → β → α → Prop} {w : Ow} {k : D → M α} {Q : β → Hp → Prop} (h : Post C B W R g e σ H ((w.strict >>= k) S) Q) : ∃ d, w = .val d ∧ Post C B W R g e σ H (k d S) Q := by
  cases w with
  | val d => exact ⟨d, rfl, h⟩
  | _ => exact False.elim h
def OpE (C : Kx) (B : Bs) (W : WX) (r : R2) (k : D → D → M Ow) : Prop := ∀ g e S σ H v1 v2 d1 d2 Q, StR C B g e S σ H → Rep C g v1 d1 → Rep C g v2 d2 → Post C B W (RO C) g e σ H (k d1 d2 S) Q → r v1 v2 H Q
theorem tOp_ofE {r : R2} {k : D → D → M Ow} (ho : OpE C B W r k) {fa fb : Env → M Ow} {σ : St} {H : Hp} {Q : VK} (h : tE C B W (evE2 k fa fb) σ H Q) : tOp r (tE C B W fa) (tE C B W fb) σ H Q := by
  obtain ⟨g, e, S, st, h⟩ := h
  refine ⟨g, e, S, st, Post.seq h fun x S1 v1 H1 g1 f1 st1 r1 h1 => ?_⟩
  refine ⟨g1, e, S1, st1, Post.seq h1 fun y S2 v2 H2 g2 f2 st2 r2 h2 => ?_⟩
  obtain ⟨d1, rfl, h3⟩ := post_strict h2
  obtain ⟨d2, rfl, h4⟩ := post_strict h3
  exact ho g2 e S2 σ H2 v1 v2 d1 d2 Q st2 ((r1.mono f2).rep) r2.rep h4
/-- own == and != -/
def eqiD (T : Nat → Option (List D → M D)) (neg : Bool) (x y : D) : M Ow := fun S => match insOf S x, insOf S y with
  | some (c, _, _), some (c', _, _) => if c = c' then match T c with
    | some F => match F [x, y] S with
      | .ok (.bl b) S' => .ok (.val (.bl (if neg then !b else b))) S'
      | _ => .stuck
    | none => .stuck
    else .stuck
  | _, _ => .stuck
theorem ope_eqi {T : Nat → Option (List D → M D)} {neg : Bool} : OpE C B W (rOwn C T neg) (eqiD T neg) := by
  intro g e S σ H v1 v2 d1 d2 Q st r1 r2 h
  unfold eqiD at h
  cases q1 : insOf S d1 with
  | none => rw [q1] at h; exact False.elim h
  | some p1 =>
    obtain ⟨c, ns1, ds1⟩ := p1
    cases q2 : insOf S d2 with
    | none => rw [q1, q2] at h; exact False.elim h
    | some p2 =>
      obtain ⟨c', ns2, ds2⟩ := p2
      rw [q1, q2] at h
      have h : Post C B W (RO C) g e σ H (if c = c' then match T c with
        | some F => match F [d1, d2] S with
          | .ok (.bl b) S' => .ok (.val (.bl (if neg then !b else b))) S'
          | _ => .stuck
        | none => .stuck
        else .stuck) Q := h
      by_cases hc : c = c'
      · subst hc
        rw [if_pos rfl] at h
        cases qT : T c with
        | none => rw [qT] at h; exact False.elim h
        | some F =>
          rw [qT] at h
          have h : Post C B W (RO C) g e σ H (match F [d1, d2] S with
            | .ok (.bl b) S' => .ok (.val (.bl (if neg then !b else b))) S'
            | _ => .stuck) Q := h
          obtain ⟨a, dx, fs, rfl, ha, _, _⟩ := st.toSim.insq (RepF.rep r1) q1
          obtain ⟨b, dy, gs, rfl, hb, _, _⟩ := st.toSim.insq (RepF.rep r2) q2
          refine ⟨a, b, c, dx, dy, fs, gs, F, rfl, rfl, ha, hb, qT, rfl, B.lks, g, S, [d1, d2], st.toSim, .cons r1 (.cons r2 .nil), ?_⟩
          cases qF : F [d1, d2] S with
          | ok d S2 =>
            rw [qF] at h
            cases d with
            | bl t =>
              intro v H' g' f m r
              cases r
              exact ⟨t, rfl, h _ H' g' f (st.call f m) (.val (.bl _))⟩
            | _ => exact False.elim h
          | exc c1 n1 d1 S2 => rw [qF] at h; exact False.elim h
          | stuck => rw [qF] at h; exact False.elim h
      · rw [if_neg hc] at h; exact False.elim h
theorem sv_eqi {k : Nat} {T : Nat → Option (List D → M D)} {pa pb : Expr} {pos : Pos} {fa fb : Env → M Ow} (hr : Room (k + 1) X.A) (hT : ∀ c F, T c = some F → EqC X C k c F) (ha : Sv X C B W pa fa) (hb : Sv X C B W pb fb) (hm : behindInMarks .Eq pb = false) :
    Sv X C B W (.Compare pa [.Eq] [pb] pos) (evE2 (eqiD T false) fa fb) := PE.imp (pe_cmpR (op_eqOwn (hr.mono (Nat.le_succ k)) hT) ha hb hm) fun σ H Q h => tOp_ofE ope_eqi h
theorem sv_nei {k : Nat} {T : Nat → Option (List D → M D)} {pa pb : Expr} {pos : Pos} {fa fb : Env → M Ow} (hr : Room (k + 1) X.A) (hT : ∀ c F, T c = some F → EqC X C k c F) (ha : Sv X C B W pa fa) (hb : Sv X C B W pb fb) (hm : behindInMarks .NotEq pb = false) :
    Sv X C B W (.Compare pa [.NotEq] [pb] pos) (evE2 (eqiD T true) fa fb) := PE.imp (pe_cmpR (op_neOwn hr hT) ha hb hm) fun σ H Q h => tOp_ofE ope_eqi h

theorem sb_eqi {k : Nat} {T : Nat → Option (List D → M D)} {pa pb : Expr} {pos : Pos} {fa fb : Env → M Ow} (hr : Room (k + 1) X.A) (hT : ∀ c F, T c = some F → EqC X C k c F) (ha : Sv X C B W pa fa) (hb : Sv X C B W pb fb) (hm : behindInMarks .Eq pb = false) :
    Sb X C B W (.Compare pa [.Eq] [pb] pos) (asB (evE2 (eqiD T false) fa fb)) := PT.imp (pt_cmpR (op_eqOwn (hr.mono (Nat.le_succ k)) hT) ha hb hm) fun σ H Q h => tTest_of (fun σ H Q h => tOp_ofE ope_eqi h) h
theorem sb_nei {k : Nat} {T : Nat → Option (List D → M D)} {pa pb : Expr} {pos : Pos} {fa fb : Env → M Ow} (hr : Room (k + 1) X.A) (hT : ∀ c F, T c = some F → EqC X C k c F) (ha : Sv X C B W pa fa) (hb : Sv X C B W pb fb) (hm : behindInMarks .NotEq pb = false) :
    Sb X C B W (.Compare pa [.NotEq] [pb] pos) (asB (evE2 (eqiD T true) fa fb)) := PT.imp (pt_cmpR (op_neOwn hr hT) ha hb hm) fun σ H Q h => tTest_of (fun σ H Q h => tOp_ofE ope_eqi h) h
/-! ### o.m(..), a method of one's own -/
def insC (c : Nat) (m : String) (x : D) : M Unit := fun S => match insOf S x with
  | some (c', ns, _) => if decide (c' = c) && !ns.contains m then .ok () S else .stuck
  | none => .stuck
def evMeth (c : Nat) (m : String) (n : Nat) (F : List D → M D) (a : Env → M Ow) (as : Env → M (List Ow)) : Env → M Ow := fun e => do
  let w ← a e
  let x ← w.strict
  insC c m x
  let ws ← as e
  let ds ← M.ofO (stricts ws)
  guardM (ds.length + 1 == n)
  let d ← F (x :: ds)
  M.pure (.val d)
/-- what is known of a class's method -/
structure MtC (X : Cx) (C : Kx) (k c : Nat) (m : String) (n : Nat) (F : List D → M D) : Prop where
  ex : ∃ f fd ps, Cls X.K (C.ca c) ∧ Meth X.K (C.ca c) (Str.ofString m) f ∧ FnOk X.prog X.w X.K X.mg X.base (L2.CX X.prog X.w) k f fd ps (spD C n F) ∧ Binds X.K fd ps []
theorem lookF_none {fs : List (Str × V)} {ns : List String} {m : String} (h : fs.map (·.1) = ns.map Str.ofString) (hm : (!ns.contains m) = true) : fs.lookup (Str.ofString m) = none := by
  induction fs generalizing ns with
  | nil => rfl
  | cons p r ih =>
    cases ns with
    | nil => cases h
    | cons n ns =>
      rw [List.map_cons, List.map_cons] at h
      injection h with h1 h2
      rw [List.contains_cons, Bool.not_or, Bool.and_eq_true] at hm
      obtain ⟨k, v⟩ := p
      have h1 : k = Str.ofString n := h1
      rw [List.lookup_cons]
      have hne : (Str.ofString m == k) = false := by
        rw [h1]
        refine beq_eq_false_iff_ne.mpr fun z => ?_
        have e1 := ofS_inj z
        rw [e1] at hm
        simp at hm
      rw [hne]
      exact ih h2 hm.2
theorem insC_ok {α : Type} {c : Nat} {m : String} {d : D} {v : V} {k : M α} {β : Type} {R : G → Hp → β → α → Prop} {Q : β → Hp → Prop} (st : StR C B g e S σ H) (r : Rep C g v d) (h : Post C B W R g e σ H ((insC c m d >>= fun _ => k) S) Q) :
    ∃ a dx fs, v = .ref a ∧ H a = some (.ins (C.ca c) dx fs) ∧ fs.lookup (Str.ofString m) = none ∧ Post C B W R g e σ H (k S) Q := by
  rw [bind_ap] at h
  unfold insC at h
  cases q : insOf S d with
  | none => rw [q] at h; exact False.elim h
  | some p =>
    obtain ⟨c', ns, ds⟩ := p
    rw [q] at h
    obtain ⟨a, dx, fs, e1, h1, h2, _⟩ := st.toSim.insq (RepF.rep r) q
    by_cases hb : (decide (c' = c) && !ns.contains m) = true
    · obtain ⟨b1, b2⟩ := Bool.and_eq_true_iff.mp hb
      have e2 : c' = c := of_decide_eq_true b1
      subst e2
      refine ⟨a, dx, fs, e1, h1, lookF_none h2 b2, ?_⟩
      dsimp only at h
      rw [if_pos hb] at h
      exact h
    · dsimp only at h
      rw [if_neg hb] at h; exact False.elim h
/-- from the caller's end to the method's -/
theorem meth_end {F : List D → M D} {n : Nat} {ws : List Ow} {vs : List V} {v : V} {d : D} {Q : VK} (st : StR C B g e S σ H) (r0 : Rep C g v d) (r1 : Paired (RepO C g H) vs ws)
    (h : Post C B W (RO C) g e σ H (((do
      let ds ← M.ofO (stricts ws)
      guardM (ds.length + 1 == n)
      let d ← F (d :: ds)
      M.pure (.val d)) : M Ow) S) Q) : spD C n F (v :: vs) H Q (WE W σ) := by
  obtain ⟨ds, e1, h⟩ := post_ofO h
  obtain ⟨hl, h⟩ := post_guard h
  have a1 := stricts_ok r1 e1
  refine ⟨by rw [List.length_cons, a1.length]; exact beq_iff_eq.mp hl, B.lks, g, S, _, st.toSim, .cons r0 a1, ?_⟩
  rw [bind_ap] at h
  refine post_call st ?_
  cases q : F (d :: ds) S with
  | ok d S' => rw [q] at h; exact h
  | exc c ns ds S' => rw [q] at h; exact h
  | stuck => rw [q] at h; exact h
theorem passE {pins : List (Addr × Obj)} {s : Shared} (tk : Takes X W) (I : Inv X pins σ H s) : ∀ u s', L2.CX X.prog X.w X.stack H s (WE W σ) u s' → X.xe u s' := fun u s' h => passAt tk σ pins H s u s' I h
theorem meth_ev {po : Expr} {ps : List Expr} {m : Str} {ap pos : Pos} {env : PySem.Env} (hc : notCall po = true) (hs : noStars ps = true) (hl : (ap.endLine == pos.line) = true) (hn : ps.length < 30) :
    ∃ pl : Sem Bool, eval (.Call (.Attribute po m ap) ps [] pos) env = (do
      let ov ← eval po env
      standAt ap.atName
      let (f, first) ← holding [ov] (getMethod ov m pl)
      callWith pos f first (backTo pos (starEach ps env)) (backToKw pos (keywordEach [] env))) := by
  refine ⟨(do return (← importBound po env).getD true), ?_⟩
  have few : methodCallForm (ps.length + ([] : List Keyword).length) (backTo pos (starEach ps env)) (backToKw pos (keywordEach [] env)) = true := by
    unfold methodCallForm
    have a1 : (backTo pos (starEach ps env)).all (!·.1) = true := by
      rw [List.all_eq_true]
      intro x hx
      have := backTo_free (env := env) (pos := pos) hs
      rw [List.any_eq_false] at this
      have z := this x hx
      cases q : x.1
      · rfl
      · rw [q] at z; exact absurd rfl z
    rw [a1]
    show (true && true && decide (ps.length + 0 + 0 < 30)) = true
    simpa using hn
  rw [arm_eval_Call, attrBase_free hc]
  unfold methodCall
  simp only [few, calleeOf, methodCallPos, hl, if_true, Bool.not_true, Bool.or_true, Bool.false_or, pure_bind]
theorem sv_meth {c k n : Nat} {m : String} {F : List D → M D} {po : Expr} {ps : List Expr} {ap pos : Pos} {a : Env → M Ow} {as : Env → M (List Ow)} (hr : Room k X.A) (hm : MtC X C k c m n F) (tk : Takes X W) (ho : Sv X C B W po a) (ha : Sas X C B W ps as) (hs : noStars ps = true) (hnil : ps = [] → as = evNil)
    (hev : ∃ pl : Sem Bool, eval (.Call (.Attribute po (Str.ofString m) ap) ps [] pos) X.env = (do
      let ov ← eval po X.env
      standAt ap.atName
      let (f, first) ← holding [ov] (getMethod ov (Str.ofString m) pl)
      callWith pos f first (backTo pos (starEach ps X.env)) (backToKw pos (keywordEach [] X.env)))) :
    Sv X C B W (.Call (.Attribute po (Str.ofString m) ap) ps [] pos) (evMeth c m n F a as) := by
  obtain ⟨f, fd, prs, cl, me, G, bd⟩ := hm.ex
  obtain ⟨pl, hev⟩ := hev
  refine ⟨fun pins s σ H Q I ⟨g, e, S, st, h⟩ => ?_⟩
  refine PySem.W.methodCall_KW (pl := pl) (thn (ho.run pins s σ H (fun v H1 => ∃ a dx fs, v = .ref a ∧ H1 a = some (.ins (C.ca c) dx fs) ∧ fs.lookup (Str.ofString m) = none ∧ tG C B W (ROs C) as σ H1 fun vs H2 => spD C n F (v :: vs) H2 Q (WE W σ)) I ?_) fun u s1 ⟨x, H1, I1, rx, a', dx, fs, ex, ea, l, q⟩ => ?_) hev
  · refine ⟨g, e, S, st, Post.seq h fun w S1 v1 H1 g1 f1 st1 r1 h1 => ?_⟩
    obtain ⟨d, rfl, h2⟩ := post_strict h1
    obtain ⟨a1, dx, fs, e1, e2, e3, h3⟩ := insC_ok st1 r1.rep h2
    refine ⟨a1, dx, fs, e1, e2, e3, g1, e, S1, st1, Post.seq h3 fun ws S2 vs H2 g2 f2 st2 r2 h4 => ?_⟩
    exact meth_end st2 (r1.mono f2).rep r2 h4
  subst ex
  cases rx
  refine getmeth_ok I1 ea cl me l ?_
  cases ps with
  | nil =>
    have en := hnil rfl
    subst en
    obtain ⟨g2, e2, S2, st2, q2⟩ := q
    have q3 : spD C n F [V.ref a'] H1 Q (WE W σ) := q2.ret st2 .nil
    exact PySem.W.callWith_K0 (first := [.ref a']) I1.kIn me.kp (run_at (us := [.ref a']) (vs := [.ref a']) G hr rfl bd (passE tk I1) I1 (.cons rfl .nil) q3)
  | cons p0 ps =>
    have hs0 : noStars ps = true ∧ starEach (p0 :: ps) X.env = (false, eval p0 X.env) :: starEach ps X.env := by
      unfold noStars at hs
      rw [List.all_cons, Bool.and_eq_true] at hs
      exact ⟨hs.2, starEach_cons hs.1⟩
    refine PySem.W.callWith_K (first := [.ref a']) (h₀ := X.base) I.ok.mod.kin me.kp (thn (ha.run pos pins s1 σ H1 _ I1 q) fun us s2 ⟨vs, H2, I2, r, q2⟩ => ⟨I2.kIn, ?_⟩) hs0.2 (backTo_free hs0.1)
    exact run_at (us := .ref a' :: us) (vs := .ref a' :: vs) G hr rfl bd (passE tk I2) I2 (.cons rfl r) q2
end
end PV

set_option Elab.async false
set_option linter.all false
set_option maxRecDepth 100000
set_option maxHeartbeats 1000000
/-! PX3: isinstance; list(..) that will be changed; methods of lists. -/
namespace PV
open PySem PySem.Spec L2
open PyProof.Rows hiding St
section
variable {X : Cx} {C : Kx} {B : Bs} {W : WX} {g g' : G} {e : Env} {S S' : Store} {σ : St} {H H' : Hp}
/-! ### isinstance(x, T) of an own class T -/
def dataTys : List String := ["NoneType", "bool", "int", "str", "tuple", "list"]
def isiD (sub : Nat → Nat → Option Bool) (dat : Nat → Bool) (c' : Nat) (x : D) : M Ow := fun S => match insOf S x with
  | some (c, _, _) => match sub c c' with
    | some b => .ok (.val (.bl b)) S
    | none => .stuck
  | none => if dat c' then (match x with
    | .non | .bl _ | .int _ | .str _ | .tup _ | .lst _ => .ok (.val (.bl false)) S
    | _ => .stuck) else .stuck
def evIs (sub : Nat → Nat → Option Bool) (dat : Nat → Bool) (c' : Nat) (a : Env → M Ow) : Env → M Ow := fun e => do
  let w ← a e
  let x ← w.strict
  isiD sub dat c' x
/-- an own class whose instances' type is told -/
def clsB (K : PySem.W.Frag) (Ca : Addr) : Bool := decide (PySem.W.findIn K (.ref Ca) "__class__" = some (some (.builtin "object.__class__"))) && (decide (PySem.W.specialIn K (.builtin "object.__class__") "__get__" = some (some (.builtin "getset_descriptor.__get__"))) &&
  (decide (PySem.W.takesIn K (.builtin "object.__class__") = some true) && decide (PySem.W.mroIn K Ca (.type "object") = some true)))
structure SbC (K : PySem.W.Frag) (ca : Nat → Addr) (c c' : Nat) (b : Bool) : Prop where
  cl : Cls K (ca c)
  ty : clsB K (ca c) = true
  is : PySem.W.kitOne K (.ref (ca c)) (.ref (ca c')) = some b
structure DtC (K : PySem.W.Frag) (ca : Nat → Addr) (c' : Nat) : Prop where
  is : ∀ t ∈ dataTys, PySem.W.kitOne K (.type t) (.ref (ca c')) = some false
theorem rd_ty {K : PySem.W.Frag} {a : Addr} {vs : List V} (h : SqL K H a vs) : TyX K H (.ref a) (.type "list") := by
  rcases h with (h | ⟨o, h⟩) | ⟨o, _, _, h1, h2, _⟩
  · exact .base (.lst h)
  · exact .base (.frz h)
  · exact .kList h1 h2
theorem rt_ty {K : PySem.W.Frag} {a : Addr} {vs : List V} (h : SqT K H a vs) : TyX K H (.ref a) (.type "tuple") := by
  rcases h with (h | ⟨o, h⟩) | ⟨o, _, _, h1, h2, _⟩
  · exact .base (.tup h)
  · exact .fTuple h
  · exact .kTuple h1 h2
theorem isi_ok {sub : Nat → Nat → Option Bool} {dat : Nat → Bool} {c' : Nat} {v : V} {d : D} {Q : VK} (hK : X.K = C.K) (hs : ∀ c c' b, sub c c' = some b → SbC X.K C.ca c c' b) (hd : ∀ c', dat c' = true → DtC X.K C.ca c') (st : StR C B g e S σ H) (r : Rep C g v d)
    (h : Post C B W (RO C) g e σ H (isiD sub dat c' d S) Q) : rIsi X.K [v, .ref (C.ca c')] H Q := by
  unfold isiD at h
  cases q : insOf S d with
  | some p =>
    obtain ⟨c, ns, ds⟩ := p
    rw [q] at h
    dsimp only at h
    cases q2 : sub c c' with
    | none => rw [q2] at h; exact False.elim h
    | some b =>
      rw [q2] at h
      obtain ⟨a, dx, fs, rfl, ha, _, _⟩ := st.toSim.insq (RepF.rep r) q
      have s1 := hs _ _ _ q2
      have t1 := s1.ty
      unfold clsB at t1
      obtain ⟨t1, t2⟩ := Bool.and_eq_true_iff.mp t1
      obtain ⟨t2, t3⟩ := Bool.and_eq_true_iff.mp t2
      obtain ⟨t3, t4⟩ := Bool.and_eq_true_iff.mp t3
      exact ⟨_, _, _, _, b, rfl, .own _, .base (.ins ha s1.cl (of_decide_eq_true t1) (of_decide_eq_true t2) (of_decide_eq_true t3) (of_decide_eq_true t4)), s1.is, h.ret st (.val (.bl b))⟩
  | none =>
    rw [q] at h
    dsimp only at h
    by_cases hb : dat c' = true
    · rw [if_pos hb] at h
      have z := (hd c' hb).is
      cases r with
      | non => exact ⟨_, _, _, _, false, rfl, .own _, .base .non, z _ (by decide), h.ret st (.val (.bl _))⟩
      | bl b => exact ⟨_, _, _, _, false, rfl, .own _, .base (.bl b), z _ (by decide), h.ret st (.val (.bl _))⟩
      | int i => exact ⟨_, _, _, _, false, rfl, .own _, .base (.int i), z _ (by decide), h.ret st (.val (.bl _))⟩
      | str x => exact ⟨_, _, _, _, false, rfl, .own _, .base (.str x), z _ (by decide), h.ret st (.val (.bl _))⟩
      | lst h1 r => exact ⟨_, _, _, _, false, rfl, .own _, rd_ty (K := X.K) (.inl (st.toSim.rdL h1)), z _ (by decide), h.ret st (.val (.bl _))⟩
      | tup h1 r => exact ⟨_, _, _, _, false, rfl, .own _, rt_ty (by rw [hK]; exact st.toSim.sqT h1), z _ (by decide), h.ret st (.val (.bl _))⟩
      | scr h1 r => exact False.elim h
      | dic h1 h2 r => exact False.elim h
      | ins h1 h2 r => exact False.elim h
      | ref h1 => exact False.elim h
    · rw [if_neg hb] at h; exact False.elim h
theorem sv_isi {sub : Nat → Nat → Option Bool} {dat : Nat → Bool} {c' : Nat} {x y : Str} {px py pos : Pos} {po : Expr} {a : Env → M Ow} (hK : X.K = C.K) (hs : ∀ c c' b, sub c c' = some b → SbC X.K C.ca c c' b) (hd : ∀ c', dat c' = true → DtC X.K C.ca c')
    (hg : Gl X x) (hm : X.mg x = none) (hx : x = "isinstance") (hgy : Gl X y) (hmy : X.mg y = some (.ref (C.ca c'))) (hdy : (y == ("__debug__" : Str)) = false) (hst : noStars [po] = true) (ha : Sv X C B W po a) :
    Sv X C B W (.Call (.Name x px) [po, .Name y py] [] pos) (evIs sub dat c' a) := by
  subst hx
  refine PE.imp (pe_callB (t := tCons (tE C B W a) (tCons (tC (.ref (C.ca c'))) tNil)) call_isi hg hm (by decide +kernel) (pa_cons ha (pa_cons (pe_glob hgy hmy rfl hdy) pa_nil) (starEach_cons (by unfold noStars at hst; rw [List.all_cons, Bool.and_eq_true] at hst; exact hst.1))) (by decide) (by decide) (starEach_cons (by unfold noStars at hst; rw [List.all_cons, Bool.and_eq_true] at hst; exact hst.1)) rfl) fun σ H Q h => ?_
  · obtain ⟨g, e, S, st, h⟩ := h
    refine ⟨g, e, S, st, Post.seq h fun w S1 v1 H1 g1 f1 st1 r1 h1 => ?_⟩
    obtain ⟨d, rfl, h2⟩ := post_strict h1
    exact isi_ok hK hs hd st1 r1.rep h2
/-! ### list(..) that will be changed -/
def newlF : List D → M Ow := fun ds S => match ds with
  | [d] => match seqOf S d with
    | some ds => ((newS (.lst ds) >>= fun d => (M.pure (.val d) : M Ow)) S)
    | none => .stuck
  | _ => .stuck
theorem cf_newl (hK : X.K = C.K) : CallF C B W (fun xs H Q => ∃ p ys, xs = [.ref p] ∧ (SqL X.K H p ys ∨ SqT X.K H p ys) ∧ ∀ l, H l = none → Q (.ref l) (upd H l (.lst ys))) newlF := by
  intro g e S σ H vs ds Q st r h
  unfold newlF at h
  split at h
  · rename_i d
    cases q : seqOf S d with
    | none => rw [q] at h; exact False.elim h
    | some es =>
      rw [q] at h
      obtain ⟨v, rfl, z1⟩ := pf1 r
      obtain ⟨a, vs, rfl, hl, rr⟩ := st.toSim.seq z1 q
      exact ⟨a, vs, rfl, by rw [hK]; exact hl, fun p hp => post_newL h st rr hp⟩
  · exact False.elim h
/-! ### methods of a list that is shared -/
inductive Lm | append | pop | popAt | reverse | clear
def Lm.nm : Lm → String
  | .append => "append"
  | .pop => "pop"
  | .popAt => "pop"
  | .reverse => "reverse"
  | .clear => "clear"
def Lm.run : Lm → List D → List D → Option (List D × D)
  | .append, ds, [v] => if ds.length < line then some (ds ++ [v], .non) else none
  | .pop, ds, [] => (ds[ds.length - 1]?).map fun y => (ds.dropLast, y)
  | .popAt, ds, [.int i] => if decide (-(2 ^ 63) ≤ i) && decide (i < 2 ^ 63) then match seqIndex? i ds.length with
    | some k => (ds[k]?).map fun y => (ds.eraseIdx k, y)
    | none => none
    else none
  | .reverse, ds, [] => some (ds.reverse, .non)
  | .clear, _, [] => some ([], .non)
  | _, _, _ => none
def runL (m : Lm) (o : D) (as : List D) : M Ow := fun S => match o with
  | .ref id => match S[id]? with
    | some (.lst ds) => match m.run ds as with
      | some (ds', r) => .ok (.val r) (S.set id (.lst ds'))
      | none => .stuck
    | _ => .stuck
  | _ => .stuck
def isL (o : D) : M Unit := fun S => match o with
  | .ref id => match S[id]? with
    | some (.lst _) => .ok () S
    | _ => .stuck
  | _ => .stuck
def evLm (m : Lm) (a : Env → M Ow) (as : Env → M (List Ow)) : Env → M Ow := fun e => do
  let w ← a e
  let x ← w.strict
  isL x
  let ws ← as e
  let ds ← M.ofO (stricts ws)
  runL m x ds
theorem isL_ok {α β : Type} {d : D} {v : V} {k : M α} {R : G → Hp → β → α → Prop} {Q : β → Hp → Prop} (st : StR C B g e S σ H) (r : Rep C g v d) (h : Post C B W R g e σ H ((isL d >>= fun _ => k) S) Q) : (∃ a vs, v = .ref a ∧ H a = some (.lst vs)) ∧ Post C B W R g e σ H (k S) Q := by
  rw [bind_ap] at h
  unfold isL at h
  cases r with
  | @ref a id hm =>
    dsimp only at h
    cases q : S[id]? with
    | none => rw [q] at h; exact False.elim h
    | some m =>
      rw [q] at h
      cases m with
      | lst ds =>
        obtain ⟨vs, h1, _⟩ := st.toSim.shAt hm q
        exact ⟨⟨a, vs, rfl, h1⟩, h⟩
      | _ => exact False.elim h
  | _ => exact False.elim h
/-- the list method's reading -/
def rLm : Lm → V → List V → Hp → VK → Prop
  | .append => rAppend
  | .pop => rPop
  | .popAt => rPopAt
  | .reverse => rReverse
  | .clear => rClear
theorem reps_one {vs : List V} {d : D} (r : Reps C g vs [d]) : ∃ v, vs = [v] ∧ Rep C g v d := by
  cases r with | cons r t => cases t; exact ⟨_, rfl, r⟩
theorem reps_no {vs : List V} (r : Reps C g vs []) : vs = [] := by cases r; rfl
theorem runL_ok {m : Lm} {v : V} {d : D} {vs : List V} {ds : List D} {Q : VK} (st : StR C B g e S σ H) (r : Rep C g v d) (rs : Reps C g vs ds) (h : Post C B W (RO C) g e σ H (runL m d ds S) Q) : rLm m v vs H Q := by
  unfold runL at h
  cases r with
  | @ref a id hm =>
    dsimp only at h
    cases q : S[id]? with
    | none => rw [q] at h; exact False.elim h
    | some mo =>
      rw [q] at h
      cases mo with
      | lst es =>
        dsimp only at h
        obtain ⟨ws, h1, rw1⟩ := st.toSim.shAt hm q
        have el := rw1.length
        cases q2 : m.run es ds with
        | none => rw [q2] at h; exact False.elim h
        | some p =>
          obtain ⟨es', x⟩ := p
          rw [q2] at h
          have fin : ∀ {ws' : List V} {u : V}, Reps C g ws' es' → Rep C g u x → Q u (upd H a (.lst ws')) := fun {ws' u} r1 r2 => by
            have st2 := st.shUpd (m := .lst es') hm ⟨ws', upd_same, r1⟩
            exact h u _ g (Frm.shUpd (List.mem_of_getElem? hm)) st2 (.val r2)
          cases m with
          | append =>
            rcases ds with _ | ⟨d1, _ | ⟨d2, ds⟩⟩ <;> first | (cases q2; done) | skip
            have q2 : (if es.length < line then some (es ++ [d1], D.non) else none) = some (es', x) := q2
            split at q2
            · rename_i hl
              cases q2
              obtain ⟨u, rfl, ru⟩ := reps_one rs
              refine ⟨a, ws, u, rfl, rfl, h1, ?_, fin (rw1.append (.cons ru .nil)) .non⟩
              have := line_le (Nat.le_of_lt hl)
              rw [sizeLine_eq] at this ⊢
              have : line = 1000000 := rfl
              omega
            · cases q2
          | pop =>
            rcases ds with _ | ⟨d1, ds⟩ <;> first | (cases q2; done) | skip
            have q2 : ((es[es.length - 1]?).map fun y => (es.dropLast, y)) = some (es', x) := q2
            obtain ⟨y, hy, e2⟩ := Option.map_eq_some_iff.mp q2
            cases e2
            rw [reps_no rs]
            obtain ⟨u, hu, ru⟩ := rw1.get hy
            exact ⟨a, ws, u, rfl, rfl, h1, by rw [el]; exact hu, fin rw1.dropLast ru⟩
          | popAt =>
            rcases ds with _ | ⟨d1, _ | ⟨d2, ds⟩⟩ <;> first | (cases q2; done) | (cases d1 <;> first | (cases q2; done) | skip) | (cases d1 <;> cases q2)
            rename_i i
            have q2 : (if decide (-(2 ^ 63) ≤ i) && decide (i < 2 ^ 63) then match seqIndex? i es.length with
              | some k => (es[k]?).map fun y => (es.eraseIdx k, y)
              | none => none
              else none) = some (es', x) := q2
            split at q2
            · rename_i hb
              obtain ⟨b1, b2⟩ := Bool.and_eq_true_iff.mp hb
              cases q3 : seqIndex? i es.length with
              | none => rw [q3] at q2; cases q2
              | some k =>
                rw [q3] at q2
                obtain ⟨y, hy, e2⟩ := Option.map_eq_some_iff.mp q2
                cases e2
                obtain ⟨u1, rfl, ru1⟩ := reps_one rs
                cases ru1
                obtain ⟨u, hu, ru⟩ := rw1.get hy
                exact ⟨a, ws, i, k, u, rfl, rfl, h1, of_decide_eq_true b1, of_decide_eq_true b2, by rw [el]; exact q3, hu, fin (rw1.eraseIdx k) ru⟩
            · cases q2
          | reverse =>
            rcases ds with _ | ⟨d1, ds⟩ <;> first | (cases q2; done) | skip
            cases q2
            rw [reps_no rs]
            exact ⟨a, ws, rfl, rfl, h1, fin rw1.reverse .non⟩
          | clear =>
            rcases ds with _ | ⟨d1, ds⟩ <;> first | (cases q2; done) | skip
            cases q2
            rw [reps_no rs]
            exact ⟨a, ws, rfl, rfl, h1, fin .nil .non⟩
      | _ => exact False.elim h
  | _ => exact False.elim h

theorem lm_end {m : Lm} {a : Env → M Ow} {as : Env → M (List Ow)} {Q : VK} {P : V → Hp → Prop} (st : StR C B g e S σ H) (h : Post C B W (RO C) g e σ H (evLm m a as e S) Q)
    (hk : ∀ v H1, (∃ l vs, v = .ref l ∧ H1 l = some (.lst vs)) → tG C B W (ROs C) as σ H1 (fun vs H2 => rLm m v vs H2 Q) → P v H1) : Post C B W (RO C) g e σ H (a e S) P := by
  refine Post.seq h fun w S1 v1 H1 g1 f1 st1 r1 h1 => ?_
  obtain ⟨d, rfl, h2⟩ := post_strict h1
  obtain ⟨hl, h3⟩ := isL_ok st1 r1.rep h2
  refine hk v1 H1 hl ⟨g1, e, S1, st1, Post.seq h3 fun ws S2 vs H2 g2 f2 st2 r2 h4 => ?_⟩
  obtain ⟨ds, e1, h5⟩ := post_ofO h4
  exact runL_ok st2 (r1.mono f2).rep (stricts_ok r2 e1) h5
theorem starNo {p : Expr} {env : PySem.Env} (h : noStars [p] = true) : starEach [p] env = (false, eval p env) :: starEach [] env := starEach_cons (by unfold noStars at h; rw [List.all_cons, Bool.and_eq_true] at h; exact h.1)
theorem sv_lm0 {m : Lm} {id : String} {po : Expr} {ap pos : Pos} {a : Env → M Ow} (slot : Slot "list" (Str.ofString m.nm) id) (hty : typeOf (.builtin id) = pure (.type "method_descriptor")) (hm : MtR X id (rLm m)) (ho : Sv X C B W po a) (hc : notCall po = true) (hl : (ap.endLine == pos.line) = true) :
    Sv X C B W (.Call (.Attribute po (Str.ofString m.nm) ap) [] [] pos) (evLm m a evNil) := PE.imp (pe_bm0 PySem.F.plainAttrs_list slot hty hm ho (attrBase_free hc) hl) fun σ H Q ⟨g, e, S, st, h⟩ => by
  refine ⟨g, e, S, st, lm_end st h fun v H1 ⟨l, vs, e1, h1⟩ hq => ?_⟩
  obtain ⟨g2, e2, S2, st2, q2⟩ := hq
  subst e1
  exact ⟨.inl ⟨rfl, vs, .inl (.inl h1)⟩, q2.ret st2 .nil⟩
theorem sv_lm1 {m : Lm} {id : String} {po pe : Expr} {ap pos : Pos} {a b : Env → M Ow} (slot : Slot "list" (Str.ofString m.nm) id) (hty : typeOf (.builtin id) = pure (.type "method_descriptor")) (hm : MtR X id (rLm m)) (ho : Sv X C B W po a) (ha : Sv X C B W pe b) (hs : noStars [pe] = true) (hc : notCall po = true)
    (hl : (ap.endLine == pos.line) = true) : Sv X C B W (.Call (.Attribute po (Str.ofString m.nm) ap) [pe] [] pos) (evLm m a (evCons b evNil)) :=
  PE.imp (pe_bm PySem.F.plainAttrs_list slot hty hm ho (sas_cons ha sas_nil (starNo hs)) (attrBase_free hc) (by rw [starNo hs]; rfl) hl (starNo hs) rfl) fun σ H Q ⟨g, e, S, st, h⟩ => by
    refine ⟨g, e, S, st, lm_end st h fun v H1 ⟨l, vs, e1, h1⟩ hq => ?_⟩
    subst e1
    exact ⟨.inl ⟨rfl, vs, .inl (.inl h1)⟩, hq⟩
/-- no argument, or one -/
def Lm.none? : Lm → Bool
  | .append => false
  | .popAt => false
  | _ => true
theorem sv_lmN {m : Lm} (hm : m.none? = true) {po : Expr} {ap pos : Pos} {a : Env → M Ow} (ho : Sv X C B W po a) (hc : notCall po = true) (hl : (ap.endLine == pos.line) = true) : Sv X C B W (.Call (.Attribute po (Str.ofString m.nm) ap) [] [] pos) (evLm m a evNil) := by
  cases m with
  | append => cases hm
  | popAt => cases hm
  | pop => exact sv_lm0 PySem.F.slot_list_pop PySem.F.type_list_pop mt_pop ho hc hl
  | reverse => exact sv_lm0 PySem.F.slot_list_reverse PySem.F.type_list_reverse mt_reverse ho hc hl
  | clear => exact sv_lm0 PySem.F.slot_list_clear PySem.F.type_list_clear mt_clear ho hc hl
theorem sv_lmO {m : Lm} (hm : m.none? = false) {po pe : Expr} {ap pos : Pos} {a b : Env → M Ow} (ho : Sv X C B W po a) (ha : Sv X C B W pe b) (hs : noStars [pe] = true) (hc : notCall po = true) (hl : (ap.endLine == pos.line) = true) :
    Sv X C B W (.Call (.Attribute po (Str.ofString m.nm) ap) [pe] [] pos) (evLm m a (evCons b evNil)) := by
  cases m with
  | append => exact sv_lm1 PySem.F.slot_list_append PySem.F.type_list_append mt_append ho ha hs hc hl
  | popAt => exact sv_lm1 PySem.F.slot_list_pop PySem.F.type_list_pop mt_popAt ho ha hs hc hl
  | _ => cases hm
end
end PV

set_option Elab.async false
set_option linter.all false
set_option maxRecDepth 100000
set_option maxHeartbeats 1000000
/-! PX4: own exceptions are raised. -/
namespace PV
open PySem PySem.Spec L2
open PyProof.Rows hiding St
def okNm (x : Str) : Bool := !(x == ("__debug__" : Str)) && !(x == ("__classdict__" : Str)) && decide (x ≠ "__name__")
def isVis (sc : Scope) (x : Str) : Bool := decide (sc.names.lookup x = some .local) || decide (sc.names.lookup x = some .cell) || decide (sc.names.lookup x = some .free)
def isGl (sc : Scope) (x : Str) : Bool := decide (sc.names.lookup x = some .globalImplicit)
/-- an exception's own __init__: every field is its argument -/
def spX (K : PySem.W.Frag) (fl : List Str) : Sp := fun vs H Q _ => ∃ a Ca us, vs = .ref a :: us ∧ us.length = fl.length ∧ OexC K Ca ∧ (∀ f ∈ fl, PySem.W.findIn K (.ref Ca) f = some none) ∧ H a = some (exo a Ca none) ∧
  ∀ d H2, H d = none → d ≠ a → H2 a = some (exo a Ca (some d)) → H2 d = some (exd d (fl.zip us).reverse) → (∀ b, b ≠ a → b ≠ d → H2 b = H b) → Q .non H2
/-- self.f = p, one or two -/
def xiB (N : List Str) (sc : Scope) (fl : List Str) : List Stmt → Bool
  | [.Assign [.Attribute (.Name s _) f _] (.Name p _) _] => decide (fl = [f]) && (decide (N = [s, p]) && (isVis sc s && (isVis sc p && (okNm s && okNm p))))
  | [.Assign [.Attribute (.Name s _) f _] (.Name p _) _, .Assign [.Attribute (.Name s2 _) f2 _] (.Name p2 _) _] =>
    decide (fl = [f, f2]) && (decide (N = [s, p, p2]) && (decide (s2 = s) && (isVis sc s && (isVis sc p && (isVis sc p2 && (okNm s && (okNm p && okNm p2)))))))
  | _ => false
section
variable {Y : Yx} {C : Kx} {N ps : List Str} {scope : Scope} {x qual : Str} {params : Arguments} {body : List Stmt} {kws : List (Str × V)} {f : Addr} {fd : FuncData} {k : Nat}
theorem visOf {X : Cx} {sc : Scope} (hs : X.env.scope = sc) {x : Str} (h : isVis sc x = true) : L2.Vis X.env.scope x := by
  rw [hs]
  unfold isVis at h
  rw [Bool.or_eq_true, Bool.or_eq_true] at h
  rcases h with (h | h) | h
  · exact .inl (of_decide_eq_true h)
  · exact .inr (.inl (of_decide_eq_true h))
  · exact .inr (.inr (of_decide_eq_true h))
theorem okNm_d {x : Str} (h : okNm x = true) : (x == ("__debug__" : Str)) = false ∧ (x == ("__classdict__" : Str)) = false := by
  unfold okNm at h
  rw [Bool.and_eq_true, Bool.and_eq_true] at h
  obtain ⟨⟨h3, h4⟩, _⟩ := h
  exact ⟨by cases q : (x == ("__debug__" : Str)) <;> simp_all, by cases q : (x == ("__classdict__" : Str)) <;> simp_all⟩
theorem exc_body {fl : List Str} (F : FunD Y.K x qual params body scope [] kws f fd) (Sc : FnScope N ps scope) (hp : ps = N) (hl : ps.length = fl.length + 1) (hb : xiB N scope fl body = true) (hd : fl.Nodup) :
    FnOk Y.P Y.w Y.K Y.mg Y.base (L2.CX Y.P Y.w) (k + 3) f fd ps (spX Y.K fl) := by
  subst hp
  refine F.ok Sc (fun vs H Q E ⟨a, Ca, us, e, l, _⟩ => by rw [e, List.length_cons, l, hl]) fun cdv A outer s H vs Q E hr ⟨a, Ca, us, e1, e2, T, hno, ea, hq⟩ => ?_
  subst e1
  have xs := xe_body (Y := Y) (N := ps) (qual := qual) (f := f) (cdv := cdv) (outer := outer) (s := s) (H := H) (E := E) Sc.kind hr
  unfold xiB at hb
  split at hb
  · rename_i sN sp1 f1 fp p pp pos
    simp only [Bool.and_eq_true, decide_eq_true_eq] at hb
    obtain ⟨rfl, rfl, v1, v2, n1, n2⟩ := hb
    obtain ⟨y, rfl⟩ : ∃ y, us = [y] := by
      match us, e2 with
      | [y], _ => exact ⟨y, rfl⟩
    refine ⟨_, pss_cons (ps_ost (pe_var (i := 0) (by rw [xs.N]; rfl) (visOf xs.scope v1) (okNm_d n1).1 (okNm_d n1).2) (pe_var (i := 1) (by rw [xs.N]; rfl) (visOf xs.scope v2) (okNm_d n2).1 (okNm_d n2).2) rfl) pss_nil, ?_⟩
    refine ⟨y, rfl, .ref a, rfl, a, Ca, rfl, T, hno _ (by simp), .inl ⟨ea, fun d hd hne => ?_⟩⟩
    exact hq d _ hd hne upd_same (by rw [upd_ne hne, upd_same]; rfl) fun b h1 h2 => by rw [upd_ne h1, upd_ne h2]
  · rename_i sN sp1 f1 fp p pp pos sN2 sp2 f2 fp2 p2 pp2 pos2
    simp only [Bool.and_eq_true, decide_eq_true_eq] at hb
    obtain ⟨rfl, rfl, rfl, v1, v2, v3, n1, n2, n3⟩ := hb
    obtain ⟨y, z, rfl⟩ : ∃ y z, us = [y, z] := by
      match us, e2 with
      | [y, z], _ => exact ⟨y, z, rfl⟩
    refine ⟨_, pss_cons (ps_ost (pe_var (i := 0) (by rw [xs.N]; rfl) (visOf xs.scope v1) (okNm_d n1).1 (okNm_d n1).2) (pe_var (i := 1) (by rw [xs.N]; rfl) (visOf xs.scope v2) (okNm_d n2).1 (okNm_d n2).2) rfl)
      (pss_cons (ps_ost (pe_var (i := 0) (by rw [xs.N]; rfl) (visOf xs.scope v1) (okNm_d n1).1 (okNm_d n1).2) (pe_var (i := 2) (by rw [xs.N]; rfl) (visOf xs.scope v3) (okNm_d n3).1 (okNm_d n3).2) rfl) pss_nil), ?_⟩
    refine ⟨y, rfl, .ref a, rfl, a, Ca, rfl, T, hno _ (by simp), .inl ⟨ea, fun d hd hne => ?_⟩⟩
    have hne' : a ≠ d := fun q => hne q.symm
    refine ⟨z, rfl, .ref a, rfl, a, Ca, rfl, T, hno _ (by simp), .inr ⟨d, _, upd_same, by rw [upd_ne hne, upd_same], by simp, ?_⟩⟩
    exact hq d _ hd hne (by rw [upd_ne hne', upd_same]) (by rw [upd_same]; rfl) fun b h1 h2 => by rw [upd_ne h2, upd_ne h1, upd_ne h2]
  · cases hb
end

/-- an own exception's class that can be raised -/
structure RzC (X : Cx) (C : Kx) (k c : Nat) (fl : List String) : Prop where
  ex : ∃ fI fd ps, OexC X.K (C.ca c) ∧ PySem.W.findIn X.K (.ref (C.ca c)) "__init__" = some (some (.ref fI)) ∧ PySem.W.typeIn X.K (.ref fI) = some (.type "function") ∧ FnOk X.prog X.w X.K X.mg X.base (L2.CX X.prog X.w) k fI fd ps (spX X.K (fl.map Str.ofString)) ∧
    Binds X.K fd ps [] ∧ ∀ f ∈ fl.map Str.ofString, PySem.W.findIn X.K (.ref (C.ca c)) f = some none
def sRaise (c : Nat) (fl : List String) (as : Env → M (List Ow)) : MS := sb as fun ws e S => match stricts ws with
  | some ds => if ds.length = fl.length ∧ fl.length ≤ 100 then .exc c fl.reverse ds.reverse e S else .stuck
  | none => .stuck
section
variable {X : Cx} {C : Kx} {B : Bs} {W : WX} {g g' : G} {e : Env} {S S' : Store} {σ : St} {H H' : Hp}
theorem Reps.rev {vs : List V} {ds : List D} (r : Reps C g vs ds) : Reps C g vs.reverse ds.reverse := r.reverse
theorem zip_keys {fl : List Str} {us : List V} (h : us.length = fl.length) : (fl.zip us).reverse.map (·.1) = fl.reverse := by
  rw [List.map_reverse, List.map_fst_zip (by omega)]
theorem zip_vals {fl : List Str} {us : List V} (h : us.length = fl.length) : (fl.zip us).reverse.map (·.2) = us.reverse := by
  rw [List.map_reverse, List.map_snd_zip (by omega)]
theorem ss_raise {k c : Nat} {fl : List String} {x : Str} {p pos pos2 : Pos} {e0 : Expr} {es : List Expr} {as : Env → M (List Ow)} (hr : Room (k + 1) X.A) (T : RzC X C k c fl) (hc : X.calm = true) (tk : Takes X W) (hg : Gl X x) (hm : X.mg x = some (.ref (C.ca c))) (hdb : (x == ("__debug__" : Str)) = false)
    (ha : Sas X C B W (e0 :: es) as) (hs : noStars (e0 :: es) = true) : Ss X C B W (.Raise (some (.Call (.Name x p) (e0 :: es) [] pos)) none pos2) (sRaise c fl as) := by
  obtain ⟨fI, fd, prs, T0, i1, i2, F1, hb, hno⟩ := T.ex
  have hs0 : noStars es = true ∧ starEach (e0 :: es) X.env = (false, eval e0 X.env) :: starEach es X.env := by
    unfold noStars at hs
    rw [List.all_cons, Bool.and_eq_true] at hs
    exact ⟨hs.2, starEach_cons hs.1⟩
  refine PS.imp (ps_raise hc tk (pmk_oex (dvs := []) (ds := []) T0 i1 i2 F1 hr hb .nil (fun pins σ H s u s' _ h => noExc h) hg hm ha hdb hs0.2 (backTo_free hs0.1))) fun D σ H ⟨g, e, S, st, h⟩ => ?_
  refine ⟨g, e, S, st, PostS.seq st h fun ws S1 vs H1 g1 f1 st1 r1 h1 => ?_⟩
  cases q : stricts ws with
  | none => rw [q] at h1; exact False.elim h1
  | some ds =>
    rw [q] at h1
    dsimp only at h1
    by_cases hl : ds.length = fl.length ∧ fl.length ≤ 100
    · rw [if_pos hl] at h1
      have rr := stricts_ok r1 q
      have el : vs.length = (fl.map Str.ofString).length := by rw [List.length_map, rr.length]; exact hl.1
      refine ⟨by rw [el, List.length_map]; omega, fun a ha => ⟨a, C.ca c, vs ++ [], rfl, by rw [List.append_nil]; exact el, T0, hno, upd_same, fun d H2 hd hne z1 z2 z3 => ?_⟩⟩
      rw [upd_ne hne] at hd
      refine ⟨rfl, d, _, z1, z2, hd, ?_⟩
      have eH : upd (del H2 a) d (.xd ((fl.map Str.ofString).zip (vs ++ [])).reverse) = upd H1 d (.xd ((fl.map Str.ofString).zip vs).reverse) := by
        funext b
        by_cases h1 : b = d
        · subst h1; rw [upd_same, upd_same, List.append_nil]
        · rw [upd_ne h1, upd_ne h1]
          by_cases h2 : b = a
          · subst h2; rw [del_same]; exact ha.symm
          · rw [del_ne h2, z3 b h2 h1, upd_ne h2]
      rw [eH]
      obtain ⟨n1, n2, n3⟩ := st1.toSim.new hd
      have fr : Frm g1 H1 g1 (upd H1 d (.xd ((fl.map Str.ofString).zip vs).reverse)) := ⟨.refl g1, fun a u h _ => by rw [upd_ne (ne_of_none h hd)]; exact h, fun a h => .inl h, fun a u h => .inl h⟩
      refine h1 _ _ σ _ g1 (.refl g1) (st1.call fr (st1.toSim.poke n1 n3)) ⟨rfl, .inr ⟨d, _, rfl, upd_same, ?_, ?_⟩⟩
      · rw [zip_keys el, List.map_reverse]
      · rw [zip_vals el]; exact rr.reverse
    · rw [if_neg hl] at h1; exact False.elim h1
end
end PV

set_option Elab.async false
set_option linter.all false
set_option maxRecDepth 100000
set_option maxHeartbeats 1000000
/-! PX5: try .. except C as e, with a small suite. -/
namespace PV
open PySem PySem.Spec L2
open PyProof.Rows hiding St
/-- tables of the text's classes: fields that may be read; methods (the def, its arity); own == ; isinstance of instances, of data; of exceptions; except clauses; exceptions' fields; exceptions that are raised -/
structure Okt where
  fld : Nat → String → Bool
  met : Nat → String → Option (Nat × Nat)
  eqs : Nat → Option Nat
  sub : Nat → Nat → Option Bool
  dat : Nat → Bool
  exs : Nat → Nat → Option Bool
  exm : Nat → Nat → Option Bool
  xf : Nat → String → Bool
  rz : Nat → Option (List String)
/-- an exception that a suite holds: its class's number, its fields -/
structure Xi where
  c : Nat
  ns : List String
  ds : List D
inductive Ha | fld (f : String) | str (s : String) | non | int (i : Int) | bl (b : Bool)
inductive Ht | isi (c' : Nat) | not (t : Ht) | and (a b : Ht)
inductive Hx | at (x : Ha) | tup (xs : List Ha)
inductive Hs | pass | set (j : Nat) (h : Hx) | ret (h : Hx) | ifs (t : Ht) (a b : Hs)
def Ha.v (ok : Okt) (x : Xi) : Ha → Option D
  | .fld f => if ok.xf x.c f then lookF x.ns x.ds f else none
  | .str s => some (.str (Str.ofString s))
  | .non => some .non
  | .int i => some (.int i)
  | .bl b => some (.bl b)
def Ht.v (ok : Okt) (x : Xi) : Ht → Option Bool
  | .isi c' => ok.exs x.c c'
  | .not t => (t.v ok x).map (!·)
  | .and a b => match a.v ok x with
    | some true => b.v ok x
    | some false => some false
    | none => none
def hasV (ok : Okt) (x : Xi) : List Ha → Option (List D)
  | [] => some []
  | h :: r => match h.v ok x, hasV ok x r with
    | some d, some ds => some (d :: ds)
    | _, _ => none
def Hx.v (ok : Okt) (x : Xi) : Hx → Option D
  | .at h => h.v ok x
  | .tup hs => if hs.length ≤ 100 then (hasV ok x hs).map .tup else none
/-- the suite: i is the exception's slot -/
def Hs.run (ok : Okt) (i : Nat) (x : Xi) : Hs → MS
  | .pass => sNext
  | .set j h => fun e S => if j = i then .stuck else match h.v ok x with
    | some d => .ok .nx (e.set j (some (.val d))) S
    | none => .stuck
  | .ret h => fun e S => match h.v ok x with
    | some d => .ok (.ret d) e S
    | none => .stuck
  | .ifs t a b => fun e S => match t.v ok x with
    | some true => a.run ok i x e S
    | some false => b.run ok i x e S
    | none => .stuck
def finT (i : Nat) : OutS → OutS
  | .ok f e S => .ok f (e.set i none) S
  | _ => .stuck
def sTry (ok : Okt) (c' i : Nat) (body : MS) (h : Hs) : MS := fun e S => match body e S with
  | .exc c ns ds e1 S1 => match ok.exm c c' with
    | some true => if i < e1.length then finT i (h.run ok i ⟨c, ns, ds⟩ (e1.set i none) S1) else .stuck
    | some false => .exc c ns ds e1 S1
    | none => .stuck
  | o => o
/-! ### what the text says of exception classes -/
def exkB (K : PySem.W.Frag) (Ca : Addr) : Bool := (PySem.W.clsIn K Ca).isSome && (xfB K Ca && clsB K Ca)
structure ExE (K : PySem.W.Frag) (ca : Nat → Addr) (c c' : Nat) (b : Bool) : Prop where
  k : exkB K (ca c) = true
  is : PySem.W.kitOne K (.ref (ca c)) (.ref (ca c')) = some b
section
variable {X : Cx} {C : Kx} {B : Bs} {W : WX} {g g' : G} {e : Env} {S S' : Store} {σ : St} {H H' : Hp}
structure At (C : Kx) (B : Bs) (a : Addr) (i : Nat) (x : Xi) (d : Option Addr) (g : G) (e : Env) (S : Store) (σ : St) (H : Hp) : Prop where
  st : StR C B g e S σ H
  nm : σ[i]? = some (some (.ref a))
  ex : (d = none ∧ x.ns = [] ∧ x.ds = []) ∨ ∃ dd fs, d = some dd ∧ H dd = some (.xd fs) ∧ fs.map (·.1) = x.ns.map Str.ofString ∧ Reps C g (fs.map (·.2)) x.ds
/-- the suite's context -/
structure Su (X : Cx) (C : Kx) (a : Addr) (oe : Obj) (i : Nat) (n : Str) (x : Xi) (d : Option Addr) : Prop where
  hz : Zc (.ref (C.ca x.c)) d oe
  hf : ∃ vs, oe.data = .fields vs
  hi : X.N[i]? = some n
  vis : L2.Vis X.env.scope n
  nd : (n == ("__debug__" : Str)) = false
  nc : (n == ("__classdict__" : Str)) = false
variable {a : Addr} {oe : Obj} {i : Nat} {n : Str} {x : Xi} {d : Option Addr} {pn : List (Addr × Obj)}
def tAt (C : Kx) (B : Bs) (a : Addr) (i : Nat) (x : Xi) (d : Option Addr) (r : Option D) : TE := fun σ H Q => ∃ g e S y, At C B a i x d g e S σ H ∧ r = some y ∧ ∀ v, Rep C g v y → Q v H
theorem name_su (T : Su X C a oe i n x d) {pos : Pos} : PE (X.suite a ((a, oe) :: pn)) (.Name n pos) (tVar i) := pe_var (X := X.suite a ((a, oe) :: pn)) T.hi T.vis T.nd T.nc
theorem fld_su (T : Su X C a oe i n x d) (K0 : XfC X.K (C.ca x.c)) {f : String} {p pos : Pos} (hno : PySem.W.findIn X.K (.ref (C.ca x.c)) (Str.ofString f) = some none) :
    PE (X.suite a ((a, oe) :: pn)) (.Attribute (.Name n p) (Str.ofString f) pos) (tAt C B a i x d (lookF x.ns x.ds f)) := PE.imp (pe_xf K0 hno T.hz T.hf (name_su T) rfl) fun σ H Q ⟨g, e, S, y, A, hy, q⟩ => by
  refine ⟨_, A.nm, rfl, rfl, ?_⟩
  rcases A.ex with ⟨_, e1, e2⟩ | ⟨dd, fs, e1, h1, h2, r⟩
  · rw [e1] at hy; cases hy
  · obtain ⟨v, hv, rv⟩ := lookF_ok h2 r hy
    exact ⟨dd, fs, v, e1, h1, hv, q v rv⟩
theorem isi_su (T : Su X C a oe i n x d) {c' : Nat} {b : Bool} (E : ExE X.K C.ca x.c c' b) {y : Str} {px pn1 py pos : Pos} (hg : Gl X "isinstance") (hm : X.mg "isinstance" = none) (hgy : Gl X y) (hmy : X.mg y = some (.ref (C.ca c'))) (hdy : (y == ("__debug__" : Str)) = false) :
    PE (X.suite a ((a, oe) :: pn)) (.Call (.Name "isinstance" px) [.Name n pn1, .Name y py] [] pos) (fun σ H Q => ∃ g e S, At C B a i x d g e S σ H ∧ Q (.bl b) H) := by
  have cl : CallR (X.suite a ((a, oe) :: pn)) (.builtin "isinstance") (fun xs H Q => xs = [.ref a, .ref (C.ca c')] ∧ (d = none ∨ ∃ dd fs, d = some dd ∧ H dd = some (.xd fs)) ∧ Q (.bl b) H) := by
    intro pins s σ H xs us Q I r h
    obtain ⟨rfl, hd, q⟩ := h
    cases r with
    | cons rx rr =>
      cases rr with
      | cons ry rr =>
        cases rr
        cases rx
        cases ry
        obtain ⟨got, _⟩ := I.pin (a, oe) (List.mem_append_left _ List.mem_cons_self)
        obtain ⟨vs, hv⟩ := T.hf
        have k0 := E.k
        unfold exkB at k0
        obtain ⟨k1, k2⟩ := Bool.and_eq_true_iff.mp k0
        obtain ⟨k2, k3⟩ := Bool.and_eq_true_iff.mp k2
        have kx := xfB_ok k2
        unfold clsB at k3
        obtain ⟨t1, t2⟩ := Bool.and_eq_true_iff.mp k3
        obtain ⟨t2, t3⟩ := Bool.and_eq_true_iff.mp t2
        obtain ⟨t3, t4⟩ := Bool.and_eq_true_iff.mp t3
        have J : ∃ od, PySem.W.InstAt s.heap a oe (C.ca x.c) od := by
          rcases hd with hd | ⟨dd, fs, hd, hH⟩
          · refine ⟨none, got, T.hz.1, by unfold PySem.W.notCls; rw [hv] <;> rfl, ?_⟩
            rw [T.hz.2, hd]; trivial
          · have ob : ObjOk X.prog X.w H s.heap dd (.xd fs) := I.hok dd _ hH
            obtain ⟨mA, hns, _⟩ := ob
            obtain ⟨od, ho, _⟩ := lookIn_ns hns
            refine ⟨some od, got, T.hz.1, by unfold PySem.W.notCls; rw [hv] <;> rfl, ?_⟩
            rw [T.hz.2, hd]; exact ho
        obtain ⟨od, J⟩ := J
        exact PySem.W.kia_one (PySem.W.kitx_exc k1 kx.ga kx.gg kx.exC (of_decide_eq_true t1) (of_decide_eq_true t2) (of_decide_eq_true t3) (of_decide_eq_true t4)) I.kIn J E.is (fun z => nomatch z) fun tk => ⟨.bl b, H, I.tok tk, rfl, q⟩
  refine PE.imp (pe_callB (X := X.suite a ((a, oe) :: pn)) (t := tCons (tVar i) (tCons (tC (.ref (C.ca c'))) tNil)) cl hg hm (by decide +kernel) (pa_cons (name_su T) (pa_cons (pe_glob (X := X.suite a ((a, oe) :: pn)) hgy hmy rfl hdy) pa_nil)) (by decide) (by decide) rfl rfl) fun σ H Q ⟨g, e, S, A, q⟩ => ?_
  refine ⟨_, A.nm, rfl, ?_, q⟩
  rcases A.ex with ⟨e1, _, _⟩ | ⟨dd, fs, e1, h1, _, _⟩
  · exact .inl e1
  · exact .inr ⟨dd, fs, e1, h1⟩

/-- what the suite's check needs of the text -/
structure SuF (X : Cx) (C : Kx) (ok : Okt) (cn : List (Str × Nat)) : Prop where
  cls : ∀ y c', (y, c') ∈ cn → X.mg y = some (.ref (C.ca c'))
  exs : ∀ c c' b, ok.exs c c' = some b → ExE X.K C.ca c c' b
  exm : ∀ c c' b, ok.exm c c' = some b → PySem.W.exmOne X.K (.ref (C.ca c)) (.ref (C.ca c')) = some b
  xf : ∀ c f, ok.xf c f = true → XfC X.K (C.ca c) ∧ PySem.W.findIn X.K (.ref (C.ca c)) (Str.ofString f) = some none
def chHa (n : Str) : Ha → Expr → Bool
  | .fld f, .Attribute (.Name y _) g _ => decide (y = n) && decide (g = Str.ofString f)
  | .str s, .Constant (.str y) _ _ => decide (y = Str.ofString s)
  | .non, .Constant .none _ _ => true
  | .int i, .Constant (.int j) _ _ => i == j
  | .bl i, .Constant (.bool j) _ _ => i == j
  | _, _ => false
def chHas (n : Str) : List Ha → List Expr → Bool
  | [], [] => true
  | h :: hs, p :: ps => noStars [p] && (chHa n h p && chHas n hs ps)
  | _, _ => false
def chHx (n : Str) : Hx → Expr → Bool
  | .at h, p => chHa n h p
  | .tup hs, .Tuple ps _ _ => chHas n hs ps
  | _, _ => false
def chHt (sc : Scope) (cn : List (Str × Nat)) (bl : List Str) (n : Str) : Ht → Expr → Bool
  | .isi c', .Call (.Name x _) [.Name m _, .Name y _] [] _ => decide (x = "isinstance") && (isGl sc x && (bl.any (fun z => decide (z = x)) && (decide (m = n) && (decide ((y, c') ∈ cn) && (isGl sc y && okNm y)))))
  | .not t, .UnaryOp .Not p _ => chHt sc cn bl n t p
  | .and a b, .BoolOp .And [p, q] _ => chHt sc cn bl n a p && chHt sc cn bl n b q
  | _, _ => false
def chHs (sc : Scope) (N : List Str) (cn : List (Str × Nat)) (bl : List Str) (n : Str) : Hs → List Stmt → Bool
  | .pass, [] => true
  | .set j h, [.Assign [.Name y _] p _] => decide (N[j]? = some y) && (decide (sc.names.lookup y = some .local) && (notComp p && chHx n h p))
  | .ret h, [.Return (some p) _] => chHx n h p
  | .ifs t a b, [.If pt pa pb _] => chHt sc cn bl n t pt && (chHs sc N cn bl n a pa && chHs sc N cn bl n b pb)
  | _, _ => false
variable {ok : Okt} {cn : List (Str × Nat)} {bl : List Str} {sc : Scope}
theorem ha_ok (T : Su X C a oe i n x d) (F : SuF X C ok cn) {h : Ha} {p : Expr} (hc : chHa n h p = true) : PE (X.suite a ((a, oe) :: pn)) p (tAt C B a i x d (h.v ok x)) := by
  unfold chHa at hc
  split at hc
  · obtain ⟨h1, h2⟩ := Bool.and_eq_true_iff.mp hc
    rw [of_decide_eq_true h1, of_decide_eq_true h2]
    show PE _ _ (tAt C B a i x d (if ok.xf x.c _ then lookF x.ns x.ds _ else none))
    split
    · rename_i hx
      exact fld_su T (F.xf _ _ hx).1 (F.xf _ _ hx).2
    · exact ⟨fun pins s σ H Q I ⟨g, e, S, y, A, hy, q⟩ => by cases hy⟩
  · rw [of_decide_eq_true hc]
    exact PE.imp pe_str fun σ H Q ⟨g, e, S, y, A, hy, q⟩ => by cases hy; exact q _ (.str _)
  · exact PE.imp pe_non fun σ H Q ⟨g, e, S, y, A, hy, q⟩ => by cases hy; exact q _ .non
  · rw [← beq_iff_eq.mp hc]
    exact PE.imp pe_int fun σ H Q ⟨g, e, S, y, A, hy, q⟩ => by cases hy; exact q _ (.int _)
  · rw [← beq_iff_eq.mp hc]
    exact PE.imp pe_bl fun σ H Q ⟨g, e, S, y, A, hy, q⟩ => by cases hy; exact q _ (.bl _)
  · cases hc
def tAts (C : Kx) (B : Bs) (a : Addr) (i : Nat) (x : Xi) (d : Option Addr) (r : Option (List D)) : TA := fun σ H Q => ∃ g e S y, At C B a i x d g e S σ H ∧ r = some y ∧ ∀ v, Reps C g v y → Q v H
theorem has_ok (T : Su X C a oe i n x d) (F : SuF X C ok cn) : ∀ {hs : List Ha} {ps : List Expr}, chHas n hs ps = true → PA (X.suite a ((a, oe) :: pn)) ps (tAts C B a i x d (hasV ok x hs)) ∧ ps.length = hs.length
  | [], [], _ => ⟨PA.imp pa_nil fun σ H Q ⟨g, e, S, y, A, hy, q⟩ => by cases hy; exact q _ .nil, rfl⟩
  | [], _ :: _, h => by cases h
  | _ :: _, [], h => by cases h
  | h :: hs, p :: ps, hc => by
    unfold chHas at hc
    obtain ⟨h0, hc⟩ := Bool.and_eq_true_iff.mp hc
    obtain ⟨h1, h2⟩ := Bool.and_eq_true_iff.mp hc
    obtain ⟨ih, il⟩ := has_ok T F h2
    refine ⟨PA.imp (pa_cons (ha_ok (B := B) T F h1) ih (starEach_cons (by unfold noStars at h0; rw [List.all_cons, Bool.and_eq_true] at h0; exact h0.1))) fun σ H Q ⟨g, e, S, y, A, hy, q⟩ => ?_, by rw [List.length_cons, List.length_cons, il]⟩
    unfold hasV at hy
    split at hy
    · rename_i d0 ds0 e1 e2
      cases hy
      exact ⟨g, e, S, d0, A, e1, fun v rv => ⟨g, e, S, ds0, A, e2, fun vs rvs => q _ (.cons rv rvs)⟩⟩
    · cases hy
theorem hasV_len {x : Xi} : ∀ {hs : List Ha} {ds : List D}, hasV ok x hs = some ds → ds.length = hs.length
  | [], _, h => by cases h; rfl
  | h :: hs, ds, e => by
    unfold hasV at e
    split at e
    · rename_i d0 ds0 q1 q2
      cases e
      rw [List.length_cons, List.length_cons, hasV_len q2]
    · cases e
/-- a value of the suite, made -/
def tHx (C : Kx) (B : Bs) (a : Addr) (i : Nat) (x : Xi) (d : Option Addr) (r : Option D) : TE := fun σ H Q => ∃ g e S y, At C B a i x d g e S σ H ∧ r = some y ∧ ∀ v H' g', Frm g H g' H' → StR C B g' e S σ H' → Rep C g' v y → Q v H'
theorem hx_ok (T : Su X C a oe i n x d) (F : SuF X C ok cn) {h : Hx} {p : Expr} (hc : chHx n h p = true) : PE (X.suite a ((a, oe) :: pn)) p (tHx C B a i x d (h.v ok x)) := by
  unfold chHx at hc
  split at hc
  · exact PE.imp (ha_ok (B := B) T F hc) fun σ H Q ⟨g, e, S, y, A, hy, q⟩ => ⟨g, e, S, y, A, hy, fun v rv => q v H g .refl A.st rv⟩
  · rename_i hs ps _ _
    obtain ⟨h1, h2⟩ := has_ok (B := B) T F hc
    refine PE.imp (pe_tup h1) fun σ H Q ⟨g, e, S, y, A, hy, q⟩ => ?_
    have hy : (if hs.length ≤ 100 then (hasV ok x hs).map D.tup else none) = some y := hy
    split at hy
    · rename_i hl
      obtain ⟨ds, e1, e2⟩ := Option.map_eq_some_iff.mp hy
      subst e2
      refine ⟨g, e, S, ds, A, e1, fun vs rvs => ⟨?_, fun p hp => ?_⟩⟩
      · have e3 := hasV_len e1
        rw [rvs.length, e3, sizeLine_eq]; omega
      · exact post_new (B := B) (W := fun _ _ _ _ => False) (w := .tup ds) (S := S) (e := e) (σ := σ) (fun v H' g' f st r => q v H' g' f st r.rep) A.st hp fun g' le hg => .tup (.inl (.inl hg)) (rvs.mono le)
    · cases hy
  · cases hc

def tHt (C : Kx) (B : Bs) (a : Addr) (i : Nat) (x : Xi) (d : Option Addr) (r : Option Bool) : TT := fun σ H Q => ∃ g e S y, At C B a i x d g e S σ H ∧ r = some y ∧ Q y H
theorem ht_ok (T : Su X C a oe i n x d) (F : SuF X C ok cn) (hbl : ∀ z ∈ bl, X.mg z = none) (hsc : X.env.scope = sc) : ∀ {h : Ht} {p : Expr}, chHt sc cn bl n h p = true → PT (X.suite a ((a, oe) :: pn)) p (tHt C B a i x d (h.v ok x))
  | .isi c', p, hc => by
    unfold chHt at hc
    split at hc
    all_goals first | (exact absurd hc Bool.false_ne_true) | (rename_i heq1 _; cases heq1; done) | (rename_i heq1; cases heq1; done) | skip
    · rename_i heq
      cases heq
      rename_i x0 px m pm y py pos
      simp only [Bool.and_eq_true, decide_eq_true_eq, List.any_eq_true] at hc
      obtain ⟨rfl, g1, ⟨z, hz, rfl⟩, rfl, hy, g2, g3⟩ := hc
      have hg : ∀ {q : Str}, isGl sc q = true → Gl X q := fun {q} h => by
        show X.env.scope.names.lookup q = _
        rw [hsc]; exact of_decide_eq_true h
      cases q : ok.exs x.c c' with
      | none => exact ⟨fun pins s σ H Q I ⟨g, e, S, y, A, hy, q2⟩ => by rw [Ht.v, q] at hy; cases hy⟩
      | some b =>
        refine PT.imp (pt_val (isi_su (B := B) T (F.exs _ _ _ q) (hg g1) (hbl _ hz) (hg g2) (F.cls _ _ hy) (okNm_d g3).1) fun _ => rfl) fun σ H Q ⟨g, e, S, y, A, hy, q2⟩ => ?_
        rw [Ht.v, q] at hy
        cases hy
        exact ⟨g, e, S, A, b, rfl, q2⟩
  | .not t, p, hc => by
    unfold chHt at hc
    split at hc
    all_goals first | (exact absurd hc Bool.false_ne_true) | (rename_i heq1 _; cases heq1; done) | (rename_i heq1; cases heq1; done) | skip
    · rename_i heq
      cases heq
      refine PT.imp (pt_not (ht_ok T F hbl hsc hc)) fun σ H Q ⟨g, e, S, y, A, hy, q2⟩ => ?_
      rw [Ht.v] at hy
      obtain ⟨b, e1, e2⟩ := Option.map_eq_some_iff.mp hy
      subst e2
      exact ⟨g, e, S, b, A, e1, q2⟩
  | .and t u, p, hc => by
    unfold chHt at hc
    split at hc
    all_goals first | (exact absurd hc Bool.false_ne_true) | (rename_i heq1 _; cases heq1; done) | (rename_i heq1; cases heq1; done) | skip
    · rename_i heq
      cases heq
      obtain ⟨h1, h2⟩ := Bool.and_eq_true_iff.mp hc
      refine PT.imp (PW.pt (pw_and (ht_ok T F hbl hsc h1) (pw_and1 (ht_ok T F hbl hsc h2)))) fun σ H Q ⟨g, e, S, y, A, hy, q2⟩ => ?_
      rw [Ht.v] at hy
      cases q : t.v ok x with
      | none => rw [q] at hy; cases hy
      | some b =>
        rw [q] at hy
        refine ⟨g, e, S, b, A, rfl, ?_⟩
        cases b with
        | false => cases hy; exact q2
        | true => exact ⟨g, e, S, y, A, hy, q2⟩
def tHs (C : Kx) (B : Bs) (a : Addr) (i : Nat) (x : Xi) (d : Option Addr) (m : MS) : TS := fun D σ H => ∃ g e S, At C B a i x d g e S σ H ∧ PostS C B (fun _ _ _ _ => False) g (m e S) D
theorem hs_ok (T : Su X C a oe i n x d) (F : SuF X C ok cn) (hbl : ∀ z ∈ bl, X.mg z = none) (hsc : X.env.scope = sc) (hN : X.N.Nodup) : ∀ {h : Hs} {ps : List Stmt}, chHs sc X.N cn bl n h ps = true → PSs (X.suite a ((a, oe) :: pn)) ps (tHs C B a i x d (h.run ok i x))
  | .pass, ps, hc => by
    unfold chHs at hc
    split at hc
    all_goals first | (exact absurd hc Bool.false_ne_true) | (rename_i heq1 _; cases heq1; done) | (rename_i heq1; cases heq1; done) | skip
    · exact PSs.imp pss_nil fun D σ H ⟨g, e, S, A, h⟩ => h σ H g (.refl g) A.st
  | .set j hx0, ps, hc => by
    unfold chHs at hc
    split at hc
    all_goals first | (exact absurd hc Bool.false_ne_true) | (rename_i heq1 _; cases heq1; done) | (rename_i heq1; cases heq1; done) | skip
    · rename_i heq
      cases heq
      rename_i y py p pos
      simp only [Bool.and_eq_true, decide_eq_true_eq] at hc
      obtain ⟨h1, h2, h3, h4⟩ := hc
      have hl : (X.suite a ((a, oe) :: pn)).env.scope.names.lookup y = some .local := by show X.env.scope.names.lookup y = _; rw [hsc]; exact h2
      refine PSs.imp (pss_cons (ps_set (X := X.suite a ((a, oe) :: pn)) (i := j) hN h1 (.inl hl) (hx_ok (B := B) T F h4) (swaps_free h3) (.inr hl)) pss_nil) fun D σ H ⟨g, e, S, A, h⟩ => ?_
      have h : PostS C B (fun _ _ _ _ => False) g (if j = i then .stuck else match hx0.v ok x with | some d => .ok .nx (e.set j (some (.val d))) S | none => .stuck) D := h
      split at h
      · exact False.elim h
      · cases q : hx0.v ok x with
        | none => rw [q] at h; exact False.elim h
        | some y =>
          rw [q] at h
          exact ⟨g, e, S, y, A, rfl, fun v H' g' f st r => h _ H' g' f.le (st.put (w := some y) fun d' e1 => by cases e1; exact ⟨v, rfl, r⟩)⟩
  | .ret hx0, ps, hc => by
    unfold chHs at hc
    split at hc
    all_goals first | (exact absurd hc Bool.false_ne_true) | (rename_i heq1 _; cases heq1; done) | (rename_i heq1; cases heq1; done) | skip
    · rename_i heq
      cases heq
      refine PSs.imp (pss_cons (ps_ret (hx_ok (B := B) T F hc)) pss_nil) fun D σ H ⟨g, e, S, A, h⟩ => ?_
      have h : PostS C B (fun _ _ _ _ => False) g (match hx0.v ok x with | some d => .ok (.ret d) e S | none => .stuck) D := h
      cases q : hx0.v ok x with
      | none => rw [q] at h; exact False.elim h
      | some y =>
        rw [q] at h
        exact ⟨g, e, S, y, A, rfl, fun v H' g' f st r => h v _ H' g' f.le st r⟩
  | .ifs t u v, ps, hc => by
    unfold chHs at hc
    split at hc
    all_goals first | (exact absurd hc Bool.false_ne_true) | (rename_i heq1 _; cases heq1; done) | (rename_i heq1; cases heq1; done) | skip
    · rename_i heq
      cases heq
      simp only [Bool.and_eq_true] at hc
      obtain ⟨h1, h2, h3⟩ := hc
      refine PSs.imp (pss_cons (ps_if (ht_ok (B := B) T F hbl hsc h1) (hs_ok T F hbl hsc hN h2) (hs_ok T F hbl hsc hN h3)) pss_nil) fun D σ H ⟨g, e, S, A, h⟩ => ?_
      have h : PostS C B (fun _ _ _ _ => False) g (match t.v ok x with
        | some true => u.run ok i x e S
        | some false => v.run ok i x e S
        | none => .stuck) D := h
      cases q : t.v ok x with
      | none => rw [q] at h; exact False.elim h
      | some b =>
        rw [q] at h
        refine ⟨g, e, S, b, A, rfl, ?_⟩
        cases b with
        | true => exact ⟨g, e, S, A, h⟩
        | false => exact ⟨g, e, S, A, h⟩

/-! ### try .. except C as n -/
theorem ss_try {c' : Nat} {x n : Str} {i : Nat} {body : List Stmt} {b0 : Stmt} {np pos pos' : Pos} {fb : MS} {hs : Hs} (hst : X.stack = X.env :: X.outer) (hfr : X.env.frame = some X.env.locals) (hN : X.N.Nodup) (hi : X.N[i]? = some n) (hln : X.env.kindOf n = some .local)
    (hg : Gl X x) (hdx : (x == ("__debug__" : Str)) = false) (hmx : X.mg x = some (.ref (C.ca c'))) (hvn : L2.Vis X.env.scope n) (nd : (n == ("__debug__" : Str)) = false) (nc : (n == ("__classdict__" : Str)) = false) (tk : Takes X W) (F : SuF X C ok cn) (hbl : ∀ z ∈ bl, X.mg z = none) (hsc : X.env.scope = sc)
    (hb : ∀ (W : WX) (pn : List (Addr × Obj)) (xe : Value → Shared → Prop), Takes (X.tr pn xe) W → PassesOwn (model X.prog X.w) X.A X.env xe → Sss (X.tr pn xe) C B W body fb) (hc : chHs sc X.N cn bl n hs [b0] = true) :
    Ss X C B W (.Try body [.ExceptHandler (some (.Name x np)) (some n) [b0] pos'] [] [] pos) (sTry ok c' i fb hs) := by
  refine PS.imp (ps_try_as (c := .ref (C.ca c')) (ts := fun a cls d D σ H => ∃ c ns ds, cls = .ref (C.ca c) ∧ tHs C B a i ⟨c, ns, ds⟩ d (hs.run ok i ⟨c, ns, ds⟩) D σ H) (tb := fun W => tS C B W fb) (Wout := W) hst hfr hN hi hln ⟨hg, hdx, .inl hmx⟩ tk (fun W pn xe t1 t2 => hb W pn xe t1 t2) fun a oe cls d pn hz hf => ?_) fun D σ H ⟨g, e, S, st, h⟩ => ?_
  · refine ⟨fun pins s σ H D I ⟨c, ns, ds, e1, h⟩ => ?_⟩
    subst e1
    exact (hs_ok (x := ⟨c, ns, ds⟩) ⟨hz, hf, hi, hvn, nd, nc⟩ F hbl hsc hN hc).run pins s σ H D I h
  · refine ⟨g, e, S, st, ?_⟩
    unfold sTry at h
    cases q : fb e S with
    | ok f e1 S1 =>
      rw [q] at h
      cases f <;> exact h
    | stuck => rw [q] at h; exact False.elim h
    | exc c ns ds e1 S1 =>
      rw [q] at h
      intro cls dd σ' H' g' l st' re
      dsimp only at h
      cases q2 : ok.exm c c' with
      | none => rw [q2] at h; exact False.elim h
      | some b =>
        rw [q2] at h
        obtain ⟨e2, hx⟩ := re
        subst e2
        cases b with
        | false => exact ⟨false, F.exm _ _ _ q2, fun z => (nomatch z), fun _ => h _ _ _ _ _ l st' ⟨rfl, hx⟩⟩
        | true =>
          dsimp only at h
          by_cases hli : i < e1.length
          rotate_left
          · rw [if_neg hli] at h; exact False.elim h
          rw [if_pos hli] at h
          refine ⟨true, F.exm _ _ _ q2, fun _ a ha => ⟨c, ns, ds, rfl, g', e1.set i none, S1, ⟨st'.put (w := none) (fun d h => nomatch h), ?_, ?_⟩, ?_⟩, fun z => (nomatch z)⟩
          · exact List.getElem?_set_self (by rw [← st'.len]; exact hli)
          · rcases hx with ⟨h1, h2, h3⟩ | ⟨ad, fs, h1, h2, h3, h4⟩
            · exact .inl ⟨h1, h2, h3⟩
            · exact .inr ⟨ad, fs, h1, h2, h3, h4⟩
          · have h : PostS C B W g (finT i (hs.run ok i ⟨c, ns, ds⟩ (e1.set i none) S1)) D := h
            cases q3 : hs.run ok i ⟨c, ns, ds⟩ (e1.set i none) S1 with
            | stuck => rw [q3] at h; exact False.elim h
            | exc c2 n2 d2 e2 S2 => rw [q3] at h; exact False.elim h
            | ok f e2 S2 =>
              rw [q3] at h
              have un : ∀ {σ2 : St} {H2 : Hp} {g2 : G}, StR C B g2 e2 S2 σ2 H2 → StR C B g2 (e2.set i none) S2 (σ2.set i none) H2 := fun s2 => s2.put (w := none) fun d h => nomatch h
              cases f with
              | nx => exact fun σ2 H2 g2 l2 s2 => h _ _ _ (l.trans l2) (un s2)
              | brk => exact fun σ2 H2 g2 l2 s2 => h _ _ _ (l.trans l2) (un s2)
              | cont => exact fun σ2 H2 g2 l2 s2 => h _ _ _ (l.trans l2) (un s2)
              | ret v => exact fun u σ2 H2 g2 l2 s2 r => h u _ _ _ (l.trans l2) (un s2) r
end
end PV

set_option Elab.async false
set_option linter.all false
set_option maxRecDepth 100000
set_option maxHeartbeats 1000000
/-! PX6: an instance with its own == is in no list of data. -/
namespace PV
open PySem PySem.Spec L2 Builtin
open PyProof.Rows hiding St
section
variable {prog : Program} {w : World} {A : Around} {E : Value → Shared → Prop} {s : Shared} {l x Ca : Addr} {ox ol : Obj}
theorem tup_declines {items : Array Value} {n : Nat} {Q : Fin → Shared → Prop} {dd : Option Addr} {sl : Array (Option Value)} (hl : s.heap.get? l = some { cls := .type "tuple", dict := dd, data := .seq items n, slots := sl }) (hx : s.heap.get? x = some ox) (hc : ox.cls = .ref Ca)
    (hs : PySem.W.Looks (model prog w) s.heap (isSubtype (.ref Ca) (.type "tuple")) false) (h : Q (.done (.ret .notImplemented)) s) : wpAny (model prog w) A (Builtin.«tuple.__eq__» ⟨[.ref l, .ref x], []⟩) Q E s := by
  obtain ⟨hp, g, d, tk, os⟩ := s
  obtain ⟨oc, od, oda, osl⟩ := ox
  dsimp only at hc
  subst hc
  wp_walk using wpAny_loadPart' hl, wpAny_loadPart' hx, hs.here
  exact h
theorem lst_declines {items : Array Value} {n : Nat} {Q : Fin → Shared → Prop} {dd : Option Addr} {sl : Array (Option Value)} (hl : s.heap.get? l = some { cls := .type "list", dict := dd, data := .seq items n, slots := sl }) (hx : s.heap.get? x = some ox) (hc : ox.cls = .ref Ca)
    (hs : PySem.W.Looks (model prog w) s.heap (isSubtype (.ref Ca) (.type "list")) false) (h : Q (.done (.ret .notImplemented)) s) : wpAny (model prog w) A (Builtin.«list.__eq__» ⟨[.ref l, .ref x], []⟩) Q E s := by
  obtain ⟨hp, g, d, tk, os⟩ := s
  obtain ⟨oc, od, oda, osl⟩ := ox
  dsimp only at hc
  subst hc
  wp_walk using wpAny_loadPart' hl, wpAny_loadPart' hx, hs.here
  exact h
theorem non_declines {Q : Fin → Shared → Prop} (h : Q (.done (.ret .notImplemented)) s) : wpAny (model prog w) A (Builtin.«NoneType.__eq__» ⟨[.none, .ref x], []⟩) Q E s := by
  obtain ⟨hp, g, d, tk, os⟩ := s
  wp_walk
  exact h
theorem int_declines {i : Int} {t : Tok} {dx : Addr} {Q : Fin → Shared → Prop} (hx : s.heap.get? x = some (PySem.W.instObj Ca dx))
    (hs : PySem.W.Looks (model prog w) s.heap (isSubtype (.ref Ca) (.type "int")) false) (h : Q (.done (.ret .notImplemented)) s) : wpAny (model prog w) A (Builtin.«int.__eq__» ⟨[.int i t, .ref x], []⟩) Q E s := by
  obtain ⟨hp, g, d, tk, os⟩ := s
  unfold PySem.W.instObj at hx
  wp_walk using wpAny_loadPart' hx, hs.here, wpAny_load hx
  exact h
open PyProof.Rows in
/-- the other way round: data on the left, an instance with its own == on the right -/
theorem refl_K {K : PySem.W.Frag} {C f : Addr} {od : Option Obj} {T id : String} {u : Value} {Q : Value → Shared → Prop} (hu : A.units < cLine) (X0 : K.In s.heap) (I : PySem.W.InstAt s.heap x ox C od) (hT : s.TypeIs u T) (slot : Slot T "__eq__" id)
    (hn : PySem.W.subIn K (.ref C) (.type T) = some false) (hs : PySem.W.findIn K (.ref C) "__eq__" = some (some (.ref f))) (hf : PySem.W.isFn K (.ref f) = true)
    (hd : wpAny (model prog w) A (call (.builtin id) [u, .ref x]) (fun r s' => r = .notImplemented ∧ s' = s) E s) (h : wpAny (model prog w) A (call (.ref f) [.ref x, u]) (PySem.W.CmpBack Q) E s) : wpAny (model prog w) A (richCompare .Eq u (.ref x)) Q E s := by
  have back : wpAny (model prog w) A (tryCompare (.ref x) "__eq__" u) (fun r s' => ∃ v, r = some v ∧ Q v s') E s := by
    unfold tryCompare
    refine wpAny_bind (PySem.W.ifBound_K X0 I hs hf (wpAny_mono h (fun u2 s2 hz => ?_) fun _ _ z => z))
    cases u2 <;> first | exact False.elim hz | exact wpAny_pure ⟨_, rfl, hz⟩
  unfold richCompare
  simp only [hT.oneThing_none]
  refine wpAny_holding (wpAny_bind (wpAny_cRoomFor hu ?_))
  refine wpAny_bind (wpAny_typeOf hT (wpAny_bind (I.type.here ?_)))
  have ne : (Value.type T != Value.ref C) = true := rfl
  simp only [ne, if_true]
  refine wpAny_bind ((PySem.W.looks_subIn X0 hn).here ?_)
  simp only [Bool.false_eq_true, if_false, Bool.not_false, if_true]
  refine wpAny_bind (m := tryCompare u _ (.ref x)) (wpAny_tryCompare_declines hT slot (wpAny_mono hd (fun r s1 ⟨e1, e2⟩ => ⟨e1, ?_⟩) fun _ _ z => z))
  subst e2
  refine wpAny_bind (m := tryCompare (.ref x) _ u) (wpAny_mono back (fun r s' ⟨v, e3, q⟩ => ?_) fun _ _ z => z)
  subst e3
  exact wpAny_pure q

/-- at each turn the list is read anew: N items, the i-th is not equal to v -/
def NoI (prog : Program) (w : World) (A : Around) (E : Value → Shared → Prop) (l : Addr) (v : Value) (N : Nat) (I : Nat → Shared → Prop) : Prop :=
  ∀ i s, I i s → ∃ (items : Array Value) (n : Nat) (dd : Option Addr) (sl : Array (Option Value)), s.heap.get? l = some { cls := .type "list", dict := dd, data := .seq items n, slots := sl } ∧ items.size = N ∧
    ∀ hi : i < items.size, wpAny (model prog w) A.in1 (eqBool items[i] v) (fun r s' => r = false ∧ I (i + 1) s') E s
/-- the loop of x in [..] where nothing is equal to x -/
theorem none_loop {R : Result → Shared → Prop} {N : Nat} {v : Value} (I : Nat → Shared → Prop) (tn : NoI prog w A (fun e s' => R (.error e) s') l v N I) (fin : ∀ s, I N s → R (.ok (.ret (.bool false))) s) :
    ∀ (k i : Nat), N - i = k → i ≤ N → ∀ s, I i s → wpAny (model prog w) A.in1 (Builtin.«list.__contains__.loop» ⟨[.ref l, v, rawInt i], []⟩) (GQ.FinOf prog w A R) (fun e s' => R (.error e) s') s
  | 0, i, hk, hi, s, h => by
    obtain ⟨items, n, dd, sl, hl, hN, _⟩ := tn _ _ h
    have ei : i = N := by omega
    have hR := fin s (ei ▸ h)
    obtain ⟨hp, g, d, tk, os⟩ := s
    wp_walk using wpAny_loadPart' hl
    have no : items[((i : Nat) : Int).toNat]? = none := by simp; omega
    rw [no]
    wp_walk
    exact hR
  | k + 1, i, hk, hi, s, h => by
    obtain ⟨items, n, dd, sl, hl, hN, ht⟩ := tn _ _ h
    have lt : i < items.size := by omega
    have ht := ht lt
    obtain ⟨hp, g, d, tk, os⟩ := s
    wp_walk using wpAny_loadPart' hl
    have yes : items[((i : Nat) : Int).toNat]? = some items[i] := by simp [lt]
    have ec : ((i : Int) + 1) = ((i + 1 : Nat) : Int) := by omega
    rw [yes]
    refine wpAny_bind (wpAny_mono ht (fun r s2 ⟨hr, h2⟩ => ?_) fun _ _ z => z)
    subst hr
    have rc0 := none_loop (R := R) I tn fin k (i + 1) (by omega) (by omega) s2 h2
    obtain ⟨hp2, g2, d2, tk2, os2⟩ := s2
    wp_walk
    rw [ec]
    exact ⟨plainId_quiet MeetsSeq.plain_contains_loop _, codeAny_builtin MeetsSeq.entry_contains_loop (by
      rw [Around.under_plainId MeetsSeq.plain_contains_loop _]; exact rc0)⟩
theorem none_in {N : Nat} {v : Value} {Q : Value → Shared → Prop} (I : Nat → Shared → Prop) (tn : NoI prog w A E l v N I) (fin : ∀ s, I N s → Q (.bool false) s) (h : I 0 s) :
    wpAny (model prog w) A (compareOp .In v (.ref l)) Q E s := by
  obtain ⟨items, n, dd, sl, hl, hN, _⟩ := tn _ _ h
  show wpAny _ A (do return .bool (← contains (.ref l) v)) Q E s
  refine wpAny_bind (wpAny_contains_slot ⟨_, hl, rfl⟩ PySem.F.slot_list_contains (wpAny_mono (GQ.call_here (Q := fun r s' => r = .bool false ∧ Q (.bool false) s') PySem.F.slot_list_contains ⟨_, hl, rfl⟩ PySem.F.entry_list_contains (PySem.F.args_list_contains_2 _ _) ?_) (fun r s' ⟨e1, q⟩ => ?_) fun _ _ z => z))
  · have rc0 := none_loop (A := A) (R := wants (fun r s' => r = .bool false ∧ Q (.bool false) s') E) I tn (fun s' q => ⟨rfl, fin s' q⟩) _ 0 rfl (Nat.zero_le _) s h
    obtain ⟨hp, g, d, tk, os⟩ := s
    wp_walk using wpAny_loadPart' hl
    exact ⟨plainId_quiet MeetsSeq.plain_contains_loop _, codeAny_builtin MeetsSeq.entry_contains_loop (by
      rw [Around.under_plainId MeetsSeq.plain_contains_loop _]; exact rc0)⟩
  · subst e1
    exact wpAny_truthy_bool (wpAny_pure q)
end
end PV

set_option Elab.async false
set_option linter.all false
set_option maxRecDepth 100000
set_option maxHeartbeats 1000000
/-! PX7: x in [..], x an instance with its own ==, the items data that x is not equal to. -/
namespace PV
open PySem PySem.Spec L2
open PyProof.Rows hiding St
section
variable {X : Cx} {C : Kx} {B : Bs} {W : WX} {g g' : G} {e : Env} {S S' : Store} {σ : St} {H H' : Hp}
def datTys : List String := ["NoneType", "int", "tuple", "list"]
/-- data of these kinds -/
inductive DatV (K : PySem.W.Frag) (H : Hp) : V → Prop
  | non : DatV K H .non
  | int (i : Int) : DatV K H (.int i)
  | tup {p : Addr} {xs : List V} (h : SqT K H p xs) : DatV K H (.ref p)
  | lst {p : Addr} {xs : List V} (h : SqL K H p xs) : DatV K H (.ref p)
/-- no instance of the class at Ca is data -/
def ndB (K : PySem.W.Frag) (Ca : Addr) : Bool := datTys.all fun t => decide (PySem.W.subIn K (.ref Ca) (.type t) = some false)
theorem eqBool_of {prog : Program} {w : World} {A : Around} {E : Value → Shared → Prop} {s : Shared} {u : Value} {x : Addr} {Q : Bool → Shared → Prop} (h0 : (u == Value.ref x) = false) (h : wpAny (model prog w) A (richCompare .Eq u (.ref x)) (fun v s' => ∃ r, v = .bool r ∧ Q r s') E s) :
    wpAny (model prog w) A (eqBool u (.ref x)) Q E s := by
  unfold eqBool
  refine wpAny_holding ?_
  rw [h0]
  simp only [Bool.false_eq_true, if_false]
  have tl : wpAny (model prog w) A (truthOfDropped =<< richCompare .Eq u (.ref x)) Q E s := wpAny_bind (wpAny_mono h (fun v s' ⟨r, e1, q⟩ => by subst e1; exact wpAny_truthy_bool q) fun _ _ z => z)
  cases u <;> exact tl
theorem own_no {A : Around} {pins : List (Addr × Obj)} {s : Shared} {k c : Nat} {F : List D → M D} {a dx : Addr} {fs : List (Str × V)} {y : V} {u : Value} {P : Hp → Prop} (hr : Room (k + 1) A) (hfr : A.frames = X.A.frames) (T : EqC X C k c F) (hn : ndB X.K (C.ca c) = true) (I : Inv X pins σ H s) (ha : H a = some (.ins (C.ca c) dx fs))
    (ry : RelV y u) (dy : DatV X.K H y) (sp : spD C 2 F [.ref a, y] H (fun v H' => v = .bl false ∧ P H') fun _ _ _ => False) :
    wpAny (model X.prog X.w) A (eqBool u (.ref a)) (fun r s' => r = false ∧ ∃ H', Inv X pins σ H' s' ∧ P H') X.xe s := by
  obtain ⟨f, fd, ps, G, h1, h2, h3, h4⟩ := T.ex
  obtain ⟨m1, O1, _⟩ := ins_get I.hok ha
  obtain ⟨o1, J1, _⟩ := O1.look
  have sub : ∀ {t : String}, t ∈ datTys → PySem.W.subIn X.K (.ref (C.ca c)) (.type t) = some false := fun {t} ht => by
    unfold ndB at hn
    rw [List.all_eq_true] at hn
    exact of_decide_eq_true (hn t ht)
  have go : wpAny (model X.prog X.w) A (PySem.call (.ref f) [.ref a, u]) (PySem.W.CmpBack fun v s' => ∃ r, v = .bool r ∧ r = false ∧ ∃ H', Inv X pins σ H' s' ∧ P H') X.xe s := by
    refine wpAny_mono (run_at (A := A) G (hr.mono (Nat.le_succ k)) hfr h3 (fun _ _ => noExc) I (us := [.ref a, u]) (vs := [.ref a, y]) (.cons rfl (.cons ry .nil)) sp) (fun r s' q => ?_) fun _ _ z => z
    obtain ⟨z, H', I', rz, e1, q⟩ := q
    subst e1
    cases rz
    exact ⟨false, rfl, rfl, H', I', q⟩
  have sub1 : ∀ {t : String}, t ∈ datTys → PySem.W.Looks (model X.prog X.w) s.heap (isSubtype (.ref (C.ca c)) (.type t)) false := fun ht => PySem.W.looks_subIn I.kIn (sub ht)
  cases dy with
  | non =>
    obtain rfl : u = Value.none := ry
    refine eqBool_of rfl (refl_K hr.units0 I.kIn J1 (T := "NoneType") rfl PySem.F.slot_NoneType_eq (sub (by decide)) h1 h2 ?_ go)
    exact GQ.call_here PySem.F.slot_NoneType_eq rfl PySem.F.entry_NoneType_eq (PySem.F.args_NoneType_eq_2 _ _) (non_declines ⟨rfl, rfl⟩)
  | int i =>
    obtain ⟨t, rfl⟩ : ∃ t, u = Value.int i t := ry
    refine eqBool_of rfl (refl_K hr.units0 I.kIn J1 (T := "int") (typeIs_int s i t) PySem.F.slot_int_eq (sub (by decide)) h1 h2 ?_ go)
    exact GQ.call_here PySem.F.slot_int_eq (typeIs_int s i t) PySem.F.entry_int_eq (PySem.F.args_int_eq_2 _ _) (int_declines O1.obj (sub1 (by decide)) ⟨rfl, rfl⟩)
  | @tup p xs h =>
    obtain rfl : u = Value.ref p := ry
    obtain ⟨its, r, ⟨o, e1, e2, n, e3⟩, _⟩ := I.tuple h
    obtain ⟨oc, od, oda, osl⟩ := o
    dsimp only at e2 e3
    subst e2 e3
    have hne : (Value.ref p == Value.ref a) = false := by
      refine beq_eq_false_iff_ne.mpr fun z => ?_
      have e4 : p = a := Value.ref.inj z
      subst e4
      have e5 := e1.symm.trans O1.obj
      cases e5
    refine eqBool_of hne (refl_K hr.units0 I.kIn J1 (T := "tuple") ⟨_, e1, rfl⟩ PySem.F.slot_tuple_eq (sub (by decide)) h1 h2 ?_ go)
    exact GQ.call_here PySem.F.slot_tuple_eq ⟨_, e1, rfl⟩ PySem.F.entry_tuple_eq (PySem.F.args_tuple_eq_2 _ _) (tup_declines e1 O1.obj rfl (sub1 (by decide)) ⟨rfl, rfl⟩)
  | @lst p xs h =>
    obtain rfl : u = Value.ref p := ry
    obtain ⟨its, r, ⟨o, n, e1, e2, e4, e3⟩, _⟩ := I.list h
    obtain ⟨oc, od, oda, osl⟩ := o
    dsimp only at e2 e3
    subst e2 e3
    have hne : (Value.ref p == Value.ref a) = false := by
      refine beq_eq_false_iff_ne.mpr fun z => ?_
      have e4 : p = a := Value.ref.inj z
      subst e4
      have e5 := e1.symm.trans O1.obj
      cases e5
    refine eqBool_of hne (refl_K hr.units0 I.kIn J1 (T := "list") ⟨_, e1, rfl⟩ PySem.F.slot_list_eq (sub (by decide)) h1 h2 ?_ go)
    exact GQ.call_here PySem.F.slot_list_eq ⟨_, e1, rfl⟩ PySem.F.entry_list_eq (PySem.F.args_list_eq_2 _ _) (lst_declines e1 O1.obj rfl (sub1 (by decide)) ⟨rfl, rfl⟩)

/-- what holds at every turn -/
def GdI (K : PySem.W.Frag) (C : Kx) (c : Nat) (a p : Addr) (all : List V) (H : Hp) : Prop := (∃ dx fs, H a = some (.ins (C.ca c) dx fs)) ∧ SqL K H p all ∧ ∀ y ∈ all, DatV K H y
def NoCh (K : PySem.W.Frag) (C : Kx) (c : Nat) (F : List D → M D) (a p : Addr) (all : List V) : List V → Hp → VK → Prop
  | [], H, Q => GdI K C c a p all H ∧ Q (.bl false) H
  | y :: r, H, Q => GdI K C c a p all H ∧ spD C 2 F [.ref a, y] H (fun v H' => v = .bl false ∧ NoCh K C c F a p all r H' Q) fun _ _ _ => False
theorem NoCh.gd {K : PySem.W.Frag} {c : Nat} {F : List D → M D} {a p : Addr} {all r : List V} {Q : VK} (h : NoCh K C c F a p all r H Q) : GdI K C c a p all H := by
  cases r <;> exact h.1
def rNoIn (K : PySem.W.Frag) (C : Kx) (T : Nat → Option (List D → M D)) : R2 := fun x y H Q => ∃ a p ys c F, x = .ref a ∧ y = .ref p ∧ T c = some F ∧ NoCh K C c F a p ys ys H Q
theorem op_inNo {k : Nat} {T : Nat → Option (List D → M D)} (hr : Room (k + 2) X.A) (hT : ∀ c F, T c = some F → EqC X C k c F ∧ ndB X.K (C.ca c) = true) : OpR X (compareOp .In) (rNoIn X.K C T) := by
  intro pins s σ H x y u v Q I rx ry h
  obtain ⟨a, p, ys, c, F, rfl, rfl, hF, ch⟩ := h
  cases rx
  cases ry
  obtain ⟨hE, hn⟩ := hT c F hF
  refine none_in (N := ys.length) (fun i s' => ∃ H', Inv X pins σ H' s' ∧ NoCh X.K C c F a p ys (ys.drop i) H' Q) (fun i s' ⟨H', I', ch'⟩ => ?_) (fun s' ⟨H', I', ch'⟩ => ?_) ⟨H, I, ch⟩
  · obtain ⟨⟨dx, fs, ha⟩, hl, hd⟩ := ch'.gd
    obtain ⟨its, r, ⟨o, n, e1, e2, e4, e3⟩, _⟩ := I'.list hl
    obtain ⟨oc, od, oda, osl⟩ := o
    dsimp only at e2 e3
    subst e2 e3
    have el : its.length = ys.length := r.length.symm
    refine ⟨its.toArray, n, od, osl, e1, by rw [List.size_toArray, el], fun hi => ?_⟩
    rw [List.size_toArray] at hi
    have hi2 : i < ys.length := by omega
    have ed : ys.drop i = ys[i] :: ys.drop (i + 1) := List.drop_eq_getElem_cons hi2
    rw [ed] at ch'
    have ri : RelV ys[i] its[i] := by
      obtain ⟨u, hu, ru⟩ := r.get (List.getElem?_eq_getElem hi2)
      have eu : its[i] = u := Option.some.inj ((List.getElem?_eq_getElem hi).symm.trans hu)
      rw [eu]; exact ru
    exact own_no (A := X.A.in1) hr.in1 rfl hE hn I' ha ri (hd _ (List.getElem_mem hi2)) ch'.2
  · rw [List.drop_length] at ch'
    exact ⟨.bl false, H', I', rfl, ch'.2⟩
def isDat : D → Bool
  | .non | .int _ | .tup _ | .lst _ => true
  | _ => false
/-- F tells False of all -/
def allNo (F : List D → M D) (x : D) : List D → Store → Option Store
  | [], S => some S
  | y :: r, S => match F [x, y] S with
    | .ok (.bl false) S' => allNo F x r S'
    | _ => none
def inNoD (T : Nat → Option (List D → M D)) (x y : D) : M Ow := fun S => match x, y with
  | .ins c _ _, .lst ys => match T c with
    | some F => if ys.all isDat then match allNo F x ys S with
      | some S' => .ok (.val (.bl false)) S'
      | none => .stuck
      else .stuck
    | none => .stuck
  | _, _ => .stuck
theorem dat_ok {v : V} {d : D} {lk : List Addr} (m : Sim C lk g S H) (r : Rep C g v d) (h : isDat d = true) : DatV C.K H v := by
  cases r <;> first | (exact absurd h Bool.false_ne_true) | skip
  · exact .non
  · exact .int _
  · rename_i h1 _; exact .lst (.inl (m.rdL h1))
  · rename_i h1 _; exact .tup (m.sqT h1)
theorem Reps.memD : ∀ {vs : List V} {ds : List D}, Reps C g vs ds → ∀ v ∈ vs, ∃ d ∈ ds, Rep C g v d
  | _, _, .nil, v, h => by cases h
  | _, _, .cons r t, v, h => by
    rcases List.mem_cons.mp h with q | q
    · subst q; exact ⟨_, List.mem_cons_self, r⟩
    · obtain ⟨d, h1, h2⟩ := Reps.memD t v q
      exact ⟨d, List.mem_cons_of_mem _ h1, h2⟩
theorem noCh_of {c : Nat} {ns : List String} {fs : List D} {F : List D → M D} {a p : Addr} {all : List V} {ds : List D} {Q : VK} (hall : ds.all isDat = true) (hp : Rep C g (.ref p) (.lst ds)) (ha : Rep C g (.ref a) (.ins c ns fs)) (hA : Reps C g all ds) (hl : Rd g.Φ p (.lst all)) :
    ∀ {rs : List V} {es : List D} {g1 : G} {S1 S2 : Store} {H1 : Hp}, g.Le g1 → Reps C g1 rs es → Sim C B.lks g1 S1 H1 → allNo F (.ins c ns fs) es S1 = some S2 → (∀ H' g', Frm g1 H1 g' H' → Sim C B.lks g' S2 H' → Q (.bl false) H') → NoCh C.K C c F a p all rs H1 Q
  | _, _, g1, S1, S2, H1, le, .nil, m, e1, q => by
    cases e1
    exact ⟨gd_of hall hp ha hA hl le m, q H1 g1 .refl m⟩
  | _, _, g1, S1, S2, H1, le, @Reps.cons _ _ y d rs es ry rr, m, e1, q => by
    refine ⟨gd_of hall hp ha hA hl le m, rfl, B.lks, g1, S1, [.ins c ns fs, d], m, .cons (ha.mono le) (.cons ry .nil), ?_⟩
    unfold allNo at e1
    cases qF : F [.ins c ns fs, d] S1 with
    | exc c1 n1 d1 S3 => rw [qF] at e1; cases e1
    | stuck => rw [qF] at e1; cases e1
    | ok w S3 =>
      rw [qF] at e1
      cases w <;> first | (cases e1; done) | skip
      rename_i b
      cases b <;> first | (cases e1; done) | skip
      intro v H' g' f m' r
      cases r
      exact ⟨rfl, noCh_of hall hp ha hA hl (le.trans f.le) (rr.mono f.le) m' e1 fun H2 g2 f2 m2 => q H2 g2 (f.trans f2) m2⟩
where
  gd_of {c : Nat} {ns : List String} {fs : List D} {a p : Addr} {all : List V} {ds : List D} (hall : ds.all isDat = true) (hp : Rep C g (.ref p) (.lst ds)) (ha : Rep C g (.ref a) (.ins c ns fs)) (hA : Reps C g all ds) (hl : Rd g.Φ p (.lst all)) {g1 : G} {S1 : Store} {H1 : Hp} (le : g.Le g1) (m : Sim C B.lks g1 S1 H1) : GdI C.K C c a p all H1 := by
    obtain ⟨a', dx, gs, e1, h1, _, _⟩ := m.insq (RepF.rep (H := H1) (ha.mono le)) (c := c) (ns := ns) (ds := fs) rfl
    cases e1
    refine ⟨⟨dx, gs, h1⟩, .inl (m.rdL ?_), fun y hy => ?_⟩
    · rcases hl with hl | ⟨o, hl⟩
      · exact .inl (le.fz _ _ hl)
      · exact .inr ⟨o, le.fz _ _ hl⟩
    · obtain ⟨d, hd, r⟩ := Reps.memD hA y hy
      exact dat_ok m (r.mono le) (List.all_eq_true.mp hall d hd)
theorem ope_inNo {T : Nat → Option (List D → M D)} : OpE C B W (rNoIn C.K C T) (inNoD T) := by
  intro g e S σ H v1 v2 d1 d2 Q st r1 r2 h
  unfold inNoD at h
  cases r1 <;> first | (exact False.elim h) | skip
  rename_i a dx fs c ns ds h1 h2 h3
  cases r2 <;> first | (exact False.elim h) | skip
  rename_i p vs es h4 h5
  dsimp only at h
  cases qT : T c with
  | none => rw [qT] at h; exact False.elim h
  | some F =>
    rw [qT] at h
    dsimp only at h
    by_cases hall : es.all isDat = true
    · rw [if_pos hall] at h
      cases q : allNo F (.ins c ns ds) es S with
      | none => rw [q] at h; exact False.elim h
      | some S' =>
        rw [q] at h
        exact ⟨a, p, vs, c, F, rfl, rfl, qT, noCh_of (B := B) hall (.lst h4 h5) (.ins h1 h2 h3) h5 h4 (.refl g) h5 st.toSim q fun H' g' f m => h _ H' g' f (st.call f m) (.val (.bl false))⟩
    · rw [if_neg hall] at h; exact False.elim h
theorem sv_inNo {k : Nat} {T : Nat → Option (List D → M D)} {pa pb : Expr} {pos : Pos} {fa fb : Env → M Ow} (hK : X.K = C.K) (hr : Room (k + 2) X.A) (hT : ∀ c F, T c = some F → EqC X C k c F ∧ ndB X.K (C.ca c) = true) (ha : Sv X C B W pa fa) (hb : Sv X C B W pb fb) (hm : behindInMarks .In pb = false) :
    Sv X C B W (.Compare pa [.In] [pb] pos) (evE2 (inNoD T) fa fb) := PE.imp (pe_cmpR (op_inNo hr hT) ha hb hm) fun σ H Q h => tOp_ofE (by rw [hK]; exact ope_inNo) h
theorem sb_inNo {k : Nat} {T : Nat → Option (List D → M D)} {pa pb : Expr} {pos : Pos} {fa fb : Env → M Ow} (hK : X.K = C.K) (hr : Room (k + 2) X.A) (hT : ∀ c F, T c = some F → EqC X C k c F ∧ ndB X.K (C.ca c) = true) (ha : Sv X C B W pa fa) (hb : Sv X C B W pb fb) (hm : behindInMarks .In pb = false) :
    Sb X C B W (.Compare pa [.In] [pb] pos) (asB (evE2 (inNoD T) fa fb)) := PT.imp (pt_cmpR (op_inNo hr hT) ha hb hm) fun σ H Q h => tTest_of (fun σ H Q h => tOp_ofE (by rw [hK]; exact ope_inNo) h) h
end
end PV

set_option Elab.async false
set_option linter.all false
set_option maxRecDepth 100000
set_option maxHeartbeats 400000
/-! PV14: expressions as data: their meaning, and the check against the text. -/
namespace PV
open PySem PySem.Spec L2
open PyProof.Rows hiding St

inductive Op | add | sub | mul | fdiv | mod | pow
inductive Cp | lt | le | gt | ge | eq | ne
inductive Bt | abs | max2 | min2 | len | str | list | tuple | int | listN
/-- more: o.m(..), own == and !=, x in [..], isinstance, methods of lists -/
inductive Xk | meth (c : Nat) (m : String) | eqi (neg : Bool) | inNo | isi (c' : Nat) | lm (m : Lm)
mutual
inductive Tg where
  | name (i : Nat)
  | tup (ts : Tgs)
inductive Tgs where
  | nil
  | cons (t : Tg) (r : Tgs)
end
mutual
inductive Ex where
  | bad
  | var (i : Nat)
  | int (i : Int)
  | bl (b : Bool)
  | non
  | str (s : String)
  | op (o : Op) (a b : Ex)
  | cmp (o : Cp) (a b : Ex)
  | neg (a : Ex)
  | not (a : Ex)
  | and (a b : Ex)
  | or (a b : Ex)
  | ite (t a b : Ex)
  | tup (as : Exs)
  | lst (as : Exs)
  | newl (as : Exs)
  | call (f : Nat) (its : List Ar) (as ks : Exs)
  | mk (c i : Nat) (shr : Bool) (its : List Ar) (as ks : Exs)
  | blt (o : Bt) (as : Exs)
  | fld (f : String) (a : Ex)
  | idx (a i : Ex)
  | slc (a : Ex) (lo hi : Eo)
  | rev (a : Ex)
  | join (a b : Ex)
  | fmt (a : Ex)
  | joined (as : Exs)
  | comp (elt : Ex) (tg : Tg) (src : Sr) (cond : Eo) (own : List Nat)
  | ext (k : Xk) (as : Exs)
inductive Exs where
  | nil
  | cons (a : Ex) (r : Exs)
inductive Eo where
  | no
  | yes (a : Ex)
inductive Sr where
  | seq (a : Ex)
  | rng1 (a : Ex)
  | rng2 (a b : Ex)
end
def Exs.len : Exs → Nat
  | .nil => 0
  | .cons _ r => r.len + 1
/-! ### meaning -/
def Op.d : Op → D → D → M Ow
  | .add => addD
  | .sub => subD
  | .mul => mulD
  | .fdiv => fdivD
  | .mod => modD
  | .pow => powD
def Cp.d : Cp → D → D → M Ow
  | .lt => cmpD fun i j => decide (i < j)
  | .le => cmpD fun i j => decide (i ≤ j)
  | .gt => cmpD fun i j => decide (j < i)
  | .ge => cmpD fun i j => decide (j ≤ i)
  | .eq => eqD false
  | .ne => eqD true
def Bt.d : Bt → List D → M Ow
  | .abs => absF
  | .max2 => max2F
  | .min2 => min2F
  | .len => lenF
  | .str => strF
  | .list => listF
  | .tuple => tupleF
  | .int => intF
  | .listN => newlF
mutual
def evt : Tg → D → Env → Option Env
  | .name i => tgName i
  | .tup ts => tgTup (evts ts)
def evts : Tgs → List (D → Env → Option Env)
  | .nil => []
  | .cons t r => evt t :: evts r
end
structure Tab where
  fn : Nat → List D → M D
  ini : Nat → List D → M Fds
section
variable (T : Tab) (ok : Okt)
def tq (c : Nat) : Option (List D → M D) := (ok.eqs c).map T.fn
def evX : Xk → List (Env → M Ow) → Env → M Ow
  | .meth c m, f :: r => match ok.met c m with
    | some (i, n) => evMeth c m n (T.fn i) f (evAll r)
    | none => fun _ => M.stuck
  | .eqi neg, [f, g] => evE2 (eqiD (tq T ok) neg) f g
  | .inNo, [f, g] => evE2 (inNoD (tq T ok)) f g
  | .isi c', [f] => evIs ok.sub ok.dat c' f
  | .lm m, f :: r => evLm m f (evAll r)
  | _, _ => fun _ => M.stuck
def fldK (f : String) (d : D) : M Ow := fun S => match insOf S d with
  | some (c, _, _) => if ok.fld c f then fldD f d S else .stuck
  | none => .stuck
mutual
def ev : Ex → Env → M Ow
  | .bad => fun _ => M.stuck
  | .var i => evVar i
  | .int i => evC (.int i)
  | .bl b => evC (.bl b)
  | .non => evC .non
  | .str s => evC (.str (Str.ofString s))
  | .op o a b => ev2 o.d (ev a) (ev b)
  | .cmp o a b => ev2 o.d (ev a) (ev b)
  | .neg a => ev1 negD (ev a)
  | .not a => evNot (ev a)
  | .and a b => evAnd (ev a) (ev b)
  | .or a b => evOr (ev a) (ev b)
  | .ite t a b => evIf (tbx t) (ev a) (ev b)
  | .tup as => evTup (evs as)
  | .lst as => evLst (evs as)
  | .newl as => evNewL (evs as)
  | .call f its as ks => evCall (T.fn f) as.len ks.len its (evs as) (evs ks)
  | .mk c i shr its as ks => evMake c shr (T.ini i) as.len ks.len its (evs as) (evs ks)
  | .blt o as => evF o.d (evs as)
  | .fld f a => ev1 (fldK ok f) (ev a)
  | .idx a i => evIdx (ev a) (ev i)
  | .slc a lo hi => evSlc (ev a) (evo lo) (evo hi)
  | .rev a => ev1 revD (ev a)
  | .join a b => evS1 joinD (ev a) (ev b)
  | .fmt a => evFmt (ev a)
  | .joined as => evJoined (evj as)
  | .comp elt tg src cond own => evComp (evr src) (evt tg) (evc cond) (ev elt) own
  | .ext k as => evX T ok k (evj as)
def tbx : Ex → Env → M Bool
  | .not a => tbNot (tbx a)
  | .and a b => tbAnd (tbx a) (tbx b)
  | .or a b => tbOr (tbx a) (tbx b)
  | .cmp o a b => asB (ev2 o.d (ev a) (ev b))
  | .bad => fun _ => M.stuck
  | .var i => asB (evVar i)
  | .bl b => asB (evC (.bl b))
  | .call f its as ks => asB (evCall (T.fn f) as.len ks.len its (evs as) (evs ks))
  | .fld f a => asB (ev1 (fldK ok f) (ev a))
  | .idx a i => asB (evIdx (ev a) (ev i))
  | .blt o as => asB (evF o.d (evs as))
  | .ext k as => asB (evX T ok k (evj as))
  | _ => fun _ => M.stuck
def evs : Exs → Env → M (List Ow)
  | .nil => evNil
  | .cons a r => evCons (ev a) (evs r)
def evj : Exs → List (Env → M Ow)
  | .nil => []
  | .cons a r => ev a :: evj r
def evo : Eo → Option (Env → M Ow)
  | .no => none
  | .yes a => some (ev a)
def evc : Eo → Env → M Bool
  | .no => fun _ => M.pure true
  | .yes a => tbx a
def evr : Sr → Env → M Wlk
  | .seq a => evSrc (ev a)
  | .rng1 a => evRng false (evCons (ev a) evNil)
  | .rng2 a b => evRng true (evCons (ev a) (evCons (ev b) evNil))
end
end
/-! ### the check -/
structure Tb where
  fn : List (Str × Nat)
  cl : List (Str × Nat × Nat)
  bl : List Str
  bd : Nat → List ((Nat × List Str) × List Ar)
  bi : Nat → List ((Nat × List Str) × List Ar)
  fl : List (Nat × String)
  cn : List (Str × Nat)
def Ar.beq : Ar → Ar → Bool
  | .p i, .p j => i == j
  | .k i, .k j => i == j
  | .d x, .d y => D.beq x y
  | _, _ => false
def Ars.beq : List Ar → List Ar → Bool
  | [], [] => true
  | a :: r, b :: s => a.beq b && Ars.beq r s
  | _, _ => false
theorem Ar.beq_ok : ∀ {a b : Ar}, a.beq b = true → a = b
  | .p i, .p j, h => by have : i = j := beq_iff_eq.mp h; rw [this]
  | .k i, .k j, h => by have : i = j := beq_iff_eq.mp h; rw [this]
  | .d x, .d y, h => by rw [D.beq_ok h]
  | .p _, .k _, h => by cases h
  | .p _, .d _, h => by cases h
  | .k _, .p _, h => by cases h
  | .k _, .d _, h => by cases h
  | .d _, .p _, h => by cases h
  | .d _, .k _, h => by cases h
theorem Ars.beq_ok : ∀ {a b : List Ar}, Ars.beq a b = true → a = b
  | [], [], _ => rfl
  | a :: r, b :: s, h => by rw [Ars.beq, Bool.and_eq_true] at h; rw [Ar.beq_ok h.1, Ars.beq_ok h.2]
  | [], _ :: _, h => by cases h
  | _ :: _, [], h => by cases h
def lookB (l : List ((Nat × List Str) × List Ar)) (q : Nat × List Str) (its : List Ar) : Bool := l.any fun p => decide (p.1 = q) && Ars.beq p.2 its
theorem lookB_ok {l : List ((Nat × List Str) × List Ar)} {q : Nat × List Str} {its : List Ar} (h : lookB l q its = true) : (q, its) ∈ l := by
  unfold lookB at h
  rw [List.any_eq_true] at h
  obtain ⟨p, hp, hq⟩ := h
  rw [Bool.and_eq_true] at hq
  have e1 : p.1 = q := of_decide_eq_true hq.1
  have e2 := Ars.beq_ok hq.2
  subst e1 e2
  exact hp
def opM : Op → Operator → Bool
  | .add, .Add => true
  | .sub, .Sub => true
  | .mul, .Mult => true
  | .fdiv, .FloorDiv => true
  | .mod, .Mod => true
  | .pow, .Pow => true
  | _, _ => false
def cpM : Cp → CmpOp → Bool
  | .lt, .Lt => true
  | .le, .LtE => true
  | .gt, .Gt => true
  | .ge, .GtE => true
  | .eq, .Eq => true
  | .ne, .NotEq => true
  | _, _ => false
def btM : Bt → String
  | .abs => "abs"
  | .max2 => "max"
  | .min2 => "min"
  | .len => "len"
  | .str => "str"
  | .list => "list"
  | .tuple => "tuple"
  | .int => "int"
  | .listN => "list"
def isLoc (sc : Scope) (x : Str) : Bool := decide (sc.names.lookup x = some .local) || decide (sc.names.lookup x = some .cell)
def isBlt (Γ : Tb) (sc : Scope) (x : Str) (s : String) : Bool := decide (x = Str.ofString s) && isGl sc x && Γ.bl.any (fun y => decide (y = x))
/-- what an extension's text is made of -/
def subX (Γ : Tb) (sc : Scope) : Xk → Expr → Option (List Expr)
  | .meth _ m, .Call (.Attribute po g ap) ps [] pos => if decide (g = Str.ofString m) && (noStars ps && (notCall po && ((ap.endLine == pos.line) && decide (ps.length < 30)))) then some (po :: ps) else none
  | .eqi neg, .Compare pa [.Eq] [pb] _ => if !neg && !(behindInMarks .Eq pb) then some [pa, pb] else none
  | .eqi neg, .Compare pa [.NotEq] [pb] _ => if neg && !(behindInMarks .NotEq pb) then some [pa, pb] else none
  | .inNo, .Compare pa [.In] [pb] _ => if !(behindInMarks .In pb) then some [pa, pb] else none
  | .isi c', .Call (.Name x _) [po, .Name y _] [] _ => if isBlt Γ sc x "isinstance" && (decide ((y, c') ∈ Γ.cn) && (isGl sc y && (okNm y && noStars [po]))) then some [po] else none
  | .lm m, .Call (.Attribute po g ap) [] [] pos => if decide (g = Str.ofString m.nm) && (m.none? && (notCall po && (ap.endLine == pos.line))) then some [po] else none
  | .lm m, .Call (.Attribute po g ap) [pe] [] pos => if decide (g = Str.ofString m.nm) && (!m.none? && (notCall po && ((ap.endLine == pos.line) && noStars [pe]))) then some [po, pe] else none
  | _, _ => none
def ownL (N : List Str) (own : List Nat) : List (Str × Nat) := own.map fun i => (N[i]?.getD Str.empty, i)
def blkB (N : List Str) (sc scope : Scope) (own : List Nat) : Bool :=
  decide (scope.kind = .function) && scope.names.all (fun y => decide (scope.names.lookup y.1 = some y.2)) && own.all (fun i => decide (i < N.length)) &&
  scope.names.all (fun y => !(decide (y.2 = .free)) || (decide (sc.names.lookup y.1 = some .cell) || decide (sc.names.lookup y.1 = some .free))) &&
  scope.names.all (fun y => !(decide (y.2 = .local) || decide (y.2 = .cell)) || (decide (y.1 ∈ (ownL N own).map (·.1)) || decide (y.1 ∉ N)))
def noSet : Expr → Bool
  | .Set .. => false
  | _ => true
def isLocF (fs sc : Scope) (x : Str) : Bool := decide (sc.names.lookup x = some .local) || (decide (sc.names.lookup x = some .cell) && decide (fs.names.lookup x = some .cell))
section
variable (Γ : Tb) (N : List Str)
mutual
def chkT : Tg → Scope → Scope → List Nat → Expr → Bool
  | .name i, fs, sc, own, p => match p with
    | .Name x _ => decide (N[i]? = some x) && isLocF fs sc x && decide (i ∈ own)
    | _ => false
  | .tup ts, fs, sc, own, p => match p with
    | .Tuple ps _ _ => noStars ps && chkTs ts fs sc own ps
    | _ => false
def chkTs : Tgs → Scope → Scope → List Nat → List Expr → Bool
  | .nil, _, _, _, ps => match ps with
    | [] => true
    | _ => false
  | .cons t r, fs, sc, own, ps => match ps with
    | p :: ps => noStars [p] && chkT t fs sc own p && chkTs r fs sc own ps
    | _ => false
end
mutual
def chk : Ex → Scope → Expr → Bool
  | .bad, _, _ => true
  | .var i, sc, p => match p with
    | .Name x _ => decide (N[i]? = some x) && isVis sc x && okNm x
    | _ => false
  | .int i, _, p => match p with
    | .Constant (.int j) _ _ => i == j
    | _ => false
  | .bl b, _, p => match p with
    | .Constant (.bool c) _ _ => b == c
    | _ => false
  | .non, _, p => match p with
    | .Constant .none _ _ => true
    | _ => false
  | .str s, _, p => match p with
    | .Constant (.str x) _ _ => decide (x = Str.ofString s)
    | _ => false
  | .op o a b, sc, p => match p with
    | .BinOp pa o' pb _ => opM o o' && chk a sc pa && chk b sc pb
    | _ => false
  | .cmp o a b, sc, p => match p with
    | .Compare pa [o'] [pb] _ => cpM o o' && chk a sc pa && chk b sc pb && !(behindInMarks o' pb)
    | _ => false
  | .neg a, sc, p => match p with
    | .UnaryOp .USub pa _ => chk a sc pa
    | _ => false
  | .not a, sc, p => match p with
    | .UnaryOp .Not pa _ => chk a sc pa
    | _ => false
  | .and a b, sc, p => match p with
    | .BoolOp .And (pa :: pb :: r) pos => chk a sc pa && (match r with
      | [] => chk b sc pb
      | _ :: _ => chk b sc (.BoolOp .And (pb :: r) pos))
    | _ => false
  | .or a b, sc, p => match p with
    | .BoolOp .Or (pa :: pb :: r) pos => chk a sc pa && (match r with
      | [] => chk b sc pb
      | _ :: _ => chk b sc (.BoolOp .Or (pb :: r) pos))
    | _ => false
  | .ite t a b, sc, p => match p with
    | .IfExp pt pa pb _ => chk t sc pt && chk a sc pa && chk b sc pb
    | _ => false
  | .tup as, sc, p => match p with
    | .Tuple ps _ _ => chks as sc ps
    | _ => false
  | .lst as, sc, p => match p with
    | .List ps _ => chks as sc ps
    | _ => false
  | .newl as, sc, p => match p with
    | .List ps _ => chks as sc ps
    | _ => false
  | .call f its as ks, sc, p => match p with
    | .Call (.Name x _) ps kws _ => isGl sc x && okNm x && decide ((x, f) ∈ Γ.fn) && lookB (Γ.bd f) (as.len, kwNames kws) its && kwAll kws && decide ((kwNames kws).length = ks.len) && chks as sc ps && chkk ks sc kws
    | _ => false
  | .mk c i _ its as ks, sc, p => match p with
    | .Call (.Name x _) ps kws _ => isGl sc x && okNm x && decide ((x, c, i) ∈ Γ.cl) && lookB (Γ.bi i) (as.len, kwNames kws) its && kwAll kws && decide ((kwNames kws).length = ks.len) && chks as sc ps && chkk ks sc kws
    | _ => false
  | .blt o as, sc, p => match p with
    | .Call (.Name x _) (pa :: ps) [] _ => isBlt Γ sc x (btM o) && okNm x && chks as sc (pa :: ps)
    | _ => false
  | .fld f a, sc, p => match p with
    | .Attribute pa g _ => decide (g = Str.ofString f) && notCall pa && chk a sc pa
    | _ => false
  | .idx a i, sc, p => match p with
    | .Subscript pa pb _ => notSlice pb && chk a sc pa && chk i sc pb
    | _ => false
  | .slc a lo hi, sc, p => match p with
    | .Subscript pa (.Slice l h none _) _ => chk a sc pa && chko lo sc l && chko hi sc h
    | _ => false
  | .rev a, sc, p => match p with
    | .Subscript pa (.Slice none none (some (.UnaryOp .USub (.Constant (.int 1) _ _) _)) _) _ => chk a sc pa
    | _ => false
  | .join a b, sc, p => match p with
    | .Call (.Attribute pa m ap) [pb] [] pos => decide (m = "join") && notCall pa && (ap.endLine == pos.line) && chk a sc pa && chk b sc pb && noStars [pb]
    | _ => false
  | .fmt a, sc, p => match p with
    | .FormattedValue pa (-1) none _ => chk a sc pa
    | _ => false
  | .joined as, sc, p => match p with
    | .JoinedStr (p1 :: p2 :: ps) _ => chkj as sc (p1 :: p2 :: ps)
    | _ => false
  | .comp elt tg src cond own, sc, p => match p with
    | .ListComp pe [⟨pt, pi, ifs, 0⟩] scope _ => blkB N sc scope own && chkT N tg scope (relS scope sc) own pt && chkr src sc pi && chkc cond (relS scope sc) ifs && chk elt (relS scope sc) pe
    | _ => false
  | .ext k as, sc, p => match subX Γ sc k p with
    | some ps => chkj as sc ps
    | none => false
def chks : Exs → Scope → List Expr → Bool
  | .nil, _, ps => match ps with
    | [] => true
    | _ => false
  | .cons a r, sc, ps => match ps with
    | p :: ps => noStars [p] && chk a sc p && chks r sc ps
    | _ => false
def chkk : Exs → Scope → List Keyword → Bool
  | .nil, _, ps => match ps with
    | [] => true
    | _ => false
  | .cons a r, sc, ps => match ps with
    | ⟨_, p, _⟩ :: ps => chk a sc p && chkk r sc ps
    | _ => false
def chkj : Exs → Scope → List Expr → Bool
  | .nil, _, ps => match ps with
    | [] => true
    | _ => false
  | .cons a r, sc, ps => match ps with
    | p :: ps => chk a sc p && chkj r sc ps
    | _ => false
def chko : Eo → Scope → Option Expr → Bool
  | .no, _, p => match p with
    | none => true
    | _ => false
  | .yes a, sc, p => match p with
    | some p => chk a sc p
    | _ => false
def chkc : Eo → Scope → List Expr → Bool
  | .no, _, p => match p with
    | [] => true
    | _ => false
  | .yes a, sc, p => match p with
    | [p] => chk a sc p
    | _ => false
def chkr : Sr → Scope → Expr → Bool
  | .seq a, sc, p => noSet p && chk a sc p
  | .rng1 a, sc, p => match p with
    | .Call (.Name x _) [pa] [] _ => isBlt Γ sc x "range" && noStars [pa] && chk a sc pa
    | _ => false
  | .rng2 a b, sc, p => match p with
    | .Call (.Name x _) [pa, pb] [] _ => isBlt Γ sc x "range" && noStars [pa, pb] && noStars [pb] && chk a sc pa && chk b sc pb
    | _ => false
end
end
end PV

set_option Elab.async false
set_option linter.all false
set_option maxRecDepth 100000
set_option maxHeartbeats 1000000
/-! PV15: what the check lets by is right: expressions. -/
namespace PV
open PySem PySem.Spec L2
open PyProof.Rows hiding St

structure Fcts (Γ : Tb) (Y : Yx) (C : Kx) (j : Nat) (T : Tab) (ok : Okt) : Prop where
  hK : Y.K = C.K
  fn : ∀ x i, (x, i) ∈ Γ.fn → ∃ f fd prs m, FnOk Y.P Y.w Y.K Y.mg Y.base (L2.CX Y.P Y.w) j f fd prs (spD C m (T.fn i)) ∧ Y.mg x = some (.ref f) ∧ PySem.W.keepIn Y.K (.ref f) = true ∧
    ∀ n ks its, ((n, ks), its) ∈ Γ.bd i → its.length = m ∧ ∃ g, KBn Y.K fd prs n ks g (putV its)
  cl : ∀ x c i, (x, c, i) ∈ Γ.cl → ∃ f fd prs m, Mk Y.K (C.ca c) f ∧ FnOk Y.P Y.w Y.K Y.mg Y.base (L2.CX Y.P Y.w) j f fd prs (spI C c m (T.ini i)) ∧ Y.mg x = some (.ref (C.ca c)) ∧
    ∀ n ks its, ((n, ks), its) ∈ Γ.bi i → its.length = m ∧ ∃ g, KBn Y.K fd prs (n + 1) ks g (putV (.p 0 :: its.map shA))
  bl : ∀ x, x ∈ Γ.bl → Y.mg x = none
  fl : ∀ c f, ok.fld c f = true → ClsOk C.K C.ca c (Str.ofString f)
  cn : ∀ y c, (y, c) ∈ Γ.cn → Y.mg y = some (.ref (C.ca c))
  mt : ∀ c m i n, ok.met c m = some (i, n) → ∃ f fd ps, Cls Y.K (C.ca c) ∧ Meth Y.K (C.ca c) (Str.ofString m) f ∧ FnOk Y.P Y.w Y.K Y.mg Y.base (L2.CX Y.P Y.w) j f fd ps (spD C n (T.fn i)) ∧ Binds Y.K fd ps []
  eq : ∀ c i, ok.eqs c = some i → (∃ f fd ps, FnOk Y.P Y.w Y.K Y.mg Y.base (L2.CX Y.P Y.w) j f fd ps (spD C 2 (T.fn i)) ∧ PySem.W.findIn Y.K (.ref (C.ca c)) "__eq__" = some (some (.ref f)) ∧ PySem.W.isFn Y.K (.ref f) = true ∧ Binds Y.K fd ps [] ∧ neB Y.K (C.ca c) f = true) ∧ ndB Y.K (C.ca c) = true
  sb : ∀ c c' b, ok.sub c c' = some b → SbC Y.K C.ca c c' b
  dt : ∀ c', ok.dat c' = true → DtC Y.K C.ca c'
  es : ∀ c c' b, ok.exs c c' = some b → ExE Y.K C.ca c c' b
  em : ∀ c c' b, ok.exm c c' = some b → PySem.W.exmOne Y.K (.ref (C.ca c)) (.ref (C.ca c')) = some b
  xf : ∀ c f, ok.xf c f = true → XfC Y.K (C.ca c) ∧ PySem.W.findIn Y.K (.ref (C.ca c)) (Str.ofString f) = some none
  rz : ∀ c fl, ok.rz c = some fl → ∃ fI fd ps, OexC Y.K (C.ca c) ∧ PySem.W.findIn Y.K (.ref (C.ca c)) "__init__" = some (some (.ref fI)) ∧ PySem.W.typeIn Y.K (.ref fI) = some (.type "function") ∧ FnOk Y.P Y.w Y.K Y.mg Y.base (L2.CX Y.P Y.w) j fI fd ps (spX Y.K (fl.map Str.ofString)) ∧
    Binds Y.K fd ps [] ∧ ∀ f ∈ fl.map Str.ofString, PySem.W.findIn Y.K (.ref (C.ca c)) f = some none

section
variable {Γ : Tb} {N : List Str} {Y : Yx} {C : Kx} {j : Nat} {T : Tab} {ok : Okt}
theorem sv_bad {X : Cx} {B : Bs} {W : WX} {p : Expr} : Sv X C B W p (fun _ => M.stuck) := ⟨fun pins s σ H Q I ⟨g, e, S, st, h⟩ => False.elim h⟩
theorem sb_bad {X : Cx} {B : Bs} {W : WX} {p : Expr} : Sb X C B W p (fun _ => M.stuck) := ⟨fun pins s σ H Q I ⟨g, e, S, st, h⟩ => False.elim h⟩
theorem and2 {a b : Bool} (h : (a && b) = true) : a = true ∧ b = true := by rw [Bool.and_eq_true] at h; exact h
theorem not_f {a : Bool} (h : (!a) = true) : a = false := by cases a <;> first | rfl | cases h
section
variable {X : Cx} {W : WX} {sc : Scope} {B : Bs}
theorem Xe.Gl (hX : Xe Y (j + 1) N sc X W) {x : Str} (h : isGl sc x = true) : L2.Gl X x := by
  show X.env.scope.names.lookup x = _
  rw [hX.scope]; exact of_decide_eq_true h
theorem Xe.Vis (hX : Xe Y (j + 1) N sc X W) {x : Str} (h : isVis sc x = true) : L2.Vis X.env.scope x := by
  rw [hX.scope]
  unfold isVis at h
  rw [Bool.or_eq_true, Bool.or_eq_true] at h
  rcases h with (h | h) | h
  · exact .inl (of_decide_eq_true h)
  · exact .inr (.inl (of_decide_eq_true h))
  · exact .inr (.inr (of_decide_eq_true h))
theorem Xe.Loc (hX : Xe Y (j + 1) N sc X W) {fs : Scope} (hf : ∀ x, fs.names.lookup x = some .cell → X.fn x = true) {x : Str} (h : isLocF fs sc x = true) : L2.Loc X.env.scope x ∧ (X.fn x = true ∨ X.env.scope.names.lookup x = some .local) := by
  unfold isLocF at h
  rw [Bool.or_eq_true] at h
  rcases h with h | h
  · exact ⟨.inl (by rw [hX.scope]; exact of_decide_eq_true h), .inr (by rw [hX.scope]; exact of_decide_eq_true h)⟩
  · obtain ⟨h1, h2⟩ := and2 h
    exact ⟨.inr (by rw [hX.scope]; exact of_decide_eq_true h1), .inl (hf x (of_decide_eq_true h2))⟩
theorem okNm_ok {x : Str} (h : okNm x = true) : (x == ("__debug__" : Str)) = false ∧ (x == ("__classdict__" : Str)) = false ∧ x ≠ "__name__" := by
  unfold okNm at h
  obtain ⟨h1, h2⟩ := and2 h
  obtain ⟨h3, h4⟩ := and2 h1
  exact ⟨not_f h3, not_f h4, of_decide_eq_true h2⟩
theorem isBlt_ok (F : Fcts Γ Y C j T ok) (hX : Xe Y (j + 1) N sc X W) {x : Str} {s : String} (h : isBlt Γ sc x s = true) : x = Str.ofString s ∧ L2.Gl X x ∧ X.mg x = none := by
  unfold isBlt at h
  obtain ⟨h1, h2⟩ := and2 h
  obtain ⟨h3, h4⟩ := and2 h1
  rw [List.any_eq_true] at h2
  obtain ⟨y, hy, e⟩ := h2
  have e : y = x := of_decide_eq_true e
  subst e
  exact ⟨of_decide_eq_true h3, hX.Gl h4, by rw [hX.mg]; exact F.bl y hy⟩
theorem Xe.blk (hX : Xe Y (j + 1) N sc X W) {s : Shared} {H : Hp} {scope : Scope} {cl : List (Str × Addr)} {C0 : Addr} {fp : List Addr} :
    Xe Y (j + 1) N (relS scope sc) (X.blk s H scope (compEnvC scope cl C0 X.env) fp) Wf := by
  refine ⟨hX.prog, hX.w, hX.K, hX.mg, hX.base, hX.N, by rw [← hX.scope]; rfl, hX.room, hX.calm, ?_⟩
  intro u s' ⟨a, B, sI, pins, σ, H, cls, d, e, I, nb, up, sky, na, os, ag, w⟩
  exact False.elim w
theorem blkB_ok {scope : Scope} {own : List Nat} (h : blkB N sc scope own = true) : BlkOk N sc scope (ownL N own) ∧ (ownL N own).map (·.2) = own := by
  unfold blkB at h
  obtain ⟨h, h5⟩ := and2 h
  obtain ⟨h, h4⟩ := and2 h
  obtain ⟨h, h3⟩ := and2 h
  obtain ⟨h1, h2⟩ := and2 h
  rw [List.all_eq_true] at h2 h3 h4 h5
  refine ⟨⟨of_decide_eq_true h1, fun y hy => of_decide_eq_true (h2 y hy), fun p hp => ?_, fun y hy e => ?_, fun y hy e => ?_⟩, ?_⟩
  · unfold ownL at hp
    obtain ⟨i, hi, rfl⟩ := List.mem_map.mp hp
    have hl : i < N.length := of_decide_eq_true (h3 i hi)
    show N[i]? = some (N[i]?.getD Str.empty)
    rw [List.getElem?_eq_getElem hl]; rfl
  · have q := h4 y hy
    rw [Bool.or_eq_true, Bool.or_eq_true] at q
    rcases q with q | q | q
    · rw [e] at q; cases q
    · exact .inl (of_decide_eq_true q)
    · exact .inr (of_decide_eq_true q)
  · have q := h5 y hy
    rw [Bool.or_eq_true, Bool.or_eq_true] at q
    rcases q with q | q | q
    · exfalso
      rcases e with e | e <;> rw [e] at q <;> cases q
    · exact .inl (of_decide_eq_true q)
    · exact .inr (of_decide_eq_true q)
  · unfold ownL
    rw [List.map_map]
    exact List.map_id' _
mutual
theorem chkT_ok (hX : Xe Y (j + 1) N sc X W) (hC : Y.K = C.K) (hN : N.Nodup) {fs : Scope} (hf : ∀ x, fs.names.lookup x = some .cell → X.fn x = true) {own : List Nat} : ∀ (t : Tg) {p : Expr}, chkT N t fs sc own p = true → Sg X C B p own (evt t)
  | .name i, p, h => by
    unfold chkT at h
    cases p <;> first | (exact absurd h Bool.false_ne_true) | skip
    obtain ⟨h, h3⟩ := and2 h
    obtain ⟨h1, h2⟩ := and2 h
    obtain ⟨l1, l2⟩ := hX.Loc hf h2
    rw [evt]
    exact sg_name (by rw [hX.N]; exact hN) (by rw [hX.N]; exact of_decide_eq_true h1) l1 l2 (of_decide_eq_true h3)
  | .tup ts, p, h => by
    unfold chkT at h
    cases p <;> first | (exact absurd h Bool.false_ne_true) | skip
    obtain ⟨h1, h2⟩ := and2 h
    obtain ⟨h3, h4⟩ := chkTs_ok hX hC hN hf ts h2
    rw [evt]
    exact sg_tup (by rw [hX.K]; exact hC) hX.calm h3 h1 h4
theorem chkTs_ok (hX : Xe Y (j + 1) N sc X W) (hC : Y.K = C.K) (hN : N.Nodup) {fs : Scope} (hf : ∀ x, fs.names.lookup x = some .cell → X.fn x = true) {own : List Nat} : ∀ (t : Tgs) {p : List Expr}, chkTs N t fs sc own p = true → Sgs X C B p own (evts t) ∧ p.length = (evts t).length
  | .nil, p, h => by
    unfold chkTs at h
    cases p with
    | cons _ _ => exact absurd h Bool.false_ne_true
    | nil => rw [evts]; exact ⟨.nil, rfl⟩
  | .cons t r, p, h => by
    unfold chkTs at h
    cases p with
    | nil => exact absurd h Bool.false_ne_true
    | cons p ps =>
      obtain ⟨h, h3⟩ := and2 h
      obtain ⟨h1, h2⟩ := and2 h
      obtain ⟨i1, i2⟩ := chkTs_ok hX hC hN hf r h3
      rw [evts]
      exact ⟨.cons (chkT_ok hX hC hN hf t h2) i1 h1, by rw [List.length_cons, List.length_cons, i2]⟩
end
end
end
end PV

set_option Elab.async false
set_option linter.all false
set_option maxRecDepth 100000
set_option maxHeartbeats 1000000
/-! PV15b: the extensions are right. -/
namespace PV
open PySem PySem.Spec L2
open PyProof.Rows hiding St
section
variable {Γ : Tb} {N : List Str} {Y : Yx} {C : Kx} {j : Nat} {T : Tab} {ok : Okt} {X : Cx} {W : WX} {sc : Scope} {B : Bs}
theorem Fcts.eqC (F : Fcts Γ Y C j T ok) (hX : Xe Y (j + 1) N sc X W) : ∀ c G, tq T ok c = some G → EqC X C j c G ∧ ndB X.K (C.ca c) = true := by
  intro c G h
  obtain ⟨i, e1, e2⟩ := Option.map_eq_some_iff.mp h
  subst e2
  obtain ⟨⟨f, fd, ps, h1, h2, h3, h4, h5⟩, h6⟩ := F.eq c i e1
  refine ⟨⟨f, fd, ps, ?_, ?_, ?_, ?_, ?_⟩, ?_⟩
  · rw [hX.prog, hX.w, hX.K, hX.mg, hX.base]; exact h1
  · rw [hX.K]; exact h2
  · rw [hX.K]; exact h3
  · rw [hX.K]; exact h4
  · rw [hX.K]; exact h5
  · rw [hX.K]; exact h6
theorem sj_all {ps : List Expr} {fs : List (Env → M Ow)} (h : Sj X C B W ps fs) (hs : noStars ps = true) : Sas X C B W ps (evAll fs) ∧ (ps = [] → evAll fs = evNil) := by
  induction h with
  | nil => exact ⟨sas_nil, fun _ => rfl⟩
  | cons h t ih =>
    unfold noStars at hs
    rw [List.all_cons, Bool.and_eq_true] at hs
    exact ⟨sas_cons h (ih hs.2).1 (starEach_cons hs.1), fun e => by cases e⟩
theorem ext_ok (F : Fcts Γ Y C j T ok) (hX : Xe Y (j + 1) N sc X W) {k : Xk} {p : Expr} {ps : List Expr} {fs : List (Env → M Ow)} (h : subX Γ sc k p = some ps) (hs : Sj X C B W ps fs) :
    Sv X C B W p (evX T ok k fs) ∧ Sb X C B W p (asB (evX T ok k fs)) := by
  have hK : X.K = C.K := by rw [hX.K]; exact F.hK
  unfold subX at h
  split at h
  · rename_i c m po g ap qs pos
    split at h
    · rename_i hc
      cases h
      obtain ⟨c1, c2⟩ := and2 hc
      obtain ⟨c2, c3⟩ := and2 c2
      obtain ⟨c3, c4⟩ := and2 c3
      obtain ⟨c4, c5⟩ := and2 c4
      have c1 := of_decide_eq_true c1
      subst c1
      refine (fun z => ⟨z, sb_val z fun _ => rfl⟩) ?_
      cases hs with
      | cons ho ha =>
        show Sv X C B W _ (match ok.met c m with | some (i, n) => evMeth c m n (T.fn i) _ (evAll _) | none => fun _ => M.stuck)
        cases q : ok.met c m with
        | none => exact sv_bad
        | some r =>
          obtain ⟨i, n⟩ := r
          obtain ⟨f, fd, prs, h1, h2, h3, h4⟩ := F.mt c m i n q
          obtain ⟨s1, s2⟩ := sj_all ha c2
          exact sv_meth (hX.room1) ⟨f, fd, prs, by rw [hX.K]; exact h1, by rw [hX.K]; exact h2, by rw [hX.prog, hX.w, hX.K, hX.mg, hX.base]; exact h3.mono (Nat.le_succ j), by rw [hX.K]; exact h4⟩ hX.takes ho s1 c2 s2 (meth_ev c3 c2 c4 (of_decide_eq_true c5))
    · cases h
  · rename_i neg pa pb pos
    split at h
    · rename_i hc
      cases h
      obtain ⟨c1, c2⟩ := and2 hc
      have c1 := not_f c1
      subst c1
      cases hs with
      | cons ha t =>
        cases t with
        | cons hb t =>
          cases t
          exact ⟨sv_eqi (k := j) hX.room1 (fun c G q => (F.eqC hX c G q).1) ha hb (not_f c2), sb_eqi (k := j) hX.room1 (fun c G q => (F.eqC hX c G q).1) ha hb (not_f c2)⟩
    · cases h
  · rename_i neg pa pb pos
    split at h
    · rename_i hc
      cases h
      obtain ⟨c1, c2⟩ := and2 hc
      subst c1
      cases hs with
      | cons ha t =>
        cases t with
        | cons hb t =>
          cases t
          exact ⟨sv_nei (k := j) hX.room1 (fun c G q => (F.eqC hX c G q).1) ha hb (not_f c2), sb_nei (k := j) hX.room1 (fun c G q => (F.eqC hX c G q).1) ha hb (not_f c2)⟩
    · cases h
  · rename_i pa pb pos
    split at h
    · rename_i hc
      cases h
      cases hs with
      | cons ha t =>
        cases t with
        | cons hb t =>
          cases t
          exact ⟨sv_inNo (k := j) hK (hX.room.mono (by omega)) (F.eqC hX) ha hb (not_f hc), sb_inNo (k := j) hK (hX.room.mono (by omega)) (F.eqC hX) ha hb (not_f hc)⟩
    · cases h
  · rename_i c' x px po y py pos
    split at h
    · rename_i hc
      cases h
      obtain ⟨c1, c2⟩ := and2 hc
      obtain ⟨c2, c3⟩ := and2 c2
      obtain ⟨c3, c4⟩ := and2 c3
      obtain ⟨c4, c5⟩ := and2 c4
      obtain ⟨b1, b2, b3⟩ := isBlt_ok F hX c1
      refine (fun z => ⟨z, sb_val z fun _ => rfl⟩) ?_
      cases hs with
      | cons ha t =>
        cases t
        exact sv_isi hK (by rw [hX.K]; exact F.sb) (by rw [hX.K]; exact F.dt) b2 b3 b1 (hX.Gl c3) (by rw [hX.mg]; exact F.cn _ _ (of_decide_eq_true c2)) (okNm_d c4).1 c5 ha
    · cases h
  · rename_i m po g ap pos
    split at h
    · rename_i hc
      cases h
      obtain ⟨c1, c2⟩ := and2 hc
      obtain ⟨c2, c3⟩ := and2 c2
      obtain ⟨c3, c4⟩ := and2 c3
      have c1 := of_decide_eq_true c1
      subst c1
      refine (fun z => ⟨z, sb_val z fun _ => rfl⟩) ?_
      cases hs with
      | cons ha t =>
        cases t
        exact sv_lmN c2 ha c3 c4
    · cases h
  · rename_i m po g ap pe pos
    split at h
    · rename_i hc
      cases h
      obtain ⟨c1, c2⟩ := and2 hc
      obtain ⟨c2, c3⟩ := and2 c2
      obtain ⟨c3, c4⟩ := and2 c3
      obtain ⟨c4, c5⟩ := and2 c4
      have c1 := of_decide_eq_true c1
      subst c1
      refine (fun z => ⟨z, sb_val z fun _ => rfl⟩) ?_
      cases hs with
      | cons ha t =>
        cases t with
        | cons hb t =>
          cases t
          exact sv_lmO (not_f c2) ha hb c5 c3 c4
    · cases h
  · cases h
end
end PV

set_option Elab.async false
set_option linter.all false
set_option maxRecDepth 100000
set_option maxHeartbeats 2000000


/-! PV16: what the check lets by is right: expressions. -/
namespace PV
open PySem PySem.Spec L2
open PyProof.Rows hiding St
section
variable {Γ : Tb} {N : List Str} {Y : Yx} {C : Kx} {j : Nat} {T : Tab} {ok : Okt}
theorem op_ok {X : Cx} {B : Bs} {W : WX} (hK : X.K = C.K) {o : Op} {o' : Operator} (h : opM o o' = true) {pa pb : Expr} {pos : Pos} {fa fb : Env → M Ow} (ha : Sv X C B W pa fa) (hb : Sv X C B W pb fb) : Sv X C B W (.BinOp pa o' pb pos) (ev2 o.d fa fb) := by
  cases o <;> cases o' <;> first | (exact absurd h Bool.false_ne_true) | skip
  · exact sv_op (by rw [← hK]; exact op_addA) op2_add ha hb
  · exact sv_op op_sub op2_sub ha hb
  · exact sv_op op_mulA op2_mul ha hb
  · exact sv_op op_fdivA op2_fdiv ha hb
  · exact sv_op op_modN op2_mod ha hb
  · exact sv_op op_pow op2_pow ha hb
theorem cp_ok {X : Cx} {B : Bs} {W : WX} (hK : X.K = C.K) (hu : X.A.units + 64 < cLine) {o : Cp} {o' : CmpOp} (h : cpM o o' = true) {pa pb : Expr} {pos : Pos} {fa fb : Env → M Ow} (ha : Sv X C B W pa fa) (hb : Sv X C B W pb fb) (hm : behindInMarks o' pb = false) :
    Sv X C B W (.Compare pa [o'] [pb] pos) (ev2 o.d fa fb) ∧ Sb X C B W (.Compare pa [o'] [pb] pos) (asB (ev2 o.d fa fb)) := by
  cases o <;> cases o' <;> first | (exact absurd h Bool.false_ne_true) | skip
  · exact ⟨sv_cmp op_lt op2_cmp ha hb hm, sb_cmp op_lt op2_cmp ha hb hm⟩
  · exact ⟨sv_cmp op_le op2_cmp ha hb hm, sb_cmp op_le op2_cmp ha hb hm⟩
  · exact ⟨sv_cmp op_gt op2_cmp ha hb hm, sb_cmp op_gt op2_cmp ha hb hm⟩
  · exact ⟨sv_cmp op_ge op2_cmp ha hb hm, sb_cmp op_ge op2_cmp ha hb hm⟩
  · exact ⟨sv_cmp (by rw [← hK]; exact OpR.or (op_eqD hu) op_eq) op2_eq ha hb hm, sb_cmp (by rw [← hK]; exact OpR.or (op_eqD hu) op_eq) op2_eq ha hb hm⟩
  · exact ⟨sv_cmp (by rw [← hK]; exact OpR.or (op_neD hu) op_ne) op2_ne ha hb hm, sb_cmp (by rw [← hK]; exact OpR.or (op_neD hu) op_ne) op2_ne ha hb hm⟩
theorem bt_ok {X : Cx} {B : Bs} {W : WX} (hK : X.K = C.K) (hc : X.calm = true) {o : Bt} {x : Str} (hx : x = Str.ofString (btM o)) (hg : L2.Gl X x) (hm : X.mg x = none) (hn : okNm x = true) {p pos : Pos} {pe : Expr} {ps : List Expr} {a : Env → M (List Ow)}
    (ha : Sas X C B W (pe :: ps) a) (hs : noStars (pe :: ps) = true) : Sv X C B W (.Call (.Name x p) (pe :: ps) [] pos) (evF o.d a) := by
  obtain ⟨n1, n2, n3⟩ := okNm_ok hn
  have hs2 : noStars ps = true := by unfold noStars at hs; rw [List.all_cons, Bool.and_eq_true] at hs; exact hs.2
  have e1 : starEach (pe :: ps) X.env = (false, eval pe X.env) :: starEach ps X.env := by
    unfold noStars at hs; rw [List.all_cons, Bool.and_eq_true] at hs; exact starEach_cons hs.1
  have e2 : (backTo pos (starEach ps X.env)).any (·.1) = false := backTo_free hs2
  subst hx
  cases o
  · exact sv_callB call_abs cf_abs hg hm (by decide +kernel) n3 n1 ha e1 e2
  · exact sv_callB (call_max2 hc) cf_max2 hg hm (by decide +kernel) n3 n1 ha e1 e2
  · exact sv_callB (call_min2 hc) cf_min2 hg hm (by decide +kernel) n3 n1 ha e1 e2
  · exact sv_callB call_lenA (cf_len hK) hg hm (by decide +kernel) n3 n1 ha e1 e2
  · exact sv_callTy call_strA cf_str hg hm (by decide +kernel) n3 n1 ha e1 e2
  · exact sv_callTy call_list_of (cf_list hK) hg hm (by decide +kernel) n3 n1 ha e1 e2
  · exact sv_callTy call_tuple_of (cf_tuple hK) hg hm (by decide +kernel) n3 n1 ha e1 e2
  · exact sv_callTy call_int1 cf_int hg hm (by decide +kernel) n3 n1 ha e1 e2
  · exact sv_callTy call_list_of (cf_newl hK) hg hm (by decide +kernel) n3 n1 ha e1 e2
/-- one comparison as a test, whole -/
theorem evs_nil {as : Exs} {ps : List Expr} {sc : Scope} (h : chks Γ N as sc ps = true) : noStars ps = true ∧ (ps = [] → evs T ok as = evNil) := by
  constructor
  · induction ps generalizing as with
    | nil => rfl
    | cons p ps ih =>
      cases as with
      | nil => unfold chks at h; exact absurd h Bool.false_ne_true
      | cons a r =>
        unfold chks at h
        obtain ⟨h, h3⟩ := and2 h
        obtain ⟨h1, h2⟩ := and2 h
        have := ih h3
        unfold noStars at h1 this ⊢
        rw [List.all_cons] at h1 ⊢
        rw [this, Bool.and_true]
        rw [Bool.and_eq_true] at h1; exact h1.1
  · intro e
    subst e
    cases as with
    | nil => rw [evs]
    | cons a r => unfold chks at h; exact absurd h Bool.false_ne_true
theorem lenB {o o' : Nat} (h : decide (o = o') = true) : o = o' := of_decide_eq_true h
theorem subX_bool {sc : Scope} {k : Xk} {o : BoolOp} {ps : List Expr} {pos : Pos} : subX Γ sc k (.BoolOp o ps pos) = none := by cases k <;> rfl
theorem sw_bad {X : Cx} {B : Bs} {W : WX} {p : Expr} : Sw X C B W p (fun _ => M.stuck) := ⟨fun wh pins s σ H Q I ⟨g, e, S, st, h⟩ => False.elim h⟩
theorem call_ok {X : Cx} {B : Bs} {W : WX} {sc : Scope} {x : Str} {px pos : Pos} {ps : List Expr} {kws : List Keyword} {as ks : Exs} {f : Nat} {its : List Ar} {a b : Env → M (List Ow)} (F : Fcts Γ Y C j T ok) (hX : Xe Y (j + 1) N sc X W)
    (h : (isGl sc x && okNm x && decide ((x, f) ∈ Γ.fn) && lookB (Γ.bd f) (as.len, kwNames kws) its && kwAll kws && decide ((kwNames kws).length = ks.len)) = true)
    (hn : chks Γ N as sc ps = true → noStars ps = true ∧ (ps = [] → a = evNil)) (c7 : chks Γ N as sc ps = true) (ha : Sas X C B W ps a) (hb : Sks X C B W kws b) : Sv X C B W (.Call (.Name x px) ps kws pos) (evCall (T.fn f) as.len ks.len its a b) := by
  obtain ⟨h, c6⟩ := and2 h
  obtain ⟨h, c5⟩ := and2 h
  obtain ⟨h, c4⟩ := and2 h
  obtain ⟨h, c3⟩ := and2 h
  obtain ⟨c1, c2⟩ := and2 h
  obtain ⟨fa, fd, prs, m, G, g1, g2, g3⟩ := F.fn _ _ (of_decide_eq_true c3)
  obtain ⟨el, g, gb⟩ := g3 _ _ _ (lookB_ok c4)
  obtain ⟨n1, n2, n3⟩ := okNm_ok c2
  obtain ⟨s1, s2⟩ := hn c7
  subst el
  rw [← lenB c6]
  exact sv_call (G := (by rw [hX.prog, hX.w, hX.K, hX.mg, hX.base]; exact G.mono (Nat.le_succ j))) hX.room1 (hX.Gl c1) (by rw [hX.mg]; exact g1) (by rw [hX.K]; exact g2) (by rw [hX.K]; exact gb) hX.takes ha hb s1 c5 n1 s2
mutual
theorem ckE (F : Fcts Γ Y C j T ok) (hN : N.Nodup) : ∀ (x : Ex) {sc : Scope} {p : Expr} {X : Cx} {B : Bs} {W : WX}, Xe Y (j + 1) N sc X W → chk Γ N x sc p = true → Sv X C B W p (ev T ok x)
  | .bad, sc, p, X, B, W, hX, h => by rw [ev]; exact sv_bad
  | .var i, sc, p, X, B, W, hX, h => by
    unfold chk at h
    cases p <;> first | (exact absurd h Bool.false_ne_true) | skip
    obtain ⟨h, h3⟩ := and2 h
    obtain ⟨h1, h2⟩ := and2 h
    obtain ⟨n1, n2, n3⟩ := okNm_ok h3
    rw [ev]
    exact sv_var (by rw [hX.N]; exact of_decide_eq_true h1) (hX.Vis h2) n1 n2
  | .int i, sc, p, X, B, W, hX, h => by
    unfold chk at h
    cases p <;> first | (exact absurd h Bool.false_ne_true) | skip
    rename_i v _ _
    cases v <;> first | (exact absurd h Bool.false_ne_true) | skip
    rw [ev, beq_iff_eq.mp h]; exact sv_int
  | .bl i, sc, p, X, B, W, hX, h => by
    unfold chk at h
    cases p <;> first | (exact absurd h Bool.false_ne_true) | skip
    rename_i v _ _
    cases v <;> first | (exact absurd h Bool.false_ne_true) | skip
    rw [ev, beq_iff_eq.mp h]; exact sv_bl
  | .non, sc, p, X, B, W, hX, h => by
    unfold chk at h
    cases p <;> first | (exact absurd h Bool.false_ne_true) | skip
    rename_i v _ _
    cases v <;> first | (exact absurd h Bool.false_ne_true) | skip
    rw [ev]; exact sv_non
  | .str s, sc, p, X, B, W, hX, h => by
    unfold chk at h
    cases p <;> first | (exact absurd h Bool.false_ne_true) | skip
    rename_i v _ _
    cases v <;> first | (exact absurd h Bool.false_ne_true) | skip
    rw [ev, ← of_decide_eq_true h]; exact sv_str
  | .op o a b, sc, p, X, B, W, hX, h => by
    unfold chk at h
    cases p <;> first | (exact absurd h Bool.false_ne_true) | skip
    obtain ⟨h, h3⟩ := and2 h
    obtain ⟨h1, h2⟩ := and2 h
    rw [ev]
    exact op_ok (by rw [hX.K]; exact F.hK) h1 (ckE F hN a hX h2) (ckE F hN b hX h3)
  | .cmp o a b, sc, p, X, B, W, hX, h => by
    unfold chk at h
    cases p <;> first | (exact absurd h Bool.false_ne_true) | skip
    rename_i pa os qs pos
    rcases os with _ | ⟨o', _ | ⟨_, _⟩⟩ <;> first | (exact absurd h Bool.false_ne_true) | skip
    rcases qs with _ | ⟨pb, _ | ⟨_, _⟩⟩ <;> first | (exact absurd h Bool.false_ne_true) | skip
    obtain ⟨h, h4⟩ := and2 h
    obtain ⟨h, h3⟩ := and2 h
    obtain ⟨h1, h2⟩ := and2 h
    rw [ev]
    exact (cp_ok (by rw [hX.K]; exact F.hK) (by have := hX.room.un; omega) h1 (ckE F hN a hX h2) (ckE F hN b hX h3) (not_f h4)).1
  | .neg a, sc, p, X, B, W, hX, h => by
    unfold chk at h
    cases p <;> first | (exact absurd h Bool.false_ne_true) | skip
    rename_i o pa pos
    cases o <;> first | (exact absurd h Bool.false_ne_true) | skip
    rw [ev]
    exact sv_neg (ckE F hN a hX h)
  | .not a, sc, p, X, B, W, hX, h => by
    unfold chk at h
    cases p <;> first | (exact absurd h Bool.false_ne_true) | skip
    rename_i o pa pos
    cases o <;> first | (exact absurd h Bool.false_ne_true) | skip
    rw [ev]
    exact sv_not (ckE F hN a hX h)
  | .and a b, sc, p, X, B, W, hX, h => by
    unfold chk at h
    cases p <;> first | (exact absurd h Bool.false_ne_true) | skip
    rename_i o ps pos
    cases o <;> first | (exact absurd h Bool.false_ne_true) | skip
    rcases ps with _ | ⟨pa, _ | ⟨pb, r⟩⟩ <;> first | (exact absurd h Bool.false_ne_true) | skip
    obtain ⟨h1, h2⟩ := and2 h
    rw [ev]
    cases r with
    | nil => exact sv_and (ckE F hN a hX h1) (sv_and1 (ckE F hN b hX h2))
    | cons q r => exact sv_and (ckE F hN a hX h1) (ckE F hN b hX h2)
  | .or a b, sc, p, X, B, W, hX, h => by
    unfold chk at h
    cases p <;> first | (exact absurd h Bool.false_ne_true) | skip
    rename_i o ps pos
    cases o <;> first | (exact absurd h Bool.false_ne_true) | skip
    rcases ps with _ | ⟨pa, _ | ⟨pb, r⟩⟩ <;> first | (exact absurd h Bool.false_ne_true) | skip
    obtain ⟨h1, h2⟩ := and2 h
    rw [ev]
    cases r with
    | nil => exact sv_or (ckE F hN a hX h1) (sv_and1 (ckE F hN b hX h2))
    | cons q r => exact sv_or (ckE F hN a hX h1) (ckE F hN b hX h2)
  | .ite t a b, sc, p, X, B, W, hX, h => by
    unfold chk at h
    cases p <;> first | (exact absurd h Bool.false_ne_true) | skip
    obtain ⟨h, h3⟩ := and2 h
    obtain ⟨h1, h2⟩ := and2 h
    rw [ev]
    exact sv_if (ckB F hN t hX h1) (ckE F hN a hX h2) (ckE F hN b hX h3)
  | .tup as, sc, p, X, B, W, hX, h => by
    unfold chk at h
    cases p <;> first | (exact absurd h Bool.false_ne_true) | skip
    rw [ev]
    exact sv_tup (ckS F hN as hX h)
  | .lst as, sc, p, X, B, W, hX, h => by
    unfold chk at h
    cases p <;> first | (exact absurd h Bool.false_ne_true) | skip
    rw [ev]
    exact sv_lst (ckS F hN as hX h)
  | .newl as, sc, p, X, B, W, hX, h => by
    unfold chk at h
    cases p <;> first | (exact absurd h Bool.false_ne_true) | skip
    rw [ev]
    exact sv_newL (ckS F hN as hX h)
  | .call f its as ks, sc, p, X, B, W, hX, h => by
    unfold chk at h
    cases p <;> first | (exact absurd h Bool.false_ne_true) | skip
    rename_i pf ps kws pos
    cases pf <;> first | (exact absurd h Bool.false_ne_true) | skip
    obtain ⟨h, c8⟩ := and2 h
    obtain ⟨h, c7⟩ := and2 h
    obtain ⟨h, c6⟩ := and2 h
    obtain ⟨h, c5⟩ := and2 h
    obtain ⟨h, c4⟩ := and2 h
    obtain ⟨h, c3⟩ := and2 h
    obtain ⟨c1, c2⟩ := and2 h
    obtain ⟨fa, fd, prs, m, G, g1, g2, g3⟩ := F.fn _ _ (of_decide_eq_true c3)
    obtain ⟨el, g, gb⟩ := g3 _ _ _ (lookB_ok c4)
    obtain ⟨n1, n2, n3⟩ := okNm_ok c2
    obtain ⟨s1, s2⟩ := evs_nil (T := T) (ok := ok) c7
    subst el
    rw [ev, ← lenB c6]
    exact sv_call (G := (by rw [hX.prog, hX.w, hX.K, hX.mg, hX.base]; exact G.mono (Nat.le_succ j))) hX.room1 (hX.Gl c1) (by rw [hX.mg]; exact g1) (by rw [hX.K]; exact g2) (by rw [hX.K]; exact gb) hX.takes (ckS F hN as hX c7) (ckK F hN ks hX c8) s1 c5 n1 s2
  | .mk c i shr its as ks, sc, p, X, B, W, hX, h => by
    unfold chk at h
    cases p <;> first | (exact absurd h Bool.false_ne_true) | skip
    rename_i pf ps kws pos
    cases pf <;> first | (exact absurd h Bool.false_ne_true) | skip
    obtain ⟨h, c8⟩ := and2 h
    obtain ⟨h, c7⟩ := and2 h
    obtain ⟨h, c6⟩ := and2 h
    obtain ⟨h, c5⟩ := and2 h
    obtain ⟨h, c4⟩ := and2 h
    obtain ⟨h, c3⟩ := and2 h
    obtain ⟨c1, c2⟩ := and2 h
    obtain ⟨fa, fd, prs, m, M0, G, g1, g3⟩ := F.cl _ _ _ (of_decide_eq_true c3)
    obtain ⟨el, g, gb⟩ := g3 _ _ _ (lookB_ok c4)
    obtain ⟨n1, n2, n3⟩ := okNm_ok c2
    obtain ⟨s1, s2⟩ := evs_nil (T := T) (ok := ok) c7
    subst el
    rw [ev, ← lenB c6]
    exact sv_make (M0 := (by rw [hX.K]; exact M0)) (G := (by rw [hX.prog, hX.w, hX.K, hX.mg, hX.base]; exact G)) hX.room1 (hX.Gl c1) (by rw [hX.mg]; exact g1) (by rw [hX.K]; exact gb) hX.takes (ckS F hN as hX c7) (ckK F hN ks hX c8) s1 c5 n1 s2
  | .blt o as, sc, p, X, B, W, hX, h => by
    unfold chk at h
    cases p <;> first | (exact absurd h Bool.false_ne_true) | skip
    rename_i pf ps kws pos
    cases pf <;> first | (exact absurd h Bool.false_ne_true) | skip
    cases ps <;> first | (exact absurd h Bool.false_ne_true) | skip
    cases kws <;> first | (exact absurd h Bool.false_ne_true) | skip
    obtain ⟨h, h3⟩ := and2 h
    obtain ⟨h1, h2⟩ := and2 h
    obtain ⟨b1, b2, b3⟩ := isBlt_ok F hX h1
    rw [ev]
    exact bt_ok (by rw [hX.K]; exact F.hK) hX.calm b1 b2 b3 h2 (ckS F hN as hX h3) (evs_nil (T := T) (ok := ok) h3).1
  | .fld f a, sc, p, X, B, W, hX, h => by
    unfold chk at h
    cases p <;> first | (exact absurd h Bool.false_ne_true) | skip
    obtain ⟨h, h3⟩ := and2 h
    obtain ⟨h1, h2⟩ := and2 h
    rw [ev, of_decide_eq_true h1]
    exact sv_fld (ok := fun c => ok.fld c f) (by rw [hX.K]; exact F.hK) (ckE F hN a hX h3) h2 fun c hc => F.fl c f hc
  | .idx a i, sc, p, X, B, W, hX, h => by
    unfold chk at h
    cases p <;> first | (exact absurd h Bool.false_ne_true) | skip
    obtain ⟨h, h3⟩ := and2 h
    obtain ⟨h1, h2⟩ := and2 h
    rw [ev]
    exact sv_idx (by rw [hX.K]; exact F.hK) hX.units (ckE F hN a hX h2) (ckE F hN i hX h3) h1
  | .slc a lo hi, sc, p, X, B, W, hX, h => by
    unfold chk at h
    cases p <;> first | (exact absurd h Bool.false_ne_true) | skip
    rename_i pa ps pos
    cases ps <;> first | (exact absurd h Bool.false_ne_true) | skip
    rename_i l u st p2
    cases st <;> first | (exact absurd h Bool.false_ne_true) | skip
    obtain ⟨h, h3⟩ := and2 h
    obtain ⟨h1, h2⟩ := and2 h
    rw [ev]
    exact sv_slc (by rw [hX.K]; exact F.hK) (ckE F hN a hX h1) (ckO F hN lo hX h2) (ckO F hN hi hX h3)
  | .rev a, sc, p, X, B, W, hX, h => by
    unfold chk at h
    split at h
    · rw [ev]
      exact sv_rev (by rw [hX.K]; exact F.hK) (ckE F hN a hX h)
    · exact absurd h Bool.false_ne_true
  | .join a b, sc, p, X, B, W, hX, h => by
    unfold chk at h
    split at h
    · obtain ⟨h, h6⟩ := and2 h
      obtain ⟨h, h5⟩ := and2 h
      obtain ⟨h, h4⟩ := and2 h
      obtain ⟨h, h3⟩ := and2 h
      obtain ⟨h1, h2⟩ := and2 h
      rw [ev, of_decide_eq_true h1]
      exact sv_join (by rw [hX.K]; exact F.hK) (ckE F hN a hX h4) (ckE F hN b hX h5) h6 h2 h3
    · exact absurd h Bool.false_ne_true
  | .fmt a, sc, p, X, B, W, hX, h => by
    unfold chk at h
    split at h
    · rw [ev]
      exact sv_fmt (ckE F hN a hX h)
    · exact absurd h Bool.false_ne_true
  | .joined as, sc, p, X, B, W, hX, h => by
    unfold chk at h
    split at h
    · rw [ev]
      exact sv_joined (ckJ F hN as hX h)
    · exact absurd h Bool.false_ne_true
  | .comp elt tg src cond own, sc, p, X, B, W, hX, h => by
    unfold chk at h
    split at h
    · rename_i pe pt pi ifs scope pos
      obtain ⟨h, h5⟩ := and2 h
      obtain ⟨h, h4⟩ := and2 h
      obtain ⟨h, h3⟩ := and2 h
      obtain ⟨h1, h2⟩ := and2 h
      obtain ⟨b1, b2⟩ := blkB_ok h1
      have hC : Y.K = C.K := F.hK
      have key : Sv X C B W (.ListComp pe [⟨pt, pi, ifs, 0⟩] scope pos) (evComp (evr T ok src) (evt tg) (evc T ok cond) (ev T ok elt) ((ownL N own).map (·.2))) := by
        refine sv_comp hX.calm (by rw [hX.N]; exact hN) (ckR F hN src hX h3) (by rw [hX.N, hX.scope]; exact b1) (fun s H C0 cl fp => ?_) (fun s H C0 cl fp => ?_) (fun s H C0 cl fp => ?_) ?_
        · rw [b2]
          exact chkT_ok hX.blk hC hN (fs := scope) (fun x hx => by show (scope.names.lookup x == some .cell) = true; rw [hx]; rfl) tg h2
        · exact ckC F hN cond hX.blk h4
        · exact ckE F hN elt hX.blk h5
        · exact ckRs src h3
      rw [b2] at key
      rw [ev]
      exact key
    · exact absurd h Bool.false_ne_true
  | .ext k as, sc, p, X, B, W, hX, h => by
    unfold chk at h
    cases q : subX Γ sc k p with
    | none => rw [q] at h; exact absurd h Bool.false_ne_true
    | some ps =>
      rw [q] at h
      rw [ev]
      exact (ext_ok F hX q (ckJ F hN as hX h)).1
theorem ckB (F : Fcts Γ Y C j T ok) (hN : N.Nodup) : ∀ (x : Ex) {sc : Scope} {p : Expr} {X : Cx} {B : Bs} {W : WX}, Xe Y (j + 1) N sc X W → chk Γ N x sc p = true → Sb X C B W p (tbx T ok x)
  | .bad, sc, p, X, B, W, hX, h => by rw [tbx]; exact sb_bad
  | .int x0, sc, p, X, B, W, hX, h => by simp only [tbx]; exact sb_bad
  | .non, sc, p, X, B, W, hX, h => by simp only [tbx]; exact sb_bad
  | .str x0, sc, p, X, B, W, hX, h => by simp only [tbx]; exact sb_bad
  | .op x0 x1 x2, sc, p, X, B, W, hX, h => by simp only [tbx]; exact sb_bad
  | .neg x0, sc, p, X, B, W, hX, h => by simp only [tbx]; exact sb_bad
  | .ite x0 x1 x2, sc, p, X, B, W, hX, h => by simp only [tbx]; exact sb_bad
  | .tup x0, sc, p, X, B, W, hX, h => by simp only [tbx]; exact sb_bad
  | .lst x0, sc, p, X, B, W, hX, h => by simp only [tbx]; exact sb_bad
  | .newl x0, sc, p, X, B, W, hX, h => by simp only [tbx]; exact sb_bad
  | .mk x0 x1 x2 x3 x4 x5, sc, p, X, B, W, hX, h => by simp only [tbx]; exact sb_bad
  | .slc x0 x1 x2, sc, p, X, B, W, hX, h => by simp only [tbx]; exact sb_bad
  | .rev x0, sc, p, X, B, W, hX, h => by simp only [tbx]; exact sb_bad
  | .join x0 x1, sc, p, X, B, W, hX, h => by simp only [tbx]; exact sb_bad
  | .fmt x0, sc, p, X, B, W, hX, h => by simp only [tbx]; exact sb_bad
  | .joined x0, sc, p, X, B, W, hX, h => by simp only [tbx]; exact sb_bad
  | .comp x0 x1 x2 x3 x4, sc, p, X, B, W, hX, h => by simp only [tbx]; exact sb_bad
  | .ext k as, sc, p, X, B, W, hX, h => by
    unfold chk at h
    cases q : subX Γ sc k p with
    | none => rw [q] at h; exact absurd h Bool.false_ne_true
    | some ps =>
      rw [q] at h
      rw [tbx]
      exact (ext_ok F hX q (ckJ F hN as hX h)).2
  | .var i, sc, p, X, B, W, hX, h => by
    have h0 := ckE F hN (.var i) (B := B) hX h
    unfold chk at h
    cases p <;> first | (exact absurd h Bool.false_ne_true) | skip
    rw [ev] at h0
    rw [tbx]
    exact sb_val h0 fun _ => rfl
  | .bl b, sc, p, X, B, W, hX, h => by
    have h0 := ckE F hN (.bl b) (B := B) hX h
    unfold chk at h
    cases p <;> first | (exact absurd h Bool.false_ne_true) | skip
    rw [ev] at h0
    rw [tbx]
    exact sb_val h0 fun _ => rfl
  | .call f its as ks, sc, p, X, B, W, hX, h => by
    have h0 : Sv X C B W p (evCall (T.fn f) as.len ks.len its (evs T ok as) (evs T ok ks)) := by
      unfold chk at h
      cases p <;> first | (exact absurd h Bool.false_ne_true) | skip
      rename_i pf ps kws pos
      cases pf <;> first | (exact absurd h Bool.false_ne_true) | skip
      obtain ⟨h, c8⟩ := and2 h
      obtain ⟨h, c7⟩ := and2 h
      exact call_ok F hX h (fun q => evs_nil (T := T) (ok := ok) (Γ := Γ) (N := N) q) c7 (ckS F hN as hX c7) (ckK F hN ks hX c8)
    unfold chk at h
    cases p <;> first | (exact absurd h Bool.false_ne_true) | skip
    rw [tbx]
    exact sb_val h0 fun _ => rfl
  | .fld f a, sc, p, X, B, W, hX, h => by
    rw [tbx]
    unfold chk at h
    cases p <;> first | (exact absurd h Bool.false_ne_true) | skip
    obtain ⟨h, h3⟩ := and2 h
    obtain ⟨h1, h2⟩ := and2 h
    rw [of_decide_eq_true h1]
    exact sb_val (sv_fld (ok := fun c => ok.fld c f) (by rw [hX.K]; exact F.hK) (ckE F hN a hX h3) h2 fun c hc => F.fl c f hc) fun _ => rfl
  | .idx a i, sc, p, X, B, W, hX, h => by
    rw [tbx]
    unfold chk at h
    cases p <;> first | (exact absurd h Bool.false_ne_true) | skip
    obtain ⟨h, h3⟩ := and2 h
    obtain ⟨h1, h2⟩ := and2 h
    exact sb_val (sv_idx (by rw [hX.K]; exact F.hK) hX.units (ckE F hN a hX h2) (ckE F hN i hX h3) h1) fun _ => rfl
  | .blt o as, sc, p, X, B, W, hX, h => by
    rw [tbx]
    unfold chk at h
    cases p <;> first | (exact absurd h Bool.false_ne_true) | skip
    rename_i pf ps kws pos
    cases pf <;> first | (exact absurd h Bool.false_ne_true) | skip
    cases ps <;> first | (exact absurd h Bool.false_ne_true) | skip
    cases kws <;> first | (exact absurd h Bool.false_ne_true) | skip
    obtain ⟨h, h3⟩ := and2 h
    obtain ⟨h1, h2⟩ := and2 h
    obtain ⟨b1, b2, b3⟩ := isBlt_ok F hX h1
    exact sb_val (bt_ok (by rw [hX.K]; exact F.hK) hX.calm b1 b2 b3 h2 (ckS F hN as hX h3) (evs_nil (T := T) (ok := ok) h3).1) fun _ => rfl
  | .cmp o a b, sc, p, X, B, W, hX, h => by
    unfold chk at h
    cases p <;> first | (exact absurd h Bool.false_ne_true) | skip
    rename_i pa os qs pos
    rcases os with _ | ⟨o', _ | ⟨_, _⟩⟩ <;> first | (exact absurd h Bool.false_ne_true) | skip
    rcases qs with _ | ⟨pb, _ | ⟨_, _⟩⟩ <;> first | (exact absurd h Bool.false_ne_true) | skip
    obtain ⟨h, h4⟩ := and2 h
    obtain ⟨h, h3⟩ := and2 h
    obtain ⟨h1, h2⟩ := and2 h
    rw [tbx]
    exact (cp_ok (by rw [hX.K]; exact F.hK) (by have := hX.room.un; omega) h1 (ckE F hN a hX h2) (ckE F hN b hX h3) (not_f h4)).2
  | .not a, sc, p, X, B, W, hX, h => by
    unfold chk at h
    cases p <;> first | (exact absurd h Bool.false_ne_true) | skip
    rename_i o pa pos
    cases o <;> first | (exact absurd h Bool.false_ne_true) | skip
    rw [tbx]
    exact sb_not (ckB F hN a hX h)
  | .and a b, sc, p, X, B, W, hX, h => by
    unfold chk at h
    cases p <;> first | (exact absurd h Bool.false_ne_true) | skip
    rename_i o ps pos
    cases o <;> first | (exact absurd h Bool.false_ne_true) | skip
    rcases ps with _ | ⟨pa, _ | ⟨pb, r⟩⟩ <;> first | (exact absurd h Bool.false_ne_true) | skip
    obtain ⟨h1, h2⟩ := and2 h
    rw [tbx]
    cases r with
    | nil => exact (sw_and (ckB F hN a hX h1) (sw_and1 (ckB F hN b hX h2))).sb
    | cons q r => exact (sw_and (ckB F hN a hX h1) (ckWa F hN b hX h2)).sb
  | .or a b, sc, p, X, B, W, hX, h => by
    unfold chk at h
    cases p <;> first | (exact absurd h Bool.false_ne_true) | skip
    rename_i o ps pos
    cases o <;> first | (exact absurd h Bool.false_ne_true) | skip
    rcases ps with _ | ⟨pa, _ | ⟨pb, r⟩⟩ <;> first | (exact absurd h Bool.false_ne_true) | skip
    obtain ⟨h1, h2⟩ := and2 h
    rw [tbx]
    cases r with
    | nil => exact (sw_or (ckB F hN a hX h1) (sw_or1 (ckB F hN b hX h2))).sb
    | cons q r => exact (sw_or (ckB F hN a hX h1) (ckWo F hN b hX h2)).sb
theorem ckWa (F : Fcts Γ Y C j T ok) (hN : N.Nodup) : ∀ (x : Ex) {sc : Scope} {pa pb : Expr} {r : List Expr} {pos : Pos} {X : Cx} {B : Bs} {W : WX}, Xe Y (j + 1) N sc X W → chk Γ N x sc (.BoolOp .And (pa :: pb :: r) pos) = true → Sw X C B W (.BoolOp .And (pa :: pb :: r) pos) (tbx T ok x)
  | .and a b, sc, pa, pb, r, pos, X, B, W, hX, h => by
    unfold chk at h
    obtain ⟨h1, h2⟩ := and2 h
    rw [tbx]
    cases r with
    | nil => exact sw_and (ckB F hN a hX h1) (sw_and1 (ckB F hN b hX h2))
    | cons q r => exact sw_and (ckB F hN a hX h1) (ckWa F hN b hX h2)
  | .bad, sc, pa, pb, r, pos, X, B, W, hX, h => by rw [tbx]; exact sw_bad
  | .var x0, sc, pa, pb, r, pos, X, B, W, hX, h => absurd (by unfold chk at h; exact h) Bool.false_ne_true
  | .int x0, sc, pa, pb, r, pos, X, B, W, hX, h => absurd (by unfold chk at h; exact h) Bool.false_ne_true
  | .bl x0, sc, pa, pb, r, pos, X, B, W, hX, h => absurd (by unfold chk at h; exact h) Bool.false_ne_true
  | .non, sc, pa, pb, r, pos, X, B, W, hX, h => absurd (by unfold chk at h; exact h) Bool.false_ne_true
  | .str x0, sc, pa, pb, r, pos, X, B, W, hX, h => absurd (by unfold chk at h; exact h) Bool.false_ne_true
  | .op x0 x1 x2, sc, pa, pb, r, pos, X, B, W, hX, h => absurd (by unfold chk at h; exact h) Bool.false_ne_true
  | .neg x0, sc, pa, pb, r, pos, X, B, W, hX, h => absurd (by unfold chk at h; exact h) Bool.false_ne_true
  | .ite x0 x1 x2, sc, pa, pb, r, pos, X, B, W, hX, h => absurd (by unfold chk at h; exact h) Bool.false_ne_true
  | .tup x0, sc, pa, pb, r, pos, X, B, W, hX, h => absurd (by unfold chk at h; exact h) Bool.false_ne_true
  | .lst x0, sc, pa, pb, r, pos, X, B, W, hX, h => absurd (by unfold chk at h; exact h) Bool.false_ne_true
  | .newl x0, sc, pa, pb, r, pos, X, B, W, hX, h => absurd (by unfold chk at h; exact h) Bool.false_ne_true
  | .call x0 x1 x2 x3, sc, pa, pb, r, pos, X, B, W, hX, h => absurd (by unfold chk at h; exact h) Bool.false_ne_true
  | .mk x0 x1 x2 x3 x4 x5, sc, pa, pb, r, pos, X, B, W, hX, h => absurd (by unfold chk at h; exact h) Bool.false_ne_true
  | .blt x0 x1, sc, pa, pb, r, pos, X, B, W, hX, h => absurd (by unfold chk at h; exact h) Bool.false_ne_true
  | .fld x0 x1, sc, pa, pb, r, pos, X, B, W, hX, h => absurd (by unfold chk at h; exact h) Bool.false_ne_true
  | .idx x0 x1, sc, pa, pb, r, pos, X, B, W, hX, h => absurd (by unfold chk at h; exact h) Bool.false_ne_true
  | .slc x0 x1 x2, sc, pa, pb, r, pos, X, B, W, hX, h => absurd (by unfold chk at h; exact h) Bool.false_ne_true
  | .rev x0, sc, pa, pb, r, pos, X, B, W, hX, h => absurd (by unfold chk at h; exact h) Bool.false_ne_true
  | .join x0 x1, sc, pa, pb, r, pos, X, B, W, hX, h => absurd (by unfold chk at h; exact h) Bool.false_ne_true
  | .fmt x0, sc, pa, pb, r, pos, X, B, W, hX, h => absurd (by unfold chk at h; exact h) Bool.false_ne_true
  | .joined x0, sc, pa, pb, r, pos, X, B, W, hX, h => absurd (by unfold chk at h; exact h) Bool.false_ne_true
  | .comp x0 x1 x2 x3 x4, sc, pa, pb, r, pos, X, B, W, hX, h => absurd (by unfold chk at h; exact h) Bool.false_ne_true
  | .ext k as, sc, pa, pb, r, pos, X, B, W, hX, h => absurd (by unfold chk at h; rw [subX_bool] at h; exact h) Bool.false_ne_true
  | .cmp x0 x1 x2, sc, pa, pb, r, pos, X, B, W, hX, h => absurd (by unfold chk at h; exact h) Bool.false_ne_true
  | .not x0, sc, pa, pb, r, pos, X, B, W, hX, h => absurd (by unfold chk at h; exact h) Bool.false_ne_true
  | .or x0 x1, sc, pa, pb, r, pos, X, B, W, hX, h => absurd (by unfold chk at h; exact h) Bool.false_ne_true
theorem ckWo (F : Fcts Γ Y C j T ok) (hN : N.Nodup) : ∀ (x : Ex) {sc : Scope} {pa pb : Expr} {r : List Expr} {pos : Pos} {X : Cx} {B : Bs} {W : WX}, Xe Y (j + 1) N sc X W → chk Γ N x sc (.BoolOp .Or (pa :: pb :: r) pos) = true → Sw X C B W (.BoolOp .Or (pa :: pb :: r) pos) (tbx T ok x)
  | .or a b, sc, pa, pb, r, pos, X, B, W, hX, h => by
    unfold chk at h
    obtain ⟨h1, h2⟩ := and2 h
    rw [tbx]
    cases r with
    | nil => exact sw_or (ckB F hN a hX h1) (sw_or1 (ckB F hN b hX h2))
    | cons q r => exact sw_or (ckB F hN a hX h1) (ckWo F hN b hX h2)
  | .bad, sc, pa, pb, r, pos, X, B, W, hX, h => by rw [tbx]; exact sw_bad
  | .var x0, sc, pa, pb, r, pos, X, B, W, hX, h => absurd (by unfold chk at h; exact h) Bool.false_ne_true
  | .int x0, sc, pa, pb, r, pos, X, B, W, hX, h => absurd (by unfold chk at h; exact h) Bool.false_ne_true
  | .bl x0, sc, pa, pb, r, pos, X, B, W, hX, h => absurd (by unfold chk at h; exact h) Bool.false_ne_true
  | .non, sc, pa, pb, r, pos, X, B, W, hX, h => absurd (by unfold chk at h; exact h) Bool.false_ne_true
  | .str x0, sc, pa, pb, r, pos, X, B, W, hX, h => absurd (by unfold chk at h; exact h) Bool.false_ne_true
  | .op x0 x1 x2, sc, pa, pb, r, pos, X, B, W, hX, h => absurd (by unfold chk at h; exact h) Bool.false_ne_true
  | .neg x0, sc, pa, pb, r, pos, X, B, W, hX, h => absurd (by unfold chk at h; exact h) Bool.false_ne_true
  | .ite x0 x1 x2, sc, pa, pb, r, pos, X, B, W, hX, h => absurd (by unfold chk at h; exact h) Bool.false_ne_true
  | .tup x0, sc, pa, pb, r, pos, X, B, W, hX, h => absurd (by unfold chk at h; exact h) Bool.false_ne_true
  | .lst x0, sc, pa, pb, r, pos, X, B, W, hX, h => absurd (by unfold chk at h; exact h) Bool.false_ne_true
  | .newl x0, sc, pa, pb, r, pos, X, B, W, hX, h => absurd (by unfold chk at h; exact h) Bool.false_ne_true
  | .call x0 x1 x2 x3, sc, pa, pb, r, pos, X, B, W, hX, h => absurd (by unfold chk at h; exact h) Bool.false_ne_true
  | .mk x0 x1 x2 x3 x4 x5, sc, pa, pb, r, pos, X, B, W, hX, h => absurd (by unfold chk at h; exact h) Bool.false_ne_true
  | .blt x0 x1, sc, pa, pb, r, pos, X, B, W, hX, h => absurd (by unfold chk at h; exact h) Bool.false_ne_true
  | .fld x0 x1, sc, pa, pb, r, pos, X, B, W, hX, h => absurd (by unfold chk at h; exact h) Bool.false_ne_true
  | .idx x0 x1, sc, pa, pb, r, pos, X, B, W, hX, h => absurd (by unfold chk at h; exact h) Bool.false_ne_true
  | .slc x0 x1 x2, sc, pa, pb, r, pos, X, B, W, hX, h => absurd (by unfold chk at h; exact h) Bool.false_ne_true
  | .rev x0, sc, pa, pb, r, pos, X, B, W, hX, h => absurd (by unfold chk at h; exact h) Bool.false_ne_true
  | .join x0 x1, sc, pa, pb, r, pos, X, B, W, hX, h => absurd (by unfold chk at h; exact h) Bool.false_ne_true
  | .fmt x0, sc, pa, pb, r, pos, X, B, W, hX, h => absurd (by unfold chk at h; exact h) Bool.false_ne_true
  | .joined x0, sc, pa, pb, r, pos, X, B, W, hX, h => absurd (by unfold chk at h; exact h) Bool.false_ne_true
  | .comp x0 x1 x2 x3 x4, sc, pa, pb, r, pos, X, B, W, hX, h => absurd (by unfold chk at h; exact h) Bool.false_ne_true
  | .ext k as, sc, pa, pb, r, pos, X, B, W, hX, h => absurd (by unfold chk at h; rw [subX_bool] at h; exact h) Bool.false_ne_true
  | .cmp x0 x1 x2, sc, pa, pb, r, pos, X, B, W, hX, h => absurd (by unfold chk at h; exact h) Bool.false_ne_true
  | .not x0, sc, pa, pb, r, pos, X, B, W, hX, h => absurd (by unfold chk at h; exact h) Bool.false_ne_true
  | .and x0 x1, sc, pa, pb, r, pos, X, B, W, hX, h => absurd (by unfold chk at h; exact h) Bool.false_ne_true
theorem ckS (F : Fcts Γ Y C j T ok) (hN : N.Nodup) : ∀ (x : Exs) {sc : Scope} {p : List Expr} {X : Cx} {B : Bs} {W : WX}, Xe Y (j + 1) N sc X W → chks Γ N x sc p = true → Sas X C B W p (evs T ok x)
  | .nil, sc, p, X, B, W, hX, h => by
    unfold chks at h
    cases p with
    | cons _ _ => exact absurd h Bool.false_ne_true
    | nil => rw [evs]; exact sas_nil
  | .cons a r, sc, p, X, B, W, hX, h => by
    unfold chks at h
    cases p with
    | nil => exact absurd h Bool.false_ne_true
    | cons p ps =>
      obtain ⟨h, h3⟩ := and2 h
      obtain ⟨h1, h2⟩ := and2 h
      rw [evs]
      exact sas_cons (ckE F hN a hX h2) (ckS F hN r hX h3) (by unfold noStars at h1; rw [List.all_cons, Bool.and_eq_true] at h1; exact starEach_cons h1.1)
theorem ckK (F : Fcts Γ Y C j T ok) (hN : N.Nodup) : ∀ (x : Exs) {sc : Scope} {p : List Keyword} {X : Cx} {B : Bs} {W : WX}, Xe Y (j + 1) N sc X W → chkk Γ N x sc p = true → Sks X C B W p (evs T ok x)
  | .nil, sc, p, X, B, W, hX, h => by
    unfold chkk at h
    cases p with
    | cons _ _ => exact absurd h Bool.false_ne_true
    | nil => rw [evs]; exact sks_nil
  | .cons a r, sc, p, X, B, W, hX, h => by
    unfold chkk at h
    cases p with
    | nil => exact absurd h Bool.false_ne_true
    | cons p ps =>
      obtain ⟨nm, v, kp⟩ := p
      obtain ⟨h2, h3⟩ := and2 h
      rw [evs]
      exact sks_cons (ckE F hN a hX h2) (ckK F hN r hX h3)
theorem ckJ (F : Fcts Γ Y C j T ok) (hN : N.Nodup) : ∀ (x : Exs) {sc : Scope} {p : List Expr} {X : Cx} {B : Bs} {W : WX}, Xe Y (j + 1) N sc X W → chkj Γ N x sc p = true → Sj X C B W p (evj T ok x)
  | .nil, sc, p, X, B, W, hX, h => by
    unfold chkj at h
    cases p with
    | cons _ _ => exact absurd h Bool.false_ne_true
    | nil => rw [evj]; exact .nil
  | .cons a r, sc, p, X, B, W, hX, h => by
    unfold chkj at h
    cases p with
    | nil => exact absurd h Bool.false_ne_true
    | cons p ps =>
      obtain ⟨h2, h3⟩ := and2 h
      rw [evj]
      exact .cons (ckE F hN a hX h2) (ckJ F hN r hX h3)
theorem ckO (F : Fcts Γ Y C j T ok) (hN : N.Nodup) : ∀ (x : Eo) {sc : Scope} {p : Option Expr} {X : Cx} {B : Bs} {W : WX}, Xe Y (j + 1) N sc X W → chko Γ N x sc p = true → So X C B W p (evo T ok x)
  | .no, sc, p, X, B, W, hX, h => by
    unfold chko at h
    cases p with
    | some _ => exact absurd h Bool.false_ne_true
    | none => rw [evo]; exact .no
  | .yes a, sc, p, X, B, W, hX, h => by
    unfold chko at h
    cases p with
    | none => exact absurd h Bool.false_ne_true
    | some p => rw [evo]; exact .yes (ckE F hN a hX h)
theorem ckC (F : Fcts Γ Y C j T ok) (hN : N.Nodup) : ∀ (x : Eo) {sc : Scope} {p : List Expr} {X : Cx} {B : Bs}, Xe Y (j + 1) N sc X Wf → chkc Γ N x sc p = true → PTs X p (tT C B Wf (evc T ok x))
  | .no, sc, p, X, B, hX, h => by
    unfold chkc at h
    cases p with
    | cons _ _ => exact absurd h Bool.false_ne_true
    | nil => rw [evc]; exact pts_of (t := fun _ _ _ => True) (.inl ⟨rfl, rfl⟩)
  | .yes a, sc, p, X, B, hX, h => by
    unfold chkc at h
    match p, h with
    | [p], h => rw [evc]; exact pts_of (t := fun _ _ _ => True) (.inr ⟨p, rfl, ckB F hN a hX h⟩)
theorem ckR (F : Fcts Γ Y C j T ok) (hN : N.Nodup) : ∀ (x : Sr) {sc : Scope} {tg p : Expr} {X : Cx} {B : Bs} {W : WX}, Xe Y (j + 1) N sc X W → chkr Γ N x sc p = true → Svi X C B W tg p (evr T ok x)
  | .seq a, sc, tg, p, X, B, W, hX, h => by
    unfold chkr at h
    obtain ⟨h1, h2⟩ := and2 h
    rw [evr]
    exact svi_seq (by rw [hX.K]; exact F.hK) (ckE F hN a hX h2)
  | .rng1 a, sc, tg, p, X, B, W, hX, h => by
    unfold chkr at h
    split at h
    · obtain ⟨h, h3⟩ := and2 h
      obtain ⟨h1, h2⟩ := and2 h
      obtain ⟨b1, b2, b3⟩ := isBlt_ok F hX h1
      subst b1
      rw [evr]
      exact svi_rng1 b2 b3 (sas_cons (ckE F hN a hX h3) sas_nil (starEach_free h2)) h2
    · exact absurd h Bool.false_ne_true
  | .rng2 a b, sc, tg, p, X, B, W, hX, h => by
    unfold chkr at h
    split at h
    · obtain ⟨h, h5⟩ := and2 h
      obtain ⟨h, h4⟩ := and2 h
      obtain ⟨h, h3⟩ := and2 h
      obtain ⟨h1, h2⟩ := and2 h
      obtain ⟨b1, b2, b3⟩ := isBlt_ok F hX h1
      subst b1
      rw [evr]
      exact svi_rng2 b2 b3 (sas_cons (ckE F hN a hX h4) (sas_cons (ckE F hN b hX h5) sas_nil (starEach_free h3)) (by rw [starEach_free h2]; rw [starEach_free h3]; rfl)) h2 h3
    · exact absurd h Bool.false_ne_true
theorem ckRs : ∀ (x : Sr) {sc : Scope} {p : Expr} {env : PySem.Env}, chkr Γ N x sc p = true → ∀ v, foldedSetIterable p env v = pure v
  | .seq a, sc, p, env, h => by
    unfold chkr at h
    obtain ⟨h1, h2⟩ := and2 h
    intro v
    cases p <;> first | rfl | (exact absurd h1 Bool.false_ne_true)
  | .rng1 a, sc, p, env, h => by
    unfold chkr at h
    split at h
    · intro v; rfl
    · exact absurd h Bool.false_ne_true
  | .rng2 a b, sc, p, env, h => by
    unfold chkr at h
    split at h
    · intro v; rfl
    · exact absurd h Bool.false_ne_true
end
end
end PV

set_option Elab.async false
set_option linter.all false
set_option maxRecDepth 100000
set_option maxHeartbeats 2000000
/-! PV17: statements as data. -/
namespace PV
open PySem PySem.Spec L2
open PyProof.Rows hiding St
mutual
inductive Sm where
  | bad
  | pass
  | brk
  | cont
  | ex (a : Ex)
  | ret (a : Ex)
  | retN
  | ifs (t : Ex) (a b : Sms)
  | set (i : Nat) (a : Ex)
  | setc (i : Nat) (elt : Ex) (tg : Tg) (src : Sr) (cond : Eo) (own : List Nat)
  | asg (t : Tg) (a : Ex)
  | par (i j : Nat) (a b : Ex)
  | wh (t : Ex) (b : Sms)
  | fr (t : Tg) (s : Sr) (b : Sms)
  | setIx (o i v : Ex)
  | self (i : Nat) (f : String) (v : Ex)
  | rz (c : Nat) (as : Exs)
  | tr (c i : Nat) (b : Sms) (h : Hs)
inductive Sms where
  | nil
  | cons (a : Sm) (r : Sms)
end
section
variable (T : Tab) (ok : Okt)
mutual
noncomputable def xs : Sm → MS
  | .bad => fun _ _ => .stuck
  | .pass => sNext
  | .brk => fun e S => .ok .brk e S
  | .cont => fun e S => .ok .cont e S
  | .ex a => sExpr (ev T ok a)
  | .ret a => sRet (ev T ok a)
  | .retN => sRetN
  | .ifs t a b => sIf (tbx T ok t) (xss a) (xss b)
  | .set i a => sSet i (ev T ok a)
  | .setc i elt tg src cond own => sSet i (evComp (evr T ok src) (evt tg) (evc T ok cond) (ev T ok elt) own)
  | .asg t a => sTup (ev T ok a) (evt t)
  | .par i j a b => sPar i j (evCons (ev T ok a) (evCons (ev T ok b) evNil))
  | .wh t b => sWhile (tbx T ok t) (xss b)
  | .fr t s b => sFor (evr T ok s) (evt t) (xss b)
  | .setIx o i v => sSetIx (ev T ok o) (ev T ok i) (ev T ok v)
  | .self i f v => sSelf (fun c => ok.fld c f) i f (ev T ok v)
  | .rz c as => match ok.rz c with
    | some fl => sRaise c fl (evs T ok as)
    | none => fun _ _ => .stuck
  | .tr c i b h => sTry ok c i (xss b) h
noncomputable def xss : Sms → MS
  | .nil => sNext
  | .cons a r => ss (xs a) (xss r)
end
end
/-- two names of one's own, stored from the right -/
def parB (sc : Scope) (x y : Str) (px py : Pos) (a b : Expr) : Bool :=
  decide (sc.names.lookup x = some .local) && decide (sc.names.lookup y = some .local) && (px.line == py.line) && decide (x ≠ y) && noStars [a, b] && !([a, b].all (foldedForSure 8)) && !([a, b].all (constantsAlone 8))
/-- nothing is exchanged -/
def noSw (sc : Scope) (t v : Expr) : Bool := match t, v with
  | .Tuple ts _ _, .Tuple vs _ _ => !(ts.length == 2 || ts.length == 3) || vs.length != ts.length || !(noStars vs) ||
    (let names := ts.filterMap fun
      | .Name id pos => if (sc.names.lookup id == some .local && pos.line == ((ts.head?.map (·.pos.line)).getD 0)) = true then some id else none
      | _ => none
    names.length != ts.length || names.eraseDups.length != names.length) || vs.all (foldedForSure 8)
  | .List _ _, _ => false
  | _, _ => true
section
variable (Γ : Tb) (N : List Str)
mutual
def cks : Sm → Scope → Stmt → Bool
  | .bad, _, _ => true
  | .pass, _, p => match p with
    | .Pass _ => true
    | .Expr (.Constant (.str _) _ _) _ => true
    | _ => false
  | .brk, _, p => match p with
    | .Break _ => true
    | _ => false
  | .cont, _, p => match p with
    | .Continue _ => true
    | _ => false
  | .ex a, sc, p => match p with
    | .Expr pa _ => notComp pa && chk Γ N a sc pa
    | _ => false
  | .ret a, sc, p => match p with
    | .Return (some pa) _ => chk Γ N a sc pa
    | _ => false
  | .retN, _, p => match p with
    | .Return none _ => true
    | _ => false
  | .ifs t a b, sc, p => match p with
    | .If pt pa pb _ => chk Γ N t sc pt && ckss a sc pa && ckss b sc pb
    | _ => false
  | .set i a, sc, p => match p with
    | .Assign [.Name x _] pa _ => decide (N[i]? = some x) && isLoc sc x && notComp pa && chk Γ N a sc pa
    | _ => false
  | .setc i elt tg src cond own, sc, p => match p with
    | .Assign [.Name x px] (.ListComp pe [⟨pt, pi, ifs, 0⟩] scope pos) _ => decide (N[i]? = some x) && decide (sc.names.lookup x = some .local) && (px.line == pos.line) && !(scope.names.any fun (n, k) => n == x && (k == .local || k == .cell)) &&
      blkB N sc scope own && chkT N tg scope (relS scope sc) own pt && chkr Γ N src sc pi && chkc Γ N cond (relS scope sc) ifs && chk Γ N elt (relS scope sc) pe
    | _ => false
  | .asg t a, sc, p => match p with
    | .Assign [.Tuple ts k tp] pa _ => notComp pa && noSw sc (.Tuple ts k tp) pa && chkT N t sc sc (List.range N.length) (.Tuple ts k tp) && chk Γ N a sc pa
    | _ => false
  | .par i j a b, sc, p => match p with
    | .Assign [.Tuple [.Name x px, .Name y py] _ _] (.Tuple [pa, pb] _ _) _ => parB sc x y px py pa pb && decide (N[i]? = some x) && decide (N[j]? = some y) && decide (i ≠ j) && chk Γ N a sc pa && chk Γ N b sc pb
    | _ => false
  | .wh t b, sc, p => match p with
    | .While pt pb [] _ => chk Γ N t sc pt && ckss b sc pb
    | _ => false
  | .fr t s b, sc, p => match p with
    | .For pt pi pb [] _ => chkT N t sc sc (List.range N.length) pt && chkr Γ N s sc pi && ckss b sc pb
    | _ => false
  | .setIx o i v, sc, p => match p with
    | .Assign [.Subscript po pi _] pv _ => notSlice pi && notComp pv && chk Γ N o sc po && chk Γ N i sc pi && chk Γ N v sc pv
    | _ => false
  | .self i f v, sc, p => match p with
    | .Assign [.Attribute (.Name x _) g _] pv _ => decide (g = Str.ofString f) && decide (N[i]? = some x) && isVis sc x && okNm x && notComp pv && chk Γ N v sc pv
    | _ => false
  | .rz c as, sc, p => match p with
    | .Raise (some (.Call (.Name x _) (e :: es) [] _)) none _ => decide ((x, c) ∈ Γ.cn) && isGl sc x && okNm x && noStars (e :: es) && chks Γ N as sc (e :: es)
    | _ => false
  | .tr c i b h, sc, p => match p with
    | .Try pb [.ExceptHandler (some (.Name x _)) (some n) [b0] _] [] [] _ => decide ((x, c) ∈ Γ.cn) && isGl sc x && okNm x && decide (N[i]? = some n) && decide (sc.names.lookup n = some .local) && okNm n && chHs sc N Γ.cn Γ.bl n h [b0] && ckss b sc pb
    | _ => false
def ckss : Sms → Scope → List Stmt → Bool
  | .nil, _, p => match p with
    | [] => true
    | _ => false
  | .cons a r, sc, p => match p with
    | p :: ps => cks a sc p && ckss r sc ps
    | _ => false
end
end
end PV

set_option Elab.async false
set_option linter.all false
set_option maxRecDepth 100000
set_option maxHeartbeats 2000000
/-! PV18: what the check lets by is right: statements. -/
namespace PV
open PySem PySem.Spec L2
open PyProof.Rows hiding St
theorem stars_any {vs : List Expr} (h : noStars vs = false) : (vs.any fun | .Starred .. => true | _ => false) = true := by
  induction vs with
  | nil => cases h
  | cons v r ih =>
    unfold noStars at h
    rw [List.all_cons, Bool.and_eq_false_iff] at h
    rw [List.any_cons, Bool.or_eq_true]
    rcases h with h | h
    · left
      cases v <;> first | rfl | cases h
    · exact .inr (ih h)
theorem noSw_ok {env : PySem.Env} {t v : Expr} (hk : env.scope.kind = .function) (h : noSw env.scope t v = true) : swappedStores [t] v env = pure none := by
  have hb : env.blockKind = .function := by unfold Env.blockKind; rw [hk]; rfl
  cases t <;> first | (exact absurd h Bool.false_ne_true) | rfl | skip
  rename_i ts k p
  cases v <;> first | rfl | skip
  rename_i vs k2 p2
  unfold swappedStores
  dsimp only
  rw [hb]
  split
  · rfl
  rename_i c1
  split
  · rfl
  rename_i c2
  split
  · rfl
  rename_i c3
  split
  · rfl
  rename_i c4
  exfalso
  unfold noSw at h
  dsimp only at h
  rw [Bool.or_eq_true, Bool.or_eq_true, Bool.or_eq_true] at h
  rcases h with ((h | h) | h) | h
  · refine c1 ?_
    rw [Bool.or_eq_true]
    exact .inl h
  · exact c2 (stars_any (not_f h))
  · exact c3 h
  · exact c4 h
theorem not_t {a : Bool} (h : (!a) = true) : ¬ a = true := by cases a <;> simp_all
theorem stars_none {vs : List Expr} (h : noStars vs = true) : ¬ (vs.any fun | .Starred .. => true | _ => false) = true := by
  induction vs with
  | nil => simp
  | cons v r ih =>
    unfold noStars at h ih
    rw [List.all_cons] at h
    obtain ⟨h1, h2⟩ := and2 h
    rw [List.any_cons, Bool.or_eq_true]
    rintro (q | q)
    · cases v <;> first | (exact absurd q Bool.false_ne_true) | (exact absurd h1 Bool.false_ne_true)
    · exact ih h2 q
theorem par_ok {env : PySem.Env} {x y : Str} {px py pt pt2 : Pos} {kt k2 : Nat} {a b : Expr} (hk : env.scope.kind = .function) (h : parB env.scope x y px py a b = true) :
    swappedStores [.Tuple [.Name x px, .Name y py] kt pt] (.Tuple [a, b] k2 pt2) env = pure (some [x, y]) := by
  have hb : env.blockKind = .function := by unfold Env.blockKind; rw [hk]; rfl
  unfold parB at h
  obtain ⟨h, h7⟩ := and2 h
  obtain ⟨h, h6⟩ := and2 h
  obtain ⟨h, h5⟩ := and2 h
  obtain ⟨h, h4⟩ := and2 h
  obtain ⟨h, h3⟩ := and2 h
  obtain ⟨h1, h2⟩ := and2 h
  have k1 : env.kindOf x = some .local := of_decide_eq_true h1
  have k2' : env.kindOf y = some .local := of_decide_eq_true h2
  have hn : ([Expr.Name x px, Expr.Name y py].filterMap fun
    | .Name id pos => if env.kindOf id == some .local && pos.line == px.line then some id else none
    | _ => none) = [x, y] := by
    have e1 : px.line = py.line := beq_iff_eq.mp h3
    simp [k1, k2', e1]
  unfold swappedStores
  dsimp only
  rw [hb]
  split
  · rename_i c; simp at c
  split
  · rename_i c; exact absurd c (stars_none h5)
  have hn' : ([Expr.Name x px, Expr.Name y py].filterMap fun
    | .Name id pos => if env.kindOf id == some .local && pos.line == (Option.map (fun x => Expr.pos x |>.line) [Expr.Name x px, Expr.Name y py].head?).getD 0 then some id else none
    | _ => none) = [x, y] := hn
  have hxy : x ≠ y := of_decide_eq_true h4
  have hd : ([x, y].length != [Expr.Name x px, Expr.Name y py].length || [x, y].eraseDups.length != [x, y].length) = false := by
    have : [x, y].eraseDups = [x, y] := by
      simp [List.eraseDups_cons, Ne.symm hxy]
    rw [this]; rfl
  split
  · rename_i c
    exfalso
    have c : ((List.length (([Expr.Name x px, Expr.Name y py].filterMap fun
      | .Name id pos => if env.kindOf id == some .local && pos.line == (Option.map (fun x => Expr.pos x |>.line) [Expr.Name x px, Expr.Name y py].head?).getD 0 then some id else none
      | _ => none))) != [Expr.Name x px, Expr.Name y py].length || (([Expr.Name x px, Expr.Name y py].filterMap fun
      | .Name id pos => if env.kindOf id == some .local && pos.line == (Option.map (fun x => Expr.pos x |>.line) [Expr.Name x px, Expr.Name y py].head?).getD 0 then some id else none
      | _ => none)).eraseDups.length != (([Expr.Name x px, Expr.Name y py].filterMap fun
      | .Name id pos => if env.kindOf id == some .local && pos.line == (Option.map (fun x => Expr.pos x |>.line) [Expr.Name x px, Expr.Name y py].head?).getD 0 then some id else none
      | _ => none)).length) = true := c
    rw [hn', hd] at c
    cases c
  split
  · rename_i c; exact absurd c (not_t h6)
  split
  · rename_i c; exact absurd c (not_t h7)
  exact congrArg (fun l => pure (some l)) hn'
section
variable {Γ : Tb} {N : List Str} {Y : Yx} {C : Kx} {j : Nat} {T : Tab} {ok : Okt}
theorem ss_bad {X : Cx} {B : Bs} {W : WX} {p : Stmt} : Ss X C B W p (fun _ _ => .stuck) := ⟨fun pins s σ H D I ⟨g, e, S, st, h⟩ => False.elim h⟩
theorem mem_range {ts : Tg} {sc : Scope} {i : Nat} {x : Str} (h : N[i]? = some x) : i ∈ List.range N.length := List.mem_range.mpr (List.getElem?_eq_some_iff.mp h).1
theorem sole_free {e t : Expr} {l : Nat} {env : PySem.Env} (h : notComp e = true) : swapsWithSole [t] e l env = pure false := swaps_free (t := some t) (l := l) (env := env) h
theorem asg_plain {po pi : Expr} {p1 : Pos} {env : PySem.Env} {v : Value} (h : notSlice pi = true) : assign (.Subscript po pi p1) env v = (do
      let ov ← holding [v] (eval po env)
      let iv ← holding [v, ov] (eval pi env)
      standAt p1
      holding [v, ov, iv] (setItem ov iv v)
      release [v, ov, iv] []) := by
  cases pi <;> first | rfl | cases h
mutual
theorem ckM (F : Fcts Γ Y C j T ok) (hN : N.Nodup) : ∀ (x : Sm) {sc : Scope} {p : Stmt} {X : Cx} {B : Bs} {W : WX}, Xs Y (j + 1) N sc X W → cks Γ N x sc p = true → Ss X C B W p (xs T ok x)
  | .bad, sc, p, X, B, W, hX, h => by rw [xs]; exact ss_bad
  | .pass, sc, p, X, B, W, hX, h => by
    unfold cks at h
    split at h
    · rw [xs]; exact ss_pass
    · rw [xs]; exact ss_doc
    · exact absurd h Bool.false_ne_true
  | .brk, sc, p, X, B, W, hX, h => by
    unfold cks at h
    split at h
    · rw [xs]; exact ss_break
    · exact absurd h Bool.false_ne_true
  | .cont, sc, p, X, B, W, hX, h => by
    unfold cks at h
    split at h
    · rw [xs]; exact ss_cont
    · exact absurd h Bool.false_ne_true
  | .ex a, sc, p, X, B, W, hX, h => by
    unfold cks at h
    split at h
    · obtain ⟨h1, h2⟩ := and2 h
      rw [xs]; exact ss_expr (ckE F hN a hX.toXe h2) h1
    · exact absurd h Bool.false_ne_true
  | .ret a, sc, p, X, B, W, hX, h => by
    unfold cks at h
    split at h
    · rw [xs]; exact ss_ret (ckE F hN a hX.toXe h)
    · exact absurd h Bool.false_ne_true
  | .retN, sc, p, X, B, W, hX, h => by
    unfold cks at h
    split at h
    · rw [xs]; exact ss_retN
    · exact absurd h Bool.false_ne_true
  | .ifs t a b, sc, p, X, B, W, hX, h => by
    unfold cks at h
    split at h
    · obtain ⟨h, h3⟩ := and2 h
      obtain ⟨h1, h2⟩ := and2 h
      rw [xs]; exact ss_if (ckB F hN t hX.toXe h1) (ckMs F hN a hX h2) (ckMs F hN b hX h3)
    · exact absurd h Bool.false_ne_true
  | .set i a, sc, p, X, B, W, hX, h => by
    unfold cks at h
    split at h
    · rename_i x _ _ _
      obtain ⟨h, h4⟩ := and2 h
      obtain ⟨h, h3⟩ := and2 h
      obtain ⟨h1, h2⟩ := and2 h
      have hl : L2.Loc X.env.scope x := by
        rw [hX.scope]
        unfold isLoc at h2
        rw [Bool.or_eq_true] at h2
        rcases h2 with q | q
        · exact .inl (of_decide_eq_true q)
        · exact .inr (of_decide_eq_true q)
      rw [xs]; exact ss_set (by rw [hX.N]; exact hN) (by rw [hX.N]; exact of_decide_eq_true h1) hl (.inl (hX.fn _)) (ckE F hN a hX.toXe h4) h3
    · exact absurd h Bool.false_ne_true
  | .setc i elt tg src cond own, sc, p, X, B, W, hX, h => by
    unfold cks at h
    split at h
    · rename_i x px pe pt pi ifs scope pos _
      obtain ⟨h, h9⟩ := and2 h
      obtain ⟨h, h8⟩ := and2 h
      obtain ⟨h, h7⟩ := and2 h
      obtain ⟨h, h6⟩ := and2 h
      obtain ⟨h, h5⟩ := and2 h
      obtain ⟨h, h4⟩ := and2 h
      obtain ⟨h, h3⟩ := and2 h
      obtain ⟨h1, h2⟩ := and2 h
      obtain ⟨b1, b2⟩ := blkB_ok h5
      have hC : Y.K = C.K := F.hK
      have hy : X.env.scope.names.lookup x = some .local := by rw [hX.scope]; exact of_decide_eq_true h2
      rw [xs, ← b2]
      refine ss_setLc hX.calm (by rw [hX.N]; exact hN) (by rw [hX.N]; exact of_decide_eq_true h1) hy (sw_true (by rw [hX.scope]; exact hX.kind) hy h3 (not_f h4)) (ckR F hN src hX.toXe h7) (by rw [hX.N, hX.scope]; exact b1) (fun s H C0 cl fp => ?_) (fun s H C0 cl fp => ?_) (fun s H C0 cl fp => ?_) (ckRs (Y := Y) (C := C) (j := j) (T := T) (ok := ok) src h7)
      · rw [b2]
        exact chkT_ok hX.toXe.blk hC hN (fs := scope) (fun x hx => by show (scope.names.lookup x == some .cell) = true; rw [hx]; rfl) tg h6
      · exact ckC F hN cond hX.toXe.blk h8
      · exact ckE F hN elt hX.toXe.blk h9
    · exact absurd h Bool.false_ne_true
  | .asg t a, sc, p, X, B, W, hX, h => by
    unfold cks at h
    split at h
    · obtain ⟨h, h4⟩ := and2 h
      obtain ⟨h, h3⟩ := and2 h
      obtain ⟨h1, h2⟩ := and2 h
      rw [xs]
      exact ss_asg (ckE F hN a hX.toXe h4) (chkT_ok hX.toXe F.hK hN (fs := sc) (fun x _ => hX.fn x) t h3) (sole_free h1) (noSw_ok (by rw [hX.scope]; exact hX.kind) (by rw [hX.scope]; exact h2)) rfl
    · exact absurd h Bool.false_ne_true
  | .par i k a b, sc, p, X, B, W, hX, h => by
    unfold cks at h
    split at h
    · rename_i x px y py kt pt pa pb k2 pt2 pos
      obtain ⟨h, h6⟩ := and2 h
      obtain ⟨h, h5⟩ := and2 h
      obtain ⟨h, h4⟩ := and2 h
      obtain ⟨h, h3⟩ := and2 h
      obtain ⟨h1, h2⟩ := and2 h
      have hp := par_ok (env := X.env) (kt := kt) (pt := pt) (k2 := k2) (pt2 := pt2) (by rw [hX.scope]; exact hX.kind) (by rw [hX.scope]; exact h1)
      have h1' := h1
      unfold parB at h1'
      obtain ⟨h1', c7⟩ := and2 h1'
      obtain ⟨h1', c6⟩ := and2 h1'
      obtain ⟨h1', c5⟩ := and2 h1'
      obtain ⟨h1', c4⟩ := and2 h1'
      obtain ⟨h1', c3⟩ := and2 h1'
      obtain ⟨c1, c2⟩ := and2 h1'
      rw [xs]
      have hs2 : noStars [pb] = true := (by unfold noStars at c5 ⊢; rw [List.all_cons] at c5; exact (and2 c5).2)
      exact ss_par hX.calm (by rw [hX.N]; exact hN) (by rw [hX.N]; exact of_decide_eq_true h2) (by rw [hX.N]; exact of_decide_eq_true h3) (of_decide_eq_true h4) (by rw [hX.scope]; exact of_decide_eq_true c1) (by rw [hX.scope]; exact of_decide_eq_true c2)
        (sas_cons (ckE F hN a hX.toXe h5) (sas_cons (ckE F hN b hX.toXe h6) sas_nil (starEach_free hs2)) (by rw [starEach_free c5, starEach_free hs2]; rfl)) hp rfl
    · exact absurd h Bool.false_ne_true
  | .wh t b, sc, p, X, B, W, hX, h => by
    unfold cks at h
    split at h
    · obtain ⟨h1, h2⟩ := and2 h
      rw [xs]; exact ss_while hX.passes (ckB F hN t hX.toXe h1) (ckMs F hN b hX h2)
    · exact absurd h Bool.false_ne_true
  | .fr t s b, sc, p, X, B, W, hX, h => by
    unfold cks at h
    split at h
    · obtain ⟨h, h3⟩ := and2 h
      obtain ⟨h1, h2⟩ := and2 h
      rw [xs]; exact ss_for hX.passes hX.calm (ckR F hN s hX.toXe h2) (chkT_ok hX.toXe F.hK hN (fs := sc) (fun x _ => hX.fn x) t h1) (ckMs F hN b hX h3) (ckRs (Y := Y) (C := C) (j := j) (T := T) (ok := ok) s h2)
    · exact absurd h Bool.false_ne_true
  | .setIx o i v, sc, p, X, B, W, hX, h => by
    unfold cks at h
    split at h
    · obtain ⟨h, h5⟩ := and2 h
      obtain ⟨h, h4⟩ := and2 h
      obtain ⟨h, h3⟩ := and2 h
      obtain ⟨h1, h2⟩ := and2 h
      rw [xs]
      refine ss_setIx hX.toXe.units (ckE F hN o hX.toXe h3) (ckE F hN i hX.toXe h4) (ckE F hN v hX.toXe h5) ?_ (sole_free h2) rfl
      exact fun w => asg_plain h1
    · exact absurd h Bool.false_ne_true
  | .self i f v, sc, p, X, B, W, hX, h => by
    unfold cks at h
    split at h
    · obtain ⟨h, h6⟩ := and2 h
      obtain ⟨h, h5⟩ := and2 h
      obtain ⟨h, h4⟩ := and2 h
      obtain ⟨h, h3⟩ := and2 h
      obtain ⟨h1, h2⟩ := and2 h
      obtain ⟨n1, n2, n3⟩ := okNm_ok h4
      rw [xs, of_decide_eq_true h1]
      exact ss_self (by rw [hX.K]; exact F.hK) (by rw [hX.N]; exact of_decide_eq_true h2) (hX.toXe.Vis h3) n1 n2 (ckE F hN v hX.toXe h6) (fun c hc => F.fl c f hc) (swaps_free h5)
    · exact absurd h Bool.false_ne_true
  | .rz c as, sc, p, X, B, W, hX, h => by
    unfold cks at h
    split at h
    · obtain ⟨h, h5⟩ := and2 h
      obtain ⟨h, h4⟩ := and2 h
      obtain ⟨h, h3⟩ := and2 h
      obtain ⟨h1, h2⟩ := and2 h
      rw [xs]
      cases q : ok.rz c with
      | none => exact ss_bad
      | some fl =>
        obtain ⟨fI, fd, prs, z1, z2, z3, z4, z5, z6⟩ := F.rz c fl q
        exact ss_raise (k := j) hX.toXe.room1 ⟨fI, fd, prs, by rw [hX.K]; exact z1, by rw [hX.K]; exact z2, by rw [hX.K]; exact z3, by rw [hX.prog, hX.w, hX.K, hX.mg, hX.base]; exact z4, by rw [hX.K]; exact z5, by rw [hX.K]; exact z6⟩ hX.calm hX.takes (hX.toXe.Gl h2) (by rw [hX.mg]; exact F.cn _ _ (of_decide_eq_true h1)) (okNm_d h3).1 (ckS F hN as hX.toXe h5) h4
    · exact absurd h Bool.false_ne_true
  | .tr c i b hs, sc, p, X, B, W, hX, h => by
    unfold cks at h
    split at h
    · obtain ⟨h, h8⟩ := and2 h
      obtain ⟨h, h7⟩ := and2 h
      obtain ⟨h, h6⟩ := and2 h
      obtain ⟨h, h5⟩ := and2 h
      obtain ⟨h, h4⟩ := and2 h
      obtain ⟨h, h3⟩ := and2 h
      obtain ⟨h1, h2⟩ := and2 h
      rw [xs]
      have hl := of_decide_eq_true h5
      refine ss_try (cn := Γ.cn) (bl := Γ.bl) (sc := sc) hX.stack hX.frame (by rw [hX.N]; exact hN) (by rw [hX.N]; exact of_decide_eq_true h4) (by show X.env.scope.names.lookup _ = _; rw [hX.scope]; exact hl) (hX.toXe.Gl h2) (okNm_d h3).1 (by rw [hX.mg]; exact F.cn _ _ (of_decide_eq_true h1)) (.inl (by rw [hX.scope]; exact hl)) (okNm_d h6).1 (okNm_d h6).2 hX.takes
        ⟨fun y c' hy => by rw [hX.mg]; exact F.cn _ _ hy, by rw [hX.K]; exact F.es, by rw [hX.K]; exact F.em, by rw [hX.K]; exact F.xf⟩ (fun z hz => by rw [hX.mg]; exact F.bl z hz) hX.scope (fun W' pn xe tk ps => ?_) (by rw [hX.N]; exact h7)
      exact ckMs F hN b (X := X.tr pn xe) (B := B) ⟨⟨hX.prog, hX.w, hX.K, hX.mg, hX.base, hX.N, hX.scope, hX.room, hX.calm, tk⟩, hX.stack, hX.frame, ps, hX.fn, hX.kind⟩ h8
    · exact absurd h Bool.false_ne_true
theorem ckMs (F : Fcts Γ Y C j T ok) (hN : N.Nodup) : ∀ (x : Sms) {sc : Scope} {p : List Stmt} {X : Cx} {B : Bs} {W : WX}, Xs Y (j + 1) N sc X W → ckss Γ N x sc p = true → Sss X C B W p (xss T ok x)
  | .nil, sc, p, X, B, W, hX, h => by
    unfold ckss at h
    cases p with
    | cons _ _ => exact absurd h Bool.false_ne_true
    | nil => rw [xss]; exact sss_nil
  | .cons a r, sc, p, X, B, W, hX, h => by
    unfold ckss at h
    cases p with
    | nil => exact absurd h Bool.false_ne_true
    | cons p ps =>
      obtain ⟨h1, h2⟩ := and2 h
      rw [xss]
      exact sss_cons (ckM F hN a hX h1) (ckMs F hN r hX h2)
end
end
end PV

set_option Elab.async false
set_option linter.all false
set_option maxRecDepth 100000
set_option maxHeartbeats 400000
/-! PV19: the defs of a text, level by level; the law. -/
namespace PV
open PySem PySem.Spec L2
open PyProof.Rows hiding St

noncomputable def TT (ok : Okt) (fs : Nat → Option (Nat × Sms)) (is : Nat → Option (Nat × Nat × Sms)) : Nat → Tab
  | 0 => ⟨fun _ _ _ => .stuck, fun _ _ _ => .stuck⟩
  | k + 1 => ⟨fun i => match fs i with
      | some (n, b) => funF n (xss (TT ok fs is k) ok b)
      | none => fun _ _ => .stuck,
    fun i => match is i with
      | some (n, c, b) => iniF n c (xss (TT ok fs is k) ok b)
      | none => fun _ _ => .stuck⟩
theorem TT_fn {ok : Okt} {fs : Nat → Option (Nat × Sms)} {is : Nat → Option (Nat × Nat × Sms)} {k i n : Nat} {b : Sms} (h : fs i = some (n, b)) : (TT ok fs is (k + 1)).fn i = funF n (xss (TT ok fs is k) ok b) := by
  show (match fs i with | some (n, b) => funF n (xss (TT ok fs is k) ok b) | none => fun _ _ => .stuck) = _
  rw [h]
theorem TT_ini {ok : Okt} {fs : Nat → Option (Nat × Sms)} {is : Nat → Option (Nat × Nat × Sms)} {k i n c : Nat} {b : Sms} (h : is i = some (n, c, b)) : (TT ok fs is (k + 1)).ini i = iniF n c (xss (TT ok fs is k) ok b) := by
  show (match is i with | some (n, c, b) => iniF n c (xss (TT ok fs is k) ok b) | none => fun _ _ => .stuck) = _
  rw [h]
section
variable {Γ : Tb} {Y : Yx} {C : Kx} {ok : Okt} {fs : Nat → Option (Nat × Sms)} {is : Nat → Option (Nat × Nat × Sms)}
/-- a def of the text -/
structure FnE (Γ : Tb) (Y : Yx) (fs : Nat → Option (Nat × Sms)) (i : Nat) (N ps : List Str) (f : Addr) (fd : FuncData) : Prop where
  ex : ∃ (x qual : Str) (params : Arguments) (body : List Stmt) (scope : Scope) (kws : List (Str × V)) (b : Sms), fs i = some (N.length, b) ∧ FunD Y.K x qual params body scope [] kws f fd ∧ FnScope N ps scope ∧ ckss Γ N b scope body = true
structure InE (Γ : Tb) (Y : Yx) (is : Nat → Option (Nat × Nat × Sms)) (i c n : Nat) (N ps : List Str) (f : Addr) (fd : FuncData) : Prop where
  ex : ∃ (x qual : Str) (params : Arguments) (body : List Stmt) (scope : Scope) (kws : List (Str × V)) (b : Sms), is i = some (N.length, c, b) ∧ FunD Y.K x qual params body scope [] kws f fd ∧ FnScope N ps scope ∧ ckss Γ N b scope body = true ∧ ps.length = n + 1 ∧ N ≠ []
theorem FnE.fnOk (E : FnE Γ Y fs i N ps f fd) : ∀ {k : Nat}, (∀ j, k = j + 1 → Fcts Γ Y C (4 * j + 3) (TT ok fs is j) ok) → FnOk Y.P Y.w Y.K Y.mg Y.base (L2.CX Y.P Y.w) (4 * k + 3) f fd ps (spD C ps.length ((TT ok fs is k).fn i))
  | 0, h => ⟨fun vs H Q E h => h.1, fun A outer s H args us vs Q E hr e hb hv hs => by
      obtain ⟨_, lk, g, S, ds, _, _, po⟩ := hs
      exact False.elim po⟩
  | k + 1, h => by
    obtain ⟨x, qual, params, body, scope, kws, b, e1, F, Sc, hc⟩ := E.ex
    rw [TT_fn e1]
    exact fn_body (k := 4 * k + 4) F Sc fun X B W hX => ckMs (h k rfl) Sc.nd b hX hc
theorem InE.fnOk (E : InE Γ Y is i c n N ps f fd) : ∀ {k : Nat}, (∀ j, k = j + 1 → Fcts Γ Y C (4 * j + 3) (TT ok fs is j) ok) → FnOk Y.P Y.w Y.K Y.mg Y.base (L2.CX Y.P Y.w) (4 * k + 3) f fd ps (spI C c n ((TT ok fs is k).ini i))
  | 0, h => by
    obtain ⟨x, qual, params, body, scope, kws, b, e1, F, Sc, hc, hl, hN⟩ := E.ex
    refine ⟨fun vs H Q E h => h.1.trans hl.symm, fun A outer s H args us vs Q E hr e hb hv hs => ?_⟩
    obtain ⟨_, lk, x, dx, us, g, S, ds, _, _, _, _, _, _, po⟩ := hs
    exact False.elim po
  | k + 1, h => by
    obtain ⟨x, qual, params, body, scope, kws, b, e1, F, Sc, hc, hl, hN⟩ := E.ex
    rw [TT_ini e1]
    exact ini_body (k := 4 * k + 4) F Sc hl hN fun X B W hX => ckMs (h k rfl) Sc.nd b hX hc
/-- all the text's facts -/
structure Txt (Γ : Tb) (Y : Yx) (C : Kx) (ok : Okt) (fs : Nat → Option (Nat × Sms)) (is : Nat → Option (Nat × Nat × Sms)) : Prop where
  hK : Y.K = C.K
  fn : ∀ x i, (x, i) ∈ Γ.fn → ∃ N ps f fd, FnE Γ Y fs i N ps f fd ∧ Y.mg x = some (.ref f) ∧ PySem.W.keepIn Y.K (.ref f) = true ∧
    ∀ n ks its, ((n, ks), its) ∈ Γ.bd i → its.length = ps.length ∧ ∃ g, KBn Y.K fd ps n ks g (putV its)
  cl : ∀ x c i, (x, c, i) ∈ Γ.cl → ∃ n N ps f fd, InE Γ Y is i c n N ps f fd ∧ Mk Y.K (C.ca c) f ∧ Y.mg x = some (.ref (C.ca c)) ∧
    ∀ n' ks its, ((n', ks), its) ∈ Γ.bi i → its.length = n ∧ ∃ g, KBn Y.K fd ps (n' + 1) ks g (putV (.p 0 :: its.map shA))
  bl : ∀ x, x ∈ Γ.bl → Y.mg x = none
  fl : ∀ c f, ok.fld c f = true → ClsOk C.K C.ca c (Str.ofString f)
  cn : ∀ y c, (y, c) ∈ Γ.cn → Y.mg y = some (.ref (C.ca c))
  mt : ∀ c m i n, ok.met c m = some (i, n) → ∃ N ps f fd, FnE Γ Y fs i N ps f fd ∧ ps.length = n ∧ Cls Y.K (C.ca c) ∧ Meth Y.K (C.ca c) (Str.ofString m) f ∧ Binds Y.K fd ps []
  eq : ∀ c i, ok.eqs c = some i → (∃ N ps f fd, FnE Γ Y fs i N ps f fd ∧ ps.length = 2 ∧ PySem.W.findIn Y.K (.ref (C.ca c)) "__eq__" = some (some (.ref f)) ∧ PySem.W.isFn Y.K (.ref f) = true ∧ Binds Y.K fd ps [] ∧ neB Y.K (C.ca c) f = true) ∧ ndB Y.K (C.ca c) = true
  sb : ∀ c c' b, ok.sub c c' = some b → SbC Y.K C.ca c c' b
  dt : ∀ c', ok.dat c' = true → DtC Y.K C.ca c'
  es : ∀ c c' b, ok.exs c c' = some b → ExE Y.K C.ca c c' b
  em : ∀ c c' b, ok.exm c c' = some b → PySem.W.exmOne Y.K (.ref (C.ca c)) (.ref (C.ca c')) = some b
  xf : ∀ c f, ok.xf c f = true → XfC Y.K (C.ca c) ∧ PySem.W.findIn Y.K (.ref (C.ca c)) (Str.ofString f) = some none
  rz : ∀ c fl, ok.rz c = some fl → ∃ fI fd ps, OexC Y.K (C.ca c) ∧ PySem.W.findIn Y.K (.ref (C.ca c)) "__init__" = some (some (.ref fI)) ∧ PySem.W.typeIn Y.K (.ref fI) = some (.type "function") ∧ FnOk Y.P Y.w Y.K Y.mg Y.base (L2.CX Y.P Y.w) 3 fI fd ps (spX Y.K (fl.map Str.ofString)) ∧
    Binds Y.K fd ps [] ∧ ∀ f ∈ fl.map Str.ofString, PySem.W.findIn Y.K (.ref (C.ca c)) f = some none
theorem Txt.facts (h : Txt Γ Y C ok fs is) : ∀ k, Fcts Γ Y C (4 * k + 3) (TT ok fs is k) ok := by
  intro k
  induction k with
  | zero =>
    refine ⟨h.hK, fun x i hx => ?_, fun x c i hx => ?_, h.bl, h.fl, h.cn, fun c m i n q => ?_, fun c i q => ?_, h.sb, h.dt, h.es, h.em, h.xf, fun c fl q => ?_⟩
    · obtain ⟨N, ps, f, fd, E, g1, g2, g3⟩ := h.fn x i hx
      exact ⟨f, fd, ps, ps.length, E.fnOk (k := 0) (fun j e => by cases e), g1, g2, g3⟩
    · obtain ⟨n, N, ps, f, fd, E, M0, g1, g3⟩ := h.cl x c i hx
      exact ⟨f, fd, ps, n, M0, E.fnOk (k := 0) (fun j e => by cases e), g1, g3⟩
    · obtain ⟨N, ps, f, fd, E, el, z1, z2, z3⟩ := h.mt c m i n q
      exact ⟨f, fd, ps, z1, z2, by rw [← el]; exact E.fnOk (k := 0) (fun j e => by cases e), z3⟩
    · obtain ⟨⟨N, ps, f, fd, E, el, z1, z2, z3, z4⟩, z5⟩ := h.eq c i q
      exact ⟨⟨f, fd, ps, by rw [← el]; exact E.fnOk (k := 0) (fun j e => by cases e), z1, z2, z3, z4⟩, z5⟩
    · obtain ⟨fI, fd, ps, z1, z2, z3, z4, z5, z6⟩ := h.rz c fl q
      exact ⟨fI, fd, ps, z1, z2, z3, z4.mono (by omega), z5, z6⟩
  | succ k ih =>
    refine ⟨h.hK, fun x i hx => ?_, fun x c i hx => ?_, h.bl, h.fl, h.cn, fun c m i n q => ?_, fun c i q => ?_, h.sb, h.dt, h.es, h.em, h.xf, fun c fl q => ?_⟩
    · obtain ⟨N, ps, f, fd, E, g1, g2, g3⟩ := h.fn x i hx
      exact ⟨f, fd, ps, ps.length, E.fnOk (k := k + 1) (fun j e => by cases e; exact ih), g1, g2, g3⟩
    · obtain ⟨n, N, ps, f, fd, E, M0, g1, g3⟩ := h.cl x c i hx
      exact ⟨f, fd, ps, n, M0, E.fnOk (k := k + 1) (fun j e => by cases e; exact ih), g1, g3⟩
    · obtain ⟨N, ps, f, fd, E, el, z1, z2, z3⟩ := h.mt c m i n q
      exact ⟨f, fd, ps, z1, z2, by rw [← el]; exact E.fnOk (k := k + 1) (fun j e => by cases e; exact ih), z3⟩
    · obtain ⟨⟨N, ps, f, fd, E, el, z1, z2, z3, z4⟩, z5⟩ := h.eq c i q
      exact ⟨⟨f, fd, ps, by rw [← el]; exact E.fnOk (k := k + 1) (fun j e => by cases e; exact ih), z1, z2, z3, z4⟩, z5⟩
    · obtain ⟨fI, fd, ps, z1, z2, z3, z4, z5, z6⟩ := h.rz c fl q
      exact ⟨fI, fd, ps, z1, z2, z3, z4.mono (by omega), z5, z6⟩
/-- the law's promise -/
def spL (K : PySem.W.Frag) (n : Nat) : Sp := fun vs H Q _ => ∃ (a : Addr) (ns : List Int), vs = [.ref a] ∧ ns.length ≤ n ∧ SqL K H a (ns.map V.int) ∧ ∀ H', Q (.bl true) H'
theorem reps_ints {g : G} : ∀ ns : List Int, Reps C g (ns.map V.int) (ns.map D.int)
  | [] => .nil
  | i :: r => .cons (.int i) (reps_ints r)
theorem law_ok {n : Nat} (h : Txt Γ Y C ok fs is) {i : Nat} {N : List Str} {x : Str} {f : Addr} {fd : FuncData} (E : FnE Γ Y fs i N [x] f fd) (k : Nat)
    (hl : ∀ ns : List Int, ns.length ≤ n → ∃ S, (TT ok fs is k).fn i [.scr (ns.map D.int)] [] = .ok (.bl true) S) : FnOk Y.P Y.w Y.K Y.mg Y.base (L2.CX Y.P Y.w) (4 * k + 3) f fd [x] (spL Y.K n) := by
  refine (E.fnOk (C := C) (k := k) fun j _ => h.facts j).imp fun vs H Q EE ⟨a, ns, e, hn, hq, hQ⟩ => ?_
  subst e
  obtain ⟨S, eo⟩ := hl ns hn
  have sim : Sim C [] ⟨H, []⟩ [] H := by
    refine ⟨fun a o h => ?_, fun a ha => (by cases ha), rfl, fun i a m h _ => ?_, fun a ha => (by cases ha), List.nodup_nil⟩
    · unfold As; rw [if_neg (by simp)]; exact h
    · have h : ([] : List Addr)[i]? = some a := h
      simp at h
  have rs : Reps C ⟨H, []⟩ [V.ref a] [D.scr (ns.map D.int)] := .one (.scr (by rw [← h.hK]; exact hq) (reps_ints ns))
  refine ⟨rfl, [], ⟨H, []⟩, [], [.scr (ns.map D.int)], sim, rs, ?_⟩
  rw [eo]
  intro v H' g' f' m r
  cases r
  exact hQ H'
end
end PV

set_option Elab.async false
set_option linter.all false
set_option maxRecDepth 100000
set_option maxHeartbeats 400000
/-! PV20: from the head's facts to a text's facts. -/
namespace PV
open PySem PySem.Spec L2
open PyProof.Rows hiding St
def valOf (its : List Ar) (us ws : List Value) : List Value := its.map fun
  | .p i => us.getD i .none
  | .k j => ws.getD j .none
  | .d _ => .none
def noD : List Ar → Bool
  | [] => true
  | .d _ :: _ => false
  | _ :: r => noD r
theorem getD_rel {vs : List V} {us : List Value} (h : Vals vs us) (i : Nat) : RelV (vs.getD i .non) (us.getD i .none) := by
  induction h generalizing i with
  | nil => rfl
  | cons r t ih =>
    cases i with
    | zero => exact r
    | succ i => exact ih i
theorem valOf_rel {vs zs : List V} {us ws : List Value} (h1 : Vals vs us) (h2 : Vals zs ws) : ∀ {its : List Ar}, noD its = true → Vals (putV its vs zs) (valOf its us ws)
  | [], _ => .nil
  | .p i :: r, h => .cons (getD_rel h1 i) (valOf_rel h1 h2 (its := r) h)
  | .k j :: r, h => .cons (getD_rel h2 j) (valOf_rel h1 h2 (its := r) h)
  | .d _ :: _, h => by cases h
section
variable {K : PySem.W.Frag} {x qual : Str} {params : Arguments} {body : List Stmt} {scope : Scope} {f : Addr} {fd : FuncData} {ps : List Str}
theorem kbn0 {n : Nat} {ks : List Str} {its : List Ar} (F : FunD K x qual params body scope [] [] f fd) (hd : noD its = true)
    (h : ∀ (kV doc pm : Value) (an : Option Addr) (cdv ct : Value) (us ws : List Value), us.length = n → ws.length = ks.length → bindArgs (PySem.W.fnOf x qual params body scope .none kV doc pm an cdv ct) ⟨us, ks.zip ws⟩ = pure (ps.zip (valOf its us ws))) :
    ∃ g, KBn K fd ps n ks g (putV its) := by
  obtain ⟨oc, od, dV, kV, doc, pm, an, cdv, ct, osl, rfl, lk, hcd, hD, hK⟩ := F.ex
  rcases hD with ⟨_, rfl⟩ | ⟨e, _⟩
  · exact ⟨valOf its, ⟨fun s us ws X l1 l2 => .of_eq (h kV doc pm an cdv ct us ws l1 l2), fun r1 r2 => valOf_rel r1 r2 hd⟩⟩
  · exact absurd rfl e
end
/-- a def that keeps its promise -/
def FnGood (Γ : Tb) (Y : Yx) (fs : Nat → Option (Nat × Sms)) (p : Str × Nat) : Prop := ∃ N ps f fd, FnE Γ Y fs p.2 N ps f fd ∧ Y.mg p.1 = some (.ref f) ∧ PySem.W.keepIn Y.K (.ref f) = true ∧
    ∀ q ∈ Γ.bd p.2, q.2.length = ps.length ∧ ∃ g, KBn Y.K fd ps q.1.1 q.1.2 g (putV q.2)
def InGood (Γ : Tb) (Y : Yx) (C : Kx) (is : Nat → Option (Nat × Nat × Sms)) (p : Str × Nat × Nat) : Prop := ∃ n N ps f fd, InE Γ Y is p.2.2 p.2.1 n N ps f fd ∧ Mk Y.K (C.ca p.2.1) f ∧ Y.mg p.1 = some (.ref (C.ca p.2.1)) ∧
    ∀ q ∈ Γ.bi p.2.2, q.2.length = n ∧ ∃ g, KBn Y.K fd ps (q.1.1 + 1) q.1.2 g (putV (.p 0 :: q.2.map shA))
/-- the tables, as lists -/
structure Okl where
  fld : List (Nat × String) := []
  met : List ((Nat × String) × (Nat × Nat)) := []
  eqs : List (Nat × Nat) := []
  sub : List ((Nat × Nat) × Bool) := []
  dat : List Nat := []
  exs : List ((Nat × Nat) × Bool) := []
  exm : List ((Nat × Nat) × Bool) := []
  xf : List (Nat × String) := []
  rz : List (Nat × List String) := []
def fAt (l : List (Nat × String)) (c : Nat) (f : String) : Bool := l.any fun p => p.1 == c && p.2 == f
def okt (t : Okl) : Okt where
  fld := fAt t.fld
  met c m := t.met.lookup (c, m)
  eqs c := t.eqs.lookup c
  sub c c' := t.sub.lookup (c, c')
  dat c := t.dat.any fun d => d == c
  exs c c' := t.exs.lookup (c, c')
  exm c c' := t.exm.lookup (c, c')
  xf := fAt t.xf
  rz c := t.rz.lookup c
theorem lookup_mem {α β : Type} [BEq α] [LawfulBEq α] {a : α} {b : β} : ∀ {l : List (α × β)}, l.lookup a = some b → (a, b) ∈ l
  | [], h => by cases h
  | (x, y) :: r, h => by
    rw [List.lookup_cons] at h
    split at h
    · rename_i e
      cases h
      rw [beq_iff_eq.mp e]; exact List.mem_cons_self
    · exact List.mem_cons_of_mem _ (lookup_mem h)
theorem fAt_mem {l : List (Nat × String)} {c : Nat} {f : String} (h : fAt l c f = true) : (c, f) ∈ l := by
  unfold fAt at h
  rw [List.any_eq_true] at h
  obtain ⟨p, hp, e⟩ := h
  obtain ⟨e1, e2⟩ := and2 e
  have e1 : p.1 = c := beq_iff_eq.mp e1
  have e2 : p.2 = f := beq_iff_eq.mp e2
  subst e1 e2
  exact hp
/-- an own exception class over ValueError -/
def oexB (K : PySem.W.Frag) (Ca : Addr) : Bool := (match K.lookup Ca with
  | some ⟨.type "type", _, .cls cd, sl⟩ => (match cd.mro, sl.toList with
    | .ref C' :: bm, [_, _, _, _, some (.builtin n), _] => decide (C' = Ca) && (decide (n = "ValueError.__new__") && (!cd.hasDel && (cd.hasDict && PySem.HandSPX.refsVE bm)))
    | _, _ => false)
  | _ => false) && (decide (PySem.W.findIn K (.ref Ca) "__setattr__" = some (some (.builtin "object.__setattr__"))) && (decide (PySem.W.subIn K (.ref Ca) (.type "BaseException") = some true) && (decide (PySem.W.typeIn K (.ref Ca) = some (.type "type")) && PySem.W.keepIn K (.ref Ca))))
theorem oexB_ok {K : PySem.W.Frag} {Ca : Addr} (h : oexB K Ca = true) : OexC K Ca := by
  unfold oexB at h
  obtain ⟨h1, h⟩ := and2 h
  obtain ⟨h2, h⟩ := and2 h
  obtain ⟨h3, h⟩ := and2 h
  obtain ⟨h4, h5⟩ := and2 h
  refine ⟨?_, of_decide_eq_true h2, of_decide_eq_true h3, of_decide_eq_true h4, h5⟩
  split at h1
  · rename_i dd cl sls lkC
    split at h1
    · rename_i C1 bm k0 k1 k2 k3 nw k5 em es
      simp only [Bool.and_eq_true, decide_eq_true_eq, Bool.not_eq_true'] at h1
      obtain ⟨e1, e2, e3, e4, e5⟩ := h1
      obtain ⟨nm, bs, mr, ns, qn, hd, sn, sub, ab, col, dl⟩ := cl
      dsimp only at em e3 e4
      subst e1 e2 em e3 e4
      obtain ⟨lsl⟩ := sls
      dsimp only at es
      subst es
      exact ⟨nm, qn, ns, bs, bm, sn, sub, ab, col, dd, k0, k1, k2, k3, k5, lkC, e5⟩
    · cases h1
  · cases h1
/-- what is asked of the written part, by the lists -/
def exK (t : Okl) (ca : PySem.W.Frag → Nat → Addr) (K : PySem.W.Frag) : Bool :=
  t.eqs.all (fun p => neB K (ca K p.1) (He.ma K (ca K p.1) "__eq__") && ndB K (ca K p.1)) &&
  (t.sub.all (fun p => clsB K (ca K p.1.1) && decide (PySem.W.kitOne K (.ref (ca K p.1.1)) (.ref (ca K p.1.2)) = some p.2)) &&
  (t.dat.all (fun c => dataTys.all fun ty => decide (PySem.W.kitOne K (.type ty) (.ref (ca K c)) = some false)) &&
  (t.exs.all (fun p => exkB K (ca K p.1.1) && decide (PySem.W.kitOne K (.ref (ca K p.1.1)) (.ref (ca K p.1.2)) = some p.2)) &&
  (t.exm.all (fun p => decide (PySem.W.exmOne K (.ref (ca K p.1.1)) (.ref (ca K p.1.2)) = some p.2)) &&
  (t.xf.all (fun p => xfB K (ca K p.1) && decide (PySem.W.findIn K (.ref (ca K p.1)) (Str.ofString p.2) = some none)) &&
  t.rz.all (fun p => oexB K (ca K p.1) && (decide (PySem.W.findIn K (.ref (ca K p.1)) "__init__" = some (some (.ref (He.ma K (ca K p.1) "__init__")))) &&
    (decide (PySem.W.typeIn K (.ref (He.ma K (ca K p.1) "__init__")) = some (.type "function")) && p.2.all fun f => decide (PySem.W.findIn K (.ref (ca K p.1)) (Str.ofString f) = some none)))))))))
/-- a method that keeps its promise -/
def MtGood (Γ : Tb) (Y : Yx) (C : Kx) (fs : Nat → Option (Nat × Sms)) (p : (Nat × String) × (Nat × Nat)) : Prop := ∃ N ps f fd, FnE Γ Y fs p.2.1 N ps f fd ∧ ps.length = p.2.2 ∧ Cls Y.K (C.ca p.1.1) ∧ Meth Y.K (C.ca p.1.1) (Str.ofString p.1.2) f ∧ Binds Y.K fd ps []
def EqGood (Γ : Tb) (Y : Yx) (C : Kx) (fs : Nat → Option (Nat × Sms)) (p : Nat × Nat) : Prop := ∃ N ps fd, FnE Γ Y fs p.2 N ps (He.ma Y.K (C.ca p.1) "__eq__") fd ∧ ps.length = 2 ∧ Meth Y.K (C.ca p.1) (Str.ofString "__eq__") (He.ma Y.K (C.ca p.1) "__eq__") ∧ Binds Y.K fd ps []
def RzGood (Y : Yx) (C : Kx) (p : Nat × List String) : Prop := ∃ fd ps, FnOk Y.P Y.w Y.K Y.mg Y.base (L2.CX Y.P Y.w) 3 (He.ma Y.K (C.ca p.1) "__init__") fd ps (spX Y.K (p.2.map Str.ofString)) ∧ Binds Y.K fd ps []
theorem txt_of {Γ : Tb} {Y : Yx} {C : Kx} {t : Okl} {cb : PySem.W.Frag → Nat → Addr} {fs : Nat → Option (Nat × Sms)} {is : Nat → Option (Nat × Nat × Sms)} (hK : Y.K = C.K) (hca : C.ca = cb Y.K) (hex : exK t cb Y.K = true) (h1 : ∀ p ∈ Γ.fn, FnGood Γ Y fs p) (h2 : ∀ p ∈ Γ.cl, InGood Γ Y C is p) (h3 : ∀ x ∈ Γ.bl, Y.mg x = none)
    (h4 : ∀ p ∈ t.fld, ClsOk C.K C.ca p.1 (Str.ofString p.2)) (h5 : ∀ p ∈ Γ.cn, Y.mg p.1 = some (.ref (C.ca p.2))) (h6 : ∀ p ∈ t.met, MtGood Γ Y C fs p) (h7 : ∀ p ∈ t.eqs, EqGood Γ Y C fs p) (h8 : ∀ p ∈ t.sub, Cls Y.K (C.ca p.1.1)) (h9 : ∀ p ∈ t.rz, RzGood Y C p) : Txt Γ Y C (okt t) fs is := by
  unfold exK at hex
  simp only [← hca] at hex
  obtain ⟨x1, hex⟩ := and2 hex
  obtain ⟨x2, hex⟩ := and2 hex
  obtain ⟨x3, hex⟩ := and2 hex
  obtain ⟨x4, hex⟩ := and2 hex
  obtain ⟨x5, hex⟩ := and2 hex
  obtain ⟨x6, x7⟩ := and2 hex
  rw [List.all_eq_true] at x1 x2 x3 x4 x5 x6 x7
  refine ⟨hK, fun x i hx => ?_, fun x c i hx => ?_, h3, fun c f h => h4 _ (fAt_mem h), fun y c h => h5 _ h, fun c m i n h => ?_, fun c i h => ?_, fun c c' b h => ?_, fun c h => ?_, fun c c' b h => ?_, fun c c' b h => ?_, fun c f h => ?_, fun c fl h => ?_⟩
  · obtain ⟨N, ps, f, fd, E, g1, g2, g3⟩ := h1 _ hx
    exact ⟨N, ps, f, fd, E, g1, g2, fun n ks its h => g3 _ h⟩
  · obtain ⟨n, N, ps, f, fd, E, M0, g1, g3⟩ := h2 _ hx
    exact ⟨n, N, ps, f, fd, E, M0, g1, fun n' ks its h => g3 _ h⟩
  · exact h6 _ (lookup_mem h)
  · have hm := lookup_mem h
    obtain ⟨N, ps, fd, E, e1, e2, e3⟩ := h7 _ hm
    obtain ⟨y1, y2⟩ := and2 (x1 _ hm)
    exact ⟨⟨N, ps, _, fd, E, e1, e2.at_, e2.fn, e3, y1⟩, y2⟩
  · have hm := lookup_mem h
    obtain ⟨y1, y2⟩ := and2 (x2 _ hm)
    exact ⟨h8 _ hm, y1, of_decide_eq_true y2⟩
  · have h : (t.dat.any fun d => d == c) = true := h
    rw [List.any_eq_true] at h
    obtain ⟨d, hd, e⟩ := h
    have e : d = c := beq_iff_eq.mp e
    subst e
    exact ⟨fun ty hty => of_decide_eq_true (List.all_eq_true.mp (x3 _ hd) ty hty)⟩
  · have hm := lookup_mem h
    obtain ⟨y1, y2⟩ := and2 (x4 _ hm)
    exact ⟨y1, of_decide_eq_true y2⟩
  · exact of_decide_eq_true (x5 _ (lookup_mem h))
  · have hm := fAt_mem h
    obtain ⟨y1, y2⟩ := and2 (x6 _ hm)
    exact ⟨xfB_ok y1, of_decide_eq_true y2⟩
  · have hm := lookup_mem h
    obtain ⟨y1, y2⟩ := and2 (x7 _ hm)
    obtain ⟨y2, y3⟩ := and2 y2
    obtain ⟨y3, y4⟩ := and2 y3
    obtain ⟨fd, ps, z1, z2⟩ := h9 _ hm
    refine ⟨_, fd, ps, oexB_ok y1, of_decide_eq_true y2, of_decide_eq_true y3, z1, z2, fun f hf => ?_⟩
    obtain ⟨g, hg, rfl⟩ := List.mem_map.mp hf
    exact of_decide_eq_true (List.all_eq_true.mp y4 g hg)
/-- a law walked, where an exception's way hangs on the world -/
theorem walk_w {l : PySem.W.OpenLaw} {n k : Nat} {q : Program} {loose : List Str} {XP : (Str → Option Value) → Heap → Prop} {YP : World → Heap → Prop} {d : DefRec} {x : Str}
    (hn : l.most = some n) (hn2 : n ≤ sizeLine) (hdf : d.params.defaults = []) (hr : Room k callerA)
    (F : ∀ (w : World) (mg : Str → Option Value) (fa : Addr) (h : Heap), YP w h → h.Ns mainGlobals mg → mg d.name = some (.ref fa) →
      ∃ (K : PySem.W.Frag) (fd : FuncData) (sp : Sp), K.In h ∧ (∀ (s : Shared) (u : Value), BindsTo s fd ⟨[u], []⟩ [(x, u)]) ∧
        (∀ (H : Hp) (a : Addr) (ns : List Int), ns.length ≤ n → Only H → SqL K H a (ns.map V.int) → sp [.ref a] H (fun v _ => v = .bl true) fun _ _ _ => False) ∧
        ∀ base : Heap, K.In base → base.Ns mainGlobals mg → FnOk l.prog w K mg base (L2.CX l.prog w) k fa fd [x] sp) :
    PySem.W.WalkO q loose XP YP l.row.toRowW d [] (fun f vs => PySem.call f vs) := by
  refine Att.attach_call hn hdf fun w s₀ s₁ mg mb fa o pm cd doc a vs ns G Y ho hd hcd hmg hobj hints hlen hg => ?_
  obtain ⟨K, fd, sp, KX, hb, hsp, hF⟩ := F w mg fa _ Y G.T.g hmg
  exact law_call KX G.T.g G.T.b G.T.builtins G.T.nolimit hg hobj hints (Nat.le_trans hlen hn2) hr hF hb (fun H hO hS => hsp H a ns hlen hO hS) fun H e s' ⟨_, _, _, _, _, _, _, _, _, _, _, _, h⟩ => h
end PV

/-! the program's defs as data (printed by genpg.py) -/
namespace Pg
open PySem PV
def N_BadCount : List Str := ["self", "what", "count"]
def N_BadPlace : List Str := ["self", "bar"]
def N_BadRow : List Str := ["self", "row"]
def N_BadSpan : List Str := ["self", "bar"]
def N_Bar : List Str := ["self", "a", "b", "c", "length", "least", "greatest"]
def N_Bar___eq__ : List Str := ["self", "other"]
def N_Bar_facts : List Str := ["self"]
def N_Beyond : List Str := ["self", "least", "greatest"]
def N_Book : List Str := ["self"]
def N_Book_back : List Str := ["self"]
def N_Book_broken : List Str := ["self", "row"]
def N_Book_claim : List Str := ["self", "name", "weights", "least", "row", "found"]
def N_Book_claims : List Str := ["self"]
def N_Book_drop : List Str := ["self", "name", "row"]
def N_Book_keep : List Str := ["self", "name", "web"]
def N_Book_many : List Str := ["self"]
def N_Book_names : List Str := ["self"]
def N_Book_put : List Str := ["self", "name", "web", "old", "row"]
def N_Book_put_by : List Str := ["self"]
def N_Book_span : List Str := ["self", "name", "bar", "least", "greatest"]
def N_Book_web : List Str := ["self", "name"]
def N_Desk : List Str := ["self"]
def N_Desk_tell : List Str := ["self", "row", "e"]
def N_Firm : List Str := ["self", "numbers"]
def N_Firm___eq__ : List Str := ["self", "other"]
def N_LooseAt : List Str := ["self", "places", "moved"]
def N_LooseAt___eq__ : List Str := ["self", "other"]
def N_LooseAt_facts : List Str := ["self"]
def N_NoBar : List Str := ["self", "bar"]
def N_NoName : List Str := ["self", "name"]
def N_NoRod : List Str := ["self", "rod"]
def N_NoWeb : List Str := ["self", "name"]
def N_NotHeld : List Str := ["self", "rod"]
def N_NotSquare : List Str := ["self", "bars", "wanted"]
def N_Places : List Str := ["self", "numbers", "parts", "common", "number"]
def N_Places___eq__ : List Str := ["self", "other"]
def N_Places_facts : List Str := ["self"]
def N_Reach : List Str := ["self", "least", "greatest", "low", "high"]
def N_Reach___eq__ : List Str := ["self", "other"]
def N_Reach_facts : List Str := ["self"]
def N_SameRod : List Str := ["self", "rod"]
def N_Stand : List Str := ["self", "tops", "bottom"]
def N_Stand___eq__ : List Str := ["self", "other"]
def N_Stand_facts : List Str := ["self"]
def N_Web : List Str := ["self", "rods", "held", "bars", "number", "bar"]
def N_Web___eq__ : List Str := ["self", "other"]
def N_Web_facts : List Str := ["self"]
def N_Web_hanging : List Str := ["self", "rod"]
def N_Web_held : List Str := ["self"]
def N_Widening : List Str := ["self", "least", "greatest", "is_least", "is_greatest"]
def N_Widening___eq__ : List Str := ["self", "other"]
def N_Widening_facts : List Str := ["self"]
def N_all_of : List Str := ["some", "found", "choices", "row", "one"]
def N_asked_bar : List Str := ["rods", "number", "bar", "some", "rod", "k"]
def N_asked_firm : List Str := ["web"]
def N_asked_held : List Str := ["rods", "held", "rod"]
def N_asked_names : List Str := ["texts", "text"]
def N_asked_number : List Str := ["web", "bar"]
def N_asked_places : List Str := ["web", "places", "number", "bar"]
def N_asked_sum : List Str := ["web", "weights"]
def N_asked_weights : List Str := ["web", "weights"]
def N_band : List Str := ["web", "weights", "bar", "low", "high", "ends", "row", "least", "greatest", "some", "here", "there", "end", "place"]
def N_beside : List Str := ["web", "bar", "some"]
def N_bottom_at : List Str := ["web", "numbers", "parts"]
def N_can_be : List Str := ["web", "places", "bar", "one"]
def N_conditions : List Str := ["web", "weights", "row", "low", "high", "found", "top", "bottom"]
def N_corner_numbers : List Str := ["web", "row"]
def N_corner_rows : List Str := ["web"]
def N_corners : List Str := ["web", "row"]
def N_count_in : List Str := ["text", "sign"]
def N_crossed : List Str := ["first", "last", "parts", "number_at", "numbers", "here", "k", "other", "there", "step", "found", "sign", "one"]
def N_determinant : List Str := ["web", "places"]
def N_drawn_in : List Str := ["web", "row", "many", "found", "bar", "one", "step"]
def N_firm : List Str := ["web", "inside", "numbers", "some", "places"]
def N_fraction_text : List Str := ["fraction", "top", "bottom"]
def N_hangs : List Str := ["web", "weights", "bar", "some", "one", "row", "other", "tops", "bottoms", "places"]
def N_is_below : List Str := ["one", "other"]
def N_is_below_at : List Str := ["web", "weights", "least"]
def N_is_firm : List Str := ["web", "paper", "inside"]
def N_is_inside : List Str := ["web", "places", "bar", "one"]
def N_is_loose : List Str := ["web", "paper", "inside"]
def N_is_move : List Str := ["web", "places", "moved", "every", "asked", "rod", "number"]
def N_is_name : List Str := ["text", "sign"]
def N_is_next : List Str := ["told", "some", "word", "numbers"]
def N_is_one_sign : List Str := ["numbers", "inside"]
def N_is_reach : List Str := ["web", "weights", "paper", "rows", "sums", "ends", "row", "one"]
def N_is_within : List Str := ["web", "places", "parts", "bar", "one"]
def N_led : List Str := ["web", "heights", "parts", "held", "rod", "bar"]
def N_loose_inside : List Str := ["web", "some", "ups", "downs", "many", "first", "last", "row", "number"]
def N_loose_within : List Str := ["web", "some", "ups", "downs", "row", "number"]
def N_lowest : List Str := ["top", "bottom", "common"]
def N_met : List Str := ["web", "weights", "goal", "found"]
def N_move : List Str := ["web", "places"]
def N_move_at : List Str := ["web", "numbers", "parts", "hanging", "found", "rod"]
def N_order : List Str := ["web", "found", "row", "sign", "tops", "one", "other", "top"]
def N_place_of : List Str := ["bar", "heights", "a", "b", "c", "top", "bottom"]
def N_places_text : List Str := ["places", "number"]
def N_reach : List Str := ["web", "weights", "found", "row", "one", "least", "greatest", "low", "high"]
def N_read_web : List Str := ["rows", "some", "held", "bars", "at", "row", "told", "word", "numbers", "a", "b", "c", "length", "least", "greatest"]
def N_row_in : List Str := ["row", "parts", "numbers", "word", "rest", "part"]
def N_rows_of_ends : List Str := ["web", "bar"]
def N_sentence : List Str := ["bar", "number", "parts", "whole"]
def N_sentences : List Str := ["web", "numbers", "parts", "bar", "number"]
def N_shared : List Str := ["one", "other"]
def N_shared_by : List Str := ["numbers", "found", "number"]
def N_signed_in : List Str := ["text", "found"]
def N_stand : List Str := ["web", "places", "bottom", "tops", "common", "top"]
def N_sum_at : List Str := ["web", "row", "weights"]
def N_table_of : List Str := ["web", "numbers", "parts", "asked", "rod"]
def N_top_at : List Str := ["web", "numbers", "parts", "weights", "held", "table", "last", "row", "asked", "rod", "number"]
def N_tops_at : List Str := ["web", "numbers", "parts", "found", "rod", "one"]
def N_turned_out : List Str := ["table", "rows", "k", "sign", "last", "some", "j", "row", "i"]
def N_web_rows : List Str := ["web", "held", "found", "rod", "bar"]
def N_widen : List Str := ["web", "bar", "one", "found", "row", "here", "there", "place"]
def N_with_place : List Str := ["row", "bar", "place"]
def N_with_span : List Str := ["web", "bar", "least", "greatest", "bars", "one"]
def b_Bar : Sms := (.cons (.self 0 "a" (.var 1)) (.cons (.self 0 "b" (.var 2)) (.cons (.self 0 "c" (.var 3)) (.cons (.self 0 "length" (.var 4)) (.cons (.self 0 "least" (.var 5)) (.cons (.self 0 "greatest" (.var 6)) .nil))))))
def b_Bar___eq__ : Sms := (.cons (.ret (.and (.ext (.isi 4) (.cons (.var 1) .nil)) (.cmp .eq (.ext (.meth 4 "facts") (.cons (.var 0) .nil)) (.ext (.meth 4 "facts") (.cons (.var 1) .nil))))) .nil)
def b_Bar_facts : Sms := (.cons (.ret (.tup (.cons (.fld "a" (.var 0)) (.cons (.fld "b" (.var 0)) (.cons (.fld "c" (.var 0)) (.cons (.fld "length" (.var 0)) (.cons (.fld "least" (.var 0)) (.cons (.fld "greatest" (.var 0)) .nil)))))))) .nil)
def b_Book : Sms := (.cons (.self 0 "shelf" .bad) (.cons (.self 0 "said" (.lst .nil)) (.cons (.self 0 "ahead" (.lst .nil)) .nil)))
def b_Book_back : Sms := (.cons (.ifs (.cmp .eq (.fld "ahead" (.var 0)) (.lst .nil)) (.cons .bad .nil) .nil) (.cons .bad .nil))
def b_Book_broken : Sms := (.cons (.ret (.comp (.var 1) (.name 1) (.seq (.fld "said" (.var 0))) (.yes (.call 29 [.p 0, .p 1, .p 2] (.cons (.idx (.fld "shelf" (.var 0)) (.idx (.var 1) (.int 0))) (.cons (.idx (.var 1) (.int 1)) (.cons (.idx (.var 1) (.int 2)) .nil))) .nil)) [1])) .nil)
def b_Book_claim : Sms := (.cons (.set 4 (.tup (.cons (.var 1) (.cons (.blt .tuple (.cons (.var 2) .nil)) (.cons (.blt .tuple (.cons (.var 3) .nil)) .nil))))) (.cons (.set 5 (.call 50 [.p 0, .p 1] (.cons (.ext (.meth 6 "web") (.cons (.var 0) (.cons (.var 1) .nil))) (.cons (.idx (.var 4) (.int 1)) .nil)) .nil)) (.cons (.ifs .bad (.cons (.ex (.ext (.meth 6 "put_by") (.cons (.var 0) .nil))) (.cons (.ex (.ext (.lm .append) (.cons (.fld "said" (.var 0)) (.cons (.var 4) .nil)))) .nil)) .nil) (.cons (.ret (.not (.call 28 [.p 0, .p 1] (.cons (.fld "least" (.var 5)) (.cons (.idx (.var 4) (.int 2)) .nil)) .nil))) .nil))))
def b_Book_claims : Sms := (.cons (.ret (.blt .list (.cons (.fld "said" (.var 0)) .nil))) .nil)
def b_Book_drop : Sms := (.cons (.ex (.ext (.meth 6 "web") (.cons (.var 0) (.cons (.var 1) .nil)))) (.cons (.ex (.ext (.meth 6 "put_by") (.cons (.var 0) .nil))) (.cons (.ex (.ext (.lm .popAt) (.cons (.fld "shelf" (.var 0)) (.cons (.var 1) .nil)))) (.cons .bad .nil))))
def b_Book_keep : Sms := (.cons (.ex (.call 6 [.p 0] (.cons (.lst (.cons (.var 1) .nil)) .nil) .nil)) (.cons (.ifs (.and .bad (.cmp .ge (.blt .len (.cons (.fld "shelf" (.var 0)) .nil)) .bad)) (.cons (.rz 0 (.cons (.str "webs") (.cons (.op .add .bad (.int 1)) .nil))) .nil) .nil) (.cons (.ex (.ext (.meth 6 "put") (.cons (.var 0) (.cons (.var 1) (.cons (.var 2) .nil))))) .nil)))
def b_Book_many : Sms := (.cons (.ret (.blt .len (.cons (.fld "ahead" (.var 0)) .nil))) .nil)
def b_Book_names : Sms := (.cons (.ret .bad) .nil)
def b_Book_put : Sms := (.cons (.set 3 .bad) (.cons (.ifs (.and .bad (.cmp .eq (.var 3) (.var 2))) (.cons .retN .nil) .nil) (.cons (.ex (.ext (.meth 6 "put_by") (.cons (.var 0) .nil))) (.cons (.ifs (.and .bad (.cmp .ne (.fld "rods" (.var 3)) (.fld "rods" (.var 2)))) (.cons .bad .nil) .nil) (.cons (.setIx (.fld "shelf" (.var 0)) (.var 1) (.var 2)) .nil)))))
def b_Book_put_by : Sms := (.cons (.ex (.ext (.lm .append) (.cons (.fld "ahead" (.var 0)) (.cons (.tup (.cons .bad (.cons (.blt .list (.cons (.fld "said" (.var 0)) .nil)) .nil))) .nil)))) .nil)
def b_Book_span : Sms := (.cons (.ex (.ext (.meth 6 "put") (.cons (.var 0) (.cons (.var 1) (.cons (.call 74 [.p 0, .p 1, .p 2, .p 3] (.cons (.ext (.meth 6 "web") (.cons (.var 0) (.cons (.var 1) .nil))) (.cons (.var 2) (.cons (.var 3) (.cons (.var 4) .nil)))) .nil) .nil))))) .nil)
def b_Book_web : Sms := (.cons (.ifs .bad (.cons (.rz 16 (.cons (.var 1) .nil)) .nil) .nil) (.cons (.ret (.idx (.fld "shelf" (.var 0)) (.var 1))) .nil))
def b_Desk : Sms := (.cons (.self 0 "kept" (.mk 6 6 true [] .nil .nil)) .nil)
def b_Desk_tell : Sms := (.cons .bad .nil)
def b_Firm : Sms := (.cons (.self 0 "numbers" (.blt .tuple (.cons (.var 1) .nil))) .nil)
def b_Firm___eq__ : Sms := (.cons (.ret (.and (.ext (.isi 8) (.cons (.var 1) .nil)) (.cmp .eq (.fld "numbers" (.var 0)) (.fld "numbers" (.var 1))))) .nil)
def b_LooseAt : Sms := (.cons (.self 0 "places" (.var 1)) (.cons (.self 0 "moved" (.blt .tuple (.cons (.var 2) .nil))) .nil))
def b_LooseAt___eq__ : Sms := (.cons (.ret (.and (.ext (.isi 11) (.cons (.var 1) .nil)) (.cmp .eq (.ext (.meth 11 "facts") (.cons (.var 0) .nil)) (.ext (.meth 11 "facts") (.cons (.var 1) .nil))))) .nil)
def b_LooseAt_facts : Sms := (.cons (.ret (.tup (.cons (.fld "places" (.var 0)) (.cons (.fld "moved" (.var 0)) .nil)))) .nil)
def b_Places : Sms := (.cons (.ifs (.cmp .lt (.var 2) (.int 1)) (.cons (.rz 0 (.cons (.str "parts") (.cons (.var 2) .nil))) .nil) .nil) (.cons (.set 3 (.call 58 [.p 0] (.cons (.op .add (.blt .list (.cons (.var 1) .nil)) (.lst (.cons (.var 2) .nil))) .nil) .nil)) (.cons (.self 0 "numbers" (.blt .tuple (.cons (.comp (.op .fdiv (.var 4) (.var 3)) (.name 4) (.seq (.var 1)) .no [4]) .nil))) (.cons (.self 0 "parts" (.op .fdiv (.var 2) (.var 3))) .nil))))
def b_Places___eq__ : Sms := (.cons (.ret (.and (.ext (.isi 20) (.cons (.var 1) .nil)) (.cmp .eq (.ext (.meth 20 "facts") (.cons (.var 0) .nil)) (.ext (.meth 20 "facts") (.cons (.var 1) .nil))))) .nil)
def b_Places_facts : Sms := (.cons (.ret (.tup (.cons (.fld "numbers" (.var 0)) (.cons (.fld "parts" (.var 0)) .nil)))) .nil)
def b_Reach : Sms := (.cons (.self 0 "least" (.blt .tuple (.cons (.var 1) .nil))) (.cons (.self 0 "greatest" (.blt .tuple (.cons (.var 2) .nil))) (.cons (.self 0 "low" (.var 3)) (.cons (.self 0 "high" (.var 4)) .nil))))
def b_Reach___eq__ : Sms := (.cons (.ret (.and (.ext (.isi 21) (.cons (.var 1) .nil)) (.cmp .eq (.ext (.meth 21 "facts") (.cons (.var 0) .nil)) (.ext (.meth 21 "facts") (.cons (.var 1) .nil))))) .nil)
def b_Reach_facts : Sms := (.cons (.ret (.tup (.cons (.fld "least" (.var 0)) (.cons (.fld "greatest" (.var 0)) (.cons (.fld "low" (.var 0)) (.cons (.fld "high" (.var 0)) .nil)))))) .nil)
def b_Stand : Sms := (.cons (.self 0 "tops" (.blt .tuple (.cons (.var 1) .nil))) (.cons (.self 0 "bottom" (.var 2)) .nil))
def b_Stand___eq__ : Sms := (.cons (.ret (.and (.ext (.isi 23) (.cons (.var 1) .nil)) (.cmp .eq (.ext (.meth 23 "facts") (.cons (.var 0) .nil)) (.ext (.meth 23 "facts") (.cons (.var 1) .nil))))) .nil)
def b_Stand_facts : Sms := (.cons (.ret (.tup (.cons (.fld "tops" (.var 0)) (.cons (.fld "bottom" (.var 0)) .nil)))) .nil)
def b_Web : Sms := (.cons (.self 0 "rods" (.var 1)) (.cons (.self 0 "heights" .bad) (.cons (.self 0 "bars" (.blt .tuple (.cons (.var 3) .nil))) (.cons (.ifs (.not .bad) (.cons (.rz 0 (.cons (.str "rods") (.cons (.var 1) .nil))) .nil) .nil) (.cons (.ex (.call 5 [.p 0, .p 1] (.cons (.var 1) (.cons (.fld "heights" (.var 0)) .nil)) .nil)) (.cons (.ifs (.not .bad) (.cons (.rz 0 (.cons (.str "bars") (.cons (.blt .len (.cons (.fld "bars" (.var 0)) .nil)) .nil))) .nil) .nil) (.cons (.ifs (.cmp .ne (.blt .len (.cons (.fld "bars" (.var 0)) .nil)) (.op .sub (.var 1) (.blt .len (.cons (.fld "heights" (.var 0)) .nil)))) (.cons (.rz 19 (.cons (.blt .len (.cons (.fld "bars" (.var 0)) .nil)) (.cons (.op .sub (.var 1) (.blt .len (.cons (.fld "heights" (.var 0)) .nil))) .nil))) .nil) .nil) (.cons (.fr (.tup (.cons (.name 4) (.cons (.name 5) .nil))) (.seq .bad) (.cons (.ex (.call 2 [.p 0, .p 1, .p 2] (.cons (.var 1) (.cons (.var 4) (.cons (.var 5) .nil))) .nil)) .nil)) .nil))))))))
def b_Web___eq__ : Sms := (.cons (.ret (.and (.ext (.isi 24) (.cons (.var 1) .nil)) (.cmp .eq (.ext (.meth 24 "facts") (.cons (.var 0) .nil)) (.ext (.meth 24 "facts") (.cons (.var 1) .nil))))) .nil)
def b_Web_facts : Sms := (.cons (.ret (.tup (.cons (.fld "rods" (.var 0)) (.cons (.fld "heights" (.var 0)) (.cons (.fld "bars" (.var 0)) .nil))))) .nil)
def b_Web_hanging : Sms := (.cons (.ret (.comp (.var 1) (.name 1) (.rng1 (.fld "rods" (.var 0))) (.yes .bad) [1])) .nil)
def b_Web_held : Sms := (.cons (.ret .bad) .nil)
def b_Widening : Sms := (.cons (.self 0 "least" (.blt .tuple (.cons (.var 1) .nil))) (.cons (.self 0 "greatest" (.blt .tuple (.cons (.var 2) .nil))) (.cons (.self 0 "is_least" (.var 3)) (.cons (.self 0 "is_greatest" (.var 4)) .nil))))
def b_Widening___eq__ : Sms := (.cons (.ret (.and (.ext (.isi 25) (.cons (.var 1) .nil)) (.cmp .eq (.ext (.meth 25 "facts") (.cons (.var 0) .nil)) (.ext (.meth 25 "facts") (.cons (.var 1) .nil))))) .nil)
def b_Widening_facts : Sms := (.cons (.ret (.tup (.cons (.fld "least" (.var 0)) (.cons (.fld "greatest" (.var 0)) (.cons (.fld "is_least" (.var 0)) (.cons (.fld "is_greatest" (.var 0)) .nil)))))) .nil)
def b_all_of : Sms := (.cons (.set 1 (.lst (.cons (.lst .nil) .nil))) (.cons (.fr (.name 2) (.seq (.var 0)) (.cons .bad .nil)) (.cons (.ret (.var 1)) .nil)))
def b_asked_bar : Sms := (.cons (.set 3 (.lst (.cons (.fld "a" (.var 2)) (.cons (.fld "b" (.var 2)) (.cons (.fld "c" (.var 2)) .nil))))) (.cons (.fr (.name 4) (.seq (.var 3)) (.cons (.ifs (.not .bad) (.cons (.rz 15 (.cons (.var 4) .nil)) .nil) .nil) .nil)) (.cons (.fr (.name 5) (.seq (.tup (.cons (.int 1) (.cons (.int 2) .nil)))) (.cons (.ifs .bad (.cons (.rz 22 (.cons (.idx (.var 3) (.var 5)) .nil)) .nil) .nil) .nil)) (.cons (.ifs (.not .bad) (.cons (.rz 0 (.cons (.str "length") (.cons (.fld "length" (.var 2)) .nil))) .nil) .nil) (.cons (.ifs (.not .bad) (.cons (.rz 3 (.cons (.var 1) .nil)) .nil) .nil) .nil)))))
def b_asked_firm : Sms := (.cons (.ifs (.not (.call 36 [.p 0, .p 1] (.cons (.call 18 [.p 0] (.cons (.var 0) .nil) .nil) (.cons (.bl false) .nil)) .nil)) (.cons .bad .nil) .nil) .nil)
def b_asked_held : Sms := (.cons (.fr (.name 2) (.seq .bad) (.cons (.ifs (.not .bad) (.cons (.rz 15 (.cons (.var 2) .nil)) .nil) .nil) .nil)) (.cons (.fr (.name 2) (.seq .bad) (.cons (.ifs (.not .bad) (.cons (.rz 0 (.cons (.str "height") (.cons (.idx (.var 1) (.var 2)) .nil))) .nil) .nil) .nil)) (.cons (.ifs (.cmp .eq (.blt .len (.cons (.var 1) .nil)) (.int 0)) (.cons (.rz 0 (.cons (.str "held") (.cons (.int 0) .nil))) .nil) .nil) .nil)))
def b_asked_names : Sms := (.cons (.fr (.name 1) (.seq (.var 0)) (.cons (.ifs (.not (.call 34 [.p 0] (.cons (.var 1) .nil) .nil)) (.cons (.rz 14 (.cons (.var 1) .nil)) .nil) .nil) .nil)) .nil)
def b_asked_number : Sms := (.cons (.ifs (.not .bad) (.cons (.rz 13 (.cons (.var 1) .nil)) .nil) .nil) .nil)
def b_asked_places : Sms := (.cons (.ifs (.cmp .ne (.blt .len (.cons (.fld "numbers" (.var 1)) .nil)) (.blt .len (.cons (.fld "bars" (.var 0)) .nil))) (.cons (.rz 0 (.cons (.str "places") (.cons (.blt .len (.cons (.fld "numbers" (.var 1)) .nil)) .nil))) .nil) .nil) (.cons (.fr (.tup (.cons (.name 2) (.cons (.name 3) .nil))) (.seq .bad) (.cons (.ifs (.not .bad) (.cons (.rz 1 (.cons (.var 2) .nil)) .nil) .nil) .nil)) .nil))
def b_asked_sum : Sms := (.cons (.ex (.call 11 [.p 0, .p 1] (.cons (.var 0) (.cons (.var 1) .nil)) .nil)) (.cons (.ex (.call 4 [.p 0] (.cons (.var 0) .nil) .nil)) .nil))
def b_asked_weights : Sms := (.cons (.ifs (.cmp .ne (.blt .len (.cons (.var 1) .nil)) (.fld "rods" (.var 0))) (.cons (.rz 0 (.cons (.str "weights") (.cons (.blt .len (.cons (.var 1) .nil)) .nil))) .nil) .nil) .nil)
def b_band : Sms := (.cons (.ex (.call 7 [.p 0, .p 1] (.cons (.var 0) (.cons (.var 2) .nil)) .nil)) (.cons (.ex (.call 10 [.p 0, .p 1] (.cons (.var 0) (.cons (.var 1) .nil)) .nil)) (.cons (.set 5 (.tup (.cons (.fld "least" (.idx (.fld "bars" (.var 0)) (.var 2))) (.cons (.fld "greatest" (.idx (.fld "bars" (.var 0)) (.var 2))) .nil)))) (.cons (.par 7 8 (.tup (.cons (.idx (.var 5) (.int 0)) (.cons (.int 1) .nil))) (.tup (.cons (.idx (.var 5) (.int 1)) (.cons (.int 1) .nil)))) (.cons (.fr (.name 6) (.seq (.call 13 [.p 0, .p 1] (.cons (.var 0) (.cons (.var 2) .nil)) .nil)) (.cons (.setc 9 (.call 17 [.p 0, .p 1, .p 2, .p 3, .p 4] (.cons (.var 0) (.cons (.var 1) (.cons (.call 73 [.p 0, .p 1, .p 2] (.cons (.var 6) (.cons (.var 2) (.cons (.var 12) .nil))) .nil) (.cons (.var 3) (.cons (.var 4) .nil))))) .nil) (.name 12) (.seq (.var 5)) .no [12]) (.cons (.fr (.tup (.cons (.name 10) (.cons (.name 11) .nil))) (.seq .bad) (.cons (.ifs (.and (.cmp .lt (.var 10) (.int 0)) (.cmp .lt (.var 11) (.int 0))) (.cons (.ret .non) .nil) .nil) (.cons (.ifs (.or (.cmp .lt (.var 10) (.int 0)) (.cmp .lt (.var 11) (.int 0))) (.cons (.set 13 (.call 43 [.p 0, .p 1] (.cons (.op .add (.op .mul (.idx (.var 5) (.int 0)) (.op .sub (.var 10) (.var 11))) (.op .mul (.op .sub (.idx (.var 5) (.int 1)) (.idx (.var 5) (.int 0))) (.var 10))) (.cons (.op .sub (.var 10) (.var 11)) .nil)) .nil)) (.cons (.ifs (.and (.cmp .lt (.var 10) (.int 0)) (.call 28 [.p 0, .p 1] (.cons (.var 7) (.cons (.var 13) .nil)) .nil)) (.cons (.set 7 (.var 13)) .nil) .nil) (.cons (.ifs (.and (.cmp .lt (.var 11) (.int 0)) (.call 28 [.p 0, .p 1] (.cons (.var 13) (.cons (.var 8) .nil)) .nil)) (.cons (.set 8 (.var 13)) .nil) .nil) .nil))) .nil) .nil))) .nil))) (.cons (.ret (.ite (.call 28 [.p 0, .p 1] (.cons (.var 8) (.cons (.var 7) .nil)) .nil) .non (.tup (.cons (.var 7) (.cons (.var 8) .nil))))) .nil))))))
def b_beside : Sms := (.cons (.set 2 (.call 54 [.p 0] (.cons (.var 0) .nil) .nil)) (.cons (.setIx (.var 2) (.var 1) (.lst (.cons (.int 0) .nil))) (.cons (.ret (.call 0 [.p 0] (.cons (.var 2) .nil) .nil)) .nil)))
def b_bottom_at : Sms := (.cons (.ret (.call 68 [.p 0] (.cons (.call 65 [.p 0, .p 1, .p 2] (.cons (.var 0) (.cons (.var 1) (.cons (.var 2) .nil))) .nil) .nil) .nil)) .nil)
def b_can_be : Sms := (.cons (.ifs (.cmp .ne (.blt .len (.cons (.fld "numbers" (.var 1)) .nil)) (.blt .len (.cons (.fld "bars" (.var 0)) .nil))) (.cons (.ret (.bl false)) .nil) .nil) (.cons (.ret .bad) .nil))
def b_conditions : Sms := (.cons (.par 6 7 (.call 66 [.p 0, .p 1, .p 2, .p 3] (.cons (.var 0) (.cons (.var 2) (.cons (.int 1) (.cons (.var 1) .nil)))) .nil) (.call 14 [.p 0, .p 1, .p 2] (.cons (.var 0) (.cons (.var 2) (.cons (.int 1) .nil))) .nil)) (.cons (.ifs (.cmp .lt (.var 7) (.int 0)) (.cons (.par 6 7 (.neg (.var 6)) (.neg (.var 7))) .nil) .nil) (.cons (.set 5 (.newl .nil)) (.cons (.ifs .bad (.cons (.ex (.ext (.lm .append) (.cons (.var 5) (.cons (.op .sub (.op .mul (.var 6) (.idx (.var 3) (.int 1))) (.op .mul (.idx (.var 3) (.int 0)) (.var 7))) .nil)))) .nil) .nil) (.cons (.ifs .bad (.cons (.ex (.ext (.lm .append) (.cons (.var 5) (.cons (.op .sub (.op .mul (.idx (.var 4) (.int 0)) (.var 7)) (.op .mul (.var 6) (.idx (.var 4) (.int 1)))) .nil)))) .nil) .nil) (.cons (.ret (.var 5)) .nil))))))
def b_corner_numbers : Sms := (.cons (.ret (.comp (.call 14 [.p 0, .p 1, .p 2] (.cons (.var 0) (.cons (.var 1) (.cons (.int 1) .nil))) .nil) (.name 1) (.seq (.call 19 [.p 0] (.cons (.var 0) .nil) .nil)) .no [1])) .nil)
def b_corner_rows : Sms := (.cons (.ret (.call 0 [.p 0] (.cons (.call 54 [.p 0] (.cons (.var 0) .nil) .nil) .nil) .nil)) .nil)
def b_corners : Sms := (.cons (.ret (.comp (.mk 20 20 false [.p 0, .p 1] (.cons (.var 1) (.cons (.int 1) .nil)) .nil) (.name 1) (.seq (.call 19 [.p 0] (.cons (.var 0) .nil) .nil)) .no [1])) .nil)
def b_count_in : Sms := (.cons (.ifs (.or (.not .bad) (.not .bad)) (.cons (.ret .non) .nil) .nil) (.cons (.ifs (.and (.cmp .eq (.idx (.var 0) (.int 0)) (.str "0")) (.cmp .ne (.var 0) (.str "0"))) (.cons (.ret .non) .nil) .nil) (.cons (.ret (.blt .int (.cons (.var 0) .nil))) .nil)))
def b_crossed : Sms := (.cons (.set 4 (.blt .list (.cons (.var 0) .nil))) (.cons (.set 5 .bad) (.cons (.fr (.name 6) (.rng1 (.blt .len (.cons (.var 4) .nil))) (.cons (.set 7 (.op .add (.op .add (.slc (.var 4) .no (.yes (.var 6))) (.lst (.cons (.idx (.var 1) (.var 6)) .nil))) (.slc (.var 4) (.yes (.op .add (.var 6) (.int 1))) .no))) (.cons (.set 8 .bad) (.cons (.ifs (.and (.cmp .le (.op .mul (.var 5) (.var 8)) (.int 0)) (.cmp .ne (.var 5) (.var 8))) (.cons (.set 9 (.op .sub (.var 5) (.var 8))) (.cons (.setc 10 (.op .mul (.var 12) (.var 9)) (.name 12) (.seq (.var 4)) .no [12]) (.cons (.setIx (.var 10) (.var 6) (.op .add (.op .mul (.idx (.var 4) (.var 6)) (.var 9)) (.op .mul (.op .sub (.idx (.var 1) (.var 6)) (.idx (.var 4) (.var 6))) (.var 5)))) (.cons (.set 11 (.ite (.cmp .gt (.var 9) (.int 0)) (.int 1) (.neg (.int 1)))) (.cons (.ret (.mk 20 20 false [.p 0, .p 1] (.cons (.comp (.op .mul (.var 12) (.var 11)) (.name 12) (.seq (.var 10)) .no [12]) (.cons (.op .mul (.op .mul (.var 2) (.var 9)) (.var 11)) .nil)) .nil)) .nil))))) .nil) (.cons (.par 4 5 (.var 7) (.var 8)) .nil))))) (.cons (.ret (.mk 20 20 false [.p 0, .p 1] (.cons (.var 4) (.cons (.var 2) .nil)) .nil)) .nil))))
def b_determinant : Sms := (.cons (.ex (.call 8 [.p 0, .p 1] (.cons (.var 0) (.cons (.var 1) .nil)) .nil)) (.cons (.ret (.call 14 [.p 0, .p 1, .p 2] (.cons (.var 0) (.cons (.fld "numbers" (.var 1)) (.cons (.fld "parts" (.var 1)) .nil))) .nil)) .nil))
def b_drawn_in : Sms := (.cons (.set 3 (.newl .nil)) (.cons (.fr (.tup (.cons (.name 4) (.cons (.name 5) .nil))) (.seq .bad) (.cons (.set 6 (.op .sub (.fld "greatest" (.var 4)) (.fld "least" (.var 4)))) (.cons (.ex (.ext (.lm .append) (.cons (.var 3) (.cons (.op .add (.op .mul (.var 5) (.var 2)) (.idx (.lst (.cons (.var 6) (.cons (.neg (.var 6)) .nil))) (.blt .int (.cons (.cmp .eq (.var 5) (.fld "greatest" (.var 4))) .nil)))) .nil)))) .nil))) (.cons (.ret (.var 3)) .nil)))
def b_firm : Sms := (.cons (.set 2 (.call 18 [.p 0] (.cons (.var 0) .nil) .nil)) (.cons (.ifs (.call 36 [.p 0, .p 1] (.cons (.var 2) (.cons (.var 1) .nil)) .nil) (.cons (.ret (.mk 8 8 false [.p 0] (.cons (.var 2) .nil) .nil)) .nil) .nil) (.cons (.set 3 (.blt .list (.cons .bad .nil))) (.cons (.set 4 (.ite (.var 1) (.call 41 [.p 0, .p 1] (.cons (.var 0) (.cons (.var 3) .nil)) .nil) (.call 42 [.p 0, .p 1] (.cons (.var 0) (.cons (.var 3) .nil)) .nil))) (.cons (.ret (.mk 11 11 false [.p 0, .p 1] (.cons (.var 4) (.cons (.call 46 [.p 0, .p 1, .p 2] (.cons (.var 0) (.cons (.fld "numbers" (.var 4)) (.cons (.fld "parts" (.var 4)) .nil))) .nil) .nil)) .nil)) .nil)))))
def b_fraction_text : Sms := (.cons (.asg (.tup (.cons (.name 1) (.cons (.name 2) .nil))) (.var 0)) (.cons (.ret (.ite (.cmp .eq (.var 2) (.int 1)) (.blt .str (.cons (.var 1) .nil)) (.joined (.cons (.fmt (.var 1)) (.cons (.str "/") (.cons (.fmt (.var 2)) .nil)))))) .nil))
def b_hangs : Sms := (.cons (.ex (.call 7 [.p 0, .p 1] (.cons (.var 0) (.cons (.var 2) .nil)) .nil)) (.cons (.ifs (.cmp .gt (.blt .len (.cons (.fld "bars" (.var 0)) .nil)) .bad) (.cons (.rz 0 (.cons (.str "hangs") (.cons (.blt .len (.cons (.fld "bars" (.var 0)) .nil)) .nil))) .nil) .nil) (.cons (.ex (.call 10 [.p 0, .p 1] (.cons (.var 0) (.cons (.var 1) .nil)) .nil)) (.cons (.set 3 (.newl .nil)) (.cons (.fr (.name 4) (.seq (.fld "bars" (.var 0))) (.cons (.ex (.ext (.lm .append) (.cons (.var 3) (.cons (.slc (.lst (.cons (.op .mul (.int 2) (.fld "least" (.var 4))) (.cons (.op .add (.fld "least" (.var 4)) (.fld "greatest" (.var 4))) (.cons (.op .mul (.int 2) (.fld "greatest" (.var 4))) .nil)))) .no (.yes (.op .add (.int 1) (.op .mul (.int 2) (.blt .int (.cons (.cmp .lt (.fld "least" (.var 4)) (.fld "greatest" (.var 4))) .nil)))))) .nil)))) .nil)) (.cons (.setIx (.var 3) (.var 2) (.lst (.cons (.op .mul (.int 2) (.fld "least" (.idx (.fld "bars" (.var 0)) (.var 2)))) .nil))) (.cons (.fr (.name 5) (.seq (.call 0 [.p 0] (.cons (.var 3) .nil) .nil)) (.cons (.set 6 (.call 73 [.p 0, .p 1, .p 2] (.cons (.var 5) (.cons (.var 2) (.cons (.op .mul (.int 2) (.fld "greatest" (.idx (.fld "bars" (.var 0)) (.var 2)))) .nil))) .nil)) (.cons (.setc 7 (.call 66 [.p 0, .p 1, .p 2, .p 3] (.cons (.var 0) (.cons (.var 9) (.cons (.int 2) (.cons (.var 1) .nil)))) .nil) (.name 9) (.seq (.tup (.cons (.var 5) (.cons (.var 6) .nil)))) .no [9]) (.cons (.setc 8 (.call 14 [.p 0, .p 1, .p 2] (.cons (.var 0) (.cons (.var 9) (.cons (.int 2) .nil))) .nil) (.name 9) (.seq (.tup (.cons (.var 5) (.cons (.var 6) .nil)))) .no [9]) (.cons (.ifs (.cmp .ne (.op .mul (.idx (.var 7) (.int 0)) (.idx (.var 8) (.int 1))) (.op .mul (.idx (.var 7) (.int 1)) (.idx (.var 8) (.int 0)))) (.cons (.ret (.tup (.cons (.mk 20 20 false [.p 0, .p 1] (.cons (.var 5) (.cons (.int 2) .nil)) .nil) (.cons (.mk 20 20 false [.p 0, .p 1] (.cons (.var 6) (.cons (.int 2) .nil)) .nil) .nil)))) .nil) .nil) .nil))))) (.cons (.ret .non) .nil))))))))
def b_is_below : Sms := (.cons (.ret (.cmp .lt (.op .mul (.idx (.var 0) (.int 0)) (.idx (.var 1) (.int 1))) (.op .mul (.idx (.var 1) (.int 0)) (.idx (.var 0) (.int 1))))) .nil)
def b_is_below_at : Sms := (.cons .bad .nil)
def b_is_firm : Sms := (.cons (.ifs (.or (.not (.ext (.isi 8) (.cons (.var 1) .nil))) (.cmp .ne (.fld "numbers" (.var 1)) (.blt .tuple (.cons (.call 18 [.p 0] (.cons (.var 0) .nil) .nil) .nil)))) (.cons (.ret (.bl false)) .nil) .nil) (.cons (.ret (.call 36 [.p 0, .p 1] (.cons (.fld "numbers" (.var 1)) (.cons (.var 2) .nil)) .nil)) .nil))
def b_is_inside : Sms := (.cons (.ifs (.not (.call 38 [.p 0, .p 1] (.cons (.var 0) (.cons (.var 1) .nil)) .nil)) (.cons (.ret (.bl false)) .nil) .nil) (.cons (.fr (.tup (.cons (.name 2) (.cons (.name 3) .nil))) (.seq .bad) (.cons (.ifs (.and (.cmp .lt (.fld "least" (.var 2)) (.fld "greatest" (.var 2))) .bad) (.cons (.ret (.bl false)) .nil) .nil) .nil)) (.cons (.ret (.bl true)) .nil)))
def b_is_loose : Sms := (.cons (.ifs (.or (.not (.ext (.isi 11) (.cons (.var 1) .nil))) (.not (.call 15 [.p 0, .p 1] (.cons (.var 0) (.cons (.fld "places" (.var 1)) .nil)) .nil))) (.cons (.ret (.bl false)) .nil) .nil) (.cons (.ifs (.or (.not (.call 38 [.p 0, .p 1] (.cons (.var 0) (.cons (.fld "places" (.var 1)) .nil)) .nil)) (.and (.var 2) (.not (.call 31 [.p 0, .p 1] (.cons (.var 0) (.cons (.fld "places" (.var 1)) .nil)) .nil)))) (.cons (.ret (.bl false)) .nil) .nil) (.cons (.ret (.call 33 [.p 0, .p 1, .p 2] (.cons (.var 0) (.cons (.fld "places" (.var 1)) (.cons (.fld "moved" (.var 1)) .nil))) .nil)) .nil)))
def b_is_move : Sms := (.cons (.ifs (.or (.cmp .ne (.blt .len (.cons (.var 2) .nil)) (.fld "rods" (.var 0))) (.cmp .ne (.call 58 [.p 0] (.cons (.var 2) .nil) .nil) (.int 1))) (.cons (.ret (.bl false)) .nil) .nil) (.cons (.ifs (.not .bad) (.cons (.ret (.bl false)) .nil) .nil) (.cons (.set 3 (.call 56 [.p 0, .p 1, .p 2] (.cons (.var 0) (.cons (.fld "numbers" (.var 1)) (.cons (.fld "parts" (.var 1)) .nil))) .nil)) (.cons (.ret .bad) .nil))))
def b_is_name : Sms := (.cons (.ifs (.or (.not .bad) .bad) (.cons (.ret (.bl false)) .nil) .nil) (.cons (.ret .bad) .nil))
def b_is_next : Sms := (.cons (.ifs (.or (.cmp .eq (.var 1) (.lst .nil)) (.cmp .eq (.idx (.var 0) (.int 0)) (.str "rods"))) (.cons (.ret (.and (.cmp .eq (.var 1) (.lst .nil)) (.cmp .eq (.idx (.var 0) (.int 0)) (.str "rods")))) .nil) .nil) (.cons (.asg (.tup (.cons (.name 2) (.cons (.name 3) .nil))) (.idx (.var 1) (.neg (.int 1)))) (.cons (.ret (.or (.cmp .eq (.idx (.var 0) (.int 0)) (.str "bar")) (.or (.cmp .eq (.var 2) (.str "rods")) (.and (.cmp .eq (.var 2) (.str "held")) (.cmp .lt (.idx (.var 3) (.int 0)) (.idx (.idx (.var 0) (.int 1)) (.int 0))))))) .nil)))
def b_is_one_sign : Sms := (.cons (.ifs (.var 1) (.cons (.ret (.and (.or (.cmp .ge .bad (.int 0)) (.cmp .le .bad (.int 0))) (.cmp .ne (.tup (.cons .bad (.cons .bad .nil))) (.tup (.cons (.int 0) (.cons (.int 0) .nil)))))) .nil) .nil) (.cons (.ret (.or (.cmp .gt .bad (.int 0)) (.cmp .lt .bad (.int 0)))) .nil))
def b_is_reach : Sms := (.cons (.ex (.call 10 [.p 0, .p 1] (.cons (.var 0) (.cons (.var 1) .nil)) .nil)) (.cons (.set 3 (.call 19 [.p 0] (.cons (.var 0) .nil) .nil)) (.cons (.ifs (.or (.not (.ext (.isi 21) (.cons (.var 2) .nil))) (.or (.cmp .ne (.fld "parts" (.fld "low" (.var 2))) (.int 1)) (.cmp .ne (.fld "parts" (.fld "high" (.var 2))) (.int 1)))) (.cons (.ret (.bl false)) .nil) .nil) (.cons (.ifs (.or .bad .bad) (.cons (.ret (.bl false)) .nil) .nil) (.cons (.setc 4 (.call 64 [.p 0, .p 1, .p 2] (.cons (.var 0) (.cons (.var 6) (.cons (.var 1) .nil))) .nil) (.name 6) (.seq (.var 3)) .no [6]) (.cons (.set 5 (.tup (.cons (.idx (.var 4) .bad) (.cons (.idx (.var 4) .bad) .nil)))) (.cons (.ifs (.cmp .ne (.var 5) (.tup (.cons (.fld "least" (.var 2)) (.cons (.fld "greatest" (.var 2)) .nil)))) (.cons (.ret (.bl false)) .nil) .nil) (.cons (.ret (.not .bad)) .nil))))))))
def b_is_within : Sms := (.cons (.ex (.call 8 [.p 0, .p 1] (.cons (.var 0) (.cons (.var 1) .nil)) .nil)) (.cons (.set 2 (.fld "parts" (.var 1))) (.cons (.ret .bad) .nil)))
def b_led : Sms := (.cons (.ifs (.cmp .lt (.var 2) (.int 1)) (.cons (.rz 0 (.cons (.str "parts") (.cons (.var 2) .nil))) .nil) .nil) (.cons (.ifs (.cmp .ne (.blt .len (.cons (.var 1) .nil)) (.fld "rods" (.var 0))) (.cons (.rz 0 (.cons (.str "heights") (.cons (.blt .len (.cons (.var 1) .nil)) .nil))) .nil) .nil) (.cons (.set 3 (.ext (.meth 24 "held") (.cons (.var 0) .nil))) (.cons (.fr (.name 4) (.seq .bad) (.cons (.ifs (.cmp .ne (.idx (.var 1) (.var 4)) (.op .mul (.idx (.var 3) (.var 4)) (.var 2))) (.cons (.rz 17 (.cons (.var 4) .nil)) .nil) .nil) .nil)) (.cons (.ret (.comp (.call 48 [.p 0, .p 1] (.cons (.var 5) (.cons (.var 1) .nil)) .nil) (.name 5) (.seq (.fld "bars" (.var 0))) .no [5])) .nil)))))
def b_loose_inside : Sms := (.cons (.setc 2 (.var 7) (.tup (.cons (.name 7) (.cons (.name 8) .nil))) (.seq (.var 1)) (.yes (.cmp .gt (.var 8) (.int 0))) [7, 8]) (.cons (.setc 3 (.var 7) (.tup (.cons (.name 7) (.cons (.name 8) .nil))) (.seq (.var 1)) (.yes (.cmp .lt (.var 8) (.int 0))) [7, 8]) (.cons (.ifs (.or (.cmp .eq (.var 2) (.lst .nil)) (.cmp .eq (.var 3) (.lst .nil))) (.cons (.ret (.mk 20 20 false [.p 0, .p 1] (.cons (.call 24 [.p 0, .p 1, .p 2] (.cons (.var 0) (.cons (.idx (.idx (.var 1) (.int 0)) (.int 0)) (.cons (.int 2) .nil))) .nil) (.cons (.int 2) .nil)) .nil)) .nil) .nil) (.cons (.set 4 (.int 3)) (.cons (.wh (.bl true) (.cons (.par 5 6 (.call 24 [.p 0, .p 1, .p 2] (.cons (.var 0) (.cons (.idx (.var 2) (.int 0)) (.cons (.var 4) .nil))) .nil) (.call 24 [.p 0, .p 1, .p 2] (.cons (.var 0) (.cons (.idx (.var 3) (.int 0)) (.cons (.var 4) .nil))) .nil)) (.cons (.ifs .bad (.cons (.ret (.call 22 [.p 0, .p 1, .p 2, .p 3] (.cons (.var 5) (.cons (.var 6) (.cons (.var 4) (.cons .bad .nil)))) .nil)) .nil) .nil) (.cons (.set 4 (.op .mul (.var 4) (.int 2))) .nil)))) .nil)))))
def b_loose_within : Sms := (.cons (.fr (.tup (.cons (.name 4) (.cons (.name 5) .nil))) (.seq (.var 1)) (.cons (.ifs (.cmp .eq (.var 5) (.int 0)) (.cons (.ret (.mk 20 20 false [.p 0, .p 1] (.cons (.var 4) (.cons (.int 1) .nil)) .nil)) .nil) .nil) .nil)) (.cons (.setc 2 (.var 4) (.tup (.cons (.name 4) (.cons (.name 5) .nil))) (.seq (.var 1)) (.yes (.cmp .gt (.var 5) (.int 0))) [4, 5]) (.cons (.setc 3 (.var 4) (.tup (.cons (.name 4) (.cons (.name 5) .nil))) (.seq (.var 1)) (.yes (.cmp .lt (.var 5) (.int 0))) [4, 5]) (.cons (.ret (.call 22 [.p 0, .p 1, .p 2, .p 3] (.cons (.idx (.var 2) (.int 0)) (.cons (.idx (.var 3) (.int 0)) (.cons (.int 1) (.cons .bad .nil)))) .nil)) .nil))))
def b_lowest : Sms := (.cons (.ifs (.cmp .lt (.var 1) (.int 0)) (.cons (.par 0 1 (.neg (.var 0)) (.neg (.var 1))) .nil) .nil) (.cons (.set 2 (.call 57 [.p 0, .p 1] (.cons (.var 0) (.cons (.var 1) .nil)) .nil)) (.cons (.ret (.tup (.cons (.op .fdiv (.var 0) (.var 2)) (.cons (.op .fdiv (.var 1) (.var 2)) .nil)))) .nil)))
def b_met : Sms := (.cons (.set 3 (.call 50 [.p 0, .p 1] (.cons (.var 0) (.cons (.var 1) .nil)) .nil)) (.cons (.ifs (.or (.call 28 [.p 0, .p 1] (.cons (.var 2) (.cons (.fld "least" (.var 3)) .nil)) .nil) (.call 28 [.p 0, .p 1] (.cons (.fld "greatest" (.var 3)) (.cons (.var 2) .nil)) .nil)) (.cons (.rz 5 (.cons (.fld "least" (.var 3)) (.cons (.fld "greatest" (.var 3)) .nil))) .nil) .nil) (.cons .bad (.cons (.ret (.call 22 [.p 0, .p 1, .p 2, .p 3] (.cons (.blt .list (.cons (.fld "numbers" (.fld "low" (.var 3))) .nil)) (.cons (.blt .list (.cons (.fld "numbers" (.fld "high" (.var 3))) .nil)) (.cons (.int 1) (.cons .bad .nil)))) .nil)) .nil))))
def b_move : Sms := (.cons (.ifs (.cmp .ne (.call 23 [.p 0, .p 1] (.cons (.var 0) (.cons (.var 1) .nil)) .nil) (.int 0)) (.cons .bad .nil) .nil) (.cons (.ret (.call 46 [.p 0, .p 1, .p 2] (.cons (.var 0) (.cons (.fld "numbers" (.var 1)) (.cons (.fld "parts" (.var 1)) .nil))) .nil)) .nil))
def b_move_at : Sms := (.cons (.set 3 (.ext (.meth 24 "hanging") (.cons (.var 0) .nil))) (.cons (.set 4 .bad) (.cons (.ret (.blt .tuple (.cons (.comp .bad (.name 5) (.rng1 (.fld "rods" (.var 0))) .no [5]) .nil))) .nil)))
def b_order : Sms := (.cons (.ex (.call 4 [.p 0] (.cons (.var 0) .nil) .nil)) (.cons .bad (.cons (.fr (.name 2) (.seq (.call 19 [.p 0] (.cons (.var 0) .nil) .nil)) (.cons (.set 3 (.ite (.cmp .gt (.call 14 [.p 0, .p 1, .p 2] (.cons (.var 0) (.cons (.var 2) (.cons (.int 1) .nil))) .nil) (.int 0)) (.int 1) (.neg (.int 1)))) (.cons .bad (.cons (.setc 1 (.tup (.cons (.var 5) (.cons (.var 6) .nil))) (.tup (.cons (.name 5) (.cons (.name 6) .nil))) (.seq (.var 1)) (.yes (.cmp .gt (.idx (.var 4) (.var 5)) (.idx (.var 4) (.var 6)))) [5, 6]) .nil)))) (.cons (.ret (.var 1)) .nil))))
def b_place_of : Sms := (.cons .bad (.cons (.ifs (.cmp .eq (.var 2) (.var 3)) (.cons (.ret (.ite (.cmp .eq (.var 4) (.var 2)) (.str "free") (.str "none"))) .nil) .nil) (.cons (.asg (.tup (.cons (.name 5) (.cons (.name 6) .nil))) (.call 43 [.p 0, .p 1] (.cons (.op .mul (.fld "length" (.var 0)) (.op .sub (.var 4) (.var 2))) (.cons (.op .sub (.var 3) (.var 2)) .nil)) .nil)) (.cons (.ret (.ite .bad (.tup (.cons (.var 5) (.cons (.var 6) .nil))) (.str "none"))) .nil))))
def b_places_text : Sms := (.cons (.ret (.join (.str " ") (.comp (.call 26 [.p 0] (.cons (.call 43 [.p 0, .p 1] (.cons (.var 1) (.cons (.fld "parts" (.var 0)) .nil)) .nil) .nil) .nil) (.name 1) (.seq (.fld "numbers" (.var 0))) .no [1]))) .nil)
def b_reach : Sms := (.cons (.ex (.call 10 [.p 0, .p 1] (.cons (.var 0) (.cons (.var 1) .nil)) .nil)) (.cons (.set 2 .non) (.cons (.fr (.name 3) (.seq (.call 19 [.p 0] (.cons (.var 0) .nil) .nil)) (.cons (.set 4 (.call 64 [.p 0, .p 1, .p 2] (.cons (.var 0) (.cons (.var 3) (.cons (.var 1) .nil))) .nil)) (.cons (.ifs .bad (.cons (.set 2 (.lst (.cons (.var 4) (.cons (.var 4) (.cons (.var 3) (.cons (.var 3) .nil)))))) .nil) (.cons (.ifs (.call 28 [.p 0, .p 1] (.cons (.var 4) (.cons (.idx (.var 2) (.int 0)) .nil)) .nil) (.cons .bad .nil) (.cons (.ifs (.call 28 [.p 0, .p 1] (.cons (.idx (.var 2) (.int 1)) (.cons (.var 4) .nil)) .nil) (.cons .bad .nil) .nil) .nil)) .nil)) .nil))) (.cons (.asg (.tup (.cons (.name 5) (.cons (.name 6) (.cons (.name 7) (.cons (.name 8) .nil))))) (.var 2)) (.cons (.ret (.mk 21 21 false [.p 0, .p 1, .p 2, .p 3] (.cons (.var 5) (.cons (.var 6) (.cons (.mk 20 20 false [.p 0, .p 1] (.cons (.var 7) (.cons (.int 1) .nil)) .nil) (.cons (.mk 20 20 false [.p 0, .p 1] (.cons (.var 8) (.cons (.int 1) .nil)) .nil) .nil)))) .nil)) .nil)))))
def b_read_web : Sms := (.cons (.set 1 (.newl .nil)) (.cons (.fr (.tup (.cons (.name 4) (.cons (.name 5) .nil))) (.seq .bad) (.cons (.set 6 (.call 53 [.p 0] (.cons (.var 5) .nil) .nil)) (.cons (.ifs (.or .bad (.not (.call 35 [.p 0, .p 1] (.cons (.var 6) (.cons (.var 1) .nil)) .nil))) (.cons (.rz 2 (.cons (.op .add (.var 4) (.int 1)) .nil)) .nil) .nil) (.cons (.ex (.ext (.lm .append) (.cons (.var 1) (.cons (.var 6) .nil)))) .nil)))) (.cons (.ifs (.cmp .eq (.var 1) (.lst .nil)) (.cons (.rz 2 (.cons (.int 1) .nil)) .nil) .nil) (.cons (.set 2 .bad) (.cons (.set 3 (.newl .nil)) (.cons (.fr (.tup (.cons (.name 7) (.cons (.name 8) .nil))) (.seq (.var 1)) (.cons (.ifs (.cmp .eq (.var 7) (.str "bar")) (.cons (.asg (.tup (.cons (.name 9) (.cons (.name 10) (.cons (.name 11) (.cons (.name 12) (.cons (.name 13) (.cons (.name 14) .nil))))))) (.var 8)) (.cons (.ex (.ext (.lm .append) (.cons (.var 3) (.cons (.mk 4 4 false [.p 0, .p 1, .p 2, .p 3, .p 4, .p 5] (.cons (.var 9) (.cons (.var 10) (.cons (.var 11) (.cons (.var 12) (.cons (.var 13) (.cons (.var 14) .nil)))))) .nil) .nil)))) .nil)) .nil) .nil)) (.cons (.ret (.mk 24 24 false [.p 0, .p 1, .p 2] (.cons (.idx (.idx (.idx (.var 1) (.int 0)) (.int 1)) (.int 0)) (.cons (.var 2) (.cons (.var 3) .nil))) .nil)) .nil)))))))
def b_row_in : Sms := (.cons (.set 1 .bad) (.cons (.par 3 4 (.idx (.var 1) (.int 0)) (.slc (.var 1) (.yes (.int 1)) .no)) (.cons (.ifs (.cmp .ne (.blt .len (.cons (.var 4) .nil)) .bad) (.cons (.ret .non) .nil) .nil) (.cons (.setc 2 (.call 21 [.p 0] (.cons (.var 5) .nil) .nil) (.name 5) (.seq (.var 4)) .no [5]) (.cons (.ifs (.cmp .eq (.var 3) (.str "held")) (.cons (.setIx (.var 2) (.int 1) (.call 59 [.p 0] (.cons (.idx (.var 4) (.int 1)) .nil) .nil)) .nil) .nil) (.cons (.ret (.ite .bad .non (.tup (.cons (.var 3) (.cons (.var 2) .nil))))) .nil))))))
def b_rows_of_ends : Sms := (.cons (.ret (.comp (.slc (.lst (.cons (.fld "least" (.var 1)) (.cons (.fld "greatest" (.var 1)) .nil))) .no (.yes (.op .add (.int 1) (.blt .int (.cons (.cmp .lt (.fld "least" (.var 1)) (.fld "greatest" (.var 1))) .nil))))) (.name 1) (.seq (.fld "bars" (.var 0))) .no [1])) .nil)
def b_sentence : Sms := (.cons (.set 3 (.op .mul (.fld "length" (.var 0)) (.var 2))) (.cons (.ret .bad) .nil))
def b_sentences : Sms := (.cons (.ret (.comp (.call 55 [.p 0, .p 1, .p 2] (.cons (.var 3) (.cons (.var 4) (.cons (.var 2) .nil))) .nil) (.tup (.cons (.name 3) (.cons (.name 4) .nil))) (.seq .bad) .no [3, 4])) .nil)
def b_shared : Sms := (.cons (.par 0 1 (.blt .abs (.cons (.var 0) .nil)) (.blt .abs (.cons (.var 1) .nil))) (.cons (.wh (.cmp .gt (.var 1) (.int 0)) (.cons (.par 0 1 (.var 1) (.op .mod (.var 0) (.var 1))) .nil)) (.cons (.ret (.var 0)) .nil)))
def b_shared_by : Sms := (.cons (.set 1 (.int 0)) (.cons (.fr (.name 2) (.seq (.var 0)) (.cons (.set 1 (.call 57 [.p 0, .p 1] (.cons (.var 1) (.cons (.var 2) .nil)) .nil)) .nil)) (.cons (.ret (.var 1)) .nil)))
def b_signed_in : Sms := (.cons (.ifs (.cmp .ne (.slc (.var 0) .no (.yes (.int 1))) (.str "-")) (.cons (.ret (.call 21 [.p 0] (.cons (.var 0) .nil) .nil)) .nil) .nil) (.cons (.set 1 (.call 21 [.p 0] (.cons (.slc (.var 0) (.yes (.int 1)) .no) .nil) .nil)) (.cons (.ifs (.or .bad (.cmp .eq (.var 1) (.int 0))) (.cons (.ret .non) .nil) .nil) (.cons (.ret (.neg (.var 1))) .nil))))
def b_stand : Sms := (.cons (.set 2 (.call 23 [.p 0, .p 1] (.cons (.var 0) (.cons (.var 1) .nil)) .nil)) (.cons (.ifs (.cmp .eq (.var 2) (.int 0)) (.cons .bad .nil) .nil) (.cons (.set 3 (.call 67 [.p 0, .p 1, .p 2] (.cons (.var 0) (.cons (.fld "numbers" (.var 1)) (.cons (.fld "parts" (.var 1)) .nil))) .nil)) (.cons (.set 4 (.call 58 [.p 0] (.cons (.op .add (.var 3) (.lst (.cons (.var 2) .nil))) .nil) .nil)) (.cons (.ifs (.cmp .lt (.var 2) (.int 0)) (.cons (.set 4 (.neg (.var 4))) .nil) .nil) (.cons (.ret (.mk 23 23 false [.p 0, .p 1] (.cons (.comp (.op .fdiv (.var 5) (.var 4)) (.name 5) (.seq (.var 3)) .no [5]) (.cons (.op .fdiv (.var 2) (.var 4)) .nil)) .nil)) .nil))))))
def b_sum_at : Sms := (.cons (.ret (.call 43 [.p 0, .p 1] (.cons (.call 66 [.p 0, .p 1, .p 2, .p 3] (.cons (.var 0) (.cons (.var 1) (.cons (.int 1) (.cons (.var 2) .nil)))) .nil) (.cons (.call 14 [.p 0, .p 1, .p 2] (.cons (.var 0) (.cons (.var 1) (.cons (.int 1) .nil))) .nil) .nil)) .nil)) .nil)
def b_table_of : Sms := (.cons (.ret (.comp (.comp .bad (.name 4) (.seq (.ext (.meth 24 "hanging") (.cons (.var 0) .nil))) .no [4]) (.name 3) (.seq (.call 56 [.p 0, .p 1, .p 2] (.cons (.var 0) (.cons (.var 1) (.cons (.var 2) .nil))) .nil)) .no [3])) .nil)
def b_top_at : Sms := (.cons (.set 4 (.ext (.meth 24 "held") (.cons (.var 0) .nil))) (.cons (.set 5 (.newl .nil)) (.cons (.fr (.tup (.cons (.name 7) (.cons (.name 8) .nil))) (.seq .bad) (.cons (.ex (.ext (.lm .append) (.cons (.var 5) (.cons (.op .add (.var 7) (.lst (.cons (.op .sub (.int 0) .bad) .nil))) .nil)))) .nil)) (.cons (.setc 6 (.op .sub (.int 0) (.idx (.var 3) (.var 9))) (.name 9) (.seq (.ext (.meth 24 "hanging") (.cons (.var 0) .nil))) .no [9]) (.cons (.ret (.call 68 [.p 0] (.cons (.op .add (.var 5) (.lst (.cons (.op .add (.var 6) (.lst (.cons .bad .nil))) .nil))) .nil) .nil)) .nil)))))
def b_tops_at : Sms := (.cons (.set 3 (.newl .nil)) (.cons (.fr (.name 4) (.rng1 (.fld "rods" (.var 0))) (.cons (.ex (.ext (.lm .append) (.cons (.var 3) (.cons (.call 66 [.p 0, .p 1, .p 2, .p 3] (.cons (.var 0) (.cons (.var 1) (.cons (.var 2) (.cons (.comp (.blt .int (.cons (.cmp .eq (.var 5) (.var 4)) .nil)) (.name 5) (.rng1 (.fld "rods" (.var 0))) .no [5]) .nil)))) .nil) .nil)))) .nil)) (.cons (.ret (.var 3)) .nil)))
def b_turned_out : Sms := (.cons .bad (.cons (.asg (.tup (.cons (.name 3) (.cons (.name 4) .nil))) (.tup (.cons (.int 1) (.cons (.int 1) .nil)))) (.cons (.fr (.name 2) (.rng1 (.blt .len (.cons (.var 1) .nil))) (.cons (.setc 5 (.var 6) (.name 6) (.rng2 (.var 2) (.blt .len (.cons (.var 1) .nil))) (.yes (.cmp .ne (.idx (.idx (.var 1) (.var 6)) (.var 2)) (.int 0))) [6]) (.cons (.ifs (.cmp .eq (.var 5) (.lst .nil)) (.cons (.ret (.int 0)) .nil) .nil) (.cons (.ifs (.cmp .ne (.idx (.var 5) (.int 0)) (.var 2)) (.cons .bad (.cons (.set 3 (.neg (.var 3))) .nil)) .nil) (.cons (.fr (.name 6) (.rng2 (.op .add (.var 2) (.int 1)) (.blt .len (.cons (.var 1) .nil))) (.cons (.fr (.name 8) (.rng2 (.op .add (.var 2) (.int 1)) (.blt .len (.cons (.var 1) .nil))) (.cons (.setIx (.idx (.var 1) (.var 6)) (.var 8) (.op .fdiv (.op .sub (.op .mul (.idx (.idx (.var 1) (.var 6)) (.var 8)) (.idx (.idx (.var 1) (.var 2)) (.var 2))) (.op .mul (.idx (.idx (.var 1) (.var 6)) (.var 2)) (.idx (.idx (.var 1) (.var 2)) (.var 8)))) (.var 4))) .nil)) .nil)) (.cons (.set 4 (.idx (.idx (.var 1) (.var 2)) (.var 2))) .nil)))))) (.cons (.ret (.op .mul (.var 3) (.var 4))) .nil))))
def b_web_rows : Sms := (.cons (.set 1 (.ext (.meth 24 "held") (.cons (.var 0) .nil))) (.cons (.set 2 (.newl (.cons (.joined (.cons (.str "rods ") (.cons (.fmt (.fld "rods" (.var 0))) .nil))) .nil))) (.cons (.ex .bad) (.cons (.ex .bad) (.cons (.ret (.var 2)) .nil)))))
def b_widen : Sms := (.cons (.ex (.call 7 [.p 0, .p 1] (.cons (.var 0) (.cons (.var 1) .nil)) .nil)) (.cons (.ex (.call 4 [.p 0] (.cons (.var 0) .nil) .nil)) (.cons (.set 2 (.idx (.fld "bars" (.var 0)) (.var 1))) (.cons (.set 3 (.lst (.cons (.tup (.cons (.int 0) (.cons (.int 1) .nil))) (.cons (.tup (.cons (.fld "length" (.var 2)) (.cons (.int 1) .nil))) (.cons (.bl true) (.cons (.bl true) .nil)))))) (.cons (.fr (.name 4) (.seq (.call 13 [.p 0, .p 1] (.cons (.var 0) (.cons (.var 1) .nil)) .nil)) (.cons (.par 5 6 (.call 14 [.p 0, .p 1, .p 2] (.cons (.var 0) (.cons (.var 4) (.cons (.int 1) .nil))) .nil) (.call 14 [.p 0, .p 1, .p 2] (.cons (.var 0) (.cons (.call 73 [.p 0, .p 1, .p 2] (.cons (.var 4) (.cons (.var 1) (.cons (.fld "length" (.var 2)) .nil))) .nil) (.cons (.int 1) .nil))) .nil)) (.cons (.ifs (.cmp .ne (.var 5) (.var 6)) (.cons (.set 7 (.call 43 [.p 0, .p 1] (.cons (.op .mul (.fld "length" (.var 2)) (.var 5)) (.cons (.op .sub (.var 5) (.var 6)) .nil)) .nil)) (.cons (.ifs (.and (.call 28 [.p 0, .p 1] (.cons (.var 7) (.cons (.tup (.cons (.fld "least" (.var 2)) (.cons (.int 1) .nil))) .nil)) .nil) (.not (.call 28 [.p 0, .p 1] (.cons (.var 7) (.cons (.idx (.var 3) (.int 0)) .nil)) .nil))) (.cons .bad .nil) .nil) (.cons (.ifs (.and (.call 28 [.p 0, .p 1] (.cons (.tup (.cons (.fld "greatest" (.var 2)) (.cons (.int 1) .nil))) (.cons (.var 7) .nil)) .nil) (.not (.call 28 [.p 0, .p 1] (.cons (.idx (.var 3) (.int 1)) (.cons (.var 7) .nil)) .nil))) (.cons .bad .nil) .nil) .nil))) .nil) .nil))) (.cons (.ret (.mk 25 25 false [.p 0, .p 1, .p 2, .p 3] (.cons (.idx (.var 3) (.int 0)) (.cons (.idx (.var 3) (.int 1)) (.cons (.idx (.var 3) (.int 2)) (.cons (.idx (.var 3) (.int 3)) .nil)))) .nil)) .nil))))))
def b_with_place : Sms := (.cons (.ret (.op .add (.op .add (.slc (.var 0) .no (.yes (.var 1))) (.lst (.cons (.var 2) .nil))) (.slc (.var 0) (.yes (.op .add (.var 1) (.int 1))) .no))) .nil)
def b_with_span : Sms := (.cons (.set 4 (.blt .listN (.cons (.fld "bars" (.var 0)) .nil))) (.cons (.ifs (.not .bad) (.cons (.rz 13 (.cons (.var 1) .nil)) .nil) .nil) (.cons (.set 5 (.idx (.var 4) (.var 1))) (.cons (.ifs (.not .bad) (.cons (.rz 3 (.cons (.var 1) .nil)) .nil) .nil) (.cons (.setIx (.var 4) (.var 1) (.mk 4 4 false [.p 0, .p 1, .p 2, .p 3, .p 4, .p 5] (.cons (.fld "a" (.var 5)) (.cons (.fld "b" (.var 5)) (.cons (.fld "c" (.var 5)) (.cons (.fld "length" (.var 5)) (.cons (.var 2) (.cons (.var 3) .nil)))))) .nil)) (.cons (.ret (.mk 24 24 false [.p 0, .p 1, .p 2] (.cons (.fld "rods" (.var 0)) (.cons (.ext (.meth 24 "held") (.cons (.var 0) .nil)) (.cons (.var 4) .nil))) .nil)) .nil))))))
end Pg

set_option Elab.async false
set_option linter.all false
set_option maxRecDepth 100000
set_option maxHeartbeats 400000
/-! E1: how the data evaluate: steps, loops; gcd. Plain Lean. -/
namespace PV
section
variable {α β : Type} {T : Tab} {ok : Okt} {e : Env} {S S1 S2 S3 : Store}
theorem e_var {i : Nat} {w : Ow} (h : e[i]? = some (some w)) : evVar i e S = .ok w S := by unfold evVar; rw [h]; rfl
theorem e_c {d : D} : evC d e S = .ok (.val d) S := rfl
theorem e_2 {k : D → D → M Ow} {fa fb : Env → M Ow} {x y : D} (ha : fa e S = .ok (.val x) S1) (hb : fb e S1 = .ok (.val y) S2) : ev2 k fa fb e S = k x y S2 := by
  unfold ev2
  rw [bind_ap, ha]; dsimp only
  rw [bind_ap, hb]; rfl
theorem e_1 {k : D → M Ow} {fa : Env → M Ow} {x : D} (ha : fa e S = .ok (.val x) S1) : ev1 k fa e S = k x S1 := by
  unfold ev1
  rw [bind_ap, ha]; rfl
theorem e_b {fa : Env → M Ow} {b : Bool} (ha : fa e S = .ok (.val (.bl b)) S1) : asB fa e S = .ok b S1 := by
  unfold asB
  rw [bind_ap, ha]; rfl
theorem e_cons {a : Env → M Ow} {r : Env → M (List Ow)} {w : Ow} {ws : List Ow} (ha : a e S = .ok w S1) (hr : r e S1 = .ok ws S2) : evCons a r e S = .ok (w :: ws) S2 := by
  unfold evCons
  rw [bind_ap, ha]; dsimp only
  rw [bind_ap, hr]; rfl
theorem e_nil : evNil e S = .ok [] S := rfl
theorem e_bind {m : M α} {f : α → M β} {a : α} (h : m S = .ok a S1) : (m >>= f) S = f a S1 := by rw [bind_ap, h]
theorem s_b {m : Env → M α} {k : α → MS} {a : α} (h : m e S = .ok a S1) : sb m k e S = k a e S1 := by unfold sb; rw [h]
theorem s_s {a b : MS} {e1 : Env} (h : a e S = .ok .nx e1 S1) : ss a b e S = b e1 S1 := by unfold ss; rw [h]
theorem s_r {a b : MS} {e1 : Env} {d : D} (h : a e S = .ok (.ret d) e1 S1) : ss a b e S = .ok (.ret d) e1 S1 := by unfold ss; rw [h]
theorem s_set {i : Nat} {f : Env → M Ow} {d : D} (h : f e S = .ok (.val d) S1) : sSet i f e S = .ok .nx (e.set i (some (.val d))) S1 := by unfold sSet; rw [s_b h]
theorem s_ret {f : Env → M Ow} {d : D} (h : f e S = .ok (.val d) S1) : sRet f e S = .ok (.ret d) e S1 := by unfold sRet; rw [s_b h]
theorem s_if {t : Env → M Bool} {a b : MS} {c : Bool} (h : t e S = .ok c S1) : sIf t a b e S = (if c then a else b) e S1 := by unfold sIf; rw [s_b h]
theorem s_par {i j : Nat} {a : Env → M (List Ow)} {x y : D} (h : a e S = .ok [.val x, .val y] S1) : sPar i j a e S = .ok .nx ((e.set i (some (.val x))).set j (some (.val y))) S1 := by unfold sPar; rw [s_b h]
/-! ### the loop of Euclid -/
theorem set_same {l : List α} {i : Nat} {a : α} (h : l[i]? = some a) : l.set i a = l := by
  apply List.ext_getElem?
  intro j
  by_cases hj : i = j
  · subst hj
    rw [List.getElem?_set_self (List.getElem?_eq_some_iff.mp h).1, h]
  · rw [List.getElem?_set_ne hj]
theorem fmod_nat (a b : Nat) : Int.fmod (a : Int) (b : Int) = ((a % b : Nat) : Int) := by
  rw [Int.fmod_eq_emod_of_nonneg _ (Int.natCast_nonneg b)]; rfl
abbrev vi (i : Int) : Option Ow := some (.val (.int i))
theorem gcd_loop {i j : Nat} (hij : i ≠ j) : ∀ (b a : Nat) (e : Env) (S : Store), e[i]? = some (vi a) → e[j]? = some (vi b) →
    ∃ m, whileN (tbx T ok (.cmp .gt (.var j) (.int 0))) (xss T ok (.cons (.par i j (.var j) (.op .mod (.var i) (.var j))) .nil)) m e S = some (.ok .nx ((e.set i (vi (Nat.gcd a b))).set j (vi 0)) S) := by
  intro b
  induction b using Nat.strongRecOn with
  | ind b ih =>
    intro a e S hi hj
    have ht : tbx T ok (.cmp .gt (.var j) (.int 0)) e S = .ok (decide ((0 : Int) < b)) S := by
      simp only [tbx, ev]
      exact e_b ((e_2 (e_var hj) e_c).trans rfl)
    by_cases hb : b = 0
    · subst hb
      refine ⟨1, ?_⟩
      unfold whileN
      rw [ht]
      have e1 : (e.set i (vi (Nat.gcd a 0))).set j (vi 0) = e := by
        rw [Nat.gcd_zero_right, set_same hi]
        exact set_same hj
      rw [e1]
      rfl
    · have hp : 0 < b := Nat.pos_of_ne_zero hb
      have hl : i < e.length := (List.getElem?_eq_some_iff.mp hi).1
      have hl2 : j < e.length := (List.getElem?_eq_some_iff.mp hj).1
      let e1 : Env := (e.set i (vi b)).set j (vi ((a % b : Nat) : Int))
      obtain ⟨m, hm⟩ := ih (a % b) (Nat.mod_lt a hp) b e1 S (by show ((e.set i _).set j _)[i]? = _; rw [List.getElem?_set_ne (Ne.symm hij), List.getElem?_set_self hl]) (by show ((e.set i _).set j _)[j]? = _; rw [List.getElem?_set_self (by rw [List.length_set]; exact hl2)])
      refine ⟨m + 1, ?_⟩
      have hbody : xss T ok (.cons (.par i j (.var j) (.op .mod (.var i) (.var j))) .nil) e S = .ok .nx e1 S := by
        simp only [xss, xs, ev]
        have hmod : ev2 Op.mod.d (evVar i) (evVar j) e S = Out.ok (Ow.val (D.int ((a % b : Nat) : Int))) S := by
          refine (e_2 (e_var hi) (e_var hj)).trans ?_
          have : okMod a b = true := decide_eq_true (by omega)
          show (if okMod a b then (M.pure (Ow.val (D.int (Int.fmod a b))) : M Ow) else M.stuck) S = _
          rw [if_pos this, fmod_nat]; rfl
        exact (s_s (s_par (e_cons (e_var hj) (e_cons hmod e_nil)))).trans rfl
      unfold whileN
      rw [ht, show decide ((0 : Int) < b) = true from decide_eq_true (by omega)]
      dsimp only
      rw [hbody]
      dsimp only
      rw [hm]
      congr 2
      show (((e.set i (vi b)).set j (vi _)).set i _).set j _ = _
      rw [List.set_comm _ _ (Ne.symm hij), List.set_set, List.set_set, Nat.gcd_comm a b, Nat.gcd_rec b a]
      congr 3
      rw [Nat.gcd_comm]
end
end PV

set_option Elab.async false
set_option linter.all false
set_option maxRecDepth 100000
set_option maxHeartbeats 400000
/-! E2: what the program's small defs compute. -/
namespace PV
section
variable {ok : Okt} {fs : Nat → Option (Nat × Sms)} {is : Nat → Option (Nat × Nat × Sms)} {k : Nat} {S : Store}
theorem abs_nat (a : Int) : (if a < 0 then -a else a) = ((a.natAbs : Nat) : Int) := by
  split <;> omega
theorem shared_ok (hf : fs 57 = some (2, Pg.b_shared)) (a b : Int) : (TT ok fs is (k + 1)).fn 57 [.int a, .int b] S = .ok (.int ((Nat.gcd a.natAbs b.natAbs : Nat) : Int)) S := by
  rw [TT_fn hf]
  unfold funF
  obtain ⟨m, hm⟩ := gcd_loop (T := TT ok fs is k) (ok := ok) (i := 0) (j := 1) (by decide) b.natAbs a.natAbs [vi ((a.natAbs : Nat) : Int), vi ((b.natAbs : Nat) : Int)] S rfl rfl
  have hw := sWhile_eq hm
  have h1 : xs (TT ok fs is k) ok (.par 0 1 (.blt .abs (.cons (.var 0) .nil)) (.blt .abs (.cons (.var 1) .nil))) (startE 2 [.int a, .int b]) S = .ok .nx [vi ((a.natAbs : Nat) : Int), vi ((b.natAbs : Nat) : Int)] S := by
    rw [← abs_nat a, ← abs_nat b]
    rfl
  unfold Pg.b_shared
  rw [xss, s_s h1, xss, s_s (by rw [xs]; exact hw)]
  rfl
end
end PV

set_option Elab.async false
set_option linter.all false
set_option maxRecDepth 100000
set_option maxHeartbeats 400000
/-! E3: loops over lists; shared_by, lowest. -/
namespace PV
theorem forL_inv {α : Type} {chk : Store → Bool} {tg : D → Env → Option Env} {b : MS} (P : α → Env → Store → Prop) (f : α → D → α) (hc : ∀ a e S, P a e S → chk S = true) : ∀ (ys : List D) (a : α) (e : Env) (S : Store), P a e S →
    (∀ a y e S, y ∈ ys → P a e S → ∃ e1 e2 S2, tg y e = some e1 ∧ b e1 S = .ok .nx e2 S2 ∧ P (f a y) e2 S2) → ∃ e' S', forL chk tg b ys e S = .ok .nx e' S' ∧ P (ys.foldl f a) e' S'
  | [], a, e, S, h, _ => ⟨e, S, by unfold forL; rw [if_pos (hc a e S h)], h⟩
  | y :: ys, a, e, S, h, q => by
    obtain ⟨e1, e2, S2, h1, h2, h3⟩ := q a y e S List.mem_cons_self h
    obtain ⟨e', S', h4, h5⟩ := forL_inv P f hc ys (f a y) e2 S2 h3 fun a y e S hy => q a y e S (List.mem_cons_of_mem _ hy)
    refine ⟨e', S', ?_, h5⟩
    unfold forL
    rw [if_pos (hc a e S h), h1]
    dsimp only
    rw [h2]
    exact h4
def gcds (l : List Int) : Nat := l.foldl (fun g x => Nat.gcd g x.natAbs) 0
section
variable {ok : Okt} {fs : Nat → Option (Nat × Sms)} {is : Nat → Option (Nat × Nat × Sms)} {k : Nat} {S : Store}
def iL (l : List Int) : List D := l.map D.int
theorem fold_ints (f : Nat → Int → Nat) : ∀ (l : List Int) (g : Nat), (iL l).foldl (fun g d => match d with | .int x => f g x | _ => g) g = l.foldl f g
  | [], _ => rfl
  | x :: r, g => fold_ints f r (f g x)
theorem call1 {F : List D → M D} {its : List Ar} {a b : Env → M (List Ow)} {n m : Nat} {e : Env} {S1 S2 S3 : Store} {ws zs : List Ow} {ds es : List D} {d : D} (ha : a e S = .ok ws S1) (hb : b e S1 = .ok zs S2) (e1 : stricts ws = some ds) (e2 : stricts zs = some es)
    (hl : (ds.length == n && es.length == m) = true) (hF : F (putD its ds es) S2 = .ok d S3) : evCall F n m its a b e S = .ok (.val d) S3 := by
  unfold evCall
  rw [bind_ap, ha]; dsimp only
  rw [bind_ap, hb]; dsimp only
  rw [e1, e2]
  show ((guardM (ds.length == n && es.length == m) >>= fun _ => F (putD its ds es) >>= fun d => (M.pure (.val d) : M Ow)) S2) = _
  rw [hl]
  show ((F (putD its ds es) >>= fun d => (M.pure (.val d) : M Ow)) S2) = _
  rw [bind_ap, hF]; rfl
theorem shared_by_ok (hf : fs 57 = some (2, Pg.b_shared)) (hg : fs 58 = some (3, Pg.b_shared_by)) (l : List Int) : (TT ok fs is (k + 2)).fn 58 [.lst (iL l)] S = .ok (.int (gcds l : Nat)) S := by
  rw [TT_fn hg]
  unfold funF
  let P : Nat → Env → Store → Prop := fun g e S' => S' = S ∧ e[0]? = some (some (.val (.lst (iL l)))) ∧ e[1]? = some (vi (g : Int)) ∧ e.length = 3
  have hl := forL_inv (chk := okSrc (.lst (iL l)) (iL l)) (tg := tgName 2) (b := xss (TT ok fs is (k + 1)) ok (.cons (.set 1 (.call 57 [.p 0, .p 1] (.cons (.var 1) (.cons (.var 2) .nil)) .nil)) .nil)) P
    (fun g d => match d with | .int x => Nat.gcd g x.natAbs | _ => g) (fun _ _ _ _ => rfl) (iL l) 0 [some (.val (.lst (iL l))), vi 0, none] S ⟨rfl, rfl, rfl, rfl⟩ (fun g y e S' hy ⟨h1, h2, h3, h4⟩ => ?_)
  · obtain ⟨e', S', h5, h6, h7, h8, h9⟩ := hl
    subst h6
    have h0 : xs (TT ok fs is (k + 1)) ok (.set 1 (.int 0)) (startE 3 [.lst (iL l)]) S' = .ok .nx [some (.val (.lst (iL l))), vi 0, none] S' := rfl
    have hfor : xs (TT ok fs is (k + 1)) ok (.fr (.name 2) (.seq (.var 0)) (.cons (.set 1 (.call 57 [.p 0, .p 1] (.cons (.var 1) (.cons (.var 2) .nil)) .nil)) .nil)) [some (.val (.lst (iL l))), vi 0, none] S' = .ok .nx e' S' := h5
    unfold Pg.b_shared_by
    rw [xss, s_s h0, xss, s_s hfor, xss, xs]
    have hr : ev (TT ok fs is (k + 1)) ok (.var 1) e' S' = .ok (.val (.int (gcds l : Nat))) S' := by
      rw [ev]
      refine (e_var h8).trans ?_
      rw [fold_ints]; rfl
    rw [s_r (s_ret hr)]; rfl
  · subst h1
    obtain ⟨x, hx, rfl⟩ := List.mem_map.mp hy
    refine ⟨e.set 2 (vi x), (e.set 2 (vi x)).set 1 (vi ((Nat.gcd g x.natAbs : Nat) : Int)), S', rfl, ?_, rfl, ?_, ?_, by simp [h4]⟩
    · have i1 : (e.set 2 (vi x))[1]? = some (vi (g : Int)) := by rw [List.getElem?_set_ne (by decide)]; exact h3
      have i2 : (e.set 2 (vi x))[2]? = some (vi x) := List.getElem?_set_self (by rw [h4]; decide)
      rw [xss, s_s, xss]
      · rfl
      rw [xs, ev]
      refine s_set (call1 (S2 := S') (e_cons (by rw [ev]; exact e_var i1) (e_cons (by rw [ev]; exact e_var i2) e_nil)) e_nil rfl rfl rfl ?_)
      show (TT ok fs is (k + 1)).fn 57 [.int g, .int x] S' = _
      rw [shared_ok hf]; rfl
    · rw [List.getElem?_set_ne (by decide), List.getElem?_set_ne (by decide)]; exact h2
    · exact List.getElem?_set_self (by rw [List.length_set, h4]; decide)
end
end PV

set_option Elab.async false
set_option linter.all false
set_option maxRecDepth 100000
set_option maxHeartbeats 400000
/-! E4: lowest. -/
namespace PV
section
variable {ok : Okt} {fs : Nat → Option (Nat × Sms)} {is : Nat → Option (Nat × Nat × Sms)} {k : Nat} {S : Store}
theorem fdiv_val {a : Int} {g : Nat} (h0 : g ≠ 0) (h1 : g.log2 < 9000) : Op.fdiv.d (.int a) (.int (g : Int)) S = .ok (.val (.int (a.fdiv g))) S := by
  have hk : okDiv a g = true := by
    unfold okDiv
    rw [Bool.and_eq_true]
    exact ⟨decide_eq_true (by omega), decide_eq_true (by rw [Int.natAbs_natCast]; exact h1)⟩
  show (if okDiv a g then (M.pure (Ow.val (D.int (Int.fdiv a g))) : M Ow) else M.stuck) S = _
  rw [if_pos hk]; rfl
theorem log2_le {a b : Nat} (h : a ≤ b) (ha : a ≠ 0) : a.log2 ≤ b.log2 := by
  have hb : b ≠ 0 := by omega
  rw [Nat.le_log2 hb]
  exact Nat.le_trans (Nat.log2_self_le ha) h
theorem lowest_ok (hf : fs 57 = some (2, Pg.b_shared)) (hg : fs 43 = some (3, Pg.b_lowest)) (a : Int) (b : Nat) (hb : 0 < b) (hz : b.log2 < 9000) :
    (TT ok fs is (k + 2)).fn 43 [.int a, .int b] S = .ok (.tup [.int (a.fdiv (Nat.gcd a.natAbs b : Nat)), .int ((b : Int).fdiv (Nat.gcd a.natAbs b : Nat))]) S := by
  rw [TT_fn hg]
  unfold funF
  have g0 : Nat.gcd a.natAbs b ≠ 0 := by
    have := Nat.gcd_pos_of_pos_right a.natAbs hb
    omega
  have g1 : (Nat.gcd a.natAbs b).log2 < 9000 := by
    have := log2_le (Nat.gcd_le_right a.natAbs hb) g0
    omega
  let e0 : Env := [vi a, vi (b : Int), none]
  let e1 : Env := [vi a, vi (b : Int), vi (Nat.gcd a.natAbs b : Nat)]
  have h1 : xs (TT ok fs is (k + 1)) ok (.ifs (.cmp .lt (.var 1) (.int 0)) (.cons (.par 0 1 (.neg (.var 0)) (.neg (.var 1))) .nil) .nil) e0 S = .ok .nx e0 S := by
    have ht : tbx (TT ok fs is (k + 1)) ok (.cmp .lt (.var 1) (.int 0)) e0 S = .ok false S := by
      have hd : decide ((b : Int) < 0) = false := decide_eq_false (by omega)
      rw [← hd]; rfl
    rw [xs, s_if ht]; rfl
  have h2 : xs (TT ok fs is (k + 1)) ok (.set 2 (.call 57 [.p 0, .p 1] (.cons (.var 0) (.cons (.var 1) .nil)) .nil)) e0 S = .ok .nx e1 S := by
    rw [xs, ev]
    refine (s_set (call1 (S2 := S) (e_cons rfl (e_cons rfl e_nil)) e_nil rfl rfl rfl ?_)).trans rfl
    · show (TT ok fs is (k + 1)).fn 57 [.int a, .int b] S = _
      rw [shared_ok hf]; rfl
  have q1 : ev (TT ok fs is (k + 1)) ok (.op .fdiv (.var 0) (.var 2)) e1 S = .ok (.val (.int (a.fdiv (Nat.gcd a.natAbs b : Nat)))) S := by
    rw [ev]; exact (e_2 (S1 := S) (S2 := S) rfl rfl).trans (fdiv_val g0 g1)
  have q2 : ev (TT ok fs is (k + 1)) ok (.op .fdiv (.var 1) (.var 2)) e1 S = .ok (.val (.int ((b : Int).fdiv (Nat.gcd a.natAbs b : Nat)))) S := by
    rw [ev]; exact (e_2 (S1 := S) (S2 := S) rfl rfl).trans (fdiv_val g0 g1)
  have h3 : xs (TT ok fs is (k + 1)) ok (.ret (.tup (.cons (.op .fdiv (.var 0) (.var 2)) (.cons (.op .fdiv (.var 1) (.var 2)) .nil)))) e1 S = .ok (.ret (.tup [.int (a.fdiv (Nat.gcd a.natAbs b : Nat)), .int ((b : Int).fdiv (Nat.gcd a.natAbs b : Nat))])) e1 S := by
    rw [xs]
    refine s_ret ?_
    rw [ev]
    unfold evTup evK
    rw [bind_ap, evs, e_cons q1 (by rw [evs]; exact e_cons q2 (by rw [evs]; exact e_nil))]
    rfl
  have hs : startE 3 [.int a, .int b] = e0 := rfl
  unfold Pg.b_lowest
  rw [hs, xss, s_s h1, xss, s_s h2, xss, s_r h3]
  rfl
end
end PV

set_option Elab.async false
set_option linter.all false
set_option maxRecDepth 100000
set_option maxHeartbeats 400000
/-! E5: the drawing defs. A well: a shared list of three whole numbers. -/
namespace PV
def drawA : Sms := (.cons (.ifs (.cmp .ge (.idx (.var 0) (.int 0)) (.op .pow (.int 10) (.int 18))) (.cons (.set 3 (.op .mod (.idx (.var 0) (.int 0)) (.var 1))) (.cons (.setIx (.var 0) (.int 0) (.op .fdiv (.idx (.var 0) (.int 0)) (.var 1))) (.cons (.ret (.var 3)) .nil))) .nil) (.cons (.setIx (.var 0) (.int 2) (.op .add (.idx (.var 0) (.int 2)) (.int 1))) (.cons (.set 2 (.op .mod (.op .mul (.op .add (.op .add (.idx (.var 0) (.int 1)) (.op .mul (.int 7919) (.idx (.var 0) (.int 2)))) (.int 1)) (.int 48271)) (.int 2147483647))) (.cons (.set 2 (.op .mod (.op .mul (.var 2) (.op .add (.op .fdiv (.var 2) (.int 1013)) (.int 69621))) (.int 2147483587))) (.cons (.ret (.op .mod (.op .mod (.op .add (.op .fdiv (.var 2) (.int 7)) (.op .mul (.op .mod (.var 2) (.int 7919)) (.int 40692))) (.int 2147483399)) (.var 1))) .nil)))))
/-- the well stands at id; n: how often it was drawn from, at most -/
def Well (S : Store) (id n : Nat) : Prop := ∃ a b c : Int, S[id]? = some (.lst [.int a, .int b, .int c]) ∧ 0 ≤ b ∧ b < 2147483629 ∧ 0 ≤ c ∧ c ≤ n
theorem Well.mono {S : Store} {id n m : Nat} (h : Well S id n) (hm : n ≤ m) : Well S id m := by
  obtain ⟨a, b, c, h1, h2, h3, h4, h5⟩ := h
  exact ⟨a, b, c, h1, h2, h3, h4, by omega⟩
section
variable {e : Env} {S : Store}
theorem idx_ref {id : Nat} {ds : List D} {i : Int} {d : D} (h : S[id]? = some (.lst ds)) (hi : L2.atI ds i = some d) : idxO (.val (.ref id)) (.int i) S = .ok (.val d) S := by
  have hs : seqOf S (.ref id) = some ds := by
    show (match S[id]? with | some (.lst ds) => some ds | _ => none) = _
    rw [h]
  show idxD (.ref id) (.int i) S = _
  unfold idxD
  rw [hs]
  show (match L2.atI ds i with | some x => (M.pure (.val x) : M Ow) | none => M.stuck) S = _
  rw [hi]; rfl
theorem e_idx {a b : Env → M Ow} {w : Ow} {i : D} {r : Out Ow} {S1 S2 : Store} (ha : a e S = .ok w S1) (hb : b e S1 = .ok (.val i) S2) : evIdx a b e S = idxO w i S2 := by
  unfold evIdx
  rw [bind_ap, ha]; dsimp only
  rw [bind_ap, hb]; rfl
theorem mul_val {i j : Int} (h : okMul i j = true) : Op.mul.d (.int i) (.int j) S = .ok (.val (.int (i * j))) S := by
  show (if okMul i j then (M.pure (Ow.val (D.int (i * j))) : M Ow) else M.stuck) S = _
  rw [if_pos h]; rfl
theorem mod_val {i j : Int} (h : j ≠ 0) : Op.mod.d (.int i) (.int j) S = .ok (.val (.int (i.fmod j))) S := by
  show (if okMod i j then (M.pure (Ow.val (D.int (Int.fmod i j))) : M Ow) else M.stuck) S = _
  rw [if_pos (show okMod i j = true from decide_eq_true h)]; rfl
theorem fdiv_val2 {i j : Int} (h : j ≠ 0) (h1 : j.natAbs.log2 < 9000) : Op.fdiv.d (.int i) (.int j) S = .ok (.val (.int (i.fdiv j))) S := by
  have hk : okDiv i j = true := by
    unfold okDiv
    rw [Bool.and_eq_true]
    exact ⟨decide_eq_true h, decide_eq_true h1⟩
  show (if okDiv i j then (M.pure (Ow.val (D.int (Int.fdiv i j))) : M Ow) else M.stuck) S = _
  rw [if_pos hk]; rfl
end
section
variable {ok : Okt} {fs : Nat → Option (Nat × Sms)} {is : Nat → Option (Nat × Nat × Sms)} {k : Nat} {S : Store} {T : Tab}
theorem s_ix {o i v : Env → M Ow} {e : Env} {S S1 S2 S3 S4 : Store} {x y z : D} (hv : v e S = .ok (.val z) S1) (ho : o e S1 = .ok (.val x) S2) (hi : i e S2 = .ok (.val y) S3) (h : setD x y z S3 = some S4) : sSetIx o i v e S = .ok .nx e S4 := by
  unfold sSetIx
  rw [s_b hv, s_b ho, s_b hi]
  show nxO e (setD x y z S3) = _
  rw [h]; rfl
theorem set_at {id : Nat} {ds : List D} {i : Int} {j : Nat} {v : D} (h : S[id]? = some (.lst ds)) (hj : L2.ixN ds.length i = some j) : setD (.ref id) (.int i) v S = some (S.set id (.lst (ds.set j v))) := by
  show ((S[id]?.bind (setM (.int i) v)).map fun m => S.set id m) = _
  rw [h]
  show (((L2.ixN ds.length i).map fun j => MO.lst (ds.set j v)).map fun m => S.set id m) = _
  rw [hj]; rfl
theorem log2_lt {x : Nat} {n : Nat} (h : x < 2 ^ n) (hn : 0 < n) : x.log2 < n := by
  by_cases h0 : x = 0
  · subst h0; simpa using hn
  · exact (Nat.log2_lt h0).mpr h
theorem okMul_of {i j : Int} (hi : i.natAbs < 2 ^ 100) (hj : j.natAbs < 2 ^ 100) : okMul i j = true := by
  have h1 := log2_lt hi (by decide)
  have h2 := log2_lt hj (by decide)
  exact decide_eq_true (by omega)
end
end PV

set_option Elab.async false
set_option linter.all false
set_option maxRecDepth 100000
set_option maxHeartbeats 800000
/-! E6: _law_draw. -/
namespace PV
section
variable {ok : Okt} {fs : Nat → Option (Nat × Sms)} {is : Nat → Option (Nat × Nat × Sms)} {k : Nat} {S : Store}
theorem draw_ok {i : Nat} (hf : fs i = some (4, drawA)) {id n : Nat} {many : Int} (hw : Well S id n) (hn : n ≤ 1000000000) (hm : 0 < many) (hz : many.natAbs.log2 < 9000) :
    ∃ r w, (TT ok fs is (k + 1)).fn i [.ref id, .int many] S = .ok (.int r) (S.set id w) ∧ 0 ≤ r ∧ r < many ∧ Well (S.set id w) id (n + 1) := by
  obtain ⟨a, b, c, h1, h2, h3, h4, h5⟩ := hw
  have hid : id < S.length := (List.getElem?_eq_some_iff.mp h1).1
  rw [TT_fn hf]
  unfold funF
  let T := TT ok fs is k
  let e0 : Env := [some (.val (.ref id)), vi many, none, none]
  have he : startE 4 [.ref id, .int many] = e0 := rfl
  rw [he]
  have i0 : ∀ e : Env, e[0]? = some (some (.val (.ref id))) → ∀ S : Store, ∀ x y z : Int, S[id]? = some (.lst [.int x, .int y, .int z]) →
      ev T ok (.idx (.var 0) (.int 0)) e S = .ok (.val (.int x)) S ∧ ev T ok (.idx (.var 0) (.int 1)) e S = .ok (.val (.int y)) S ∧ ev T ok (.idx (.var 0) (.int 2)) e S = .ok (.val (.int z)) S := by
    intro e h0 S x y z hS
    simp only [ev]
    exact ⟨(e_idx (r := .stuck) (e_var h0) e_c).trans (idx_ref hS rfl), (e_idx (r := .stuck) (e_var h0) e_c).trans (idx_ref hS rfl), (e_idx (r := .stuck) (e_var h0) e_c).trans (idx_ref hS rfl)⟩
  obtain ⟨x0, x1, x2⟩ := i0 e0 rfl S a b c h1
  have hp : ev T ok (.op .pow (.int 10) (.int 18)) e0 S = .ok (.val (.int (10 ^ 18))) S := rfl
  have ht : tbx T ok (.cmp .ge (.idx (.var 0) (.int 0)) (.op .pow (.int 10) (.int 18))) e0 S = .ok (decide ((10 : Int) ^ 18 ≤ a)) S := by
    rw [tbx]; exact e_b ((e_2 x0 hp).trans rfl)
  by_cases hbig : (10 : Int) ^ 18 ≤ a
  · let e1 : Env := [some (.val (.ref id)), vi many, none, vi (a.fmod many)]
    have q1 : xs T ok (.set 3 (.op .mod (.idx (.var 0) (.int 0)) (.var 1))) e0 S = .ok .nx e1 S := by
      rw [xs]
      refine (s_set (d := .int (a.fmod many)) (S1 := S) ?_).trans rfl
      rw [ev]
      exact (e_2 x0 (e_var rfl)).trans (mod_val (by omega))
    obtain ⟨y0, y1, y2⟩ := i0 e1 rfl S a b c h1
    have q2 : xs T ok (.setIx (.var 0) (.int 0) (.op .fdiv (.idx (.var 0) (.int 0)) (.var 1))) e1 S = .ok .nx e1 (S.set id (.lst [.int (a.fdiv many), .int b, .int c])) := by
      rw [xs]
      have hv : ev T ok (.op .fdiv (.idx (.var 0) (.int 0)) (.var 1)) e1 S = .ok (.val (.int (a.fdiv many))) S := by
        rw [ev]
        exact (e_2 y0 (e_var rfl)).trans (fdiv_val2 (by omega) hz)
      exact s_ix (S1 := S) (S2 := S) (S3 := S) hv rfl rfl ((set_at (i := 0) (j := 0) (v := .int (a.fdiv many)) h1 rfl).trans rfl)
    refine ⟨a.fmod many, .lst [.int (a.fdiv many), .int b, .int c], ?_, Int.fmod_nonneg_of_pos a hm, Int.fmod_lt_of_pos a hm, ⟨_, b, c, List.getElem?_set_self hid, h2, h3, h4, by omega⟩⟩
    unfold drawA
    have hi : xs T ok (.ifs (.cmp .ge (.idx (.var 0) (.int 0)) (.op .pow (.int 10) (.int 18))) (.cons (.set 3 (.op .mod (.idx (.var 0) (.int 0)) (.var 1))) (.cons (.setIx (.var 0) (.int 0) (.op .fdiv (.idx (.var 0) (.int 0)) (.var 1))) (.cons (.ret (.var 3)) .nil))) .nil) e0 S = .ok (.ret (.int (a.fmod many))) e1 (S.set id (.lst [.int (a.fdiv many), .int b, .int c])) := by
      rw [xs, s_if ht, decide_eq_true hbig, if_pos rfl, xss, s_s q1, xss, s_s q2, xss]
      exact s_r rfl
    rw [xss, s_r hi]
    rfl
  · let S1 : Store := S.set id (.lst [.int a, .int b, .int (c + 1)])
    have hS1 : S1[id]? = some (.lst [.int a, .int b, .int (c + 1)]) := List.getElem?_set_self hid
    obtain ⟨y0, y1, y2⟩ := i0 e0 rfl S1 a b (c + 1) hS1
    have q1 : xs T ok (.setIx (.var 0) (.int 2) (.op .add (.idx (.var 0) (.int 2)) (.int 1))) e0 S = .ok .nx e0 S1 := by
      rw [xs]
      have hv : ev T ok (.op .add (.idx (.var 0) (.int 2)) (.int 1)) e0 S = .ok (.val (.int (c + 1))) S := by
        rw [ev]
        exact (e_2 x2 e_c).trans rfl
      exact s_ix (S1 := S) (S2 := S) (S3 := S) hv rfl rfl ((set_at (i := 2) (j := 2) (v := .int (c + 1)) h1 rfl).trans rfl)
    let u : Int := b + 7919 * (c + 1) + 1
    let n1 : Int := (u * 48271).fmod 2147483647
    let n2 : Int := (n1 * (n1.fdiv 1013 + 69621)).fmod 2147483587
    let r0 : Int := (n2.fdiv 7 + n2.fmod 7919 * 40692).fmod 2147483399
    have b1 : 0 ≤ n1 ∧ n1 < 2147483647 := ⟨Int.fmod_nonneg_of_pos _ (by decide), Int.fmod_lt_of_pos _ (by decide)⟩
    have b2 : 0 ≤ n2 ∧ n2 < 2147483587 := ⟨Int.fmod_nonneg_of_pos _ (by decide), Int.fmod_lt_of_pos _ (by decide)⟩
    have b3 : 0 ≤ n2.fmod 7919 ∧ n2.fmod 7919 < 7919 := ⟨Int.fmod_nonneg_of_pos _ (by decide), Int.fmod_lt_of_pos _ (by decide)⟩
    have b4 : 0 ≤ n1.fdiv 1013 ∧ n1.fdiv 1013 < 2147483647 := by
      rw [Int.fdiv_eq_ediv_of_nonneg _ (by decide)]
      omega
    have sm : ∀ z : Int, 0 ≤ z → z < 100000000000000000000 → z.natAbs < 2 ^ 100 := fun z p q => by
      have : z.natAbs < 100000000000000000000 := by omega
      exact Nat.lt_trans this (by decide)
    have m1 : ev T ok (.op .mul (.int 7919) (.idx (.var 0) (.int 2))) e0 S1 = .ok (.val (.int (7919 * (c + 1)))) S1 := by
      rw [ev]
      exact (e_2 (S1 := S1) rfl y2).trans (mul_val (okMul_of (sm _ (by decide) (by decide)) (sm _ (by omega) (by omega))))
    have m2 : ev T ok (.op .add (.op .add (.idx (.var 0) (.int 1)) (.op .mul (.int 7919) (.idx (.var 0) (.int 2)))) (.int 1)) e0 S1 = .ok (.val (.int u)) S1 := by
      rw [ev]
      refine (e_2 (x := .int (b + 7919 * (c + 1))) (S1 := S1) ?_ e_c).trans rfl
      rw [ev]
      exact (e_2 y1 m1).trans rfl
    let e1 : Env := [some (.val (.ref id)), vi many, vi n1, none]
    let e2 : Env := [some (.val (.ref id)), vi many, vi n2, none]
    have q2 : xs T ok (.set 2 (.op .mod (.op .mul (.op .add (.op .add (.idx (.var 0) (.int 1)) (.op .mul (.int 7919) (.idx (.var 0) (.int 2)))) (.int 1)) (.int 48271)) (.int 2147483647))) e0 S1 = .ok .nx e1 S1 := by
      rw [xs]
      refine (s_set (d := .int n1) (S1 := S1) ?_).trans rfl
      rw [ev]
      refine (e_2 (x := .int (u * 48271)) (S1 := S1) ?_ e_c).trans (mod_val (by decide))
      rw [ev]
      exact (e_2 m2 e_c).trans (mul_val (okMul_of (sm _ (by omega) (by omega)) (sm _ (by decide) (by decide))))
    have q3 : xs T ok (.set 2 (.op .mod (.op .mul (.var 2) (.op .add (.op .fdiv (.var 2) (.int 1013)) (.int 69621))) (.int 2147483587))) e1 S1 = .ok .nx e2 S1 := by
      rw [xs]
      refine (s_set (d := .int n2) (S1 := S1) ?_).trans rfl
      rw [ev]
      refine (e_2 (x := .int (n1 * (n1.fdiv 1013 + 69621))) (S1 := S1) ?_ e_c).trans (mod_val (by decide))
      rw [ev]
      refine (e_2 (x := .int n1) (y := .int (n1.fdiv 1013 + 69621)) (S1 := S1) (S2 := S1) rfl ?_).trans (mul_val (okMul_of (sm _ (by omega) (by omega)) (sm _ (by omega) (by omega))))
      rw [ev]
      refine (e_2 (x := .int (n1.fdiv 1013)) (S1 := S1) ?_ e_c).trans rfl
      rw [ev]
      exact (e_2 (x := .int n1) (S1 := S1) rfl e_c).trans (fdiv_val2 (by decide) (by decide))
    have q4 : ev T ok (.op .mod (.op .mod (.op .add (.op .fdiv (.var 2) (.int 7)) (.op .mul (.op .mod (.var 2) (.int 7919)) (.int 40692))) (.int 2147483399)) (.var 1)) e2 S1 = .ok (.val (.int (r0.fmod many))) S1 := by
      rw [ev]
      refine (e_2 (x := .int r0) (y := .int many) (S1 := S1) (S2 := S1) ?_ rfl).trans (mod_val (by omega))
      rw [ev]
      refine (e_2 (x := .int (n2.fdiv 7 + n2.fmod 7919 * 40692)) (S1 := S1) ?_ e_c).trans (mod_val (by decide))
      rw [ev]
      refine (e_2 (x := .int (n2.fdiv 7)) (y := .int (n2.fmod 7919 * 40692)) (S1 := S1) (S2 := S1) ?_ ?_).trans rfl
      · rw [ev]; exact (e_2 (x := .int n2) (S1 := S1) rfl e_c).trans (fdiv_val2 (by decide) (by decide))
      · rw [ev]
        refine (e_2 (x := .int (n2.fmod 7919)) (S1 := S1) ?_ e_c).trans (mul_val (okMul_of (sm _ (by omega) (by omega)) (sm _ (by decide) (by decide))))
        rw [ev]; exact (e_2 (x := .int n2) (S1 := S1) rfl e_c).trans (mod_val (by decide))
    refine ⟨r0.fmod many, .lst [.int a, .int b, .int (c + 1)], ?_, Int.fmod_nonneg_of_pos _ hm, Int.fmod_lt_of_pos _ hm, ⟨a, b, c + 1, hS1, h2, h3, by omega, by omega⟩⟩
    have hi : xs T ok (.ifs (.cmp .ge (.idx (.var 0) (.int 0)) (.op .pow (.int 10) (.int 18))) (.cons (.set 3 (.op .mod (.idx (.var 0) (.int 0)) (.var 1))) (.cons (.setIx (.var 0) (.int 0) (.op .fdiv (.idx (.var 0) (.int 0)) (.var 1))) (.cons (.ret (.var 3)) .nil))) .nil) e0 S = .ok .nx e0 S := by
      rw [xs, s_if ht, decide_eq_false hbig]; rfl
    have hr : xs T ok (.ret (.op .mod (.op .mod (.op .add (.op .fdiv (.var 2) (.int 7)) (.op .mul (.op .mod (.var 2) (.int 7919)) (.int 40692))) (.int 2147483399)) (.var 1))) e2 S1 = .ok (.ret (.int (r0.fmod many))) e2 S1 := by
      rw [xs]; exact s_ret q4
    unfold drawA
    rw [xss, s_s hi, xss, s_s q1, xss, s_s q2, xss, s_s q3, xss, s_r hr]
    rfl
end
end PV

set_option Elab.async false
set_option linter.all false
set_option maxRecDepth 100000
set_option maxHeartbeats 800000
/-! E7: _law_one. -/
namespace PV
def oneA : Sms := (.cons (.ret (.idx (.var 1) (.call 201 [.p 0, .p 1] (.cons (.var 0) (.cons (.blt .len (.cons (.var 1) .nil)) .nil)) .nil))) .nil)
section
variable {ok : Okt} {fs : Nat → Option (Nat × Sms)} {is : Nat → Option (Nat × Nat × Sms)} {k : Nat} {S : Store}
theorem one_ok (hf : fs 201 = some (4, drawA)) (hg : fs 202 = some (2, oneA)) {id n : Nat} {ds : List D} (hw : Well S id n) (hn : n ≤ 1000000000) (h0 : ds ≠ []) (hz : ds.length < 2 ^ 100) :
    ∃ d w, (TT ok fs is (k + 2)).fn 202 [.ref id, .lst ds] S = .ok d (S.set id w) ∧ d ∈ ds ∧ Well (S.set id w) id (n + 1) := by
  have hp : 0 < ds.length := List.length_pos_iff.mpr h0
  obtain ⟨r, w, q1, q2, q3, q4⟩ := draw_ok (ok := ok) (is := is) (k := k) hf (many := ds.length) hw hn (by omega) (by have := log2_lt hz (by decide); simp only [Int.natAbs_natCast]; omega)
  have hr : r.toNat < ds.length := by omega
  refine ⟨ds[r.toNat], w, ?_, List.getElem_mem hr, q4⟩
  rw [TT_fn hg]
  unfold funF
  let e0 : Env := [some (.val (.ref id)), some (.val (.lst ds))]
  have he : startE 2 [.ref id, .lst ds] = e0 := rfl
  rw [he]
  have hl : ev (TT ok fs is (k + 1)) ok (.blt .len (.cons (.var 1) .nil)) e0 S = .ok (.val (.int ds.length)) S := rfl
  have hc : ev (TT ok fs is (k + 1)) ok (.call 201 [.p 0, .p 1] (.cons (.var 0) (.cons (.blt .len (.cons (.var 1) .nil)) .nil)) .nil) e0 S = .ok (.val (.int r)) (S.set id w) := by
    rw [ev]
    exact call1 (S1 := S) (S2 := S) (ws := [.val (.ref id), .val (.int ds.length)]) (zs := []) (by rw [evs]; exact e_cons rfl (by rw [evs]; exact e_cons hl (by rw [evs]; exact e_nil))) (by rw [evs]; exact e_nil) rfl rfl rfl q1
  have ha : L2.atI ds r = some ds[r.toNat] := by
    have e1 : L2.ixN ds.length r = some r.toNat := by
      unfold L2.ixN
      rw [if_pos q2, if_pos (by omega)]
    unfold L2.atI
    rw [e1]
    exact List.getElem?_eq_getElem hr
  have hi : ev (TT ok fs is (k + 1)) ok (.idx (.var 1) (.call 201 [.p 0, .p 1] (.cons (.var 0) (.cons (.blt .len (.cons (.var 1) .nil)) .nil)) .nil)) e0 S = .ok (.val ds[r.toNat]) (S.set id w) := by
    rw [ev]
    refine (e_idx (r := .stuck) (e_var (w := .val (.lst ds)) rfl) hc).trans ?_
    show (match L2.atI ds r with | some x => (M.pure (.val x) : M Ow) | none => M.stuck) (S.set id w) = _
    rw [ha]; rfl
  unfold oneA
  rw [xss, s_r (by rw [xs]; exact s_ret hi)]
  rfl
end
end PV

set_option Elab.async false
set_option linter.all false
set_option maxRecDepth 100000
set_option maxHeartbeats 800000
/-! E8: _law_common of a list of whole numbers. -/
namespace PV
def commonA : Sms := (.cons (.set 1 (.int 0)) (.cons (.fr (.name 2) (.seq (.var 0)) (.cons (.set 2 (.blt .abs (.cons (.var 2) .nil))) (.cons (.wh (.cmp .gt (.var 2) (.int 0)) (.cons (.par 1 2 (.var 2) (.op .mod (.var 1) (.var 2))) .nil)) .nil))) (.cons (.ret (.var 1)) .nil)))
section
variable {ok : Okt} {fs : Nat → Option (Nat × Sms)} {is : Nat → Option (Nat × Nat × Sms)} {k i : Nat} {S : Store}
theorem common_ok (hg : fs i = some (3, commonA)) (l : List Int) : (TT ok fs is (k + 1)).fn i [.lst (iL l)] S = .ok (.int (gcds l : Nat)) S := by
  rw [TT_fn hg]
  unfold funF
  let T := TT ok fs is k
  let P : Nat → Env → Store → Prop := fun g e S' => S' = S ∧ e[0]? = some (some (.val (.lst (iL l)))) ∧ e[1]? = some (vi (g : Int)) ∧ e.length = 3
  have hl := forL_inv (chk := okSrc (.lst (iL l)) (iL l)) (tg := tgName 2) (b := xss T ok (.cons (.set 2 (.blt .abs (.cons (.var 2) .nil))) (.cons (.wh (.cmp .gt (.var 2) (.int 0)) (.cons (.par 1 2 (.var 2) (.op .mod (.var 1) (.var 2))) .nil)) .nil))) P
    (fun g d => match d with | .int x => Nat.gcd g x.natAbs | _ => g) (fun _ _ _ _ => rfl) (iL l) 0 [some (.val (.lst (iL l))), vi 0, none] S ⟨rfl, rfl, rfl, rfl⟩ (fun g y e S' hy ⟨h1, h2, h3, h4⟩ => ?_)
  · obtain ⟨e', S', h5, h6, h7, h8, h9⟩ := hl
    subst h6
    have h0 : xs T ok (.set 1 (.int 0)) (startE 3 [.lst (iL l)]) S' = .ok .nx [some (.val (.lst (iL l))), vi 0, none] S' := rfl
    have hfor : xs T ok (.fr (.name 2) (.seq (.var 0)) (.cons (.set 2 (.blt .abs (.cons (.var 2) .nil))) (.cons (.wh (.cmp .gt (.var 2) (.int 0)) (.cons (.par 1 2 (.var 2) (.op .mod (.var 1) (.var 2))) .nil)) .nil))) [some (.val (.lst (iL l))), vi 0, none] S' = .ok .nx e' S' := h5
    unfold commonA
    rw [xss, s_s h0, xss, s_s hfor, xss, xs]
    have hr : ev T ok (.var 1) e' S' = .ok (.val (.int (gcds l : Nat))) S' := by
      rw [ev]
      refine (e_var h8).trans ?_
      exact congrArg (fun n : Nat => Out.ok (Ow.val (D.int n)) S') (fold_ints (fun g x => Nat.gcd g x.natAbs) l 0)
    rw [s_r (s_ret hr)]; rfl
  · subst h1
    obtain ⟨x, hx, rfl⟩ := List.mem_map.mp hy
    let e1 : Env := (e.set 2 (vi x)).set 2 (vi (x.natAbs : Nat))
    have j1 : e1[1]? = some (vi (g : Int)) := by show ((e.set 2 _).set 2 _)[1]? = _; rw [List.getElem?_set_ne (by decide), List.getElem?_set_ne (by decide)]; exact h3
    have j2 : e1[2]? = some (vi ((x.natAbs : Nat) : Int)) := List.getElem?_set_self (by rw [List.length_set, h4]; decide)
    obtain ⟨m, hm⟩ := gcd_loop (T := T) (ok := ok) (i := 1) (j := 2) (by decide) x.natAbs g e1 S' j1 j2
    have hw := sWhile_eq hm
    refine ⟨e.set 2 (vi x), (e1.set 1 (vi ((Nat.gcd g x.natAbs : Nat) : Int))).set 2 (vi 0), S', rfl, ?_, rfl, ?_, ?_, by simp [e1, h4]⟩
    · have i2 : (e.set 2 (vi x))[2]? = some (vi x) := List.getElem?_set_self (by rw [h4]; decide)
      have ha : xs T ok (.set 2 (.blt .abs (.cons (.var 2) .nil))) (e.set 2 (vi x)) S' = .ok .nx e1 S' := by
        rw [xs]
        refine s_set (d := .int (x.natAbs : Nat)) (S1 := S') ?_
        rw [ev]
        unfold evF
        rw [bind_ap, evs, e_cons (S1 := S') (by rw [ev]; exact e_var i2) (by rw [evs]; exact e_nil), ← abs_nat x]
        rfl
      rw [xss, s_s ha, xss, s_s (by rw [xs]; exact hw), xss]
      rfl
    · rw [List.getElem?_set_ne (by decide), List.getElem?_set_ne (by decide)]
      show ((e.set 2 _).set 2 _)[0]? = _
      rw [List.getElem?_set_ne (by decide), List.getElem?_set_ne (by decide)]; exact h2
    · rw [List.getElem?_set_ne (by decide)]
      exact List.getElem?_set_self (by simp [e1, h4])
end
end PV

set_option Elab.async false
set_option linter.all false
set_option maxRecDepth 100000
set_option maxHeartbeats 800000
/-! E9: texts of fractions. -/
namespace PV
open PySem in
theorem strI_len {i : Int} (h : i.natAbs.log2 < 1920) : (strI i).length ≤ 2000 := by
  have e := int_text_length_le (k := 1920) (by decide) h
  have e2 : strI i = Str.ofString (toString i) := rfl
  rw [e2]
  have e3 : (Str.ofString (toString i)).length = (toString i).length := by
    rw [Str.ofString_eq_toList]
    show (List.toArray _).size = _
    rw [List.size_toArray, List.length_map]; rfl
  rw [e3]; omega
/-- a fraction's text, as both ways write it -/
def fracT (t b : Int) : PySem.Str := if b = 1 then strI t else strI t ++ PySem.Str.ofString "/" ++ strI b
section
variable {ok : Okt} {fs : Nat → Option (Nat × Sms)} {is : Nat → Option (Nat × Nat × Sms)} {k i : Nat} {S : Store}
theorem str_val {t : Int} (h : t.natAbs.log2 < 1920) : strF [.int t] S = .ok (.val (.str (strI t))) S := by
  show (if decide (t.natAbs.log2 < 1920) then (M.pure (Ow.val (D.str (strI t))) : M Ow) else M.stuck) S = _
  rw [if_pos (decide_eq_true h)]; rfl
theorem fmt_val {t : Int} {a : Env → M Ow} {e : Env} {S1 : Store} (ha : a e S = .ok (.val (.int t)) S1) (h : t.natAbs.log2 < 1920) : evFmt a e S = .ok (.val (.str (strI t))) S1 := by
  unfold evFmt
  refine (e_1 ha).trans ?_
  show (((if decide (t.natAbs.log2 < 1920) then M.pure (.str (strI t)) else M.stuck : M D) >>= fun x => (M.pure (.val x) : M Ow)) S1) = _
  rw [if_pos (decide_eq_true h)]; rfl
theorem part_val {f : Env → M Ow} {fsr : List (Env → M Ow)} {acc y : PySem.Str} {e : Env} {S1 : Store} (hf : f e S = .ok (.val (.str y)) S1) (hl : (acc ++ y).length ≤ line) : evParts (f :: fsr) acc e S = evParts fsr (acc ++ y) e S1 := by
  rw [evParts, bind_ap, hf]
  show (if (acc ++ y).length ≤ line then evParts fsr (acc ++ y) e else M.stuck) S1 = _
  rw [if_pos hl]
theorem str_app_len (a b : PySem.Str) : (a ++ b).length = a.length + b.length := by
  show (a.cps ++ b.cps).size = a.cps.size + b.cps.size
  rw [Array.size_append]
theorem fraction_ok (hg : fs 26 = some (3, Pg.b_fraction_text)) {t b : Int} {d : D} (hd : d = .tup [.int t, .int b] ∨ d = .lst [.int t, .int b]) (ht : t.natAbs.log2 < 1920) (hb : b.natAbs.log2 < 1920) :
    (TT ok fs is (k + 1)).fn 26 [d] S = .ok (.str (fracT t b)) S := by
  rw [TT_fn hg]
  unfold funF
  let T := TT ok fs is k
  let e1 : Env := [some (.val d), vi t, vi b]
  have h1 : xs T ok (.asg (.tup (.cons (.name 1) (.cons (.name 2) .nil))) (.var 0)) (startE 3 [d]) S = .ok .nx e1 S := by
    rcases hd with rfl | rfl <;> rfl
  have hv1 : ev T ok (.var 1) e1 S = .ok (.val (.int t)) S := by rw [ev]; exact e_var rfl
  have hv2 : ev T ok (.var 2) e1 S = .ok (.val (.int b)) S := by rw [ev]; exact e_var rfl
  have htest : tbx T ok (.cmp .eq (.var 2) (.int 1)) e1 S = .ok (decide (b = 1)) S := by
    rw [tbx]
    refine e_b ((e_2 hv2 (by rw [ev]; exact e_c)).trans ?_)
    show Out.ok (Ow.val (D.bl (PySem.PyData.eqv (.int b) (.int 1)))) S = _
    congr 3
  have hs : ev T ok (.blt .str (.cons (.var 1) .nil)) e1 S = .ok (.val (.str (strI t))) S := by
    rw [ev]
    unfold evF
    rw [bind_ap, evs, e_cons hv1 (by rw [evs]; exact e_nil)]
    exact str_val ht
  have l1 := strI_len ht
  have l2 := strI_len hb
  have hj : ev T ok (.joined (.cons (.fmt (.var 1)) (.cons (.str "/") (.cons (.fmt (.var 2)) .nil)))) e1 S = .ok (.val (.str (strI t ++ PySem.Str.ofString "/" ++ strI b))) S := by
    rw [ev]
    unfold evJoined
    have e0 : ∀ x : PySem.Str, PySem.Str.empty ++ x = x := fun x => by
      show PySem.Str.mk (#[] ++ x.cps) = x
      rw [Array.empty_append]
    have ls : (PySem.Str.ofString "/").length = 1 := by decide +kernel
    have f1 : ev T ok (.fmt (.var 1)) e1 S = .ok (.val (.str (strI t))) S := by rw [ev]; exact fmt_val hv1 ht
    have f2 : ev T ok (.fmt (.var 2)) e1 S = .ok (.val (.str (strI b))) S := by rw [ev]; exact fmt_val hv2 hb
    have f3 : ev T ok (.str "/") e1 S = .ok (.val (.str (PySem.Str.ofString "/"))) S := by rw [ev]; exact e_c
    rw [bind_ap, evj, part_val f1 (by rw [e0]; exact Nat.le_trans l1 (by decide)), e0, evj, part_val f3 (by rw [str_app_len, ls]; have : line = 1000000 := rfl; omega),
      evj, part_val f2 (by rw [str_app_len, str_app_len, ls]; have : line = 1000000 := rfl; omega), evj]
    rfl
  have hi : ev T ok (.ite (.cmp .eq (.var 2) (.int 1)) (.blt .str (.cons (.var 1) .nil)) (.joined (.cons (.fmt (.var 1)) (.cons (.str "/") (.cons (.fmt (.var 2)) .nil))))) e1 S = .ok (.val (.str (fracT t b))) S := by
    rw [ev]
    unfold evIf
    rw [bind_ap, htest]
    unfold fracT
    by_cases hq : b = 1
    · rw [if_pos hq, decide_eq_true hq]; exact hs
    · rw [if_neg hq, decide_eq_false hq]; exact hj
  unfold Pg.b_fraction_text
  rw [xss, s_s h1, xss, s_r (by rw [xs]; exact s_ret hi)]
  rfl
end
end PV

set_option Elab.async false
set_option linter.all false
set_option maxRecDepth 100000
set_option maxHeartbeats 800000
/-! E10: comprehensions. -/
namespace PV
section
variable {ok : Okt} {T : Tab} {S S1 : Store}
theorem chk_yes {chk : Store → Bool} (h : chk S = true) : chkS chk S = .ok () S := by unfold chkS; rw [if_pos h]
theorem noX_yes {α : Type} {m : M α} {a : α} (h : m S = .ok a S1) : noX m S = .ok a S1 := by unfold noX; rw [h]
/-- one item that is taken -/
theorem compL_step {chk : Store → Bool} {tg : D → Env → Option Env} {cond : Env → M Bool} {elt : Env → M Ow} {e0 e1 : Env} {y d : D} {ys ds : List D} {S2 S3 : Store} (hc : chk S = true) (h1 : tg y e0 = some e1) (h2 : cond e1 S = .ok true S1) (h3 : elt e1 S1 = .ok (.val d) S2)
    (h4 : compL chk tg cond elt e0 ys S2 = .ok ds S3) : compL chk tg cond elt e0 (y :: ys) S = .ok (d :: ds) S3 := by
  unfold compL
  rw [e_bind (chk_yes hc), h1, e_bind (show M.ofO (some e1) S = .ok e1 S from rfl), e_bind (noX_yes h2), if_pos rfl, e_bind (noX_yes h3), e_bind (show (Ow.val d).strict S2 = .ok d S2 from rfl), e_bind h4]
  rfl
theorem compL_skip {chk : Store → Bool} {tg : D → Env → Option Env} {cond : Env → M Bool} {elt : Env → M Ow} {e0 e1 : Env} {y : D} {ys ds : List D} {S3 : Store} (hc : chk S = true) (h1 : tg y e0 = some e1) (h2 : cond e1 S = .ok false S1)
    (h4 : compL chk tg cond elt e0 ys S1 = .ok ds S3) : compL chk tg cond elt e0 (y :: ys) S = .ok ds S3 := by
  unfold compL
  rw [e_bind (chk_yes hc), h1, e_bind (show M.ofO (some e1) S = .ok e1 S from rfl), e_bind (noX_yes h2), if_neg Bool.false_ne_true]
  exact h4
theorem compL_nil {chk : Store → Bool} {tg : D → Env → Option Env} {cond : Env → M Bool} {elt : Env → M Ow} {e0 : Env} (hc : chk S = true) : compL chk tg cond elt e0 [] S = .ok [] S := by
  unfold compL
  rw [e_bind (chk_yes hc)]
  rfl
theorem compL_pure {chk : Store → Bool} {tg : D → Env → Option Env} {cond : Env → M Bool} {elt : Env → M Ow} {e0 : Env} {f : D → D} (hc : chk S = true) : ∀ (ys : List D),
    (∀ y ∈ ys, ∃ e1, tg y e0 = some e1 ∧ cond e1 S = .ok true S ∧ elt e1 S = .ok (.val (f y)) S) → compL chk tg cond elt e0 ys S = .ok (ys.map f) S
  | [], _ => compL_nil hc
  | y :: ys, h => by
    obtain ⟨e1, h1, h2, h3⟩ := h y List.mem_cons_self
    exact compL_step hc h1 h2 h3 (compL_pure hc ys fun z hz => h z (List.mem_cons_of_mem _ hz))
/-- with a store that goes on -/
theorem compL_inv {chk : Store → Bool} {tg : D → Env → Option Env} {cond : Env → M Bool} {elt : Env → M Ow} {e0 : Env} (P : Nat → Store → Prop) (R : D → Prop) (hc : ∀ n S, P n S → chk S = true) : ∀ (ys : List D) (n : Nat) (S : Store), P n S →
    (∀ y ∈ ys, ∀ n S, P n S → ∃ e1 d S1, tg y e0 = some e1 ∧ cond e1 S = .ok true S ∧ elt e1 S = .ok (.val d) S1 ∧ R d ∧ P (n + 1) S1) → ∃ ds S1, compL chk tg cond elt e0 ys S = .ok ds S1 ∧ (∀ d ∈ ds, R d) ∧ ds.length = ys.length ∧ P (n + ys.length) S1
  | [], n, S, hp, _ => ⟨[], S, compL_nil (hc n S hp), (fun d hd => by cases hd), rfl, hp⟩
  | y :: ys, n, S, hp, h => by
    obtain ⟨e1, d, S1, h1, h2, h3, h4, h5⟩ := h y List.mem_cons_self n S hp
    obtain ⟨ds, S2, i1, i2, i3, i4⟩ := compL_inv P R hc ys (n + 1) S1 h5 fun z hz => h z (List.mem_cons_of_mem _ hz)
    refine ⟨d :: ds, S2, compL_step (hc n S hp) h1 h2 h3 i1, fun z hz => ?_, by simp [i3], by rw [List.length_cons, Nat.add_comm ys.length 1, ← Nat.add_assoc]; exact i4⟩
    rcases List.mem_cons.mp hz with q | q
    · subst q; exact h4
    · exact i2 z q
/-- the whole display -/
theorem comp_val {f : Env → M Wlk} {tg : D → Env → Option Env} {cond : Env → M Bool} {elt : Env → M Ow} {own : List Nat} {e : Env} {w : Wlk} {ds : List D} {S2 : Store} (hf : f e S = .ok w S1) (hl : w.ys.length ≤ line) (h : compL w.chk tg cond elt (wipeE e own) w.ys S1 = .ok ds S2) :
    evComp f tg cond elt own e S = .ok (.val (.lst ds)) S2 := by
  unfold evComp
  rw [e_bind hf, e_bind (show guardM (decide (w.ys.length ≤ line)) S1 = .ok () S1 by rw [decide_eq_true hl]; rfl), e_bind (noX_yes h)]
  rfl
end
end PV

set_option Elab.async false
set_option linter.all false
set_option maxRecDepth 100000
set_option maxHeartbeats 800000
/-! E11: Places.__init__, places_text's parts. -/
namespace PV
section
variable {ok : Okt} {fs : Nat → Option (Nat × Sms)} {is : Nat → Option (Nat × Nat × Sms)} {k : Nat} {S : Store}
theorem gcds_pos {l : List Int} {p : Nat} (hp : 0 < p) : gcds (l ++ [(p : Int)]) ≠ 0 ∧ gcds (l ++ [(p : Int)]) ≤ p := by
  unfold gcds
  rw [List.foldl_append]
  show Nat.gcd _ ((p : Int)).natAbs ≠ 0 ∧ Nat.gcd _ ((p : Int)).natAbs ≤ p
  rw [Int.natAbs_natCast]
  have h1 := Nat.gcd_le_right (m := (l.foldl (fun g x => Nat.gcd g x.natAbs) 0)) hp
  have h2 := Nat.gcd_pos_of_pos_right (l.foldl (fun g x => Nat.gcd g x.natAbs) 0) hp
  exact ⟨by omega, h1⟩
theorem src_val {a : Env → M Ow} {e : Env} {d : D} {ds : List D} (ha : a e S = .ok (.val d) S) (hd : seqOf S d = some ds) : evSrc a e S = .ok ⟨ds, okSrc d ds, false⟩ S := by
  unfold evSrc
  rw [e_bind ha]
  show srcD false d S = _
  unfold srcD
  rw [hd]
theorem places_ini (hf : fs 57 = some (2, Pg.b_shared)) (hg : fs 58 = some (3, Pg.b_shared_by)) (hi : is 20 = some (5, 20, Pg.b_Places)) (ho1 : ok.fld 20 "numbers" = true) (ho2 : ok.fld 20 "parts" = true) {d : D} {l : List Int} (hd : seqOf S d = some (iL l)) (hsrc : okSrc d (iL l) S = true)
    (hll : l.length < 1000) {p : Nat} (hp : 0 < p) (hz : p.log2 < 9000) :
    (TT ok fs is (k + 3)).ini 20 [d, .int p] S = .ok (["numbers", "parts"], [.tup (iL (l.map fun x => x.fdiv (gcds (l ++ [(p : Int)]) : Nat))), .int ((p : Int).fdiv (gcds (l ++ [(p : Int)]) : Nat))]) S := by
  rw [TT_ini hi]
  unfold iniF
  obtain ⟨g0, g2⟩ := gcds_pos (l := l) hp
  generalize hgg : gcds (l ++ [(p : Int)]) = g at g0 g2 ⊢
  have g1 : g.log2 < 9000 := by have := log2_le g2 g0; omega
  let T := TT ok fs is (k + 2)
  let e0 : Env := [some (.ins 20 [] []), some (.val d), vi (p : Int), none, none]
  let e1 : Env := [some (.ins 20 [] []), some (.val d), vi (p : Int), vi (g : Int), none]
  have hs : startI 5 20 [d, .int p] = e0 := rfl
  have h1 : xs T ok (.ifs (.cmp .lt (.var 2) (.int 1)) (.cons (.rz 0 (.cons (.str "parts") (.cons (.var 2) .nil))) .nil) .nil) e0 S = .ok .nx e0 S := by
    have ht : tbx T ok (.cmp .lt (.var 2) (.int 1)) e0 S = .ok false S := by
      have hd : decide ((p : Int) < 1) = false := decide_eq_false (by omega)
      rw [← hd]; rfl
    rw [xs, s_if ht]; rfl
  have h2 : xs T ok (.set 3 (.call 58 [.p 0] (.cons (.op .add (.blt .list (.cons (.var 1) .nil)) (.lst (.cons (.var 2) .nil))) .nil) .nil)) e0 S = .ok .nx e1 S := by
    have ha : ev T ok (.blt .list (.cons (.var 1) .nil)) e0 S = .ok (.val (.lst (iL l))) S := by
      rw [ev]; unfold evF
      rw [e_bind (show evs T ok (.cons (.var 1) .nil) e0 S = .ok [.val d] S from rfl)]
      show listF [d] S = _
      unfold listF
      dsimp only
      rw [hd]
    have hl : ev T ok (.lst (.cons (.var 2) .nil)) e0 S = .ok (.val (.lst [.int p])) S := rfl
    have hadd : ev T ok (.op .add (.blt .list (.cons (.var 1) .nil)) (.lst (.cons (.var 2) .nil))) e0 S = .ok (.val (.lst (iL (l ++ [(p : Int)])))) S := by
      rw [ev]
      refine (e_2 ha hl).trans ?_
      have hle : (iL l).length + ([D.int (p : Int)]).length ≤ line := by
        show (l.map D.int).length + 1 ≤ 1000000
        rw [List.length_map]; omega
      show (if (iL l).length + [D.int (p : Int)].length ≤ line then Out.ok (Ow.val (D.lst (iL l ++ [D.int (p : Int)]))) S else .stuck) = _
      rw [if_pos hle]
      unfold iL
      rw [List.map_append]; rfl
    rw [xs]
    refine (s_set (d := .int (g : Int)) (S1 := S) ?_).trans rfl
    rw [ev]
    refine call1 (S1 := S) (S2 := S) (ws := [.val (.lst (iL (l ++ [(p : Int)])))]) (zs := []) (by rw [evs]; exact e_cons hadd (by rw [evs]; exact e_nil)) (by rw [evs]; exact e_nil) rfl rfl rfl ?_
    refine (shared_by_ok (k := k) hf hg (l ++ [(p : Int)])).trans ?_
    rw [hgg]
  have h3 : ev T ok (.blt .tuple (.cons (.comp (.op .fdiv (.var 4) (.var 3)) (.name 4) (.seq (.var 1)) .no [4]) .nil)) e1 S = .ok (.val (.tup (iL (l.map fun x => x.fdiv g)))) S := by
    have hc : ev T ok (.comp (.op .fdiv (.var 4) (.var 3)) (.name 4) (.seq (.var 1)) .no [4]) e1 S = .ok (.val (.lst (iL (l.map fun x => x.fdiv g)))) S := by
      rw [ev]
      refine comp_val (w := ⟨iL l, okSrc d (iL l), false⟩) (S1 := S) ?_ ?_ ?_
      · rw [evr]
        exact src_val (by rw [ev]; exact e_var rfl) hd
      · show (l.map D.int).length ≤ 1000000
        rw [List.length_map]; omega
      · have := compL_pure (S := S) (chk := okSrc d (iL l)) (tg := tgName 4) (cond := evc T ok .no) (elt := ev T ok (.op .fdiv (.var 4) (.var 3))) (e0 := wipeE e1 [4]) (f := fun y => match y with | .int x => .int (x.fdiv g) | y => y) hsrc (iL l) fun y hy => ?_
        · refine this.trans ?_
          unfold iL
          rw [List.map_map, List.map_map]; rfl
        · obtain ⟨x, hx, rfl⟩ := List.mem_map.mp hy
          refine ⟨[some (.ins 20 [] []), some (.val d), vi (p : Int), vi (g : Int), vi x], rfl, rfl, ?_⟩
          rw [ev]
          exact (e_2 (S1 := S) (S2 := S) (x := .int x) (y := .int (g : Int)) rfl rfl).trans (fdiv_val g0 g1)
    rw [ev]; unfold evF
    rw [e_bind (show evs T ok (.cons (.comp (.op .fdiv (.var 4) (.var 3)) (.name 4) (.seq (.var 1)) .no [4]) .nil) e1 S = .ok [.val (.lst (iL (l.map fun x => x.fdiv g)))] S by rw [evs]; exact e_cons hc (by rw [evs]; exact e_nil))]
    rfl
  let e2 : Env := [some (.ins 20 ["numbers"] [.tup (iL (l.map fun x => x.fdiv g))]), some (.val d), vi (p : Int), vi (g : Int), none]
  have h4 : xs T ok (.self 0 "numbers" (.blt .tuple (.cons (.comp (.op .fdiv (.var 4) (.var 3)) (.name 4) (.seq (.var 1)) .no [4]) .nil))) e1 S = .ok .nx e2 S := by
    rw [xs]
    unfold sSelf
    rw [s_b h3]
    show (if ok.fld 20 "numbers" && decide (([] : List String).length < 900) then _ else _) = _
    rw [ho1]; rfl
  let e3 : Env := [some (.ins 20 ["numbers", "parts"] [.tup (iL (l.map fun x => x.fdiv g)), .int ((p : Int).fdiv g)]), some (.val d), vi (p : Int), vi (g : Int), none]
  have h5 : xs T ok (.self 0 "parts" (.op .fdiv (.var 2) (.var 3))) e2 S = .ok .nx e3 S := by
    have hv : ev T ok (.op .fdiv (.var 2) (.var 3)) e2 S = .ok (.val (.int ((p : Int).fdiv g))) S := by
      rw [ev]
      exact (e_2 (S1 := S) (S2 := S) (x := .int (p : Int)) (y := .int (g : Int)) rfl rfl).trans (fdiv_val g0 g1)
    rw [xs]
    unfold sSelf
    rw [s_b hv]
    show (if ok.fld 20 "parts" && decide (["numbers"].length < 900) then _ else _) = _
    rw [ho2]; rfl
  unfold Pg.b_Places
  rw [hs, xss, s_s h1, xss, s_s h2, xss, s_s h4, xss, s_s h5, xss]
  rfl
end
end PV

set_option Elab.async false
set_option linter.all false
set_option maxRecDepth 100000
set_option maxHeartbeats 800000
/-! E12: places_text. -/
namespace PV
open PySem L2
/-- a fraction's text, cut down -/
def lowT (a : Int) (b : Nat) : PySem.Str := fracT (a.fdiv (Nat.gcd a.natAbs b : Nat)) ((b : Int).fdiv (Nat.gcd a.natAbs b : Nat))
theorem fracT_len {t b : Int} (ht : t.natAbs.log2 < 1920) (hb : b.natAbs.log2 < 1920) : (fracT t b).length ≤ 4001 := by
  have l1 := strI_len ht
  have l2 := strI_len hb
  have ls : (PySem.Str.ofString "/").length = 1 := by decide +kernel
  unfold fracT
  split
  · omega
  · rw [str_app_len, str_app_len, ls]; omega
theorem log2_fdivG {a : Int} {g n : Nat} (h : a.natAbs.log2 < n) : (a.fdiv g).natAbs.log2 < n := by
  rw [Int.fdiv_eq_ediv_of_nonneg _ (Int.natCast_nonneg g)]
  have h1 : (a / (g : Int)).natAbs ≤ a.natAbs := Int.natAbs_ediv_le_natAbs _ _
  by_cases h0 : (a / (g : Int)).natAbs = 0
  · rw [h0]; simp; omega
  · have := log2_le h1 h0; omega
theorem lowT_len {a : Int} {b : Nat} (ha : a.natAbs.log2 < 1920) (hb : b.log2 < 1920) : (lowT a b).length ≤ 4001 := fracT_len (log2_fdivG ha) (log2_fdivG (by rw [Int.natAbs_natCast]; exact hb))
theorem strs_map {α : Type} (f : α → PySem.Str) : ∀ l : List α, strsOf (l.map fun x => D.str (f x)) = some (l.map f)
  | [] => rfl
  | x :: l => by
    show (strsOf (l.map fun x => D.str (f x))).map (f x :: ·) = _
    rw [strs_map f l]; rfl
theorem sum_le {α : Type} (f : α → Nat) (m : Nat) : ∀ l : List α, (∀ x ∈ l, f x ≤ m) → (l.map f).sum ≤ l.length * m
  | [], _ => by simp
  | x :: l, h => by
    have h1 := h x List.mem_cons_self
    have h2 := sum_le f m l fun y hy => h y (List.mem_cons_of_mem _ hy)
    rw [List.map_cons, List.sum_cons, List.length_cons, Nat.succ_mul]; omega
section
variable {ok : Okt} {fs : Nat → Option (Nat × Sms)} {is : Nat → Option (Nat × Nat × Sms)} {k : Nat} {S : Store} {T : Tab}
theorem join_val {α : Type} {a b : Env → M Ow} {e : Env} {f : α → PySem.Str} {l : List α} {S1 S2 : Store} (ha : a e S = .ok (.val (.str (PySem.Str.ofString " "))) S1) (hb : b e S1 = .ok (.val (.lst (l.map fun x => D.str (f x)))) S2) (hl : l.length ≤ 100) (hf : ∀ x ∈ l, (f x).length ≤ 4001) :
    evS1 joinD a b e S = .ok (.val (.str (Txt.join (PySem.Str.ofString " ") (l.map f)))) S2 := by
  unfold evS1
  rw [e_bind ha]
  dsimp only
  rw [e_bind hb]
  show joinD (PySem.Str.ofString " ") (.lst (l.map fun x => D.str (f x))) S2 = _
  unfold joinD
  have h1 : seqOf S2 (.lst (l.map fun x => D.str (f x))) = some (l.map fun x => D.str (f x)) := rfl
  have ls : (PySem.Str.ofString " ").length = 1 := by decide +kernel
  have h2 := sum_le (fun x => (f x).length) 4001 l hf
  have h3 : ((l.map f).map (·.length)).sum + (l.map f).length * (PySem.Str.ofString " ").length ≤ line := by
    rw [List.map_map, List.length_map, ls]
    have : line = 1000000 := rfl
    have h4 : (l.map ((fun x : PySem.Str => x.length) ∘ f)).sum ≤ l.length * 4001 := h2
    omega
  rw [h1]
  dsimp only
  rw [strs_map]
  dsimp only
  rw [if_pos h3]
theorem fld_val {a : Env → M Ow} {e : Env} {c : Nat} {ns : List String} {ds : List D} {f : String} {d : D} {S1 : Store} (ha : a e S = .ok (.val (.ins c ns ds)) S1) (ho : ok.fld c f = true) (hl : lookF ns ds f = some d) : ev1 (fldK ok f) a e S = .ok (.val d) S1 := by
  refine (e_1 ha).trans ?_
  show (if ok.fld c f then fldD f (.ins c ns ds) S1 else .stuck) = _
  rw [if_pos ho]
  show (match lookF ns ds f with | some x => Out.ok (Ow.val x) S1 | none => .stuck) = _
  rw [hl]
theorem places_text_ok (hf : fs 57 = some (2, Pg.b_shared)) (hg : fs 43 = some (3, Pg.b_lowest)) (h26 : fs 26 = some (3, Pg.b_fraction_text)) (h49 : fs 49 = some (2, Pg.b_places_text)) (ho1 : ok.fld 20 "numbers" = true) (ho2 : ok.fld 20 "parts" = true) {l : List Int} {q : Nat} (hq : 0 < q) (hz : q.log2 < 1920) (hl : l.length ≤ 100) (hx : ∀ x ∈ l, x.natAbs.log2 < 1920) :
    (TT ok fs is (k + 3)).fn 49 [.ins 20 ["numbers", "parts"] [.tup (iL l), .int q]] S = .ok (.str (Txt.join (PySem.Str.ofString " ") (l.map fun x => lowT x q))) S := by
  rw [TT_fn h49]
  unfold funF
  let T := TT ok fs is (k + 2)
  let d : D := .ins 20 ["numbers", "parts"] [.tup (iL l), .int q]
  let e0 : Env := [some (.val d), none]
  have hs : startE 2 [d] = e0 := rfl
  have hn : ev T ok (.fld "numbers" (.var 0)) e0 S = .ok (.val (.tup (iL l))) S := by
    rw [ev]; exact fld_val (S1 := S) (by rw [ev]; exact e_var rfl) ho1 rfl
  have hc : ev T ok (.comp (.call 26 [.p 0] (.cons (.call 43 [.p 0, .p 1] (.cons (.var 1) (.cons (.fld "parts" (.var 0)) .nil)) .nil) .nil) .nil) (.name 1) (.seq (.fld "numbers" (.var 0))) .no [1]) e0 S = .ok (.val (.lst (l.map fun x => D.str (lowT x q)))) S := by
    rw [ev]
    refine comp_val (w := ⟨iL l, okSrc (.tup (iL l)) (iL l), false⟩) (S1 := S) ?_ ?_ ?_
    · rw [evr]; exact src_val hn rfl
    · show (l.map D.int).length ≤ 1000000
      rw [List.length_map]; omega
    · have := compL_pure (S := S) (chk := okSrc (.tup (iL l)) (iL l)) (tg := tgName 1) (cond := evc T ok .no) (elt := ev T ok (.call 26 [.p 0] (.cons (.call 43 [.p 0, .p 1] (.cons (.var 1) (.cons (.fld "parts" (.var 0)) .nil)) .nil) .nil) .nil)) (e0 := wipeE e0 [1]) (f := fun y => match y with | .int x => .str (lowT x q) | y => y) rfl (iL l) fun y hy => ?_
      · refine this.trans ?_
        unfold iL
        rw [List.map_map]; rfl
      · obtain ⟨x, hx', rfl⟩ := List.mem_map.mp hy
        have hxb := hx x hx'
        let e1 : Env := [some (.val d), vi x]
        refine ⟨e1, rfl, rfl, ?_⟩
        have hp : ev T ok (.fld "parts" (.var 0)) e1 S = .ok (.val (.int q)) S := by
          rw [ev]; exact fld_val (S1 := S) (by rw [ev]; exact e_var rfl) ho2 rfl
        have h43 : ev T ok (.call 43 [.p 0, .p 1] (.cons (.var 1) (.cons (.fld "parts" (.var 0)) .nil)) .nil) e1 S = .ok (.val (.tup [.int (x.fdiv (Nat.gcd x.natAbs q : Nat)), .int ((q : Int).fdiv (Nat.gcd x.natAbs q : Nat))])) S := by
          rw [ev]
          exact call1 (S1 := S) (S2 := S) (ws := [.val (.int x), .val (.int q)]) (zs := []) (by rw [evs]; exact e_cons (by rw [ev]; exact e_var rfl) (by rw [evs]; exact e_cons hp (by rw [evs]; exact e_nil))) (by rw [evs]; exact e_nil) rfl rfl rfl (lowest_ok (k := k) hf hg x q hq (by omega))
        rw [ev]
        exact call1 (S1 := S) (S2 := S) (ws := [.val (.tup [.int (x.fdiv (Nat.gcd x.natAbs q : Nat)), .int ((q : Int).fdiv (Nat.gcd x.natAbs q : Nat))])]) (zs := []) (by rw [evs]; exact e_cons h43 (by rw [evs]; exact e_nil)) (by rw [evs]; exact e_nil) rfl rfl rfl
          (fraction_ok (k := k + 1) h26 (.inl rfl) (log2_fdivG hxb) (log2_fdivG (by rw [Int.natAbs_natCast]; exact hz)))
  have hj : ev T ok (.join (.str " ") (.comp (.call 26 [.p 0] (.cons (.call 43 [.p 0, .p 1] (.cons (.var 1) (.cons (.fld "parts" (.var 0)) .nil)) .nil) .nil) .nil) (.name 1) (.seq (.fld "numbers" (.var 0))) .no [1])) e0 S = .ok (.val (.str (Txt.join (PySem.Str.ofString " ") (l.map fun x => lowT x q)))) S := by
    rw [ev]
    exact join_val (S1 := S) (by rw [ev]; exact e_c) hc hl fun x hx' => lowT_len (hx x hx') hz
  unfold Pg.b_places_text
  rw [hs, xss, s_r (by rw [xs]; exact s_ret hj)]
  rfl
end
end PV

set_option Elab.async false
set_option linter.all false
set_option maxRecDepth 100000
set_option maxHeartbeats 400000
/-! W1: what is so behind an expression, a statement: rules that step through the data. -/
namespace PV
abbrev XP := Nat → List String → List D → Store → Prop
abbrev XS := Nat → List String → List D → Env → Store → Prop
def W {α : Type} (X : XP) (o : Out α) (Q : α → Store → Prop) : Prop := match o with
  | .ok a S => Q a S
  | .exc c ns ds S => X c ns ds S
  | .stuck => False
def okV (Q : D → Store → Prop) : Ow → Store → Prop
  | .val d, S => Q d S
  | _, _ => False
abbrev WV (X : XP) (o : Out Ow) (Q : D → Store → Prop) : Prop := W X o (okV Q)
def okL1 (Q : List D → Store → Prop) (ws : List Ow) (S : Store) : Prop := ∃ ds, stricts ws = some ds ∧ flats ws = some ds ∧ Q ds S
abbrev WL (X : XP) (o : Out (List Ow)) (Q : List D → Store → Prop) : Prop := W X o (okL1 Q)
def BrK (b : Bool) (P R : Prop) : Prop := (b = true → P) ∧ (b = false → R)
def BlK (Q : Bool → Store → Prop) (d : D) (S : Store) : Prop := ∃ b, d = .bl b ∧ Q b S
def StrK (Q : PySem.Str → Store → Prop) (d : D) (S : Store) : Prop := ∃ z, d = .str z ∧ Q z S
section
variable {α β : Type} {X : XP} {T : Tab} {ok : Okt} {e : Env} {S S1 : Store}
theorem W_of {o : Out α} {a : α} {Q : α → Store → Prop} (h : o = .ok a S1) (q : Q a S1) : W X o Q := by rw [h]; exact q
theorem W_mono {Y : XP} {o : Out α} {P Q : α → Store → Prop} (h : W X o P) (hq : ∀ a S, P a S → Q a S) (hx : ∀ c ns ds S, X c ns ds S → Y c ns ds S) : W Y o Q := by
  cases o with
  | ok a S => exact hq _ _ h
  | exc c ns ds S => exact hx _ _ _ _ h
  | stuck => exact h
def noE : XP := fun _ _ _ _ => False
theorem W_use {o : Out α} {P Q : α → Store → Prop} (h : W noE o P) (hq : ∀ a S, P a S → Q a S) : W X o Q := W_mono h hq fun _ _ _ _ h => h.elim
theorem W_get {o : Out α} {P : α → Store → Prop} (h : W noE o P) : ∃ a S, o = .ok a S ∧ P a S := by
  cases o with
  | ok a S => exact ⟨a, S, rfl, h⟩
  | exc c ns ds S => exact False.elim h
  | stuck => exact False.elim h
theorem W_bind {m : M α} {f : α → M β} {Q : β → Store → Prop} (h : W X (m S) fun a S1 => W X (f a S1) Q) : W X ((m >>= f) S) Q := by
  rw [bind_ap]
  cases q : m S with
  | ok a S1 => rw [q] at h; exact h
  | exc c ns ds S1 => rw [q] at h; exact h
  | stuck => rw [q] at h; exact h
theorem okV_get {Q : D → Store → Prop} {w : Ow} (h : okV Q w S) : ∃ d, w = .val d ∧ Q d S := by
  cases w with
  | val d => exact ⟨d, rfl, h⟩
  | _ => exact False.elim h
theorem okv {Q : D → Store → Prop} {d : D} (h : Q d S) : okV Q (.val d) S := h
/-! ### choices -/
theorem br_t {P R : Prop} (h : P) : BrK true P R := ⟨fun _ => h, fun q => nomatch q⟩
theorem br_f {P R : Prop} (h : R) : BrK false P R := ⟨fun q => (nomatch q), fun _ => h⟩
theorem br_is {b : Bool} {P R : Prop} (q : b = true) (h : P) : BrK b P R := by subst q; exact br_t h
theorem br_no {b : Bool} {P R : Prop} (q : b = false) (h : R) : BrK b P R := by subst q; exact br_f h
theorem br_if {α : Type} {b : Bool} {x y : Out α} {Q : α → Store → Prop} (h : BrK b (W X x Q) (W X y Q)) : W X (if b then x else y) Q := by
  cases b
  · exact h.2 rfl
  · exact h.1 rfl
theorem bl_k {Q : Bool → Store → Prop} {b : Bool} (h : Q b S) : BlK Q (.bl b) S := ⟨b, rfl, h⟩
/-! ### expressions -/
section
variable {Q : D → Store → Prop}
theorem v_var {i : Nat} {d : D} (h : e[i]? = some (some (.val d))) (q : Q d S) : WV X (ev T ok (.var i) e S) Q := by
  rw [ev]; exact W_of (e_var h) q
def VarK (o : Option (Option Ow)) (Q : D → Store → Prop) (S : Store) : Prop := ∃ d, o = some (some (.val d)) ∧ Q d S
theorem varK {d : D} (q : Q d S) : VarK (some (some (.val d))) Q S := ⟨d, rfl, q⟩
theorem v_varK {i : Nat} (h : VarK e[i]? Q S) : WV X (ev T ok (.var i) e S) Q := by
  obtain ⟨d, h, q⟩ := h
  exact v_var h q
theorem w_var {Q : Ow → Store → Prop} {i : Nat} {w : Ow} (h : e[i]? = some (some w)) (q : Q w S) : W X (ev T ok (.var i) e S) Q := by
  rw [ev]; exact W_of (e_var h) q
theorem v_int {i : Int} (q : Q (.int i) S) : WV X (ev T ok (.int i) e S) Q := q
theorem v_bl {i : Bool} (q : Q (.bl i) S) : WV X (ev T ok (.bl i) e S) Q := q
theorem v_non (q : Q .non S) : WV X (ev T ok .non e S) Q := q
theorem v_str {s : String} (q : Q (.str (PySem.Str.ofString s)) S) : WV X (ev T ok (.str s) e S) Q := q
theorem v_2 {k : D → D → M Ow} {fa fb : Env → M Ow} {R : Ow → Store → Prop} (h : WV X (fa e S) fun x S1 => WV X (fb e S1) fun y S2 => W X (k x y S2) R) : W X (ev2 k fa fb e S) R := by
  unfold ev2
  refine W_bind (W_mono h (fun w S1 h => ?_) fun _ _ _ _ h => h)
  obtain ⟨x, rfl, h⟩ := okV_get h
  refine W_bind (W_mono h (fun w S2 h => ?_) fun _ _ _ _ h => h)
  obtain ⟨y, rfl, h⟩ := okV_get h
  exact h
theorem v_1 {k : D → M Ow} {fa : Env → M Ow} {R : Ow → Store → Prop} (h : WV X (fa e S) fun x S1 => W X (k x S1) R) : W X (ev1 k fa e S) R := by
  unfold ev1
  refine W_bind (W_mono h (fun w S1 h => ?_) fun _ _ _ _ h => h)
  obtain ⟨x, rfl, h⟩ := okV_get h
  exact h
theorem v_op {o : Op} {a b : Ex} (h : WV X (ev T ok a e S) fun x S1 => WV X (ev T ok b e S1) fun y S2 => WV X (o.d x y S2) Q) : WV X (ev T ok (.op o a b) e S) Q := by rw [ev]; exact v_2 h
theorem v_cmp {o : Cp} {a b : Ex} (h : WV X (ev T ok a e S) fun x S1 => WV X (ev T ok b e S1) fun y S2 => WV X (o.d x y S2) Q) : WV X (ev T ok (.cmp o a b) e S) Q := by rw [ev]; exact v_2 h
theorem v_neg {a : Ex} (h : WV X (ev T ok a e S) fun x S1 => WV X (negD x S1) Q) : WV X (ev T ok (.neg a) e S) Q := by rw [ev]; exact v_1 h
theorem v_fld {f : String} {a : Ex} (h : WV X (ev T ok a e S) fun x S1 => WV X (fldK ok f x S1) Q) : WV X (ev T ok (.fld f a) e S) Q := by rw [ev]; exact v_1 h
theorem v_rev {a : Ex} (h : WV X (ev T ok a e S) fun x S1 => WV X (revD x S1) Q) : WV X (ev T ok (.rev a) e S) Q := by rw [ev]; exact v_1 h
theorem asB_k {f : Env → M Ow} {Q : Bool → Store → Prop} (h : WV X (f e S) (BlK Q)) : W X (asB f e S) Q := by
  unfold asB
  refine W_bind (W_mono h (fun w S1 h => ?_) fun _ _ _ _ h => h)
  obtain ⟨x, rfl, b, rfl, h1⟩ := okV_get h
  exact h1
theorem v_not {a : Ex} (h : WV X (ev T ok a e S) (BlK fun b S1 => Q (.bl (!b)) S1)) : WV X (ev T ok (.not a) e S) Q := by
  rw [ev]; unfold evNot
  exact W_bind (asB_k h)
theorem v_and {a b : Ex} (h : WV X (ev T ok a e S) (BlK fun c S1 => BrK c (WV X (ev T ok b e S1) Q) (Q (.bl false) S1))) : WV X (ev T ok (.and a b) e S) Q := by
  rw [ev]; unfold evAnd
  refine W_bind (W_mono (asB_k h) (fun c S1 h => ?_) fun _ _ _ _ h => h)
  cases c
  · exact h.2 rfl
  · exact h.1 rfl
theorem v_or {a b : Ex} (h : WV X (ev T ok a e S) (BlK fun c S1 => BrK c (Q (.bl true) S1) (WV X (ev T ok b e S1) Q))) : WV X (ev T ok (.or a b) e S) Q := by
  rw [ev]; unfold evOr
  refine W_bind (W_mono (asB_k h) (fun c S1 h => ?_) fun _ _ _ _ h => h)
  cases c
  · exact h.2 rfl
  · exact h.1 rfl
theorem v_ite {t a b : Ex} (h : W X (tbx T ok t e S) fun c S1 => BrK c (WV X (ev T ok a e S1) Q) (WV X (ev T ok b e S1) Q)) : WV X (ev T ok (.ite t a b) e S) Q := by
  rw [ev]; unfold evIf
  refine W_bind (W_mono h (fun c S1 h => ?_) fun _ _ _ _ h => h)
  cases c
  · exact h.2 rfl
  · exact h.1 rfl
/-! lists of values -/
theorem l_nil {R : List D → Store → Prop} (q : R [] S) : WL X (evs T ok .nil e S) R := ⟨[], rfl, rfl, q⟩
theorem l_cons {R : List D → Store → Prop} {a : Ex} {r : Exs} (h : WV X (ev T ok a e S) fun d S1 => WL X (evs T ok r e S1) fun ds S2 => R (d :: ds) S2) : WL X (evs T ok (.cons a r) e S) R := by
  rw [evs]; unfold evCons
  refine W_bind (W_mono h (fun w S1 h => ?_) fun _ _ _ _ h => h)
  obtain ⟨d, rfl, h⟩ := okV_get h
  refine W_bind (W_mono h (fun ws S2 h => ?_) fun _ _ _ _ h => h)
  obtain ⟨ds, e1, e2, h⟩ := h
  refine ⟨d :: ds, ?_, ?_, h⟩
  · show (stricts ws).map (d :: ·) = _
    rw [e1]; rfl
  · show (match (some d : Option D), flats ws with | some d, some ds => some (d :: ds) | _, _ => none) = _
    rw [e2]
theorem v_k {k : List D → M Ow} {a : Env → M (List Ow)} {R : Ow → Store → Prop} (h : WL X (a e S) fun ds S1 => W X (k ds S1) R) : W X (evK k a e S) R := by
  unfold evK
  refine W_bind (W_mono h (fun ws S1 h => ?_) fun _ _ _ _ h => h)
  obtain ⟨ds, e1, e2, h⟩ := h
  refine W_bind ?_
  rw [e1]; exact h
theorem v_f {k : List D → M Ow} {a : Env → M (List Ow)} {R : Ow → Store → Prop} (h : WL X (a e S) fun ds S1 => W X (k ds S1) R) : W X (evF k a e S) R := by
  unfold evF
  refine W_bind (W_mono h (fun ws S1 h => ?_) fun _ _ _ _ h => h)
  obtain ⟨ds, e1, e2, h⟩ := h
  refine W_bind ?_
  rw [e2]; exact h
theorem evs_len : ∀ {as : Exs} {S S1 : Store} {ws : List Ow}, evs T ok as e S = .ok ws S1 → ws.length = as.len
  | .nil, _, _, _, h => by rw [evs] at h; cases h; rfl
  | .cons a r, _, _, _, h => by
    rw [evs] at h; unfold evCons at h
    obtain ⟨w, S2, h1, h⟩ := bind_ok h
    obtain ⟨ws, S3, h2, h⟩ := bind_ok h
    cases h
    rw [List.length_cons, evs_len h2]; rfl
theorem WL_len {as : Exs} {R : List D → Store → Prop} (h : WL X (evs T ok as e S) R) : WL X (evs T ok as e S) fun ds S1 => ds.length = as.len ∧ R ds S1 := by
  cases q : evs T ok as e S with
  | ok ws S1 =>
    rw [q] at h
    obtain ⟨ds, e1, e2, h⟩ := h
    exact ⟨ds, e1, e2, by rw [← stricts_len e1, evs_len q], h⟩
  | exc c ns ds S1 => rw [q] at h; exact h
  | stuck => rw [q] at h; exact h
theorem small_of {as : Exs} {ds : List D} (h : ds.length = as.len) (hl : as.len ≤ line) : ds.length ≤ line := by omega
theorem v_tup {as : Exs} (hl : decide (as.len ≤ line) = true) (h : WL X (evs T ok as e S) fun ds S1 => Q (.tup ds) S1) : WV X (ev T ok (.tup as) e S) Q := by
  rw [ev]; unfold evTup
  refine v_k (W_mono (WL_len h) (fun ws S1 ⟨ds, e1, e2, e3, h⟩ => ⟨ds, e1, e2, ?_⟩) fun _ _ _ _ h => h)
  dsimp only
  rw [if_pos (small_of e3 (of_decide_eq_true hl))]; exact h
theorem v_lst {as : Exs} (hl : decide (as.len ≤ line) = true) (h : WL X (evs T ok as e S) fun ds S1 => Q (.lst ds) S1) : WV X (ev T ok (.lst as) e S) Q := by
  rw [ev]; unfold evLst
  refine v_k (W_mono (WL_len h) (fun ws S1 ⟨ds, e1, e2, e3, h⟩ => ⟨ds, e1, e2, ?_⟩) fun _ _ _ _ h => h)
  dsimp only
  rw [if_pos (small_of e3 (of_decide_eq_true hl))]; exact h
theorem v_newl {as : Exs} (hl : decide (as.len ≤ line) = true) (h : WL X (evs T ok as e S) fun ds S1 => Q (.ref S1.length) (S1 ++ [.lst ds])) : WV X (ev T ok (.newl as) e S) Q := by
  rw [ev]; unfold evNewL
  refine W_bind (W_mono (WL_len h) (fun ws S1 h => ?_) fun _ _ _ _ h => h)
  obtain ⟨ds, e1, e2, e3, h⟩ := h
  refine W_bind ?_
  rw [e1]
  refine W_bind ?_
  rw [decide_eq_true (small_of e3 (of_decide_eq_true hl))]
  exact h
theorem v_blt {o : Bt} {as : Exs} (h : WL X (evs T ok as e S) fun ds S1 => WV X (o.d ds S1) Q) : WV X (ev T ok (.blt o as) e S) Q := by rw [ev]; exact v_f h
theorem v_call {f : Nat} {its : List Ar} {as ks : Exs} (h : WL X (evs T ok as e S) fun ds S1 => WL X (evs T ok ks e S1) fun es S2 => W X (T.fn f (putD its ds es) S2) Q) : WV X (ev T ok (.call f its as ks) e S) Q := by
  rw [ev]; unfold evCall
  refine W_bind (W_mono (WL_len h) (fun ws S1 h => ?_) fun _ _ _ _ h => h)
  obtain ⟨ds, e1, e2, e3, h⟩ := h
  refine W_bind (W_mono (WL_len h) (fun zs S2 h => ?_) fun _ _ _ _ h => h)
  obtain ⟨es, f1, f2, f3, h⟩ := h
  refine W_bind ?_
  rw [e1]
  refine W_bind ?_
  rw [f1]
  refine W_bind ?_
  rw [e3, f3, beq_self_eq_true, beq_self_eq_true]
  refine W_bind (W_mono h (fun d S3 h => h) fun _ _ _ _ h => h)
theorem v_mkF {c i : Nat} {its : List Ar} {as ks : Exs} (h : WL X (evs T ok as e S) fun ds S1 => WL X (evs T ok ks e S1) fun es S2 => W X (T.ini i (putD its ds es) S2) fun p S3 => Q (.ins c p.1 p.2) S3) : WV X (ev T ok (.mk c i false its as ks) e S) Q := by
  rw [ev]; unfold evMake
  refine W_bind (W_mono (WL_len h) (fun ws S1 h => ?_) fun _ _ _ _ h => h)
  obtain ⟨ds, e1, e2, e3, h⟩ := h
  refine W_bind (W_mono (WL_len h) (fun zs S2 h => ?_) fun _ _ _ _ h => h)
  obtain ⟨es, f1, f2, f3, h⟩ := h
  refine W_bind ?_
  rw [e1]
  refine W_bind ?_
  rw [f1]
  refine W_bind ?_
  rw [e3, f3, beq_self_eq_true, beq_self_eq_true]
  exact W_bind (W_mono h (fun d S3 h => h) fun _ _ _ _ h => h)
theorem v_idx {a i : Ex} (h : WV X (ev T ok a e S) fun x S1 => WV X (ev T ok i e S1) fun y S2 => WV X (idxD x y S2) Q) : WV X (ev T ok (.idx a i) e S) Q := by
  rw [ev]; unfold evIdx
  refine W_bind (W_mono h (fun w S1 h => ?_) fun _ _ _ _ h => h)
  obtain ⟨x, rfl, h⟩ := okV_get h
  refine W_bind (W_mono h (fun w S2 h => ?_) fun _ _ _ _ h => h)
  obtain ⟨y, rfl, h⟩ := okV_get h
  exact h
theorem o_no {R : Option Int → Store → Prop} (q : R none S) : W X (evOpt (evo T ok .no) e S) R := q
theorem o_yes {R : Option Int → Store → Prop} {a : Ex} {i : Int} {S1 : Store} (h : ev T ok a e S = .ok (.val (.int i)) S1) (q : R (some i) S1) : W X (evOpt (evo T ok (.yes a)) e S) R := by
  show W X ((ev T ok a e >>= _) S) R
  refine W_bind ?_
  rw [h]; exact q
theorem v_slc {a : Ex} {lo hi : Eo} (h : WV X (ev T ok a e S) fun x S1 => W X (evOpt (evo T ok lo) e S1) fun l S2 => W X (evOpt (evo T ok hi) e S2) fun u S3 => WV X (slcD l u x S3) Q) : WV X (ev T ok (.slc a lo hi) e S) Q := by
  rw [ev]; unfold evSlc
  refine W_bind (W_mono h (fun w S1 h => ?_) fun _ _ _ _ h => h)
  obtain ⟨x, rfl, h⟩ := okV_get h
  exact W_bind (W_mono h (fun l S2 h => W_bind (W_mono h (fun u S3 h => h) fun _ _ _ _ h => h)) fun _ _ _ _ h => h)
theorem str_k {R : PySem.Str → Store → Prop} {z : PySem.Str} (h : R z S) : StrK R (.str z) S := ⟨z, rfl, h⟩
theorem v_join {a b : Ex} (h : WV X (ev T ok a e S) (StrK fun z S1 => WV X (ev T ok b e S1) fun y S2 => WV X (joinD z y S2) Q)) : WV X (ev T ok (.join a b) e S) Q := by
  rw [ev]; unfold evS1
  refine W_bind (W_mono h (fun w S1 h => ?_) fun _ _ _ _ h => h)
  obtain ⟨x, rfl, z, rfl, h1⟩ := okV_get h
  refine W_bind (W_mono h1 (fun w S2 h => ?_) fun _ _ _ _ h => h)
  obtain ⟨y, rfl, h⟩ := okV_get h
  exact h
theorem v_fmt {a : Ex} (h : WV X (ev T ok a e S) fun x S1 => W X (fmtD x S1) Q) : WV X (ev T ok (.fmt a) e S) Q := by
  rw [ev]; unfold evFmt
  refine v_1 (W_mono h (fun w S1 h => ?_) fun _ _ _ _ h => h)
  obtain ⟨x, rfl, h⟩ := okV_get h
  exact W_bind (W_mono h (fun d S3 h => h) fun _ _ _ _ h => h)
theorem f_int {i : Int} (h : i.natAbs.log2 < 1920) (q : Q (.str (strI i)) S) : W X (fmtD (.int i) S) Q := by
  show W X ((if decide (i.natAbs.log2 < 1920) then M.pure (.str (strI i)) else M.stuck) S) Q
  rw [if_pos (decide_eq_true h)]; exact q
theorem f_str {i : PySem.Str} (h : i.length ≤ line) (q : Q (.str i) S) : W X (fmtD (.str i) S) Q := by
  show W X ((if i.length ≤ line then M.pure (.str i) else M.stuck) S) Q
  rw [if_pos h]; exact q
theorem j_nil {R : PySem.Str → Store → Prop} {acc : PySem.Str} (q : R acc S) : W X (evParts (evj T ok .nil) acc e S) R := q
theorem j_cons {R : PySem.Str → Store → Prop} {acc : PySem.Str} {a : Ex} {r : Exs} (h : WV X (ev T ok a e S) (StrK fun y S1 => (acc ++ y).length ≤ line ∧ W X (evParts (evj T ok r) (acc ++ y) e S1) R)) : W X (evParts (evj T ok (.cons a r)) acc e S) R := by
  rw [evj, evParts]
  refine W_bind (W_mono h (fun w S1 h => ?_) fun _ _ _ _ h => h)
  obtain ⟨x, rfl, z, rfl, h1, h2⟩ := okV_get h
  show W X ((if (acc ++ z).length ≤ line then evParts (evj T ok r) (acc ++ z) e else M.stuck) S1) R
  rw [if_pos h1]; exact h2
theorem v_joined {as : Exs} (h : W X (evParts (evj T ok as) PySem.Str.empty e S) fun z S1 => Q (.str z) S1) : WV X (ev T ok (.joined as) e S) Q := by
  rw [ev]; unfold evJoined
  exact W_bind (W_mono h (fun d S3 h => h) fun _ _ _ _ h => h)
/-! comprehensions -/
theorem noX_k {m : M α} {R : α → Store → Prop} (h : W noE (m S) R) : W X (noX m S) R := by
  obtain ⟨a, S1, q, h⟩ := W_get h
  unfold noX
  rw [q]; exact h
theorem v_comp {elt : Ex} {tg : Tg} {src : Sr} {cond : Eo} {own : List Nat} (h : W X (evr T ok src e S) fun w S1 => w.ys.length ≤ line ∧ W noE (compL w.chk (evt tg) (evc T ok cond) (ev T ok elt) (wipeE e own) w.ys S1) fun ds S2 => Q (.lst ds) S2) :
    WV X (ev T ok (.comp elt tg src cond own) e S) Q := by
  rw [ev]; unfold evComp
  refine W_bind (W_mono h (fun w S1 h => ?_) fun _ _ _ _ h => h)
  obtain ⟨h1, h2⟩ := h
  refine W_bind ?_
  rw [decide_eq_true h1]
  exact W_bind (W_mono (noX_k h2) (fun d S3 h => h) fun _ _ _ _ h => h)
theorem r_seq {R : Wlk → Store → Prop} {a : Ex} (h : WV X (ev T ok a e S) fun d S1 => ∃ ds, seqOf S1 d = some ds ∧ R ⟨ds, okSrc d ds, false⟩ S1) : W X (evr T ok (.seq a) e S) R := by
  rw [evr]; unfold evSrc
  refine W_bind (W_mono h (fun w S1 h => ?_) fun _ _ _ _ h => h)
  obtain ⟨x, rfl, ds, h1, h2⟩ := okV_get h
  show W X (srcD false x S1) R
  unfold srcD
  rw [h1]; exact h2
theorem r_rng1 {R : Wlk → Store → Prop} {a : Ex} (h : WV X (ev T ok a e S) fun d S1 => ∃ hi, d = .int hi ∧ okRg 0 hi = true ∧ R ⟨rangeD 0 hi, fun _ => true, false⟩ S1) : W X (evr T ok (.rng1 a) e S) R := by
  rw [evr]; unfold evRng
  refine W_bind (W_bind (W_mono h (fun w S1 h => ?_) fun _ _ _ _ h => h))
  obtain ⟨x, rfl, hi, rfl, h1, h2⟩ := okV_get h
  show W X ((if okRg 0 hi then M.pure ⟨rangeD 0 hi, fun _ => true, false⟩ else M.stuck) S1) R
  rw [if_pos h1]; exact h2
theorem r_rng2 {R : Wlk → Store → Prop} {a b : Ex} (h : WV X (ev T ok a e S) fun c S1 => WV X (ev T ok b e S1) fun d S2 => ∃ lo hi, c = .int lo ∧ d = .int hi ∧ okRg lo hi = true ∧ R ⟨rangeD lo hi, fun _ => true, false⟩ S2) : W X (evr T ok (.rng2 a b) e S) R := by
  rw [evr]; unfold evRng
  refine W_bind (W_bind (W_mono h (fun w S1 h => ?_) fun _ _ _ _ h => h))
  obtain ⟨x, rfl, h⟩ := okV_get h
  refine W_bind (W_bind (W_mono h (fun w S1 h => ?_) fun _ _ _ _ h => h))
  obtain ⟨x, rfl, lo, hi, rfl, rfl, h1, h2⟩ := okV_get h
  show W X ((if okRg lo hi then M.pure ⟨rangeD lo hi, fun _ => true, false⟩ else M.stuck) _) R
  rw [if_pos h1]; exact h2
theorem comp_rule {chk : Store → Bool} {tg : D → Env → Option Env} {cond : Env → M Bool} {elt : Env → M Ow} {e0 : Env} (I : List D → List D → Store → Prop) (hc : ∀ zs acc S, I zs acc S → chk S = true)
    (hs : ∀ y zs acc S, I (y :: zs) acc S → ∃ e1, tg y e0 = some e1 ∧ W noE (cond e1 S) fun b S1 => BrK b (WV noE (elt e1 S1) fun d S2 => I zs (acc ++ [d]) S2) (I zs acc S1)) :
    ∀ (ys acc : List D) (S : Store), I ys acc S → W noE (compL chk tg cond elt e0 ys S) fun ds S1 => I [] (acc ++ ds) S1
  | [], acc, S, h => by
    unfold compL
    refine W_bind (W_of (S1 := S) (a := ()) (by unfold chkS; rw [if_pos (hc _ _ _ h)]) ?_)
    show I [] (acc ++ []) S
    rw [List.append_nil]; exact h
  | y :: ys, acc, S, h => by
    obtain ⟨e1, q, h1⟩ := hs y ys acc S h
    unfold compL
    refine W_bind (W_of (S1 := S) (a := ()) (by unfold chkS; rw [if_pos (hc _ _ _ h)]) ?_)
    refine W_bind ?_
    rw [q]
    refine W_bind (W_mono (noX_k h1) (fun b S1 h => ?_) fun _ _ _ _ h => h)
    cases b with
    | false => exact comp_rule I hc hs ys acc S1 (h.2 rfl)
    | true =>
      refine W_bind (W_mono (noX_k (h.1 rfl)) (fun w S2 h => ?_) fun _ _ _ _ h => h)
      obtain ⟨d, rfl, h⟩ := okV_get h
      refine W_bind (W_bind (W_mono (comp_rule I hc hs ys (acc ++ [d]) S2 h) (fun ds S3 h => ?_) fun _ _ _ _ h => h))
      show I [] (acc ++ (d :: ds)) S3
      rw [List.append_assoc] at h
      exact h
theorem comp_use {chk : Store → Bool} {tg : D → Env → Option Env} {cond : Env → M Bool} {elt : Env → M Ow} {e0 : Env} {ys : List D} {R : List D → Store → Prop} (I : List D → List D → Store → Prop) (h0 : I ys [] S) (hc : ∀ zs acc S, I zs acc S → chk S = true)
    (hs : ∀ y zs acc S, I (y :: zs) acc S → ∃ e1, tg y e0 = some e1 ∧ W noE (cond e1 S) fun b S1 => BrK b (WV noE (elt e1 S1) fun d S2 => I zs (acc ++ [d]) S2) (I zs acc S1))
    (hq : ∀ ds S1, I [] ds S1 → R ds S1) : W noE (compL chk tg cond elt e0 ys S) R := by
  refine W_mono (comp_rule I hc hs ys [] S h0) (fun ds S1 h => hq ds S1 ?_) fun _ _ _ _ h => h
  rw [List.nil_append] at h
  exact h
/-! ### tests -/
section
variable {R : Bool → Store → Prop}
theorem t_not {a : Ex} (h : W X (tbx T ok a e S) fun b S1 => R (!b) S1) : W X (tbx T ok (.not a) e S) R := by
  rw [tbx]; unfold tbNot
  exact W_bind (W_mono h (fun d S3 h => h) fun _ _ _ _ h => h)
theorem t_and {a b : Ex} (h : W X (tbx T ok a e S) fun c S1 => BrK c (W X (tbx T ok b e S1) R) (R false S1)) : W X (tbx T ok (.and a b) e S) R := by
  rw [tbx]; unfold tbAnd
  refine W_bind (W_mono h (fun c S3 h => ?_) fun _ _ _ _ h => h)
  cases c
  · exact h.2 rfl
  · exact h.1 rfl
theorem t_or {a b : Ex} (h : W X (tbx T ok a e S) fun c S1 => BrK c (R true S1) (W X (tbx T ok b e S1) R)) : W X (tbx T ok (.or a b) e S) R := by
  rw [tbx]; unfold tbOr
  refine W_bind (W_mono h (fun c S3 h => ?_) fun _ _ _ _ h => h)
  cases c
  · exact h.2 rfl
  · exact h.1 rfl
theorem t_cmp {o : Cp} {a b : Ex} (h : WV X (ev T ok a e S) fun x S1 => WV X (ev T ok b e S1) fun y S2 => WV X (o.d x y S2) (BlK R)) : W X (tbx T ok (.cmp o a b) e S) R := by
  rw [tbx]; exact asB_k (v_2 h)
theorem t_var {i : Nat} {b : Bool} (h : e[i]? = some (some (.val (.bl b)))) (q : R b S) : W X (tbx T ok (.var i) e S) R := by
  rw [tbx]; exact asB_k (W_of (e_var h) (bl_k q))
theorem t_varK {i : Nat} (h : VarK e[i]? (BlK R) S) : W X (tbx T ok (.var i) e S) R := by
  obtain ⟨d, h, b, rfl, q⟩ := h
  exact t_var h q
theorem t_bl {b : Bool} (q : R b S) : W X (tbx T ok (.bl b) e S) R := q
theorem t_call {f : Nat} {its : List Ar} {as ks : Exs} (h : WV X (ev T ok (.call f its as ks) e S) (BlK R)) : W X (tbx T ok (.call f its as ks) e S) R := by
  rw [tbx]; rw [ev] at h; exact asB_k h
theorem t_fld {f : String} {a : Ex} (h : WV X (ev T ok (.fld f a) e S) (BlK R)) : W X (tbx T ok (.fld f a) e S) R := by
  rw [tbx]; rw [ev] at h; exact asB_k h
theorem t_idx {a i : Ex} (h : WV X (ev T ok (.idx a i) e S) (BlK R)) : W X (tbx T ok (.idx a i) e S) R := by
  rw [tbx]; rw [ev] at h; exact asB_k h
theorem t_blt {o : Bt} {as : Exs} (h : WV X (ev T ok (.blt o as) e S) (BlK R)) : W X (tbx T ok (.blt o as) e S) R := by
  rw [tbx]; rw [ev] at h; exact asB_k h
theorem c_no (q : R true S) : W X (evc T ok .no e S) R := q
theorem c_yes {a : Ex} (h : W X (tbx T ok a e S) R) : W X (evc T ok (.yes a) e S) R := by rw [evc]; exact h
end
end
/-! ### extensions -/
theorem evAll_evj : ∀ as : Exs, evAll (evj T ok as) = evs T ok as
  | .nil => by rw [evj, evs]; rfl
  | .cons a r => by rw [evj, evs, evAll, evAll_evj r]
section
variable {Q : D → Store → Prop}
theorem v_E2 {k : D → D → M Ow} {a b : Ex} (h : WV X (ev T ok a e S) fun x S1 => WV X (ev T ok b e S1) fun y S2 => WV X (k x y S2) Q) : WV X (evE2 k (ev T ok a) (ev T ok b) e S) Q := by
  unfold evE2
  refine W_bind (W_mono h (fun w S1 h => ?_) fun _ _ _ _ h => h)
  obtain ⟨x, rfl, h1⟩ := okV_get h
  refine W_bind (W_mono h1 (fun w S2 h => ?_) fun _ _ _ _ h => h)
  obtain ⟨y, rfl, h2⟩ := okV_get h
  exact h2
theorem v_eqi {neg : Bool} {a b : Ex} (h : WV X (ev T ok a e S) fun x S1 => WV X (ev T ok b e S1) fun y S2 => WV X (eqiD (tq T ok) neg x y S2) Q) : WV X (ev T ok (.ext (.eqi neg) (.cons a (.cons b .nil))) e S) Q := by
  rw [ev]; exact v_E2 h
theorem v_inNo {a b : Ex} (h : WV X (ev T ok a e S) fun x S1 => WV X (ev T ok b e S1) fun y S2 => WV X (inNoD (tq T ok) x y S2) Q) : WV X (ev T ok (.ext .inNo (.cons a (.cons b .nil))) e S) Q := by
  rw [ev]; exact v_E2 h
theorem v_isi {c' : Nat} {a : Ex} (h : WV X (ev T ok a e S) fun x S1 => WV X (isiD ok.sub ok.dat c' x S1) Q) : WV X (ev T ok (.ext (.isi c') (.cons a .nil)) e S) Q := by
  rw [ev]
  show WV X (evIs ok.sub ok.dat c' (ev T ok a) e S) Q
  unfold evIs
  refine W_bind (W_mono h (fun w S1 h => ?_) fun _ _ _ _ h => h)
  obtain ⟨x, rfl, h1⟩ := okV_get h
  exact h1
theorem v_lm {m : Lm} {a : Ex} {as : Exs} (h : WV X (ev T ok a e S) fun x S1 => isL x S1 = .ok () S1 ∧ WL X (evs T ok as e S1) fun ds S2 => WV X (runL m x ds S2) Q) : WV X (ev T ok (.ext (.lm m) (.cons a as)) e S) Q := by
  rw [ev]
  show WV X (evLm m (ev T ok a) (evAll (evj T ok as)) e S) Q
  rw [evAll_evj]
  unfold evLm
  refine W_bind (W_mono h (fun w S1 h => ?_) fun _ _ _ _ h => h)
  obtain ⟨x, rfl, h1, h2⟩ := okV_get h
  refine W_bind (W_of (a := x) (S1 := S1) rfl ?_)
  refine W_bind (W_of h1 ?_)
  refine W_bind (W_mono h2 (fun ws S2 h => ?_) fun _ _ _ _ h => h)
  obtain ⟨ds, e1, e2, h3⟩ := h
  refine W_bind ?_
  rw [e1]; exact h3
theorem v_meth {c i n : Nat} {m : String} {a : Ex} {as : Exs} (h0 : ok.met c m = some (i, n)) (h : WV X (ev T ok a e S) fun x S1 => insC c m x S1 = .ok () S1 ∧ WL X (evs T ok as e S1) fun ds S2 => (ds.length + 1 == n) = true ∧ W X (T.fn i (x :: ds) S2) Q) : WV X (ev T ok (.ext (.meth c m) (.cons a as)) e S) Q := by
  rw [ev]
  show WV X ((match ok.met c m with | some (i, n) => evMeth c m n (T.fn i) (ev T ok a) (evAll (evj T ok as)) | none => fun _ => M.stuck) e S) Q
  rw [evAll_evj, h0]
  show WV X (evMeth c m n (T.fn i) (ev T ok a) (evs T ok as) e S) Q
  unfold evMeth
  refine W_bind (W_mono h (fun w S1 h => ?_) fun _ _ _ _ h => h)
  obtain ⟨x, rfl, h1, h2⟩ := okV_get h
  refine W_bind (W_of (a := x) (S1 := S1) rfl ?_)
  refine W_bind (W_of h1 ?_)
  refine W_bind (W_mono h2 (fun ws S2 h => ?_) fun _ _ _ _ h => h)
  obtain ⟨ds, e1, e2, h3, h4⟩ := h
  refine W_bind ?_
  rw [e1]
  refine W_bind ?_
  rw [h3]
  exact W_bind (W_mono h4 (fun d S3 h => h) fun _ _ _ _ h => h)
theorem k_isiI {sub : Nat → Nat → Option Bool} {dat : Nat → Bool} {c c' : Nat} {ns : List String} {ds : List D} {b : Bool} (h : sub c c' = some b) (q : Q (.bl b) S) : WV X (isiD sub dat c' (.ins c ns ds) S) Q := by
  show WV X (match sub c c' with | some b => Out.ok (Ow.val (D.bl b)) S | none => .stuck) Q
  rw [h]; exact q
theorem k_isiD {sub : Nat → Nat → Option Bool} {dat : Nat → Bool} {c' : Nat} {d : D} (hd : isDat d = true) (h : dat c' = true) (q : Q (.bl false) S) : WV X (isiD sub dat c' d S) Q := by
  cases d <;> first | (exact absurd hd Bool.false_ne_true) | (unfold isiD; simp only [insOf, h]; exact q)
theorem k_eqin {neg : Bool} {c i : Nat} {ns ns' : List String} {ds ds' : List D} (h : ok.eqs c = some i) (q : W noE (T.fn i [.ins c ns ds, .ins c ns' ds'] S) fun d S' => ∃ b, d = .bl b ∧ Q (.bl (if neg then !b else b)) S') : WV X (eqiD (tq T ok) neg (.ins c ns ds) (.ins c ns' ds') S) Q := by
  obtain ⟨d, S', e1, b, e2, q⟩ := W_get q
  subst e2
  unfold eqiD
  simp only [insOf, if_true, tq, h, Option.map_some, e1]
  exact q
theorem k_inNo {c i : Nat} {ns : List String} {ds ys : List D} {S1 : Store} (h : ok.eqs c = some i) (hd : ys.all isDat = true) (hn : allNo (T.fn i) (.ins c ns ds) ys S = some S1) (q : Q (.bl false) S1) : WV X (inNoD (tq T ok) (.ins c ns ds) (.lst ys) S) Q := by
  unfold inNoD
  simp only [tq, h, Option.map_some, hd, if_true, hn]
  exact q
theorem t_ext {k : Xk} {as : Exs} {R : Bool → Store → Prop} (h : WV X (ev T ok (.ext k as) e S) (BlK R)) : W X (tbx T ok (.ext k as) e S) R := by
  rw [tbx]; rw [ev] at h; exact asB_k h
end
/-! ### what operators tell -/
section
variable {Q : D → Store → Prop}
theorem k_add {i j : Int} (q : Q (.int (i + j)) S) : WV X (Op.add.d (.int i) (.int j) S) Q := q
theorem k_adds {x y : PySem.Str} (h : x.length + y.length ≤ line) (q : Q (.str (x ++ y)) S) : WV X (Op.add.d (.str x) (.str y) S) Q := by
  show WV X (if x.length + y.length ≤ line then Out.ok (Ow.val (D.str (x ++ y))) S else .stuck) Q
  rw [if_pos h]; exact q
theorem k_addl {x y : List D} (h : x.length + y.length ≤ line) (q : Q (.lst (x ++ y)) S) : WV X (Op.add.d (.lst x) (.lst y) S) Q := by
  show WV X (if x.length + y.length ≤ line then Out.ok (Ow.val (D.lst (x ++ y))) S else .stuck) Q
  rw [if_pos h]; exact q
theorem k_addsl {x y : List D} (h : x.length + y.length ≤ line) (q : Q (.lst (x ++ y)) S) : WV X (Op.add.d (.scr x) (.lst y) S) Q := by
  show WV X (if x.length + y.length ≤ line then Out.ok (Ow.val (D.lst (x ++ y))) S else .stuck) Q
  rw [if_pos h]; exact q
theorem k_sub {i j : Int} (q : Q (.int (i - j)) S) : WV X (Op.sub.d (.int i) (.int j) S) Q := q
theorem k_mul {i j : Int} (h : okMul i j = true) (q : Q (.int (i * j)) S) : WV X (Op.mul.d (.int i) (.int j) S) Q := by
  show WV X ((if okMul i j then (M.pure (Ow.val (D.int (i * j))) : M Ow) else M.stuck) S) Q
  rw [if_pos h]; exact q
theorem k_mod {i j : Int} (h : okMod i j = true) (q : Q (.int (i.fmod j)) S) : WV X (Op.mod.d (.int i) (.int j) S) Q := by
  show WV X ((if okMod i j then (M.pure (Ow.val (D.int (i.fmod j))) : M Ow) else M.stuck) S) Q
  rw [if_pos h]; exact q
theorem k_fdiv {i j : Int} (h : okDiv i j = true) (q : Q (.int (i.fdiv j)) S) : WV X (Op.fdiv.d (.int i) (.int j) S) Q := by
  show WV X ((if okDiv i j then (M.pure (Ow.val (D.int (i.fdiv j))) : M Ow) else M.stuck) S) Q
  rw [if_pos h]; exact q
theorem k_pow {i j : Int} (h : okPow i j = true) (q : Q (.int (i ^ j.toNat)) S) : WV X (Op.pow.d (.int i) (.int j) S) Q := by
  show WV X ((if okPow i j then (M.pure (Ow.val (D.int (i ^ j.toNat))) : M Ow) else M.stuck) S) Q
  rw [if_pos h]; exact q
theorem k_lt {i j : Int} (q : Q (.bl (decide (i < j))) S) : WV X (Cp.lt.d (.int i) (.int j) S) Q := q
theorem k_le {i j : Int} (q : Q (.bl (decide (i ≤ j))) S) : WV X (Cp.le.d (.int i) (.int j) S) Q := q
theorem k_gt {i j : Int} (q : Q (.bl (decide (j < i))) S) : WV X (Cp.gt.d (.int i) (.int j) S) Q := q
theorem k_ge {i j : Int} (q : Q (.bl (decide (j ≤ i))) S) : WV X (Cp.ge.d (.int i) (.int j) S) Q := q
theorem k_eqi {i j : Int} (q : Q (.bl (decide (i = j))) S) : WV X (Cp.eq.d (.int i) (.int j) S) Q := q
theorem k_nei {i j : Int} (q : Q (.bl (!decide (i = j))) S) : WV X (Cp.ne.d (.int i) (.int j) S) Q := q
theorem k_eqs {i j : PySem.Str} (q : Q (.bl (decide (i = j))) S) : WV X (Cp.eq.d (.str i) (.str j) S) Q := q
theorem k_nes {i j : PySem.Str} (q : Q (.bl (!decide (i = j))) S) : WV X (Cp.ne.d (.str i) (.str j) S) Q := q
theorem k_neg {i : Int} (q : Q (.int (-i)) S) : WV X (negD (.int i) S) Q := q
theorem b_abs {i : Int} (q : Q (.int (i.natAbs : Nat)) S) : WV X (Bt.abs.d [.int i] S) Q := by
  have e1 : ((i.natAbs : Nat) : Int) = if i < 0 then -i else i := by split <;> omega
  rw [e1] at q; exact q
theorem b_len {d : D} {ds : List D} (h : seqOf S d = some ds) (q : Q (.int ds.length) S) : WV X (Bt.len.d [d] S) Q := by
  show WV X (lenF [d] S) Q
  cases d <;> first | (unfold lenF; dsimp only; rw [h]; exact q) | cases h
theorem b_list {d : D} {ds : List D} (h : seqOf S d = some ds) (q : Q (.lst ds) S) : WV X (Bt.list.d [d] S) Q := by
  show WV X (listF [d] S) Q
  unfold listF; dsimp only; rw [h]; exact q
theorem b_tuple {d : D} {ds : List D} (h : seqOf S d = some ds) (q : Q (.tup ds) S) : WV X (Bt.tuple.d [d] S) Q := by
  show WV X (tupleF [d] S) Q
  unfold tupleF; dsimp only; rw [h]; exact q
theorem b_stri {i : Int} (h : i.natAbs.log2 < 1920) (q : Q (.str (strI i)) S) : WV X (Bt.str.d [.int i] S) Q := by
  show WV X ((if decide (i.natAbs.log2 < 1920) then (M.pure (.val (.str (strI i))) : M Ow) else M.stuck) S) Q
  rw [if_pos (decide_eq_true h)]; exact q
theorem b_strs {i : PySem.Str} (q : Q (.str i) S) : WV X (Bt.str.d [.str i] S) Q := q
theorem b_inti {i : Int} (q : Q (.int i) S) : WV X (Bt.int.d [.int i] S) Q := q
theorem b_intb {i : Bool} (q : Q (.int (if i then 1 else 0)) S) : WV X (Bt.int.d [.bl i] S) Q := q
theorem b_max2 {i j : Int} (q : Q (.int (if j > i then j else i)) S) : WV X (Bt.max2.d [.int i, .int j] S) Q := q
theorem b_min2 {i j : Int} (q : Q (.int (if j < i then j else i)) S) : WV X (Bt.min2.d [.int i, .int j] S) Q := q
theorem b_listN {d : D} {ds : List D} (h : seqOf S d = some ds) (q : Q (.ref S.length) (S ++ [.lst ds])) : WV X (Bt.listN.d [d] S) Q := by
  show WV X (newlF [d] S) Q
  unfold newlF; dsimp only; rw [h]; exact q
theorem x_lst {ds : List D} {i : Int} {d : D} (h : L2.atI ds i = some d) (q : Q d S) : WV X (idxD (.lst ds) (.int i) S) Q := by
  show WV X ((match L2.atI ds i with | some x => (M.pure (.val x) : M Ow) | none => M.stuck) S) Q
  rw [h]; exact q
theorem x_tup {ds : List D} {i : Int} {d : D} (h : L2.atI ds i = some d) (q : Q d S) : WV X (idxD (.tup ds) (.int i) S) Q := by
  show WV X ((match L2.atI ds i with | some x => (M.pure (.val x) : M Ow) | none => M.stuck) S) Q
  rw [h]; exact q
theorem f_ins {c : Nat} {ns : List String} {ds : List D} {f : String} {d : D} (ho : ok.fld c f = true) (hl : lookF ns ds f = some d) (q : Q d S) : WV X (fldK ok f (.ins c ns ds) S) Q := by
  show WV X (if ok.fld c f then fldD f (.ins c ns ds) S else .stuck) Q
  rw [if_pos ho]
  show WV X (match lookF ns ds f with | some x => Out.ok (Ow.val x) S | none => .stuck) Q
  rw [hl]; exact q
end
/-! ### statements -/
def WS (Z : XS) (o : OutS) (Q : Fl → Env → Store → Prop) : Prop := match o with
  | .ok f e S => Q f e S
  | .exc c ns ds e S => Z c ns ds e S
  | .stuck => False
def sqK (T : Tab) (ok : Okt) (Z : XS) (r : Sms) (Q : Fl → Env → Store → Prop) : Fl → Env → Store → Prop
  | .nx, e, S => WS Z (xss T ok r e S) Q
  | f, e, S => Q f e S
def retK (Q : D → Store → Prop) : Fl → Env → Store → Prop
  | .nx, _, S => Q .non S
  | .ret d, _, S => Q d S
  | _, _, _ => False
section
variable {Z : XS} {Q : Fl → Env → Store → Prop}
theorem WS_of {o : OutS} {f : Fl} {e1 : Env} (h : o = .ok f e1 S1) (q : Q f e1 S1) : WS Z o Q := by rw [h]; exact q
theorem WS_mono {Y : XS} {o : OutS} {P : Fl → Env → Store → Prop} (h : WS Z o P) (hq : ∀ f e S, P f e S → Q f e S) (hx : ∀ c ns ds e S, Z c ns ds e S → Y c ns ds e S) : WS Y o Q := by
  cases o with
  | ok f e S => exact hq _ _ _ h
  | exc c ns ds e S => exact hx _ _ _ _ _ h
  | stuck => exact h
theorem WS_sb {m : Env → M α} {k : α → MS} (h : W (fun c ns ds S => Z c ns ds e S) (m e S) fun a S1 => WS Z (k a e S1) Q) : WS Z (sb m k e S) Q := by
  unfold sb
  cases q : m e S with
  | ok a S1 => rw [q] at h; exact h
  | exc c ns ds S1 => rw [q] at h; exact h
  | stuck => rw [q] at h; exact h
theorem s_nil (q : Q .nx e S) : WS Z (xss T ok .nil e S) Q := q
theorem s_cons {a : Sm} {r : Sms} (h : WS Z (xs T ok a e S) (sqK T ok Z r Q)) : WS Z (xss T ok (.cons a r) e S) Q := by
  rw [xss]; unfold ss
  cases q : xs T ok a e S with
  | ok f e1 S1 => rw [q] at h; cases f <;> exact h
  | exc c ns ds e1 S1 => rw [q] at h; exact h
  | stuck => rw [q] at h; exact h
theorem q_nx {r : Sms} (h : WS Z (xss T ok r e S) Q) : sqK T ok Z r Q .nx e S := h
theorem q_ret {r : Sms} {d : D} (h : Q (.ret d) e S) : sqK T ok Z r Q (.ret d) e S := h
theorem q_brk {r : Sms} (h : Q .brk e S) : sqK T ok Z r Q .brk e S := h
theorem q_cont {r : Sms} (h : Q .cont e S) : sqK T ok Z r Q .cont e S := h
theorem r_nx {R : D → Store → Prop} (h : R .non S) : retK R .nx e S := h
theorem r_ret {R : D → Store → Prop} {d : D} (h : R d S) : retK R (.ret d) e S := h
theorem s_pass (q : Q .nx e S) : WS Z (xs T ok .pass e S) Q := q
theorem s_brk (q : Q .brk e S) : WS Z (xs T ok .brk e S) Q := q
theorem s_cont (q : Q .cont e S) : WS Z (xs T ok .cont e S) Q := q
theorem s_retN (q : Q (.ret .non) e S) : WS Z (xs T ok .retN e S) Q := q
theorem s_ex {a : Ex} (h : W (fun c ns ds S => Z c ns ds e S) (ev T ok a e S) fun _ S1 => Q .nx e S1) : WS Z (xs T ok (.ex a) e S) Q := by
  rw [xs]; unfold sExpr; exact WS_sb h
theorem s_exv {a : Ex} (h : WV (fun c ns ds S => Z c ns ds e S) (ev T ok a e S) fun _ S1 => Q .nx e S1) : WS Z (xs T ok (.ex a) e S) Q := s_ex (W_mono h (fun w S1 h => by obtain ⟨d, _, h⟩ := okV_get h; exact h) fun _ _ _ _ h => h)
theorem s_rt {a : Ex} (h : WV (fun c ns ds S => Z c ns ds e S) (ev T ok a e S) fun d S1 => Q (.ret d) e S1) : WS Z (xs T ok (.ret a) e S) Q := by
  rw [xs]; unfold sRet
  refine WS_sb (W_mono h (fun w S1 h => ?_) fun _ _ _ _ h => h)
  obtain ⟨d, rfl, h⟩ := okV_get h
  exact h
theorem s_ifs {t : Ex} {a b : Sms} (h : W (fun c ns ds S => Z c ns ds e S) (tbx T ok t e S) fun c S1 => BrK c (WS Z (xss T ok a e S1) Q) (WS Z (xss T ok b e S1) Q)) : WS Z (xs T ok (.ifs t a b) e S) Q := by
  rw [xs]; unfold sIf
  refine WS_sb (W_mono h (fun c S1 h => ?_) fun _ _ _ _ h => h)
  cases c
  · exact h.2 rfl
  · exact h.1 rfl
theorem s_st {i : Nat} {a : Ex} (h : WV (fun c ns ds S => Z c ns ds e S) (ev T ok a e S) fun d S1 => Q .nx (e.set i (some (.val d))) S1) : WS Z (xs T ok (.set i a) e S) Q := by
  rw [xs]; unfold sSet
  refine WS_sb (W_mono h (fun w S1 h => ?_) fun _ _ _ _ h => h)
  obtain ⟨d, rfl, h⟩ := okV_get h
  exact h
theorem s_stc {i : Nat} {elt : Ex} {tg : Tg} {src : Sr} {cond : Eo} {own : List Nat} (h : WV (fun c ns ds S => Z c ns ds e S) (ev T ok (.comp elt tg src cond own) e S) fun d S1 => Q .nx (e.set i (some (.val d))) S1) : WS Z (xs T ok (.setc i elt tg src cond own) e S) Q := by
  rw [xs]; unfold sSet; rw [ev] at h
  refine WS_sb (W_mono h (fun w S1 h => ?_) fun _ _ _ _ h => h)
  obtain ⟨d, rfl, h⟩ := okV_get h
  exact h
theorem s_as {t : Tg} {a : Ex} (h : WV (fun c ns ds S => Z c ns ds e S) (ev T ok a e S) fun d S1 => ∃ e1, evt t d e = some e1 ∧ Q .nx e1 S1) : WS Z (xs T ok (.asg t a) e S) Q := by
  rw [xs]; unfold sTup
  refine WS_sb (W_mono h (fun w S1 h => ?_) fun _ _ _ _ h => h)
  obtain ⟨d, rfl, e1, h1, h⟩ := okV_get h
  dsimp only
  rw [h1]; exact h
theorem s_pr {i j : Nat} {a b : Ex} (h : WV (fun c ns ds S => Z c ns ds e S) (ev T ok a e S) fun x S1 => WV (fun c ns ds S => Z c ns ds e S) (ev T ok b e S1) fun y S2 => Q .nx ((e.set i (some (.val x))).set j (some (.val y))) S2) : WS Z (xs T ok (.par i j a b) e S) Q := by
  rw [xs]; unfold sPar
  refine WS_sb ?_
  unfold evCons
  refine W_bind (W_mono h (fun w S1 h => ?_) fun _ _ _ _ h => h)
  obtain ⟨x, rfl, h⟩ := okV_get h
  refine W_bind (W_bind (W_mono h (fun w S1 h => ?_) fun _ _ _ _ h => h))
  obtain ⟨y, rfl, h⟩ := okV_get h
  exact h
theorem s_fr {t : Tg} {s : Sr} {b : Sms} (h : W (fun c ns ds S => Z c ns ds e S) (evr T ok s e S) fun w S1 => w.own = false ∧ WS Z (forL w.chk (evt t) (xss T ok b) w.ys e S1) Q) : WS Z (xs T ok (.fr t s b) e S) Q := by
  rw [xs]; unfold sFor
  refine WS_sb (W_mono h (fun w S1 h => ?_) fun _ _ _ _ h => h)
  obtain ⟨h1, h⟩ := h
  rw [h1]; exact h
theorem s_sx {o i v : Ex} (h : WV (fun c ns ds S => Z c ns ds e S) (ev T ok v e S) fun z S1 => WV (fun c ns ds S => Z c ns ds e S) (ev T ok o e S1) fun x S2 => WV (fun c ns ds S => Z c ns ds e S) (ev T ok i e S2) fun y S3 => ∃ S4, setD x y z S3 = some S4 ∧ Q .nx e S4) : WS Z (xs T ok (.setIx o i v) e S) Q := by
  rw [xs]; unfold sSetIx
  refine WS_sb (W_mono h (fun w S1 h => ?_) fun _ _ _ _ h => h)
  obtain ⟨z, rfl, h⟩ := okV_get h
  refine WS_sb (W_mono h (fun w S1 h => ?_) fun _ _ _ _ h => h)
  obtain ⟨x, rfl, h⟩ := okV_get h
  refine WS_sb (W_mono h (fun w S1 h => ?_) fun _ _ _ _ h => h)
  obtain ⟨y, rfl, S4, h1, h⟩ := okV_get h
  show WS Z (nxO e (setD x y z _)) Q
  rw [h1]; exact h
theorem s_sf {i : Nat} {f : String} {v : Ex} (h : WV (fun c ns ds S => Z c ns ds e S) (ev T ok v e S) fun d S1 => ∃ c ns ds, e[i]? = some (some (.ins c ns ds)) ∧ ok.fld c f = true ∧ ns.length < 900 ∧ Q .nx (e.set i (some (.ins c (putFD f d ns ds).1 (putFD f d ns ds).2))) S1) : WS Z (xs T ok (.self i f v) e S) Q := by
  rw [xs]; unfold sSelf
  refine WS_sb (W_mono h (fun w S1 h => ?_) fun _ _ _ _ h => h)
  obtain ⟨d, rfl, c, ns, ds, h1, h2, h3, h⟩ := okV_get h
  rw [h1]
  show WS Z (if ok.fld c f && decide (ns.length < 900) then _ else _) Q
  rw [h2, decide_eq_true h3]; exact h
theorem s_rz {c : Nat} {as : Exs} {fl : List String} (hr : ok.rz c = some fl) (h : WL (fun c ns ds S => Z c ns ds e S) (evs T ok as e S) fun ds S1 => ds.length = fl.length ∧ fl.length ≤ 100 ∧ Z c fl.reverse ds.reverse e S1) : WS Z (xs T ok (.rz c as) e S) Q := by
  rw [xs, hr]
  show WS Z (sRaise c fl (evs T ok as) e S) Q
  unfold sRaise
  refine WS_sb (W_mono h (fun ws S1 h => ?_) fun _ _ _ _ h => h)
  obtain ⟨ds, e1, e2, h1, h2, h3⟩ := h
  rw [e1]
  show WS Z (if ds.length = fl.length ∧ fl.length ≤ 100 then .exc c fl.reverse ds.reverse e S1 else .stuck) Q
  rw [if_pos ⟨h1, h2⟩]; exact h3
def trK (ok : Okt) (c' i : Nat) (hs : Hs) (Z : XS) (Q : Fl → Env → Store → Prop) : XS := fun c ns ds e1 S1 => (ok.exm c c' = some true ∧ i < e1.length ∧ WS (fun _ _ _ _ _ => False) (hs.run ok i ⟨c, ns, ds⟩ (e1.set i none) S1) fun f e2 S2 => Q f (e2.set i none) S2) ∨ (ok.exm c c' = some false ∧ Z c ns ds e1 S1)
theorem s_tr {c' i : Nat} {b : Sms} {hs : Hs} (h : WS (trK ok c' i hs Z Q) (xss T ok b e S) Q) : WS Z (xs T ok (.tr c' i b hs) e S) Q := by
  rw [xs]
  unfold sTry
  cases q : xss T ok b e S with
  | ok f e1 S1 => rw [q] at h; exact h
  | stuck => rw [q] at h; exact h
  | exc c ns ds e1 S1 =>
    rw [q] at h
    rcases h with ⟨h1, h2, h3⟩ | ⟨h1, h2⟩
    · dsimp only
      rw [h1]
      dsimp only
      rw [if_pos h2]
      cases q2 : hs.run ok i ⟨c, ns, ds⟩ (e1.set i none) S1 with
      | ok f e2 S2 => rw [q2] at h3; exact h3
      | exc _ _ _ _ _ => rw [q2] at h3; exact False.elim h3
      | stuck => rw [q2] at h3; exact False.elim h3
    · dsimp only
      rw [h1]; exact h2
/-- a for loop -/
def lpK (Q : Fl → Env → Store → Prop) (I : Env → Store → Prop) : Fl → Env → Store → Prop
  | .nx, e, S => I e S
  | .cont, e, S => I e S
  | .brk, e, S => Q .nx e S
  | .ret d, e, S => Q (.ret d) e S
theorem l_nx {I : Env → Store → Prop} (h : I e S) : lpK Q I .nx e S := h
theorem l_ct {I : Env → Store → Prop} (h : I e S) : lpK Q I .cont e S := h
theorem l_brk {I : Env → Store → Prop} (h : Q .nx e S) : lpK Q I .brk e S := h
theorem l_ret {I : Env → Store → Prop} {d : D} (h : Q (.ret d) e S) : lpK Q I (.ret d) e S := h
theorem for_rule {chk : Store → Bool} {tg : D → Env → Option Env} {b : MS} (I : List D → Env → Store → Prop) (hc : ∀ zs e S, I zs e S → chk S = true)
    (hs : ∀ y zs e S, I (y :: zs) e S → ∃ e1, tg y e = some e1 ∧ WS Z (b e1 S) (lpK Q (I zs))) (hq : ∀ e S, I [] e S → Q .nx e S) :
    ∀ (ys : List D) (e : Env) (S : Store), I ys e S → WS Z (forL chk tg b ys e S) Q
  | [], e, S, h => by
    unfold forL
    rw [if_pos (hc _ _ _ h)]
    exact hq e S h
  | y :: ys, e, S, h => by
    obtain ⟨e1, q, h1⟩ := hs y ys e S h
    unfold forL
    rw [if_pos (hc _ _ _ h), q]
    dsimp only
    cases qb : b e1 S with
    | ok f e2 S2 =>
      rw [qb] at h1
      cases f with
      | nx => exact for_rule I hc hs hq ys e2 S2 h1
      | cont => exact for_rule I hc hs hq ys e2 S2 h1
      | brk => exact h1
      | ret d => exact h1
    | exc c ns ds e2 S2 => rw [qb] at h1; exact h1
    | stuck => rw [qb] at h1; exact h1
/-- a while loop, by a measure -/
theorem wh_rule {t : Ex} {b : Sms} (I : Nat → Env → Store → Prop)
    (hs : ∀ n e S, I n e S → W (fun c ns ds S => Z c ns ds e S) (tbx T ok t e S) fun c S1 => BrK c (WS Z (xss T ok b e S1) (lpK Q fun e2 S2 => ∃ m, m < n ∧ I m e2 S2)) (Q .nx e S1)) :
    ∀ (n : Nat) (e : Env) (S : Store), I n e S → WS Z (xs T ok (.wh t b) e S) Q := by
  have main : ∀ (n : Nat) (e : Env) (S : Store), I n e S → ∃ m o, whileN (tbx T ok t) (xss T ok b) m e S = some o ∧ WS Z o Q := by
    intro n
    induction n using Nat.strongRecOn with
    | ind n ih =>
      intro e S h
      have h1 := hs n e S h
      cases qt : tbx T ok t e S with
      | ok c S1 =>
        rw [qt] at h1
        cases c with
        | false => exact ⟨1, .ok .nx e S1, by unfold whileN; rw [qt], h1.2 rfl⟩
        | true =>
          have h2 := h1.1 rfl
          cases qb : xss T ok b e S1 with
          | ok f e2 S2 =>
            rw [qb] at h2
            cases f with
            | nx =>
              obtain ⟨m, hm, h3⟩ := h2
              obtain ⟨k, o, h4, h5⟩ := ih m hm e2 S2 h3
              exact ⟨k + 1, o, by unfold whileN; rw [qt]; dsimp only; rw [qb]; exact h4, h5⟩
            | cont =>
              obtain ⟨m, hm, h3⟩ := h2
              obtain ⟨k, o, h4, h5⟩ := ih m hm e2 S2 h3
              exact ⟨k + 1, o, by unfold whileN; rw [qt]; dsimp only; rw [qb]; exact h4, h5⟩
            | brk => exact ⟨1, .ok .nx e2 S2, by unfold whileN; rw [qt]; dsimp only; rw [qb], h2⟩
            | ret d => exact ⟨1, .ok (.ret d) e2 S2, by unfold whileN; rw [qt]; dsimp only; rw [qb], h2⟩
          | exc c ns ds e2 S2 => rw [qb] at h2; exact ⟨1, .exc c ns ds e2 S2, by unfold whileN; rw [qt]; dsimp only; rw [qb], h2⟩
          | stuck => rw [qb] at h2; exact False.elim h2
      | exc c ns ds S1 => rw [qt] at h1; exact ⟨1, .exc c ns ds e S1, by unfold whileN; rw [qt], h1⟩
      | stuck => rw [qt] at h1; exact False.elim h1
  intro n e S h
  obtain ⟨m, o, h1, h2⟩ := main n e S h
  rw [xs, sWhile_eq h1]; exact h2
end
section
variable {fs : Nat → Option (Nat × Sms)} {is : Nat → Option (Nat × Nat × Sms)} {k i n c : Nat} {b : Sms} {args : List D}
theorem w_fn {Q : D → Store → Prop} (hf : fs i = some (n, b)) (h : WS (fun c ns ds _ S => X c ns ds S) (xss (TT ok fs is k) ok b (startE n args) S) (retK Q)) : W X ((TT ok fs is (k + 1)).fn i args S) Q := by
  rw [TT_fn hf]
  unfold funF
  cases q : xss (TT ok fs is k) ok b (startE n args) S with
  | ok f e S1 => rw [q] at h; cases f <;> exact h
  | exc c ns ds e S1 => rw [q] at h; exact h
  | stuck => rw [q] at h; exact h
def iniK (c : Nat) (Q : Fds → Store → Prop) : Fl → Env → Store → Prop
  | .nx, e, S => ∃ ns ds, e[0]? = some (some (.ins c ns ds)) ∧ Q (ns, ds) S
  | .ret .non, e, S => ∃ ns ds, e[0]? = some (some (.ins c ns ds)) ∧ Q (ns, ds) S
  | _, _, _ => False
theorem w_ini {Q : Fds → Store → Prop} (hf : is i = some (n, c, b)) (h : WS (fun c ns ds e S => (∃ c' ns' ds', e[0]? = some (some (.ins c' ns' ds'))) ∧ X c ns ds S) (xss (TT ok fs is k) ok b (startI n c args) S) (iniK c Q)) : W X ((TT ok fs is (k + 1)).ini i args S) Q := by
  rw [TT_ini hf]
  unfold iniF
  cases q : xss (TT ok fs is k) ok b (startI n c args) S with
  | ok f e S1 =>
    rw [q] at h
    have fin : (∃ ns ds, e[0]? = some (some (.ins c ns ds)) ∧ Q (ns, ds) S1) → W X (insAt c S1 (e[0]?.getD none)) Q := by
      rintro ⟨ns, ds, h1, h2⟩
      rw [h1]
      show W X (if c = c then Out.ok (ns, ds) S1 else .stuck) Q
      rw [if_pos rfl]; exact h2
    cases f with
    | nx => exact fin h
    | ret d => cases d <;> first | exact fin h | exact False.elim h
    | _ => exact False.elim h
  | exc c' ns ds e S1 =>
    rw [q] at h
    obtain ⟨⟨c2, ns2, ds2, h1⟩, h2⟩ := h
    show W X (insExc (.exc c' ns ds S1) (e[0]?.getD none)) Q
    rw [h1]; exact h2
  | stuck => rw [q] at h; exact False.elim h
end
end
end PV

set_option Elab.async false
set_option linter.all false
set_option maxRecDepth 100000
set_option maxHeartbeats 800000
/-! M73a: k73's own text of a fraction. -/
namespace PV
def textA : Sms := (.cons (.set 2 (.call 204 [.p 0] (.cons (.lst (.cons (.var 0) (.cons (.var 1) .nil))) .nil) .nil)) (.cons (.ifs (.cmp .eq (.var 1) (.var 2)) (.cons (.ret (.blt .str (.cons (.op .fdiv (.var 0) (.var 2)) .nil))) .nil) .nil) (.cons (.ret (.op .add (.op .add (.blt .str (.cons (.op .fdiv (.var 0) (.var 2)) .nil)) (.str "/")) (.blt .str (.cons (.op .fdiv (.var 1) (.var 2)) .nil)))) .nil)))
theorem log2_fdiv {a : Int} {g n : Nat} (h : a.natAbs.log2 < n) : (a.fdiv g).natAbs.log2 < n := by
  rw [Int.fdiv_eq_ediv_of_nonneg _ (Int.natCast_nonneg g)]
  have h1 : (a / (g : Int)).natAbs ≤ a.natAbs := Int.natAbs_ediv_le_natAbs _ _
  by_cases h0 : (a / (g : Int)).natAbs = 0
  · rw [h0]; simp; omega
  · have := log2_le h1 h0; omega
theorem gcds2 (a b : Int) : gcds [a, b] = Nat.gcd a.natAbs b.natAbs := by
  show Nat.gcd (Nat.gcd 0 a.natAbs) b.natAbs = _
  rw [Nat.gcd_zero_left]
section
variable {ok : Okt} {fs : Nat → Option (Nat × Sms)} {is : Nat → Option (Nat × Nat × Sms)} {k : Nat} {S : Store}
theorem add_str {x y : PySem.Str} (h : x.length + y.length ≤ line) : Op.add.d (.str x) (.str y) S = .ok (.val (.str (x ++ y))) S := by
  show (if x.length + y.length ≤ line then Out.ok (Ow.val (D.str (x ++ y))) S else .stuck) = _
  rw [if_pos h]
theorem text_ok (hg : fs 205 = some (3, textA)) (hc : fs 204 = some (3, commonA)) (a : Int) (b : Nat) (hb : 0 < b) (ha : a.natAbs.log2 < 1920) (hz : b.log2 < 1920) :
    (TT ok fs is (k + 2)).fn 205 [.int a, .int b] S = .ok (.str (fracT (a.fdiv (Nat.gcd a.natAbs b : Nat)) ((b : Int).fdiv (Nat.gcd a.natAbs b : Nat)))) S := by
  rw [TT_fn hg]
  unfold funF
  generalize hgg : Nat.gcd a.natAbs b = g
  have g0 : g ≠ 0 := by have := Nat.gcd_pos_of_pos_right a.natAbs hb; omega
  have gle : g ≤ b := by rw [← hgg]; exact Nat.gcd_le_right _ hb
  have gd : g ∣ b := by rw [← hgg]; exact Nat.gcd_dvd_right _ _
  have g1 : g.log2 < 9000 := by have := log2_le gle g0; omega
  let T := TT ok fs is (k + 1)
  let e0 : Env := [vi a, vi (b : Int), none]
  let e1 : Env := [vi a, vi (b : Int), vi (g : Int)]
  have hs : startE 3 [.int a, .int b] = e0 := rfl
  have h1 : xs T ok (.set 2 (.call 204 [.p 0] (.cons (.lst (.cons (.var 0) (.cons (.var 1) .nil))) .nil) .nil)) e0 S = .ok .nx e1 S := by
    have hl : ev T ok (.lst (.cons (.var 0) (.cons (.var 1) .nil))) e0 S = .ok (.val (.lst (iL [a, b]))) S := rfl
    rw [xs]
    refine (s_set (d := .int (g : Int)) (S1 := S) ?_).trans rfl
    rw [ev]
    refine call1 (S1 := S) (S2 := S) (ws := [.val (.lst (iL [a, b]))]) (zs := []) (by rw [evs]; exact e_cons hl (by rw [evs]; exact e_nil)) (by rw [evs]; exact e_nil) rfl rfl rfl ?_
    refine (common_ok (k := k) hc [a, b]).trans ?_
    rw [gcds2, Int.natAbs_natCast, hgg]
  have q1 : ev T ok (.op .fdiv (.var 0) (.var 2)) e1 S = .ok (.val (.int (a.fdiv g))) S := by
    rw [ev]; exact (e_2 (S1 := S) (S2 := S) rfl rfl).trans (fdiv_val g0 g1)
  have q2 : ev T ok (.op .fdiv (.var 1) (.var 2)) e1 S = .ok (.val (.int ((b : Int).fdiv g))) S := by
    rw [ev]; exact (e_2 (S1 := S) (S2 := S) rfl rfl).trans (fdiv_val g0 g1)
  have l1 : (a.fdiv g).natAbs.log2 < 1920 := log2_fdiv ha
  have l2 : ((b : Int).fdiv g).natAbs.log2 < 1920 := log2_fdiv (by rw [Int.natAbs_natCast]; exact hz)
  have s1 : ev T ok (.blt .str (.cons (.op .fdiv (.var 0) (.var 2)) .nil)) e1 S = .ok (.val (.str (strI (a.fdiv g)))) S := by
    rw [ev]; unfold evF
    rw [bind_ap, evs, e_cons q1 (by rw [evs]; exact e_nil)]
    exact str_val l1
  have s2 : ev T ok (.blt .str (.cons (.op .fdiv (.var 1) (.var 2)) .nil)) e1 S = .ok (.val (.str (strI ((b : Int).fdiv g)))) S := by
    rw [ev]; unfold evF
    rw [bind_ap, evs, e_cons q2 (by rw [evs]; exact e_nil)]
    exact str_val l2
  have ht : tbx T ok (.cmp .eq (.var 1) (.var 2)) e1 S = .ok (decide ((b : Int) = g)) S := by
    rw [tbx]
    refine e_b ((e_2 (S1 := S) (S2 := S) rfl rfl).trans ?_)
    show Out.ok (Ow.val (D.bl (PySem.PyData.eqv (.int b) (.int g)))) S = _
    congr 3
  have n1 := strI_len l1
  have n2 := strI_len l2
  have ls : (PySem.Str.ofString "/").length = 1 := by decide +kernel
  have iff1 : ((b : Int).fdiv g = 1) ↔ ((b : Int) = g) := by
    rw [Int.fdiv_eq_ediv_of_nonneg _ (Int.natCast_nonneg g)]
    obtain ⟨c, rfl⟩ := gd
    have gp : (g : Int) ≠ 0 := by omega
    rw [Int.natCast_mul, Int.mul_ediv_cancel_left _ gp]
    constructor
    · intro h; rw [h]; simp
    · intro h
      have : (g : Int) * c = g * 1 := by rw [h]; simp
      exact Int.eq_of_mul_eq_mul_left gp this
  unfold textA fracT
  rw [hs, xss, s_s h1]
  by_cases hq : (b : Int) = g
  · have hi : xs T ok (.ifs (.cmp .eq (.var 1) (.var 2)) (.cons (.ret (.blt .str (.cons (.op .fdiv (.var 0) (.var 2)) .nil))) .nil) .nil) e1 S = .ok (.ret (.str (strI (a.fdiv g)))) e1 S := by
      rw [xs, s_if ht, decide_eq_true hq, if_pos rfl, xss]
      exact s_r (by rw [xs]; exact s_ret s1)
    rw [if_pos (iff1.mpr hq), xss, s_r hi]
    rfl
  · have hi : xs T ok (.ifs (.cmp .eq (.var 1) (.var 2)) (.cons (.ret (.blt .str (.cons (.op .fdiv (.var 0) (.var 2)) .nil))) .nil) .nil) e1 S = .ok .nx e1 S := by
      rw [xs, s_if ht, decide_eq_false hq]; rfl
    have hr : ev T ok (.op .add (.op .add (.blt .str (.cons (.op .fdiv (.var 0) (.var 2)) .nil)) (.str "/")) (.blt .str (.cons (.op .fdiv (.var 1) (.var 2)) .nil))) e1 S = .ok (.val (.str (strI (a.fdiv g) ++ PySem.Str.ofString "/" ++ strI ((b : Int).fdiv g)))) S := by
      rw [ev]
      refine (e_2 (x := .str (strI (a.fdiv g) ++ PySem.Str.ofString "/")) (S1 := S) ?_ s2).trans (add_str (by rw [str_app_len, ls]; have : line = 1000000 := rfl; omega))
      rw [ev]
      exact (e_2 s1 (by rw [ev]; exact e_c)).trans (add_str (by rw [ls]; have : line = 1000000 := rfl; omega))
    rw [if_neg fun h => hq (iff1.mp h), xss, s_s hi, xss, s_r (by rw [xs]; exact s_ret hr)]
    rfl
end
end PV

set_option Elab.async false
set_option linter.all false
set_option maxRecDepth 100000
set_option maxHeartbeats 800000
/-! M73b: k73's law. -/
namespace PV
open PySem in
theorem len13 {e : Env} (h : e.length = 13) : ∃ a0 a1 a2 a3 a4 a5 a6 a7 a8 a9 a10 a11 a12, e = [a0, a1, a2, a3, a4, a5, a6, a7, a8, a9, a10, a11, a12] := by
  match e, h with
  | [a0, a1, a2, a3, a4, a5, a6, a7, a8, a9, a10, a11, a12], _ => exact ⟨a0, a1, a2, a3, a4, a5, a6, a7, a8, a9, a10, a11, a12, rfl⟩
def allI (p : Int → Prop) : List D → Prop
  | [] => True
  | .int a :: r => p a ∧ allI p r
  | _ => False
theorem allI_mem {p : Int → Prop} {d : D} : ∀ {ds : List D}, d ∈ ds → allI p ds → ∃ a, d = .int a ∧ p a
  | [], h, _ => by cases h
  | x :: r, hm, h => by
    cases x with
    | int a =>
      rcases List.mem_cons.mp hm with q | q
      · exact ⟨a, q, h.1⟩
      · exact allI_mem q h.2
    | _ => exact False.elim h
def wellA : Sms := (.cons (.ret (.newl (.cons (.blt .abs (.cons (.var 0) .nil)) (.cons (.op .mod (.var 0) (.int 2147483629)) (.cons (.int 0) .nil))))) .nil)
section
variable {X : XP} {ok : Okt} {fs : Nat → Option (Nat × Sms)} {is : Nat → Option (Nat × Nat × Sms)} {k : Nat} {S : Store}
theorem well_w {Q : D → Store → Prop} (hg : fs 200 = some (1, wellA)) {c : Int} (h : ∀ S' id, Well S' id 0 → Q (.ref id) S') : W X ((TT ok fs is (k + 1)).fn 200 [.int c] S) Q := by
  refine w_fn hg ?_
  unfold wellA
  (repeat (first | ((with_reducible refine v_varK ?_); refine varK ?_) | ((with_reducible refine t_varK ?_); refine varK ?_) | with_reducible refine s_cons ?_ | with_reducible refine q_nx ?_ | with_reducible refine q_ret ?_ | with_reducible refine q_brk ?_ | with_reducible refine q_cont ?_ | with_reducible refine r_nx ?_ | with_reducible refine r_ret ?_ | with_reducible refine s_nil ?_ | with_reducible refine s_pass ?_ | with_reducible refine s_brk ?_ | with_reducible refine s_cont ?_ | with_reducible refine s_retN ?_ | with_reducible refine s_exv ?_ | with_reducible refine s_rt ?_ | with_reducible refine s_ifs ?_ | with_reducible refine s_st ?_ | with_reducible refine s_stc ?_ | with_reducible refine s_as ?_ | with_reducible refine s_pr ?_ | with_reducible refine s_fr ?_ | with_reducible refine v_int ?_ | with_reducible refine v_bl ?_ | with_reducible refine v_non ?_ | with_reducible refine v_str ?_ | with_reducible refine v_op ?_ | with_reducible refine v_cmp ?_ | with_reducible refine v_neg ?_ | with_reducible refine v_fld ?_ | with_reducible refine v_rev ?_ | with_reducible refine v_not ?_ | with_reducible refine v_and ?_ | with_reducible refine v_or ?_ | with_reducible refine v_ite ?_ | with_reducible refine l_nil ?_ | with_reducible refine l_cons ?_ | with_reducible refine v_blt ?_ | with_reducible refine v_call ?_ | with_reducible refine v_mkF ?_ | with_reducible refine v_idx ?_ | with_reducible refine v_slc ?_ | with_reducible refine v_join ?_ | with_reducible refine v_fmt ?_ | with_reducible refine j_nil ?_ | with_reducible refine j_cons ?_ | with_reducible refine v_joined ?_ | with_reducible refine v_comp ?_ | with_reducible refine r_seq ?_ | with_reducible refine r_rng1 ?_ | with_reducible refine r_rng2 ?_ | with_reducible refine t_not ?_ | with_reducible refine t_and ?_ | with_reducible refine t_or ?_ | with_reducible refine t_cmp ?_ | with_reducible refine t_bl ?_ | with_reducible refine t_call ?_ | with_reducible refine t_fld ?_ | with_reducible refine t_idx ?_ | with_reducible refine t_blt ?_ | with_reducible refine c_no ?_ | with_reducible refine c_yes ?_ | with_reducible refine k_add ?_ | with_reducible refine k_sub ?_ | with_reducible refine k_lt ?_ | with_reducible refine k_le ?_ | with_reducible refine k_gt ?_ | with_reducible refine k_ge ?_ | with_reducible refine k_eqi ?_ | with_reducible refine k_nei ?_ | with_reducible refine k_eqs ?_ | with_reducible refine k_nes ?_ | with_reducible refine k_neg ?_ | with_reducible refine b_abs ?_ | with_reducible refine b_strs ?_ | with_reducible refine b_inti ?_ | with_reducible refine b_intb ?_ | with_reducible refine b_max2 ?_ | with_reducible refine b_min2 ?_ | with_reducible refine bl_k ?_ | with_reducible refine str_k ?_ | with_reducible refine br_t ?_ | with_reducible refine br_f ?_ | with_reducible refine o_no ?_ | with_reducible refine l_nx ?_ | with_reducible refine l_ct ?_ | with_reducible refine l_brk ?_ | with_reducible refine l_ret ?_ | with_reducible refine s_sx ?_ | with_reducible refine s_sf ?_ | with_reducible refine okv ?_ | with_reducible refine v_eqi ?_ | with_reducible refine v_inNo ?_ | with_reducible refine v_isi ?_ | with_reducible refine v_lm ?_ | with_reducible refine t_ext ?_ | with_reducible refine s_tr ?_ | ((with_reducible refine v_tup ?_ ?_); exact rfl) | ((with_reducible refine v_lst ?_ ?_); exact rfl) | ((with_reducible refine v_newl ?_ ?_); exact rfl) | ((with_reducible refine k_pow ?_ ?_); exact rfl)))
  refine k_mod rfl ?_
  (repeat (first | ((with_reducible refine v_varK ?_); refine varK ?_) | ((with_reducible refine t_varK ?_); refine varK ?_) | with_reducible refine s_cons ?_ | with_reducible refine q_nx ?_ | with_reducible refine q_ret ?_ | with_reducible refine q_brk ?_ | with_reducible refine q_cont ?_ | with_reducible refine r_nx ?_ | with_reducible refine r_ret ?_ | with_reducible refine s_nil ?_ | with_reducible refine s_pass ?_ | with_reducible refine s_brk ?_ | with_reducible refine s_cont ?_ | with_reducible refine s_retN ?_ | with_reducible refine s_exv ?_ | with_reducible refine s_rt ?_ | with_reducible refine s_ifs ?_ | with_reducible refine s_st ?_ | with_reducible refine s_stc ?_ | with_reducible refine s_as ?_ | with_reducible refine s_pr ?_ | with_reducible refine s_fr ?_ | with_reducible refine v_int ?_ | with_reducible refine v_bl ?_ | with_reducible refine v_non ?_ | with_reducible refine v_str ?_ | with_reducible refine v_op ?_ | with_reducible refine v_cmp ?_ | with_reducible refine v_neg ?_ | with_reducible refine v_fld ?_ | with_reducible refine v_rev ?_ | with_reducible refine v_not ?_ | with_reducible refine v_and ?_ | with_reducible refine v_or ?_ | with_reducible refine v_ite ?_ | with_reducible refine l_nil ?_ | with_reducible refine l_cons ?_ | with_reducible refine v_blt ?_ | with_reducible refine v_call ?_ | with_reducible refine v_mkF ?_ | with_reducible refine v_idx ?_ | with_reducible refine v_slc ?_ | with_reducible refine v_join ?_ | with_reducible refine v_fmt ?_ | with_reducible refine j_nil ?_ | with_reducible refine j_cons ?_ | with_reducible refine v_joined ?_ | with_reducible refine v_comp ?_ | with_reducible refine r_seq ?_ | with_reducible refine r_rng1 ?_ | with_reducible refine r_rng2 ?_ | with_reducible refine t_not ?_ | with_reducible refine t_and ?_ | with_reducible refine t_or ?_ | with_reducible refine t_cmp ?_ | with_reducible refine t_bl ?_ | with_reducible refine t_call ?_ | with_reducible refine t_fld ?_ | with_reducible refine t_idx ?_ | with_reducible refine t_blt ?_ | with_reducible refine c_no ?_ | with_reducible refine c_yes ?_ | with_reducible refine k_add ?_ | with_reducible refine k_sub ?_ | with_reducible refine k_lt ?_ | with_reducible refine k_le ?_ | with_reducible refine k_gt ?_ | with_reducible refine k_ge ?_ | with_reducible refine k_eqi ?_ | with_reducible refine k_nei ?_ | with_reducible refine k_eqs ?_ | with_reducible refine k_nes ?_ | with_reducible refine k_neg ?_ | with_reducible refine b_abs ?_ | with_reducible refine b_strs ?_ | with_reducible refine b_inti ?_ | with_reducible refine b_intb ?_ | with_reducible refine b_max2 ?_ | with_reducible refine b_min2 ?_ | with_reducible refine bl_k ?_ | with_reducible refine str_k ?_ | with_reducible refine br_t ?_ | with_reducible refine br_f ?_ | with_reducible refine o_no ?_ | with_reducible refine l_nx ?_ | with_reducible refine l_ct ?_ | with_reducible refine l_brk ?_ | with_reducible refine l_ret ?_ | with_reducible refine s_sx ?_ | with_reducible refine s_sf ?_ | with_reducible refine okv ?_ | with_reducible refine v_eqi ?_ | with_reducible refine v_inNo ?_ | with_reducible refine v_isi ?_ | with_reducible refine v_lm ?_ | with_reducible refine t_ext ?_ | with_reducible refine s_tr ?_ | ((with_reducible refine v_tup ?_ ?_); exact rfl) | ((with_reducible refine v_lst ?_ ?_); exact rfl) | ((with_reducible refine v_newl ?_ ?_); exact rfl) | ((with_reducible refine k_pow ?_ ?_); exact rfl)))
  refine h _ _ ⟨(c.natAbs : Nat), c.fmod 2147483629, 0, ?_, ?_, ?_, by omega, by omega⟩
  · rw [List.getElem?_append_right (Nat.le_refl _), Nat.sub_self]; rfl
  · rw [Int.fmod_eq_emod_of_nonneg _ (by decide)]; omega
  · rw [Int.fmod_eq_emod_of_nonneg _ (by decide)]; omega
theorem draw_w {Q : D → Store → Prop} (hf : fs 201 = some (4, drawA)) {id n : Nat} {many : Int} (hw : Well S id n) (hn : n ≤ 1000000000) (hm : 0 < many) (hz : many.natAbs.log2 < 9000)
    (h : ∀ r w, 0 ≤ r → r < many → Well (S.set id w) id (n + 1) → Q (.int r) (S.set id w)) : W X ((TT ok fs is (k + 1)).fn 201 [.ref id, .int many] S) Q := by
  obtain ⟨r, w, q1, q2, q3, q4⟩ := draw_ok (ok := ok) (is := is) (k := k) hf hw hn hm hz
  exact W_of q1 (h r w q2 q3 q4)
theorem one_w {Q : D → Store → Prop} (hf : fs 201 = some (4, drawA)) (hg : fs 202 = some (2, oneA)) {id n : Nat} {ds : List D} (hw : Well S id n) (hn : n ≤ 1000000000) (h0 : ds ≠ []) (hz : ds.length < 2 ^ 100)
    (h : ∀ d w, d ∈ ds → Well (S.set id w) id (n + 1) → Q d (S.set id w)) : W X ((TT ok fs is (k + 2)).fn 202 [.ref id, .lst ds] S) Q := by
  obtain ⟨d, w, q1, q2, q3⟩ := one_ok (ok := ok) (is := is) (k := k) hf hg hw hn h0 hz
  exact W_of q1 (h d w q2 q3)
end
def turnA : Sms := (.cons (.set 7 (.call 202 [.p 0, .p 1] (.cons (.var 2) (.cons (.lst (.cons (.int 0) (.cons (.int 1) (.cons (.neg (.int 1)) (.cons (.int 7) (.cons (.neg (.int 12)) (.cons (.op .pow (.int 10) (.int 30)) (.cons (.op .sub (.op .sub (.int 0) (.op .pow (.int 10) (.int 30))) (.int 1)) (.cons (.op .sub (.call 201 [.p 0, .p 1] (.cons (.var 2) (.cons (.int 2001) .nil)) .nil) (.int 1000)) .nil))))))))) .nil)) .nil)) (.cons (.set 8 (.call 202 [.p 0, .p 1] (.cons (.var 2) (.cons (.lst (.cons (.int 1) (.cons (.int 1) (.cons (.int 2) (.cons (.int 3) (.cons (.int 12) (.cons (.op .pow (.int 10) (.int 29)) (.cons (.op .add (.int 1) (.call 201 [.p 0, .p 1] (.cons (.var 2) (.cons (.int 99) .nil)) .nil)) .nil)))))))) .nil)) .nil)) (.cons (.set 9 (.call 204 [.p 0] (.cons (.lst (.cons (.var 7) (.cons (.var 8) .nil))) .nil) .nil)) (.cons (.set 10 (.tup (.cons (.op .fdiv (.var 7) (.var 9)) (.cons (.op .fdiv (.var 8) (.var 9)) .nil)))) (.cons (.ifs (.or (.cmp .ne (.call 26 [.p 0] (.cons (.var 10) .nil) .nil) (.call 205 [.p 0, .p 1] (.cons (.var 7) (.cons (.var 8) .nil)) .nil)) (.cmp .ne (.call 26 [.k 0] .nil (.cons (.var 10) .nil)) (.call 205 [.p 0, .p 1] (.cons (.var 7) (.cons (.var 8) .nil)) .nil))) (.cons (.ret (.bl false)) .nil) .nil) (.cons (.ifs (.cmp .ne (.call 26 [.p 0] (.cons (.blt .list (.cons (.var 10) .nil)) .nil) .nil) (.call 205 [.p 0, .p 1] (.cons (.var 7) (.cons (.var 8) .nil)) .nil)) (.cons (.ret (.bl false)) .nil) .nil) .nil))))))
section
variable {Z : XS} {ok : Okt} {fs : Nat → Option (Nat × Sms)} {is : Nat → Option (Nat × Nat × Sms)} {k : Nat} {S : Store}
structure F73 (ok : Okt) (fs : Nat → Option (Nat × Sms)) (is : Nat → Option (Nat × Nat × Sms)) : Prop where
  f200 : fs 200 = some (1, wellA)
  f201 : fs 201 = some (4, drawA)
  f202 : fs 202 = some (2, oneA)
  f204 : fs 204 = some (3, commonA)
  f205 : fs 205 = some (3, textA)
  f26 : fs 26 = some (3, Pg.b_fraction_text)
  f43 : fs 43 = some (3, Pg.b_lowest)
  f49 : fs 49 = some (2, Pg.b_places_text)
  f57 : fs 57 = some (2, Pg.b_shared)
  f58 : fs 58 = some (3, Pg.b_shared_by)
  i20 : is 20 = some (5, 20, Pg.b_Places)
  o1 : ok.fld 20 "numbers" = true
  o2 : ok.fld 20 "parts" = true
def inE (id : Nat) (e : Env) : Prop := e.length = 13 ∧ e[2]? = some (some (.val (.ref id)))
theorem okDiv_of {i : Int} {g : Nat} (h : 0 < g) (hz : g < 2 ^ 200) : okDiv i (g : Int) = true := by
  unfold okDiv
  rw [Bool.and_eq_true]
  refine ⟨decide_eq_true (by omega), decide_eq_true ?_⟩
  have := log2_lt hz (by decide)
  rw [Int.natAbs_natCast]; omega
theorem turn_ok (F : F73 ok fs is) {id n : Nat} (hn : n ≤ 1000000) {e : Env} (he : inE id e) (hw : Well S id n) {Q : Fl → Env → Store → Prop} (hq : ∀ e2 S2, inE id e2 → Well S2 id (n + 4) → Q .nx e2 S2) :
    WS Z (xss (TT ok fs is (k + 4)) ok turnA e S) Q := by
  obtain ⟨hl, h2⟩ := he
  obtain ⟨a0, a1, a2, a3, a4, a5, a6, a7, a8, a9, a10, a11, a12, rfl⟩ := len13 hl
  cases h2
  unfold turnA
  (repeat (first | ((with_reducible refine v_varK ?_); refine varK ?_) | ((with_reducible refine t_varK ?_); refine varK ?_) | with_reducible refine s_cons ?_ | with_reducible refine q_nx ?_ | with_reducible refine q_ret ?_ | with_reducible refine q_brk ?_ | with_reducible refine q_cont ?_ | with_reducible refine r_nx ?_ | with_reducible refine r_ret ?_ | with_reducible refine s_nil ?_ | with_reducible refine s_pass ?_ | with_reducible refine s_brk ?_ | with_reducible refine s_cont ?_ | with_reducible refine s_retN ?_ | with_reducible refine s_exv ?_ | with_reducible refine s_rt ?_ | with_reducible refine s_ifs ?_ | with_reducible refine s_st ?_ | with_reducible refine s_stc ?_ | with_reducible refine s_as ?_ | with_reducible refine s_pr ?_ | with_reducible refine s_fr ?_ | with_reducible refine v_int ?_ | with_reducible refine v_bl ?_ | with_reducible refine v_non ?_ | with_reducible refine v_str ?_ | with_reducible refine v_op ?_ | with_reducible refine v_cmp ?_ | with_reducible refine v_neg ?_ | with_reducible refine v_fld ?_ | with_reducible refine v_rev ?_ | with_reducible refine v_not ?_ | with_reducible refine v_and ?_ | with_reducible refine v_or ?_ | with_reducible refine v_ite ?_ | with_reducible refine l_nil ?_ | with_reducible refine l_cons ?_ | with_reducible refine v_blt ?_ | with_reducible refine v_call ?_ | with_reducible refine v_mkF ?_ | with_reducible refine v_idx ?_ | with_reducible refine v_slc ?_ | with_reducible refine v_join ?_ | with_reducible refine v_fmt ?_ | with_reducible refine j_nil ?_ | with_reducible refine j_cons ?_ | with_reducible refine v_joined ?_ | with_reducible refine v_comp ?_ | with_reducible refine r_seq ?_ | with_reducible refine r_rng1 ?_ | with_reducible refine r_rng2 ?_ | with_reducible refine t_not ?_ | with_reducible refine t_and ?_ | with_reducible refine t_or ?_ | with_reducible refine t_cmp ?_ | with_reducible refine t_bl ?_ | with_reducible refine t_call ?_ | with_reducible refine t_fld ?_ | with_reducible refine t_idx ?_ | with_reducible refine t_blt ?_ | with_reducible refine c_no ?_ | with_reducible refine c_yes ?_ | with_reducible refine k_add ?_ | with_reducible refine k_sub ?_ | with_reducible refine k_lt ?_ | with_reducible refine k_le ?_ | with_reducible refine k_gt ?_ | with_reducible refine k_ge ?_ | with_reducible refine k_eqi ?_ | with_reducible refine k_nei ?_ | with_reducible refine k_eqs ?_ | with_reducible refine k_nes ?_ | with_reducible refine k_neg ?_ | with_reducible refine b_abs ?_ | with_reducible refine b_strs ?_ | with_reducible refine b_inti ?_ | with_reducible refine b_intb ?_ | with_reducible refine b_max2 ?_ | with_reducible refine b_min2 ?_ | with_reducible refine bl_k ?_ | with_reducible refine str_k ?_ | with_reducible refine br_t ?_ | with_reducible refine br_f ?_ | with_reducible refine o_no ?_ | with_reducible refine l_nx ?_ | with_reducible refine l_ct ?_ | with_reducible refine l_brk ?_ | with_reducible refine l_ret ?_ | with_reducible refine s_sx ?_ | with_reducible refine s_sf ?_ | with_reducible refine okv ?_ | with_reducible refine v_eqi ?_ | with_reducible refine v_inNo ?_ | with_reducible refine v_isi ?_ | with_reducible refine v_lm ?_ | with_reducible refine t_ext ?_ | with_reducible refine s_tr ?_ | ((with_reducible refine v_tup ?_ ?_); exact rfl) | ((with_reducible refine v_lst ?_ ?_); exact rfl) | ((with_reducible refine v_newl ?_ ?_); exact rfl) | ((with_reducible refine k_pow ?_ ?_); exact rfl)))
  refine draw_w F.f201 hw (by omega) (by decide) (by decide) fun r w r1 r2 hw1 => ?_
  (repeat (first | ((with_reducible refine v_varK ?_); refine varK ?_) | ((with_reducible refine t_varK ?_); refine varK ?_) | with_reducible refine s_cons ?_ | with_reducible refine q_nx ?_ | with_reducible refine q_ret ?_ | with_reducible refine q_brk ?_ | with_reducible refine q_cont ?_ | with_reducible refine r_nx ?_ | with_reducible refine r_ret ?_ | with_reducible refine s_nil ?_ | with_reducible refine s_pass ?_ | with_reducible refine s_brk ?_ | with_reducible refine s_cont ?_ | with_reducible refine s_retN ?_ | with_reducible refine s_exv ?_ | with_reducible refine s_rt ?_ | with_reducible refine s_ifs ?_ | with_reducible refine s_st ?_ | with_reducible refine s_stc ?_ | with_reducible refine s_as ?_ | with_reducible refine s_pr ?_ | with_reducible refine s_fr ?_ | with_reducible refine v_int ?_ | with_reducible refine v_bl ?_ | with_reducible refine v_non ?_ | with_reducible refine v_str ?_ | with_reducible refine v_op ?_ | with_reducible refine v_cmp ?_ | with_reducible refine v_neg ?_ | with_reducible refine v_fld ?_ | with_reducible refine v_rev ?_ | with_reducible refine v_not ?_ | with_reducible refine v_and ?_ | with_reducible refine v_or ?_ | with_reducible refine v_ite ?_ | with_reducible refine l_nil ?_ | with_reducible refine l_cons ?_ | with_reducible refine v_blt ?_ | with_reducible refine v_call ?_ | with_reducible refine v_mkF ?_ | with_reducible refine v_idx ?_ | with_reducible refine v_slc ?_ | with_reducible refine v_join ?_ | with_reducible refine v_fmt ?_ | with_reducible refine j_nil ?_ | with_reducible refine j_cons ?_ | with_reducible refine v_joined ?_ | with_reducible refine v_comp ?_ | with_reducible refine r_seq ?_ | with_reducible refine r_rng1 ?_ | with_reducible refine r_rng2 ?_ | with_reducible refine t_not ?_ | with_reducible refine t_and ?_ | with_reducible refine t_or ?_ | with_reducible refine t_cmp ?_ | with_reducible refine t_bl ?_ | with_reducible refine t_call ?_ | with_reducible refine t_fld ?_ | with_reducible refine t_idx ?_ | with_reducible refine t_blt ?_ | with_reducible refine c_no ?_ | with_reducible refine c_yes ?_ | with_reducible refine k_add ?_ | with_reducible refine k_sub ?_ | with_reducible refine k_lt ?_ | with_reducible refine k_le ?_ | with_reducible refine k_gt ?_ | with_reducible refine k_ge ?_ | with_reducible refine k_eqi ?_ | with_reducible refine k_nei ?_ | with_reducible refine k_eqs ?_ | with_reducible refine k_nes ?_ | with_reducible refine k_neg ?_ | with_reducible refine b_abs ?_ | with_reducible refine b_strs ?_ | with_reducible refine b_inti ?_ | with_reducible refine b_intb ?_ | with_reducible refine b_max2 ?_ | with_reducible refine b_min2 ?_ | with_reducible refine bl_k ?_ | with_reducible refine str_k ?_ | with_reducible refine br_t ?_ | with_reducible refine br_f ?_ | with_reducible refine o_no ?_ | with_reducible refine l_nx ?_ | with_reducible refine l_ct ?_ | with_reducible refine l_brk ?_ | with_reducible refine l_ret ?_ | with_reducible refine s_sx ?_ | with_reducible refine s_sf ?_ | with_reducible refine okv ?_ | with_reducible refine v_eqi ?_ | with_reducible refine v_inNo ?_ | with_reducible refine v_isi ?_ | with_reducible refine v_lm ?_ | with_reducible refine t_ext ?_ | with_reducible refine s_tr ?_ | ((with_reducible refine v_tup ?_ ?_); exact rfl) | ((with_reducible refine v_lst ?_ ?_); exact rfl) | ((with_reducible refine v_newl ?_ ?_); exact rfl) | ((with_reducible refine k_pow ?_ ?_); exact rfl)))
  refine one_w F.f201 F.f202 hw1 (by omega) (by simp) (by simp) fun d w1 hd hw2 => ?_
  obtain ⟨t, rfl, ht⟩ := allI_mem (p := fun a => a.natAbs < 2 ^ 100) hd ⟨by decide, by decide, by decide, by decide, by decide, by decide +kernel, by decide +kernel, by omega, trivial⟩
  (repeat (first | ((with_reducible refine v_varK ?_); refine varK ?_) | ((with_reducible refine t_varK ?_); refine varK ?_) | with_reducible refine s_cons ?_ | with_reducible refine q_nx ?_ | with_reducible refine q_ret ?_ | with_reducible refine q_brk ?_ | with_reducible refine q_cont ?_ | with_reducible refine r_nx ?_ | with_reducible refine r_ret ?_ | with_reducible refine s_nil ?_ | with_reducible refine s_pass ?_ | with_reducible refine s_brk ?_ | with_reducible refine s_cont ?_ | with_reducible refine s_retN ?_ | with_reducible refine s_exv ?_ | with_reducible refine s_rt ?_ | with_reducible refine s_ifs ?_ | with_reducible refine s_st ?_ | with_reducible refine s_stc ?_ | with_reducible refine s_as ?_ | with_reducible refine s_pr ?_ | with_reducible refine s_fr ?_ | with_reducible refine v_int ?_ | with_reducible refine v_bl ?_ | with_reducible refine v_non ?_ | with_reducible refine v_str ?_ | with_reducible refine v_op ?_ | with_reducible refine v_cmp ?_ | with_reducible refine v_neg ?_ | with_reducible refine v_fld ?_ | with_reducible refine v_rev ?_ | with_reducible refine v_not ?_ | with_reducible refine v_and ?_ | with_reducible refine v_or ?_ | with_reducible refine v_ite ?_ | with_reducible refine l_nil ?_ | with_reducible refine l_cons ?_ | with_reducible refine v_blt ?_ | with_reducible refine v_call ?_ | with_reducible refine v_mkF ?_ | with_reducible refine v_idx ?_ | with_reducible refine v_slc ?_ | with_reducible refine v_join ?_ | with_reducible refine v_fmt ?_ | with_reducible refine j_nil ?_ | with_reducible refine j_cons ?_ | with_reducible refine v_joined ?_ | with_reducible refine v_comp ?_ | with_reducible refine r_seq ?_ | with_reducible refine r_rng1 ?_ | with_reducible refine r_rng2 ?_ | with_reducible refine t_not ?_ | with_reducible refine t_and ?_ | with_reducible refine t_or ?_ | with_reducible refine t_cmp ?_ | with_reducible refine t_bl ?_ | with_reducible refine t_call ?_ | with_reducible refine t_fld ?_ | with_reducible refine t_idx ?_ | with_reducible refine t_blt ?_ | with_reducible refine c_no ?_ | with_reducible refine c_yes ?_ | with_reducible refine k_add ?_ | with_reducible refine k_sub ?_ | with_reducible refine k_lt ?_ | with_reducible refine k_le ?_ | with_reducible refine k_gt ?_ | with_reducible refine k_ge ?_ | with_reducible refine k_eqi ?_ | with_reducible refine k_nei ?_ | with_reducible refine k_eqs ?_ | with_reducible refine k_nes ?_ | with_reducible refine k_neg ?_ | with_reducible refine b_abs ?_ | with_reducible refine b_strs ?_ | with_reducible refine b_inti ?_ | with_reducible refine b_intb ?_ | with_reducible refine b_max2 ?_ | with_reducible refine b_min2 ?_ | with_reducible refine bl_k ?_ | with_reducible refine str_k ?_ | with_reducible refine br_t ?_ | with_reducible refine br_f ?_ | with_reducible refine o_no ?_ | with_reducible refine l_nx ?_ | with_reducible refine l_ct ?_ | with_reducible refine l_brk ?_ | with_reducible refine l_ret ?_ | with_reducible refine s_sx ?_ | with_reducible refine s_sf ?_ | with_reducible refine okv ?_ | with_reducible refine v_eqi ?_ | with_reducible refine v_inNo ?_ | with_reducible refine v_isi ?_ | with_reducible refine v_lm ?_ | with_reducible refine t_ext ?_ | with_reducible refine s_tr ?_ | ((with_reducible refine v_tup ?_ ?_); exact rfl) | ((with_reducible refine v_lst ?_ ?_); exact rfl) | ((with_reducible refine v_newl ?_ ?_); exact rfl) | ((with_reducible refine k_pow ?_ ?_); exact rfl)))
  refine draw_w F.f201 hw2 (by omega) (by decide) (by decide) fun r3 w r1 r2 hw1 => ?_
  (repeat (first | ((with_reducible refine v_varK ?_); refine varK ?_) | ((with_reducible refine t_varK ?_); refine varK ?_) | with_reducible refine s_cons ?_ | with_reducible refine q_nx ?_ | with_reducible refine q_ret ?_ | with_reducible refine q_brk ?_ | with_reducible refine q_cont ?_ | with_reducible refine r_nx ?_ | with_reducible refine r_ret ?_ | with_reducible refine s_nil ?_ | with_reducible refine s_pass ?_ | with_reducible refine s_brk ?_ | with_reducible refine s_cont ?_ | with_reducible refine s_retN ?_ | with_reducible refine s_exv ?_ | with_reducible refine s_rt ?_ | with_reducible refine s_ifs ?_ | with_reducible refine s_st ?_ | with_reducible refine s_stc ?_ | with_reducible refine s_as ?_ | with_reducible refine s_pr ?_ | with_reducible refine s_fr ?_ | with_reducible refine v_int ?_ | with_reducible refine v_bl ?_ | with_reducible refine v_non ?_ | with_reducible refine v_str ?_ | with_reducible refine v_op ?_ | with_reducible refine v_cmp ?_ | with_reducible refine v_neg ?_ | with_reducible refine v_fld ?_ | with_reducible refine v_rev ?_ | with_reducible refine v_not ?_ | with_reducible refine v_and ?_ | with_reducible refine v_or ?_ | with_reducible refine v_ite ?_ | with_reducible refine l_nil ?_ | with_reducible refine l_cons ?_ | with_reducible refine v_blt ?_ | with_reducible refine v_call ?_ | with_reducible refine v_mkF ?_ | with_reducible refine v_idx ?_ | with_reducible refine v_slc ?_ | with_reducible refine v_join ?_ | with_reducible refine v_fmt ?_ | with_reducible refine j_nil ?_ | with_reducible refine j_cons ?_ | with_reducible refine v_joined ?_ | with_reducible refine v_comp ?_ | with_reducible refine r_seq ?_ | with_reducible refine r_rng1 ?_ | with_reducible refine r_rng2 ?_ | with_reducible refine t_not ?_ | with_reducible refine t_and ?_ | with_reducible refine t_or ?_ | with_reducible refine t_cmp ?_ | with_reducible refine t_bl ?_ | with_reducible refine t_call ?_ | with_reducible refine t_fld ?_ | with_reducible refine t_idx ?_ | with_reducible refine t_blt ?_ | with_reducible refine c_no ?_ | with_reducible refine c_yes ?_ | with_reducible refine k_add ?_ | with_reducible refine k_sub ?_ | with_reducible refine k_lt ?_ | with_reducible refine k_le ?_ | with_reducible refine k_gt ?_ | with_reducible refine k_ge ?_ | with_reducible refine k_eqi ?_ | with_reducible refine k_nei ?_ | with_reducible refine k_eqs ?_ | with_reducible refine k_nes ?_ | with_reducible refine k_neg ?_ | with_reducible refine b_abs ?_ | with_reducible refine b_strs ?_ | with_reducible refine b_inti ?_ | with_reducible refine b_intb ?_ | with_reducible refine b_max2 ?_ | with_reducible refine b_min2 ?_ | with_reducible refine bl_k ?_ | with_reducible refine str_k ?_ | with_reducible refine br_t ?_ | with_reducible refine br_f ?_ | with_reducible refine o_no ?_ | with_reducible refine l_nx ?_ | with_reducible refine l_ct ?_ | with_reducible refine l_brk ?_ | with_reducible refine l_ret ?_ | with_reducible refine s_sx ?_ | with_reducible refine s_sf ?_ | with_reducible refine okv ?_ | with_reducible refine v_eqi ?_ | with_reducible refine v_inNo ?_ | with_reducible refine v_isi ?_ | with_reducible refine v_lm ?_ | with_reducible refine t_ext ?_ | with_reducible refine s_tr ?_ | ((with_reducible refine v_tup ?_ ?_); exact rfl) | ((with_reducible refine v_lst ?_ ?_); exact rfl) | ((with_reducible refine v_newl ?_ ?_); exact rfl) | ((with_reducible refine k_pow ?_ ?_); exact rfl)))
  refine one_w F.f201 F.f202 hw1 (by omega) (by simp) (by simp) fun d w1 hd hw2 => ?_
  obtain ⟨b, rfl, hb0, hb⟩ := allI_mem (p := fun a => 0 < a ∧ a.natAbs < 2 ^ 100) hd ⟨by decide, by decide, by decide, by decide, by decide, by decide +kernel, by omega, trivial⟩
  obtain ⟨b, rfl⟩ := Int.eq_ofNat_of_zero_le (Int.le_of_lt hb0)
  have hb1 : 0 < b := by omega
  rw [Int.natAbs_natCast] at hb
  have lt := log2_lt ht (by decide)
  have lb := log2_lt hb (by decide)
  (repeat (first | ((with_reducible refine v_varK ?_); refine varK ?_) | ((with_reducible refine t_varK ?_); refine varK ?_) | with_reducible refine s_cons ?_ | with_reducible refine q_nx ?_ | with_reducible refine q_ret ?_ | with_reducible refine q_brk ?_ | with_reducible refine q_cont ?_ | with_reducible refine r_nx ?_ | with_reducible refine r_ret ?_ | with_reducible refine s_nil ?_ | with_reducible refine s_pass ?_ | with_reducible refine s_brk ?_ | with_reducible refine s_cont ?_ | with_reducible refine s_retN ?_ | with_reducible refine s_exv ?_ | with_reducible refine s_rt ?_ | with_reducible refine s_ifs ?_ | with_reducible refine s_st ?_ | with_reducible refine s_stc ?_ | with_reducible refine s_as ?_ | with_reducible refine s_pr ?_ | with_reducible refine s_fr ?_ | with_reducible refine v_int ?_ | with_reducible refine v_bl ?_ | with_reducible refine v_non ?_ | with_reducible refine v_str ?_ | with_reducible refine v_op ?_ | with_reducible refine v_cmp ?_ | with_reducible refine v_neg ?_ | with_reducible refine v_fld ?_ | with_reducible refine v_rev ?_ | with_reducible refine v_not ?_ | with_reducible refine v_and ?_ | with_reducible refine v_or ?_ | with_reducible refine v_ite ?_ | with_reducible refine l_nil ?_ | with_reducible refine l_cons ?_ | with_reducible refine v_blt ?_ | with_reducible refine v_call ?_ | with_reducible refine v_mkF ?_ | with_reducible refine v_idx ?_ | with_reducible refine v_slc ?_ | with_reducible refine v_join ?_ | with_reducible refine v_fmt ?_ | with_reducible refine j_nil ?_ | with_reducible refine j_cons ?_ | with_reducible refine v_joined ?_ | with_reducible refine v_comp ?_ | with_reducible refine r_seq ?_ | with_reducible refine r_rng1 ?_ | with_reducible refine r_rng2 ?_ | with_reducible refine t_not ?_ | with_reducible refine t_and ?_ | with_reducible refine t_or ?_ | with_reducible refine t_cmp ?_ | with_reducible refine t_bl ?_ | with_reducible refine t_call ?_ | with_reducible refine t_fld ?_ | with_reducible refine t_idx ?_ | with_reducible refine t_blt ?_ | with_reducible refine c_no ?_ | with_reducible refine c_yes ?_ | with_reducible refine k_add ?_ | with_reducible refine k_sub ?_ | with_reducible refine k_lt ?_ | with_reducible refine k_le ?_ | with_reducible refine k_gt ?_ | with_reducible refine k_ge ?_ | with_reducible refine k_eqi ?_ | with_reducible refine k_nei ?_ | with_reducible refine k_eqs ?_ | with_reducible refine k_nes ?_ | with_reducible refine k_neg ?_ | with_reducible refine b_abs ?_ | with_reducible refine b_strs ?_ | with_reducible refine b_inti ?_ | with_reducible refine b_intb ?_ | with_reducible refine b_max2 ?_ | with_reducible refine b_min2 ?_ | with_reducible refine bl_k ?_ | with_reducible refine str_k ?_ | with_reducible refine br_t ?_ | with_reducible refine br_f ?_ | with_reducible refine o_no ?_ | with_reducible refine l_nx ?_ | with_reducible refine l_ct ?_ | with_reducible refine l_brk ?_ | with_reducible refine l_ret ?_ | with_reducible refine s_sx ?_ | with_reducible refine s_sf ?_ | with_reducible refine okv ?_ | with_reducible refine v_eqi ?_ | with_reducible refine v_inNo ?_ | with_reducible refine v_isi ?_ | with_reducible refine v_lm ?_ | with_reducible refine t_ext ?_ | with_reducible refine s_tr ?_ | ((with_reducible refine v_tup ?_ ?_); exact rfl) | ((with_reducible refine v_lst ?_ ?_); exact rfl) | ((with_reducible refine v_newl ?_ ?_); exact rfl) | ((with_reducible refine k_pow ?_ ?_); exact rfl)))
  refine W_of (common_ok (k := k + 3) F.f204 [t, (b : Int)]) ?_
  rw [gcds2, Int.natAbs_natCast]
  have g0 : 0 < Nat.gcd t.natAbs b := Nat.gcd_pos_of_pos_right _ hb1
  have g1 : Nat.gcd t.natAbs b < 2 ^ 200 := Nat.lt_of_le_of_lt (Nat.gcd_le_right _ hb1) (Nat.lt_of_lt_of_le hb (by decide))
  (repeat (first | ((with_reducible refine v_varK ?_); refine varK ?_) | ((with_reducible refine t_varK ?_); refine varK ?_) | with_reducible refine s_cons ?_ | with_reducible refine q_nx ?_ | with_reducible refine q_ret ?_ | with_reducible refine q_brk ?_ | with_reducible refine q_cont ?_ | with_reducible refine r_nx ?_ | with_reducible refine r_ret ?_ | with_reducible refine s_nil ?_ | with_reducible refine s_pass ?_ | with_reducible refine s_brk ?_ | with_reducible refine s_cont ?_ | with_reducible refine s_retN ?_ | with_reducible refine s_exv ?_ | with_reducible refine s_rt ?_ | with_reducible refine s_ifs ?_ | with_reducible refine s_st ?_ | with_reducible refine s_stc ?_ | with_reducible refine s_as ?_ | with_reducible refine s_pr ?_ | with_reducible refine s_fr ?_ | with_reducible refine v_int ?_ | with_reducible refine v_bl ?_ | with_reducible refine v_non ?_ | with_reducible refine v_str ?_ | with_reducible refine v_op ?_ | with_reducible refine v_cmp ?_ | with_reducible refine v_neg ?_ | with_reducible refine v_fld ?_ | with_reducible refine v_rev ?_ | with_reducible refine v_not ?_ | with_reducible refine v_and ?_ | with_reducible refine v_or ?_ | with_reducible refine v_ite ?_ | with_reducible refine l_nil ?_ | with_reducible refine l_cons ?_ | with_reducible refine v_blt ?_ | with_reducible refine v_call ?_ | with_reducible refine v_mkF ?_ | with_reducible refine v_idx ?_ | with_reducible refine v_slc ?_ | with_reducible refine v_join ?_ | with_reducible refine v_fmt ?_ | with_reducible refine j_nil ?_ | with_reducible refine j_cons ?_ | with_reducible refine v_joined ?_ | with_reducible refine v_comp ?_ | with_reducible refine r_seq ?_ | with_reducible refine r_rng1 ?_ | with_reducible refine r_rng2 ?_ | with_reducible refine t_not ?_ | with_reducible refine t_and ?_ | with_reducible refine t_or ?_ | with_reducible refine t_cmp ?_ | with_reducible refine t_bl ?_ | with_reducible refine t_call ?_ | with_reducible refine t_fld ?_ | with_reducible refine t_idx ?_ | with_reducible refine t_blt ?_ | with_reducible refine c_no ?_ | with_reducible refine c_yes ?_ | with_reducible refine k_add ?_ | with_reducible refine k_sub ?_ | with_reducible refine k_lt ?_ | with_reducible refine k_le ?_ | with_reducible refine k_gt ?_ | with_reducible refine k_ge ?_ | with_reducible refine k_eqi ?_ | with_reducible refine k_nei ?_ | with_reducible refine k_eqs ?_ | with_reducible refine k_nes ?_ | with_reducible refine k_neg ?_ | with_reducible refine b_abs ?_ | with_reducible refine b_strs ?_ | with_reducible refine b_inti ?_ | with_reducible refine b_intb ?_ | with_reducible refine b_max2 ?_ | with_reducible refine b_min2 ?_ | with_reducible refine bl_k ?_ | with_reducible refine str_k ?_ | with_reducible refine br_t ?_ | with_reducible refine br_f ?_ | with_reducible refine o_no ?_ | with_reducible refine l_nx ?_ | with_reducible refine l_ct ?_ | with_reducible refine l_brk ?_ | with_reducible refine l_ret ?_ | with_reducible refine s_sx ?_ | with_reducible refine s_sf ?_ | with_reducible refine okv ?_ | with_reducible refine v_eqi ?_ | with_reducible refine v_inNo ?_ | with_reducible refine v_isi ?_ | with_reducible refine v_lm ?_ | with_reducible refine t_ext ?_ | with_reducible refine s_tr ?_ | ((with_reducible refine v_tup ?_ ?_); exact rfl) | ((with_reducible refine v_lst ?_ ?_); exact rfl) | ((with_reducible refine v_newl ?_ ?_); exact rfl) | ((with_reducible refine k_pow ?_ ?_); exact rfl)))
  refine k_fdiv (okDiv_of g0 g1) ?_
  (repeat (first | ((with_reducible refine v_varK ?_); refine varK ?_) | ((with_reducible refine t_varK ?_); refine varK ?_) | with_reducible refine s_cons ?_ | with_reducible refine q_nx ?_ | with_reducible refine q_ret ?_ | with_reducible refine q_brk ?_ | with_reducible refine q_cont ?_ | with_reducible refine r_nx ?_ | with_reducible refine r_ret ?_ | with_reducible refine s_nil ?_ | with_reducible refine s_pass ?_ | with_reducible refine s_brk ?_ | with_reducible refine s_cont ?_ | with_reducible refine s_retN ?_ | with_reducible refine s_exv ?_ | with_reducible refine s_rt ?_ | with_reducible refine s_ifs ?_ | with_reducible refine s_st ?_ | with_reducible refine s_stc ?_ | with_reducible refine s_as ?_ | with_reducible refine s_pr ?_ | with_reducible refine s_fr ?_ | with_reducible refine v_int ?_ | with_reducible refine v_bl ?_ | with_reducible refine v_non ?_ | with_reducible refine v_str ?_ | with_reducible refine v_op ?_ | with_reducible refine v_cmp ?_ | with_reducible refine v_neg ?_ | with_reducible refine v_fld ?_ | with_reducible refine v_rev ?_ | with_reducible refine v_not ?_ | with_reducible refine v_and ?_ | with_reducible refine v_or ?_ | with_reducible refine v_ite ?_ | with_reducible refine l_nil ?_ | with_reducible refine l_cons ?_ | with_reducible refine v_blt ?_ | with_reducible refine v_call ?_ | with_reducible refine v_mkF ?_ | with_reducible refine v_idx ?_ | with_reducible refine v_slc ?_ | with_reducible refine v_join ?_ | with_reducible refine v_fmt ?_ | with_reducible refine j_nil ?_ | with_reducible refine j_cons ?_ | with_reducible refine v_joined ?_ | with_reducible refine v_comp ?_ | with_reducible refine r_seq ?_ | with_reducible refine r_rng1 ?_ | with_reducible refine r_rng2 ?_ | with_reducible refine t_not ?_ | with_reducible refine t_and ?_ | with_reducible refine t_or ?_ | with_reducible refine t_cmp ?_ | with_reducible refine t_bl ?_ | with_reducible refine t_call ?_ | with_reducible refine t_fld ?_ | with_reducible refine t_idx ?_ | with_reducible refine t_blt ?_ | with_reducible refine c_no ?_ | with_reducible refine c_yes ?_ | with_reducible refine k_add ?_ | with_reducible refine k_sub ?_ | with_reducible refine k_lt ?_ | with_reducible refine k_le ?_ | with_reducible refine k_gt ?_ | with_reducible refine k_ge ?_ | with_reducible refine k_eqi ?_ | with_reducible refine k_nei ?_ | with_reducible refine k_eqs ?_ | with_reducible refine k_nes ?_ | with_reducible refine k_neg ?_ | with_reducible refine b_abs ?_ | with_reducible refine b_strs ?_ | with_reducible refine b_inti ?_ | with_reducible refine b_intb ?_ | with_reducible refine b_max2 ?_ | with_reducible refine b_min2 ?_ | with_reducible refine bl_k ?_ | with_reducible refine str_k ?_ | with_reducible refine br_t ?_ | with_reducible refine br_f ?_ | with_reducible refine o_no ?_ | with_reducible refine l_nx ?_ | with_reducible refine l_ct ?_ | with_reducible refine l_brk ?_ | with_reducible refine l_ret ?_ | with_reducible refine s_sx ?_ | with_reducible refine s_sf ?_ | with_reducible refine okv ?_ | with_reducible refine v_eqi ?_ | with_reducible refine v_inNo ?_ | with_reducible refine v_isi ?_ | with_reducible refine v_lm ?_ | with_reducible refine t_ext ?_ | with_reducible refine s_tr ?_ | ((with_reducible refine v_tup ?_ ?_); exact rfl) | ((with_reducible refine v_lst ?_ ?_); exact rfl) | ((with_reducible refine v_newl ?_ ?_); exact rfl) | ((with_reducible refine k_pow ?_ ?_); exact rfl)))
  refine k_fdiv (okDiv_of g0 g1) ?_
  have fr : ∀ {d : D} {S : Store}, (d = .tup [.int (t.fdiv (Nat.gcd t.natAbs b : Nat)), .int ((b : Int).fdiv (Nat.gcd t.natAbs b : Nat))] ∨ d = .lst [.int (t.fdiv (Nat.gcd t.natAbs b : Nat)), .int ((b : Int).fdiv (Nat.gcd t.natAbs b : Nat))]) → _ := fun {d S} hd =>
    fraction_ok (ok := ok) (fs := fs) (is := is) (k := k + 3) (S := S) F.f26 hd (log2_fdiv (n := 1920) (by omega)) (log2_fdiv (n := 1920) (by rw [Int.natAbs_natCast]; omega))
  have tx : ∀ {S : Store}, _ := fun {S} => text_ok (ok := ok) (is := is) (k := k + 2) (S := S) F.f205 F.f204 t b hb1 (by omega) (by omega)
  (repeat (first | ((with_reducible refine v_varK ?_); refine varK ?_) | ((with_reducible refine t_varK ?_); refine varK ?_) | with_reducible refine s_cons ?_ | with_reducible refine q_nx ?_ | with_reducible refine q_ret ?_ | with_reducible refine q_brk ?_ | with_reducible refine q_cont ?_ | with_reducible refine r_nx ?_ | with_reducible refine r_ret ?_ | with_reducible refine s_nil ?_ | with_reducible refine s_pass ?_ | with_reducible refine s_brk ?_ | with_reducible refine s_cont ?_ | with_reducible refine s_retN ?_ | with_reducible refine s_exv ?_ | with_reducible refine s_rt ?_ | with_reducible refine s_ifs ?_ | with_reducible refine s_st ?_ | with_reducible refine s_stc ?_ | with_reducible refine s_as ?_ | with_reducible refine s_pr ?_ | with_reducible refine s_fr ?_ | with_reducible refine v_int ?_ | with_reducible refine v_bl ?_ | with_reducible refine v_non ?_ | with_reducible refine v_str ?_ | with_reducible refine v_op ?_ | with_reducible refine v_cmp ?_ | with_reducible refine v_neg ?_ | with_reducible refine v_fld ?_ | with_reducible refine v_rev ?_ | with_reducible refine v_not ?_ | with_reducible refine v_and ?_ | with_reducible refine v_or ?_ | with_reducible refine v_ite ?_ | with_reducible refine l_nil ?_ | with_reducible refine l_cons ?_ | with_reducible refine v_blt ?_ | with_reducible refine v_call ?_ | with_reducible refine v_mkF ?_ | with_reducible refine v_idx ?_ | with_reducible refine v_slc ?_ | with_reducible refine v_join ?_ | with_reducible refine v_fmt ?_ | with_reducible refine j_nil ?_ | with_reducible refine j_cons ?_ | with_reducible refine v_joined ?_ | with_reducible refine v_comp ?_ | with_reducible refine r_seq ?_ | with_reducible refine r_rng1 ?_ | with_reducible refine r_rng2 ?_ | with_reducible refine t_not ?_ | with_reducible refine t_and ?_ | with_reducible refine t_or ?_ | with_reducible refine t_cmp ?_ | with_reducible refine t_bl ?_ | with_reducible refine t_call ?_ | with_reducible refine t_fld ?_ | with_reducible refine t_idx ?_ | with_reducible refine t_blt ?_ | with_reducible refine c_no ?_ | with_reducible refine c_yes ?_ | with_reducible refine k_add ?_ | with_reducible refine k_sub ?_ | with_reducible refine k_lt ?_ | with_reducible refine k_le ?_ | with_reducible refine k_gt ?_ | with_reducible refine k_ge ?_ | with_reducible refine k_eqi ?_ | with_reducible refine k_nei ?_ | with_reducible refine k_eqs ?_ | with_reducible refine k_nes ?_ | with_reducible refine k_neg ?_ | with_reducible refine b_abs ?_ | with_reducible refine b_strs ?_ | with_reducible refine b_inti ?_ | with_reducible refine b_intb ?_ | with_reducible refine b_max2 ?_ | with_reducible refine b_min2 ?_ | with_reducible refine bl_k ?_ | with_reducible refine str_k ?_ | with_reducible refine br_t ?_ | with_reducible refine br_f ?_ | with_reducible refine o_no ?_ | with_reducible refine l_nx ?_ | with_reducible refine l_ct ?_ | with_reducible refine l_brk ?_ | with_reducible refine l_ret ?_ | with_reducible refine s_sx ?_ | with_reducible refine s_sf ?_ | with_reducible refine okv ?_ | with_reducible refine v_eqi ?_ | with_reducible refine v_inNo ?_ | with_reducible refine v_isi ?_ | with_reducible refine v_lm ?_ | with_reducible refine t_ext ?_ | with_reducible refine s_tr ?_ | ((with_reducible refine v_tup ?_ ?_); exact rfl) | ((with_reducible refine v_lst ?_ ?_); exact rfl) | ((with_reducible refine v_newl ?_ ?_); exact rfl) | ((with_reducible refine k_pow ?_ ?_); exact rfl)))
  refine W_of (fr (.inl rfl)) ?_
  (repeat (first | ((with_reducible refine v_varK ?_); refine varK ?_) | ((with_reducible refine t_varK ?_); refine varK ?_) | with_reducible refine s_cons ?_ | with_reducible refine q_nx ?_ | with_reducible refine q_ret ?_ | with_reducible refine q_brk ?_ | with_reducible refine q_cont ?_ | with_reducible refine r_nx ?_ | with_reducible refine r_ret ?_ | with_reducible refine s_nil ?_ | with_reducible refine s_pass ?_ | with_reducible refine s_brk ?_ | with_reducible refine s_cont ?_ | with_reducible refine s_retN ?_ | with_reducible refine s_exv ?_ | with_reducible refine s_rt ?_ | with_reducible refine s_ifs ?_ | with_reducible refine s_st ?_ | with_reducible refine s_stc ?_ | with_reducible refine s_as ?_ | with_reducible refine s_pr ?_ | with_reducible refine s_fr ?_ | with_reducible refine v_int ?_ | with_reducible refine v_bl ?_ | with_reducible refine v_non ?_ | with_reducible refine v_str ?_ | with_reducible refine v_op ?_ | with_reducible refine v_cmp ?_ | with_reducible refine v_neg ?_ | with_reducible refine v_fld ?_ | with_reducible refine v_rev ?_ | with_reducible refine v_not ?_ | with_reducible refine v_and ?_ | with_reducible refine v_or ?_ | with_reducible refine v_ite ?_ | with_reducible refine l_nil ?_ | with_reducible refine l_cons ?_ | with_reducible refine v_blt ?_ | with_reducible refine v_call ?_ | with_reducible refine v_mkF ?_ | with_reducible refine v_idx ?_ | with_reducible refine v_slc ?_ | with_reducible refine v_join ?_ | with_reducible refine v_fmt ?_ | with_reducible refine j_nil ?_ | with_reducible refine j_cons ?_ | with_reducible refine v_joined ?_ | with_reducible refine v_comp ?_ | with_reducible refine r_seq ?_ | with_reducible refine r_rng1 ?_ | with_reducible refine r_rng2 ?_ | with_reducible refine t_not ?_ | with_reducible refine t_and ?_ | with_reducible refine t_or ?_ | with_reducible refine t_cmp ?_ | with_reducible refine t_bl ?_ | with_reducible refine t_call ?_ | with_reducible refine t_fld ?_ | with_reducible refine t_idx ?_ | with_reducible refine t_blt ?_ | with_reducible refine c_no ?_ | with_reducible refine c_yes ?_ | with_reducible refine k_add ?_ | with_reducible refine k_sub ?_ | with_reducible refine k_lt ?_ | with_reducible refine k_le ?_ | with_reducible refine k_gt ?_ | with_reducible refine k_ge ?_ | with_reducible refine k_eqi ?_ | with_reducible refine k_nei ?_ | with_reducible refine k_eqs ?_ | with_reducible refine k_nes ?_ | with_reducible refine k_neg ?_ | with_reducible refine b_abs ?_ | with_reducible refine b_strs ?_ | with_reducible refine b_inti ?_ | with_reducible refine b_intb ?_ | with_reducible refine b_max2 ?_ | with_reducible refine b_min2 ?_ | with_reducible refine bl_k ?_ | with_reducible refine str_k ?_ | with_reducible refine br_t ?_ | with_reducible refine br_f ?_ | with_reducible refine o_no ?_ | with_reducible refine l_nx ?_ | with_reducible refine l_ct ?_ | with_reducible refine l_brk ?_ | with_reducible refine l_ret ?_ | with_reducible refine s_sx ?_ | with_reducible refine s_sf ?_ | with_reducible refine okv ?_ | with_reducible refine v_eqi ?_ | with_reducible refine v_inNo ?_ | with_reducible refine v_isi ?_ | with_reducible refine v_lm ?_ | with_reducible refine t_ext ?_ | with_reducible refine s_tr ?_ | ((with_reducible refine v_tup ?_ ?_); exact rfl) | ((with_reducible refine v_lst ?_ ?_); exact rfl) | ((with_reducible refine v_newl ?_ ?_); exact rfl) | ((with_reducible refine k_pow ?_ ?_); exact rfl)))
  refine W_of tx ?_
  (repeat (first | ((with_reducible refine v_varK ?_); refine varK ?_) | ((with_reducible refine t_varK ?_); refine varK ?_) | with_reducible refine s_cons ?_ | with_reducible refine q_nx ?_ | with_reducible refine q_ret ?_ | with_reducible refine q_brk ?_ | with_reducible refine q_cont ?_ | with_reducible refine r_nx ?_ | with_reducible refine r_ret ?_ | with_reducible refine s_nil ?_ | with_reducible refine s_pass ?_ | with_reducible refine s_brk ?_ | with_reducible refine s_cont ?_ | with_reducible refine s_retN ?_ | with_reducible refine s_exv ?_ | with_reducible refine s_rt ?_ | with_reducible refine s_ifs ?_ | with_reducible refine s_st ?_ | with_reducible refine s_stc ?_ | with_reducible refine s_as ?_ | with_reducible refine s_pr ?_ | with_reducible refine s_fr ?_ | with_reducible refine v_int ?_ | with_reducible refine v_bl ?_ | with_reducible refine v_non ?_ | with_reducible refine v_str ?_ | with_reducible refine v_op ?_ | with_reducible refine v_cmp ?_ | with_reducible refine v_neg ?_ | with_reducible refine v_fld ?_ | with_reducible refine v_rev ?_ | with_reducible refine v_not ?_ | with_reducible refine v_and ?_ | with_reducible refine v_or ?_ | with_reducible refine v_ite ?_ | with_reducible refine l_nil ?_ | with_reducible refine l_cons ?_ | with_reducible refine v_blt ?_ | with_reducible refine v_call ?_ | with_reducible refine v_mkF ?_ | with_reducible refine v_idx ?_ | with_reducible refine v_slc ?_ | with_reducible refine v_join ?_ | with_reducible refine v_fmt ?_ | with_reducible refine j_nil ?_ | with_reducible refine j_cons ?_ | with_reducible refine v_joined ?_ | with_reducible refine v_comp ?_ | with_reducible refine r_seq ?_ | with_reducible refine r_rng1 ?_ | with_reducible refine r_rng2 ?_ | with_reducible refine t_not ?_ | with_reducible refine t_and ?_ | with_reducible refine t_or ?_ | with_reducible refine t_cmp ?_ | with_reducible refine t_bl ?_ | with_reducible refine t_call ?_ | with_reducible refine t_fld ?_ | with_reducible refine t_idx ?_ | with_reducible refine t_blt ?_ | with_reducible refine c_no ?_ | with_reducible refine c_yes ?_ | with_reducible refine k_add ?_ | with_reducible refine k_sub ?_ | with_reducible refine k_lt ?_ | with_reducible refine k_le ?_ | with_reducible refine k_gt ?_ | with_reducible refine k_ge ?_ | with_reducible refine k_eqi ?_ | with_reducible refine k_nei ?_ | with_reducible refine k_eqs ?_ | with_reducible refine k_nes ?_ | with_reducible refine k_neg ?_ | with_reducible refine b_abs ?_ | with_reducible refine b_strs ?_ | with_reducible refine b_inti ?_ | with_reducible refine b_intb ?_ | with_reducible refine b_max2 ?_ | with_reducible refine b_min2 ?_ | with_reducible refine bl_k ?_ | with_reducible refine str_k ?_ | with_reducible refine br_t ?_ | with_reducible refine br_f ?_ | with_reducible refine o_no ?_ | with_reducible refine l_nx ?_ | with_reducible refine l_ct ?_ | with_reducible refine l_brk ?_ | with_reducible refine l_ret ?_ | with_reducible refine s_sx ?_ | with_reducible refine s_sf ?_ | with_reducible refine okv ?_ | with_reducible refine v_eqi ?_ | with_reducible refine v_inNo ?_ | with_reducible refine v_isi ?_ | with_reducible refine v_lm ?_ | with_reducible refine t_ext ?_ | with_reducible refine s_tr ?_ | ((with_reducible refine v_tup ?_ ?_); exact rfl) | ((with_reducible refine v_lst ?_ ?_); exact rfl) | ((with_reducible refine v_newl ?_ ?_); exact rfl) | ((with_reducible refine k_pow ?_ ?_); exact rfl)))
  refine br_no (by simp) ?_
  (repeat (first | ((with_reducible refine v_varK ?_); refine varK ?_) | ((with_reducible refine t_varK ?_); refine varK ?_) | with_reducible refine s_cons ?_ | with_reducible refine q_nx ?_ | with_reducible refine q_ret ?_ | with_reducible refine q_brk ?_ | with_reducible refine q_cont ?_ | with_reducible refine r_nx ?_ | with_reducible refine r_ret ?_ | with_reducible refine s_nil ?_ | with_reducible refine s_pass ?_ | with_reducible refine s_brk ?_ | with_reducible refine s_cont ?_ | with_reducible refine s_retN ?_ | with_reducible refine s_exv ?_ | with_reducible refine s_rt ?_ | with_reducible refine s_ifs ?_ | with_reducible refine s_st ?_ | with_reducible refine s_stc ?_ | with_reducible refine s_as ?_ | with_reducible refine s_pr ?_ | with_reducible refine s_fr ?_ | with_reducible refine v_int ?_ | with_reducible refine v_bl ?_ | with_reducible refine v_non ?_ | with_reducible refine v_str ?_ | with_reducible refine v_op ?_ | with_reducible refine v_cmp ?_ | with_reducible refine v_neg ?_ | with_reducible refine v_fld ?_ | with_reducible refine v_rev ?_ | with_reducible refine v_not ?_ | with_reducible refine v_and ?_ | with_reducible refine v_or ?_ | with_reducible refine v_ite ?_ | with_reducible refine l_nil ?_ | with_reducible refine l_cons ?_ | with_reducible refine v_blt ?_ | with_reducible refine v_call ?_ | with_reducible refine v_mkF ?_ | with_reducible refine v_idx ?_ | with_reducible refine v_slc ?_ | with_reducible refine v_join ?_ | with_reducible refine v_fmt ?_ | with_reducible refine j_nil ?_ | with_reducible refine j_cons ?_ | with_reducible refine v_joined ?_ | with_reducible refine v_comp ?_ | with_reducible refine r_seq ?_ | with_reducible refine r_rng1 ?_ | with_reducible refine r_rng2 ?_ | with_reducible refine t_not ?_ | with_reducible refine t_and ?_ | with_reducible refine t_or ?_ | with_reducible refine t_cmp ?_ | with_reducible refine t_bl ?_ | with_reducible refine t_call ?_ | with_reducible refine t_fld ?_ | with_reducible refine t_idx ?_ | with_reducible refine t_blt ?_ | with_reducible refine c_no ?_ | with_reducible refine c_yes ?_ | with_reducible refine k_add ?_ | with_reducible refine k_sub ?_ | with_reducible refine k_lt ?_ | with_reducible refine k_le ?_ | with_reducible refine k_gt ?_ | with_reducible refine k_ge ?_ | with_reducible refine k_eqi ?_ | with_reducible refine k_nei ?_ | with_reducible refine k_eqs ?_ | with_reducible refine k_nes ?_ | with_reducible refine k_neg ?_ | with_reducible refine b_abs ?_ | with_reducible refine b_strs ?_ | with_reducible refine b_inti ?_ | with_reducible refine b_intb ?_ | with_reducible refine b_max2 ?_ | with_reducible refine b_min2 ?_ | with_reducible refine bl_k ?_ | with_reducible refine str_k ?_ | with_reducible refine br_t ?_ | with_reducible refine br_f ?_ | with_reducible refine o_no ?_ | with_reducible refine l_nx ?_ | with_reducible refine l_ct ?_ | with_reducible refine l_brk ?_ | with_reducible refine l_ret ?_ | with_reducible refine s_sx ?_ | with_reducible refine s_sf ?_ | with_reducible refine okv ?_ | with_reducible refine v_eqi ?_ | with_reducible refine v_inNo ?_ | with_reducible refine v_isi ?_ | with_reducible refine v_lm ?_ | with_reducible refine t_ext ?_ | with_reducible refine s_tr ?_ | ((with_reducible refine v_tup ?_ ?_); exact rfl) | ((with_reducible refine v_lst ?_ ?_); exact rfl) | ((with_reducible refine v_newl ?_ ?_); exact rfl) | ((with_reducible refine k_pow ?_ ?_); exact rfl)))
  refine W_of (fr (.inl rfl)) ?_
  (repeat (first | ((with_reducible refine v_varK ?_); refine varK ?_) | ((with_reducible refine t_varK ?_); refine varK ?_) | with_reducible refine s_cons ?_ | with_reducible refine q_nx ?_ | with_reducible refine q_ret ?_ | with_reducible refine q_brk ?_ | with_reducible refine q_cont ?_ | with_reducible refine r_nx ?_ | with_reducible refine r_ret ?_ | with_reducible refine s_nil ?_ | with_reducible refine s_pass ?_ | with_reducible refine s_brk ?_ | with_reducible refine s_cont ?_ | with_reducible refine s_retN ?_ | with_reducible refine s_exv ?_ | with_reducible refine s_rt ?_ | with_reducible refine s_ifs ?_ | with_reducible refine s_st ?_ | with_reducible refine s_stc ?_ | with_reducible refine s_as ?_ | with_reducible refine s_pr ?_ | with_reducible refine s_fr ?_ | with_reducible refine v_int ?_ | with_reducible refine v_bl ?_ | with_reducible refine v_non ?_ | with_reducible refine v_str ?_ | with_reducible refine v_op ?_ | with_reducible refine v_cmp ?_ | with_reducible refine v_neg ?_ | with_reducible refine v_fld ?_ | with_reducible refine v_rev ?_ | with_reducible refine v_not ?_ | with_reducible refine v_and ?_ | with_reducible refine v_or ?_ | with_reducible refine v_ite ?_ | with_reducible refine l_nil ?_ | with_reducible refine l_cons ?_ | with_reducible refine v_blt ?_ | with_reducible refine v_call ?_ | with_reducible refine v_mkF ?_ | with_reducible refine v_idx ?_ | with_reducible refine v_slc ?_ | with_reducible refine v_join ?_ | with_reducible refine v_fmt ?_ | with_reducible refine j_nil ?_ | with_reducible refine j_cons ?_ | with_reducible refine v_joined ?_ | with_reducible refine v_comp ?_ | with_reducible refine r_seq ?_ | with_reducible refine r_rng1 ?_ | with_reducible refine r_rng2 ?_ | with_reducible refine t_not ?_ | with_reducible refine t_and ?_ | with_reducible refine t_or ?_ | with_reducible refine t_cmp ?_ | with_reducible refine t_bl ?_ | with_reducible refine t_call ?_ | with_reducible refine t_fld ?_ | with_reducible refine t_idx ?_ | with_reducible refine t_blt ?_ | with_reducible refine c_no ?_ | with_reducible refine c_yes ?_ | with_reducible refine k_add ?_ | with_reducible refine k_sub ?_ | with_reducible refine k_lt ?_ | with_reducible refine k_le ?_ | with_reducible refine k_gt ?_ | with_reducible refine k_ge ?_ | with_reducible refine k_eqi ?_ | with_reducible refine k_nei ?_ | with_reducible refine k_eqs ?_ | with_reducible refine k_nes ?_ | with_reducible refine k_neg ?_ | with_reducible refine b_abs ?_ | with_reducible refine b_strs ?_ | with_reducible refine b_inti ?_ | with_reducible refine b_intb ?_ | with_reducible refine b_max2 ?_ | with_reducible refine b_min2 ?_ | with_reducible refine bl_k ?_ | with_reducible refine str_k ?_ | with_reducible refine br_t ?_ | with_reducible refine br_f ?_ | with_reducible refine o_no ?_ | with_reducible refine l_nx ?_ | with_reducible refine l_ct ?_ | with_reducible refine l_brk ?_ | with_reducible refine l_ret ?_ | with_reducible refine s_sx ?_ | with_reducible refine s_sf ?_ | with_reducible refine okv ?_ | with_reducible refine v_eqi ?_ | with_reducible refine v_inNo ?_ | with_reducible refine v_isi ?_ | with_reducible refine v_lm ?_ | with_reducible refine t_ext ?_ | with_reducible refine s_tr ?_ | ((with_reducible refine v_tup ?_ ?_); exact rfl) | ((with_reducible refine v_lst ?_ ?_); exact rfl) | ((with_reducible refine v_newl ?_ ?_); exact rfl) | ((with_reducible refine k_pow ?_ ?_); exact rfl)))
  refine W_of tx ?_
  (repeat (first | ((with_reducible refine v_varK ?_); refine varK ?_) | ((with_reducible refine t_varK ?_); refine varK ?_) | with_reducible refine s_cons ?_ | with_reducible refine q_nx ?_ | with_reducible refine q_ret ?_ | with_reducible refine q_brk ?_ | with_reducible refine q_cont ?_ | with_reducible refine r_nx ?_ | with_reducible refine r_ret ?_ | with_reducible refine s_nil ?_ | with_reducible refine s_pass ?_ | with_reducible refine s_brk ?_ | with_reducible refine s_cont ?_ | with_reducible refine s_retN ?_ | with_reducible refine s_exv ?_ | with_reducible refine s_rt ?_ | with_reducible refine s_ifs ?_ | with_reducible refine s_st ?_ | with_reducible refine s_stc ?_ | with_reducible refine s_as ?_ | with_reducible refine s_pr ?_ | with_reducible refine s_fr ?_ | with_reducible refine v_int ?_ | with_reducible refine v_bl ?_ | with_reducible refine v_non ?_ | with_reducible refine v_str ?_ | with_reducible refine v_op ?_ | with_reducible refine v_cmp ?_ | with_reducible refine v_neg ?_ | with_reducible refine v_fld ?_ | with_reducible refine v_rev ?_ | with_reducible refine v_not ?_ | with_reducible refine v_and ?_ | with_reducible refine v_or ?_ | with_reducible refine v_ite ?_ | with_reducible refine l_nil ?_ | with_reducible refine l_cons ?_ | with_reducible refine v_blt ?_ | with_reducible refine v_call ?_ | with_reducible refine v_mkF ?_ | with_reducible refine v_idx ?_ | with_reducible refine v_slc ?_ | with_reducible refine v_join ?_ | with_reducible refine v_fmt ?_ | with_reducible refine j_nil ?_ | with_reducible refine j_cons ?_ | with_reducible refine v_joined ?_ | with_reducible refine v_comp ?_ | with_reducible refine r_seq ?_ | with_reducible refine r_rng1 ?_ | with_reducible refine r_rng2 ?_ | with_reducible refine t_not ?_ | with_reducible refine t_and ?_ | with_reducible refine t_or ?_ | with_reducible refine t_cmp ?_ | with_reducible refine t_bl ?_ | with_reducible refine t_call ?_ | with_reducible refine t_fld ?_ | with_reducible refine t_idx ?_ | with_reducible refine t_blt ?_ | with_reducible refine c_no ?_ | with_reducible refine c_yes ?_ | with_reducible refine k_add ?_ | with_reducible refine k_sub ?_ | with_reducible refine k_lt ?_ | with_reducible refine k_le ?_ | with_reducible refine k_gt ?_ | with_reducible refine k_ge ?_ | with_reducible refine k_eqi ?_ | with_reducible refine k_nei ?_ | with_reducible refine k_eqs ?_ | with_reducible refine k_nes ?_ | with_reducible refine k_neg ?_ | with_reducible refine b_abs ?_ | with_reducible refine b_strs ?_ | with_reducible refine b_inti ?_ | with_reducible refine b_intb ?_ | with_reducible refine b_max2 ?_ | with_reducible refine b_min2 ?_ | with_reducible refine bl_k ?_ | with_reducible refine str_k ?_ | with_reducible refine br_t ?_ | with_reducible refine br_f ?_ | with_reducible refine o_no ?_ | with_reducible refine l_nx ?_ | with_reducible refine l_ct ?_ | with_reducible refine l_brk ?_ | with_reducible refine l_ret ?_ | with_reducible refine s_sx ?_ | with_reducible refine s_sf ?_ | with_reducible refine okv ?_ | with_reducible refine v_eqi ?_ | with_reducible refine v_inNo ?_ | with_reducible refine v_isi ?_ | with_reducible refine v_lm ?_ | with_reducible refine t_ext ?_ | with_reducible refine s_tr ?_ | ((with_reducible refine v_tup ?_ ?_); exact rfl) | ((with_reducible refine v_lst ?_ ?_); exact rfl) | ((with_reducible refine v_newl ?_ ?_); exact rfl) | ((with_reducible refine k_pow ?_ ?_); exact rfl)))
  refine br_no (by simp) ?_
  (repeat (first | ((with_reducible refine v_varK ?_); refine varK ?_) | ((with_reducible refine t_varK ?_); refine varK ?_) | with_reducible refine s_cons ?_ | with_reducible refine q_nx ?_ | with_reducible refine q_ret ?_ | with_reducible refine q_brk ?_ | with_reducible refine q_cont ?_ | with_reducible refine r_nx ?_ | with_reducible refine r_ret ?_ | with_reducible refine s_nil ?_ | with_reducible refine s_pass ?_ | with_reducible refine s_brk ?_ | with_reducible refine s_cont ?_ | with_reducible refine s_retN ?_ | with_reducible refine s_exv ?_ | with_reducible refine s_rt ?_ | with_reducible refine s_ifs ?_ | with_reducible refine s_st ?_ | with_reducible refine s_stc ?_ | with_reducible refine s_as ?_ | with_reducible refine s_pr ?_ | with_reducible refine s_fr ?_ | with_reducible refine v_int ?_ | with_reducible refine v_bl ?_ | with_reducible refine v_non ?_ | with_reducible refine v_str ?_ | with_reducible refine v_op ?_ | with_reducible refine v_cmp ?_ | with_reducible refine v_neg ?_ | with_reducible refine v_fld ?_ | with_reducible refine v_rev ?_ | with_reducible refine v_not ?_ | with_reducible refine v_and ?_ | with_reducible refine v_or ?_ | with_reducible refine v_ite ?_ | with_reducible refine l_nil ?_ | with_reducible refine l_cons ?_ | with_reducible refine v_blt ?_ | with_reducible refine v_call ?_ | with_reducible refine v_mkF ?_ | with_reducible refine v_idx ?_ | with_reducible refine v_slc ?_ | with_reducible refine v_join ?_ | with_reducible refine v_fmt ?_ | with_reducible refine j_nil ?_ | with_reducible refine j_cons ?_ | with_reducible refine v_joined ?_ | with_reducible refine v_comp ?_ | with_reducible refine r_seq ?_ | with_reducible refine r_rng1 ?_ | with_reducible refine r_rng2 ?_ | with_reducible refine t_not ?_ | with_reducible refine t_and ?_ | with_reducible refine t_or ?_ | with_reducible refine t_cmp ?_ | with_reducible refine t_bl ?_ | with_reducible refine t_call ?_ | with_reducible refine t_fld ?_ | with_reducible refine t_idx ?_ | with_reducible refine t_blt ?_ | with_reducible refine c_no ?_ | with_reducible refine c_yes ?_ | with_reducible refine k_add ?_ | with_reducible refine k_sub ?_ | with_reducible refine k_lt ?_ | with_reducible refine k_le ?_ | with_reducible refine k_gt ?_ | with_reducible refine k_ge ?_ | with_reducible refine k_eqi ?_ | with_reducible refine k_nei ?_ | with_reducible refine k_eqs ?_ | with_reducible refine k_nes ?_ | with_reducible refine k_neg ?_ | with_reducible refine b_abs ?_ | with_reducible refine b_strs ?_ | with_reducible refine b_inti ?_ | with_reducible refine b_intb ?_ | with_reducible refine b_max2 ?_ | with_reducible refine b_min2 ?_ | with_reducible refine bl_k ?_ | with_reducible refine str_k ?_ | with_reducible refine br_t ?_ | with_reducible refine br_f ?_ | with_reducible refine o_no ?_ | with_reducible refine l_nx ?_ | with_reducible refine l_ct ?_ | with_reducible refine l_brk ?_ | with_reducible refine l_ret ?_ | with_reducible refine s_sx ?_ | with_reducible refine s_sf ?_ | with_reducible refine okv ?_ | with_reducible refine v_eqi ?_ | with_reducible refine v_inNo ?_ | with_reducible refine v_isi ?_ | with_reducible refine v_lm ?_ | with_reducible refine t_ext ?_ | with_reducible refine s_tr ?_ | ((with_reducible refine v_tup ?_ ?_); exact rfl) | ((with_reducible refine v_lst ?_ ?_); exact rfl) | ((with_reducible refine v_newl ?_ ?_); exact rfl) | ((with_reducible refine k_pow ?_ ?_); exact rfl)))
  refine b_list rfl ?_
  (repeat (first | ((with_reducible refine v_varK ?_); refine varK ?_) | ((with_reducible refine t_varK ?_); refine varK ?_) | with_reducible refine s_cons ?_ | with_reducible refine q_nx ?_ | with_reducible refine q_ret ?_ | with_reducible refine q_brk ?_ | with_reducible refine q_cont ?_ | with_reducible refine r_nx ?_ | with_reducible refine r_ret ?_ | with_reducible refine s_nil ?_ | with_reducible refine s_pass ?_ | with_reducible refine s_brk ?_ | with_reducible refine s_cont ?_ | with_reducible refine s_retN ?_ | with_reducible refine s_exv ?_ | with_reducible refine s_rt ?_ | with_reducible refine s_ifs ?_ | with_reducible refine s_st ?_ | with_reducible refine s_stc ?_ | with_reducible refine s_as ?_ | with_reducible refine s_pr ?_ | with_reducible refine s_fr ?_ | with_reducible refine v_int ?_ | with_reducible refine v_bl ?_ | with_reducible refine v_non ?_ | with_reducible refine v_str ?_ | with_reducible refine v_op ?_ | with_reducible refine v_cmp ?_ | with_reducible refine v_neg ?_ | with_reducible refine v_fld ?_ | with_reducible refine v_rev ?_ | with_reducible refine v_not ?_ | with_reducible refine v_and ?_ | with_reducible refine v_or ?_ | with_reducible refine v_ite ?_ | with_reducible refine l_nil ?_ | with_reducible refine l_cons ?_ | with_reducible refine v_blt ?_ | with_reducible refine v_call ?_ | with_reducible refine v_mkF ?_ | with_reducible refine v_idx ?_ | with_reducible refine v_slc ?_ | with_reducible refine v_join ?_ | with_reducible refine v_fmt ?_ | with_reducible refine j_nil ?_ | with_reducible refine j_cons ?_ | with_reducible refine v_joined ?_ | with_reducible refine v_comp ?_ | with_reducible refine r_seq ?_ | with_reducible refine r_rng1 ?_ | with_reducible refine r_rng2 ?_ | with_reducible refine t_not ?_ | with_reducible refine t_and ?_ | with_reducible refine t_or ?_ | with_reducible refine t_cmp ?_ | with_reducible refine t_bl ?_ | with_reducible refine t_call ?_ | with_reducible refine t_fld ?_ | with_reducible refine t_idx ?_ | with_reducible refine t_blt ?_ | with_reducible refine c_no ?_ | with_reducible refine c_yes ?_ | with_reducible refine k_add ?_ | with_reducible refine k_sub ?_ | with_reducible refine k_lt ?_ | with_reducible refine k_le ?_ | with_reducible refine k_gt ?_ | with_reducible refine k_ge ?_ | with_reducible refine k_eqi ?_ | with_reducible refine k_nei ?_ | with_reducible refine k_eqs ?_ | with_reducible refine k_nes ?_ | with_reducible refine k_neg ?_ | with_reducible refine b_abs ?_ | with_reducible refine b_strs ?_ | with_reducible refine b_inti ?_ | with_reducible refine b_intb ?_ | with_reducible refine b_max2 ?_ | with_reducible refine b_min2 ?_ | with_reducible refine bl_k ?_ | with_reducible refine str_k ?_ | with_reducible refine br_t ?_ | with_reducible refine br_f ?_ | with_reducible refine o_no ?_ | with_reducible refine l_nx ?_ | with_reducible refine l_ct ?_ | with_reducible refine l_brk ?_ | with_reducible refine l_ret ?_ | with_reducible refine s_sx ?_ | with_reducible refine s_sf ?_ | with_reducible refine okv ?_ | with_reducible refine v_eqi ?_ | with_reducible refine v_inNo ?_ | with_reducible refine v_isi ?_ | with_reducible refine v_lm ?_ | with_reducible refine t_ext ?_ | with_reducible refine s_tr ?_ | ((with_reducible refine v_tup ?_ ?_); exact rfl) | ((with_reducible refine v_lst ?_ ?_); exact rfl) | ((with_reducible refine v_newl ?_ ?_); exact rfl) | ((with_reducible refine k_pow ?_ ?_); exact rfl)))
  refine W_of (fr (.inr rfl)) ?_
  (repeat (first | ((with_reducible refine v_varK ?_); refine varK ?_) | ((with_reducible refine t_varK ?_); refine varK ?_) | with_reducible refine s_cons ?_ | with_reducible refine q_nx ?_ | with_reducible refine q_ret ?_ | with_reducible refine q_brk ?_ | with_reducible refine q_cont ?_ | with_reducible refine r_nx ?_ | with_reducible refine r_ret ?_ | with_reducible refine s_nil ?_ | with_reducible refine s_pass ?_ | with_reducible refine s_brk ?_ | with_reducible refine s_cont ?_ | with_reducible refine s_retN ?_ | with_reducible refine s_exv ?_ | with_reducible refine s_rt ?_ | with_reducible refine s_ifs ?_ | with_reducible refine s_st ?_ | with_reducible refine s_stc ?_ | with_reducible refine s_as ?_ | with_reducible refine s_pr ?_ | with_reducible refine s_fr ?_ | with_reducible refine v_int ?_ | with_reducible refine v_bl ?_ | with_reducible refine v_non ?_ | with_reducible refine v_str ?_ | with_reducible refine v_op ?_ | with_reducible refine v_cmp ?_ | with_reducible refine v_neg ?_ | with_reducible refine v_fld ?_ | with_reducible refine v_rev ?_ | with_reducible refine v_not ?_ | with_reducible refine v_and ?_ | with_reducible refine v_or ?_ | with_reducible refine v_ite ?_ | with_reducible refine l_nil ?_ | with_reducible refine l_cons ?_ | with_reducible refine v_blt ?_ | with_reducible refine v_call ?_ | with_reducible refine v_mkF ?_ | with_reducible refine v_idx ?_ | with_reducible refine v_slc ?_ | with_reducible refine v_join ?_ | with_reducible refine v_fmt ?_ | with_reducible refine j_nil ?_ | with_reducible refine j_cons ?_ | with_reducible refine v_joined ?_ | with_reducible refine v_comp ?_ | with_reducible refine r_seq ?_ | with_reducible refine r_rng1 ?_ | with_reducible refine r_rng2 ?_ | with_reducible refine t_not ?_ | with_reducible refine t_and ?_ | with_reducible refine t_or ?_ | with_reducible refine t_cmp ?_ | with_reducible refine t_bl ?_ | with_reducible refine t_call ?_ | with_reducible refine t_fld ?_ | with_reducible refine t_idx ?_ | with_reducible refine t_blt ?_ | with_reducible refine c_no ?_ | with_reducible refine c_yes ?_ | with_reducible refine k_add ?_ | with_reducible refine k_sub ?_ | with_reducible refine k_lt ?_ | with_reducible refine k_le ?_ | with_reducible refine k_gt ?_ | with_reducible refine k_ge ?_ | with_reducible refine k_eqi ?_ | with_reducible refine k_nei ?_ | with_reducible refine k_eqs ?_ | with_reducible refine k_nes ?_ | with_reducible refine k_neg ?_ | with_reducible refine b_abs ?_ | with_reducible refine b_strs ?_ | with_reducible refine b_inti ?_ | with_reducible refine b_intb ?_ | with_reducible refine b_max2 ?_ | with_reducible refine b_min2 ?_ | with_reducible refine bl_k ?_ | with_reducible refine str_k ?_ | with_reducible refine br_t ?_ | with_reducible refine br_f ?_ | with_reducible refine o_no ?_ | with_reducible refine l_nx ?_ | with_reducible refine l_ct ?_ | with_reducible refine l_brk ?_ | with_reducible refine l_ret ?_ | with_reducible refine s_sx ?_ | with_reducible refine s_sf ?_ | with_reducible refine okv ?_ | with_reducible refine v_eqi ?_ | with_reducible refine v_inNo ?_ | with_reducible refine v_isi ?_ | with_reducible refine v_lm ?_ | with_reducible refine t_ext ?_ | with_reducible refine s_tr ?_ | ((with_reducible refine v_tup ?_ ?_); exact rfl) | ((with_reducible refine v_lst ?_ ?_); exact rfl) | ((with_reducible refine v_newl ?_ ?_); exact rfl) | ((with_reducible refine k_pow ?_ ?_); exact rfl)))
  refine W_of tx ?_
  (repeat (first | ((with_reducible refine v_varK ?_); refine varK ?_) | ((with_reducible refine t_varK ?_); refine varK ?_) | with_reducible refine s_cons ?_ | with_reducible refine q_nx ?_ | with_reducible refine q_ret ?_ | with_reducible refine q_brk ?_ | with_reducible refine q_cont ?_ | with_reducible refine r_nx ?_ | with_reducible refine r_ret ?_ | with_reducible refine s_nil ?_ | with_reducible refine s_pass ?_ | with_reducible refine s_brk ?_ | with_reducible refine s_cont ?_ | with_reducible refine s_retN ?_ | with_reducible refine s_exv ?_ | with_reducible refine s_rt ?_ | with_reducible refine s_ifs ?_ | with_reducible refine s_st ?_ | with_reducible refine s_stc ?_ | with_reducible refine s_as ?_ | with_reducible refine s_pr ?_ | with_reducible refine s_fr ?_ | with_reducible refine v_int ?_ | with_reducible refine v_bl ?_ | with_reducible refine v_non ?_ | with_reducible refine v_str ?_ | with_reducible refine v_op ?_ | with_reducible refine v_cmp ?_ | with_reducible refine v_neg ?_ | with_reducible refine v_fld ?_ | with_reducible refine v_rev ?_ | with_reducible refine v_not ?_ | with_reducible refine v_and ?_ | with_reducible refine v_or ?_ | with_reducible refine v_ite ?_ | with_reducible refine l_nil ?_ | with_reducible refine l_cons ?_ | with_reducible refine v_blt ?_ | with_reducible refine v_call ?_ | with_reducible refine v_mkF ?_ | with_reducible refine v_idx ?_ | with_reducible refine v_slc ?_ | with_reducible refine v_join ?_ | with_reducible refine v_fmt ?_ | with_reducible refine j_nil ?_ | with_reducible refine j_cons ?_ | with_reducible refine v_joined ?_ | with_reducible refine v_comp ?_ | with_reducible refine r_seq ?_ | with_reducible refine r_rng1 ?_ | with_reducible refine r_rng2 ?_ | with_reducible refine t_not ?_ | with_reducible refine t_and ?_ | with_reducible refine t_or ?_ | with_reducible refine t_cmp ?_ | with_reducible refine t_bl ?_ | with_reducible refine t_call ?_ | with_reducible refine t_fld ?_ | with_reducible refine t_idx ?_ | with_reducible refine t_blt ?_ | with_reducible refine c_no ?_ | with_reducible refine c_yes ?_ | with_reducible refine k_add ?_ | with_reducible refine k_sub ?_ | with_reducible refine k_lt ?_ | with_reducible refine k_le ?_ | with_reducible refine k_gt ?_ | with_reducible refine k_ge ?_ | with_reducible refine k_eqi ?_ | with_reducible refine k_nei ?_ | with_reducible refine k_eqs ?_ | with_reducible refine k_nes ?_ | with_reducible refine k_neg ?_ | with_reducible refine b_abs ?_ | with_reducible refine b_strs ?_ | with_reducible refine b_inti ?_ | with_reducible refine b_intb ?_ | with_reducible refine b_max2 ?_ | with_reducible refine b_min2 ?_ | with_reducible refine bl_k ?_ | with_reducible refine str_k ?_ | with_reducible refine br_t ?_ | with_reducible refine br_f ?_ | with_reducible refine o_no ?_ | with_reducible refine l_nx ?_ | with_reducible refine l_ct ?_ | with_reducible refine l_brk ?_ | with_reducible refine l_ret ?_ | with_reducible refine s_sx ?_ | with_reducible refine s_sf ?_ | with_reducible refine okv ?_ | with_reducible refine v_eqi ?_ | with_reducible refine v_inNo ?_ | with_reducible refine v_isi ?_ | with_reducible refine v_lm ?_ | with_reducible refine t_ext ?_ | with_reducible refine s_tr ?_ | ((with_reducible refine v_tup ?_ ?_); exact rfl) | ((with_reducible refine v_lst ?_ ?_); exact rfl) | ((with_reducible refine v_newl ?_ ?_); exact rfl) | ((with_reducible refine k_pow ?_ ?_); exact rfl)))
  refine br_no (by simp) ?_
  (repeat (first | ((with_reducible refine v_varK ?_); refine varK ?_) | ((with_reducible refine t_varK ?_); refine varK ?_) | with_reducible refine s_cons ?_ | with_reducible refine q_nx ?_ | with_reducible refine q_ret ?_ | with_reducible refine q_brk ?_ | with_reducible refine q_cont ?_ | with_reducible refine r_nx ?_ | with_reducible refine r_ret ?_ | with_reducible refine s_nil ?_ | with_reducible refine s_pass ?_ | with_reducible refine s_brk ?_ | with_reducible refine s_cont ?_ | with_reducible refine s_retN ?_ | with_reducible refine s_exv ?_ | with_reducible refine s_rt ?_ | with_reducible refine s_ifs ?_ | with_reducible refine s_st ?_ | with_reducible refine s_stc ?_ | with_reducible refine s_as ?_ | with_reducible refine s_pr ?_ | with_reducible refine s_fr ?_ | with_reducible refine v_int ?_ | with_reducible refine v_bl ?_ | with_reducible refine v_non ?_ | with_reducible refine v_str ?_ | with_reducible refine v_op ?_ | with_reducible refine v_cmp ?_ | with_reducible refine v_neg ?_ | with_reducible refine v_fld ?_ | with_reducible refine v_rev ?_ | with_reducible refine v_not ?_ | with_reducible refine v_and ?_ | with_reducible refine v_or ?_ | with_reducible refine v_ite ?_ | with_reducible refine l_nil ?_ | with_reducible refine l_cons ?_ | with_reducible refine v_blt ?_ | with_reducible refine v_call ?_ | with_reducible refine v_mkF ?_ | with_reducible refine v_idx ?_ | with_reducible refine v_slc ?_ | with_reducible refine v_join ?_ | with_reducible refine v_fmt ?_ | with_reducible refine j_nil ?_ | with_reducible refine j_cons ?_ | with_reducible refine v_joined ?_ | with_reducible refine v_comp ?_ | with_reducible refine r_seq ?_ | with_reducible refine r_rng1 ?_ | with_reducible refine r_rng2 ?_ | with_reducible refine t_not ?_ | with_reducible refine t_and ?_ | with_reducible refine t_or ?_ | with_reducible refine t_cmp ?_ | with_reducible refine t_bl ?_ | with_reducible refine t_call ?_ | with_reducible refine t_fld ?_ | with_reducible refine t_idx ?_ | with_reducible refine t_blt ?_ | with_reducible refine c_no ?_ | with_reducible refine c_yes ?_ | with_reducible refine k_add ?_ | with_reducible refine k_sub ?_ | with_reducible refine k_lt ?_ | with_reducible refine k_le ?_ | with_reducible refine k_gt ?_ | with_reducible refine k_ge ?_ | with_reducible refine k_eqi ?_ | with_reducible refine k_nei ?_ | with_reducible refine k_eqs ?_ | with_reducible refine k_nes ?_ | with_reducible refine k_neg ?_ | with_reducible refine b_abs ?_ | with_reducible refine b_strs ?_ | with_reducible refine b_inti ?_ | with_reducible refine b_intb ?_ | with_reducible refine b_max2 ?_ | with_reducible refine b_min2 ?_ | with_reducible refine bl_k ?_ | with_reducible refine str_k ?_ | with_reducible refine br_t ?_ | with_reducible refine br_f ?_ | with_reducible refine o_no ?_ | with_reducible refine l_nx ?_ | with_reducible refine l_ct ?_ | with_reducible refine l_brk ?_ | with_reducible refine l_ret ?_ | with_reducible refine s_sx ?_ | with_reducible refine s_sf ?_ | with_reducible refine okv ?_ | with_reducible refine v_eqi ?_ | with_reducible refine v_inNo ?_ | with_reducible refine v_isi ?_ | with_reducible refine v_lm ?_ | with_reducible refine t_ext ?_ | with_reducible refine s_tr ?_ | ((with_reducible refine v_tup ?_ ?_); exact rfl) | ((with_reducible refine v_lst ?_ ?_); exact rfl) | ((with_reducible refine v_newl ?_ ?_); exact rfl) | ((with_reducible refine k_pow ?_ ?_); exact rfl)))
  exact hq _ _ ⟨rfl, rfl⟩ hw2
end
end PV

set_option Elab.async false
set_option linter.all false
set_option maxRecDepth 100000
set_option maxHeartbeats 800000
/-! E13: numbers in parts, cut down; equality of data. -/
namespace PV
open PySem L2
/-! ### numbers in parts -/
def gd (l : List Int) (p : Nat) : Nat := gcds (l ++ [(p : Int)])
def nm (l : List Int) (p : Nat) : List Int := l.map fun x => x.fdiv (gd l p : Nat)
def pt (l : List Int) (p : Nat) : Nat := p / gd l p
def plD (l : List Int) (p : Nat) : D := .ins 20 ["numbers", "parts"] [.tup (iL (nm l p)), .int (pt l p : Nat)]
theorem gcd_dvd_all : ∀ (l : List Int) (g : Nat), (l.foldl (fun g x => Nat.gcd g x.natAbs) g) ∣ g ∧ ∀ x ∈ l, (l.foldl (fun g x => Nat.gcd g x.natAbs) g) ∣ x.natAbs
  | [], g => ⟨Nat.dvd_refl g, fun _ h => by cases h⟩
  | x :: l, g => by
    obtain ⟨h1, h2⟩ := gcd_dvd_all l (Nat.gcd g x.natAbs)
    refine ⟨Nat.dvd_trans h1 (Nat.gcd_dvd_left _ _), fun y hy => ?_⟩
    rcases List.mem_cons.mp hy with q | q
    · subst q; exact Nat.dvd_trans h1 (Nat.gcd_dvd_right _ _)
    · exact h2 y q
theorem gd_dvd {l : List Int} {p : Nat} : gd l p ∣ p ∧ ∀ x ∈ l, gd l p ∣ x.natAbs := by
  have h := gcd_dvd_all (l ++ [(p : Int)]) 0
  have hp := h.2 (p : Int) (List.mem_append_right _ (List.mem_singleton.mpr rfl))
  rw [Int.natAbs_natCast] at hp
  exact ⟨hp, fun x hx => h.2 x (List.mem_append_left _ hx)⟩
theorem gd_pos {l : List Int} {p : Nat} (hp : 0 < p) : 0 < gd l p := Nat.pos_of_dvd_of_pos gd_dvd.1 hp
theorem gd_le {l : List Int} {p : Nat} (hp : 0 < p) : gd l p ≤ p := Nat.le_of_dvd hp gd_dvd.1
theorem fdiv_pt {l : List Int} {p : Nat} : (p : Int).fdiv (gd l p : Nat) = ((pt l p : Nat) : Int) := by rw [Int.fdiv_eq_ediv_of_nonneg _ (by omega)]; rfl
theorem pt_mul {l : List Int} {p : Nat} : gd l p * pt l p = p := Nat.mul_div_cancel' gd_dvd.1
theorem nm_mul {l : List Int} {p : Nat} {x : Int} (hx : x ∈ l) : (gd l p : Int) * x.fdiv (gd l p : Nat) = x := by
  have h : (gd l p : Int) ∣ x := Int.natAbs_dvd_natAbs.mp (by rw [Int.natAbs_natCast]; exact gd_dvd.2 x hx)
  rw [Int.fdiv_eq_ediv_of_nonneg _ (by omega)]
  exact Int.mul_ediv_cancel' h
theorem gcd_scale (t : Nat) : ∀ (l : List Int) (g : Nat), (l.map fun x => x * (t : Int)).foldl (fun g x => Nat.gcd g x.natAbs) (g * t) = l.foldl (fun g x => Nat.gcd g x.natAbs) g * t
  | [], g => rfl
  | x :: l, g => by
    rw [List.map_cons, List.foldl_cons, List.foldl_cons, Int.natAbs_mul, Int.natAbs_natCast, Nat.gcd_mul_right]
    exact gcd_scale t l _
theorem gd_scale {l : List Int} {p t : Nat} : gd (l.map fun x => x * (t : Int)) (p * t) = gd l p * t := by
  have h := gcd_scale t (l ++ [(p : Int)]) 0
  rw [List.map_append, Nat.zero_mul] at h
  exact h
theorem scale_same {l : List Int} {p t : Nat} (hp : 0 < p) (ht : 0 < t) : nm (l.map fun x => x * (t : Int)) (p * t) = nm l p ∧ pt (l.map fun x => x * (t : Int)) (p * t) = pt l p := by
  have g0 := gd_pos (l := l) hp
  constructor
  · unfold nm
    rw [List.map_map, gd_scale]
    refine List.map_congr_left fun x hx => ?_
    show (x * (t : Int)).fdiv ((gd l p * t : Nat) : Int) = x.fdiv (gd l p : Nat)
    rw [Int.fdiv_eq_ediv_of_nonneg _ (by omega), Int.fdiv_eq_ediv_of_nonneg _ (by omega), Int.natCast_mul]
    exact Int.mul_ediv_mul_of_pos_left _ _ (by omega)
  · unfold pt
    rw [gd_scale, Nat.mul_div_mul_right _ _ ht]
theorem gd_of_pt {a b : List Int} {p : Nat} (hp : 0 < p) (h : pt a p = pt b p) : gd a p = gd b p := by
  have h1 := pt_mul (l := a) (p := p)
  have h2 := pt_mul (l := b) (p := p)
  rw [← h] at h2
  have h3 : 0 < pt a p := Nat.pos_of_ne_zero fun q => by rw [q] at h1; omega
  exact Nat.eq_of_mul_eq_mul_right h3 (h1.trans h2.symm)
theorem same_parts {a b : List Int} {p : Nat} (hp : 0 < p) : (nm a p = nm b p ∧ pt a p = pt b p) ↔ a = b := by
  constructor
  · rintro ⟨h1, h2⟩
    have hg := gd_of_pt hp h2
    have ba : ∀ l : List Int, (nm l p).map (fun x => (gd l p : Int) * x) = l := fun l => by
      unfold nm
      rw [List.map_map]
      conv => rhs; rw [← List.map_id l]
      exact List.map_congr_left fun x hx => nm_mul hx
    rw [← ba a, ← ba b, h1, hg]
  · rintro rfl
    exact ⟨rfl, rfl⟩
theorem gcds_zero : ∀ (l : List Int) (g : Nat), (∀ x ∈ l, x = 0) → l.foldl (fun g x => Nat.gcd g x.natAbs) g = g
  | [], _, _ => rfl
  | x :: l, g, h => by
    rw [List.foldl_cons, h x List.mem_cons_self, Int.natAbs_zero, Nat.gcd_zero_right]
    exact gcds_zero l g fun y hy => h y (List.mem_cons_of_mem _ hy)
theorem gd_zero {l : List Int} {p : Nat} (h : ∀ x ∈ l, x = 0) : gd l p = p := by
  unfold gd gcds
  rw [List.foldl_append, gcds_zero l 0 h]
  show Nat.gcd 0 ((p : Int)).natAbs = p
  rw [Nat.gcd_zero_left, Int.natAbs_natCast]
theorem one_more {l : List Int} {p : Nat} (hp : 0 < p) : (nm l p = nm l (p + 1) ∧ pt l p = pt l (p + 1)) ↔ ∀ x ∈ l, x = 0 := by
  constructor
  · rintro ⟨h1, h2⟩ x hx
    refine Classical.byContradiction fun hne => ?_
    have hp1 : 0 < p + 1 := by omega
    have e1 : x.fdiv (gd l p : Nat) = x.fdiv (gd l (p + 1) : Nat) := by
      have : ∀ (m : List Int), m.map (fun x => x.fdiv (gd l p : Nat)) = m.map (fun x => x.fdiv (gd l (p + 1) : Nat)) → x ∈ m → x.fdiv (gd l p : Nat) = x.fdiv (gd l (p + 1) : Nat) := by
        intro m hm hxm
        induction m with
        | nil => cases hxm
        | cons y m ih =>
          rw [List.map_cons, List.map_cons] at hm
          injection hm with hm1 hm2
          rcases List.mem_cons.mp hxm with q | q
          · subst q; exact hm1
          · exact ih hm2 q
      exact this l h1 hx
    have m1 := nm_mul (p := p) hx
    have m2 := nm_mul (p := p + 1) hx
    rw [← e1] at m2
    have hk : x.fdiv (gd l p : Nat) ≠ 0 := fun q => by rw [q, Int.mul_zero] at m1; exact hne m1.symm
    have hg : (gd l p : Int) = (gd l (p + 1) : Int) := Int.eq_of_mul_eq_mul_right hk (m1.trans m2.symm)
    have hg' : gd l p = gd l (p + 1) := by omega
    have p1 := pt_mul (l := l) (p := p)
    have p2 := pt_mul (l := l) (p := p + 1)
    rw [← h2, ← hg', p1] at p2
    omega
  · intro h
    have z1 : gd l p = p := gd_zero h
    have z2 : gd l (p + 1) = p + 1 := gd_zero h
    constructor
    · unfold nm
      refine List.map_congr_left fun x hx => ?_
      rw [h x hx, Int.zero_fdiv, Int.zero_fdiv]
    · unfold pt
      rw [z1, z2, Nat.div_self hp, Nat.div_self (by omega)]
/-! ### equality of data -/
theorem pys_ints : ∀ l : List Int, D.pys (iL l) = some (l.map PyData.int)
  | [] => rfl
  | x :: l => by
    show (match D.py (.int x), D.pys (iL l) with | some x, some xs => some (x :: xs) | _, _ => none) = _
    rw [pys_ints l]; rfl
theorem lay_ints : ∀ l : List Int, PyData.canLayAll0 (l.map PyData.int) = true
  | [] => rfl
  | x :: l => by
    show (PyData.canLay0 (.int x) && PyData.canLayAll0 (l.map PyData.int)) = true
    rw [lay_ints l]; rfl
theorem depth_ints : ∀ l : List Int, PyData.depthAll (l.map PyData.int) = 0
  | [] => rfl
  | x :: l => by
    show max (PyData.depth (.int x)) (PyData.depthAll (l.map PyData.int)) = 0
    rw [depth_ints l]; rfl
theorem eqv_ints : ∀ a b : List Int, PyData.eqvAll (a.map PyData.int) (b.map PyData.int) = decide (a = b)
  | [], [] => rfl
  | [], y :: b => rfl
  | x :: a, [] => rfl
  | x :: a, y :: b => by
    show (PyData.eqv (.int x) (.int y) && PyData.eqvAll (a.map PyData.int) (b.map PyData.int)) = _
    rw [eqv_ints a b]
    show ((x == y) && decide (a = b)) = _
    by_cases h : x = y
    · subst h; simp
    · simp [h]
theorem py_lstI {S : Store} {l : List Int} : pyS S (.lst (iL l)) = some (.list (l.map PyData.int)) := by
  have e : D.py (.lst (iL l)) = some (.list (l.map PyData.int)) := by
    show (D.pys (iL l)).map PyData.list = _
    rw [pys_ints]; rfl
  unfold pyS
  show (match D.py (.lst (iL l)) with | some p => if SeqAt.shaped p then some p else none | none => none) = _
  rw [e]
  have hs : SeqAt.shaped (.list (l.map PyData.int)) = true := by
    show (PyData.canLayAll0 (l.map PyData.int) && decide (PyData.depthAll (l.map PyData.int) + 1 ≤ 64)) = true
    rw [lay_ints, depth_ints]; rfl
  dsimp only
  rw [if_pos hs]
theorem py_plc {S : Store} {l : List Int} {p : Int} : pyS S (.tup [.tup (iL l), .int p]) = some (.tuple [.tuple (l.map PyData.int), .int p]) := by
  have e0 : D.py (.tup (iL l)) = some (.tuple (l.map PyData.int)) := by
    show (D.pys (iL l)).map PyData.tuple = _
    rw [pys_ints]; rfl
  have e : D.py (.tup [.tup (iL l), .int p]) = some (.tuple [.tuple (l.map PyData.int), .int p]) := by
    show ((match D.py (.tup (iL l)), D.pys [.int p] with | some x, some xs => some (x :: xs) | _, _ => none).map PyData.tuple) = _
    rw [e0]; rfl
  unfold pyS
  show (match D.py (.tup [.tup (iL l), .int p]) with | some p => if SeqAt.shaped p then some p else none | none => none) = _
  rw [e]
  have hs : SeqAt.shaped (.tuple [.tuple (l.map PyData.int), .int p]) = true := by
    show ((PyData.canLayAll0 (l.map PyData.int) && (true && true)) && decide (max (PyData.depthAll (l.map PyData.int) + 1) (max 0 0) + 1 ≤ 64)) = true
    rw [lay_ints, depth_ints]; rfl
  dsimp only
  rw [if_pos hs]
section
variable {X : XP} {S : Store} {Q : D → Store → Prop}
theorem k_eqD {x y : D} {p q : PyData} (h1 : pyS S x = some p) (h2 : pyS S y = some q) (hx : ∀ z, x ≠ .str z) (k : Q (.bl (PyData.eqv p q)) S) : WV X (Cp.eq.d x y S) Q := by
  show WV X (eqD false x y S) Q
  unfold eqD
  split
  · rename_i a b; exact absurd rfl (hx a)
  · rw [h1, h2]; exact k
theorem k_neD {x y : D} {p q : PyData} (h1 : pyS S x = some p) (h2 : pyS S y = some q) (hx : ∀ z, x ≠ .str z) (k : Q (.bl (!PyData.eqv p q)) S) : WV X (Cp.ne.d x y S) Q := by
  show WV X (eqD true x y S) Q
  unfold eqD
  split
  · rename_i a b; exact absurd rfl (hx a)
  · rw [h1, h2]; exact k
theorem eqv_plc {a b : List Int} {p q : Int} : PyData.eqv (.tuple [.tuple (a.map PyData.int), .int p]) (.tuple [.tuple (b.map PyData.int), .int q]) = decide (a = b ∧ p = q) := by
  show (PyData.eqvAll (a.map PyData.int) (b.map PyData.int) && ((p == q) && true)) = _
  rw [eqv_ints]
  by_cases h1 : a = b
  · by_cases h2 : p = q
    · simp [h1, h2]
    · simp [h1, h2]
  · simp [h1]
theorem k_eqP {a b : List Int} {p q : Int} (k : Q (.bl (decide (a = b ∧ p = q))) S) : WV X (Cp.eq.d (.tup [.tup (iL a), .int p]) (.tup [.tup (iL b), .int q]) S) Q := k_eqD py_plc py_plc (fun z h => by cases h) (by rw [eqv_plc]; exact k)
theorem k_neP {a b : List Int} {p q : Int} (k : Q (.bl (!decide (a = b ∧ p = q))) S) : WV X (Cp.ne.d (.tup [.tup (iL a), .int p]) (.tup [.tup (iL b), .int q]) S) Q := k_neD py_plc py_plc (fun z h => by cases h) (by rw [eqv_plc]; exact k)
theorem k_eqL {a b : List Int} (k : Q (.bl (decide (a = b))) S) : WV X (Cp.eq.d (.lst (iL a)) (.lst (iL b)) S) Q := k_eqD py_lstI py_lstI (fun z h => by cases h) (by show Q (.bl (PyData.eqvAll _ _)) S; rw [eqv_ints]; exact k)
theorem k_neB {a b : Bool} (k : Q (.bl (!(a == b))) S) : WV X (Cp.ne.d (.bl a) (.bl b) S) Q := by
  cases a <;> cases b <;> exact k_neD rfl rfl (fun z h => by cases h) k
end
theorem beqs_ints : ∀ l : List Int, D.beqs (iL l) (iL l) = true
  | [] => rfl
  | x :: l => by
    show (D.beq (.int x) (.int x) && D.beqs (iL l) (iL l)) = true
    rw [beqs_ints l]
    show (decide (x = x) && true) = true
    simp
end PV

set_option Elab.async false
set_option linter.all false
set_option maxRecDepth 100000
set_option maxHeartbeats 800000
/-! E14: Places: made, refused, its own ==. -/
namespace PV
open PySem L2
section
variable {X : XP} {ok : Okt} {fs : Nat → Option (Nat × Sms)} {is : Nat → Option (Nat × Nat × Sms)} {k : Nat} {S : Store}
structure FPl (ok : Okt) (fs : Nat → Option (Nat × Sms)) (is : Nat → Option (Nat × Nat × Sms)) : Prop where
  f57 : fs 57 = some (2, Pg.b_shared)
  f58 : fs 58 = some (3, Pg.b_shared_by)
  i20 : is 20 = some (5, 20, Pg.b_Places)
  o1 : ok.fld 20 "numbers" = true
  o2 : ok.fld 20 "parts" = true
  f138 : fs 138 = some (1, Pg.b_Places_facts)
  f137 : fs 137 = some (2, Pg.b_Places___eq__)
  m : ok.met 20 "facts" = some (138, 1)
  e : ok.eqs 20 = some 137
  s : ok.sub 20 20 = some true
  d : ok.dat 20 = true
  rz : ok.rz 0 = some ["what", "count"]
theorem places_w (F : FPl ok fs is) {Q : Fds → Store → Prop} {d : D} {l : List Int} (hd : seqOf S d = some (iL l)) (hs : okSrc d (iL l) S = true) (hl : l.length < 1000) {p : Nat} (hp : 0 < p) (hz : p.log2 < 9000)
    (q : Q (["numbers", "parts"], [.tup (iL (nm l p)), .int (pt l p : Nat)]) S) : W X ((TT ok fs is (k + 3)).ini 20 [d, .int p]  S) Q := by
  have h := places_ini (ok := ok) (k := k) F.f57 F.f58 F.i20 F.o1 F.o2 hd hs hl hp hz
  refine W_of h ?_
  have e : (p : Int).fdiv (gcds (l ++ [(p : Int)]) : Nat) = ((pt l p : Nat) : Int) := fdiv_pt
  rw [e]; exact q
theorem places_no (F : FPl ok fs is) {Q : Fds → Store → Prop} {d : D} {q : Int} (hq : q < 1) (h : X 0 ["count", "what"] [.int q, .str (Str.ofString "parts")] S) : W X ((TT ok fs is (k + 1)).ini 20 [d, .int q] S) Q := by
  refine w_ini F.i20 ?_
  unfold Pg.b_Places
  (repeat (first | ((with_reducible refine v_varK ?_); refine varK ?_) | ((with_reducible refine t_varK ?_); refine varK ?_) | with_reducible refine s_cons ?_ | with_reducible refine q_nx ?_ | with_reducible refine q_ret ?_ | with_reducible refine q_brk ?_ | with_reducible refine q_cont ?_ | with_reducible refine r_nx ?_ | with_reducible refine r_ret ?_ | with_reducible refine s_nil ?_ | with_reducible refine s_pass ?_ | with_reducible refine s_brk ?_ | with_reducible refine s_cont ?_ | with_reducible refine s_retN ?_ | with_reducible refine s_exv ?_ | with_reducible refine s_rt ?_ | with_reducible refine s_ifs ?_ | with_reducible refine s_st ?_ | with_reducible refine s_stc ?_ | with_reducible refine s_as ?_ | with_reducible refine s_pr ?_ | with_reducible refine s_fr ?_ | with_reducible refine v_int ?_ | with_reducible refine v_bl ?_ | with_reducible refine v_non ?_ | with_reducible refine v_str ?_ | with_reducible refine v_op ?_ | with_reducible refine v_cmp ?_ | with_reducible refine v_neg ?_ | with_reducible refine v_fld ?_ | with_reducible refine v_rev ?_ | with_reducible refine v_not ?_ | with_reducible refine v_and ?_ | with_reducible refine v_or ?_ | with_reducible refine v_ite ?_ | with_reducible refine l_nil ?_ | with_reducible refine l_cons ?_ | with_reducible refine v_blt ?_ | with_reducible refine v_call ?_ | with_reducible refine v_mkF ?_ | with_reducible refine v_idx ?_ | with_reducible refine v_slc ?_ | with_reducible refine v_join ?_ | with_reducible refine v_fmt ?_ | with_reducible refine j_nil ?_ | with_reducible refine j_cons ?_ | with_reducible refine v_joined ?_ | with_reducible refine v_comp ?_ | with_reducible refine r_seq ?_ | with_reducible refine r_rng1 ?_ | with_reducible refine r_rng2 ?_ | with_reducible refine t_not ?_ | with_reducible refine t_and ?_ | with_reducible refine t_or ?_ | with_reducible refine t_cmp ?_ | with_reducible refine t_bl ?_ | with_reducible refine t_call ?_ | with_reducible refine t_fld ?_ | with_reducible refine t_idx ?_ | with_reducible refine t_blt ?_ | with_reducible refine c_no ?_ | with_reducible refine c_yes ?_ | with_reducible refine k_add ?_ | with_reducible refine k_sub ?_ | with_reducible refine k_lt ?_ | with_reducible refine k_le ?_ | with_reducible refine k_gt ?_ | with_reducible refine k_ge ?_ | with_reducible refine k_eqi ?_ | with_reducible refine k_nei ?_ | with_reducible refine k_eqs ?_ | with_reducible refine k_nes ?_ | with_reducible refine k_neg ?_ | with_reducible refine b_abs ?_ | with_reducible refine b_strs ?_ | with_reducible refine b_inti ?_ | with_reducible refine b_intb ?_ | with_reducible refine b_max2 ?_ | with_reducible refine b_min2 ?_ | with_reducible refine bl_k ?_ | with_reducible refine str_k ?_ | with_reducible refine br_t ?_ | with_reducible refine br_f ?_ | with_reducible refine o_no ?_ | with_reducible refine l_nx ?_ | with_reducible refine l_ct ?_ | with_reducible refine l_brk ?_ | with_reducible refine l_ret ?_ | with_reducible refine s_sx ?_ | with_reducible refine s_sf ?_ | with_reducible refine okv ?_ | with_reducible refine v_eqi ?_ | with_reducible refine v_inNo ?_ | with_reducible refine v_isi ?_ | with_reducible refine v_lm ?_ | with_reducible refine t_ext ?_ | with_reducible refine s_tr ?_ | ((with_reducible refine v_tup ?_ ?_); exact rfl) | ((with_reducible refine v_lst ?_ ?_); exact rfl) | ((with_reducible refine v_newl ?_ ?_); exact rfl) | ((with_reducible refine k_pow ?_ ?_); exact rfl)))
  refine br_is (decide_eq_true hq) ?_
  refine s_cons (s_rz F.rz ?_)
  (repeat (first | ((with_reducible refine v_varK ?_); refine varK ?_) | ((with_reducible refine t_varK ?_); refine varK ?_) | with_reducible refine s_cons ?_ | with_reducible refine q_nx ?_ | with_reducible refine q_ret ?_ | with_reducible refine q_brk ?_ | with_reducible refine q_cont ?_ | with_reducible refine r_nx ?_ | with_reducible refine r_ret ?_ | with_reducible refine s_nil ?_ | with_reducible refine s_pass ?_ | with_reducible refine s_brk ?_ | with_reducible refine s_cont ?_ | with_reducible refine s_retN ?_ | with_reducible refine s_exv ?_ | with_reducible refine s_rt ?_ | with_reducible refine s_ifs ?_ | with_reducible refine s_st ?_ | with_reducible refine s_stc ?_ | with_reducible refine s_as ?_ | with_reducible refine s_pr ?_ | with_reducible refine s_fr ?_ | with_reducible refine v_int ?_ | with_reducible refine v_bl ?_ | with_reducible refine v_non ?_ | with_reducible refine v_str ?_ | with_reducible refine v_op ?_ | with_reducible refine v_cmp ?_ | with_reducible refine v_neg ?_ | with_reducible refine v_fld ?_ | with_reducible refine v_rev ?_ | with_reducible refine v_not ?_ | with_reducible refine v_and ?_ | with_reducible refine v_or ?_ | with_reducible refine v_ite ?_ | with_reducible refine l_nil ?_ | with_reducible refine l_cons ?_ | with_reducible refine v_blt ?_ | with_reducible refine v_call ?_ | with_reducible refine v_mkF ?_ | with_reducible refine v_idx ?_ | with_reducible refine v_slc ?_ | with_reducible refine v_join ?_ | with_reducible refine v_fmt ?_ | with_reducible refine j_nil ?_ | with_reducible refine j_cons ?_ | with_reducible refine v_joined ?_ | with_reducible refine v_comp ?_ | with_reducible refine r_seq ?_ | with_reducible refine r_rng1 ?_ | with_reducible refine r_rng2 ?_ | with_reducible refine t_not ?_ | with_reducible refine t_and ?_ | with_reducible refine t_or ?_ | with_reducible refine t_cmp ?_ | with_reducible refine t_bl ?_ | with_reducible refine t_call ?_ | with_reducible refine t_fld ?_ | with_reducible refine t_idx ?_ | with_reducible refine t_blt ?_ | with_reducible refine c_no ?_ | with_reducible refine c_yes ?_ | with_reducible refine k_add ?_ | with_reducible refine k_sub ?_ | with_reducible refine k_lt ?_ | with_reducible refine k_le ?_ | with_reducible refine k_gt ?_ | with_reducible refine k_ge ?_ | with_reducible refine k_eqi ?_ | with_reducible refine k_nei ?_ | with_reducible refine k_eqs ?_ | with_reducible refine k_nes ?_ | with_reducible refine k_neg ?_ | with_reducible refine b_abs ?_ | with_reducible refine b_strs ?_ | with_reducible refine b_inti ?_ | with_reducible refine b_intb ?_ | with_reducible refine b_max2 ?_ | with_reducible refine b_min2 ?_ | with_reducible refine bl_k ?_ | with_reducible refine str_k ?_ | with_reducible refine br_t ?_ | with_reducible refine br_f ?_ | with_reducible refine o_no ?_ | with_reducible refine l_nx ?_ | with_reducible refine l_ct ?_ | with_reducible refine l_brk ?_ | with_reducible refine l_ret ?_ | with_reducible refine s_sx ?_ | with_reducible refine s_sf ?_ | with_reducible refine okv ?_ | with_reducible refine v_eqi ?_ | with_reducible refine v_inNo ?_ | with_reducible refine v_isi ?_ | with_reducible refine v_lm ?_ | with_reducible refine t_ext ?_ | with_reducible refine s_tr ?_ | ((with_reducible refine v_tup ?_ ?_); exact rfl) | ((with_reducible refine v_lst ?_ ?_); exact rfl) | ((with_reducible refine v_newl ?_ ?_); exact rfl) | ((with_reducible refine k_pow ?_ ?_); exact rfl)))
  exact ⟨rfl, by decide, ⟨_, _, _, rfl⟩, h⟩
theorem facts_w (F : FPl ok fs is) {Q : D → Store → Prop} {l : List Int} {p : Nat} (q : Q (.tup [.tup (iL (nm l p)), .int (pt l p : Nat)]) S) : W X ((TT ok fs is (k + 1)).fn 138 [plD l p] S) Q := by
  refine w_fn F.f138 ?_
  unfold Pg.b_Places_facts plD
  (repeat (first | ((with_reducible refine v_varK ?_); refine varK ?_) | ((with_reducible refine t_varK ?_); refine varK ?_) | with_reducible refine s_cons ?_ | with_reducible refine q_nx ?_ | with_reducible refine q_ret ?_ | with_reducible refine q_brk ?_ | with_reducible refine q_cont ?_ | with_reducible refine r_nx ?_ | with_reducible refine r_ret ?_ | with_reducible refine s_nil ?_ | with_reducible refine s_pass ?_ | with_reducible refine s_brk ?_ | with_reducible refine s_cont ?_ | with_reducible refine s_retN ?_ | with_reducible refine s_exv ?_ | with_reducible refine s_rt ?_ | with_reducible refine s_ifs ?_ | with_reducible refine s_st ?_ | with_reducible refine s_stc ?_ | with_reducible refine s_as ?_ | with_reducible refine s_pr ?_ | with_reducible refine s_fr ?_ | with_reducible refine v_int ?_ | with_reducible refine v_bl ?_ | with_reducible refine v_non ?_ | with_reducible refine v_str ?_ | with_reducible refine v_op ?_ | with_reducible refine v_cmp ?_ | with_reducible refine v_neg ?_ | with_reducible refine v_fld ?_ | with_reducible refine v_rev ?_ | with_reducible refine v_not ?_ | with_reducible refine v_and ?_ | with_reducible refine v_or ?_ | with_reducible refine v_ite ?_ | with_reducible refine l_nil ?_ | with_reducible refine l_cons ?_ | with_reducible refine v_blt ?_ | with_reducible refine v_call ?_ | with_reducible refine v_mkF ?_ | with_reducible refine v_idx ?_ | with_reducible refine v_slc ?_ | with_reducible refine v_join ?_ | with_reducible refine v_fmt ?_ | with_reducible refine j_nil ?_ | with_reducible refine j_cons ?_ | with_reducible refine v_joined ?_ | with_reducible refine v_comp ?_ | with_reducible refine r_seq ?_ | with_reducible refine r_rng1 ?_ | with_reducible refine r_rng2 ?_ | with_reducible refine t_not ?_ | with_reducible refine t_and ?_ | with_reducible refine t_or ?_ | with_reducible refine t_cmp ?_ | with_reducible refine t_bl ?_ | with_reducible refine t_call ?_ | with_reducible refine t_fld ?_ | with_reducible refine t_idx ?_ | with_reducible refine t_blt ?_ | with_reducible refine c_no ?_ | with_reducible refine c_yes ?_ | with_reducible refine k_add ?_ | with_reducible refine k_sub ?_ | with_reducible refine k_lt ?_ | with_reducible refine k_le ?_ | with_reducible refine k_gt ?_ | with_reducible refine k_ge ?_ | with_reducible refine k_eqi ?_ | with_reducible refine k_nei ?_ | with_reducible refine k_eqs ?_ | with_reducible refine k_nes ?_ | with_reducible refine k_neg ?_ | with_reducible refine b_abs ?_ | with_reducible refine b_strs ?_ | with_reducible refine b_inti ?_ | with_reducible refine b_intb ?_ | with_reducible refine b_max2 ?_ | with_reducible refine b_min2 ?_ | with_reducible refine bl_k ?_ | with_reducible refine str_k ?_ | with_reducible refine br_t ?_ | with_reducible refine br_f ?_ | with_reducible refine o_no ?_ | with_reducible refine l_nx ?_ | with_reducible refine l_ct ?_ | with_reducible refine l_brk ?_ | with_reducible refine l_ret ?_ | with_reducible refine s_sx ?_ | with_reducible refine s_sf ?_ | with_reducible refine okv ?_ | with_reducible refine v_eqi ?_ | with_reducible refine v_inNo ?_ | with_reducible refine v_isi ?_ | with_reducible refine v_lm ?_ | with_reducible refine t_ext ?_ | with_reducible refine s_tr ?_ | ((with_reducible refine v_tup ?_ ?_); exact rfl) | ((with_reducible refine v_lst ?_ ?_); exact rfl) | ((with_reducible refine v_newl ?_ ?_); exact rfl) | ((with_reducible refine k_pow ?_ ?_); exact rfl)))
  refine f_ins F.o1 rfl ?_
  (repeat (first | ((with_reducible refine v_varK ?_); refine varK ?_) | ((with_reducible refine t_varK ?_); refine varK ?_) | with_reducible refine s_cons ?_ | with_reducible refine q_nx ?_ | with_reducible refine q_ret ?_ | with_reducible refine q_brk ?_ | with_reducible refine q_cont ?_ | with_reducible refine r_nx ?_ | with_reducible refine r_ret ?_ | with_reducible refine s_nil ?_ | with_reducible refine s_pass ?_ | with_reducible refine s_brk ?_ | with_reducible refine s_cont ?_ | with_reducible refine s_retN ?_ | with_reducible refine s_exv ?_ | with_reducible refine s_rt ?_ | with_reducible refine s_ifs ?_ | with_reducible refine s_st ?_ | with_reducible refine s_stc ?_ | with_reducible refine s_as ?_ | with_reducible refine s_pr ?_ | with_reducible refine s_fr ?_ | with_reducible refine v_int ?_ | with_reducible refine v_bl ?_ | with_reducible refine v_non ?_ | with_reducible refine v_str ?_ | with_reducible refine v_op ?_ | with_reducible refine v_cmp ?_ | with_reducible refine v_neg ?_ | with_reducible refine v_fld ?_ | with_reducible refine v_rev ?_ | with_reducible refine v_not ?_ | with_reducible refine v_and ?_ | with_reducible refine v_or ?_ | with_reducible refine v_ite ?_ | with_reducible refine l_nil ?_ | with_reducible refine l_cons ?_ | with_reducible refine v_blt ?_ | with_reducible refine v_call ?_ | with_reducible refine v_mkF ?_ | with_reducible refine v_idx ?_ | with_reducible refine v_slc ?_ | with_reducible refine v_join ?_ | with_reducible refine v_fmt ?_ | with_reducible refine j_nil ?_ | with_reducible refine j_cons ?_ | with_reducible refine v_joined ?_ | with_reducible refine v_comp ?_ | with_reducible refine r_seq ?_ | with_reducible refine r_rng1 ?_ | with_reducible refine r_rng2 ?_ | with_reducible refine t_not ?_ | with_reducible refine t_and ?_ | with_reducible refine t_or ?_ | with_reducible refine t_cmp ?_ | with_reducible refine t_bl ?_ | with_reducible refine t_call ?_ | with_reducible refine t_fld ?_ | with_reducible refine t_idx ?_ | with_reducible refine t_blt ?_ | with_reducible refine c_no ?_ | with_reducible refine c_yes ?_ | with_reducible refine k_add ?_ | with_reducible refine k_sub ?_ | with_reducible refine k_lt ?_ | with_reducible refine k_le ?_ | with_reducible refine k_gt ?_ | with_reducible refine k_ge ?_ | with_reducible refine k_eqi ?_ | with_reducible refine k_nei ?_ | with_reducible refine k_eqs ?_ | with_reducible refine k_nes ?_ | with_reducible refine k_neg ?_ | with_reducible refine b_abs ?_ | with_reducible refine b_strs ?_ | with_reducible refine b_inti ?_ | with_reducible refine b_intb ?_ | with_reducible refine b_max2 ?_ | with_reducible refine b_min2 ?_ | with_reducible refine bl_k ?_ | with_reducible refine str_k ?_ | with_reducible refine br_t ?_ | with_reducible refine br_f ?_ | with_reducible refine o_no ?_ | with_reducible refine l_nx ?_ | with_reducible refine l_ct ?_ | with_reducible refine l_brk ?_ | with_reducible refine l_ret ?_ | with_reducible refine s_sx ?_ | with_reducible refine s_sf ?_ | with_reducible refine okv ?_ | with_reducible refine v_eqi ?_ | with_reducible refine v_inNo ?_ | with_reducible refine v_isi ?_ | with_reducible refine v_lm ?_ | with_reducible refine t_ext ?_ | with_reducible refine s_tr ?_ | ((with_reducible refine v_tup ?_ ?_); exact rfl) | ((with_reducible refine v_lst ?_ ?_); exact rfl) | ((with_reducible refine v_newl ?_ ?_); exact rfl) | ((with_reducible refine k_pow ?_ ?_); exact rfl)))
  refine f_ins F.o2 rfl ?_
  (repeat (first | ((with_reducible refine v_varK ?_); refine varK ?_) | ((with_reducible refine t_varK ?_); refine varK ?_) | with_reducible refine s_cons ?_ | with_reducible refine q_nx ?_ | with_reducible refine q_ret ?_ | with_reducible refine q_brk ?_ | with_reducible refine q_cont ?_ | with_reducible refine r_nx ?_ | with_reducible refine r_ret ?_ | with_reducible refine s_nil ?_ | with_reducible refine s_pass ?_ | with_reducible refine s_brk ?_ | with_reducible refine s_cont ?_ | with_reducible refine s_retN ?_ | with_reducible refine s_exv ?_ | with_reducible refine s_rt ?_ | with_reducible refine s_ifs ?_ | with_reducible refine s_st ?_ | with_reducible refine s_stc ?_ | with_reducible refine s_as ?_ | with_reducible refine s_pr ?_ | with_reducible refine s_fr ?_ | with_reducible refine v_int ?_ | with_reducible refine v_bl ?_ | with_reducible refine v_non ?_ | with_reducible refine v_str ?_ | with_reducible refine v_op ?_ | with_reducible refine v_cmp ?_ | with_reducible refine v_neg ?_ | with_reducible refine v_fld ?_ | with_reducible refine v_rev ?_ | with_reducible refine v_not ?_ | with_reducible refine v_and ?_ | with_reducible refine v_or ?_ | with_reducible refine v_ite ?_ | with_reducible refine l_nil ?_ | with_reducible refine l_cons ?_ | with_reducible refine v_blt ?_ | with_reducible refine v_call ?_ | with_reducible refine v_mkF ?_ | with_reducible refine v_idx ?_ | with_reducible refine v_slc ?_ | with_reducible refine v_join ?_ | with_reducible refine v_fmt ?_ | with_reducible refine j_nil ?_ | with_reducible refine j_cons ?_ | with_reducible refine v_joined ?_ | with_reducible refine v_comp ?_ | with_reducible refine r_seq ?_ | with_reducible refine r_rng1 ?_ | with_reducible refine r_rng2 ?_ | with_reducible refine t_not ?_ | with_reducible refine t_and ?_ | with_reducible refine t_or ?_ | with_reducible refine t_cmp ?_ | with_reducible refine t_bl ?_ | with_reducible refine t_call ?_ | with_reducible refine t_fld ?_ | with_reducible refine t_idx ?_ | with_reducible refine t_blt ?_ | with_reducible refine c_no ?_ | with_reducible refine c_yes ?_ | with_reducible refine k_add ?_ | with_reducible refine k_sub ?_ | with_reducible refine k_lt ?_ | with_reducible refine k_le ?_ | with_reducible refine k_gt ?_ | with_reducible refine k_ge ?_ | with_reducible refine k_eqi ?_ | with_reducible refine k_nei ?_ | with_reducible refine k_eqs ?_ | with_reducible refine k_nes ?_ | with_reducible refine k_neg ?_ | with_reducible refine b_abs ?_ | with_reducible refine b_strs ?_ | with_reducible refine b_inti ?_ | with_reducible refine b_intb ?_ | with_reducible refine b_max2 ?_ | with_reducible refine b_min2 ?_ | with_reducible refine bl_k ?_ | with_reducible refine str_k ?_ | with_reducible refine br_t ?_ | with_reducible refine br_f ?_ | with_reducible refine o_no ?_ | with_reducible refine l_nx ?_ | with_reducible refine l_ct ?_ | with_reducible refine l_brk ?_ | with_reducible refine l_ret ?_ | with_reducible refine s_sx ?_ | with_reducible refine s_sf ?_ | with_reducible refine okv ?_ | with_reducible refine v_eqi ?_ | with_reducible refine v_inNo ?_ | with_reducible refine v_isi ?_ | with_reducible refine v_lm ?_ | with_reducible refine t_ext ?_ | with_reducible refine s_tr ?_ | ((with_reducible refine v_tup ?_ ?_); exact rfl) | ((with_reducible refine v_lst ?_ ?_); exact rfl) | ((with_reducible refine v_newl ?_ ?_); exact rfl) | ((with_reducible refine k_pow ?_ ?_); exact rfl)))
  exact q
theorem pleq_w (F : FPl ok fs is) {Q : D → Store → Prop} {a b : List Int} {p q : Nat} (h : Q (.bl (decide (nm a p = nm b q ∧ pt a p = pt b q))) S) : W X ((TT ok fs is (k + 2)).fn 137 [plD a p, plD b q] S) Q := by
  refine w_fn F.f137 ?_
  unfold Pg.b_Places___eq__
  (repeat (first | ((with_reducible refine v_varK ?_); refine varK ?_) | ((with_reducible refine t_varK ?_); refine varK ?_) | with_reducible refine s_cons ?_ | with_reducible refine q_nx ?_ | with_reducible refine q_ret ?_ | with_reducible refine q_brk ?_ | with_reducible refine q_cont ?_ | with_reducible refine r_nx ?_ | with_reducible refine r_ret ?_ | with_reducible refine s_nil ?_ | with_reducible refine s_pass ?_ | with_reducible refine s_brk ?_ | with_reducible refine s_cont ?_ | with_reducible refine s_retN ?_ | with_reducible refine s_exv ?_ | with_reducible refine s_rt ?_ | with_reducible refine s_ifs ?_ | with_reducible refine s_st ?_ | with_reducible refine s_stc ?_ | with_reducible refine s_as ?_ | with_reducible refine s_pr ?_ | with_reducible refine s_fr ?_ | with_reducible refine v_int ?_ | with_reducible refine v_bl ?_ | with_reducible refine v_non ?_ | with_reducible refine v_str ?_ | with_reducible refine v_op ?_ | with_reducible refine v_cmp ?_ | with_reducible refine v_neg ?_ | with_reducible refine v_fld ?_ | with_reducible refine v_rev ?_ | with_reducible refine v_not ?_ | with_reducible refine v_and ?_ | with_reducible refine v_or ?_ | with_reducible refine v_ite ?_ | with_reducible refine l_nil ?_ | with_reducible refine l_cons ?_ | with_reducible refine v_blt ?_ | with_reducible refine v_call ?_ | with_reducible refine v_mkF ?_ | with_reducible refine v_idx ?_ | with_reducible refine v_slc ?_ | with_reducible refine v_join ?_ | with_reducible refine v_fmt ?_ | with_reducible refine j_nil ?_ | with_reducible refine j_cons ?_ | with_reducible refine v_joined ?_ | with_reducible refine v_comp ?_ | with_reducible refine r_seq ?_ | with_reducible refine r_rng1 ?_ | with_reducible refine r_rng2 ?_ | with_reducible refine t_not ?_ | with_reducible refine t_and ?_ | with_reducible refine t_or ?_ | with_reducible refine t_cmp ?_ | with_reducible refine t_bl ?_ | with_reducible refine t_call ?_ | with_reducible refine t_fld ?_ | with_reducible refine t_idx ?_ | with_reducible refine t_blt ?_ | with_reducible refine c_no ?_ | with_reducible refine c_yes ?_ | with_reducible refine k_add ?_ | with_reducible refine k_sub ?_ | with_reducible refine k_lt ?_ | with_reducible refine k_le ?_ | with_reducible refine k_gt ?_ | with_reducible refine k_ge ?_ | with_reducible refine k_eqi ?_ | with_reducible refine k_nei ?_ | with_reducible refine k_eqs ?_ | with_reducible refine k_nes ?_ | with_reducible refine k_neg ?_ | with_reducible refine b_abs ?_ | with_reducible refine b_strs ?_ | with_reducible refine b_inti ?_ | with_reducible refine b_intb ?_ | with_reducible refine b_max2 ?_ | with_reducible refine b_min2 ?_ | with_reducible refine bl_k ?_ | with_reducible refine str_k ?_ | with_reducible refine br_t ?_ | with_reducible refine br_f ?_ | with_reducible refine o_no ?_ | with_reducible refine l_nx ?_ | with_reducible refine l_ct ?_ | with_reducible refine l_brk ?_ | with_reducible refine l_ret ?_ | with_reducible refine s_sx ?_ | with_reducible refine s_sf ?_ | with_reducible refine okv ?_ | with_reducible refine v_eqi ?_ | with_reducible refine v_inNo ?_ | with_reducible refine v_isi ?_ | with_reducible refine v_lm ?_ | with_reducible refine t_ext ?_ | with_reducible refine s_tr ?_ | ((with_reducible refine v_tup ?_ ?_); exact rfl) | ((with_reducible refine v_lst ?_ ?_); exact rfl) | ((with_reducible refine v_newl ?_ ?_); exact rfl) | ((with_reducible refine k_pow ?_ ?_); exact rfl)))
  refine k_isiI F.s ?_
  (repeat (first | ((with_reducible refine v_varK ?_); refine varK ?_) | ((with_reducible refine t_varK ?_); refine varK ?_) | with_reducible refine s_cons ?_ | with_reducible refine q_nx ?_ | with_reducible refine q_ret ?_ | with_reducible refine q_brk ?_ | with_reducible refine q_cont ?_ | with_reducible refine r_nx ?_ | with_reducible refine r_ret ?_ | with_reducible refine s_nil ?_ | with_reducible refine s_pass ?_ | with_reducible refine s_brk ?_ | with_reducible refine s_cont ?_ | with_reducible refine s_retN ?_ | with_reducible refine s_exv ?_ | with_reducible refine s_rt ?_ | with_reducible refine s_ifs ?_ | with_reducible refine s_st ?_ | with_reducible refine s_stc ?_ | with_reducible refine s_as ?_ | with_reducible refine s_pr ?_ | with_reducible refine s_fr ?_ | with_reducible refine v_int ?_ | with_reducible refine v_bl ?_ | with_reducible refine v_non ?_ | with_reducible refine v_str ?_ | with_reducible refine v_op ?_ | with_reducible refine v_cmp ?_ | with_reducible refine v_neg ?_ | with_reducible refine v_fld ?_ | with_reducible refine v_rev ?_ | with_reducible refine v_not ?_ | with_reducible refine v_and ?_ | with_reducible refine v_or ?_ | with_reducible refine v_ite ?_ | with_reducible refine l_nil ?_ | with_reducible refine l_cons ?_ | with_reducible refine v_blt ?_ | with_reducible refine v_call ?_ | with_reducible refine v_mkF ?_ | with_reducible refine v_idx ?_ | with_reducible refine v_slc ?_ | with_reducible refine v_join ?_ | with_reducible refine v_fmt ?_ | with_reducible refine j_nil ?_ | with_reducible refine j_cons ?_ | with_reducible refine v_joined ?_ | with_reducible refine v_comp ?_ | with_reducible refine r_seq ?_ | with_reducible refine r_rng1 ?_ | with_reducible refine r_rng2 ?_ | with_reducible refine t_not ?_ | with_reducible refine t_and ?_ | with_reducible refine t_or ?_ | with_reducible refine t_cmp ?_ | with_reducible refine t_bl ?_ | with_reducible refine t_call ?_ | with_reducible refine t_fld ?_ | with_reducible refine t_idx ?_ | with_reducible refine t_blt ?_ | with_reducible refine c_no ?_ | with_reducible refine c_yes ?_ | with_reducible refine k_add ?_ | with_reducible refine k_sub ?_ | with_reducible refine k_lt ?_ | with_reducible refine k_le ?_ | with_reducible refine k_gt ?_ | with_reducible refine k_ge ?_ | with_reducible refine k_eqi ?_ | with_reducible refine k_nei ?_ | with_reducible refine k_eqs ?_ | with_reducible refine k_nes ?_ | with_reducible refine k_neg ?_ | with_reducible refine b_abs ?_ | with_reducible refine b_strs ?_ | with_reducible refine b_inti ?_ | with_reducible refine b_intb ?_ | with_reducible refine b_max2 ?_ | with_reducible refine b_min2 ?_ | with_reducible refine bl_k ?_ | with_reducible refine str_k ?_ | with_reducible refine br_t ?_ | with_reducible refine br_f ?_ | with_reducible refine o_no ?_ | with_reducible refine l_nx ?_ | with_reducible refine l_ct ?_ | with_reducible refine l_brk ?_ | with_reducible refine l_ret ?_ | with_reducible refine s_sx ?_ | with_reducible refine s_sf ?_ | with_reducible refine okv ?_ | with_reducible refine v_eqi ?_ | with_reducible refine v_inNo ?_ | with_reducible refine v_isi ?_ | with_reducible refine v_lm ?_ | with_reducible refine t_ext ?_ | with_reducible refine s_tr ?_ | ((with_reducible refine v_tup ?_ ?_); exact rfl) | ((with_reducible refine v_lst ?_ ?_); exact rfl) | ((with_reducible refine v_newl ?_ ?_); exact rfl) | ((with_reducible refine k_pow ?_ ?_); exact rfl)))
  refine v_meth F.m ?_
  (repeat (first | ((with_reducible refine v_varK ?_); refine varK ?_) | ((with_reducible refine t_varK ?_); refine varK ?_) | with_reducible refine s_cons ?_ | with_reducible refine q_nx ?_ | with_reducible refine q_ret ?_ | with_reducible refine q_brk ?_ | with_reducible refine q_cont ?_ | with_reducible refine r_nx ?_ | with_reducible refine r_ret ?_ | with_reducible refine s_nil ?_ | with_reducible refine s_pass ?_ | with_reducible refine s_brk ?_ | with_reducible refine s_cont ?_ | with_reducible refine s_retN ?_ | with_reducible refine s_exv ?_ | with_reducible refine s_rt ?_ | with_reducible refine s_ifs ?_ | with_reducible refine s_st ?_ | with_reducible refine s_stc ?_ | with_reducible refine s_as ?_ | with_reducible refine s_pr ?_ | with_reducible refine s_fr ?_ | with_reducible refine v_int ?_ | with_reducible refine v_bl ?_ | with_reducible refine v_non ?_ | with_reducible refine v_str ?_ | with_reducible refine v_op ?_ | with_reducible refine v_cmp ?_ | with_reducible refine v_neg ?_ | with_reducible refine v_fld ?_ | with_reducible refine v_rev ?_ | with_reducible refine v_not ?_ | with_reducible refine v_and ?_ | with_reducible refine v_or ?_ | with_reducible refine v_ite ?_ | with_reducible refine l_nil ?_ | with_reducible refine l_cons ?_ | with_reducible refine v_blt ?_ | with_reducible refine v_call ?_ | with_reducible refine v_mkF ?_ | with_reducible refine v_idx ?_ | with_reducible refine v_slc ?_ | with_reducible refine v_join ?_ | with_reducible refine v_fmt ?_ | with_reducible refine j_nil ?_ | with_reducible refine j_cons ?_ | with_reducible refine v_joined ?_ | with_reducible refine v_comp ?_ | with_reducible refine r_seq ?_ | with_reducible refine r_rng1 ?_ | with_reducible refine r_rng2 ?_ | with_reducible refine t_not ?_ | with_reducible refine t_and ?_ | with_reducible refine t_or ?_ | with_reducible refine t_cmp ?_ | with_reducible refine t_bl ?_ | with_reducible refine t_call ?_ | with_reducible refine t_fld ?_ | with_reducible refine t_idx ?_ | with_reducible refine t_blt ?_ | with_reducible refine c_no ?_ | with_reducible refine c_yes ?_ | with_reducible refine k_add ?_ | with_reducible refine k_sub ?_ | with_reducible refine k_lt ?_ | with_reducible refine k_le ?_ | with_reducible refine k_gt ?_ | with_reducible refine k_ge ?_ | with_reducible refine k_eqi ?_ | with_reducible refine k_nei ?_ | with_reducible refine k_eqs ?_ | with_reducible refine k_nes ?_ | with_reducible refine k_neg ?_ | with_reducible refine b_abs ?_ | with_reducible refine b_strs ?_ | with_reducible refine b_inti ?_ | with_reducible refine b_intb ?_ | with_reducible refine b_max2 ?_ | with_reducible refine b_min2 ?_ | with_reducible refine bl_k ?_ | with_reducible refine str_k ?_ | with_reducible refine br_t ?_ | with_reducible refine br_f ?_ | with_reducible refine o_no ?_ | with_reducible refine l_nx ?_ | with_reducible refine l_ct ?_ | with_reducible refine l_brk ?_ | with_reducible refine l_ret ?_ | with_reducible refine s_sx ?_ | with_reducible refine s_sf ?_ | with_reducible refine okv ?_ | with_reducible refine v_eqi ?_ | with_reducible refine v_inNo ?_ | with_reducible refine v_isi ?_ | with_reducible refine v_lm ?_ | with_reducible refine t_ext ?_ | with_reducible refine s_tr ?_ | ((with_reducible refine v_tup ?_ ?_); exact rfl) | ((with_reducible refine v_lst ?_ ?_); exact rfl) | ((with_reducible refine v_newl ?_ ?_); exact rfl) | ((with_reducible refine k_pow ?_ ?_); exact rfl)))
  refine ⟨rfl, ?_⟩
  (repeat (first | ((with_reducible refine v_varK ?_); refine varK ?_) | ((with_reducible refine t_varK ?_); refine varK ?_) | with_reducible refine s_cons ?_ | with_reducible refine q_nx ?_ | with_reducible refine q_ret ?_ | with_reducible refine q_brk ?_ | with_reducible refine q_cont ?_ | with_reducible refine r_nx ?_ | with_reducible refine r_ret ?_ | with_reducible refine s_nil ?_ | with_reducible refine s_pass ?_ | with_reducible refine s_brk ?_ | with_reducible refine s_cont ?_ | with_reducible refine s_retN ?_ | with_reducible refine s_exv ?_ | with_reducible refine s_rt ?_ | with_reducible refine s_ifs ?_ | with_reducible refine s_st ?_ | with_reducible refine s_stc ?_ | with_reducible refine s_as ?_ | with_reducible refine s_pr ?_ | with_reducible refine s_fr ?_ | with_reducible refine v_int ?_ | with_reducible refine v_bl ?_ | with_reducible refine v_non ?_ | with_reducible refine v_str ?_ | with_reducible refine v_op ?_ | with_reducible refine v_cmp ?_ | with_reducible refine v_neg ?_ | with_reducible refine v_fld ?_ | with_reducible refine v_rev ?_ | with_reducible refine v_not ?_ | with_reducible refine v_and ?_ | with_reducible refine v_or ?_ | with_reducible refine v_ite ?_ | with_reducible refine l_nil ?_ | with_reducible refine l_cons ?_ | with_reducible refine v_blt ?_ | with_reducible refine v_call ?_ | with_reducible refine v_mkF ?_ | with_reducible refine v_idx ?_ | with_reducible refine v_slc ?_ | with_reducible refine v_join ?_ | with_reducible refine v_fmt ?_ | with_reducible refine j_nil ?_ | with_reducible refine j_cons ?_ | with_reducible refine v_joined ?_ | with_reducible refine v_comp ?_ | with_reducible refine r_seq ?_ | with_reducible refine r_rng1 ?_ | with_reducible refine r_rng2 ?_ | with_reducible refine t_not ?_ | with_reducible refine t_and ?_ | with_reducible refine t_or ?_ | with_reducible refine t_cmp ?_ | with_reducible refine t_bl ?_ | with_reducible refine t_call ?_ | with_reducible refine t_fld ?_ | with_reducible refine t_idx ?_ | with_reducible refine t_blt ?_ | with_reducible refine c_no ?_ | with_reducible refine c_yes ?_ | with_reducible refine k_add ?_ | with_reducible refine k_sub ?_ | with_reducible refine k_lt ?_ | with_reducible refine k_le ?_ | with_reducible refine k_gt ?_ | with_reducible refine k_ge ?_ | with_reducible refine k_eqi ?_ | with_reducible refine k_nei ?_ | with_reducible refine k_eqs ?_ | with_reducible refine k_nes ?_ | with_reducible refine k_neg ?_ | with_reducible refine b_abs ?_ | with_reducible refine b_strs ?_ | with_reducible refine b_inti ?_ | with_reducible refine b_intb ?_ | with_reducible refine b_max2 ?_ | with_reducible refine b_min2 ?_ | with_reducible refine bl_k ?_ | with_reducible refine str_k ?_ | with_reducible refine br_t ?_ | with_reducible refine br_f ?_ | with_reducible refine o_no ?_ | with_reducible refine l_nx ?_ | with_reducible refine l_ct ?_ | with_reducible refine l_brk ?_ | with_reducible refine l_ret ?_ | with_reducible refine s_sx ?_ | with_reducible refine s_sf ?_ | with_reducible refine okv ?_ | with_reducible refine v_eqi ?_ | with_reducible refine v_inNo ?_ | with_reducible refine v_isi ?_ | with_reducible refine v_lm ?_ | with_reducible refine t_ext ?_ | with_reducible refine s_tr ?_ | ((with_reducible refine v_tup ?_ ?_); exact rfl) | ((with_reducible refine v_lst ?_ ?_); exact rfl) | ((with_reducible refine v_newl ?_ ?_); exact rfl) | ((with_reducible refine k_pow ?_ ?_); exact rfl)))
  refine ⟨rfl, facts_w F ?_⟩
  refine v_meth F.m ?_
  (repeat (first | ((with_reducible refine v_varK ?_); refine varK ?_) | ((with_reducible refine t_varK ?_); refine varK ?_) | with_reducible refine s_cons ?_ | with_reducible refine q_nx ?_ | with_reducible refine q_ret ?_ | with_reducible refine q_brk ?_ | with_reducible refine q_cont ?_ | with_reducible refine r_nx ?_ | with_reducible refine r_ret ?_ | with_reducible refine s_nil ?_ | with_reducible refine s_pass ?_ | with_reducible refine s_brk ?_ | with_reducible refine s_cont ?_ | with_reducible refine s_retN ?_ | with_reducible refine s_exv ?_ | with_reducible refine s_rt ?_ | with_reducible refine s_ifs ?_ | with_reducible refine s_st ?_ | with_reducible refine s_stc ?_ | with_reducible refine s_as ?_ | with_reducible refine s_pr ?_ | with_reducible refine s_fr ?_ | with_reducible refine v_int ?_ | with_reducible refine v_bl ?_ | with_reducible refine v_non ?_ | with_reducible refine v_str ?_ | with_reducible refine v_op ?_ | with_reducible refine v_cmp ?_ | with_reducible refine v_neg ?_ | with_reducible refine v_fld ?_ | with_reducible refine v_rev ?_ | with_reducible refine v_not ?_ | with_reducible refine v_and ?_ | with_reducible refine v_or ?_ | with_reducible refine v_ite ?_ | with_reducible refine l_nil ?_ | with_reducible refine l_cons ?_ | with_reducible refine v_blt ?_ | with_reducible refine v_call ?_ | with_reducible refine v_mkF ?_ | with_reducible refine v_idx ?_ | with_reducible refine v_slc ?_ | with_reducible refine v_join ?_ | with_reducible refine v_fmt ?_ | with_reducible refine j_nil ?_ | with_reducible refine j_cons ?_ | with_reducible refine v_joined ?_ | with_reducible refine v_comp ?_ | with_reducible refine r_seq ?_ | with_reducible refine r_rng1 ?_ | with_reducible refine r_rng2 ?_ | with_reducible refine t_not ?_ | with_reducible refine t_and ?_ | with_reducible refine t_or ?_ | with_reducible refine t_cmp ?_ | with_reducible refine t_bl ?_ | with_reducible refine t_call ?_ | with_reducible refine t_fld ?_ | with_reducible refine t_idx ?_ | with_reducible refine t_blt ?_ | with_reducible refine c_no ?_ | with_reducible refine c_yes ?_ | with_reducible refine k_add ?_ | with_reducible refine k_sub ?_ | with_reducible refine k_lt ?_ | with_reducible refine k_le ?_ | with_reducible refine k_gt ?_ | with_reducible refine k_ge ?_ | with_reducible refine k_eqi ?_ | with_reducible refine k_nei ?_ | with_reducible refine k_eqs ?_ | with_reducible refine k_nes ?_ | with_reducible refine k_neg ?_ | with_reducible refine b_abs ?_ | with_reducible refine b_strs ?_ | with_reducible refine b_inti ?_ | with_reducible refine b_intb ?_ | with_reducible refine b_max2 ?_ | with_reducible refine b_min2 ?_ | with_reducible refine bl_k ?_ | with_reducible refine str_k ?_ | with_reducible refine br_t ?_ | with_reducible refine br_f ?_ | with_reducible refine o_no ?_ | with_reducible refine l_nx ?_ | with_reducible refine l_ct ?_ | with_reducible refine l_brk ?_ | with_reducible refine l_ret ?_ | with_reducible refine s_sx ?_ | with_reducible refine s_sf ?_ | with_reducible refine okv ?_ | with_reducible refine v_eqi ?_ | with_reducible refine v_inNo ?_ | with_reducible refine v_isi ?_ | with_reducible refine v_lm ?_ | with_reducible refine t_ext ?_ | with_reducible refine s_tr ?_ | ((with_reducible refine v_tup ?_ ?_); exact rfl) | ((with_reducible refine v_lst ?_ ?_); exact rfl) | ((with_reducible refine v_newl ?_ ?_); exact rfl) | ((with_reducible refine k_pow ?_ ?_); exact rfl)))
  refine ⟨rfl, ?_⟩
  (repeat (first | ((with_reducible refine v_varK ?_); refine varK ?_) | ((with_reducible refine t_varK ?_); refine varK ?_) | with_reducible refine s_cons ?_ | with_reducible refine q_nx ?_ | with_reducible refine q_ret ?_ | with_reducible refine q_brk ?_ | with_reducible refine q_cont ?_ | with_reducible refine r_nx ?_ | with_reducible refine r_ret ?_ | with_reducible refine s_nil ?_ | with_reducible refine s_pass ?_ | with_reducible refine s_brk ?_ | with_reducible refine s_cont ?_ | with_reducible refine s_retN ?_ | with_reducible refine s_exv ?_ | with_reducible refine s_rt ?_ | with_reducible refine s_ifs ?_ | with_reducible refine s_st ?_ | with_reducible refine s_stc ?_ | with_reducible refine s_as ?_ | with_reducible refine s_pr ?_ | with_reducible refine s_fr ?_ | with_reducible refine v_int ?_ | with_reducible refine v_bl ?_ | with_reducible refine v_non ?_ | with_reducible refine v_str ?_ | with_reducible refine v_op ?_ | with_reducible refine v_cmp ?_ | with_reducible refine v_neg ?_ | with_reducible refine v_fld ?_ | with_reducible refine v_rev ?_ | with_reducible refine v_not ?_ | with_reducible refine v_and ?_ | with_reducible refine v_or ?_ | with_reducible refine v_ite ?_ | with_reducible refine l_nil ?_ | with_reducible refine l_cons ?_ | with_reducible refine v_blt ?_ | with_reducible refine v_call ?_ | with_reducible refine v_mkF ?_ | with_reducible refine v_idx ?_ | with_reducible refine v_slc ?_ | with_reducible refine v_join ?_ | with_reducible refine v_fmt ?_ | with_reducible refine j_nil ?_ | with_reducible refine j_cons ?_ | with_reducible refine v_joined ?_ | with_reducible refine v_comp ?_ | with_reducible refine r_seq ?_ | with_reducible refine r_rng1 ?_ | with_reducible refine r_rng2 ?_ | with_reducible refine t_not ?_ | with_reducible refine t_and ?_ | with_reducible refine t_or ?_ | with_reducible refine t_cmp ?_ | with_reducible refine t_bl ?_ | with_reducible refine t_call ?_ | with_reducible refine t_fld ?_ | with_reducible refine t_idx ?_ | with_reducible refine t_blt ?_ | with_reducible refine c_no ?_ | with_reducible refine c_yes ?_ | with_reducible refine k_add ?_ | with_reducible refine k_sub ?_ | with_reducible refine k_lt ?_ | with_reducible refine k_le ?_ | with_reducible refine k_gt ?_ | with_reducible refine k_ge ?_ | with_reducible refine k_eqi ?_ | with_reducible refine k_nei ?_ | with_reducible refine k_eqs ?_ | with_reducible refine k_nes ?_ | with_reducible refine k_neg ?_ | with_reducible refine b_abs ?_ | with_reducible refine b_strs ?_ | with_reducible refine b_inti ?_ | with_reducible refine b_intb ?_ | with_reducible refine b_max2 ?_ | with_reducible refine b_min2 ?_ | with_reducible refine bl_k ?_ | with_reducible refine str_k ?_ | with_reducible refine br_t ?_ | with_reducible refine br_f ?_ | with_reducible refine o_no ?_ | with_reducible refine l_nx ?_ | with_reducible refine l_ct ?_ | with_reducible refine l_brk ?_ | with_reducible refine l_ret ?_ | with_reducible refine s_sx ?_ | with_reducible refine s_sf ?_ | with_reducible refine okv ?_ | with_reducible refine v_eqi ?_ | with_reducible refine v_inNo ?_ | with_reducible refine v_isi ?_ | with_reducible refine v_lm ?_ | with_reducible refine t_ext ?_ | with_reducible refine s_tr ?_ | ((with_reducible refine v_tup ?_ ?_); exact rfl) | ((with_reducible refine v_lst ?_ ?_); exact rfl) | ((with_reducible refine v_newl ?_ ?_); exact rfl) | ((with_reducible refine k_pow ?_ ?_); exact rfl)))
  refine ⟨rfl, facts_w F ?_⟩
  refine k_eqP ?_
  (repeat (first | ((with_reducible refine v_varK ?_); refine varK ?_) | ((with_reducible refine t_varK ?_); refine varK ?_) | with_reducible refine s_cons ?_ | with_reducible refine q_nx ?_ | with_reducible refine q_ret ?_ | with_reducible refine q_brk ?_ | with_reducible refine q_cont ?_ | with_reducible refine r_nx ?_ | with_reducible refine r_ret ?_ | with_reducible refine s_nil ?_ | with_reducible refine s_pass ?_ | with_reducible refine s_brk ?_ | with_reducible refine s_cont ?_ | with_reducible refine s_retN ?_ | with_reducible refine s_exv ?_ | with_reducible refine s_rt ?_ | with_reducible refine s_ifs ?_ | with_reducible refine s_st ?_ | with_reducible refine s_stc ?_ | with_reducible refine s_as ?_ | with_reducible refine s_pr ?_ | with_reducible refine s_fr ?_ | with_reducible refine v_int ?_ | with_reducible refine v_bl ?_ | with_reducible refine v_non ?_ | with_reducible refine v_str ?_ | with_reducible refine v_op ?_ | with_reducible refine v_cmp ?_ | with_reducible refine v_neg ?_ | with_reducible refine v_fld ?_ | with_reducible refine v_rev ?_ | with_reducible refine v_not ?_ | with_reducible refine v_and ?_ | with_reducible refine v_or ?_ | with_reducible refine v_ite ?_ | with_reducible refine l_nil ?_ | with_reducible refine l_cons ?_ | with_reducible refine v_blt ?_ | with_reducible refine v_call ?_ | with_reducible refine v_mkF ?_ | with_reducible refine v_idx ?_ | with_reducible refine v_slc ?_ | with_reducible refine v_join ?_ | with_reducible refine v_fmt ?_ | with_reducible refine j_nil ?_ | with_reducible refine j_cons ?_ | with_reducible refine v_joined ?_ | with_reducible refine v_comp ?_ | with_reducible refine r_seq ?_ | with_reducible refine r_rng1 ?_ | with_reducible refine r_rng2 ?_ | with_reducible refine t_not ?_ | with_reducible refine t_and ?_ | with_reducible refine t_or ?_ | with_reducible refine t_cmp ?_ | with_reducible refine t_bl ?_ | with_reducible refine t_call ?_ | with_reducible refine t_fld ?_ | with_reducible refine t_idx ?_ | with_reducible refine t_blt ?_ | with_reducible refine c_no ?_ | with_reducible refine c_yes ?_ | with_reducible refine k_add ?_ | with_reducible refine k_sub ?_ | with_reducible refine k_lt ?_ | with_reducible refine k_le ?_ | with_reducible refine k_gt ?_ | with_reducible refine k_ge ?_ | with_reducible refine k_eqi ?_ | with_reducible refine k_nei ?_ | with_reducible refine k_eqs ?_ | with_reducible refine k_nes ?_ | with_reducible refine k_neg ?_ | with_reducible refine b_abs ?_ | with_reducible refine b_strs ?_ | with_reducible refine b_inti ?_ | with_reducible refine b_intb ?_ | with_reducible refine b_max2 ?_ | with_reducible refine b_min2 ?_ | with_reducible refine bl_k ?_ | with_reducible refine str_k ?_ | with_reducible refine br_t ?_ | with_reducible refine br_f ?_ | with_reducible refine o_no ?_ | with_reducible refine l_nx ?_ | with_reducible refine l_ct ?_ | with_reducible refine l_brk ?_ | with_reducible refine l_ret ?_ | with_reducible refine s_sx ?_ | with_reducible refine s_sf ?_ | with_reducible refine okv ?_ | with_reducible refine v_eqi ?_ | with_reducible refine v_inNo ?_ | with_reducible refine v_isi ?_ | with_reducible refine v_lm ?_ | with_reducible refine t_ext ?_ | with_reducible refine s_tr ?_ | ((with_reducible refine v_tup ?_ ?_); exact rfl) | ((with_reducible refine v_lst ?_ ?_); exact rfl) | ((with_reducible refine v_newl ?_ ?_); exact rfl) | ((with_reducible refine k_pow ?_ ?_); exact rfl)))
  have e1 : decide (nm a p = nm b q ∧ ((pt a p : Nat) : Int) = ((pt b q : Nat) : Int)) = decide (nm a p = nm b q ∧ pt a p = pt b q) := by
    congr 1
    exact propext ⟨fun ⟨h1, h2⟩ => ⟨h1, by omega⟩, fun ⟨h1, h2⟩ => ⟨h1, by omega⟩⟩
  rw [e1]; exact h
theorem plne_w (F : FPl ok fs is) {Q : D → Store → Prop} {a : List Int} {p : Nat} {d : D} (hd : isDat d = true) (h : Q (.bl false) S) : W X ((TT ok fs is (k + 1)).fn 137 [plD a p, d] S) Q := by
  refine w_fn F.f137 ?_
  unfold Pg.b_Places___eq__
  (repeat (first | ((with_reducible refine v_varK ?_); refine varK ?_) | ((with_reducible refine t_varK ?_); refine varK ?_) | with_reducible refine s_cons ?_ | with_reducible refine q_nx ?_ | with_reducible refine q_ret ?_ | with_reducible refine q_brk ?_ | with_reducible refine q_cont ?_ | with_reducible refine r_nx ?_ | with_reducible refine r_ret ?_ | with_reducible refine s_nil ?_ | with_reducible refine s_pass ?_ | with_reducible refine s_brk ?_ | with_reducible refine s_cont ?_ | with_reducible refine s_retN ?_ | with_reducible refine s_exv ?_ | with_reducible refine s_rt ?_ | with_reducible refine s_ifs ?_ | with_reducible refine s_st ?_ | with_reducible refine s_stc ?_ | with_reducible refine s_as ?_ | with_reducible refine s_pr ?_ | with_reducible refine s_fr ?_ | with_reducible refine v_int ?_ | with_reducible refine v_bl ?_ | with_reducible refine v_non ?_ | with_reducible refine v_str ?_ | with_reducible refine v_op ?_ | with_reducible refine v_cmp ?_ | with_reducible refine v_neg ?_ | with_reducible refine v_fld ?_ | with_reducible refine v_rev ?_ | with_reducible refine v_not ?_ | with_reducible refine v_and ?_ | with_reducible refine v_or ?_ | with_reducible refine v_ite ?_ | with_reducible refine l_nil ?_ | with_reducible refine l_cons ?_ | with_reducible refine v_blt ?_ | with_reducible refine v_call ?_ | with_reducible refine v_mkF ?_ | with_reducible refine v_idx ?_ | with_reducible refine v_slc ?_ | with_reducible refine v_join ?_ | with_reducible refine v_fmt ?_ | with_reducible refine j_nil ?_ | with_reducible refine j_cons ?_ | with_reducible refine v_joined ?_ | with_reducible refine v_comp ?_ | with_reducible refine r_seq ?_ | with_reducible refine r_rng1 ?_ | with_reducible refine r_rng2 ?_ | with_reducible refine t_not ?_ | with_reducible refine t_and ?_ | with_reducible refine t_or ?_ | with_reducible refine t_cmp ?_ | with_reducible refine t_bl ?_ | with_reducible refine t_call ?_ | with_reducible refine t_fld ?_ | with_reducible refine t_idx ?_ | with_reducible refine t_blt ?_ | with_reducible refine c_no ?_ | with_reducible refine c_yes ?_ | with_reducible refine k_add ?_ | with_reducible refine k_sub ?_ | with_reducible refine k_lt ?_ | with_reducible refine k_le ?_ | with_reducible refine k_gt ?_ | with_reducible refine k_ge ?_ | with_reducible refine k_eqi ?_ | with_reducible refine k_nei ?_ | with_reducible refine k_eqs ?_ | with_reducible refine k_nes ?_ | with_reducible refine k_neg ?_ | with_reducible refine b_abs ?_ | with_reducible refine b_strs ?_ | with_reducible refine b_inti ?_ | with_reducible refine b_intb ?_ | with_reducible refine b_max2 ?_ | with_reducible refine b_min2 ?_ | with_reducible refine bl_k ?_ | with_reducible refine str_k ?_ | with_reducible refine br_t ?_ | with_reducible refine br_f ?_ | with_reducible refine o_no ?_ | with_reducible refine l_nx ?_ | with_reducible refine l_ct ?_ | with_reducible refine l_brk ?_ | with_reducible refine l_ret ?_ | with_reducible refine s_sx ?_ | with_reducible refine s_sf ?_ | with_reducible refine okv ?_ | with_reducible refine v_eqi ?_ | with_reducible refine v_inNo ?_ | with_reducible refine v_isi ?_ | with_reducible refine v_lm ?_ | with_reducible refine t_ext ?_ | with_reducible refine s_tr ?_ | ((with_reducible refine v_tup ?_ ?_); exact rfl) | ((with_reducible refine v_lst ?_ ?_); exact rfl) | ((with_reducible refine v_newl ?_ ?_); exact rfl) | ((with_reducible refine k_pow ?_ ?_); exact rfl)))
  refine k_isiD hd F.d ?_
  (repeat (first | ((with_reducible refine v_varK ?_); refine varK ?_) | ((with_reducible refine t_varK ?_); refine varK ?_) | with_reducible refine s_cons ?_ | with_reducible refine q_nx ?_ | with_reducible refine q_ret ?_ | with_reducible refine q_brk ?_ | with_reducible refine q_cont ?_ | with_reducible refine r_nx ?_ | with_reducible refine r_ret ?_ | with_reducible refine s_nil ?_ | with_reducible refine s_pass ?_ | with_reducible refine s_brk ?_ | with_reducible refine s_cont ?_ | with_reducible refine s_retN ?_ | with_reducible refine s_exv ?_ | with_reducible refine s_rt ?_ | with_reducible refine s_ifs ?_ | with_reducible refine s_st ?_ | with_reducible refine s_stc ?_ | with_reducible refine s_as ?_ | with_reducible refine s_pr ?_ | with_reducible refine s_fr ?_ | with_reducible refine v_int ?_ | with_reducible refine v_bl ?_ | with_reducible refine v_non ?_ | with_reducible refine v_str ?_ | with_reducible refine v_op ?_ | with_reducible refine v_cmp ?_ | with_reducible refine v_neg ?_ | with_reducible refine v_fld ?_ | with_reducible refine v_rev ?_ | with_reducible refine v_not ?_ | with_reducible refine v_and ?_ | with_reducible refine v_or ?_ | with_reducible refine v_ite ?_ | with_reducible refine l_nil ?_ | with_reducible refine l_cons ?_ | with_reducible refine v_blt ?_ | with_reducible refine v_call ?_ | with_reducible refine v_mkF ?_ | with_reducible refine v_idx ?_ | with_reducible refine v_slc ?_ | with_reducible refine v_join ?_ | with_reducible refine v_fmt ?_ | with_reducible refine j_nil ?_ | with_reducible refine j_cons ?_ | with_reducible refine v_joined ?_ | with_reducible refine v_comp ?_ | with_reducible refine r_seq ?_ | with_reducible refine r_rng1 ?_ | with_reducible refine r_rng2 ?_ | with_reducible refine t_not ?_ | with_reducible refine t_and ?_ | with_reducible refine t_or ?_ | with_reducible refine t_cmp ?_ | with_reducible refine t_bl ?_ | with_reducible refine t_call ?_ | with_reducible refine t_fld ?_ | with_reducible refine t_idx ?_ | with_reducible refine t_blt ?_ | with_reducible refine c_no ?_ | with_reducible refine c_yes ?_ | with_reducible refine k_add ?_ | with_reducible refine k_sub ?_ | with_reducible refine k_lt ?_ | with_reducible refine k_le ?_ | with_reducible refine k_gt ?_ | with_reducible refine k_ge ?_ | with_reducible refine k_eqi ?_ | with_reducible refine k_nei ?_ | with_reducible refine k_eqs ?_ | with_reducible refine k_nes ?_ | with_reducible refine k_neg ?_ | with_reducible refine b_abs ?_ | with_reducible refine b_strs ?_ | with_reducible refine b_inti ?_ | with_reducible refine b_intb ?_ | with_reducible refine b_max2 ?_ | with_reducible refine b_min2 ?_ | with_reducible refine bl_k ?_ | with_reducible refine str_k ?_ | with_reducible refine br_t ?_ | with_reducible refine br_f ?_ | with_reducible refine o_no ?_ | with_reducible refine l_nx ?_ | with_reducible refine l_ct ?_ | with_reducible refine l_brk ?_ | with_reducible refine l_ret ?_ | with_reducible refine s_sx ?_ | with_reducible refine s_sf ?_ | with_reducible refine okv ?_ | with_reducible refine v_eqi ?_ | with_reducible refine v_inNo ?_ | with_reducible refine v_isi ?_ | with_reducible refine v_lm ?_ | with_reducible refine t_ext ?_ | with_reducible refine s_tr ?_ | ((with_reducible refine v_tup ?_ ?_); exact rfl) | ((with_reducible refine v_lst ?_ ?_); exact rfl) | ((with_reducible refine v_newl ?_ ?_); exact rfl) | ((with_reducible refine k_pow ?_ ?_); exact rfl)))
  exact h
end
end PV

set_option Elab.async false
set_option linter.all false
set_option maxRecDepth 100000
set_option maxHeartbeats 800000
/-! E15: comprehensions over whole numbers; small store facts. -/
namespace PV
open PySem L2
section
variable {X : XP} {ok : Okt} {fs : Nat → Option (Nat × Sms)} {is : Nat → Option (Nat × Nat × Sms)} {k : Nat} {S : Store}
theorem comp_int {chk : Store → Bool} {tg : D → Env → Option Env} {cond : Env → M Bool} {elt : Env → M Ow} {e0 : Env} {l : List Int} {R : List D → Store → Prop} (f : Int → Int) (hc : chk S = true)
    (hs : ∀ x ∈ l, ∃ e1, tg (.int x) e0 = some e1 ∧ W noE (cond e1 S) (fun b S1 => b = true ∧ S1 = S) ∧ WV noE (elt e1 S) (fun d S1 => d = .int (f x) ∧ S1 = S)) (q : R (iL (l.map f)) S) : W noE (compL chk tg cond elt e0 (iL l) S) R := by
  have h := compL_pure (S := S) (chk := chk) (tg := tg) (cond := cond) (elt := elt) (e0 := e0) (f := fun d => match d with | .int x => .int (f x) | d => d) hc (iL l) fun y hy => by
    obtain ⟨x, hx, rfl⟩ := List.mem_map.mp hy
    obtain ⟨e1, h1, h2, h3⟩ := hs x hx
    obtain ⟨b, S1, g1, g2, g3⟩ := W_get h2
    obtain ⟨w, S2, g4, g5⟩ := W_get h3
    obtain ⟨d, e5, g6, g7⟩ := okV_get g5
    subst g2 g3 e5 g6 g7
    exact ⟨e1, h1, g1, g4⟩
  refine W_of h ?_
  have e : ((iL l).map fun d => match d with | .int x => D.int (f x) | d => d) = iL (l.map f) := by
    unfold iL
    rw [List.map_map, List.map_map]; rfl
  rw [e]; exact q
theorem comp_fil {chk : Store → Bool} {tg : D → Env → Option Env} {cond : Env → M Bool} {elt : Env → M Ow} {e0 : Env} (p : Int → Bool) (hc : chk S = true) : ∀ {l : List Int},
    (∀ x ∈ l, ∃ e1, tg (.int x) e0 = some e1 ∧ W noE (cond e1 S) (fun b S1 => b = p x ∧ S1 = S) ∧ WV noE (elt e1 S) (fun d S1 => d = .int x ∧ S1 = S)) → compL chk tg cond elt e0 (iL l) S = .ok (iL (l.filter p)) S
  | [], _ => compL_nil hc
  | x :: l, hs => by
    have ih := comp_fil (chk := chk) (tg := tg) (cond := cond) (elt := elt) (e0 := e0) p hc fun y hy => hs y (List.mem_cons_of_mem _ hy)
    obtain ⟨e1, h1, h2, h3⟩ := hs x List.mem_cons_self
    obtain ⟨b, S1, g1, g2, g3⟩ := W_get h2
    obtain ⟨w, S2, g4, g5⟩ := W_get h3
    obtain ⟨d, e5, g6, g7⟩ := okV_get g5
    subst g2 g3 e5 g6 g7
    cases hp : p x with
    | true =>
      rw [hp] at g1
      rw [List.filter_cons, if_pos hp]
      exact compL_step hc h1 g1 g4 ih
    | false =>
      rw [hp] at g1
      rw [List.filter_cons, if_neg (by rw [hp]; simp)]
      exact compL_skip hc h1 g1 ih
theorem at_new {m : MO} : (S ++ [m])[S.length]? = some m := by rw [List.getElem?_append_right (Nat.le_refl _), Nat.sub_self]; rfl
theorem Well.lt {id n : Nat} (h : Well S id n) : id < S.length := by
  obtain ⟨a, b, c, h1, _⟩ := h
  exact (List.getElem?_eq_some_iff.mp h1).1
theorem Well.app {id n : Nat} {m : MO} (h : Well S id n) : Well (S ++ [m]) id n := by
  have hl := h.lt
  obtain ⟨a, b, c, h1, h2⟩ := h
  exact ⟨a, b, c, by rw [List.getElem?_append_left hl]; exact h1, h2⟩
theorem Well.other {id i n : Nat} {m : MO} (h : Well S id n) (hi : i ≠ id) : Well (S.set i m) id n := by
  obtain ⟨a, b, c, h1, h2⟩ := h
  exact ⟨a, b, c, by rw [List.getElem?_set_ne hi]; exact h1, h2⟩
theorem k_rev {Q : D → Store → Prop} {ds : List D} (q : Q (.lst ds.reverse) S) : WV X (revD (.lst ds) S) Q := q
theorem iL_app {l : List Int} {x : Int} : iL l ++ [D.int x] = iL (l ++ [x]) := by unfold iL; rw [List.map_append]; rfl
theorem iL_rev {l : List Int} : (iL l).reverse = iL l.reverse := by unfold iL; rw [List.map_reverse]
theorem iL_len {l : List Int} : (iL l).length = l.length := by unfold iL; rw [List.length_map]
theorem allI_list {p : Int → Prop} : ∀ {ds : List D}, (∀ d ∈ ds, ∃ a, d = .int a ∧ p a) → ∃ l, ds = iL l ∧ ∀ a ∈ l, p a
  | [], _ => ⟨[], rfl, fun _ h => by cases h⟩
  | d :: ds, h => by
    obtain ⟨a, rfl, ha⟩ := h d List.mem_cons_self
    obtain ⟨l, rfl, hl⟩ := allI_list fun d hd => h d (List.mem_cons_of_mem _ hd)
    refine ⟨a :: l, rfl, fun x hx => ?_⟩
    rcases List.mem_cons.mp hx with q | q
    · subst q; exact ha
    · exact hl x q
theorem rangeD_len {lo hi : Int} : (rangeD lo hi).length = (hi - lo).toNat := by unfold rangeD; rw [List.length_map, List.length_range]
theorem slc_lst {X : XP} {Q : D → Store → Prop} {ds : List D} {lo hi : Option Int} (q : (∀ d ∈ cutD ds lo hi, d ∈ ds) → Q (.lst (cutD ds lo hi)) S) : WV X (slcD lo hi (.lst ds) S) Q :=
  q fun d hd => List.mem_of_mem_drop (List.mem_of_mem_take hd)
theorem is_list {id : Nat} {ds : List D} (h : S[id]? = some (.lst ds)) : isL (.ref id) S = .ok () S := by
  show (match S[id]? with | some (.lst _) => Out.ok () S | _ => .stuck) = _
  rw [h]
theorem k_app {X : XP} {Q : D → Store → Prop} {id : Nat} {ds : List D} {v : D} (h : S[id]? = some (.lst ds)) (hl : ds.length < line) (q : Q .non (S.set id (.lst (ds ++ [v])))) : WV X (runL .append (.ref id) [v] S) Q := by
  show WV X (match S[id]? with | some (.lst ds) => (match Lm.append.run ds [v] with | some (ds', r) => Out.ok (Ow.val r) (S.set id (.lst ds')) | none => .stuck) | _ => .stuck) Q
  rw [h]
  have e : Lm.append.run ds [v] = some (ds ++ [v], .non) := by
    show (if ds.length < line then some (ds ++ [v], D.non) else none) = _
    rw [if_pos hl]
  dsimp only
  rw [e]; exact q
theorem ix_zero {n : Nat} (h : 0 < n) : L2.ixN n 0 = some 0 := by
  unfold L2.ixN
  rw [if_pos (Int.le_refl 0), if_pos (by omega)]; rfl
end
end PV

set_option Elab.async false
set_option linter.all false
set_option maxRecDepth 100000
set_option maxHeartbeats 1600000
/-! M03: k03's law. -/
namespace PV
open PySem L2
def numsA : Sms := (.cons (.set 1 (.lst (.cons (.int 0) (.cons (.int 1) (.cons (.neg (.int 1)) (.cons (.int 2) (.cons (.int 6) (.cons (.neg (.int 12)) (.cons (.int 30) (.cons (.op .pow (.int 10) (.int 12)) (.cons (.call 201 [.p 0, .p 1] (.cons (.var 0) (.cons (.int 999) .nil)) .nil) (.cons (.int 0) .nil)))))))))))) (.cons (.ret (.comp (.call 202 [.p 0, .p 1] (.cons (.var 0) (.cons (.var 1) .nil)) .nil) (.name 2) (.rng1 (.call 201 [.p 0, .p 1] (.cons (.var 0) (.cons (.int 7) .nil)) .nil)) .no [2])) .nil))
def refA : Sms := (.cons (.set 2 .non) (.cons (.tr 9 3 (.cons (.ex (.mk 20 20 false [.p 0, .p 1] (.cons (.var 0) (.cons (.var 1) .nil)) .nil)) .nil) (.ifs (.and (.isi 0) (.not (.isi 15))) (.set 2 (.tup [(.fld "what"), (.fld "count")])) .pass)) (.cons (.ret (.var 2)) .nil)))
structure F03 (ok : Okt) (fs : Nat → Option (Nat × Sms)) (is : Nat → Option (Nat × Nat × Sms)) : Prop extends FPl ok fs is where
  f200 : fs 200 = some (1, wellA)
  f201 : fs 201 = some (4, drawA)
  f202 : fs 202 = some (2, oneA)
  f204 : fs 204 = some (3, commonA)
  f205 : fs 205 = some (3, numsA)
  f206 : fs 206 = some (4, refA)
  em : ok.exm 0 9 = some true
  e1 : ok.exs 0 0 = some true
  e2 : ok.exs 0 15 = some false
  x1 : ok.xf 0 "what" = true
  x2 : ok.xf 0 "count" = true
section
variable {X : XP} {Z : XS} {ok : Okt} {fs : Nat → Option (Nat × Sms)} {is : Nat → Option (Nat × Nat × Sms)} {k : Nat} {S : Store}
theorem nums_w (F : F03 ok fs is) {Q : D → Store → Prop} {id n : Nat} (hw : Well S id n) (hn : n ≤ 1000000) (hq : ∀ l S', l.length ≤ 6 → (∀ x ∈ l, x.natAbs < 2 ^ 100) → Well S' id (n + 20) → Q (.lst (iL l)) S') : W X ((TT ok fs is (k + 3)).fn 205 [.ref id] S) Q := by
  refine w_fn F.f205 ?_
  unfold numsA
  (repeat (first | ((with_reducible refine v_varK ?_); refine varK ?_) | ((with_reducible refine t_varK ?_); refine varK ?_) | with_reducible refine s_cons ?_ | with_reducible refine q_nx ?_ | with_reducible refine q_ret ?_ | with_reducible refine q_brk ?_ | with_reducible refine q_cont ?_ | with_reducible refine r_nx ?_ | with_reducible refine r_ret ?_ | with_reducible refine s_nil ?_ | with_reducible refine s_pass ?_ | with_reducible refine s_brk ?_ | with_reducible refine s_cont ?_ | with_reducible refine s_retN ?_ | with_reducible refine s_exv ?_ | with_reducible refine s_rt ?_ | with_reducible refine s_ifs ?_ | with_reducible refine s_st ?_ | with_reducible refine s_stc ?_ | with_reducible refine s_as ?_ | with_reducible refine s_pr ?_ | with_reducible refine s_fr ?_ | with_reducible refine v_int ?_ | with_reducible refine v_bl ?_ | with_reducible refine v_non ?_ | with_reducible refine v_str ?_ | with_reducible refine v_op ?_ | with_reducible refine v_cmp ?_ | with_reducible refine v_neg ?_ | with_reducible refine v_fld ?_ | with_reducible refine v_rev ?_ | with_reducible refine v_not ?_ | with_reducible refine v_and ?_ | with_reducible refine v_or ?_ | with_reducible refine v_ite ?_ | with_reducible refine l_nil ?_ | with_reducible refine l_cons ?_ | with_reducible refine v_blt ?_ | with_reducible refine v_call ?_ | with_reducible refine v_mkF ?_ | with_reducible refine v_idx ?_ | with_reducible refine v_slc ?_ | with_reducible refine v_join ?_ | with_reducible refine v_fmt ?_ | with_reducible refine j_nil ?_ | with_reducible refine j_cons ?_ | with_reducible refine v_joined ?_ | with_reducible refine v_comp ?_ | with_reducible refine r_seq ?_ | with_reducible refine r_rng1 ?_ | with_reducible refine r_rng2 ?_ | with_reducible refine t_not ?_ | with_reducible refine t_and ?_ | with_reducible refine t_or ?_ | with_reducible refine t_cmp ?_ | with_reducible refine t_bl ?_ | with_reducible refine t_call ?_ | with_reducible refine t_fld ?_ | with_reducible refine t_idx ?_ | with_reducible refine t_blt ?_ | with_reducible refine c_no ?_ | with_reducible refine c_yes ?_ | with_reducible refine k_add ?_ | with_reducible refine k_sub ?_ | with_reducible refine k_lt ?_ | with_reducible refine k_le ?_ | with_reducible refine k_gt ?_ | with_reducible refine k_ge ?_ | with_reducible refine k_eqi ?_ | with_reducible refine k_nei ?_ | with_reducible refine k_eqs ?_ | with_reducible refine k_nes ?_ | with_reducible refine k_neg ?_ | with_reducible refine b_abs ?_ | with_reducible refine b_strs ?_ | with_reducible refine b_inti ?_ | with_reducible refine b_intb ?_ | with_reducible refine b_max2 ?_ | with_reducible refine b_min2 ?_ | with_reducible refine bl_k ?_ | with_reducible refine str_k ?_ | with_reducible refine br_t ?_ | with_reducible refine br_f ?_ | with_reducible refine o_no ?_ | with_reducible refine l_nx ?_ | with_reducible refine l_ct ?_ | with_reducible refine l_brk ?_ | with_reducible refine l_ret ?_ | with_reducible refine s_sx ?_ | with_reducible refine s_sf ?_ | with_reducible refine okv ?_ | with_reducible refine v_eqi ?_ | with_reducible refine v_inNo ?_ | with_reducible refine v_isi ?_ | with_reducible refine v_lm ?_ | with_reducible refine t_ext ?_ | with_reducible refine s_tr ?_ | ((with_reducible refine v_tup ?_ ?_); exact rfl) | ((with_reducible refine v_lst ?_ ?_); exact rfl) | ((with_reducible refine v_newl ?_ ?_); exact rfl) | ((with_reducible refine k_pow ?_ ?_); exact rfl)))
  refine draw_w F.f201 hw (by omega) (by decide) (by decide) fun r w r1 r2 hw1 => ?_
  (repeat (first | ((with_reducible refine v_varK ?_); refine varK ?_) | ((with_reducible refine t_varK ?_); refine varK ?_) | with_reducible refine s_cons ?_ | with_reducible refine q_nx ?_ | with_reducible refine q_ret ?_ | with_reducible refine q_brk ?_ | with_reducible refine q_cont ?_ | with_reducible refine r_nx ?_ | with_reducible refine r_ret ?_ | with_reducible refine s_nil ?_ | with_reducible refine s_pass ?_ | with_reducible refine s_brk ?_ | with_reducible refine s_cont ?_ | with_reducible refine s_retN ?_ | with_reducible refine s_exv ?_ | with_reducible refine s_rt ?_ | with_reducible refine s_ifs ?_ | with_reducible refine s_st ?_ | with_reducible refine s_stc ?_ | with_reducible refine s_as ?_ | with_reducible refine s_pr ?_ | with_reducible refine s_fr ?_ | with_reducible refine v_int ?_ | with_reducible refine v_bl ?_ | with_reducible refine v_non ?_ | with_reducible refine v_str ?_ | with_reducible refine v_op ?_ | with_reducible refine v_cmp ?_ | with_reducible refine v_neg ?_ | with_reducible refine v_fld ?_ | with_reducible refine v_rev ?_ | with_reducible refine v_not ?_ | with_reducible refine v_and ?_ | with_reducible refine v_or ?_ | with_reducible refine v_ite ?_ | with_reducible refine l_nil ?_ | with_reducible refine l_cons ?_ | with_reducible refine v_blt ?_ | with_reducible refine v_call ?_ | with_reducible refine v_mkF ?_ | with_reducible refine v_idx ?_ | with_reducible refine v_slc ?_ | with_reducible refine v_join ?_ | with_reducible refine v_fmt ?_ | with_reducible refine j_nil ?_ | with_reducible refine j_cons ?_ | with_reducible refine v_joined ?_ | with_reducible refine v_comp ?_ | with_reducible refine r_seq ?_ | with_reducible refine r_rng1 ?_ | with_reducible refine r_rng2 ?_ | with_reducible refine t_not ?_ | with_reducible refine t_and ?_ | with_reducible refine t_or ?_ | with_reducible refine t_cmp ?_ | with_reducible refine t_bl ?_ | with_reducible refine t_call ?_ | with_reducible refine t_fld ?_ | with_reducible refine t_idx ?_ | with_reducible refine t_blt ?_ | with_reducible refine c_no ?_ | with_reducible refine c_yes ?_ | with_reducible refine k_add ?_ | with_reducible refine k_sub ?_ | with_reducible refine k_lt ?_ | with_reducible refine k_le ?_ | with_reducible refine k_gt ?_ | with_reducible refine k_ge ?_ | with_reducible refine k_eqi ?_ | with_reducible refine k_nei ?_ | with_reducible refine k_eqs ?_ | with_reducible refine k_nes ?_ | with_reducible refine k_neg ?_ | with_reducible refine b_abs ?_ | with_reducible refine b_strs ?_ | with_reducible refine b_inti ?_ | with_reducible refine b_intb ?_ | with_reducible refine b_max2 ?_ | with_reducible refine b_min2 ?_ | with_reducible refine bl_k ?_ | with_reducible refine str_k ?_ | with_reducible refine br_t ?_ | with_reducible refine br_f ?_ | with_reducible refine o_no ?_ | with_reducible refine l_nx ?_ | with_reducible refine l_ct ?_ | with_reducible refine l_brk ?_ | with_reducible refine l_ret ?_ | with_reducible refine s_sx ?_ | with_reducible refine s_sf ?_ | with_reducible refine okv ?_ | with_reducible refine v_eqi ?_ | with_reducible refine v_inNo ?_ | with_reducible refine v_isi ?_ | with_reducible refine v_lm ?_ | with_reducible refine t_ext ?_ | with_reducible refine s_tr ?_ | ((with_reducible refine v_tup ?_ ?_); exact rfl) | ((with_reducible refine v_lst ?_ ?_); exact rfl) | ((with_reducible refine v_newl ?_ ?_); exact rfl) | ((with_reducible refine k_pow ?_ ?_); exact rfl)))
  refine draw_w F.f201 hw1 (by omega) (by decide) (by decide) fun m w m1 m2 hw2 => ?_
  refine ⟨m, rfl, ?_, ?_⟩
  · unfold okRg
    rw [decide_eq_true (by decide), decide_eq_true (by decide), decide_eq_true (by omega), decide_eq_true (by omega)]; rfl
  refine ⟨by rw [rangeD_len]; exact Nat.le_trans (m := 7) (by omega) (by decide), ?_⟩
  refine comp_use (fun zs acc S => zs.length + acc.length = m.toNat ∧ Well S id (n + 2 + acc.length) ∧ ∀ d ∈ acc, ∃ a, d = .int a ∧ a.natAbs < 2 ^ 100) ⟨by rw [rangeD_len, List.length_nil]; omega, hw2, fun _ h => by cases h⟩ (fun _ _ _ _ => rfl) (fun y zs acc S h => ⟨_, rfl, ?_⟩) (fun ds S2 h => ?_)
  · obtain ⟨i1, i2, i3⟩ := h
    rw [List.length_cons] at i1
    (repeat (first | ((with_reducible refine v_varK ?_); refine varK ?_) | ((with_reducible refine t_varK ?_); refine varK ?_) | with_reducible refine s_cons ?_ | with_reducible refine q_nx ?_ | with_reducible refine q_ret ?_ | with_reducible refine q_brk ?_ | with_reducible refine q_cont ?_ | with_reducible refine r_nx ?_ | with_reducible refine r_ret ?_ | with_reducible refine s_nil ?_ | with_reducible refine s_pass ?_ | with_reducible refine s_brk ?_ | with_reducible refine s_cont ?_ | with_reducible refine s_retN ?_ | with_reducible refine s_exv ?_ | with_reducible refine s_rt ?_ | with_reducible refine s_ifs ?_ | with_reducible refine s_st ?_ | with_reducible refine s_stc ?_ | with_reducible refine s_as ?_ | with_reducible refine s_pr ?_ | with_reducible refine s_fr ?_ | with_reducible refine v_int ?_ | with_reducible refine v_bl ?_ | with_reducible refine v_non ?_ | with_reducible refine v_str ?_ | with_reducible refine v_op ?_ | with_reducible refine v_cmp ?_ | with_reducible refine v_neg ?_ | with_reducible refine v_fld ?_ | with_reducible refine v_rev ?_ | with_reducible refine v_not ?_ | with_reducible refine v_and ?_ | with_reducible refine v_or ?_ | with_reducible refine v_ite ?_ | with_reducible refine l_nil ?_ | with_reducible refine l_cons ?_ | with_reducible refine v_blt ?_ | with_reducible refine v_call ?_ | with_reducible refine v_mkF ?_ | with_reducible refine v_idx ?_ | with_reducible refine v_slc ?_ | with_reducible refine v_join ?_ | with_reducible refine v_fmt ?_ | with_reducible refine j_nil ?_ | with_reducible refine j_cons ?_ | with_reducible refine v_joined ?_ | with_reducible refine v_comp ?_ | with_reducible refine r_seq ?_ | with_reducible refine r_rng1 ?_ | with_reducible refine r_rng2 ?_ | with_reducible refine t_not ?_ | with_reducible refine t_and ?_ | with_reducible refine t_or ?_ | with_reducible refine t_cmp ?_ | with_reducible refine t_bl ?_ | with_reducible refine t_call ?_ | with_reducible refine t_fld ?_ | with_reducible refine t_idx ?_ | with_reducible refine t_blt ?_ | with_reducible refine c_no ?_ | with_reducible refine c_yes ?_ | with_reducible refine k_add ?_ | with_reducible refine k_sub ?_ | with_reducible refine k_lt ?_ | with_reducible refine k_le ?_ | with_reducible refine k_gt ?_ | with_reducible refine k_ge ?_ | with_reducible refine k_eqi ?_ | with_reducible refine k_nei ?_ | with_reducible refine k_eqs ?_ | with_reducible refine k_nes ?_ | with_reducible refine k_neg ?_ | with_reducible refine b_abs ?_ | with_reducible refine b_strs ?_ | with_reducible refine b_inti ?_ | with_reducible refine b_intb ?_ | with_reducible refine b_max2 ?_ | with_reducible refine b_min2 ?_ | with_reducible refine bl_k ?_ | with_reducible refine str_k ?_ | with_reducible refine br_t ?_ | with_reducible refine br_f ?_ | with_reducible refine o_no ?_ | with_reducible refine l_nx ?_ | with_reducible refine l_ct ?_ | with_reducible refine l_brk ?_ | with_reducible refine l_ret ?_ | with_reducible refine s_sx ?_ | with_reducible refine s_sf ?_ | with_reducible refine okv ?_ | with_reducible refine v_eqi ?_ | with_reducible refine v_inNo ?_ | with_reducible refine v_isi ?_ | with_reducible refine v_lm ?_ | with_reducible refine t_ext ?_ | with_reducible refine s_tr ?_ | ((with_reducible refine v_tup ?_ ?_); exact rfl) | ((with_reducible refine v_lst ?_ ?_); exact rfl) | ((with_reducible refine v_newl ?_ ?_); exact rfl) | ((with_reducible refine k_pow ?_ ?_); exact rfl)))
    refine one_w F.f201 F.f202 i2 (by omega) (by simp) (by simp) fun d w1 hd hw3 => ?_
    refine ⟨by rw [List.length_append, List.length_singleton]; omega, by rw [List.length_append, List.length_singleton]; exact hw3.mono (by omega), fun x hx => ?_⟩
    rcases List.mem_append.mp hx with q | q
    · exact i3 x q
    · rw [List.mem_singleton.mp q]
      exact allI_mem hd ⟨by decide, by decide, by decide, by decide, by decide, by decide, by decide, by decide +kernel, by omega, by decide, trivial⟩
  · obtain ⟨i1, i2, i3⟩ := h
    rw [List.length_nil] at i1
    obtain ⟨l, rfl, hl⟩ := allI_list i3
    rw [iL_len] at i1 i2
    (repeat (first | ((with_reducible refine v_varK ?_); refine varK ?_) | ((with_reducible refine t_varK ?_); refine varK ?_) | with_reducible refine s_cons ?_ | with_reducible refine q_nx ?_ | with_reducible refine q_ret ?_ | with_reducible refine q_brk ?_ | with_reducible refine q_cont ?_ | with_reducible refine r_nx ?_ | with_reducible refine r_ret ?_ | with_reducible refine s_nil ?_ | with_reducible refine s_pass ?_ | with_reducible refine s_brk ?_ | with_reducible refine s_cont ?_ | with_reducible refine s_retN ?_ | with_reducible refine s_exv ?_ | with_reducible refine s_rt ?_ | with_reducible refine s_ifs ?_ | with_reducible refine s_st ?_ | with_reducible refine s_stc ?_ | with_reducible refine s_as ?_ | with_reducible refine s_pr ?_ | with_reducible refine s_fr ?_ | with_reducible refine v_int ?_ | with_reducible refine v_bl ?_ | with_reducible refine v_non ?_ | with_reducible refine v_str ?_ | with_reducible refine v_op ?_ | with_reducible refine v_cmp ?_ | with_reducible refine v_neg ?_ | with_reducible refine v_fld ?_ | with_reducible refine v_rev ?_ | with_reducible refine v_not ?_ | with_reducible refine v_and ?_ | with_reducible refine v_or ?_ | with_reducible refine v_ite ?_ | with_reducible refine l_nil ?_ | with_reducible refine l_cons ?_ | with_reducible refine v_blt ?_ | with_reducible refine v_call ?_ | with_reducible refine v_mkF ?_ | with_reducible refine v_idx ?_ | with_reducible refine v_slc ?_ | with_reducible refine v_join ?_ | with_reducible refine v_fmt ?_ | with_reducible refine j_nil ?_ | with_reducible refine j_cons ?_ | with_reducible refine v_joined ?_ | with_reducible refine v_comp ?_ | with_reducible refine r_seq ?_ | with_reducible refine r_rng1 ?_ | with_reducible refine r_rng2 ?_ | with_reducible refine t_not ?_ | with_reducible refine t_and ?_ | with_reducible refine t_or ?_ | with_reducible refine t_cmp ?_ | with_reducible refine t_bl ?_ | with_reducible refine t_call ?_ | with_reducible refine t_fld ?_ | with_reducible refine t_idx ?_ | with_reducible refine t_blt ?_ | with_reducible refine c_no ?_ | with_reducible refine c_yes ?_ | with_reducible refine k_add ?_ | with_reducible refine k_sub ?_ | with_reducible refine k_lt ?_ | with_reducible refine k_le ?_ | with_reducible refine k_gt ?_ | with_reducible refine k_ge ?_ | with_reducible refine k_eqi ?_ | with_reducible refine k_nei ?_ | with_reducible refine k_eqs ?_ | with_reducible refine k_nes ?_ | with_reducible refine k_neg ?_ | with_reducible refine b_abs ?_ | with_reducible refine b_strs ?_ | with_reducible refine b_inti ?_ | with_reducible refine b_intb ?_ | with_reducible refine b_max2 ?_ | with_reducible refine b_min2 ?_ | with_reducible refine bl_k ?_ | with_reducible refine str_k ?_ | with_reducible refine br_t ?_ | with_reducible refine br_f ?_ | with_reducible refine o_no ?_ | with_reducible refine l_nx ?_ | with_reducible refine l_ct ?_ | with_reducible refine l_brk ?_ | with_reducible refine l_ret ?_ | with_reducible refine s_sx ?_ | with_reducible refine s_sf ?_ | with_reducible refine okv ?_ | with_reducible refine v_eqi ?_ | with_reducible refine v_inNo ?_ | with_reducible refine v_isi ?_ | with_reducible refine v_lm ?_ | with_reducible refine t_ext ?_ | with_reducible refine s_tr ?_ | ((with_reducible refine v_tup ?_ ?_); exact rfl) | ((with_reducible refine v_lst ?_ ?_); exact rfl) | ((with_reducible refine v_newl ?_ ?_); exact rfl) | ((with_reducible refine k_pow ?_ ?_); exact rfl)))
    exact hq l S2 (by omega) hl (i2.mono (by omega))
theorem ref_w (F : F03 ok fs is) {Q : D → Store → Prop} {d : D} {few : Int} (hf : few < 1) (hq : Q (.tup [.str (Str.ofString "parts"), .int few]) S) : W X ((TT ok fs is (k + 2)).fn 206 [d, .int few] S) Q := by
  refine w_fn F.f206 ?_
  unfold refA
  (repeat (first | ((with_reducible refine v_varK ?_); refine varK ?_) | ((with_reducible refine t_varK ?_); refine varK ?_) | with_reducible refine s_cons ?_ | with_reducible refine q_nx ?_ | with_reducible refine q_ret ?_ | with_reducible refine q_brk ?_ | with_reducible refine q_cont ?_ | with_reducible refine r_nx ?_ | with_reducible refine r_ret ?_ | with_reducible refine s_nil ?_ | with_reducible refine s_pass ?_ | with_reducible refine s_brk ?_ | with_reducible refine s_cont ?_ | with_reducible refine s_retN ?_ | with_reducible refine s_exv ?_ | with_reducible refine s_rt ?_ | with_reducible refine s_ifs ?_ | with_reducible refine s_st ?_ | with_reducible refine s_stc ?_ | with_reducible refine s_as ?_ | with_reducible refine s_pr ?_ | with_reducible refine s_fr ?_ | with_reducible refine v_int ?_ | with_reducible refine v_bl ?_ | with_reducible refine v_non ?_ | with_reducible refine v_str ?_ | with_reducible refine v_op ?_ | with_reducible refine v_cmp ?_ | with_reducible refine v_neg ?_ | with_reducible refine v_fld ?_ | with_reducible refine v_rev ?_ | with_reducible refine v_not ?_ | with_reducible refine v_and ?_ | with_reducible refine v_or ?_ | with_reducible refine v_ite ?_ | with_reducible refine l_nil ?_ | with_reducible refine l_cons ?_ | with_reducible refine v_blt ?_ | with_reducible refine v_call ?_ | with_reducible refine v_mkF ?_ | with_reducible refine v_idx ?_ | with_reducible refine v_slc ?_ | with_reducible refine v_join ?_ | with_reducible refine v_fmt ?_ | with_reducible refine j_nil ?_ | with_reducible refine j_cons ?_ | with_reducible refine v_joined ?_ | with_reducible refine v_comp ?_ | with_reducible refine r_seq ?_ | with_reducible refine r_rng1 ?_ | with_reducible refine r_rng2 ?_ | with_reducible refine t_not ?_ | with_reducible refine t_and ?_ | with_reducible refine t_or ?_ | with_reducible refine t_cmp ?_ | with_reducible refine t_bl ?_ | with_reducible refine t_call ?_ | with_reducible refine t_fld ?_ | with_reducible refine t_idx ?_ | with_reducible refine t_blt ?_ | with_reducible refine c_no ?_ | with_reducible refine c_yes ?_ | with_reducible refine k_add ?_ | with_reducible refine k_sub ?_ | with_reducible refine k_lt ?_ | with_reducible refine k_le ?_ | with_reducible refine k_gt ?_ | with_reducible refine k_ge ?_ | with_reducible refine k_eqi ?_ | with_reducible refine k_nei ?_ | with_reducible refine k_eqs ?_ | with_reducible refine k_nes ?_ | with_reducible refine k_neg ?_ | with_reducible refine b_abs ?_ | with_reducible refine b_strs ?_ | with_reducible refine b_inti ?_ | with_reducible refine b_intb ?_ | with_reducible refine b_max2 ?_ | with_reducible refine b_min2 ?_ | with_reducible refine bl_k ?_ | with_reducible refine str_k ?_ | with_reducible refine br_t ?_ | with_reducible refine br_f ?_ | with_reducible refine o_no ?_ | with_reducible refine l_nx ?_ | with_reducible refine l_ct ?_ | with_reducible refine l_brk ?_ | with_reducible refine l_ret ?_ | with_reducible refine s_sx ?_ | with_reducible refine s_sf ?_ | with_reducible refine okv ?_ | with_reducible refine v_eqi ?_ | with_reducible refine v_inNo ?_ | with_reducible refine v_isi ?_ | with_reducible refine v_lm ?_ | with_reducible refine t_ext ?_ | with_reducible refine s_tr ?_ | ((with_reducible refine v_tup ?_ ?_); exact rfl) | ((with_reducible refine v_lst ?_ ?_); exact rfl) | ((with_reducible refine v_newl ?_ ?_); exact rfl) | ((with_reducible refine k_pow ?_ ?_); exact rfl)))
  refine places_no F.toFPl hf ?_
  refine Or.inl ⟨F.em, (by show 3 < 4; decide), ?_⟩
  have c1 : ("count" == "what") = false := by decide
  have c2 : ("what" == "what") = true := by decide
  have c3 : ("count" == "count") = true := by decide
  simp only [Hs.run, Ht.v, F.e1, F.e2, Option.map_some, Bool.not_false, Hx.v, hasV, Ha.v, F.x1, F.x2, if_true, lookF, c1, c2, c3, Bool.false_eq_true, if_false]
  refine WS_of (f := .nx) (S1 := S) rfl ?_
  (repeat (first | ((with_reducible refine v_varK ?_); refine varK ?_) | ((with_reducible refine t_varK ?_); refine varK ?_) | with_reducible refine s_cons ?_ | with_reducible refine q_nx ?_ | with_reducible refine q_ret ?_ | with_reducible refine q_brk ?_ | with_reducible refine q_cont ?_ | with_reducible refine r_nx ?_ | with_reducible refine r_ret ?_ | with_reducible refine s_nil ?_ | with_reducible refine s_pass ?_ | with_reducible refine s_brk ?_ | with_reducible refine s_cont ?_ | with_reducible refine s_retN ?_ | with_reducible refine s_exv ?_ | with_reducible refine s_rt ?_ | with_reducible refine s_ifs ?_ | with_reducible refine s_st ?_ | with_reducible refine s_stc ?_ | with_reducible refine s_as ?_ | with_reducible refine s_pr ?_ | with_reducible refine s_fr ?_ | with_reducible refine v_int ?_ | with_reducible refine v_bl ?_ | with_reducible refine v_non ?_ | with_reducible refine v_str ?_ | with_reducible refine v_op ?_ | with_reducible refine v_cmp ?_ | with_reducible refine v_neg ?_ | with_reducible refine v_fld ?_ | with_reducible refine v_rev ?_ | with_reducible refine v_not ?_ | with_reducible refine v_and ?_ | with_reducible refine v_or ?_ | with_reducible refine v_ite ?_ | with_reducible refine l_nil ?_ | with_reducible refine l_cons ?_ | with_reducible refine v_blt ?_ | with_reducible refine v_call ?_ | with_reducible refine v_mkF ?_ | with_reducible refine v_idx ?_ | with_reducible refine v_slc ?_ | with_reducible refine v_join ?_ | with_reducible refine v_fmt ?_ | with_reducible refine j_nil ?_ | with_reducible refine j_cons ?_ | with_reducible refine v_joined ?_ | with_reducible refine v_comp ?_ | with_reducible refine r_seq ?_ | with_reducible refine r_rng1 ?_ | with_reducible refine r_rng2 ?_ | with_reducible refine t_not ?_ | with_reducible refine t_and ?_ | with_reducible refine t_or ?_ | with_reducible refine t_cmp ?_ | with_reducible refine t_bl ?_ | with_reducible refine t_call ?_ | with_reducible refine t_fld ?_ | with_reducible refine t_idx ?_ | with_reducible refine t_blt ?_ | with_reducible refine c_no ?_ | with_reducible refine c_yes ?_ | with_reducible refine k_add ?_ | with_reducible refine k_sub ?_ | with_reducible refine k_lt ?_ | with_reducible refine k_le ?_ | with_reducible refine k_gt ?_ | with_reducible refine k_ge ?_ | with_reducible refine k_eqi ?_ | with_reducible refine k_nei ?_ | with_reducible refine k_eqs ?_ | with_reducible refine k_nes ?_ | with_reducible refine k_neg ?_ | with_reducible refine b_abs ?_ | with_reducible refine b_strs ?_ | with_reducible refine b_inti ?_ | with_reducible refine b_intb ?_ | with_reducible refine b_max2 ?_ | with_reducible refine b_min2 ?_ | with_reducible refine bl_k ?_ | with_reducible refine str_k ?_ | with_reducible refine br_t ?_ | with_reducible refine br_f ?_ | with_reducible refine o_no ?_ | with_reducible refine l_nx ?_ | with_reducible refine l_ct ?_ | with_reducible refine l_brk ?_ | with_reducible refine l_ret ?_ | with_reducible refine s_sx ?_ | with_reducible refine s_sf ?_ | with_reducible refine okv ?_ | with_reducible refine v_eqi ?_ | with_reducible refine v_inNo ?_ | with_reducible refine v_isi ?_ | with_reducible refine v_lm ?_ | with_reducible refine t_ext ?_ | with_reducible refine s_tr ?_ | ((with_reducible refine v_tup ?_ ?_); exact rfl) | ((with_reducible refine v_lst ?_ ?_); exact rfl) | ((with_reducible refine v_newl ?_ ?_); exact rfl) | ((with_reducible refine k_pow ?_ ?_); exact rfl)))
  exact hq
def cellB : Sms := (.cons (.set 2 (.call 200 [.p 0] (.cons (.var 1) .nil) .nil)) (.cons (.set 3 (.call 205 [.p 0] (.cons (.var 2) .nil) .nil)) (.cons (.set 4 (.call 202 [.p 0, .p 1] (.cons (.var 2) (.cons (.lst (.cons (.int 1) (.cons (.int 2) (.cons (.int 6) (.cons (.int 12) (.cons (.int 30) (.cons (.op .pow (.int 10) (.int 12)) (.cons (.op .add (.int 1) (.call 201 [.p 0, .p 1] (.cons (.var 2) (.cons (.int 99) .nil)) .nil)) .nil)))))))) .nil)) .nil)) (.cons (.set 5 (.blt .listN (.cons (.var 3) .nil))) (.cons (.set 6 (.mk 20 20 false [.p 0, .p 1] (.cons (.var 5) (.cons (.var 4) .nil)) .nil)) (.cons (.ex (.ext (.lm .append) (.cons (.var 5) (.cons (.int 5) .nil)))) (.cons (.setIx (.var 5) (.int 0) (.int 77)) (.cons (.set 7 (.call 204 [.p 0] (.cons (.op .add (.var 3) (.lst (.cons (.var 4) .nil))) .nil) .nil)) (.cons (.set 8 (.tup (.cons (.blt .tuple (.cons (.comp (.op .fdiv (.var 13) (.var 7)) (.name 13) (.seq (.var 3)) .no [13]) .nil)) (.cons (.op .fdiv (.var 4) (.var 7)) .nil)))) (.cons (.ifs (.or (.cmp .ne (.tup (.cons (.fld "numbers" (.var 6)) (.cons (.fld "parts" (.var 6)) .nil))) (.var 8)) (.ext .inNo (.cons (.var 6) (.cons (.lst (.cons (.var 8) (.cons .non (.cons (.var 3) .nil)))) .nil)))) (.cons (.ret (.bl false)) .nil) .nil) (.cons (.set 9 (.op .add (.int 1) (.call 201 [.p 0, .p 1] (.cons (.var 2) (.cons (.int 50) .nil)) .nil))) (.cons (.ifs (.ext (.eqi true) (.cons (.var 6) (.cons (.mk 20 20 false [.k 1, .k 0] .nil (.cons (.op .mul (.var 4) (.var 9)) (.cons (.blt .tuple (.cons (.comp (.op .mul (.var 13) (.var 9)) (.name 13) (.seq (.var 3)) .no [13]) .nil)) .nil))) .nil))) (.cons (.ret (.bl false)) .nil) .nil) (.cons (.set 10 (.lst (.cons (.op .add (.var 3) (.lst (.cons (.int 0) .nil))) (.cons (.rev (.var 3)) (.cons (.comp (.op .add (.var 13) (.int 1)) (.name 13) (.seq (.var 3)) .no [13]) .nil))))) (.cons (.fr (.name 11) (.seq (.var 10)) (.cons (.ifs (.cmp .ne (.ext (.eqi false) (.cons (.var 6) (.cons (.mk 20 20 false [.p 0, .p 1] (.cons (.var 11) (.cons (.var 4) .nil)) .nil) .nil))) (.cmp .eq (.var 11) (.var 3))) (.cons (.ret (.bl false)) .nil) .nil) .nil)) (.cons (.ifs (.cmp .ne (.ext (.eqi false) (.cons (.var 6) (.cons (.mk 20 20 false [.p 0, .p 1] (.cons (.var 3) (.cons (.op .add (.var 4) (.int 1)) .nil)) .nil) .nil))) (.cmp .eq (.comp (.var 13) (.name 13) (.seq (.var 3)) (.yes (.cmp .ne (.var 13) (.int 0))) [13]) (.lst .nil))) (.cons (.ret (.bl false)) .nil) .nil) (.cons (.fr (.name 12) (.seq (.lst (.cons (.int 0) (.cons (.neg (.int 1)) (.cons (.op .sub (.int 0) (.var 4)) .nil))))) (.cons (.ifs (.cmp .ne (.call 206 [.p 0, .p 1] (.cons (.var 3) (.cons (.var 12) .nil)) .nil) (.tup (.cons (.str "parts") (.cons (.var 12) .nil)))) (.cons (.ret (.bl false)) .nil) .nil) .nil)) .nil))))))))))))))))
theorem len14 {e : Env} (h : e.length = 14) : ∃ a0 a1 a2 a3 a4 a5 a6 a7 a8 a9 a10 a11 a12 a13, e = [a0, a1, a2, a3, a4, a5, a6, a7, a8, a9, a10, a11, a12, a13] := by
  match e, h with
  | [a0, a1, a2, a3, a4, a5, a6, a7, a8, a9, a10, a11, a12, a13], _ => exact ⟨a0, a1, a2, a3, a4, a5, a6, a7, a8, a9, a10, a11, a12, a13, rfl⟩
theorem plne_eq (F : FPl ok fs is) {a : List Int} {p : Nat} {d : D} (hd : isDat d = true) : (TT ok fs is (k + 1)).fn 137 [plD a p, d] S = .ok (.bl false) S := by
  obtain ⟨d', S', h, e1, e2⟩ := W_get (plne_w (X := noE) (k := k) (S := S) (a := a) (p := p) (d := d) F (Q := fun d' S' => d' = .bl false ∧ S' = S) hd ⟨rfl, rfl⟩)
  subst e1 e2
  exact h
theorem py_ref {S : Store} {a : Str} {i : Int} (h : PyData.strOk a = true) : pyS S (.tup [.str a, .int i]) = some (.tuple [.str a, .int i]) := by
  unfold pyS
  show (if SeqAt.shaped (.tuple [.str a, .int i]) then some (PyData.tuple [.str a, .int i]) else none) = _
  have hs : SeqAt.shaped (.tuple [.str a, .int i]) = true := by
    show ((PyData.strOk a && (true && true)) && true) = true
    rw [h]; rfl
  rw [if_pos hs]
theorem cell_ok (F : F03 ok fs is) {Q : Fl → Env → Store → Prop} {e : Env} {c : Int} (he : e.length = 14) (h1 : e[1]? = some (vi c)) (hq : ∀ e2 S2, e2.length = 14 → Q .nx e2 S2) : WS Z (xss (TT ok fs is (k + 5)) ok cellB e S) Q := by
  obtain ⟨a0, a1, a2, a3, a4, a5, a6, a7, a8, a9, a10, a11, a12, a13, rfl⟩ := len14 he
  cases h1
  unfold cellB
  (repeat (first | ((with_reducible refine v_varK ?_); refine varK ?_) | ((with_reducible refine t_varK ?_); refine varK ?_) | with_reducible refine s_cons ?_ | with_reducible refine q_nx ?_ | with_reducible refine q_ret ?_ | with_reducible refine q_brk ?_ | with_reducible refine q_cont ?_ | with_reducible refine r_nx ?_ | with_reducible refine r_ret ?_ | with_reducible refine s_nil ?_ | with_reducible refine s_pass ?_ | with_reducible refine s_brk ?_ | with_reducible refine s_cont ?_ | with_reducible refine s_retN ?_ | with_reducible refine s_exv ?_ | with_reducible refine s_rt ?_ | with_reducible refine s_ifs ?_ | with_reducible refine s_st ?_ | with_reducible refine s_stc ?_ | with_reducible refine s_as ?_ | with_reducible refine s_pr ?_ | with_reducible refine s_fr ?_ | with_reducible refine v_int ?_ | with_reducible refine v_bl ?_ | with_reducible refine v_non ?_ | with_reducible refine v_str ?_ | with_reducible refine v_op ?_ | with_reducible refine v_cmp ?_ | with_reducible refine v_neg ?_ | with_reducible refine v_fld ?_ | with_reducible refine v_rev ?_ | with_reducible refine v_not ?_ | with_reducible refine v_and ?_ | with_reducible refine v_or ?_ | with_reducible refine v_ite ?_ | with_reducible refine l_nil ?_ | with_reducible refine l_cons ?_ | with_reducible refine v_blt ?_ | with_reducible refine v_call ?_ | with_reducible refine v_mkF ?_ | with_reducible refine v_idx ?_ | with_reducible refine v_slc ?_ | with_reducible refine v_join ?_ | with_reducible refine v_fmt ?_ | with_reducible refine j_nil ?_ | with_reducible refine j_cons ?_ | with_reducible refine v_joined ?_ | with_reducible refine v_comp ?_ | with_reducible refine r_seq ?_ | with_reducible refine r_rng1 ?_ | with_reducible refine r_rng2 ?_ | with_reducible refine t_not ?_ | with_reducible refine t_and ?_ | with_reducible refine t_or ?_ | with_reducible refine t_cmp ?_ | with_reducible refine t_bl ?_ | with_reducible refine t_call ?_ | with_reducible refine t_fld ?_ | with_reducible refine t_idx ?_ | with_reducible refine t_blt ?_ | with_reducible refine c_no ?_ | with_reducible refine c_yes ?_ | with_reducible refine k_add ?_ | with_reducible refine k_sub ?_ | with_reducible refine k_lt ?_ | with_reducible refine k_le ?_ | with_reducible refine k_gt ?_ | with_reducible refine k_ge ?_ | with_reducible refine k_eqi ?_ | with_reducible refine k_nei ?_ | with_reducible refine k_eqs ?_ | with_reducible refine k_nes ?_ | with_reducible refine k_neg ?_ | with_reducible refine b_abs ?_ | with_reducible refine b_strs ?_ | with_reducible refine b_inti ?_ | with_reducible refine b_intb ?_ | with_reducible refine b_max2 ?_ | with_reducible refine b_min2 ?_ | with_reducible refine bl_k ?_ | with_reducible refine str_k ?_ | with_reducible refine br_t ?_ | with_reducible refine br_f ?_ | with_reducible refine o_no ?_ | with_reducible refine l_nx ?_ | with_reducible refine l_ct ?_ | with_reducible refine l_brk ?_ | with_reducible refine l_ret ?_ | with_reducible refine s_sx ?_ | with_reducible refine s_sf ?_ | with_reducible refine okv ?_ | with_reducible refine v_eqi ?_ | with_reducible refine v_inNo ?_ | with_reducible refine v_isi ?_ | with_reducible refine v_lm ?_ | with_reducible refine t_ext ?_ | with_reducible refine s_tr ?_ | ((with_reducible refine v_tup ?_ ?_); exact rfl) | ((with_reducible refine v_lst ?_ ?_); exact rfl) | ((with_reducible refine v_newl ?_ ?_); exact rfl) | ((with_reducible refine k_pow ?_ ?_); exact rfl)))
  refine well_w (k := k + 4) F.f200 fun S1 id hw => ?_
  (repeat (first | ((with_reducible refine v_varK ?_); refine varK ?_) | ((with_reducible refine t_varK ?_); refine varK ?_) | with_reducible refine s_cons ?_ | with_reducible refine q_nx ?_ | with_reducible refine q_ret ?_ | with_reducible refine q_brk ?_ | with_reducible refine q_cont ?_ | with_reducible refine r_nx ?_ | with_reducible refine r_ret ?_ | with_reducible refine s_nil ?_ | with_reducible refine s_pass ?_ | with_reducible refine s_brk ?_ | with_reducible refine s_cont ?_ | with_reducible refine s_retN ?_ | with_reducible refine s_exv ?_ | with_reducible refine s_rt ?_ | with_reducible refine s_ifs ?_ | with_reducible refine s_st ?_ | with_reducible refine s_stc ?_ | with_reducible refine s_as ?_ | with_reducible refine s_pr ?_ | with_reducible refine s_fr ?_ | with_reducible refine v_int ?_ | with_reducible refine v_bl ?_ | with_reducible refine v_non ?_ | with_reducible refine v_str ?_ | with_reducible refine v_op ?_ | with_reducible refine v_cmp ?_ | with_reducible refine v_neg ?_ | with_reducible refine v_fld ?_ | with_reducible refine v_rev ?_ | with_reducible refine v_not ?_ | with_reducible refine v_and ?_ | with_reducible refine v_or ?_ | with_reducible refine v_ite ?_ | with_reducible refine l_nil ?_ | with_reducible refine l_cons ?_ | with_reducible refine v_blt ?_ | with_reducible refine v_call ?_ | with_reducible refine v_mkF ?_ | with_reducible refine v_idx ?_ | with_reducible refine v_slc ?_ | with_reducible refine v_join ?_ | with_reducible refine v_fmt ?_ | with_reducible refine j_nil ?_ | with_reducible refine j_cons ?_ | with_reducible refine v_joined ?_ | with_reducible refine v_comp ?_ | with_reducible refine r_seq ?_ | with_reducible refine r_rng1 ?_ | with_reducible refine r_rng2 ?_ | with_reducible refine t_not ?_ | with_reducible refine t_and ?_ | with_reducible refine t_or ?_ | with_reducible refine t_cmp ?_ | with_reducible refine t_bl ?_ | with_reducible refine t_call ?_ | with_reducible refine t_fld ?_ | with_reducible refine t_idx ?_ | with_reducible refine t_blt ?_ | with_reducible refine c_no ?_ | with_reducible refine c_yes ?_ | with_reducible refine k_add ?_ | with_reducible refine k_sub ?_ | with_reducible refine k_lt ?_ | with_reducible refine k_le ?_ | with_reducible refine k_gt ?_ | with_reducible refine k_ge ?_ | with_reducible refine k_eqi ?_ | with_reducible refine k_nei ?_ | with_reducible refine k_eqs ?_ | with_reducible refine k_nes ?_ | with_reducible refine k_neg ?_ | with_reducible refine b_abs ?_ | with_reducible refine b_strs ?_ | with_reducible refine b_inti ?_ | with_reducible refine b_intb ?_ | with_reducible refine b_max2 ?_ | with_reducible refine b_min2 ?_ | with_reducible refine bl_k ?_ | with_reducible refine str_k ?_ | with_reducible refine br_t ?_ | with_reducible refine br_f ?_ | with_reducible refine o_no ?_ | with_reducible refine l_nx ?_ | with_reducible refine l_ct ?_ | with_reducible refine l_brk ?_ | with_reducible refine l_ret ?_ | with_reducible refine s_sx ?_ | with_reducible refine s_sf ?_ | with_reducible refine okv ?_ | with_reducible refine v_eqi ?_ | with_reducible refine v_inNo ?_ | with_reducible refine v_isi ?_ | with_reducible refine v_lm ?_ | with_reducible refine t_ext ?_ | with_reducible refine s_tr ?_ | ((with_reducible refine v_tup ?_ ?_); exact rfl) | ((with_reducible refine v_lst ?_ ?_); exact rfl) | ((with_reducible refine v_newl ?_ ?_); exact rfl) | ((with_reducible refine k_pow ?_ ?_); exact rfl)))
  refine nums_w (k := k + 2) F hw (by omega) fun l S2 hl hb hw2 => ?_
  (repeat (first | ((with_reducible refine v_varK ?_); refine varK ?_) | ((with_reducible refine t_varK ?_); refine varK ?_) | with_reducible refine s_cons ?_ | with_reducible refine q_nx ?_ | with_reducible refine q_ret ?_ | with_reducible refine q_brk ?_ | with_reducible refine q_cont ?_ | with_reducible refine r_nx ?_ | with_reducible refine r_ret ?_ | with_reducible refine s_nil ?_ | with_reducible refine s_pass ?_ | with_reducible refine s_brk ?_ | with_reducible refine s_cont ?_ | with_reducible refine s_retN ?_ | with_reducible refine s_exv ?_ | with_reducible refine s_rt ?_ | with_reducible refine s_ifs ?_ | with_reducible refine s_st ?_ | with_reducible refine s_stc ?_ | with_reducible refine s_as ?_ | with_reducible refine s_pr ?_ | with_reducible refine s_fr ?_ | with_reducible refine v_int ?_ | with_reducible refine v_bl ?_ | with_reducible refine v_non ?_ | with_reducible refine v_str ?_ | with_reducible refine v_op ?_ | with_reducible refine v_cmp ?_ | with_reducible refine v_neg ?_ | with_reducible refine v_fld ?_ | with_reducible refine v_rev ?_ | with_reducible refine v_not ?_ | with_reducible refine v_and ?_ | with_reducible refine v_or ?_ | with_reducible refine v_ite ?_ | with_reducible refine l_nil ?_ | with_reducible refine l_cons ?_ | with_reducible refine v_blt ?_ | with_reducible refine v_call ?_ | with_reducible refine v_mkF ?_ | with_reducible refine v_idx ?_ | with_reducible refine v_slc ?_ | with_reducible refine v_join ?_ | with_reducible refine v_fmt ?_ | with_reducible refine j_nil ?_ | with_reducible refine j_cons ?_ | with_reducible refine v_joined ?_ | with_reducible refine v_comp ?_ | with_reducible refine r_seq ?_ | with_reducible refine r_rng1 ?_ | with_reducible refine r_rng2 ?_ | with_reducible refine t_not ?_ | with_reducible refine t_and ?_ | with_reducible refine t_or ?_ | with_reducible refine t_cmp ?_ | with_reducible refine t_bl ?_ | with_reducible refine t_call ?_ | with_reducible refine t_fld ?_ | with_reducible refine t_idx ?_ | with_reducible refine t_blt ?_ | with_reducible refine c_no ?_ | with_reducible refine c_yes ?_ | with_reducible refine k_add ?_ | with_reducible refine k_sub ?_ | with_reducible refine k_lt ?_ | with_reducible refine k_le ?_ | with_reducible refine k_gt ?_ | with_reducible refine k_ge ?_ | with_reducible refine k_eqi ?_ | with_reducible refine k_nei ?_ | with_reducible refine k_eqs ?_ | with_reducible refine k_nes ?_ | with_reducible refine k_neg ?_ | with_reducible refine b_abs ?_ | with_reducible refine b_strs ?_ | with_reducible refine b_inti ?_ | with_reducible refine b_intb ?_ | with_reducible refine b_max2 ?_ | with_reducible refine b_min2 ?_ | with_reducible refine bl_k ?_ | with_reducible refine str_k ?_ | with_reducible refine br_t ?_ | with_reducible refine br_f ?_ | with_reducible refine o_no ?_ | with_reducible refine l_nx ?_ | with_reducible refine l_ct ?_ | with_reducible refine l_brk ?_ | with_reducible refine l_ret ?_ | with_reducible refine s_sx ?_ | with_reducible refine s_sf ?_ | with_reducible refine okv ?_ | with_reducible refine v_eqi ?_ | with_reducible refine v_inNo ?_ | with_reducible refine v_isi ?_ | with_reducible refine v_lm ?_ | with_reducible refine t_ext ?_ | with_reducible refine s_tr ?_ | ((with_reducible refine v_tup ?_ ?_); exact rfl) | ((with_reducible refine v_lst ?_ ?_); exact rfl) | ((with_reducible refine v_newl ?_ ?_); exact rfl) | ((with_reducible refine k_pow ?_ ?_); exact rfl)))
  refine draw_w (k := k + 4) F.f201 hw2 (by omega) (by decide) (by decide) fun r w r1 r2 hw3 => ?_
  (repeat (first | ((with_reducible refine v_varK ?_); refine varK ?_) | ((with_reducible refine t_varK ?_); refine varK ?_) | with_reducible refine s_cons ?_ | with_reducible refine q_nx ?_ | with_reducible refine q_ret ?_ | with_reducible refine q_brk ?_ | with_reducible refine q_cont ?_ | with_reducible refine r_nx ?_ | with_reducible refine r_ret ?_ | with_reducible refine s_nil ?_ | with_reducible refine s_pass ?_ | with_reducible refine s_brk ?_ | with_reducible refine s_cont ?_ | with_reducible refine s_retN ?_ | with_reducible refine s_exv ?_ | with_reducible refine s_rt ?_ | with_reducible refine s_ifs ?_ | with_reducible refine s_st ?_ | with_reducible refine s_stc ?_ | with_reducible refine s_as ?_ | with_reducible refine s_pr ?_ | with_reducible refine s_fr ?_ | with_reducible refine v_int ?_ | with_reducible refine v_bl ?_ | with_reducible refine v_non ?_ | with_reducible refine v_str ?_ | with_reducible refine v_op ?_ | with_reducible refine v_cmp ?_ | with_reducible refine v_neg ?_ | with_reducible refine v_fld ?_ | with_reducible refine v_rev ?_ | with_reducible refine v_not ?_ | with_reducible refine v_and ?_ | with_reducible refine v_or ?_ | with_reducible refine v_ite ?_ | with_reducible refine l_nil ?_ | with_reducible refine l_cons ?_ | with_reducible refine v_blt ?_ | with_reducible refine v_call ?_ | with_reducible refine v_mkF ?_ | with_reducible refine v_idx ?_ | with_reducible refine v_slc ?_ | with_reducible refine v_join ?_ | with_reducible refine v_fmt ?_ | with_reducible refine j_nil ?_ | with_reducible refine j_cons ?_ | with_reducible refine v_joined ?_ | with_reducible refine v_comp ?_ | with_reducible refine r_seq ?_ | with_reducible refine r_rng1 ?_ | with_reducible refine r_rng2 ?_ | with_reducible refine t_not ?_ | with_reducible refine t_and ?_ | with_reducible refine t_or ?_ | with_reducible refine t_cmp ?_ | with_reducible refine t_bl ?_ | with_reducible refine t_call ?_ | with_reducible refine t_fld ?_ | with_reducible refine t_idx ?_ | with_reducible refine t_blt ?_ | with_reducible refine c_no ?_ | with_reducible refine c_yes ?_ | with_reducible refine k_add ?_ | with_reducible refine k_sub ?_ | with_reducible refine k_lt ?_ | with_reducible refine k_le ?_ | with_reducible refine k_gt ?_ | with_reducible refine k_ge ?_ | with_reducible refine k_eqi ?_ | with_reducible refine k_nei ?_ | with_reducible refine k_eqs ?_ | with_reducible refine k_nes ?_ | with_reducible refine k_neg ?_ | with_reducible refine b_abs ?_ | with_reducible refine b_strs ?_ | with_reducible refine b_inti ?_ | with_reducible refine b_intb ?_ | with_reducible refine b_max2 ?_ | with_reducible refine b_min2 ?_ | with_reducible refine bl_k ?_ | with_reducible refine str_k ?_ | with_reducible refine br_t ?_ | with_reducible refine br_f ?_ | with_reducible refine o_no ?_ | with_reducible refine l_nx ?_ | with_reducible refine l_ct ?_ | with_reducible refine l_brk ?_ | with_reducible refine l_ret ?_ | with_reducible refine s_sx ?_ | with_reducible refine s_sf ?_ | with_reducible refine okv ?_ | with_reducible refine v_eqi ?_ | with_reducible refine v_inNo ?_ | with_reducible refine v_isi ?_ | with_reducible refine v_lm ?_ | with_reducible refine t_ext ?_ | with_reducible refine s_tr ?_ | ((with_reducible refine v_tup ?_ ?_); exact rfl) | ((with_reducible refine v_lst ?_ ?_); exact rfl) | ((with_reducible refine v_newl ?_ ?_); exact rfl) | ((with_reducible refine k_pow ?_ ?_); exact rfl)))
  refine one_w (k := k + 3) F.f201 F.f202 hw3 (by omega) (by simp) (by simp) fun d w1 hd hw4 => ?_
  obtain ⟨p, rfl, hp0, hp1⟩ := allI_mem (p := fun a => 0 < a ∧ a.natAbs < 2 ^ 90) hd ⟨by decide, by decide, by decide, by decide, by decide, by decide +kernel, by omega, trivial⟩
  obtain ⟨p, rfl⟩ := Int.eq_ofNat_of_zero_le (Int.le_of_lt hp0)
  have hp : 0 < p := by omega
  rw [Int.natAbs_natCast] at hp1
  have lp := log2_lt hp1 (by decide)
  generalize hS3 : (List.set (List.set S2 id w) id w1) = S3 at hw4
  (repeat (first | ((with_reducible refine v_varK ?_); refine varK ?_) | ((with_reducible refine t_varK ?_); refine varK ?_) | with_reducible refine s_cons ?_ | with_reducible refine q_nx ?_ | with_reducible refine q_ret ?_ | with_reducible refine q_brk ?_ | with_reducible refine q_cont ?_ | with_reducible refine r_nx ?_ | with_reducible refine r_ret ?_ | with_reducible refine s_nil ?_ | with_reducible refine s_pass ?_ | with_reducible refine s_brk ?_ | with_reducible refine s_cont ?_ | with_reducible refine s_retN ?_ | with_reducible refine s_exv ?_ | with_reducible refine s_rt ?_ | with_reducible refine s_ifs ?_ | with_reducible refine s_st ?_ | with_reducible refine s_stc ?_ | with_reducible refine s_as ?_ | with_reducible refine s_pr ?_ | with_reducible refine s_fr ?_ | with_reducible refine v_int ?_ | with_reducible refine v_bl ?_ | with_reducible refine v_non ?_ | with_reducible refine v_str ?_ | with_reducible refine v_op ?_ | with_reducible refine v_cmp ?_ | with_reducible refine v_neg ?_ | with_reducible refine v_fld ?_ | with_reducible refine v_rev ?_ | with_reducible refine v_not ?_ | with_reducible refine v_and ?_ | with_reducible refine v_or ?_ | with_reducible refine v_ite ?_ | with_reducible refine l_nil ?_ | with_reducible refine l_cons ?_ | with_reducible refine v_blt ?_ | with_reducible refine v_call ?_ | with_reducible refine v_mkF ?_ | with_reducible refine v_idx ?_ | with_reducible refine v_slc ?_ | with_reducible refine v_join ?_ | with_reducible refine v_fmt ?_ | with_reducible refine j_nil ?_ | with_reducible refine j_cons ?_ | with_reducible refine v_joined ?_ | with_reducible refine v_comp ?_ | with_reducible refine r_seq ?_ | with_reducible refine r_rng1 ?_ | with_reducible refine r_rng2 ?_ | with_reducible refine t_not ?_ | with_reducible refine t_and ?_ | with_reducible refine t_or ?_ | with_reducible refine t_cmp ?_ | with_reducible refine t_bl ?_ | with_reducible refine t_call ?_ | with_reducible refine t_fld ?_ | with_reducible refine t_idx ?_ | with_reducible refine t_blt ?_ | with_reducible refine c_no ?_ | with_reducible refine c_yes ?_ | with_reducible refine k_add ?_ | with_reducible refine k_sub ?_ | with_reducible refine k_lt ?_ | with_reducible refine k_le ?_ | with_reducible refine k_gt ?_ | with_reducible refine k_ge ?_ | with_reducible refine k_eqi ?_ | with_reducible refine k_nei ?_ | with_reducible refine k_eqs ?_ | with_reducible refine k_nes ?_ | with_reducible refine k_neg ?_ | with_reducible refine b_abs ?_ | with_reducible refine b_strs ?_ | with_reducible refine b_inti ?_ | with_reducible refine b_intb ?_ | with_reducible refine b_max2 ?_ | with_reducible refine b_min2 ?_ | with_reducible refine bl_k ?_ | with_reducible refine str_k ?_ | with_reducible refine br_t ?_ | with_reducible refine br_f ?_ | with_reducible refine o_no ?_ | with_reducible refine l_nx ?_ | with_reducible refine l_ct ?_ | with_reducible refine l_brk ?_ | with_reducible refine l_ret ?_ | with_reducible refine s_sx ?_ | with_reducible refine s_sf ?_ | with_reducible refine okv ?_ | with_reducible refine v_eqi ?_ | with_reducible refine v_inNo ?_ | with_reducible refine v_isi ?_ | with_reducible refine v_lm ?_ | with_reducible refine t_ext ?_ | with_reducible refine s_tr ?_ | ((with_reducible refine v_tup ?_ ?_); exact rfl) | ((with_reducible refine v_lst ?_ ?_); exact rfl) | ((with_reducible refine v_newl ?_ ?_); exact rfl) | ((with_reducible refine k_pow ?_ ?_); exact rfl)))
  refine b_listN (ds := iL l) rfl ?_
  (repeat (first | ((with_reducible refine v_varK ?_); refine varK ?_) | ((with_reducible refine t_varK ?_); refine varK ?_) | with_reducible refine s_cons ?_ | with_reducible refine q_nx ?_ | with_reducible refine q_ret ?_ | with_reducible refine q_brk ?_ | with_reducible refine q_cont ?_ | with_reducible refine r_nx ?_ | with_reducible refine r_ret ?_ | with_reducible refine s_nil ?_ | with_reducible refine s_pass ?_ | with_reducible refine s_brk ?_ | with_reducible refine s_cont ?_ | with_reducible refine s_retN ?_ | with_reducible refine s_exv ?_ | with_reducible refine s_rt ?_ | with_reducible refine s_ifs ?_ | with_reducible refine s_st ?_ | with_reducible refine s_stc ?_ | with_reducible refine s_as ?_ | with_reducible refine s_pr ?_ | with_reducible refine s_fr ?_ | with_reducible refine v_int ?_ | with_reducible refine v_bl ?_ | with_reducible refine v_non ?_ | with_reducible refine v_str ?_ | with_reducible refine v_op ?_ | with_reducible refine v_cmp ?_ | with_reducible refine v_neg ?_ | with_reducible refine v_fld ?_ | with_reducible refine v_rev ?_ | with_reducible refine v_not ?_ | with_reducible refine v_and ?_ | with_reducible refine v_or ?_ | with_reducible refine v_ite ?_ | with_reducible refine l_nil ?_ | with_reducible refine l_cons ?_ | with_reducible refine v_blt ?_ | with_reducible refine v_call ?_ | with_reducible refine v_mkF ?_ | with_reducible refine v_idx ?_ | with_reducible refine v_slc ?_ | with_reducible refine v_join ?_ | with_reducible refine v_fmt ?_ | with_reducible refine j_nil ?_ | with_reducible refine j_cons ?_ | with_reducible refine v_joined ?_ | with_reducible refine v_comp ?_ | with_reducible refine r_seq ?_ | with_reducible refine r_rng1 ?_ | with_reducible refine r_rng2 ?_ | with_reducible refine t_not ?_ | with_reducible refine t_and ?_ | with_reducible refine t_or ?_ | with_reducible refine t_cmp ?_ | with_reducible refine t_bl ?_ | with_reducible refine t_call ?_ | with_reducible refine t_fld ?_ | with_reducible refine t_idx ?_ | with_reducible refine t_blt ?_ | with_reducible refine c_no ?_ | with_reducible refine c_yes ?_ | with_reducible refine k_add ?_ | with_reducible refine k_sub ?_ | with_reducible refine k_lt ?_ | with_reducible refine k_le ?_ | with_reducible refine k_gt ?_ | with_reducible refine k_ge ?_ | with_reducible refine k_eqi ?_ | with_reducible refine k_nei ?_ | with_reducible refine k_eqs ?_ | with_reducible refine k_nes ?_ | with_reducible refine k_neg ?_ | with_reducible refine b_abs ?_ | with_reducible refine b_strs ?_ | with_reducible refine b_inti ?_ | with_reducible refine b_intb ?_ | with_reducible refine b_max2 ?_ | with_reducible refine b_min2 ?_ | with_reducible refine bl_k ?_ | with_reducible refine str_k ?_ | with_reducible refine br_t ?_ | with_reducible refine br_f ?_ | with_reducible refine o_no ?_ | with_reducible refine l_nx ?_ | with_reducible refine l_ct ?_ | with_reducible refine l_brk ?_ | with_reducible refine l_ret ?_ | with_reducible refine s_sx ?_ | with_reducible refine s_sf ?_ | with_reducible refine okv ?_ | with_reducible refine v_eqi ?_ | with_reducible refine v_inNo ?_ | with_reducible refine v_isi ?_ | with_reducible refine v_lm ?_ | with_reducible refine t_ext ?_ | with_reducible refine s_tr ?_ | ((with_reducible refine v_tup ?_ ?_); exact rfl) | ((with_reducible refine v_lst ?_ ?_); exact rfl) | ((with_reducible refine v_newl ?_ ?_); exact rfl) | ((with_reducible refine k_pow ?_ ?_); exact rfl)))
  have hat : (S3 ++ [MO.lst (iL l)])[S3.length]? = some (.lst (iL l)) := at_new
  refine places_w (k := k + 2) F.toFPl (l := l) (p := p) (by show (match (S3 ++ [MO.lst (iL l)])[S3.length]? with | some (.lst ds) => some ds | _ => none) = _; rw [hat]) (by show (match (S3 ++ [MO.lst (iL l)])[S3.length]? with | some (.lst es) => D.beqs es (iL l) | _ => false) = true; rw [hat]; exact beqs_ints l) (by omega) hp (by omega) ?_
  (repeat (first | ((with_reducible refine v_varK ?_); refine varK ?_) | ((with_reducible refine t_varK ?_); refine varK ?_) | with_reducible refine s_cons ?_ | with_reducible refine q_nx ?_ | with_reducible refine q_ret ?_ | with_reducible refine q_brk ?_ | with_reducible refine q_cont ?_ | with_reducible refine r_nx ?_ | with_reducible refine r_ret ?_ | with_reducible refine s_nil ?_ | with_reducible refine s_pass ?_ | with_reducible refine s_brk ?_ | with_reducible refine s_cont ?_ | with_reducible refine s_retN ?_ | with_reducible refine s_exv ?_ | with_reducible refine s_rt ?_ | with_reducible refine s_ifs ?_ | with_reducible refine s_st ?_ | with_reducible refine s_stc ?_ | with_reducible refine s_as ?_ | with_reducible refine s_pr ?_ | with_reducible refine s_fr ?_ | with_reducible refine v_int ?_ | with_reducible refine v_bl ?_ | with_reducible refine v_non ?_ | with_reducible refine v_str ?_ | with_reducible refine v_op ?_ | with_reducible refine v_cmp ?_ | with_reducible refine v_neg ?_ | with_reducible refine v_fld ?_ | with_reducible refine v_rev ?_ | with_reducible refine v_not ?_ | with_reducible refine v_and ?_ | with_reducible refine v_or ?_ | with_reducible refine v_ite ?_ | with_reducible refine l_nil ?_ | with_reducible refine l_cons ?_ | with_reducible refine v_blt ?_ | with_reducible refine v_call ?_ | with_reducible refine v_mkF ?_ | with_reducible refine v_idx ?_ | with_reducible refine v_slc ?_ | with_reducible refine v_join ?_ | with_reducible refine v_fmt ?_ | with_reducible refine j_nil ?_ | with_reducible refine j_cons ?_ | with_reducible refine v_joined ?_ | with_reducible refine v_comp ?_ | with_reducible refine r_seq ?_ | with_reducible refine r_rng1 ?_ | with_reducible refine r_rng2 ?_ | with_reducible refine t_not ?_ | with_reducible refine t_and ?_ | with_reducible refine t_or ?_ | with_reducible refine t_cmp ?_ | with_reducible refine t_bl ?_ | with_reducible refine t_call ?_ | with_reducible refine t_fld ?_ | with_reducible refine t_idx ?_ | with_reducible refine t_blt ?_ | with_reducible refine c_no ?_ | with_reducible refine c_yes ?_ | with_reducible refine k_add ?_ | with_reducible refine k_sub ?_ | with_reducible refine k_lt ?_ | with_reducible refine k_le ?_ | with_reducible refine k_gt ?_ | with_reducible refine k_ge ?_ | with_reducible refine k_eqi ?_ | with_reducible refine k_nei ?_ | with_reducible refine k_eqs ?_ | with_reducible refine k_nes ?_ | with_reducible refine k_neg ?_ | with_reducible refine b_abs ?_ | with_reducible refine b_strs ?_ | with_reducible refine b_inti ?_ | with_reducible refine b_intb ?_ | with_reducible refine b_max2 ?_ | with_reducible refine b_min2 ?_ | with_reducible refine bl_k ?_ | with_reducible refine str_k ?_ | with_reducible refine br_t ?_ | with_reducible refine br_f ?_ | with_reducible refine o_no ?_ | with_reducible refine l_nx ?_ | with_reducible refine l_ct ?_ | with_reducible refine l_brk ?_ | with_reducible refine l_ret ?_ | with_reducible refine s_sx ?_ | with_reducible refine s_sf ?_ | with_reducible refine okv ?_ | with_reducible refine v_eqi ?_ | with_reducible refine v_inNo ?_ | with_reducible refine v_isi ?_ | with_reducible refine v_lm ?_ | with_reducible refine t_ext ?_ | with_reducible refine s_tr ?_ | ((with_reducible refine v_tup ?_ ?_); exact rfl) | ((with_reducible refine v_lst ?_ ?_); exact rfl) | ((with_reducible refine v_newl ?_ ?_); exact rfl) | ((with_reducible refine k_pow ?_ ?_); exact rfl)))
  have hne : S3.length ≠ id := fun q => by have := hw4.lt; omega
  have hlen5 : S3.length < (S3 ++ [MO.lst (iL l)]).length := by rw [List.length_append]; exact Nat.lt_succ_self _
  refine ⟨is_list hat, ?_⟩
  (repeat (first | ((with_reducible refine v_varK ?_); refine varK ?_) | ((with_reducible refine t_varK ?_); refine varK ?_) | with_reducible refine s_cons ?_ | with_reducible refine q_nx ?_ | with_reducible refine q_ret ?_ | with_reducible refine q_brk ?_ | with_reducible refine q_cont ?_ | with_reducible refine r_nx ?_ | with_reducible refine r_ret ?_ | with_reducible refine s_nil ?_ | with_reducible refine s_pass ?_ | with_reducible refine s_brk ?_ | with_reducible refine s_cont ?_ | with_reducible refine s_retN ?_ | with_reducible refine s_exv ?_ | with_reducible refine s_rt ?_ | with_reducible refine s_ifs ?_ | with_reducible refine s_st ?_ | with_reducible refine s_stc ?_ | with_reducible refine s_as ?_ | with_reducible refine s_pr ?_ | with_reducible refine s_fr ?_ | with_reducible refine v_int ?_ | with_reducible refine v_bl ?_ | with_reducible refine v_non ?_ | with_reducible refine v_str ?_ | with_reducible refine v_op ?_ | with_reducible refine v_cmp ?_ | with_reducible refine v_neg ?_ | with_reducible refine v_fld ?_ | with_reducible refine v_rev ?_ | with_reducible refine v_not ?_ | with_reducible refine v_and ?_ | with_reducible refine v_or ?_ | with_reducible refine v_ite ?_ | with_reducible refine l_nil ?_ | with_reducible refine l_cons ?_ | with_reducible refine v_blt ?_ | with_reducible refine v_call ?_ | with_reducible refine v_mkF ?_ | with_reducible refine v_idx ?_ | with_reducible refine v_slc ?_ | with_reducible refine v_join ?_ | with_reducible refine v_fmt ?_ | with_reducible refine j_nil ?_ | with_reducible refine j_cons ?_ | with_reducible refine v_joined ?_ | with_reducible refine v_comp ?_ | with_reducible refine r_seq ?_ | with_reducible refine r_rng1 ?_ | with_reducible refine r_rng2 ?_ | with_reducible refine t_not ?_ | with_reducible refine t_and ?_ | with_reducible refine t_or ?_ | with_reducible refine t_cmp ?_ | with_reducible refine t_bl ?_ | with_reducible refine t_call ?_ | with_reducible refine t_fld ?_ | with_reducible refine t_idx ?_ | with_reducible refine t_blt ?_ | with_reducible refine c_no ?_ | with_reducible refine c_yes ?_ | with_reducible refine k_add ?_ | with_reducible refine k_sub ?_ | with_reducible refine k_lt ?_ | with_reducible refine k_le ?_ | with_reducible refine k_gt ?_ | with_reducible refine k_ge ?_ | with_reducible refine k_eqi ?_ | with_reducible refine k_nei ?_ | with_reducible refine k_eqs ?_ | with_reducible refine k_nes ?_ | with_reducible refine k_neg ?_ | with_reducible refine b_abs ?_ | with_reducible refine b_strs ?_ | with_reducible refine b_inti ?_ | with_reducible refine b_intb ?_ | with_reducible refine b_max2 ?_ | with_reducible refine b_min2 ?_ | with_reducible refine bl_k ?_ | with_reducible refine str_k ?_ | with_reducible refine br_t ?_ | with_reducible refine br_f ?_ | with_reducible refine o_no ?_ | with_reducible refine l_nx ?_ | with_reducible refine l_ct ?_ | with_reducible refine l_brk ?_ | with_reducible refine l_ret ?_ | with_reducible refine s_sx ?_ | with_reducible refine s_sf ?_ | with_reducible refine okv ?_ | with_reducible refine v_eqi ?_ | with_reducible refine v_inNo ?_ | with_reducible refine v_isi ?_ | with_reducible refine v_lm ?_ | with_reducible refine t_ext ?_ | with_reducible refine s_tr ?_ | ((with_reducible refine v_tup ?_ ?_); exact rfl) | ((with_reducible refine v_lst ?_ ?_); exact rfl) | ((with_reducible refine v_newl ?_ ?_); exact rfl) | ((with_reducible refine k_pow ?_ ?_); exact rfl)))
  refine k_app hat (Nat.lt_of_le_of_lt (m := 6) (by rw [iL_len]; exact hl) (by decide)) ?_
  (repeat (first | ((with_reducible refine v_varK ?_); refine varK ?_) | ((with_reducible refine t_varK ?_); refine varK ?_) | with_reducible refine s_cons ?_ | with_reducible refine q_nx ?_ | with_reducible refine q_ret ?_ | with_reducible refine q_brk ?_ | with_reducible refine q_cont ?_ | with_reducible refine r_nx ?_ | with_reducible refine r_ret ?_ | with_reducible refine s_nil ?_ | with_reducible refine s_pass ?_ | with_reducible refine s_brk ?_ | with_reducible refine s_cont ?_ | with_reducible refine s_retN ?_ | with_reducible refine s_exv ?_ | with_reducible refine s_rt ?_ | with_reducible refine s_ifs ?_ | with_reducible refine s_st ?_ | with_reducible refine s_stc ?_ | with_reducible refine s_as ?_ | with_reducible refine s_pr ?_ | with_reducible refine s_fr ?_ | with_reducible refine v_int ?_ | with_reducible refine v_bl ?_ | with_reducible refine v_non ?_ | with_reducible refine v_str ?_ | with_reducible refine v_op ?_ | with_reducible refine v_cmp ?_ | with_reducible refine v_neg ?_ | with_reducible refine v_fld ?_ | with_reducible refine v_rev ?_ | with_reducible refine v_not ?_ | with_reducible refine v_and ?_ | with_reducible refine v_or ?_ | with_reducible refine v_ite ?_ | with_reducible refine l_nil ?_ | with_reducible refine l_cons ?_ | with_reducible refine v_blt ?_ | with_reducible refine v_call ?_ | with_reducible refine v_mkF ?_ | with_reducible refine v_idx ?_ | with_reducible refine v_slc ?_ | with_reducible refine v_join ?_ | with_reducible refine v_fmt ?_ | with_reducible refine j_nil ?_ | with_reducible refine j_cons ?_ | with_reducible refine v_joined ?_ | with_reducible refine v_comp ?_ | with_reducible refine r_seq ?_ | with_reducible refine r_rng1 ?_ | with_reducible refine r_rng2 ?_ | with_reducible refine t_not ?_ | with_reducible refine t_and ?_ | with_reducible refine t_or ?_ | with_reducible refine t_cmp ?_ | with_reducible refine t_bl ?_ | with_reducible refine t_call ?_ | with_reducible refine t_fld ?_ | with_reducible refine t_idx ?_ | with_reducible refine t_blt ?_ | with_reducible refine c_no ?_ | with_reducible refine c_yes ?_ | with_reducible refine k_add ?_ | with_reducible refine k_sub ?_ | with_reducible refine k_lt ?_ | with_reducible refine k_le ?_ | with_reducible refine k_gt ?_ | with_reducible refine k_ge ?_ | with_reducible refine k_eqi ?_ | with_reducible refine k_nei ?_ | with_reducible refine k_eqs ?_ | with_reducible refine k_nes ?_ | with_reducible refine k_neg ?_ | with_reducible refine b_abs ?_ | with_reducible refine b_strs ?_ | with_reducible refine b_inti ?_ | with_reducible refine b_intb ?_ | with_reducible refine b_max2 ?_ | with_reducible refine b_min2 ?_ | with_reducible refine bl_k ?_ | with_reducible refine str_k ?_ | with_reducible refine br_t ?_ | with_reducible refine br_f ?_ | with_reducible refine o_no ?_ | with_reducible refine l_nx ?_ | with_reducible refine l_ct ?_ | with_reducible refine l_brk ?_ | with_reducible refine l_ret ?_ | with_reducible refine s_sx ?_ | with_reducible refine s_sf ?_ | with_reducible refine okv ?_ | with_reducible refine v_eqi ?_ | with_reducible refine v_inNo ?_ | with_reducible refine v_isi ?_ | with_reducible refine v_lm ?_ | with_reducible refine t_ext ?_ | with_reducible refine s_tr ?_ | ((with_reducible refine v_tup ?_ ?_); exact rfl) | ((with_reducible refine v_lst ?_ ?_); exact rfl) | ((with_reducible refine v_newl ?_ ?_); exact rfl) | ((with_reducible refine k_pow ?_ ?_); exact rfl)))
  refine ⟨_, set_at (List.getElem?_set_self hlen5) (ix_zero (by rw [List.length_append]; exact Nat.succ_pos _)), ?_⟩
  have hw5 := ((hw4.app (m := MO.lst (iL l))).other (m := .lst (iL l ++ [D.int 5])) hne).other (m := .lst ((iL l ++ [D.int 5]).set 0 (D.int 77))) hne
  generalize ((S3 ++ [MO.lst (iL l)]).set S3.length (MO.lst (iL l ++ [D.int 5]))).set S3.length (MO.lst ((iL l ++ [D.int 5]).set 0 (D.int 77))) = S5 at hw5
  (repeat (first | ((with_reducible refine v_varK ?_); refine varK ?_) | ((with_reducible refine t_varK ?_); refine varK ?_) | with_reducible refine s_cons ?_ | with_reducible refine q_nx ?_ | with_reducible refine q_ret ?_ | with_reducible refine q_brk ?_ | with_reducible refine q_cont ?_ | with_reducible refine r_nx ?_ | with_reducible refine r_ret ?_ | with_reducible refine s_nil ?_ | with_reducible refine s_pass ?_ | with_reducible refine s_brk ?_ | with_reducible refine s_cont ?_ | with_reducible refine s_retN ?_ | with_reducible refine s_exv ?_ | with_reducible refine s_rt ?_ | with_reducible refine s_ifs ?_ | with_reducible refine s_st ?_ | with_reducible refine s_stc ?_ | with_reducible refine s_as ?_ | with_reducible refine s_pr ?_ | with_reducible refine s_fr ?_ | with_reducible refine v_int ?_ | with_reducible refine v_bl ?_ | with_reducible refine v_non ?_ | with_reducible refine v_str ?_ | with_reducible refine v_op ?_ | with_reducible refine v_cmp ?_ | with_reducible refine v_neg ?_ | with_reducible refine v_fld ?_ | with_reducible refine v_rev ?_ | with_reducible refine v_not ?_ | with_reducible refine v_and ?_ | with_reducible refine v_or ?_ | with_reducible refine v_ite ?_ | with_reducible refine l_nil ?_ | with_reducible refine l_cons ?_ | with_reducible refine v_blt ?_ | with_reducible refine v_call ?_ | with_reducible refine v_mkF ?_ | with_reducible refine v_idx ?_ | with_reducible refine v_slc ?_ | with_reducible refine v_join ?_ | with_reducible refine v_fmt ?_ | with_reducible refine j_nil ?_ | with_reducible refine j_cons ?_ | with_reducible refine v_joined ?_ | with_reducible refine v_comp ?_ | with_reducible refine r_seq ?_ | with_reducible refine r_rng1 ?_ | with_reducible refine r_rng2 ?_ | with_reducible refine t_not ?_ | with_reducible refine t_and ?_ | with_reducible refine t_or ?_ | with_reducible refine t_cmp ?_ | with_reducible refine t_bl ?_ | with_reducible refine t_call ?_ | with_reducible refine t_fld ?_ | with_reducible refine t_idx ?_ | with_reducible refine t_blt ?_ | with_reducible refine c_no ?_ | with_reducible refine c_yes ?_ | with_reducible refine k_add ?_ | with_reducible refine k_sub ?_ | with_reducible refine k_lt ?_ | with_reducible refine k_le ?_ | with_reducible refine k_gt ?_ | with_reducible refine k_ge ?_ | with_reducible refine k_eqi ?_ | with_reducible refine k_nei ?_ | with_reducible refine k_eqs ?_ | with_reducible refine k_nes ?_ | with_reducible refine k_neg ?_ | with_reducible refine b_abs ?_ | with_reducible refine b_strs ?_ | with_reducible refine b_inti ?_ | with_reducible refine b_intb ?_ | with_reducible refine b_max2 ?_ | with_reducible refine b_min2 ?_ | with_reducible refine bl_k ?_ | with_reducible refine str_k ?_ | with_reducible refine br_t ?_ | with_reducible refine br_f ?_ | with_reducible refine o_no ?_ | with_reducible refine l_nx ?_ | with_reducible refine l_ct ?_ | with_reducible refine l_brk ?_ | with_reducible refine l_ret ?_ | with_reducible refine s_sx ?_ | with_reducible refine s_sf ?_ | with_reducible refine okv ?_ | with_reducible refine v_eqi ?_ | with_reducible refine v_inNo ?_ | with_reducible refine v_isi ?_ | with_reducible refine v_lm ?_ | with_reducible refine t_ext ?_ | with_reducible refine s_tr ?_ | ((with_reducible refine v_tup ?_ ?_); exact rfl) | ((with_reducible refine v_lst ?_ ?_); exact rfl) | ((with_reducible refine v_newl ?_ ?_); exact rfl) | ((with_reducible refine k_pow ?_ ?_); exact rfl)))
  refine k_addl (Nat.le_trans (m := 7) (by rw [iL_len]; exact Nat.succ_le_succ hl) (by decide)) ?_
  rw [iL_app]
  (repeat (first | ((with_reducible refine v_varK ?_); refine varK ?_) | ((with_reducible refine t_varK ?_); refine varK ?_) | with_reducible refine s_cons ?_ | with_reducible refine q_nx ?_ | with_reducible refine q_ret ?_ | with_reducible refine q_brk ?_ | with_reducible refine q_cont ?_ | with_reducible refine r_nx ?_ | with_reducible refine r_ret ?_ | with_reducible refine s_nil ?_ | with_reducible refine s_pass ?_ | with_reducible refine s_brk ?_ | with_reducible refine s_cont ?_ | with_reducible refine s_retN ?_ | with_reducible refine s_exv ?_ | with_reducible refine s_rt ?_ | with_reducible refine s_ifs ?_ | with_reducible refine s_st ?_ | with_reducible refine s_stc ?_ | with_reducible refine s_as ?_ | with_reducible refine s_pr ?_ | with_reducible refine s_fr ?_ | with_reducible refine v_int ?_ | with_reducible refine v_bl ?_ | with_reducible refine v_non ?_ | with_reducible refine v_str ?_ | with_reducible refine v_op ?_ | with_reducible refine v_cmp ?_ | with_reducible refine v_neg ?_ | with_reducible refine v_fld ?_ | with_reducible refine v_rev ?_ | with_reducible refine v_not ?_ | with_reducible refine v_and ?_ | with_reducible refine v_or ?_ | with_reducible refine v_ite ?_ | with_reducible refine l_nil ?_ | with_reducible refine l_cons ?_ | with_reducible refine v_blt ?_ | with_reducible refine v_call ?_ | with_reducible refine v_mkF ?_ | with_reducible refine v_idx ?_ | with_reducible refine v_slc ?_ | with_reducible refine v_join ?_ | with_reducible refine v_fmt ?_ | with_reducible refine j_nil ?_ | with_reducible refine j_cons ?_ | with_reducible refine v_joined ?_ | with_reducible refine v_comp ?_ | with_reducible refine r_seq ?_ | with_reducible refine r_rng1 ?_ | with_reducible refine r_rng2 ?_ | with_reducible refine t_not ?_ | with_reducible refine t_and ?_ | with_reducible refine t_or ?_ | with_reducible refine t_cmp ?_ | with_reducible refine t_bl ?_ | with_reducible refine t_call ?_ | with_reducible refine t_fld ?_ | with_reducible refine t_idx ?_ | with_reducible refine t_blt ?_ | with_reducible refine c_no ?_ | with_reducible refine c_yes ?_ | with_reducible refine k_add ?_ | with_reducible refine k_sub ?_ | with_reducible refine k_lt ?_ | with_reducible refine k_le ?_ | with_reducible refine k_gt ?_ | with_reducible refine k_ge ?_ | with_reducible refine k_eqi ?_ | with_reducible refine k_nei ?_ | with_reducible refine k_eqs ?_ | with_reducible refine k_nes ?_ | with_reducible refine k_neg ?_ | with_reducible refine b_abs ?_ | with_reducible refine b_strs ?_ | with_reducible refine b_inti ?_ | with_reducible refine b_intb ?_ | with_reducible refine b_max2 ?_ | with_reducible refine b_min2 ?_ | with_reducible refine bl_k ?_ | with_reducible refine str_k ?_ | with_reducible refine br_t ?_ | with_reducible refine br_f ?_ | with_reducible refine o_no ?_ | with_reducible refine l_nx ?_ | with_reducible refine l_ct ?_ | with_reducible refine l_brk ?_ | with_reducible refine l_ret ?_ | with_reducible refine s_sx ?_ | with_reducible refine s_sf ?_ | with_reducible refine okv ?_ | with_reducible refine v_eqi ?_ | with_reducible refine v_inNo ?_ | with_reducible refine v_isi ?_ | with_reducible refine v_lm ?_ | with_reducible refine t_ext ?_ | with_reducible refine s_tr ?_ | ((with_reducible refine v_tup ?_ ?_); exact rfl) | ((with_reducible refine v_lst ?_ ?_); exact rfl) | ((with_reducible refine v_newl ?_ ?_); exact rfl) | ((with_reducible refine k_pow ?_ ?_); exact rfl)))
  refine W_of (common_ok (k := k + 4) F.f204 (l ++ [(p : Int)])) ?_
  have gp := gd_pos (l := l) hp
  have gl := gd_le (l := l) hp
  have gz : (gd l p).log2 < 9000 := by have := log2_le gl (by omega); omega
  have okd : ∀ x : Int, okDiv x (gcds (l ++ [(p : Int)]) : Nat) = true := fun x => okDiv_of gp (Nat.lt_of_le_of_lt gl (Nat.lt_of_lt_of_le hp1 (by decide)))
  (repeat (first | ((with_reducible refine v_varK ?_); refine varK ?_) | ((with_reducible refine t_varK ?_); refine varK ?_) | with_reducible refine s_cons ?_ | with_reducible refine q_nx ?_ | with_reducible refine q_ret ?_ | with_reducible refine q_brk ?_ | with_reducible refine q_cont ?_ | with_reducible refine r_nx ?_ | with_reducible refine r_ret ?_ | with_reducible refine s_nil ?_ | with_reducible refine s_pass ?_ | with_reducible refine s_brk ?_ | with_reducible refine s_cont ?_ | with_reducible refine s_retN ?_ | with_reducible refine s_exv ?_ | with_reducible refine s_rt ?_ | with_reducible refine s_ifs ?_ | with_reducible refine s_st ?_ | with_reducible refine s_stc ?_ | with_reducible refine s_as ?_ | with_reducible refine s_pr ?_ | with_reducible refine s_fr ?_ | with_reducible refine v_int ?_ | with_reducible refine v_bl ?_ | with_reducible refine v_non ?_ | with_reducible refine v_str ?_ | with_reducible refine v_op ?_ | with_reducible refine v_cmp ?_ | with_reducible refine v_neg ?_ | with_reducible refine v_fld ?_ | with_reducible refine v_rev ?_ | with_reducible refine v_not ?_ | with_reducible refine v_and ?_ | with_reducible refine v_or ?_ | with_reducible refine v_ite ?_ | with_reducible refine l_nil ?_ | with_reducible refine l_cons ?_ | with_reducible refine v_blt ?_ | with_reducible refine v_call ?_ | with_reducible refine v_mkF ?_ | with_reducible refine v_idx ?_ | with_reducible refine v_slc ?_ | with_reducible refine v_join ?_ | with_reducible refine v_fmt ?_ | with_reducible refine j_nil ?_ | with_reducible refine j_cons ?_ | with_reducible refine v_joined ?_ | with_reducible refine v_comp ?_ | with_reducible refine r_seq ?_ | with_reducible refine r_rng1 ?_ | with_reducible refine r_rng2 ?_ | with_reducible refine t_not ?_ | with_reducible refine t_and ?_ | with_reducible refine t_or ?_ | with_reducible refine t_cmp ?_ | with_reducible refine t_bl ?_ | with_reducible refine t_call ?_ | with_reducible refine t_fld ?_ | with_reducible refine t_idx ?_ | with_reducible refine t_blt ?_ | with_reducible refine c_no ?_ | with_reducible refine c_yes ?_ | with_reducible refine k_add ?_ | with_reducible refine k_sub ?_ | with_reducible refine k_lt ?_ | with_reducible refine k_le ?_ | with_reducible refine k_gt ?_ | with_reducible refine k_ge ?_ | with_reducible refine k_eqi ?_ | with_reducible refine k_nei ?_ | with_reducible refine k_eqs ?_ | with_reducible refine k_nes ?_ | with_reducible refine k_neg ?_ | with_reducible refine b_abs ?_ | with_reducible refine b_strs ?_ | with_reducible refine b_inti ?_ | with_reducible refine b_intb ?_ | with_reducible refine b_max2 ?_ | with_reducible refine b_min2 ?_ | with_reducible refine bl_k ?_ | with_reducible refine str_k ?_ | with_reducible refine br_t ?_ | with_reducible refine br_f ?_ | with_reducible refine o_no ?_ | with_reducible refine l_nx ?_ | with_reducible refine l_ct ?_ | with_reducible refine l_brk ?_ | with_reducible refine l_ret ?_ | with_reducible refine s_sx ?_ | with_reducible refine s_sf ?_ | with_reducible refine okv ?_ | with_reducible refine v_eqi ?_ | with_reducible refine v_inNo ?_ | with_reducible refine v_isi ?_ | with_reducible refine v_lm ?_ | with_reducible refine t_ext ?_ | with_reducible refine s_tr ?_ | ((with_reducible refine v_tup ?_ ?_); exact rfl) | ((with_reducible refine v_lst ?_ ?_); exact rfl) | ((with_reducible refine v_newl ?_ ?_); exact rfl) | ((with_reducible refine k_pow ?_ ?_); exact rfl)))
  refine ⟨iL l, rfl, Nat.le_trans (m := 6) (by rw [iL_len]; exact hl) (by decide), ?_⟩
  refine comp_int (fun x => x.fdiv (gd l p : Nat)) rfl (fun x hx => ⟨_, rfl, ⟨rfl, rfl⟩, ?_⟩) ?_
  · (repeat (first | ((with_reducible refine v_varK ?_); refine varK ?_) | ((with_reducible refine t_varK ?_); refine varK ?_) | with_reducible refine s_cons ?_ | with_reducible refine q_nx ?_ | with_reducible refine q_ret ?_ | with_reducible refine q_brk ?_ | with_reducible refine q_cont ?_ | with_reducible refine r_nx ?_ | with_reducible refine r_ret ?_ | with_reducible refine s_nil ?_ | with_reducible refine s_pass ?_ | with_reducible refine s_brk ?_ | with_reducible refine s_cont ?_ | with_reducible refine s_retN ?_ | with_reducible refine s_exv ?_ | with_reducible refine s_rt ?_ | with_reducible refine s_ifs ?_ | with_reducible refine s_st ?_ | with_reducible refine s_stc ?_ | with_reducible refine s_as ?_ | with_reducible refine s_pr ?_ | with_reducible refine s_fr ?_ | with_reducible refine v_int ?_ | with_reducible refine v_bl ?_ | with_reducible refine v_non ?_ | with_reducible refine v_str ?_ | with_reducible refine v_op ?_ | with_reducible refine v_cmp ?_ | with_reducible refine v_neg ?_ | with_reducible refine v_fld ?_ | with_reducible refine v_rev ?_ | with_reducible refine v_not ?_ | with_reducible refine v_and ?_ | with_reducible refine v_or ?_ | with_reducible refine v_ite ?_ | with_reducible refine l_nil ?_ | with_reducible refine l_cons ?_ | with_reducible refine v_blt ?_ | with_reducible refine v_call ?_ | with_reducible refine v_mkF ?_ | with_reducible refine v_idx ?_ | with_reducible refine v_slc ?_ | with_reducible refine v_join ?_ | with_reducible refine v_fmt ?_ | with_reducible refine j_nil ?_ | with_reducible refine j_cons ?_ | with_reducible refine v_joined ?_ | with_reducible refine v_comp ?_ | with_reducible refine r_seq ?_ | with_reducible refine r_rng1 ?_ | with_reducible refine r_rng2 ?_ | with_reducible refine t_not ?_ | with_reducible refine t_and ?_ | with_reducible refine t_or ?_ | with_reducible refine t_cmp ?_ | with_reducible refine t_bl ?_ | with_reducible refine t_call ?_ | with_reducible refine t_fld ?_ | with_reducible refine t_idx ?_ | with_reducible refine t_blt ?_ | with_reducible refine c_no ?_ | with_reducible refine c_yes ?_ | with_reducible refine k_add ?_ | with_reducible refine k_sub ?_ | with_reducible refine k_lt ?_ | with_reducible refine k_le ?_ | with_reducible refine k_gt ?_ | with_reducible refine k_ge ?_ | with_reducible refine k_eqi ?_ | with_reducible refine k_nei ?_ | with_reducible refine k_eqs ?_ | with_reducible refine k_nes ?_ | with_reducible refine k_neg ?_ | with_reducible refine b_abs ?_ | with_reducible refine b_strs ?_ | with_reducible refine b_inti ?_ | with_reducible refine b_intb ?_ | with_reducible refine b_max2 ?_ | with_reducible refine b_min2 ?_ | with_reducible refine bl_k ?_ | with_reducible refine str_k ?_ | with_reducible refine br_t ?_ | with_reducible refine br_f ?_ | with_reducible refine o_no ?_ | with_reducible refine l_nx ?_ | with_reducible refine l_ct ?_ | with_reducible refine l_brk ?_ | with_reducible refine l_ret ?_ | with_reducible refine s_sx ?_ | with_reducible refine s_sf ?_ | with_reducible refine okv ?_ | with_reducible refine v_eqi ?_ | with_reducible refine v_inNo ?_ | with_reducible refine v_isi ?_ | with_reducible refine v_lm ?_ | with_reducible refine t_ext ?_ | with_reducible refine s_tr ?_ | ((with_reducible refine v_tup ?_ ?_); exact rfl) | ((with_reducible refine v_lst ?_ ?_); exact rfl) | ((with_reducible refine v_newl ?_ ?_); exact rfl) | ((with_reducible refine k_pow ?_ ?_); exact rfl)))
    refine k_fdiv (okd x) ?_
    exact ⟨rfl, rfl⟩
  (repeat (first | ((with_reducible refine v_varK ?_); refine varK ?_) | ((with_reducible refine t_varK ?_); refine varK ?_) | with_reducible refine s_cons ?_ | with_reducible refine q_nx ?_ | with_reducible refine q_ret ?_ | with_reducible refine q_brk ?_ | with_reducible refine q_cont ?_ | with_reducible refine r_nx ?_ | with_reducible refine r_ret ?_ | with_reducible refine s_nil ?_ | with_reducible refine s_pass ?_ | with_reducible refine s_brk ?_ | with_reducible refine s_cont ?_ | with_reducible refine s_retN ?_ | with_reducible refine s_exv ?_ | with_reducible refine s_rt ?_ | with_reducible refine s_ifs ?_ | with_reducible refine s_st ?_ | with_reducible refine s_stc ?_ | with_reducible refine s_as ?_ | with_reducible refine s_pr ?_ | with_reducible refine s_fr ?_ | with_reducible refine v_int ?_ | with_reducible refine v_bl ?_ | with_reducible refine v_non ?_ | with_reducible refine v_str ?_ | with_reducible refine v_op ?_ | with_reducible refine v_cmp ?_ | with_reducible refine v_neg ?_ | with_reducible refine v_fld ?_ | with_reducible refine v_rev ?_ | with_reducible refine v_not ?_ | with_reducible refine v_and ?_ | with_reducible refine v_or ?_ | with_reducible refine v_ite ?_ | with_reducible refine l_nil ?_ | with_reducible refine l_cons ?_ | with_reducible refine v_blt ?_ | with_reducible refine v_call ?_ | with_reducible refine v_mkF ?_ | with_reducible refine v_idx ?_ | with_reducible refine v_slc ?_ | with_reducible refine v_join ?_ | with_reducible refine v_fmt ?_ | with_reducible refine j_nil ?_ | with_reducible refine j_cons ?_ | with_reducible refine v_joined ?_ | with_reducible refine v_comp ?_ | with_reducible refine r_seq ?_ | with_reducible refine r_rng1 ?_ | with_reducible refine r_rng2 ?_ | with_reducible refine t_not ?_ | with_reducible refine t_and ?_ | with_reducible refine t_or ?_ | with_reducible refine t_cmp ?_ | with_reducible refine t_bl ?_ | with_reducible refine t_call ?_ | with_reducible refine t_fld ?_ | with_reducible refine t_idx ?_ | with_reducible refine t_blt ?_ | with_reducible refine c_no ?_ | with_reducible refine c_yes ?_ | with_reducible refine k_add ?_ | with_reducible refine k_sub ?_ | with_reducible refine k_lt ?_ | with_reducible refine k_le ?_ | with_reducible refine k_gt ?_ | with_reducible refine k_ge ?_ | with_reducible refine k_eqi ?_ | with_reducible refine k_nei ?_ | with_reducible refine k_eqs ?_ | with_reducible refine k_nes ?_ | with_reducible refine k_neg ?_ | with_reducible refine b_abs ?_ | with_reducible refine b_strs ?_ | with_reducible refine b_inti ?_ | with_reducible refine b_intb ?_ | with_reducible refine b_max2 ?_ | with_reducible refine b_min2 ?_ | with_reducible refine bl_k ?_ | with_reducible refine str_k ?_ | with_reducible refine br_t ?_ | with_reducible refine br_f ?_ | with_reducible refine o_no ?_ | with_reducible refine l_nx ?_ | with_reducible refine l_ct ?_ | with_reducible refine l_brk ?_ | with_reducible refine l_ret ?_ | with_reducible refine s_sx ?_ | with_reducible refine s_sf ?_ | with_reducible refine okv ?_ | with_reducible refine v_eqi ?_ | with_reducible refine v_inNo ?_ | with_reducible refine v_isi ?_ | with_reducible refine v_lm ?_ | with_reducible refine t_ext ?_ | with_reducible refine s_tr ?_ | ((with_reducible refine v_tup ?_ ?_); exact rfl) | ((with_reducible refine v_lst ?_ ?_); exact rfl) | ((with_reducible refine v_newl ?_ ?_); exact rfl) | ((with_reducible refine k_pow ?_ ?_); exact rfl)))
  refine b_tuple (ds := iL (nm l p)) rfl ?_
  (repeat (first | ((with_reducible refine v_varK ?_); refine varK ?_) | ((with_reducible refine t_varK ?_); refine varK ?_) | with_reducible refine s_cons ?_ | with_reducible refine q_nx ?_ | with_reducible refine q_ret ?_ | with_reducible refine q_brk ?_ | with_reducible refine q_cont ?_ | with_reducible refine r_nx ?_ | with_reducible refine r_ret ?_ | with_reducible refine s_nil ?_ | with_reducible refine s_pass ?_ | with_reducible refine s_brk ?_ | with_reducible refine s_cont ?_ | with_reducible refine s_retN ?_ | with_reducible refine s_exv ?_ | with_reducible refine s_rt ?_ | with_reducible refine s_ifs ?_ | with_reducible refine s_st ?_ | with_reducible refine s_stc ?_ | with_reducible refine s_as ?_ | with_reducible refine s_pr ?_ | with_reducible refine s_fr ?_ | with_reducible refine v_int ?_ | with_reducible refine v_bl ?_ | with_reducible refine v_non ?_ | with_reducible refine v_str ?_ | with_reducible refine v_op ?_ | with_reducible refine v_cmp ?_ | with_reducible refine v_neg ?_ | with_reducible refine v_fld ?_ | with_reducible refine v_rev ?_ | with_reducible refine v_not ?_ | with_reducible refine v_and ?_ | with_reducible refine v_or ?_ | with_reducible refine v_ite ?_ | with_reducible refine l_nil ?_ | with_reducible refine l_cons ?_ | with_reducible refine v_blt ?_ | with_reducible refine v_call ?_ | with_reducible refine v_mkF ?_ | with_reducible refine v_idx ?_ | with_reducible refine v_slc ?_ | with_reducible refine v_join ?_ | with_reducible refine v_fmt ?_ | with_reducible refine j_nil ?_ | with_reducible refine j_cons ?_ | with_reducible refine v_joined ?_ | with_reducible refine v_comp ?_ | with_reducible refine r_seq ?_ | with_reducible refine r_rng1 ?_ | with_reducible refine r_rng2 ?_ | with_reducible refine t_not ?_ | with_reducible refine t_and ?_ | with_reducible refine t_or ?_ | with_reducible refine t_cmp ?_ | with_reducible refine t_bl ?_ | with_reducible refine t_call ?_ | with_reducible refine t_fld ?_ | with_reducible refine t_idx ?_ | with_reducible refine t_blt ?_ | with_reducible refine c_no ?_ | with_reducible refine c_yes ?_ | with_reducible refine k_add ?_ | with_reducible refine k_sub ?_ | with_reducible refine k_lt ?_ | with_reducible refine k_le ?_ | with_reducible refine k_gt ?_ | with_reducible refine k_ge ?_ | with_reducible refine k_eqi ?_ | with_reducible refine k_nei ?_ | with_reducible refine k_eqs ?_ | with_reducible refine k_nes ?_ | with_reducible refine k_neg ?_ | with_reducible refine b_abs ?_ | with_reducible refine b_strs ?_ | with_reducible refine b_inti ?_ | with_reducible refine b_intb ?_ | with_reducible refine b_max2 ?_ | with_reducible refine b_min2 ?_ | with_reducible refine bl_k ?_ | with_reducible refine str_k ?_ | with_reducible refine br_t ?_ | with_reducible refine br_f ?_ | with_reducible refine o_no ?_ | with_reducible refine l_nx ?_ | with_reducible refine l_ct ?_ | with_reducible refine l_brk ?_ | with_reducible refine l_ret ?_ | with_reducible refine s_sx ?_ | with_reducible refine s_sf ?_ | with_reducible refine okv ?_ | with_reducible refine v_eqi ?_ | with_reducible refine v_inNo ?_ | with_reducible refine v_isi ?_ | with_reducible refine v_lm ?_ | with_reducible refine t_ext ?_ | with_reducible refine s_tr ?_ | ((with_reducible refine v_tup ?_ ?_); exact rfl) | ((with_reducible refine v_lst ?_ ?_); exact rfl) | ((with_reducible refine v_newl ?_ ?_); exact rfl) | ((with_reducible refine k_pow ?_ ?_); exact rfl)))
  refine k_fdiv (okd p) ?_
  have efp : (p : Int).fdiv (gcds (l ++ [(p : Int)]) : Nat) = ((pt l p : Nat) : Int) := fdiv_pt
  rw [efp]
  (repeat (first | ((with_reducible refine v_varK ?_); refine varK ?_) | ((with_reducible refine t_varK ?_); refine varK ?_) | with_reducible refine s_cons ?_ | with_reducible refine q_nx ?_ | with_reducible refine q_ret ?_ | with_reducible refine q_brk ?_ | with_reducible refine q_cont ?_ | with_reducible refine r_nx ?_ | with_reducible refine r_ret ?_ | with_reducible refine s_nil ?_ | with_reducible refine s_pass ?_ | with_reducible refine s_brk ?_ | with_reducible refine s_cont ?_ | with_reducible refine s_retN ?_ | with_reducible refine s_exv ?_ | with_reducible refine s_rt ?_ | with_reducible refine s_ifs ?_ | with_reducible refine s_st ?_ | with_reducible refine s_stc ?_ | with_reducible refine s_as ?_ | with_reducible refine s_pr ?_ | with_reducible refine s_fr ?_ | with_reducible refine v_int ?_ | with_reducible refine v_bl ?_ | with_reducible refine v_non ?_ | with_reducible refine v_str ?_ | with_reducible refine v_op ?_ | with_reducible refine v_cmp ?_ | with_reducible refine v_neg ?_ | with_reducible refine v_fld ?_ | with_reducible refine v_rev ?_ | with_reducible refine v_not ?_ | with_reducible refine v_and ?_ | with_reducible refine v_or ?_ | with_reducible refine v_ite ?_ | with_reducible refine l_nil ?_ | with_reducible refine l_cons ?_ | with_reducible refine v_blt ?_ | with_reducible refine v_call ?_ | with_reducible refine v_mkF ?_ | with_reducible refine v_idx ?_ | with_reducible refine v_slc ?_ | with_reducible refine v_join ?_ | with_reducible refine v_fmt ?_ | with_reducible refine j_nil ?_ | with_reducible refine j_cons ?_ | with_reducible refine v_joined ?_ | with_reducible refine v_comp ?_ | with_reducible refine r_seq ?_ | with_reducible refine r_rng1 ?_ | with_reducible refine r_rng2 ?_ | with_reducible refine t_not ?_ | with_reducible refine t_and ?_ | with_reducible refine t_or ?_ | with_reducible refine t_cmp ?_ | with_reducible refine t_bl ?_ | with_reducible refine t_call ?_ | with_reducible refine t_fld ?_ | with_reducible refine t_idx ?_ | with_reducible refine t_blt ?_ | with_reducible refine c_no ?_ | with_reducible refine c_yes ?_ | with_reducible refine k_add ?_ | with_reducible refine k_sub ?_ | with_reducible refine k_lt ?_ | with_reducible refine k_le ?_ | with_reducible refine k_gt ?_ | with_reducible refine k_ge ?_ | with_reducible refine k_eqi ?_ | with_reducible refine k_nei ?_ | with_reducible refine k_eqs ?_ | with_reducible refine k_nes ?_ | with_reducible refine k_neg ?_ | with_reducible refine b_abs ?_ | with_reducible refine b_strs ?_ | with_reducible refine b_inti ?_ | with_reducible refine b_intb ?_ | with_reducible refine b_max2 ?_ | with_reducible refine b_min2 ?_ | with_reducible refine bl_k ?_ | with_reducible refine str_k ?_ | with_reducible refine br_t ?_ | with_reducible refine br_f ?_ | with_reducible refine o_no ?_ | with_reducible refine l_nx ?_ | with_reducible refine l_ct ?_ | with_reducible refine l_brk ?_ | with_reducible refine l_ret ?_ | with_reducible refine s_sx ?_ | with_reducible refine s_sf ?_ | with_reducible refine okv ?_ | with_reducible refine v_eqi ?_ | with_reducible refine v_inNo ?_ | with_reducible refine v_isi ?_ | with_reducible refine v_lm ?_ | with_reducible refine t_ext ?_ | with_reducible refine s_tr ?_ | ((with_reducible refine v_tup ?_ ?_); exact rfl) | ((with_reducible refine v_lst ?_ ?_); exact rfl) | ((with_reducible refine v_newl ?_ ?_); exact rfl) | ((with_reducible refine k_pow ?_ ?_); exact rfl)))
  refine f_ins F.o1 rfl ?_
  (repeat (first | ((with_reducible refine v_varK ?_); refine varK ?_) | ((with_reducible refine t_varK ?_); refine varK ?_) | with_reducible refine s_cons ?_ | with_reducible refine q_nx ?_ | with_reducible refine q_ret ?_ | with_reducible refine q_brk ?_ | with_reducible refine q_cont ?_ | with_reducible refine r_nx ?_ | with_reducible refine r_ret ?_ | with_reducible refine s_nil ?_ | with_reducible refine s_pass ?_ | with_reducible refine s_brk ?_ | with_reducible refine s_cont ?_ | with_reducible refine s_retN ?_ | with_reducible refine s_exv ?_ | with_reducible refine s_rt ?_ | with_reducible refine s_ifs ?_ | with_reducible refine s_st ?_ | with_reducible refine s_stc ?_ | with_reducible refine s_as ?_ | with_reducible refine s_pr ?_ | with_reducible refine s_fr ?_ | with_reducible refine v_int ?_ | with_reducible refine v_bl ?_ | with_reducible refine v_non ?_ | with_reducible refine v_str ?_ | with_reducible refine v_op ?_ | with_reducible refine v_cmp ?_ | with_reducible refine v_neg ?_ | with_reducible refine v_fld ?_ | with_reducible refine v_rev ?_ | with_reducible refine v_not ?_ | with_reducible refine v_and ?_ | with_reducible refine v_or ?_ | with_reducible refine v_ite ?_ | with_reducible refine l_nil ?_ | with_reducible refine l_cons ?_ | with_reducible refine v_blt ?_ | with_reducible refine v_call ?_ | with_reducible refine v_mkF ?_ | with_reducible refine v_idx ?_ | with_reducible refine v_slc ?_ | with_reducible refine v_join ?_ | with_reducible refine v_fmt ?_ | with_reducible refine j_nil ?_ | with_reducible refine j_cons ?_ | with_reducible refine v_joined ?_ | with_reducible refine v_comp ?_ | with_reducible refine r_seq ?_ | with_reducible refine r_rng1 ?_ | with_reducible refine r_rng2 ?_ | with_reducible refine t_not ?_ | with_reducible refine t_and ?_ | with_reducible refine t_or ?_ | with_reducible refine t_cmp ?_ | with_reducible refine t_bl ?_ | with_reducible refine t_call ?_ | with_reducible refine t_fld ?_ | with_reducible refine t_idx ?_ | with_reducible refine t_blt ?_ | with_reducible refine c_no ?_ | with_reducible refine c_yes ?_ | with_reducible refine k_add ?_ | with_reducible refine k_sub ?_ | with_reducible refine k_lt ?_ | with_reducible refine k_le ?_ | with_reducible refine k_gt ?_ | with_reducible refine k_ge ?_ | with_reducible refine k_eqi ?_ | with_reducible refine k_nei ?_ | with_reducible refine k_eqs ?_ | with_reducible refine k_nes ?_ | with_reducible refine k_neg ?_ | with_reducible refine b_abs ?_ | with_reducible refine b_strs ?_ | with_reducible refine b_inti ?_ | with_reducible refine b_intb ?_ | with_reducible refine b_max2 ?_ | with_reducible refine b_min2 ?_ | with_reducible refine bl_k ?_ | with_reducible refine str_k ?_ | with_reducible refine br_t ?_ | with_reducible refine br_f ?_ | with_reducible refine o_no ?_ | with_reducible refine l_nx ?_ | with_reducible refine l_ct ?_ | with_reducible refine l_brk ?_ | with_reducible refine l_ret ?_ | with_reducible refine s_sx ?_ | with_reducible refine s_sf ?_ | with_reducible refine okv ?_ | with_reducible refine v_eqi ?_ | with_reducible refine v_inNo ?_ | with_reducible refine v_isi ?_ | with_reducible refine v_lm ?_ | with_reducible refine t_ext ?_ | with_reducible refine s_tr ?_ | ((with_reducible refine v_tup ?_ ?_); exact rfl) | ((with_reducible refine v_lst ?_ ?_); exact rfl) | ((with_reducible refine v_newl ?_ ?_); exact rfl) | ((with_reducible refine k_pow ?_ ?_); exact rfl)))
  refine f_ins F.o2 rfl ?_
  (repeat (first | ((with_reducible refine v_varK ?_); refine varK ?_) | ((with_reducible refine t_varK ?_); refine varK ?_) | with_reducible refine s_cons ?_ | with_reducible refine q_nx ?_ | with_reducible refine q_ret ?_ | with_reducible refine q_brk ?_ | with_reducible refine q_cont ?_ | with_reducible refine r_nx ?_ | with_reducible refine r_ret ?_ | with_reducible refine s_nil ?_ | with_reducible refine s_pass ?_ | with_reducible refine s_brk ?_ | with_reducible refine s_cont ?_ | with_reducible refine s_retN ?_ | with_reducible refine s_exv ?_ | with_reducible refine s_rt ?_ | with_reducible refine s_ifs ?_ | with_reducible refine s_st ?_ | with_reducible refine s_stc ?_ | with_reducible refine s_as ?_ | with_reducible refine s_pr ?_ | with_reducible refine s_fr ?_ | with_reducible refine v_int ?_ | with_reducible refine v_bl ?_ | with_reducible refine v_non ?_ | with_reducible refine v_str ?_ | with_reducible refine v_op ?_ | with_reducible refine v_cmp ?_ | with_reducible refine v_neg ?_ | with_reducible refine v_fld ?_ | with_reducible refine v_rev ?_ | with_reducible refine v_not ?_ | with_reducible refine v_and ?_ | with_reducible refine v_or ?_ | with_reducible refine v_ite ?_ | with_reducible refine l_nil ?_ | with_reducible refine l_cons ?_ | with_reducible refine v_blt ?_ | with_reducible refine v_call ?_ | with_reducible refine v_mkF ?_ | with_reducible refine v_idx ?_ | with_reducible refine v_slc ?_ | with_reducible refine v_join ?_ | with_reducible refine v_fmt ?_ | with_reducible refine j_nil ?_ | with_reducible refine j_cons ?_ | with_reducible refine v_joined ?_ | with_reducible refine v_comp ?_ | with_reducible refine r_seq ?_ | with_reducible refine r_rng1 ?_ | with_reducible refine r_rng2 ?_ | with_reducible refine t_not ?_ | with_reducible refine t_and ?_ | with_reducible refine t_or ?_ | with_reducible refine t_cmp ?_ | with_reducible refine t_bl ?_ | with_reducible refine t_call ?_ | with_reducible refine t_fld ?_ | with_reducible refine t_idx ?_ | with_reducible refine t_blt ?_ | with_reducible refine c_no ?_ | with_reducible refine c_yes ?_ | with_reducible refine k_add ?_ | with_reducible refine k_sub ?_ | with_reducible refine k_lt ?_ | with_reducible refine k_le ?_ | with_reducible refine k_gt ?_ | with_reducible refine k_ge ?_ | with_reducible refine k_eqi ?_ | with_reducible refine k_nei ?_ | with_reducible refine k_eqs ?_ | with_reducible refine k_nes ?_ | with_reducible refine k_neg ?_ | with_reducible refine b_abs ?_ | with_reducible refine b_strs ?_ | with_reducible refine b_inti ?_ | with_reducible refine b_intb ?_ | with_reducible refine b_max2 ?_ | with_reducible refine b_min2 ?_ | with_reducible refine bl_k ?_ | with_reducible refine str_k ?_ | with_reducible refine br_t ?_ | with_reducible refine br_f ?_ | with_reducible refine o_no ?_ | with_reducible refine l_nx ?_ | with_reducible refine l_ct ?_ | with_reducible refine l_brk ?_ | with_reducible refine l_ret ?_ | with_reducible refine s_sx ?_ | with_reducible refine s_sf ?_ | with_reducible refine okv ?_ | with_reducible refine v_eqi ?_ | with_reducible refine v_inNo ?_ | with_reducible refine v_isi ?_ | with_reducible refine v_lm ?_ | with_reducible refine t_ext ?_ | with_reducible refine s_tr ?_ | ((with_reducible refine v_tup ?_ ?_); exact rfl) | ((with_reducible refine v_lst ?_ ?_); exact rfl) | ((with_reducible refine v_newl ?_ ?_); exact rfl) | ((with_reducible refine k_pow ?_ ?_); exact rfl)))
  refine k_neP ?_
  (repeat (first | ((with_reducible refine v_varK ?_); refine varK ?_) | ((with_reducible refine t_varK ?_); refine varK ?_) | with_reducible refine s_cons ?_ | with_reducible refine q_nx ?_ | with_reducible refine q_ret ?_ | with_reducible refine q_brk ?_ | with_reducible refine q_cont ?_ | with_reducible refine r_nx ?_ | with_reducible refine r_ret ?_ | with_reducible refine s_nil ?_ | with_reducible refine s_pass ?_ | with_reducible refine s_brk ?_ | with_reducible refine s_cont ?_ | with_reducible refine s_retN ?_ | with_reducible refine s_exv ?_ | with_reducible refine s_rt ?_ | with_reducible refine s_ifs ?_ | with_reducible refine s_st ?_ | with_reducible refine s_stc ?_ | with_reducible refine s_as ?_ | with_reducible refine s_pr ?_ | with_reducible refine s_fr ?_ | with_reducible refine v_int ?_ | with_reducible refine v_bl ?_ | with_reducible refine v_non ?_ | with_reducible refine v_str ?_ | with_reducible refine v_op ?_ | with_reducible refine v_cmp ?_ | with_reducible refine v_neg ?_ | with_reducible refine v_fld ?_ | with_reducible refine v_rev ?_ | with_reducible refine v_not ?_ | with_reducible refine v_and ?_ | with_reducible refine v_or ?_ | with_reducible refine v_ite ?_ | with_reducible refine l_nil ?_ | with_reducible refine l_cons ?_ | with_reducible refine v_blt ?_ | with_reducible refine v_call ?_ | with_reducible refine v_mkF ?_ | with_reducible refine v_idx ?_ | with_reducible refine v_slc ?_ | with_reducible refine v_join ?_ | with_reducible refine v_fmt ?_ | with_reducible refine j_nil ?_ | with_reducible refine j_cons ?_ | with_reducible refine v_joined ?_ | with_reducible refine v_comp ?_ | with_reducible refine r_seq ?_ | with_reducible refine r_rng1 ?_ | with_reducible refine r_rng2 ?_ | with_reducible refine t_not ?_ | with_reducible refine t_and ?_ | with_reducible refine t_or ?_ | with_reducible refine t_cmp ?_ | with_reducible refine t_bl ?_ | with_reducible refine t_call ?_ | with_reducible refine t_fld ?_ | with_reducible refine t_idx ?_ | with_reducible refine t_blt ?_ | with_reducible refine c_no ?_ | with_reducible refine c_yes ?_ | with_reducible refine k_add ?_ | with_reducible refine k_sub ?_ | with_reducible refine k_lt ?_ | with_reducible refine k_le ?_ | with_reducible refine k_gt ?_ | with_reducible refine k_ge ?_ | with_reducible refine k_eqi ?_ | with_reducible refine k_nei ?_ | with_reducible refine k_eqs ?_ | with_reducible refine k_nes ?_ | with_reducible refine k_neg ?_ | with_reducible refine b_abs ?_ | with_reducible refine b_strs ?_ | with_reducible refine b_inti ?_ | with_reducible refine b_intb ?_ | with_reducible refine b_max2 ?_ | with_reducible refine b_min2 ?_ | with_reducible refine bl_k ?_ | with_reducible refine str_k ?_ | with_reducible refine br_t ?_ | with_reducible refine br_f ?_ | with_reducible refine o_no ?_ | with_reducible refine l_nx ?_ | with_reducible refine l_ct ?_ | with_reducible refine l_brk ?_ | with_reducible refine l_ret ?_ | with_reducible refine s_sx ?_ | with_reducible refine s_sf ?_ | with_reducible refine okv ?_ | with_reducible refine v_eqi ?_ | with_reducible refine v_inNo ?_ | with_reducible refine v_isi ?_ | with_reducible refine v_lm ?_ | with_reducible refine t_ext ?_ | with_reducible refine s_tr ?_ | ((with_reducible refine v_tup ?_ ?_); exact rfl) | ((with_reducible refine v_lst ?_ ?_); exact rfl) | ((with_reducible refine v_newl ?_ ?_); exact rfl) | ((with_reducible refine k_pow ?_ ?_); exact rfl)))
  refine br_no (by simp) ?_
  (repeat (first | ((with_reducible refine v_varK ?_); refine varK ?_) | ((with_reducible refine t_varK ?_); refine varK ?_) | with_reducible refine s_cons ?_ | with_reducible refine q_nx ?_ | with_reducible refine q_ret ?_ | with_reducible refine q_brk ?_ | with_reducible refine q_cont ?_ | with_reducible refine r_nx ?_ | with_reducible refine r_ret ?_ | with_reducible refine s_nil ?_ | with_reducible refine s_pass ?_ | with_reducible refine s_brk ?_ | with_reducible refine s_cont ?_ | with_reducible refine s_retN ?_ | with_reducible refine s_exv ?_ | with_reducible refine s_rt ?_ | with_reducible refine s_ifs ?_ | with_reducible refine s_st ?_ | with_reducible refine s_stc ?_ | with_reducible refine s_as ?_ | with_reducible refine s_pr ?_ | with_reducible refine s_fr ?_ | with_reducible refine v_int ?_ | with_reducible refine v_bl ?_ | with_reducible refine v_non ?_ | with_reducible refine v_str ?_ | with_reducible refine v_op ?_ | with_reducible refine v_cmp ?_ | with_reducible refine v_neg ?_ | with_reducible refine v_fld ?_ | with_reducible refine v_rev ?_ | with_reducible refine v_not ?_ | with_reducible refine v_and ?_ | with_reducible refine v_or ?_ | with_reducible refine v_ite ?_ | with_reducible refine l_nil ?_ | with_reducible refine l_cons ?_ | with_reducible refine v_blt ?_ | with_reducible refine v_call ?_ | with_reducible refine v_mkF ?_ | with_reducible refine v_idx ?_ | with_reducible refine v_slc ?_ | with_reducible refine v_join ?_ | with_reducible refine v_fmt ?_ | with_reducible refine j_nil ?_ | with_reducible refine j_cons ?_ | with_reducible refine v_joined ?_ | with_reducible refine v_comp ?_ | with_reducible refine r_seq ?_ | with_reducible refine r_rng1 ?_ | with_reducible refine r_rng2 ?_ | with_reducible refine t_not ?_ | with_reducible refine t_and ?_ | with_reducible refine t_or ?_ | with_reducible refine t_cmp ?_ | with_reducible refine t_bl ?_ | with_reducible refine t_call ?_ | with_reducible refine t_fld ?_ | with_reducible refine t_idx ?_ | with_reducible refine t_blt ?_ | with_reducible refine c_no ?_ | with_reducible refine c_yes ?_ | with_reducible refine k_add ?_ | with_reducible refine k_sub ?_ | with_reducible refine k_lt ?_ | with_reducible refine k_le ?_ | with_reducible refine k_gt ?_ | with_reducible refine k_ge ?_ | with_reducible refine k_eqi ?_ | with_reducible refine k_nei ?_ | with_reducible refine k_eqs ?_ | with_reducible refine k_nes ?_ | with_reducible refine k_neg ?_ | with_reducible refine b_abs ?_ | with_reducible refine b_strs ?_ | with_reducible refine b_inti ?_ | with_reducible refine b_intb ?_ | with_reducible refine b_max2 ?_ | with_reducible refine b_min2 ?_ | with_reducible refine bl_k ?_ | with_reducible refine str_k ?_ | with_reducible refine br_t ?_ | with_reducible refine br_f ?_ | with_reducible refine o_no ?_ | with_reducible refine l_nx ?_ | with_reducible refine l_ct ?_ | with_reducible refine l_brk ?_ | with_reducible refine l_ret ?_ | with_reducible refine s_sx ?_ | with_reducible refine s_sf ?_ | with_reducible refine okv ?_ | with_reducible refine v_eqi ?_ | with_reducible refine v_inNo ?_ | with_reducible refine v_isi ?_ | with_reducible refine v_lm ?_ | with_reducible refine t_ext ?_ | with_reducible refine s_tr ?_ | ((with_reducible refine v_tup ?_ ?_); exact rfl) | ((with_reducible refine v_lst ?_ ?_); exact rfl) | ((with_reducible refine v_newl ?_ ?_); exact rfl) | ((with_reducible refine k_pow ?_ ?_); exact rfl)))
  refine k_inNo (i := 137) F.e rfl (S1 := S5) ?_ ?_
  · unfold allNo
    rw [show (TT ok fs is (k + 5)).fn 137 [.ins 20 ["numbers", "parts"] [.tup (iL (nm l p)), .int (pt l p : Nat)], .tup [.tup (iL (nm l p)), .int (pt l p : Nat)]] S5 = .ok (.bl false) S5 from plne_eq (k := k + 4) F.toFPl rfl]
    unfold allNo
    dsimp only
    rw [show (TT ok fs is (k + 5)).fn 137 [.ins 20 ["numbers", "parts"] [.tup (iL (nm l p)), .int (pt l p : Nat)], .non] S5 = .ok (.bl false) S5 from plne_eq (k := k + 4) F.toFPl rfl]
    unfold allNo
    dsimp only
    rw [show (TT ok fs is (k + 5)).fn 137 [.ins 20 ["numbers", "parts"] [.tup (iL (nm l p)), .int (pt l p : Nat)], .lst (iL l)] S5 = .ok (.bl false) S5 from plne_eq (k := k + 4) F.toFPl rfl]
    unfold allNo
    rfl
  (repeat (first | ((with_reducible refine v_varK ?_); refine varK ?_) | ((with_reducible refine t_varK ?_); refine varK ?_) | with_reducible refine s_cons ?_ | with_reducible refine q_nx ?_ | with_reducible refine q_ret ?_ | with_reducible refine q_brk ?_ | with_reducible refine q_cont ?_ | with_reducible refine r_nx ?_ | with_reducible refine r_ret ?_ | with_reducible refine s_nil ?_ | with_reducible refine s_pass ?_ | with_reducible refine s_brk ?_ | with_reducible refine s_cont ?_ | with_reducible refine s_retN ?_ | with_reducible refine s_exv ?_ | with_reducible refine s_rt ?_ | with_reducible refine s_ifs ?_ | with_reducible refine s_st ?_ | with_reducible refine s_stc ?_ | with_reducible refine s_as ?_ | with_reducible refine s_pr ?_ | with_reducible refine s_fr ?_ | with_reducible refine v_int ?_ | with_reducible refine v_bl ?_ | with_reducible refine v_non ?_ | with_reducible refine v_str ?_ | with_reducible refine v_op ?_ | with_reducible refine v_cmp ?_ | with_reducible refine v_neg ?_ | with_reducible refine v_fld ?_ | with_reducible refine v_rev ?_ | with_reducible refine v_not ?_ | with_reducible refine v_and ?_ | with_reducible refine v_or ?_ | with_reducible refine v_ite ?_ | with_reducible refine l_nil ?_ | with_reducible refine l_cons ?_ | with_reducible refine v_blt ?_ | with_reducible refine v_call ?_ | with_reducible refine v_mkF ?_ | with_reducible refine v_idx ?_ | with_reducible refine v_slc ?_ | with_reducible refine v_join ?_ | with_reducible refine v_fmt ?_ | with_reducible refine j_nil ?_ | with_reducible refine j_cons ?_ | with_reducible refine v_joined ?_ | with_reducible refine v_comp ?_ | with_reducible refine r_seq ?_ | with_reducible refine r_rng1 ?_ | with_reducible refine r_rng2 ?_ | with_reducible refine t_not ?_ | with_reducible refine t_and ?_ | with_reducible refine t_or ?_ | with_reducible refine t_cmp ?_ | with_reducible refine t_bl ?_ | with_reducible refine t_call ?_ | with_reducible refine t_fld ?_ | with_reducible refine t_idx ?_ | with_reducible refine t_blt ?_ | with_reducible refine c_no ?_ | with_reducible refine c_yes ?_ | with_reducible refine k_add ?_ | with_reducible refine k_sub ?_ | with_reducible refine k_lt ?_ | with_reducible refine k_le ?_ | with_reducible refine k_gt ?_ | with_reducible refine k_ge ?_ | with_reducible refine k_eqi ?_ | with_reducible refine k_nei ?_ | with_reducible refine k_eqs ?_ | with_reducible refine k_nes ?_ | with_reducible refine k_neg ?_ | with_reducible refine b_abs ?_ | with_reducible refine b_strs ?_ | with_reducible refine b_inti ?_ | with_reducible refine b_intb ?_ | with_reducible refine b_max2 ?_ | with_reducible refine b_min2 ?_ | with_reducible refine bl_k ?_ | with_reducible refine str_k ?_ | with_reducible refine br_t ?_ | with_reducible refine br_f ?_ | with_reducible refine o_no ?_ | with_reducible refine l_nx ?_ | with_reducible refine l_ct ?_ | with_reducible refine l_brk ?_ | with_reducible refine l_ret ?_ | with_reducible refine s_sx ?_ | with_reducible refine s_sf ?_ | with_reducible refine okv ?_ | with_reducible refine v_eqi ?_ | with_reducible refine v_inNo ?_ | with_reducible refine v_isi ?_ | with_reducible refine v_lm ?_ | with_reducible refine t_ext ?_ | with_reducible refine s_tr ?_ | ((with_reducible refine v_tup ?_ ?_); exact rfl) | ((with_reducible refine v_lst ?_ ?_); exact rfl) | ((with_reducible refine v_newl ?_ ?_); exact rfl) | ((with_reducible refine k_pow ?_ ?_); exact rfl)))
  refine draw_w (k := k + 4) F.f201 hw5 (by omega) (by decide) (by decide) fun r3 w3 q1 q2 hw6 => ?_
  obtain ⟨t, ht⟩ : ∃ t : Nat, 1 + r3 = (t : Int) := ⟨(1 + r3).toNat, by omega⟩
  have ht0 : 0 < t := by omega
  have ht1 : t ≤ 50 := by omega
  have lt := log2_lt (x := t) (n := 6) (by omega) (by decide)
  (repeat (first | ((with_reducible refine v_varK ?_); refine varK ?_) | ((with_reducible refine t_varK ?_); refine varK ?_) | with_reducible refine s_cons ?_ | with_reducible refine q_nx ?_ | with_reducible refine q_ret ?_ | with_reducible refine q_brk ?_ | with_reducible refine q_cont ?_ | with_reducible refine r_nx ?_ | with_reducible refine r_ret ?_ | with_reducible refine s_nil ?_ | with_reducible refine s_pass ?_ | with_reducible refine s_brk ?_ | with_reducible refine s_cont ?_ | with_reducible refine s_retN ?_ | with_reducible refine s_exv ?_ | with_reducible refine s_rt ?_ | with_reducible refine s_ifs ?_ | with_reducible refine s_st ?_ | with_reducible refine s_stc ?_ | with_reducible refine s_as ?_ | with_reducible refine s_pr ?_ | with_reducible refine s_fr ?_ | with_reducible refine v_int ?_ | with_reducible refine v_bl ?_ | with_reducible refine v_non ?_ | with_reducible refine v_str ?_ | with_reducible refine v_op ?_ | with_reducible refine v_cmp ?_ | with_reducible refine v_neg ?_ | with_reducible refine v_fld ?_ | with_reducible refine v_rev ?_ | with_reducible refine v_not ?_ | with_reducible refine v_and ?_ | with_reducible refine v_or ?_ | with_reducible refine v_ite ?_ | with_reducible refine l_nil ?_ | with_reducible refine l_cons ?_ | with_reducible refine v_blt ?_ | with_reducible refine v_call ?_ | with_reducible refine v_mkF ?_ | with_reducible refine v_idx ?_ | with_reducible refine v_slc ?_ | with_reducible refine v_join ?_ | with_reducible refine v_fmt ?_ | with_reducible refine j_nil ?_ | with_reducible refine j_cons ?_ | with_reducible refine v_joined ?_ | with_reducible refine v_comp ?_ | with_reducible refine r_seq ?_ | with_reducible refine r_rng1 ?_ | with_reducible refine r_rng2 ?_ | with_reducible refine t_not ?_ | with_reducible refine t_and ?_ | with_reducible refine t_or ?_ | with_reducible refine t_cmp ?_ | with_reducible refine t_bl ?_ | with_reducible refine t_call ?_ | with_reducible refine t_fld ?_ | with_reducible refine t_idx ?_ | with_reducible refine t_blt ?_ | with_reducible refine c_no ?_ | with_reducible refine c_yes ?_ | with_reducible refine k_add ?_ | with_reducible refine k_sub ?_ | with_reducible refine k_lt ?_ | with_reducible refine k_le ?_ | with_reducible refine k_gt ?_ | with_reducible refine k_ge ?_ | with_reducible refine k_eqi ?_ | with_reducible refine k_nei ?_ | with_reducible refine k_eqs ?_ | with_reducible refine k_nes ?_ | with_reducible refine k_neg ?_ | with_reducible refine b_abs ?_ | with_reducible refine b_strs ?_ | with_reducible refine b_inti ?_ | with_reducible refine b_intb ?_ | with_reducible refine b_max2 ?_ | with_reducible refine b_min2 ?_ | with_reducible refine bl_k ?_ | with_reducible refine str_k ?_ | with_reducible refine br_t ?_ | with_reducible refine br_f ?_ | with_reducible refine o_no ?_ | with_reducible refine l_nx ?_ | with_reducible refine l_ct ?_ | with_reducible refine l_brk ?_ | with_reducible refine l_ret ?_ | with_reducible refine s_sx ?_ | with_reducible refine s_sf ?_ | with_reducible refine okv ?_ | with_reducible refine v_eqi ?_ | with_reducible refine v_inNo ?_ | with_reducible refine v_isi ?_ | with_reducible refine v_lm ?_ | with_reducible refine t_ext ?_ | with_reducible refine s_tr ?_ | ((with_reducible refine v_tup ?_ ?_); exact rfl) | ((with_reducible refine v_lst ?_ ?_); exact rfl) | ((with_reducible refine v_newl ?_ ?_); exact rfl) | ((with_reducible refine k_pow ?_ ?_); exact rfl)))
  rw [ht]
  (repeat (first | ((with_reducible refine v_varK ?_); refine varK ?_) | ((with_reducible refine t_varK ?_); refine varK ?_) | with_reducible refine s_cons ?_ | with_reducible refine q_nx ?_ | with_reducible refine q_ret ?_ | with_reducible refine q_brk ?_ | with_reducible refine q_cont ?_ | with_reducible refine r_nx ?_ | with_reducible refine r_ret ?_ | with_reducible refine s_nil ?_ | with_reducible refine s_pass ?_ | with_reducible refine s_brk ?_ | with_reducible refine s_cont ?_ | with_reducible refine s_retN ?_ | with_reducible refine s_exv ?_ | with_reducible refine s_rt ?_ | with_reducible refine s_ifs ?_ | with_reducible refine s_st ?_ | with_reducible refine s_stc ?_ | with_reducible refine s_as ?_ | with_reducible refine s_pr ?_ | with_reducible refine s_fr ?_ | with_reducible refine v_int ?_ | with_reducible refine v_bl ?_ | with_reducible refine v_non ?_ | with_reducible refine v_str ?_ | with_reducible refine v_op ?_ | with_reducible refine v_cmp ?_ | with_reducible refine v_neg ?_ | with_reducible refine v_fld ?_ | with_reducible refine v_rev ?_ | with_reducible refine v_not ?_ | with_reducible refine v_and ?_ | with_reducible refine v_or ?_ | with_reducible refine v_ite ?_ | with_reducible refine l_nil ?_ | with_reducible refine l_cons ?_ | with_reducible refine v_blt ?_ | with_reducible refine v_call ?_ | with_reducible refine v_mkF ?_ | with_reducible refine v_idx ?_ | with_reducible refine v_slc ?_ | with_reducible refine v_join ?_ | with_reducible refine v_fmt ?_ | with_reducible refine j_nil ?_ | with_reducible refine j_cons ?_ | with_reducible refine v_joined ?_ | with_reducible refine v_comp ?_ | with_reducible refine r_seq ?_ | with_reducible refine r_rng1 ?_ | with_reducible refine r_rng2 ?_ | with_reducible refine t_not ?_ | with_reducible refine t_and ?_ | with_reducible refine t_or ?_ | with_reducible refine t_cmp ?_ | with_reducible refine t_bl ?_ | with_reducible refine t_call ?_ | with_reducible refine t_fld ?_ | with_reducible refine t_idx ?_ | with_reducible refine t_blt ?_ | with_reducible refine c_no ?_ | with_reducible refine c_yes ?_ | with_reducible refine k_add ?_ | with_reducible refine k_sub ?_ | with_reducible refine k_lt ?_ | with_reducible refine k_le ?_ | with_reducible refine k_gt ?_ | with_reducible refine k_ge ?_ | with_reducible refine k_eqi ?_ | with_reducible refine k_nei ?_ | with_reducible refine k_eqs ?_ | with_reducible refine k_nes ?_ | with_reducible refine k_neg ?_ | with_reducible refine b_abs ?_ | with_reducible refine b_strs ?_ | with_reducible refine b_inti ?_ | with_reducible refine b_intb ?_ | with_reducible refine b_max2 ?_ | with_reducible refine b_min2 ?_ | with_reducible refine bl_k ?_ | with_reducible refine str_k ?_ | with_reducible refine br_t ?_ | with_reducible refine br_f ?_ | with_reducible refine o_no ?_ | with_reducible refine l_nx ?_ | with_reducible refine l_ct ?_ | with_reducible refine l_brk ?_ | with_reducible refine l_ret ?_ | with_reducible refine s_sx ?_ | with_reducible refine s_sf ?_ | with_reducible refine okv ?_ | with_reducible refine v_eqi ?_ | with_reducible refine v_inNo ?_ | with_reducible refine v_isi ?_ | with_reducible refine v_lm ?_ | with_reducible refine t_ext ?_ | with_reducible refine s_tr ?_ | ((with_reducible refine v_tup ?_ ?_); exact rfl) | ((with_reducible refine v_lst ?_ ?_); exact rfl) | ((with_reducible refine v_newl ?_ ?_); exact rfl) | ((with_reducible refine k_pow ?_ ?_); exact rfl)))
  have okm : ∀ x : Int, x.natAbs < 2 ^ 100 → okMul x (t : Int) = true := fun x hx => okMul_of hx (by rw [Int.natAbs_natCast]; omega)
  refine k_mul (okm p (by rw [Int.natAbs_natCast]; omega)) ?_
  rw [← Int.natCast_mul]
  (repeat (first | ((with_reducible refine v_varK ?_); refine varK ?_) | ((with_reducible refine t_varK ?_); refine varK ?_) | with_reducible refine s_cons ?_ | with_reducible refine q_nx ?_ | with_reducible refine q_ret ?_ | with_reducible refine q_brk ?_ | with_reducible refine q_cont ?_ | with_reducible refine r_nx ?_ | with_reducible refine r_ret ?_ | with_reducible refine s_nil ?_ | with_reducible refine s_pass ?_ | with_reducible refine s_brk ?_ | with_reducible refine s_cont ?_ | with_reducible refine s_retN ?_ | with_reducible refine s_exv ?_ | with_reducible refine s_rt ?_ | with_reducible refine s_ifs ?_ | with_reducible refine s_st ?_ | with_reducible refine s_stc ?_ | with_reducible refine s_as ?_ | with_reducible refine s_pr ?_ | with_reducible refine s_fr ?_ | with_reducible refine v_int ?_ | with_reducible refine v_bl ?_ | with_reducible refine v_non ?_ | with_reducible refine v_str ?_ | with_reducible refine v_op ?_ | with_reducible refine v_cmp ?_ | with_reducible refine v_neg ?_ | with_reducible refine v_fld ?_ | with_reducible refine v_rev ?_ | with_reducible refine v_not ?_ | with_reducible refine v_and ?_ | with_reducible refine v_or ?_ | with_reducible refine v_ite ?_ | with_reducible refine l_nil ?_ | with_reducible refine l_cons ?_ | with_reducible refine v_blt ?_ | with_reducible refine v_call ?_ | with_reducible refine v_mkF ?_ | with_reducible refine v_idx ?_ | with_reducible refine v_slc ?_ | with_reducible refine v_join ?_ | with_reducible refine v_fmt ?_ | with_reducible refine j_nil ?_ | with_reducible refine j_cons ?_ | with_reducible refine v_joined ?_ | with_reducible refine v_comp ?_ | with_reducible refine r_seq ?_ | with_reducible refine r_rng1 ?_ | with_reducible refine r_rng2 ?_ | with_reducible refine t_not ?_ | with_reducible refine t_and ?_ | with_reducible refine t_or ?_ | with_reducible refine t_cmp ?_ | with_reducible refine t_bl ?_ | with_reducible refine t_call ?_ | with_reducible refine t_fld ?_ | with_reducible refine t_idx ?_ | with_reducible refine t_blt ?_ | with_reducible refine c_no ?_ | with_reducible refine c_yes ?_ | with_reducible refine k_add ?_ | with_reducible refine k_sub ?_ | with_reducible refine k_lt ?_ | with_reducible refine k_le ?_ | with_reducible refine k_gt ?_ | with_reducible refine k_ge ?_ | with_reducible refine k_eqi ?_ | with_reducible refine k_nei ?_ | with_reducible refine k_eqs ?_ | with_reducible refine k_nes ?_ | with_reducible refine k_neg ?_ | with_reducible refine b_abs ?_ | with_reducible refine b_strs ?_ | with_reducible refine b_inti ?_ | with_reducible refine b_intb ?_ | with_reducible refine b_max2 ?_ | with_reducible refine b_min2 ?_ | with_reducible refine bl_k ?_ | with_reducible refine str_k ?_ | with_reducible refine br_t ?_ | with_reducible refine br_f ?_ | with_reducible refine o_no ?_ | with_reducible refine l_nx ?_ | with_reducible refine l_ct ?_ | with_reducible refine l_brk ?_ | with_reducible refine l_ret ?_ | with_reducible refine s_sx ?_ | with_reducible refine s_sf ?_ | with_reducible refine okv ?_ | with_reducible refine v_eqi ?_ | with_reducible refine v_inNo ?_ | with_reducible refine v_isi ?_ | with_reducible refine v_lm ?_ | with_reducible refine t_ext ?_ | with_reducible refine s_tr ?_ | ((with_reducible refine v_tup ?_ ?_); exact rfl) | ((with_reducible refine v_lst ?_ ?_); exact rfl) | ((with_reducible refine v_newl ?_ ?_); exact rfl) | ((with_reducible refine k_pow ?_ ?_); exact rfl)))
  refine ⟨iL l, rfl, Nat.le_trans (m := 6) (by rw [iL_len]; exact hl) (by decide), ?_⟩
  refine comp_int (fun x => x * (t : Int)) rfl (fun x hx => ⟨_, rfl, ⟨rfl, rfl⟩, ?_⟩) ?_
  · (repeat (first | ((with_reducible refine v_varK ?_); refine varK ?_) | ((with_reducible refine t_varK ?_); refine varK ?_) | with_reducible refine s_cons ?_ | with_reducible refine q_nx ?_ | with_reducible refine q_ret ?_ | with_reducible refine q_brk ?_ | with_reducible refine q_cont ?_ | with_reducible refine r_nx ?_ | with_reducible refine r_ret ?_ | with_reducible refine s_nil ?_ | with_reducible refine s_pass ?_ | with_reducible refine s_brk ?_ | with_reducible refine s_cont ?_ | with_reducible refine s_retN ?_ | with_reducible refine s_exv ?_ | with_reducible refine s_rt ?_ | with_reducible refine s_ifs ?_ | with_reducible refine s_st ?_ | with_reducible refine s_stc ?_ | with_reducible refine s_as ?_ | with_reducible refine s_pr ?_ | with_reducible refine s_fr ?_ | with_reducible refine v_int ?_ | with_reducible refine v_bl ?_ | with_reducible refine v_non ?_ | with_reducible refine v_str ?_ | with_reducible refine v_op ?_ | with_reducible refine v_cmp ?_ | with_reducible refine v_neg ?_ | with_reducible refine v_fld ?_ | with_reducible refine v_rev ?_ | with_reducible refine v_not ?_ | with_reducible refine v_and ?_ | with_reducible refine v_or ?_ | with_reducible refine v_ite ?_ | with_reducible refine l_nil ?_ | with_reducible refine l_cons ?_ | with_reducible refine v_blt ?_ | with_reducible refine v_call ?_ | with_reducible refine v_mkF ?_ | with_reducible refine v_idx ?_ | with_reducible refine v_slc ?_ | with_reducible refine v_join ?_ | with_reducible refine v_fmt ?_ | with_reducible refine j_nil ?_ | with_reducible refine j_cons ?_ | with_reducible refine v_joined ?_ | with_reducible refine v_comp ?_ | with_reducible refine r_seq ?_ | with_reducible refine r_rng1 ?_ | with_reducible refine r_rng2 ?_ | with_reducible refine t_not ?_ | with_reducible refine t_and ?_ | with_reducible refine t_or ?_ | with_reducible refine t_cmp ?_ | with_reducible refine t_bl ?_ | with_reducible refine t_call ?_ | with_reducible refine t_fld ?_ | with_reducible refine t_idx ?_ | with_reducible refine t_blt ?_ | with_reducible refine c_no ?_ | with_reducible refine c_yes ?_ | with_reducible refine k_add ?_ | with_reducible refine k_sub ?_ | with_reducible refine k_lt ?_ | with_reducible refine k_le ?_ | with_reducible refine k_gt ?_ | with_reducible refine k_ge ?_ | with_reducible refine k_eqi ?_ | with_reducible refine k_nei ?_ | with_reducible refine k_eqs ?_ | with_reducible refine k_nes ?_ | with_reducible refine k_neg ?_ | with_reducible refine b_abs ?_ | with_reducible refine b_strs ?_ | with_reducible refine b_inti ?_ | with_reducible refine b_intb ?_ | with_reducible refine b_max2 ?_ | with_reducible refine b_min2 ?_ | with_reducible refine bl_k ?_ | with_reducible refine str_k ?_ | with_reducible refine br_t ?_ | with_reducible refine br_f ?_ | with_reducible refine o_no ?_ | with_reducible refine l_nx ?_ | with_reducible refine l_ct ?_ | with_reducible refine l_brk ?_ | with_reducible refine l_ret ?_ | with_reducible refine s_sx ?_ | with_reducible refine s_sf ?_ | with_reducible refine okv ?_ | with_reducible refine v_eqi ?_ | with_reducible refine v_inNo ?_ | with_reducible refine v_isi ?_ | with_reducible refine v_lm ?_ | with_reducible refine t_ext ?_ | with_reducible refine s_tr ?_ | ((with_reducible refine v_tup ?_ ?_); exact rfl) | ((with_reducible refine v_lst ?_ ?_); exact rfl) | ((with_reducible refine v_newl ?_ ?_); exact rfl) | ((with_reducible refine k_pow ?_ ?_); exact rfl)))
    refine k_mul (okm x (hb x hx)) ?_
    exact ⟨rfl, rfl⟩
  (repeat (first | ((with_reducible refine v_varK ?_); refine varK ?_) | ((with_reducible refine t_varK ?_); refine varK ?_) | with_reducible refine s_cons ?_ | with_reducible refine q_nx ?_ | with_reducible refine q_ret ?_ | with_reducible refine q_brk ?_ | with_reducible refine q_cont ?_ | with_reducible refine r_nx ?_ | with_reducible refine r_ret ?_ | with_reducible refine s_nil ?_ | with_reducible refine s_pass ?_ | with_reducible refine s_brk ?_ | with_reducible refine s_cont ?_ | with_reducible refine s_retN ?_ | with_reducible refine s_exv ?_ | with_reducible refine s_rt ?_ | with_reducible refine s_ifs ?_ | with_reducible refine s_st ?_ | with_reducible refine s_stc ?_ | with_reducible refine s_as ?_ | with_reducible refine s_pr ?_ | with_reducible refine s_fr ?_ | with_reducible refine v_int ?_ | with_reducible refine v_bl ?_ | with_reducible refine v_non ?_ | with_reducible refine v_str ?_ | with_reducible refine v_op ?_ | with_reducible refine v_cmp ?_ | with_reducible refine v_neg ?_ | with_reducible refine v_fld ?_ | with_reducible refine v_rev ?_ | with_reducible refine v_not ?_ | with_reducible refine v_and ?_ | with_reducible refine v_or ?_ | with_reducible refine v_ite ?_ | with_reducible refine l_nil ?_ | with_reducible refine l_cons ?_ | with_reducible refine v_blt ?_ | with_reducible refine v_call ?_ | with_reducible refine v_mkF ?_ | with_reducible refine v_idx ?_ | with_reducible refine v_slc ?_ | with_reducible refine v_join ?_ | with_reducible refine v_fmt ?_ | with_reducible refine j_nil ?_ | with_reducible refine j_cons ?_ | with_reducible refine v_joined ?_ | with_reducible refine v_comp ?_ | with_reducible refine r_seq ?_ | with_reducible refine r_rng1 ?_ | with_reducible refine r_rng2 ?_ | with_reducible refine t_not ?_ | with_reducible refine t_and ?_ | with_reducible refine t_or ?_ | with_reducible refine t_cmp ?_ | with_reducible refine t_bl ?_ | with_reducible refine t_call ?_ | with_reducible refine t_fld ?_ | with_reducible refine t_idx ?_ | with_reducible refine t_blt ?_ | with_reducible refine c_no ?_ | with_reducible refine c_yes ?_ | with_reducible refine k_add ?_ | with_reducible refine k_sub ?_ | with_reducible refine k_lt ?_ | with_reducible refine k_le ?_ | with_reducible refine k_gt ?_ | with_reducible refine k_ge ?_ | with_reducible refine k_eqi ?_ | with_reducible refine k_nei ?_ | with_reducible refine k_eqs ?_ | with_reducible refine k_nes ?_ | with_reducible refine k_neg ?_ | with_reducible refine b_abs ?_ | with_reducible refine b_strs ?_ | with_reducible refine b_inti ?_ | with_reducible refine b_intb ?_ | with_reducible refine b_max2 ?_ | with_reducible refine b_min2 ?_ | with_reducible refine bl_k ?_ | with_reducible refine str_k ?_ | with_reducible refine br_t ?_ | with_reducible refine br_f ?_ | with_reducible refine o_no ?_ | with_reducible refine l_nx ?_ | with_reducible refine l_ct ?_ | with_reducible refine l_brk ?_ | with_reducible refine l_ret ?_ | with_reducible refine s_sx ?_ | with_reducible refine s_sf ?_ | with_reducible refine okv ?_ | with_reducible refine v_eqi ?_ | with_reducible refine v_inNo ?_ | with_reducible refine v_isi ?_ | with_reducible refine v_lm ?_ | with_reducible refine t_ext ?_ | with_reducible refine s_tr ?_ | ((with_reducible refine v_tup ?_ ?_); exact rfl) | ((with_reducible refine v_lst ?_ ?_); exact rfl) | ((with_reducible refine v_newl ?_ ?_); exact rfl) | ((with_reducible refine k_pow ?_ ?_); exact rfl)))
  refine b_tuple (ds := iL (l.map fun x => x * (t : Int))) rfl ?_
  (repeat (first | ((with_reducible refine v_varK ?_); refine varK ?_) | ((with_reducible refine t_varK ?_); refine varK ?_) | with_reducible refine s_cons ?_ | with_reducible refine q_nx ?_ | with_reducible refine q_ret ?_ | with_reducible refine q_brk ?_ | with_reducible refine q_cont ?_ | with_reducible refine r_nx ?_ | with_reducible refine r_ret ?_ | with_reducible refine s_nil ?_ | with_reducible refine s_pass ?_ | with_reducible refine s_brk ?_ | with_reducible refine s_cont ?_ | with_reducible refine s_retN ?_ | with_reducible refine s_exv ?_ | with_reducible refine s_rt ?_ | with_reducible refine s_ifs ?_ | with_reducible refine s_st ?_ | with_reducible refine s_stc ?_ | with_reducible refine s_as ?_ | with_reducible refine s_pr ?_ | with_reducible refine s_fr ?_ | with_reducible refine v_int ?_ | with_reducible refine v_bl ?_ | with_reducible refine v_non ?_ | with_reducible refine v_str ?_ | with_reducible refine v_op ?_ | with_reducible refine v_cmp ?_ | with_reducible refine v_neg ?_ | with_reducible refine v_fld ?_ | with_reducible refine v_rev ?_ | with_reducible refine v_not ?_ | with_reducible refine v_and ?_ | with_reducible refine v_or ?_ | with_reducible refine v_ite ?_ | with_reducible refine l_nil ?_ | with_reducible refine l_cons ?_ | with_reducible refine v_blt ?_ | with_reducible refine v_call ?_ | with_reducible refine v_mkF ?_ | with_reducible refine v_idx ?_ | with_reducible refine v_slc ?_ | with_reducible refine v_join ?_ | with_reducible refine v_fmt ?_ | with_reducible refine j_nil ?_ | with_reducible refine j_cons ?_ | with_reducible refine v_joined ?_ | with_reducible refine v_comp ?_ | with_reducible refine r_seq ?_ | with_reducible refine r_rng1 ?_ | with_reducible refine r_rng2 ?_ | with_reducible refine t_not ?_ | with_reducible refine t_and ?_ | with_reducible refine t_or ?_ | with_reducible refine t_cmp ?_ | with_reducible refine t_bl ?_ | with_reducible refine t_call ?_ | with_reducible refine t_fld ?_ | with_reducible refine t_idx ?_ | with_reducible refine t_blt ?_ | with_reducible refine c_no ?_ | with_reducible refine c_yes ?_ | with_reducible refine k_add ?_ | with_reducible refine k_sub ?_ | with_reducible refine k_lt ?_ | with_reducible refine k_le ?_ | with_reducible refine k_gt ?_ | with_reducible refine k_ge ?_ | with_reducible refine k_eqi ?_ | with_reducible refine k_nei ?_ | with_reducible refine k_eqs ?_ | with_reducible refine k_nes ?_ | with_reducible refine k_neg ?_ | with_reducible refine b_abs ?_ | with_reducible refine b_strs ?_ | with_reducible refine b_inti ?_ | with_reducible refine b_intb ?_ | with_reducible refine b_max2 ?_ | with_reducible refine b_min2 ?_ | with_reducible refine bl_k ?_ | with_reducible refine str_k ?_ | with_reducible refine br_t ?_ | with_reducible refine br_f ?_ | with_reducible refine o_no ?_ | with_reducible refine l_nx ?_ | with_reducible refine l_ct ?_ | with_reducible refine l_brk ?_ | with_reducible refine l_ret ?_ | with_reducible refine s_sx ?_ | with_reducible refine s_sf ?_ | with_reducible refine okv ?_ | with_reducible refine v_eqi ?_ | with_reducible refine v_inNo ?_ | with_reducible refine v_isi ?_ | with_reducible refine v_lm ?_ | with_reducible refine t_ext ?_ | with_reducible refine s_tr ?_ | ((with_reducible refine v_tup ?_ ?_); exact rfl) | ((with_reducible refine v_lst ?_ ?_); exact rfl) | ((with_reducible refine v_newl ?_ ?_); exact rfl) | ((with_reducible refine k_pow ?_ ?_); exact rfl)))
  have hpt : 0 < p * t := Nat.mul_pos hp ht0
  have hpz : (p * t).log2 < 9000 := by
    have : p * t < 2 ^ 96 := Nat.lt_of_le_of_lt (Nat.mul_le_mul_left p ht1) (by omega)
    have := log2_lt this (by decide)
    omega
  refine places_w (k := k + 2) F.toFPl (l := l.map fun x => x * (t : Int)) (p := p * t) rfl rfl (by rw [List.length_map]; omega) hpt hpz ?_
  (repeat (first | ((with_reducible refine v_varK ?_); refine varK ?_) | ((with_reducible refine t_varK ?_); refine varK ?_) | with_reducible refine s_cons ?_ | with_reducible refine q_nx ?_ | with_reducible refine q_ret ?_ | with_reducible refine q_brk ?_ | with_reducible refine q_cont ?_ | with_reducible refine r_nx ?_ | with_reducible refine r_ret ?_ | with_reducible refine s_nil ?_ | with_reducible refine s_pass ?_ | with_reducible refine s_brk ?_ | with_reducible refine s_cont ?_ | with_reducible refine s_retN ?_ | with_reducible refine s_exv ?_ | with_reducible refine s_rt ?_ | with_reducible refine s_ifs ?_ | with_reducible refine s_st ?_ | with_reducible refine s_stc ?_ | with_reducible refine s_as ?_ | with_reducible refine s_pr ?_ | with_reducible refine s_fr ?_ | with_reducible refine v_int ?_ | with_reducible refine v_bl ?_ | with_reducible refine v_non ?_ | with_reducible refine v_str ?_ | with_reducible refine v_op ?_ | with_reducible refine v_cmp ?_ | with_reducible refine v_neg ?_ | with_reducible refine v_fld ?_ | with_reducible refine v_rev ?_ | with_reducible refine v_not ?_ | with_reducible refine v_and ?_ | with_reducible refine v_or ?_ | with_reducible refine v_ite ?_ | with_reducible refine l_nil ?_ | with_reducible refine l_cons ?_ | with_reducible refine v_blt ?_ | with_reducible refine v_call ?_ | with_reducible refine v_mkF ?_ | with_reducible refine v_idx ?_ | with_reducible refine v_slc ?_ | with_reducible refine v_join ?_ | with_reducible refine v_fmt ?_ | with_reducible refine j_nil ?_ | with_reducible refine j_cons ?_ | with_reducible refine v_joined ?_ | with_reducible refine v_comp ?_ | with_reducible refine r_seq ?_ | with_reducible refine r_rng1 ?_ | with_reducible refine r_rng2 ?_ | with_reducible refine t_not ?_ | with_reducible refine t_and ?_ | with_reducible refine t_or ?_ | with_reducible refine t_cmp ?_ | with_reducible refine t_bl ?_ | with_reducible refine t_call ?_ | with_reducible refine t_fld ?_ | with_reducible refine t_idx ?_ | with_reducible refine t_blt ?_ | with_reducible refine c_no ?_ | with_reducible refine c_yes ?_ | with_reducible refine k_add ?_ | with_reducible refine k_sub ?_ | with_reducible refine k_lt ?_ | with_reducible refine k_le ?_ | with_reducible refine k_gt ?_ | with_reducible refine k_ge ?_ | with_reducible refine k_eqi ?_ | with_reducible refine k_nei ?_ | with_reducible refine k_eqs ?_ | with_reducible refine k_nes ?_ | with_reducible refine k_neg ?_ | with_reducible refine b_abs ?_ | with_reducible refine b_strs ?_ | with_reducible refine b_inti ?_ | with_reducible refine b_intb ?_ | with_reducible refine b_max2 ?_ | with_reducible refine b_min2 ?_ | with_reducible refine bl_k ?_ | with_reducible refine str_k ?_ | with_reducible refine br_t ?_ | with_reducible refine br_f ?_ | with_reducible refine o_no ?_ | with_reducible refine l_nx ?_ | with_reducible refine l_ct ?_ | with_reducible refine l_brk ?_ | with_reducible refine l_ret ?_ | with_reducible refine s_sx ?_ | with_reducible refine s_sf ?_ | with_reducible refine okv ?_ | with_reducible refine v_eqi ?_ | with_reducible refine v_inNo ?_ | with_reducible refine v_isi ?_ | with_reducible refine v_lm ?_ | with_reducible refine t_ext ?_ | with_reducible refine s_tr ?_ | ((with_reducible refine v_tup ?_ ?_); exact rfl) | ((with_reducible refine v_lst ?_ ?_); exact rfl) | ((with_reducible refine v_newl ?_ ?_); exact rfl) | ((with_reducible refine k_pow ?_ ?_); exact rfl)))
  refine k_eqin (i := 137) F.e (pleq_w (k := k + 3) F.toFPl ?_)
  obtain ⟨sc1, sc2⟩ := scale_same (l := l) hp ht0
  refine ⟨_, rfl, ?_⟩
  (repeat (first | ((with_reducible refine v_varK ?_); refine varK ?_) | ((with_reducible refine t_varK ?_); refine varK ?_) | with_reducible refine s_cons ?_ | with_reducible refine q_nx ?_ | with_reducible refine q_ret ?_ | with_reducible refine q_brk ?_ | with_reducible refine q_cont ?_ | with_reducible refine r_nx ?_ | with_reducible refine r_ret ?_ | with_reducible refine s_nil ?_ | with_reducible refine s_pass ?_ | with_reducible refine s_brk ?_ | with_reducible refine s_cont ?_ | with_reducible refine s_retN ?_ | with_reducible refine s_exv ?_ | with_reducible refine s_rt ?_ | with_reducible refine s_ifs ?_ | with_reducible refine s_st ?_ | with_reducible refine s_stc ?_ | with_reducible refine s_as ?_ | with_reducible refine s_pr ?_ | with_reducible refine s_fr ?_ | with_reducible refine v_int ?_ | with_reducible refine v_bl ?_ | with_reducible refine v_non ?_ | with_reducible refine v_str ?_ | with_reducible refine v_op ?_ | with_reducible refine v_cmp ?_ | with_reducible refine v_neg ?_ | with_reducible refine v_fld ?_ | with_reducible refine v_rev ?_ | with_reducible refine v_not ?_ | with_reducible refine v_and ?_ | with_reducible refine v_or ?_ | with_reducible refine v_ite ?_ | with_reducible refine l_nil ?_ | with_reducible refine l_cons ?_ | with_reducible refine v_blt ?_ | with_reducible refine v_call ?_ | with_reducible refine v_mkF ?_ | with_reducible refine v_idx ?_ | with_reducible refine v_slc ?_ | with_reducible refine v_join ?_ | with_reducible refine v_fmt ?_ | with_reducible refine j_nil ?_ | with_reducible refine j_cons ?_ | with_reducible refine v_joined ?_ | with_reducible refine v_comp ?_ | with_reducible refine r_seq ?_ | with_reducible refine r_rng1 ?_ | with_reducible refine r_rng2 ?_ | with_reducible refine t_not ?_ | with_reducible refine t_and ?_ | with_reducible refine t_or ?_ | with_reducible refine t_cmp ?_ | with_reducible refine t_bl ?_ | with_reducible refine t_call ?_ | with_reducible refine t_fld ?_ | with_reducible refine t_idx ?_ | with_reducible refine t_blt ?_ | with_reducible refine c_no ?_ | with_reducible refine c_yes ?_ | with_reducible refine k_add ?_ | with_reducible refine k_sub ?_ | with_reducible refine k_lt ?_ | with_reducible refine k_le ?_ | with_reducible refine k_gt ?_ | with_reducible refine k_ge ?_ | with_reducible refine k_eqi ?_ | with_reducible refine k_nei ?_ | with_reducible refine k_eqs ?_ | with_reducible refine k_nes ?_ | with_reducible refine k_neg ?_ | with_reducible refine b_abs ?_ | with_reducible refine b_strs ?_ | with_reducible refine b_inti ?_ | with_reducible refine b_intb ?_ | with_reducible refine b_max2 ?_ | with_reducible refine b_min2 ?_ | with_reducible refine bl_k ?_ | with_reducible refine str_k ?_ | with_reducible refine br_t ?_ | with_reducible refine br_f ?_ | with_reducible refine o_no ?_ | with_reducible refine l_nx ?_ | with_reducible refine l_ct ?_ | with_reducible refine l_brk ?_ | with_reducible refine l_ret ?_ | with_reducible refine s_sx ?_ | with_reducible refine s_sf ?_ | with_reducible refine okv ?_ | with_reducible refine v_eqi ?_ | with_reducible refine v_inNo ?_ | with_reducible refine v_isi ?_ | with_reducible refine v_lm ?_ | with_reducible refine t_ext ?_ | with_reducible refine s_tr ?_ | ((with_reducible refine v_tup ?_ ?_); exact rfl) | ((with_reducible refine v_lst ?_ ?_); exact rfl) | ((with_reducible refine v_newl ?_ ?_); exact rfl) | ((with_reducible refine k_pow ?_ ?_); exact rfl)))
  refine br_no (by rw [sc1, sc2]; simp) ?_
  (repeat (first | ((with_reducible refine v_varK ?_); refine varK ?_) | ((with_reducible refine t_varK ?_); refine varK ?_) | with_reducible refine s_cons ?_ | with_reducible refine q_nx ?_ | with_reducible refine q_ret ?_ | with_reducible refine q_brk ?_ | with_reducible refine q_cont ?_ | with_reducible refine r_nx ?_ | with_reducible refine r_ret ?_ | with_reducible refine s_nil ?_ | with_reducible refine s_pass ?_ | with_reducible refine s_brk ?_ | with_reducible refine s_cont ?_ | with_reducible refine s_retN ?_ | with_reducible refine s_exv ?_ | with_reducible refine s_rt ?_ | with_reducible refine s_ifs ?_ | with_reducible refine s_st ?_ | with_reducible refine s_stc ?_ | with_reducible refine s_as ?_ | with_reducible refine s_pr ?_ | with_reducible refine s_fr ?_ | with_reducible refine v_int ?_ | with_reducible refine v_bl ?_ | with_reducible refine v_non ?_ | with_reducible refine v_str ?_ | with_reducible refine v_op ?_ | with_reducible refine v_cmp ?_ | with_reducible refine v_neg ?_ | with_reducible refine v_fld ?_ | with_reducible refine v_rev ?_ | with_reducible refine v_not ?_ | with_reducible refine v_and ?_ | with_reducible refine v_or ?_ | with_reducible refine v_ite ?_ | with_reducible refine l_nil ?_ | with_reducible refine l_cons ?_ | with_reducible refine v_blt ?_ | with_reducible refine v_call ?_ | with_reducible refine v_mkF ?_ | with_reducible refine v_idx ?_ | with_reducible refine v_slc ?_ | with_reducible refine v_join ?_ | with_reducible refine v_fmt ?_ | with_reducible refine j_nil ?_ | with_reducible refine j_cons ?_ | with_reducible refine v_joined ?_ | with_reducible refine v_comp ?_ | with_reducible refine r_seq ?_ | with_reducible refine r_rng1 ?_ | with_reducible refine r_rng2 ?_ | with_reducible refine t_not ?_ | with_reducible refine t_and ?_ | with_reducible refine t_or ?_ | with_reducible refine t_cmp ?_ | with_reducible refine t_bl ?_ | with_reducible refine t_call ?_ | with_reducible refine t_fld ?_ | with_reducible refine t_idx ?_ | with_reducible refine t_blt ?_ | with_reducible refine c_no ?_ | with_reducible refine c_yes ?_ | with_reducible refine k_add ?_ | with_reducible refine k_sub ?_ | with_reducible refine k_lt ?_ | with_reducible refine k_le ?_ | with_reducible refine k_gt ?_ | with_reducible refine k_ge ?_ | with_reducible refine k_eqi ?_ | with_reducible refine k_nei ?_ | with_reducible refine k_eqs ?_ | with_reducible refine k_nes ?_ | with_reducible refine k_neg ?_ | with_reducible refine b_abs ?_ | with_reducible refine b_strs ?_ | with_reducible refine b_inti ?_ | with_reducible refine b_intb ?_ | with_reducible refine b_max2 ?_ | with_reducible refine b_min2 ?_ | with_reducible refine bl_k ?_ | with_reducible refine str_k ?_ | with_reducible refine br_t ?_ | with_reducible refine br_f ?_ | with_reducible refine o_no ?_ | with_reducible refine l_nx ?_ | with_reducible refine l_ct ?_ | with_reducible refine l_brk ?_ | with_reducible refine l_ret ?_ | with_reducible refine s_sx ?_ | with_reducible refine s_sf ?_ | with_reducible refine okv ?_ | with_reducible refine v_eqi ?_ | with_reducible refine v_inNo ?_ | with_reducible refine v_isi ?_ | with_reducible refine v_lm ?_ | with_reducible refine t_ext ?_ | with_reducible refine s_tr ?_ | ((with_reducible refine v_tup ?_ ?_); exact rfl) | ((with_reducible refine v_lst ?_ ?_); exact rfl) | ((with_reducible refine v_newl ?_ ?_); exact rfl) | ((with_reducible refine k_pow ?_ ?_); exact rfl)))
  refine k_addl (Nat.le_trans (m := 7) (by rw [iL_len]; exact Nat.succ_le_succ hl) (by decide)) ?_
  rw [iL_app]
  (repeat (first | ((with_reducible refine v_varK ?_); refine varK ?_) | ((with_reducible refine t_varK ?_); refine varK ?_) | with_reducible refine s_cons ?_ | with_reducible refine q_nx ?_ | with_reducible refine q_ret ?_ | with_reducible refine q_brk ?_ | with_reducible refine q_cont ?_ | with_reducible refine r_nx ?_ | with_reducible refine r_ret ?_ | with_reducible refine s_nil ?_ | with_reducible refine s_pass ?_ | with_reducible refine s_brk ?_ | with_reducible refine s_cont ?_ | with_reducible refine s_retN ?_ | with_reducible refine s_exv ?_ | with_reducible refine s_rt ?_ | with_reducible refine s_ifs ?_ | with_reducible refine s_st ?_ | with_reducible refine s_stc ?_ | with_reducible refine s_as ?_ | with_reducible refine s_pr ?_ | with_reducible refine s_fr ?_ | with_reducible refine v_int ?_ | with_reducible refine v_bl ?_ | with_reducible refine v_non ?_ | with_reducible refine v_str ?_ | with_reducible refine v_op ?_ | with_reducible refine v_cmp ?_ | with_reducible refine v_neg ?_ | with_reducible refine v_fld ?_ | with_reducible refine v_rev ?_ | with_reducible refine v_not ?_ | with_reducible refine v_and ?_ | with_reducible refine v_or ?_ | with_reducible refine v_ite ?_ | with_reducible refine l_nil ?_ | with_reducible refine l_cons ?_ | with_reducible refine v_blt ?_ | with_reducible refine v_call ?_ | with_reducible refine v_mkF ?_ | with_reducible refine v_idx ?_ | with_reducible refine v_slc ?_ | with_reducible refine v_join ?_ | with_reducible refine v_fmt ?_ | with_reducible refine j_nil ?_ | with_reducible refine j_cons ?_ | with_reducible refine v_joined ?_ | with_reducible refine v_comp ?_ | with_reducible refine r_seq ?_ | with_reducible refine r_rng1 ?_ | with_reducible refine r_rng2 ?_ | with_reducible refine t_not ?_ | with_reducible refine t_and ?_ | with_reducible refine t_or ?_ | with_reducible refine t_cmp ?_ | with_reducible refine t_bl ?_ | with_reducible refine t_call ?_ | with_reducible refine t_fld ?_ | with_reducible refine t_idx ?_ | with_reducible refine t_blt ?_ | with_reducible refine c_no ?_ | with_reducible refine c_yes ?_ | with_reducible refine k_add ?_ | with_reducible refine k_sub ?_ | with_reducible refine k_lt ?_ | with_reducible refine k_le ?_ | with_reducible refine k_gt ?_ | with_reducible refine k_ge ?_ | with_reducible refine k_eqi ?_ | with_reducible refine k_nei ?_ | with_reducible refine k_eqs ?_ | with_reducible refine k_nes ?_ | with_reducible refine k_neg ?_ | with_reducible refine b_abs ?_ | with_reducible refine b_strs ?_ | with_reducible refine b_inti ?_ | with_reducible refine b_intb ?_ | with_reducible refine b_max2 ?_ | with_reducible refine b_min2 ?_ | with_reducible refine bl_k ?_ | with_reducible refine str_k ?_ | with_reducible refine br_t ?_ | with_reducible refine br_f ?_ | with_reducible refine o_no ?_ | with_reducible refine l_nx ?_ | with_reducible refine l_ct ?_ | with_reducible refine l_brk ?_ | with_reducible refine l_ret ?_ | with_reducible refine s_sx ?_ | with_reducible refine s_sf ?_ | with_reducible refine okv ?_ | with_reducible refine v_eqi ?_ | with_reducible refine v_inNo ?_ | with_reducible refine v_isi ?_ | with_reducible refine v_lm ?_ | with_reducible refine t_ext ?_ | with_reducible refine s_tr ?_ | ((with_reducible refine v_tup ?_ ?_); exact rfl) | ((with_reducible refine v_lst ?_ ?_); exact rfl) | ((with_reducible refine v_newl ?_ ?_); exact rfl) | ((with_reducible refine k_pow ?_ ?_); exact rfl)))
  refine k_rev ?_
  rw [iL_rev]
  (repeat (first | ((with_reducible refine v_varK ?_); refine varK ?_) | ((with_reducible refine t_varK ?_); refine varK ?_) | with_reducible refine s_cons ?_ | with_reducible refine q_nx ?_ | with_reducible refine q_ret ?_ | with_reducible refine q_brk ?_ | with_reducible refine q_cont ?_ | with_reducible refine r_nx ?_ | with_reducible refine r_ret ?_ | with_reducible refine s_nil ?_ | with_reducible refine s_pass ?_ | with_reducible refine s_brk ?_ | with_reducible refine s_cont ?_ | with_reducible refine s_retN ?_ | with_reducible refine s_exv ?_ | with_reducible refine s_rt ?_ | with_reducible refine s_ifs ?_ | with_reducible refine s_st ?_ | with_reducible refine s_stc ?_ | with_reducible refine s_as ?_ | with_reducible refine s_pr ?_ | with_reducible refine s_fr ?_ | with_reducible refine v_int ?_ | with_reducible refine v_bl ?_ | with_reducible refine v_non ?_ | with_reducible refine v_str ?_ | with_reducible refine v_op ?_ | with_reducible refine v_cmp ?_ | with_reducible refine v_neg ?_ | with_reducible refine v_fld ?_ | with_reducible refine v_rev ?_ | with_reducible refine v_not ?_ | with_reducible refine v_and ?_ | with_reducible refine v_or ?_ | with_reducible refine v_ite ?_ | with_reducible refine l_nil ?_ | with_reducible refine l_cons ?_ | with_reducible refine v_blt ?_ | with_reducible refine v_call ?_ | with_reducible refine v_mkF ?_ | with_reducible refine v_idx ?_ | with_reducible refine v_slc ?_ | with_reducible refine v_join ?_ | with_reducible refine v_fmt ?_ | with_reducible refine j_nil ?_ | with_reducible refine j_cons ?_ | with_reducible refine v_joined ?_ | with_reducible refine v_comp ?_ | with_reducible refine r_seq ?_ | with_reducible refine r_rng1 ?_ | with_reducible refine r_rng2 ?_ | with_reducible refine t_not ?_ | with_reducible refine t_and ?_ | with_reducible refine t_or ?_ | with_reducible refine t_cmp ?_ | with_reducible refine t_bl ?_ | with_reducible refine t_call ?_ | with_reducible refine t_fld ?_ | with_reducible refine t_idx ?_ | with_reducible refine t_blt ?_ | with_reducible refine c_no ?_ | with_reducible refine c_yes ?_ | with_reducible refine k_add ?_ | with_reducible refine k_sub ?_ | with_reducible refine k_lt ?_ | with_reducible refine k_le ?_ | with_reducible refine k_gt ?_ | with_reducible refine k_ge ?_ | with_reducible refine k_eqi ?_ | with_reducible refine k_nei ?_ | with_reducible refine k_eqs ?_ | with_reducible refine k_nes ?_ | with_reducible refine k_neg ?_ | with_reducible refine b_abs ?_ | with_reducible refine b_strs ?_ | with_reducible refine b_inti ?_ | with_reducible refine b_intb ?_ | with_reducible refine b_max2 ?_ | with_reducible refine b_min2 ?_ | with_reducible refine bl_k ?_ | with_reducible refine str_k ?_ | with_reducible refine br_t ?_ | with_reducible refine br_f ?_ | with_reducible refine o_no ?_ | with_reducible refine l_nx ?_ | with_reducible refine l_ct ?_ | with_reducible refine l_brk ?_ | with_reducible refine l_ret ?_ | with_reducible refine s_sx ?_ | with_reducible refine s_sf ?_ | with_reducible refine okv ?_ | with_reducible refine v_eqi ?_ | with_reducible refine v_inNo ?_ | with_reducible refine v_isi ?_ | with_reducible refine v_lm ?_ | with_reducible refine t_ext ?_ | with_reducible refine s_tr ?_ | ((with_reducible refine v_tup ?_ ?_); exact rfl) | ((with_reducible refine v_lst ?_ ?_); exact rfl) | ((with_reducible refine v_newl ?_ ?_); exact rfl) | ((with_reducible refine k_pow ?_ ?_); exact rfl)))
  refine ⟨iL l, rfl, Nat.le_trans (m := 6) (by rw [iL_len]; exact hl) (by decide), ?_⟩
  refine comp_int (fun x => x + 1) rfl (fun x hx => ⟨_, rfl, ⟨rfl, rfl⟩, ?_⟩) ?_
  · (repeat (first | ((with_reducible refine v_varK ?_); refine varK ?_) | ((with_reducible refine t_varK ?_); refine varK ?_) | with_reducible refine s_cons ?_ | with_reducible refine q_nx ?_ | with_reducible refine q_ret ?_ | with_reducible refine q_brk ?_ | with_reducible refine q_cont ?_ | with_reducible refine r_nx ?_ | with_reducible refine r_ret ?_ | with_reducible refine s_nil ?_ | with_reducible refine s_pass ?_ | with_reducible refine s_brk ?_ | with_reducible refine s_cont ?_ | with_reducible refine s_retN ?_ | with_reducible refine s_exv ?_ | with_reducible refine s_rt ?_ | with_reducible refine s_ifs ?_ | with_reducible refine s_st ?_ | with_reducible refine s_stc ?_ | with_reducible refine s_as ?_ | with_reducible refine s_pr ?_ | with_reducible refine s_fr ?_ | with_reducible refine v_int ?_ | with_reducible refine v_bl ?_ | with_reducible refine v_non ?_ | with_reducible refine v_str ?_ | with_reducible refine v_op ?_ | with_reducible refine v_cmp ?_ | with_reducible refine v_neg ?_ | with_reducible refine v_fld ?_ | with_reducible refine v_rev ?_ | with_reducible refine v_not ?_ | with_reducible refine v_and ?_ | with_reducible refine v_or ?_ | with_reducible refine v_ite ?_ | with_reducible refine l_nil ?_ | with_reducible refine l_cons ?_ | with_reducible refine v_blt ?_ | with_reducible refine v_call ?_ | with_reducible refine v_mkF ?_ | with_reducible refine v_idx ?_ | with_reducible refine v_slc ?_ | with_reducible refine v_join ?_ | with_reducible refine v_fmt ?_ | with_reducible refine j_nil ?_ | with_reducible refine j_cons ?_ | with_reducible refine v_joined ?_ | with_reducible refine v_comp ?_ | with_reducible refine r_seq ?_ | with_reducible refine r_rng1 ?_ | with_reducible refine r_rng2 ?_ | with_reducible refine t_not ?_ | with_reducible refine t_and ?_ | with_reducible refine t_or ?_ | with_reducible refine t_cmp ?_ | with_reducible refine t_bl ?_ | with_reducible refine t_call ?_ | with_reducible refine t_fld ?_ | with_reducible refine t_idx ?_ | with_reducible refine t_blt ?_ | with_reducible refine c_no ?_ | with_reducible refine c_yes ?_ | with_reducible refine k_add ?_ | with_reducible refine k_sub ?_ | with_reducible refine k_lt ?_ | with_reducible refine k_le ?_ | with_reducible refine k_gt ?_ | with_reducible refine k_ge ?_ | with_reducible refine k_eqi ?_ | with_reducible refine k_nei ?_ | with_reducible refine k_eqs ?_ | with_reducible refine k_nes ?_ | with_reducible refine k_neg ?_ | with_reducible refine b_abs ?_ | with_reducible refine b_strs ?_ | with_reducible refine b_inti ?_ | with_reducible refine b_intb ?_ | with_reducible refine b_max2 ?_ | with_reducible refine b_min2 ?_ | with_reducible refine bl_k ?_ | with_reducible refine str_k ?_ | with_reducible refine br_t ?_ | with_reducible refine br_f ?_ | with_reducible refine o_no ?_ | with_reducible refine l_nx ?_ | with_reducible refine l_ct ?_ | with_reducible refine l_brk ?_ | with_reducible refine l_ret ?_ | with_reducible refine s_sx ?_ | with_reducible refine s_sf ?_ | with_reducible refine okv ?_ | with_reducible refine v_eqi ?_ | with_reducible refine v_inNo ?_ | with_reducible refine v_isi ?_ | with_reducible refine v_lm ?_ | with_reducible refine t_ext ?_ | with_reducible refine s_tr ?_ | ((with_reducible refine v_tup ?_ ?_); exact rfl) | ((with_reducible refine v_lst ?_ ?_); exact rfl) | ((with_reducible refine v_newl ?_ ?_); exact rfl) | ((with_reducible refine k_pow ?_ ?_); exact rfl)))
    exact ⟨rfl, rfl⟩
  (repeat (first | ((with_reducible refine v_varK ?_); refine varK ?_) | ((with_reducible refine t_varK ?_); refine varK ?_) | with_reducible refine s_cons ?_ | with_reducible refine q_nx ?_ | with_reducible refine q_ret ?_ | with_reducible refine q_brk ?_ | with_reducible refine q_cont ?_ | with_reducible refine r_nx ?_ | with_reducible refine r_ret ?_ | with_reducible refine s_nil ?_ | with_reducible refine s_pass ?_ | with_reducible refine s_brk ?_ | with_reducible refine s_cont ?_ | with_reducible refine s_retN ?_ | with_reducible refine s_exv ?_ | with_reducible refine s_rt ?_ | with_reducible refine s_ifs ?_ | with_reducible refine s_st ?_ | with_reducible refine s_stc ?_ | with_reducible refine s_as ?_ | with_reducible refine s_pr ?_ | with_reducible refine s_fr ?_ | with_reducible refine v_int ?_ | with_reducible refine v_bl ?_ | with_reducible refine v_non ?_ | with_reducible refine v_str ?_ | with_reducible refine v_op ?_ | with_reducible refine v_cmp ?_ | with_reducible refine v_neg ?_ | with_reducible refine v_fld ?_ | with_reducible refine v_rev ?_ | with_reducible refine v_not ?_ | with_reducible refine v_and ?_ | with_reducible refine v_or ?_ | with_reducible refine v_ite ?_ | with_reducible refine l_nil ?_ | with_reducible refine l_cons ?_ | with_reducible refine v_blt ?_ | with_reducible refine v_call ?_ | with_reducible refine v_mkF ?_ | with_reducible refine v_idx ?_ | with_reducible refine v_slc ?_ | with_reducible refine v_join ?_ | with_reducible refine v_fmt ?_ | with_reducible refine j_nil ?_ | with_reducible refine j_cons ?_ | with_reducible refine v_joined ?_ | with_reducible refine v_comp ?_ | with_reducible refine r_seq ?_ | with_reducible refine r_rng1 ?_ | with_reducible refine r_rng2 ?_ | with_reducible refine t_not ?_ | with_reducible refine t_and ?_ | with_reducible refine t_or ?_ | with_reducible refine t_cmp ?_ | with_reducible refine t_bl ?_ | with_reducible refine t_call ?_ | with_reducible refine t_fld ?_ | with_reducible refine t_idx ?_ | with_reducible refine t_blt ?_ | with_reducible refine c_no ?_ | with_reducible refine c_yes ?_ | with_reducible refine k_add ?_ | with_reducible refine k_sub ?_ | with_reducible refine k_lt ?_ | with_reducible refine k_le ?_ | with_reducible refine k_gt ?_ | with_reducible refine k_ge ?_ | with_reducible refine k_eqi ?_ | with_reducible refine k_nei ?_ | with_reducible refine k_eqs ?_ | with_reducible refine k_nes ?_ | with_reducible refine k_neg ?_ | with_reducible refine b_abs ?_ | with_reducible refine b_strs ?_ | with_reducible refine b_inti ?_ | with_reducible refine b_intb ?_ | with_reducible refine b_max2 ?_ | with_reducible refine b_min2 ?_ | with_reducible refine bl_k ?_ | with_reducible refine str_k ?_ | with_reducible refine br_t ?_ | with_reducible refine br_f ?_ | with_reducible refine o_no ?_ | with_reducible refine l_nx ?_ | with_reducible refine l_ct ?_ | with_reducible refine l_brk ?_ | with_reducible refine l_ret ?_ | with_reducible refine s_sx ?_ | with_reducible refine s_sf ?_ | with_reducible refine okv ?_ | with_reducible refine v_eqi ?_ | with_reducible refine v_inNo ?_ | with_reducible refine v_isi ?_ | with_reducible refine v_lm ?_ | with_reducible refine t_ext ?_ | with_reducible refine s_tr ?_ | ((with_reducible refine v_tup ?_ ?_); exact rfl) | ((with_reducible refine v_lst ?_ ?_); exact rfl) | ((with_reducible refine v_newl ?_ ?_); exact rfl) | ((with_reducible refine k_pow ?_ ?_); exact rfl)))
  refine ⟨_, rfl, rfl, ?_⟩
  generalize S5.set id w3 = S6
  refine for_rule (fun zs e S' => S' = S6 ∧ (∃ w, e = [a0, vi c, some (.val (.ref id)), some (.val (.lst (iL l))), vi p, some (.val (.ref S3.length)), some (.val (plD l p)), vi (gd l p : Nat), some (.val (.tup [.tup (iL (nm l p)), .int (pt l p : Nat)])), vi t, some (.val (.lst [.lst (iL (l ++ [0])), .lst (iL l.reverse), .lst (iL (l.map fun x => x + 1))])), w, a12, a13]) ∧ ∀ d ∈ zs, ∃ o : List Int, d = .lst (iL o) ∧ o.length ≤ 10) (fun _ _ _ _ => rfl) (fun y zs e S' h => ⟨_, rfl, ?_⟩) (fun e S' h => ?_) _ _ _ ⟨rfl, ⟨_, rfl⟩, fun d hd => ?_⟩
  · obtain ⟨rfl, ⟨w, rfl⟩, hz⟩ := h
    obtain ⟨o, rfl, ho⟩ := hz y List.mem_cons_self
    (repeat (first | ((with_reducible refine v_varK ?_); refine varK ?_) | ((with_reducible refine t_varK ?_); refine varK ?_) | with_reducible refine s_cons ?_ | with_reducible refine q_nx ?_ | with_reducible refine q_ret ?_ | with_reducible refine q_brk ?_ | with_reducible refine q_cont ?_ | with_reducible refine r_nx ?_ | with_reducible refine r_ret ?_ | with_reducible refine s_nil ?_ | with_reducible refine s_pass ?_ | with_reducible refine s_brk ?_ | with_reducible refine s_cont ?_ | with_reducible refine s_retN ?_ | with_reducible refine s_exv ?_ | with_reducible refine s_rt ?_ | with_reducible refine s_ifs ?_ | with_reducible refine s_st ?_ | with_reducible refine s_stc ?_ | with_reducible refine s_as ?_ | with_reducible refine s_pr ?_ | with_reducible refine s_fr ?_ | with_reducible refine v_int ?_ | with_reducible refine v_bl ?_ | with_reducible refine v_non ?_ | with_reducible refine v_str ?_ | with_reducible refine v_op ?_ | with_reducible refine v_cmp ?_ | with_reducible refine v_neg ?_ | with_reducible refine v_fld ?_ | with_reducible refine v_rev ?_ | with_reducible refine v_not ?_ | with_reducible refine v_and ?_ | with_reducible refine v_or ?_ | with_reducible refine v_ite ?_ | with_reducible refine l_nil ?_ | with_reducible refine l_cons ?_ | with_reducible refine v_blt ?_ | with_reducible refine v_call ?_ | with_reducible refine v_mkF ?_ | with_reducible refine v_idx ?_ | with_reducible refine v_slc ?_ | with_reducible refine v_join ?_ | with_reducible refine v_fmt ?_ | with_reducible refine j_nil ?_ | with_reducible refine j_cons ?_ | with_reducible refine v_joined ?_ | with_reducible refine v_comp ?_ | with_reducible refine r_seq ?_ | with_reducible refine r_rng1 ?_ | with_reducible refine r_rng2 ?_ | with_reducible refine t_not ?_ | with_reducible refine t_and ?_ | with_reducible refine t_or ?_ | with_reducible refine t_cmp ?_ | with_reducible refine t_bl ?_ | with_reducible refine t_call ?_ | with_reducible refine t_fld ?_ | with_reducible refine t_idx ?_ | with_reducible refine t_blt ?_ | with_reducible refine c_no ?_ | with_reducible refine c_yes ?_ | with_reducible refine k_add ?_ | with_reducible refine k_sub ?_ | with_reducible refine k_lt ?_ | with_reducible refine k_le ?_ | with_reducible refine k_gt ?_ | with_reducible refine k_ge ?_ | with_reducible refine k_eqi ?_ | with_reducible refine k_nei ?_ | with_reducible refine k_eqs ?_ | with_reducible refine k_nes ?_ | with_reducible refine k_neg ?_ | with_reducible refine b_abs ?_ | with_reducible refine b_strs ?_ | with_reducible refine b_inti ?_ | with_reducible refine b_intb ?_ | with_reducible refine b_max2 ?_ | with_reducible refine b_min2 ?_ | with_reducible refine bl_k ?_ | with_reducible refine str_k ?_ | with_reducible refine br_t ?_ | with_reducible refine br_f ?_ | with_reducible refine o_no ?_ | with_reducible refine l_nx ?_ | with_reducible refine l_ct ?_ | with_reducible refine l_brk ?_ | with_reducible refine l_ret ?_ | with_reducible refine s_sx ?_ | with_reducible refine s_sf ?_ | with_reducible refine okv ?_ | with_reducible refine v_eqi ?_ | with_reducible refine v_inNo ?_ | with_reducible refine v_isi ?_ | with_reducible refine v_lm ?_ | with_reducible refine t_ext ?_ | with_reducible refine s_tr ?_ | ((with_reducible refine v_tup ?_ ?_); exact rfl) | ((with_reducible refine v_lst ?_ ?_); exact rfl) | ((with_reducible refine v_newl ?_ ?_); exact rfl) | ((with_reducible refine k_pow ?_ ?_); exact rfl)))
    refine places_w (k := k + 2) F.toFPl (l := o) (p := p) rfl rfl (by omega) hp (by omega) ?_
    (repeat (first | ((with_reducible refine v_varK ?_); refine varK ?_) | ((with_reducible refine t_varK ?_); refine varK ?_) | with_reducible refine s_cons ?_ | with_reducible refine q_nx ?_ | with_reducible refine q_ret ?_ | with_reducible refine q_brk ?_ | with_reducible refine q_cont ?_ | with_reducible refine r_nx ?_ | with_reducible refine r_ret ?_ | with_reducible refine s_nil ?_ | with_reducible refine s_pass ?_ | with_reducible refine s_brk ?_ | with_reducible refine s_cont ?_ | with_reducible refine s_retN ?_ | with_reducible refine s_exv ?_ | with_reducible refine s_rt ?_ | with_reducible refine s_ifs ?_ | with_reducible refine s_st ?_ | with_reducible refine s_stc ?_ | with_reducible refine s_as ?_ | with_reducible refine s_pr ?_ | with_reducible refine s_fr ?_ | with_reducible refine v_int ?_ | with_reducible refine v_bl ?_ | with_reducible refine v_non ?_ | with_reducible refine v_str ?_ | with_reducible refine v_op ?_ | with_reducible refine v_cmp ?_ | with_reducible refine v_neg ?_ | with_reducible refine v_fld ?_ | with_reducible refine v_rev ?_ | with_reducible refine v_not ?_ | with_reducible refine v_and ?_ | with_reducible refine v_or ?_ | with_reducible refine v_ite ?_ | with_reducible refine l_nil ?_ | with_reducible refine l_cons ?_ | with_reducible refine v_blt ?_ | with_reducible refine v_call ?_ | with_reducible refine v_mkF ?_ | with_reducible refine v_idx ?_ | with_reducible refine v_slc ?_ | with_reducible refine v_join ?_ | with_reducible refine v_fmt ?_ | with_reducible refine j_nil ?_ | with_reducible refine j_cons ?_ | with_reducible refine v_joined ?_ | with_reducible refine v_comp ?_ | with_reducible refine r_seq ?_ | with_reducible refine r_rng1 ?_ | with_reducible refine r_rng2 ?_ | with_reducible refine t_not ?_ | with_reducible refine t_and ?_ | with_reducible refine t_or ?_ | with_reducible refine t_cmp ?_ | with_reducible refine t_bl ?_ | with_reducible refine t_call ?_ | with_reducible refine t_fld ?_ | with_reducible refine t_idx ?_ | with_reducible refine t_blt ?_ | with_reducible refine c_no ?_ | with_reducible refine c_yes ?_ | with_reducible refine k_add ?_ | with_reducible refine k_sub ?_ | with_reducible refine k_lt ?_ | with_reducible refine k_le ?_ | with_reducible refine k_gt ?_ | with_reducible refine k_ge ?_ | with_reducible refine k_eqi ?_ | with_reducible refine k_nei ?_ | with_reducible refine k_eqs ?_ | with_reducible refine k_nes ?_ | with_reducible refine k_neg ?_ | with_reducible refine b_abs ?_ | with_reducible refine b_strs ?_ | with_reducible refine b_inti ?_ | with_reducible refine b_intb ?_ | with_reducible refine b_max2 ?_ | with_reducible refine b_min2 ?_ | with_reducible refine bl_k ?_ | with_reducible refine str_k ?_ | with_reducible refine br_t ?_ | with_reducible refine br_f ?_ | with_reducible refine o_no ?_ | with_reducible refine l_nx ?_ | with_reducible refine l_ct ?_ | with_reducible refine l_brk ?_ | with_reducible refine l_ret ?_ | with_reducible refine s_sx ?_ | with_reducible refine s_sf ?_ | with_reducible refine okv ?_ | with_reducible refine v_eqi ?_ | with_reducible refine v_inNo ?_ | with_reducible refine v_isi ?_ | with_reducible refine v_lm ?_ | with_reducible refine t_ext ?_ | with_reducible refine s_tr ?_ | ((with_reducible refine v_tup ?_ ?_); exact rfl) | ((with_reducible refine v_lst ?_ ?_); exact rfl) | ((with_reducible refine v_newl ?_ ?_); exact rfl) | ((with_reducible refine k_pow ?_ ?_); exact rfl)))
    refine k_eqin (i := 137) F.e (pleq_w (k := k + 3) F.toFPl ?_)
    refine ⟨_, rfl, ?_⟩
    (repeat (first | ((with_reducible refine v_varK ?_); refine varK ?_) | ((with_reducible refine t_varK ?_); refine varK ?_) | with_reducible refine s_cons ?_ | with_reducible refine q_nx ?_ | with_reducible refine q_ret ?_ | with_reducible refine q_brk ?_ | with_reducible refine q_cont ?_ | with_reducible refine r_nx ?_ | with_reducible refine r_ret ?_ | with_reducible refine s_nil ?_ | with_reducible refine s_pass ?_ | with_reducible refine s_brk ?_ | with_reducible refine s_cont ?_ | with_reducible refine s_retN ?_ | with_reducible refine s_exv ?_ | with_reducible refine s_rt ?_ | with_reducible refine s_ifs ?_ | with_reducible refine s_st ?_ | with_reducible refine s_stc ?_ | with_reducible refine s_as ?_ | with_reducible refine s_pr ?_ | with_reducible refine s_fr ?_ | with_reducible refine v_int ?_ | with_reducible refine v_bl ?_ | with_reducible refine v_non ?_ | with_reducible refine v_str ?_ | with_reducible refine v_op ?_ | with_reducible refine v_cmp ?_ | with_reducible refine v_neg ?_ | with_reducible refine v_fld ?_ | with_reducible refine v_rev ?_ | with_reducible refine v_not ?_ | with_reducible refine v_and ?_ | with_reducible refine v_or ?_ | with_reducible refine v_ite ?_ | with_reducible refine l_nil ?_ | with_reducible refine l_cons ?_ | with_reducible refine v_blt ?_ | with_reducible refine v_call ?_ | with_reducible refine v_mkF ?_ | with_reducible refine v_idx ?_ | with_reducible refine v_slc ?_ | with_reducible refine v_join ?_ | with_reducible refine v_fmt ?_ | with_reducible refine j_nil ?_ | with_reducible refine j_cons ?_ | with_reducible refine v_joined ?_ | with_reducible refine v_comp ?_ | with_reducible refine r_seq ?_ | with_reducible refine r_rng1 ?_ | with_reducible refine r_rng2 ?_ | with_reducible refine t_not ?_ | with_reducible refine t_and ?_ | with_reducible refine t_or ?_ | with_reducible refine t_cmp ?_ | with_reducible refine t_bl ?_ | with_reducible refine t_call ?_ | with_reducible refine t_fld ?_ | with_reducible refine t_idx ?_ | with_reducible refine t_blt ?_ | with_reducible refine c_no ?_ | with_reducible refine c_yes ?_ | with_reducible refine k_add ?_ | with_reducible refine k_sub ?_ | with_reducible refine k_lt ?_ | with_reducible refine k_le ?_ | with_reducible refine k_gt ?_ | with_reducible refine k_ge ?_ | with_reducible refine k_eqi ?_ | with_reducible refine k_nei ?_ | with_reducible refine k_eqs ?_ | with_reducible refine k_nes ?_ | with_reducible refine k_neg ?_ | with_reducible refine b_abs ?_ | with_reducible refine b_strs ?_ | with_reducible refine b_inti ?_ | with_reducible refine b_intb ?_ | with_reducible refine b_max2 ?_ | with_reducible refine b_min2 ?_ | with_reducible refine bl_k ?_ | with_reducible refine str_k ?_ | with_reducible refine br_t ?_ | with_reducible refine br_f ?_ | with_reducible refine o_no ?_ | with_reducible refine l_nx ?_ | with_reducible refine l_ct ?_ | with_reducible refine l_brk ?_ | with_reducible refine l_ret ?_ | with_reducible refine s_sx ?_ | with_reducible refine s_sf ?_ | with_reducible refine okv ?_ | with_reducible refine v_eqi ?_ | with_reducible refine v_inNo ?_ | with_reducible refine v_isi ?_ | with_reducible refine v_lm ?_ | with_reducible refine t_ext ?_ | with_reducible refine s_tr ?_ | ((with_reducible refine v_tup ?_ ?_); exact rfl) | ((with_reducible refine v_lst ?_ ?_); exact rfl) | ((with_reducible refine v_newl ?_ ?_); exact rfl) | ((with_reducible refine k_pow ?_ ?_); exact rfl)))
    refine k_eqL ?_
    (repeat (first | ((with_reducible refine v_varK ?_); refine varK ?_) | ((with_reducible refine t_varK ?_); refine varK ?_) | with_reducible refine s_cons ?_ | with_reducible refine q_nx ?_ | with_reducible refine q_ret ?_ | with_reducible refine q_brk ?_ | with_reducible refine q_cont ?_ | with_reducible refine r_nx ?_ | with_reducible refine r_ret ?_ | with_reducible refine s_nil ?_ | with_reducible refine s_pass ?_ | with_reducible refine s_brk ?_ | with_reducible refine s_cont ?_ | with_reducible refine s_retN ?_ | with_reducible refine s_exv ?_ | with_reducible refine s_rt ?_ | with_reducible refine s_ifs ?_ | with_reducible refine s_st ?_ | with_reducible refine s_stc ?_ | with_reducible refine s_as ?_ | with_reducible refine s_pr ?_ | with_reducible refine s_fr ?_ | with_reducible refine v_int ?_ | with_reducible refine v_bl ?_ | with_reducible refine v_non ?_ | with_reducible refine v_str ?_ | with_reducible refine v_op ?_ | with_reducible refine v_cmp ?_ | with_reducible refine v_neg ?_ | with_reducible refine v_fld ?_ | with_reducible refine v_rev ?_ | with_reducible refine v_not ?_ | with_reducible refine v_and ?_ | with_reducible refine v_or ?_ | with_reducible refine v_ite ?_ | with_reducible refine l_nil ?_ | with_reducible refine l_cons ?_ | with_reducible refine v_blt ?_ | with_reducible refine v_call ?_ | with_reducible refine v_mkF ?_ | with_reducible refine v_idx ?_ | with_reducible refine v_slc ?_ | with_reducible refine v_join ?_ | with_reducible refine v_fmt ?_ | with_reducible refine j_nil ?_ | with_reducible refine j_cons ?_ | with_reducible refine v_joined ?_ | with_reducible refine v_comp ?_ | with_reducible refine r_seq ?_ | with_reducible refine r_rng1 ?_ | with_reducible refine r_rng2 ?_ | with_reducible refine t_not ?_ | with_reducible refine t_and ?_ | with_reducible refine t_or ?_ | with_reducible refine t_cmp ?_ | with_reducible refine t_bl ?_ | with_reducible refine t_call ?_ | with_reducible refine t_fld ?_ | with_reducible refine t_idx ?_ | with_reducible refine t_blt ?_ | with_reducible refine c_no ?_ | with_reducible refine c_yes ?_ | with_reducible refine k_add ?_ | with_reducible refine k_sub ?_ | with_reducible refine k_lt ?_ | with_reducible refine k_le ?_ | with_reducible refine k_gt ?_ | with_reducible refine k_ge ?_ | with_reducible refine k_eqi ?_ | with_reducible refine k_nei ?_ | with_reducible refine k_eqs ?_ | with_reducible refine k_nes ?_ | with_reducible refine k_neg ?_ | with_reducible refine b_abs ?_ | with_reducible refine b_strs ?_ | with_reducible refine b_inti ?_ | with_reducible refine b_intb ?_ | with_reducible refine b_max2 ?_ | with_reducible refine b_min2 ?_ | with_reducible refine bl_k ?_ | with_reducible refine str_k ?_ | with_reducible refine br_t ?_ | with_reducible refine br_f ?_ | with_reducible refine o_no ?_ | with_reducible refine l_nx ?_ | with_reducible refine l_ct ?_ | with_reducible refine l_brk ?_ | with_reducible refine l_ret ?_ | with_reducible refine s_sx ?_ | with_reducible refine s_sf ?_ | with_reducible refine okv ?_ | with_reducible refine v_eqi ?_ | with_reducible refine v_inNo ?_ | with_reducible refine v_isi ?_ | with_reducible refine v_lm ?_ | with_reducible refine t_ext ?_ | with_reducible refine s_tr ?_ | ((with_reducible refine v_tup ?_ ?_); exact rfl) | ((with_reducible refine v_lst ?_ ?_); exact rfl) | ((with_reducible refine v_newl ?_ ?_); exact rfl) | ((with_reducible refine k_pow ?_ ?_); exact rfl)))
    refine k_neB ?_
    (repeat (first | ((with_reducible refine v_varK ?_); refine varK ?_) | ((with_reducible refine t_varK ?_); refine varK ?_) | with_reducible refine s_cons ?_ | with_reducible refine q_nx ?_ | with_reducible refine q_ret ?_ | with_reducible refine q_brk ?_ | with_reducible refine q_cont ?_ | with_reducible refine r_nx ?_ | with_reducible refine r_ret ?_ | with_reducible refine s_nil ?_ | with_reducible refine s_pass ?_ | with_reducible refine s_brk ?_ | with_reducible refine s_cont ?_ | with_reducible refine s_retN ?_ | with_reducible refine s_exv ?_ | with_reducible refine s_rt ?_ | with_reducible refine s_ifs ?_ | with_reducible refine s_st ?_ | with_reducible refine s_stc ?_ | with_reducible refine s_as ?_ | with_reducible refine s_pr ?_ | with_reducible refine s_fr ?_ | with_reducible refine v_int ?_ | with_reducible refine v_bl ?_ | with_reducible refine v_non ?_ | with_reducible refine v_str ?_ | with_reducible refine v_op ?_ | with_reducible refine v_cmp ?_ | with_reducible refine v_neg ?_ | with_reducible refine v_fld ?_ | with_reducible refine v_rev ?_ | with_reducible refine v_not ?_ | with_reducible refine v_and ?_ | with_reducible refine v_or ?_ | with_reducible refine v_ite ?_ | with_reducible refine l_nil ?_ | with_reducible refine l_cons ?_ | with_reducible refine v_blt ?_ | with_reducible refine v_call ?_ | with_reducible refine v_mkF ?_ | with_reducible refine v_idx ?_ | with_reducible refine v_slc ?_ | with_reducible refine v_join ?_ | with_reducible refine v_fmt ?_ | with_reducible refine j_nil ?_ | with_reducible refine j_cons ?_ | with_reducible refine v_joined ?_ | with_reducible refine v_comp ?_ | with_reducible refine r_seq ?_ | with_reducible refine r_rng1 ?_ | with_reducible refine r_rng2 ?_ | with_reducible refine t_not ?_ | with_reducible refine t_and ?_ | with_reducible refine t_or ?_ | with_reducible refine t_cmp ?_ | with_reducible refine t_bl ?_ | with_reducible refine t_call ?_ | with_reducible refine t_fld ?_ | with_reducible refine t_idx ?_ | with_reducible refine t_blt ?_ | with_reducible refine c_no ?_ | with_reducible refine c_yes ?_ | with_reducible refine k_add ?_ | with_reducible refine k_sub ?_ | with_reducible refine k_lt ?_ | with_reducible refine k_le ?_ | with_reducible refine k_gt ?_ | with_reducible refine k_ge ?_ | with_reducible refine k_eqi ?_ | with_reducible refine k_nei ?_ | with_reducible refine k_eqs ?_ | with_reducible refine k_nes ?_ | with_reducible refine k_neg ?_ | with_reducible refine b_abs ?_ | with_reducible refine b_strs ?_ | with_reducible refine b_inti ?_ | with_reducible refine b_intb ?_ | with_reducible refine b_max2 ?_ | with_reducible refine b_min2 ?_ | with_reducible refine bl_k ?_ | with_reducible refine str_k ?_ | with_reducible refine br_t ?_ | with_reducible refine br_f ?_ | with_reducible refine o_no ?_ | with_reducible refine l_nx ?_ | with_reducible refine l_ct ?_ | with_reducible refine l_brk ?_ | with_reducible refine l_ret ?_ | with_reducible refine s_sx ?_ | with_reducible refine s_sf ?_ | with_reducible refine okv ?_ | with_reducible refine v_eqi ?_ | with_reducible refine v_inNo ?_ | with_reducible refine v_isi ?_ | with_reducible refine v_lm ?_ | with_reducible refine t_ext ?_ | with_reducible refine s_tr ?_ | ((with_reducible refine v_tup ?_ ?_); exact rfl) | ((with_reducible refine v_lst ?_ ?_); exact rfl) | ((with_reducible refine v_newl ?_ ?_); exact rfl) | ((with_reducible refine k_pow ?_ ?_); exact rfl)))
    have e9 : decide (nm l p = nm o p ∧ pt l p = pt o p) = decide (o = l) := by
      congr 1
      exact propext ((same_parts hp).trans eq_comm)
    refine br_no (by rw [e9]; simp) ?_
    (repeat (first | ((with_reducible refine v_varK ?_); refine varK ?_) | ((with_reducible refine t_varK ?_); refine varK ?_) | with_reducible refine s_cons ?_ | with_reducible refine q_nx ?_ | with_reducible refine q_ret ?_ | with_reducible refine q_brk ?_ | with_reducible refine q_cont ?_ | with_reducible refine r_nx ?_ | with_reducible refine r_ret ?_ | with_reducible refine s_nil ?_ | with_reducible refine s_pass ?_ | with_reducible refine s_brk ?_ | with_reducible refine s_cont ?_ | with_reducible refine s_retN ?_ | with_reducible refine s_exv ?_ | with_reducible refine s_rt ?_ | with_reducible refine s_ifs ?_ | with_reducible refine s_st ?_ | with_reducible refine s_stc ?_ | with_reducible refine s_as ?_ | with_reducible refine s_pr ?_ | with_reducible refine s_fr ?_ | with_reducible refine v_int ?_ | with_reducible refine v_bl ?_ | with_reducible refine v_non ?_ | with_reducible refine v_str ?_ | with_reducible refine v_op ?_ | with_reducible refine v_cmp ?_ | with_reducible refine v_neg ?_ | with_reducible refine v_fld ?_ | with_reducible refine v_rev ?_ | with_reducible refine v_not ?_ | with_reducible refine v_and ?_ | with_reducible refine v_or ?_ | with_reducible refine v_ite ?_ | with_reducible refine l_nil ?_ | with_reducible refine l_cons ?_ | with_reducible refine v_blt ?_ | with_reducible refine v_call ?_ | with_reducible refine v_mkF ?_ | with_reducible refine v_idx ?_ | with_reducible refine v_slc ?_ | with_reducible refine v_join ?_ | with_reducible refine v_fmt ?_ | with_reducible refine j_nil ?_ | with_reducible refine j_cons ?_ | with_reducible refine v_joined ?_ | with_reducible refine v_comp ?_ | with_reducible refine r_seq ?_ | with_reducible refine r_rng1 ?_ | with_reducible refine r_rng2 ?_ | with_reducible refine t_not ?_ | with_reducible refine t_and ?_ | with_reducible refine t_or ?_ | with_reducible refine t_cmp ?_ | with_reducible refine t_bl ?_ | with_reducible refine t_call ?_ | with_reducible refine t_fld ?_ | with_reducible refine t_idx ?_ | with_reducible refine t_blt ?_ | with_reducible refine c_no ?_ | with_reducible refine c_yes ?_ | with_reducible refine k_add ?_ | with_reducible refine k_sub ?_ | with_reducible refine k_lt ?_ | with_reducible refine k_le ?_ | with_reducible refine k_gt ?_ | with_reducible refine k_ge ?_ | with_reducible refine k_eqi ?_ | with_reducible refine k_nei ?_ | with_reducible refine k_eqs ?_ | with_reducible refine k_nes ?_ | with_reducible refine k_neg ?_ | with_reducible refine b_abs ?_ | with_reducible refine b_strs ?_ | with_reducible refine b_inti ?_ | with_reducible refine b_intb ?_ | with_reducible refine b_max2 ?_ | with_reducible refine b_min2 ?_ | with_reducible refine bl_k ?_ | with_reducible refine str_k ?_ | with_reducible refine br_t ?_ | with_reducible refine br_f ?_ | with_reducible refine o_no ?_ | with_reducible refine l_nx ?_ | with_reducible refine l_ct ?_ | with_reducible refine l_brk ?_ | with_reducible refine l_ret ?_ | with_reducible refine s_sx ?_ | with_reducible refine s_sf ?_ | with_reducible refine okv ?_ | with_reducible refine v_eqi ?_ | with_reducible refine v_inNo ?_ | with_reducible refine v_isi ?_ | with_reducible refine v_lm ?_ | with_reducible refine t_ext ?_ | with_reducible refine s_tr ?_ | ((with_reducible refine v_tup ?_ ?_); exact rfl) | ((with_reducible refine v_lst ?_ ?_); exact rfl) | ((with_reducible refine v_newl ?_ ?_); exact rfl) | ((with_reducible refine k_pow ?_ ?_); exact rfl)))
    exact ⟨rfl, ⟨_, rfl⟩, fun d hd => hz d (List.mem_cons_of_mem _ hd)⟩
  · obtain ⟨rfl, ⟨w, rfl⟩, hz⟩ := h
    (repeat (first | ((with_reducible refine v_varK ?_); refine varK ?_) | ((with_reducible refine t_varK ?_); refine varK ?_) | with_reducible refine s_cons ?_ | with_reducible refine q_nx ?_ | with_reducible refine q_ret ?_ | with_reducible refine q_brk ?_ | with_reducible refine q_cont ?_ | with_reducible refine r_nx ?_ | with_reducible refine r_ret ?_ | with_reducible refine s_nil ?_ | with_reducible refine s_pass ?_ | with_reducible refine s_brk ?_ | with_reducible refine s_cont ?_ | with_reducible refine s_retN ?_ | with_reducible refine s_exv ?_ | with_reducible refine s_rt ?_ | with_reducible refine s_ifs ?_ | with_reducible refine s_st ?_ | with_reducible refine s_stc ?_ | with_reducible refine s_as ?_ | with_reducible refine s_pr ?_ | with_reducible refine s_fr ?_ | with_reducible refine v_int ?_ | with_reducible refine v_bl ?_ | with_reducible refine v_non ?_ | with_reducible refine v_str ?_ | with_reducible refine v_op ?_ | with_reducible refine v_cmp ?_ | with_reducible refine v_neg ?_ | with_reducible refine v_fld ?_ | with_reducible refine v_rev ?_ | with_reducible refine v_not ?_ | with_reducible refine v_and ?_ | with_reducible refine v_or ?_ | with_reducible refine v_ite ?_ | with_reducible refine l_nil ?_ | with_reducible refine l_cons ?_ | with_reducible refine v_blt ?_ | with_reducible refine v_call ?_ | with_reducible refine v_mkF ?_ | with_reducible refine v_idx ?_ | with_reducible refine v_slc ?_ | with_reducible refine v_join ?_ | with_reducible refine v_fmt ?_ | with_reducible refine j_nil ?_ | with_reducible refine j_cons ?_ | with_reducible refine v_joined ?_ | with_reducible refine v_comp ?_ | with_reducible refine r_seq ?_ | with_reducible refine r_rng1 ?_ | with_reducible refine r_rng2 ?_ | with_reducible refine t_not ?_ | with_reducible refine t_and ?_ | with_reducible refine t_or ?_ | with_reducible refine t_cmp ?_ | with_reducible refine t_bl ?_ | with_reducible refine t_call ?_ | with_reducible refine t_fld ?_ | with_reducible refine t_idx ?_ | with_reducible refine t_blt ?_ | with_reducible refine c_no ?_ | with_reducible refine c_yes ?_ | with_reducible refine k_add ?_ | with_reducible refine k_sub ?_ | with_reducible refine k_lt ?_ | with_reducible refine k_le ?_ | with_reducible refine k_gt ?_ | with_reducible refine k_ge ?_ | with_reducible refine k_eqi ?_ | with_reducible refine k_nei ?_ | with_reducible refine k_eqs ?_ | with_reducible refine k_nes ?_ | with_reducible refine k_neg ?_ | with_reducible refine b_abs ?_ | with_reducible refine b_strs ?_ | with_reducible refine b_inti ?_ | with_reducible refine b_intb ?_ | with_reducible refine b_max2 ?_ | with_reducible refine b_min2 ?_ | with_reducible refine bl_k ?_ | with_reducible refine str_k ?_ | with_reducible refine br_t ?_ | with_reducible refine br_f ?_ | with_reducible refine o_no ?_ | with_reducible refine l_nx ?_ | with_reducible refine l_ct ?_ | with_reducible refine l_brk ?_ | with_reducible refine l_ret ?_ | with_reducible refine s_sx ?_ | with_reducible refine s_sf ?_ | with_reducible refine okv ?_ | with_reducible refine v_eqi ?_ | with_reducible refine v_inNo ?_ | with_reducible refine v_isi ?_ | with_reducible refine v_lm ?_ | with_reducible refine t_ext ?_ | with_reducible refine s_tr ?_ | ((with_reducible refine v_tup ?_ ?_); exact rfl) | ((with_reducible refine v_lst ?_ ?_); exact rfl) | ((with_reducible refine v_newl ?_ ?_); exact rfl) | ((with_reducible refine k_pow ?_ ?_); exact rfl)))
    have ep : (p : Int) + 1 = ((p + 1 : Nat) : Int) := rfl
    rw [ep]
    have hz1 : (p + 1).log2 < 9000 := by
      have : p + 1 < 2 ^ 91 := Nat.lt_of_le_of_lt (Nat.succ_le_of_lt hp1) (by decide)
      have := log2_lt this (by decide)
      omega
    refine places_w (k := k + 2) F.toFPl (l := l) (p := p + 1) rfl rfl (by omega) (Nat.succ_pos p) hz1 ?_
    (repeat (first | ((with_reducible refine v_varK ?_); refine varK ?_) | ((with_reducible refine t_varK ?_); refine varK ?_) | with_reducible refine s_cons ?_ | with_reducible refine q_nx ?_ | with_reducible refine q_ret ?_ | with_reducible refine q_brk ?_ | with_reducible refine q_cont ?_ | with_reducible refine r_nx ?_ | with_reducible refine r_ret ?_ | with_reducible refine s_nil ?_ | with_reducible refine s_pass ?_ | with_reducible refine s_brk ?_ | with_reducible refine s_cont ?_ | with_reducible refine s_retN ?_ | with_reducible refine s_exv ?_ | with_reducible refine s_rt ?_ | with_reducible refine s_ifs ?_ | with_reducible refine s_st ?_ | with_reducible refine s_stc ?_ | with_reducible refine s_as ?_ | with_reducible refine s_pr ?_ | with_reducible refine s_fr ?_ | with_reducible refine v_int ?_ | with_reducible refine v_bl ?_ | with_reducible refine v_non ?_ | with_reducible refine v_str ?_ | with_reducible refine v_op ?_ | with_reducible refine v_cmp ?_ | with_reducible refine v_neg ?_ | with_reducible refine v_fld ?_ | with_reducible refine v_rev ?_ | with_reducible refine v_not ?_ | with_reducible refine v_and ?_ | with_reducible refine v_or ?_ | with_reducible refine v_ite ?_ | with_reducible refine l_nil ?_ | with_reducible refine l_cons ?_ | with_reducible refine v_blt ?_ | with_reducible refine v_call ?_ | with_reducible refine v_mkF ?_ | with_reducible refine v_idx ?_ | with_reducible refine v_slc ?_ | with_reducible refine v_join ?_ | with_reducible refine v_fmt ?_ | with_reducible refine j_nil ?_ | with_reducible refine j_cons ?_ | with_reducible refine v_joined ?_ | with_reducible refine v_comp ?_ | with_reducible refine r_seq ?_ | with_reducible refine r_rng1 ?_ | with_reducible refine r_rng2 ?_ | with_reducible refine t_not ?_ | with_reducible refine t_and ?_ | with_reducible refine t_or ?_ | with_reducible refine t_cmp ?_ | with_reducible refine t_bl ?_ | with_reducible refine t_call ?_ | with_reducible refine t_fld ?_ | with_reducible refine t_idx ?_ | with_reducible refine t_blt ?_ | with_reducible refine c_no ?_ | with_reducible refine c_yes ?_ | with_reducible refine k_add ?_ | with_reducible refine k_sub ?_ | with_reducible refine k_lt ?_ | with_reducible refine k_le ?_ | with_reducible refine k_gt ?_ | with_reducible refine k_ge ?_ | with_reducible refine k_eqi ?_ | with_reducible refine k_nei ?_ | with_reducible refine k_eqs ?_ | with_reducible refine k_nes ?_ | with_reducible refine k_neg ?_ | with_reducible refine b_abs ?_ | with_reducible refine b_strs ?_ | with_reducible refine b_inti ?_ | with_reducible refine b_intb ?_ | with_reducible refine b_max2 ?_ | with_reducible refine b_min2 ?_ | with_reducible refine bl_k ?_ | with_reducible refine str_k ?_ | with_reducible refine br_t ?_ | with_reducible refine br_f ?_ | with_reducible refine o_no ?_ | with_reducible refine l_nx ?_ | with_reducible refine l_ct ?_ | with_reducible refine l_brk ?_ | with_reducible refine l_ret ?_ | with_reducible refine s_sx ?_ | with_reducible refine s_sf ?_ | with_reducible refine okv ?_ | with_reducible refine v_eqi ?_ | with_reducible refine v_inNo ?_ | with_reducible refine v_isi ?_ | with_reducible refine v_lm ?_ | with_reducible refine t_ext ?_ | with_reducible refine s_tr ?_ | ((with_reducible refine v_tup ?_ ?_); exact rfl) | ((with_reducible refine v_lst ?_ ?_); exact rfl) | ((with_reducible refine v_newl ?_ ?_); exact rfl) | ((with_reducible refine k_pow ?_ ?_); exact rfl)))
    refine k_eqin (i := 137) F.e (pleq_w (k := k + 3) F.toFPl ?_)
    refine ⟨_, rfl, ?_⟩
    (repeat (first | ((with_reducible refine v_varK ?_); refine varK ?_) | ((with_reducible refine t_varK ?_); refine varK ?_) | with_reducible refine s_cons ?_ | with_reducible refine q_nx ?_ | with_reducible refine q_ret ?_ | with_reducible refine q_brk ?_ | with_reducible refine q_cont ?_ | with_reducible refine r_nx ?_ | with_reducible refine r_ret ?_ | with_reducible refine s_nil ?_ | with_reducible refine s_pass ?_ | with_reducible refine s_brk ?_ | with_reducible refine s_cont ?_ | with_reducible refine s_retN ?_ | with_reducible refine s_exv ?_ | with_reducible refine s_rt ?_ | with_reducible refine s_ifs ?_ | with_reducible refine s_st ?_ | with_reducible refine s_stc ?_ | with_reducible refine s_as ?_ | with_reducible refine s_pr ?_ | with_reducible refine s_fr ?_ | with_reducible refine v_int ?_ | with_reducible refine v_bl ?_ | with_reducible refine v_non ?_ | with_reducible refine v_str ?_ | with_reducible refine v_op ?_ | with_reducible refine v_cmp ?_ | with_reducible refine v_neg ?_ | with_reducible refine v_fld ?_ | with_reducible refine v_rev ?_ | with_reducible refine v_not ?_ | with_reducible refine v_and ?_ | with_reducible refine v_or ?_ | with_reducible refine v_ite ?_ | with_reducible refine l_nil ?_ | with_reducible refine l_cons ?_ | with_reducible refine v_blt ?_ | with_reducible refine v_call ?_ | with_reducible refine v_mkF ?_ | with_reducible refine v_idx ?_ | with_reducible refine v_slc ?_ | with_reducible refine v_join ?_ | with_reducible refine v_fmt ?_ | with_reducible refine j_nil ?_ | with_reducible refine j_cons ?_ | with_reducible refine v_joined ?_ | with_reducible refine v_comp ?_ | with_reducible refine r_seq ?_ | with_reducible refine r_rng1 ?_ | with_reducible refine r_rng2 ?_ | with_reducible refine t_not ?_ | with_reducible refine t_and ?_ | with_reducible refine t_or ?_ | with_reducible refine t_cmp ?_ | with_reducible refine t_bl ?_ | with_reducible refine t_call ?_ | with_reducible refine t_fld ?_ | with_reducible refine t_idx ?_ | with_reducible refine t_blt ?_ | with_reducible refine c_no ?_ | with_reducible refine c_yes ?_ | with_reducible refine k_add ?_ | with_reducible refine k_sub ?_ | with_reducible refine k_lt ?_ | with_reducible refine k_le ?_ | with_reducible refine k_gt ?_ | with_reducible refine k_ge ?_ | with_reducible refine k_eqi ?_ | with_reducible refine k_nei ?_ | with_reducible refine k_eqs ?_ | with_reducible refine k_nes ?_ | with_reducible refine k_neg ?_ | with_reducible refine b_abs ?_ | with_reducible refine b_strs ?_ | with_reducible refine b_inti ?_ | with_reducible refine b_intb ?_ | with_reducible refine b_max2 ?_ | with_reducible refine b_min2 ?_ | with_reducible refine bl_k ?_ | with_reducible refine str_k ?_ | with_reducible refine br_t ?_ | with_reducible refine br_f ?_ | with_reducible refine o_no ?_ | with_reducible refine l_nx ?_ | with_reducible refine l_ct ?_ | with_reducible refine l_brk ?_ | with_reducible refine l_ret ?_ | with_reducible refine s_sx ?_ | with_reducible refine s_sf ?_ | with_reducible refine okv ?_ | with_reducible refine v_eqi ?_ | with_reducible refine v_inNo ?_ | with_reducible refine v_isi ?_ | with_reducible refine v_lm ?_ | with_reducible refine t_ext ?_ | with_reducible refine s_tr ?_ | ((with_reducible refine v_tup ?_ ?_); exact rfl) | ((with_reducible refine v_lst ?_ ?_); exact rfl) | ((with_reducible refine v_newl ?_ ?_); exact rfl) | ((with_reducible refine k_pow ?_ ?_); exact rfl)))
    refine ⟨iL l, rfl, Nat.le_trans (m := 6) (by rw [iL_len]; exact hl) (by decide), ?_⟩
    refine W_of (comp_fil (fun x => !decide (x = 0)) rfl fun x hx => ⟨_, rfl, ?_, ?_⟩) ?_
    · (repeat (first | ((with_reducible refine v_varK ?_); refine varK ?_) | ((with_reducible refine t_varK ?_); refine varK ?_) | with_reducible refine s_cons ?_ | with_reducible refine q_nx ?_ | with_reducible refine q_ret ?_ | with_reducible refine q_brk ?_ | with_reducible refine q_cont ?_ | with_reducible refine r_nx ?_ | with_reducible refine r_ret ?_ | with_reducible refine s_nil ?_ | with_reducible refine s_pass ?_ | with_reducible refine s_brk ?_ | with_reducible refine s_cont ?_ | with_reducible refine s_retN ?_ | with_reducible refine s_exv ?_ | with_reducible refine s_rt ?_ | with_reducible refine s_ifs ?_ | with_reducible refine s_st ?_ | with_reducible refine s_stc ?_ | with_reducible refine s_as ?_ | with_reducible refine s_pr ?_ | with_reducible refine s_fr ?_ | with_reducible refine v_int ?_ | with_reducible refine v_bl ?_ | with_reducible refine v_non ?_ | with_reducible refine v_str ?_ | with_reducible refine v_op ?_ | with_reducible refine v_cmp ?_ | with_reducible refine v_neg ?_ | with_reducible refine v_fld ?_ | with_reducible refine v_rev ?_ | with_reducible refine v_not ?_ | with_reducible refine v_and ?_ | with_reducible refine v_or ?_ | with_reducible refine v_ite ?_ | with_reducible refine l_nil ?_ | with_reducible refine l_cons ?_ | with_reducible refine v_blt ?_ | with_reducible refine v_call ?_ | with_reducible refine v_mkF ?_ | with_reducible refine v_idx ?_ | with_reducible refine v_slc ?_ | with_reducible refine v_join ?_ | with_reducible refine v_fmt ?_ | with_reducible refine j_nil ?_ | with_reducible refine j_cons ?_ | with_reducible refine v_joined ?_ | with_reducible refine v_comp ?_ | with_reducible refine r_seq ?_ | with_reducible refine r_rng1 ?_ | with_reducible refine r_rng2 ?_ | with_reducible refine t_not ?_ | with_reducible refine t_and ?_ | with_reducible refine t_or ?_ | with_reducible refine t_cmp ?_ | with_reducible refine t_bl ?_ | with_reducible refine t_call ?_ | with_reducible refine t_fld ?_ | with_reducible refine t_idx ?_ | with_reducible refine t_blt ?_ | with_reducible refine c_no ?_ | with_reducible refine c_yes ?_ | with_reducible refine k_add ?_ | with_reducible refine k_sub ?_ | with_reducible refine k_lt ?_ | with_reducible refine k_le ?_ | with_reducible refine k_gt ?_ | with_reducible refine k_ge ?_ | with_reducible refine k_eqi ?_ | with_reducible refine k_nei ?_ | with_reducible refine k_eqs ?_ | with_reducible refine k_nes ?_ | with_reducible refine k_neg ?_ | with_reducible refine b_abs ?_ | with_reducible refine b_strs ?_ | with_reducible refine b_inti ?_ | with_reducible refine b_intb ?_ | with_reducible refine b_max2 ?_ | with_reducible refine b_min2 ?_ | with_reducible refine bl_k ?_ | with_reducible refine str_k ?_ | with_reducible refine br_t ?_ | with_reducible refine br_f ?_ | with_reducible refine o_no ?_ | with_reducible refine l_nx ?_ | with_reducible refine l_ct ?_ | with_reducible refine l_brk ?_ | with_reducible refine l_ret ?_ | with_reducible refine s_sx ?_ | with_reducible refine s_sf ?_ | with_reducible refine okv ?_ | with_reducible refine v_eqi ?_ | with_reducible refine v_inNo ?_ | with_reducible refine v_isi ?_ | with_reducible refine v_lm ?_ | with_reducible refine t_ext ?_ | with_reducible refine s_tr ?_ | ((with_reducible refine v_tup ?_ ?_); exact rfl) | ((with_reducible refine v_lst ?_ ?_); exact rfl) | ((with_reducible refine v_newl ?_ ?_); exact rfl) | ((with_reducible refine k_pow ?_ ?_); exact rfl)))
      exact ⟨rfl, rfl⟩
    · (repeat (first | ((with_reducible refine v_varK ?_); refine varK ?_) | ((with_reducible refine t_varK ?_); refine varK ?_) | with_reducible refine s_cons ?_ | with_reducible refine q_nx ?_ | with_reducible refine q_ret ?_ | with_reducible refine q_brk ?_ | with_reducible refine q_cont ?_ | with_reducible refine r_nx ?_ | with_reducible refine r_ret ?_ | with_reducible refine s_nil ?_ | with_reducible refine s_pass ?_ | with_reducible refine s_brk ?_ | with_reducible refine s_cont ?_ | with_reducible refine s_retN ?_ | with_reducible refine s_exv ?_ | with_reducible refine s_rt ?_ | with_reducible refine s_ifs ?_ | with_reducible refine s_st ?_ | with_reducible refine s_stc ?_ | with_reducible refine s_as ?_ | with_reducible refine s_pr ?_ | with_reducible refine s_fr ?_ | with_reducible refine v_int ?_ | with_reducible refine v_bl ?_ | with_reducible refine v_non ?_ | with_reducible refine v_str ?_ | with_reducible refine v_op ?_ | with_reducible refine v_cmp ?_ | with_reducible refine v_neg ?_ | with_reducible refine v_fld ?_ | with_reducible refine v_rev ?_ | with_reducible refine v_not ?_ | with_reducible refine v_and ?_ | with_reducible refine v_or ?_ | with_reducible refine v_ite ?_ | with_reducible refine l_nil ?_ | with_reducible refine l_cons ?_ | with_reducible refine v_blt ?_ | with_reducible refine v_call ?_ | with_reducible refine v_mkF ?_ | with_reducible refine v_idx ?_ | with_reducible refine v_slc ?_ | with_reducible refine v_join ?_ | with_reducible refine v_fmt ?_ | with_reducible refine j_nil ?_ | with_reducible refine j_cons ?_ | with_reducible refine v_joined ?_ | with_reducible refine v_comp ?_ | with_reducible refine r_seq ?_ | with_reducible refine r_rng1 ?_ | with_reducible refine r_rng2 ?_ | with_reducible refine t_not ?_ | with_reducible refine t_and ?_ | with_reducible refine t_or ?_ | with_reducible refine t_cmp ?_ | with_reducible refine t_bl ?_ | with_reducible refine t_call ?_ | with_reducible refine t_fld ?_ | with_reducible refine t_idx ?_ | with_reducible refine t_blt ?_ | with_reducible refine c_no ?_ | with_reducible refine c_yes ?_ | with_reducible refine k_add ?_ | with_reducible refine k_sub ?_ | with_reducible refine k_lt ?_ | with_reducible refine k_le ?_ | with_reducible refine k_gt ?_ | with_reducible refine k_ge ?_ | with_reducible refine k_eqi ?_ | with_reducible refine k_nei ?_ | with_reducible refine k_eqs ?_ | with_reducible refine k_nes ?_ | with_reducible refine k_neg ?_ | with_reducible refine b_abs ?_ | with_reducible refine b_strs ?_ | with_reducible refine b_inti ?_ | with_reducible refine b_intb ?_ | with_reducible refine b_max2 ?_ | with_reducible refine b_min2 ?_ | with_reducible refine bl_k ?_ | with_reducible refine str_k ?_ | with_reducible refine br_t ?_ | with_reducible refine br_f ?_ | with_reducible refine o_no ?_ | with_reducible refine l_nx ?_ | with_reducible refine l_ct ?_ | with_reducible refine l_brk ?_ | with_reducible refine l_ret ?_ | with_reducible refine s_sx ?_ | with_reducible refine s_sf ?_ | with_reducible refine okv ?_ | with_reducible refine v_eqi ?_ | with_reducible refine v_inNo ?_ | with_reducible refine v_isi ?_ | with_reducible refine v_lm ?_ | with_reducible refine t_ext ?_ | with_reducible refine s_tr ?_ | ((with_reducible refine v_tup ?_ ?_); exact rfl) | ((with_reducible refine v_lst ?_ ?_); exact rfl) | ((with_reducible refine v_newl ?_ ?_); exact rfl) | ((with_reducible refine k_pow ?_ ?_); exact rfl)))
      exact ⟨rfl, rfl⟩
    (repeat (first | ((with_reducible refine v_varK ?_); refine varK ?_) | ((with_reducible refine t_varK ?_); refine varK ?_) | with_reducible refine s_cons ?_ | with_reducible refine q_nx ?_ | with_reducible refine q_ret ?_ | with_reducible refine q_brk ?_ | with_reducible refine q_cont ?_ | with_reducible refine r_nx ?_ | with_reducible refine r_ret ?_ | with_reducible refine s_nil ?_ | with_reducible refine s_pass ?_ | with_reducible refine s_brk ?_ | with_reducible refine s_cont ?_ | with_reducible refine s_retN ?_ | with_reducible refine s_exv ?_ | with_reducible refine s_rt ?_ | with_reducible refine s_ifs ?_ | with_reducible refine s_st ?_ | with_reducible refine s_stc ?_ | with_reducible refine s_as ?_ | with_reducible refine s_pr ?_ | with_reducible refine s_fr ?_ | with_reducible refine v_int ?_ | with_reducible refine v_bl ?_ | with_reducible refine v_non ?_ | with_reducible refine v_str ?_ | with_reducible refine v_op ?_ | with_reducible refine v_cmp ?_ | with_reducible refine v_neg ?_ | with_reducible refine v_fld ?_ | with_reducible refine v_rev ?_ | with_reducible refine v_not ?_ | with_reducible refine v_and ?_ | with_reducible refine v_or ?_ | with_reducible refine v_ite ?_ | with_reducible refine l_nil ?_ | with_reducible refine l_cons ?_ | with_reducible refine v_blt ?_ | with_reducible refine v_call ?_ | with_reducible refine v_mkF ?_ | with_reducible refine v_idx ?_ | with_reducible refine v_slc ?_ | with_reducible refine v_join ?_ | with_reducible refine v_fmt ?_ | with_reducible refine j_nil ?_ | with_reducible refine j_cons ?_ | with_reducible refine v_joined ?_ | with_reducible refine v_comp ?_ | with_reducible refine r_seq ?_ | with_reducible refine r_rng1 ?_ | with_reducible refine r_rng2 ?_ | with_reducible refine t_not ?_ | with_reducible refine t_and ?_ | with_reducible refine t_or ?_ | with_reducible refine t_cmp ?_ | with_reducible refine t_bl ?_ | with_reducible refine t_call ?_ | with_reducible refine t_fld ?_ | with_reducible refine t_idx ?_ | with_reducible refine t_blt ?_ | with_reducible refine c_no ?_ | with_reducible refine c_yes ?_ | with_reducible refine k_add ?_ | with_reducible refine k_sub ?_ | with_reducible refine k_lt ?_ | with_reducible refine k_le ?_ | with_reducible refine k_gt ?_ | with_reducible refine k_ge ?_ | with_reducible refine k_eqi ?_ | with_reducible refine k_nei ?_ | with_reducible refine k_eqs ?_ | with_reducible refine k_nes ?_ | with_reducible refine k_neg ?_ | with_reducible refine b_abs ?_ | with_reducible refine b_strs ?_ | with_reducible refine b_inti ?_ | with_reducible refine b_intb ?_ | with_reducible refine b_max2 ?_ | with_reducible refine b_min2 ?_ | with_reducible refine bl_k ?_ | with_reducible refine str_k ?_ | with_reducible refine br_t ?_ | with_reducible refine br_f ?_ | with_reducible refine o_no ?_ | with_reducible refine l_nx ?_ | with_reducible refine l_ct ?_ | with_reducible refine l_brk ?_ | with_reducible refine l_ret ?_ | with_reducible refine s_sx ?_ | with_reducible refine s_sf ?_ | with_reducible refine okv ?_ | with_reducible refine v_eqi ?_ | with_reducible refine v_inNo ?_ | with_reducible refine v_isi ?_ | with_reducible refine v_lm ?_ | with_reducible refine t_ext ?_ | with_reducible refine s_tr ?_ | ((with_reducible refine v_tup ?_ ?_); exact rfl) | ((with_reducible refine v_lst ?_ ?_); exact rfl) | ((with_reducible refine v_newl ?_ ?_); exact rfl) | ((with_reducible refine k_pow ?_ ?_); exact rfl)))
    refine k_eqL (b := []) ?_
    (repeat (first | ((with_reducible refine v_varK ?_); refine varK ?_) | ((with_reducible refine t_varK ?_); refine varK ?_) | with_reducible refine s_cons ?_ | with_reducible refine q_nx ?_ | with_reducible refine q_ret ?_ | with_reducible refine q_brk ?_ | with_reducible refine q_cont ?_ | with_reducible refine r_nx ?_ | with_reducible refine r_ret ?_ | with_reducible refine s_nil ?_ | with_reducible refine s_pass ?_ | with_reducible refine s_brk ?_ | with_reducible refine s_cont ?_ | with_reducible refine s_retN ?_ | with_reducible refine s_exv ?_ | with_reducible refine s_rt ?_ | with_reducible refine s_ifs ?_ | with_reducible refine s_st ?_ | with_reducible refine s_stc ?_ | with_reducible refine s_as ?_ | with_reducible refine s_pr ?_ | with_reducible refine s_fr ?_ | with_reducible refine v_int ?_ | with_reducible refine v_bl ?_ | with_reducible refine v_non ?_ | with_reducible refine v_str ?_ | with_reducible refine v_op ?_ | with_reducible refine v_cmp ?_ | with_reducible refine v_neg ?_ | with_reducible refine v_fld ?_ | with_reducible refine v_rev ?_ | with_reducible refine v_not ?_ | with_reducible refine v_and ?_ | with_reducible refine v_or ?_ | with_reducible refine v_ite ?_ | with_reducible refine l_nil ?_ | with_reducible refine l_cons ?_ | with_reducible refine v_blt ?_ | with_reducible refine v_call ?_ | with_reducible refine v_mkF ?_ | with_reducible refine v_idx ?_ | with_reducible refine v_slc ?_ | with_reducible refine v_join ?_ | with_reducible refine v_fmt ?_ | with_reducible refine j_nil ?_ | with_reducible refine j_cons ?_ | with_reducible refine v_joined ?_ | with_reducible refine v_comp ?_ | with_reducible refine r_seq ?_ | with_reducible refine r_rng1 ?_ | with_reducible refine r_rng2 ?_ | with_reducible refine t_not ?_ | with_reducible refine t_and ?_ | with_reducible refine t_or ?_ | with_reducible refine t_cmp ?_ | with_reducible refine t_bl ?_ | with_reducible refine t_call ?_ | with_reducible refine t_fld ?_ | with_reducible refine t_idx ?_ | with_reducible refine t_blt ?_ | with_reducible refine c_no ?_ | with_reducible refine c_yes ?_ | with_reducible refine k_add ?_ | with_reducible refine k_sub ?_ | with_reducible refine k_lt ?_ | with_reducible refine k_le ?_ | with_reducible refine k_gt ?_ | with_reducible refine k_ge ?_ | with_reducible refine k_eqi ?_ | with_reducible refine k_nei ?_ | with_reducible refine k_eqs ?_ | with_reducible refine k_nes ?_ | with_reducible refine k_neg ?_ | with_reducible refine b_abs ?_ | with_reducible refine b_strs ?_ | with_reducible refine b_inti ?_ | with_reducible refine b_intb ?_ | with_reducible refine b_max2 ?_ | with_reducible refine b_min2 ?_ | with_reducible refine bl_k ?_ | with_reducible refine str_k ?_ | with_reducible refine br_t ?_ | with_reducible refine br_f ?_ | with_reducible refine o_no ?_ | with_reducible refine l_nx ?_ | with_reducible refine l_ct ?_ | with_reducible refine l_brk ?_ | with_reducible refine l_ret ?_ | with_reducible refine s_sx ?_ | with_reducible refine s_sf ?_ | with_reducible refine okv ?_ | with_reducible refine v_eqi ?_ | with_reducible refine v_inNo ?_ | with_reducible refine v_isi ?_ | with_reducible refine v_lm ?_ | with_reducible refine t_ext ?_ | with_reducible refine s_tr ?_ | ((with_reducible refine v_tup ?_ ?_); exact rfl) | ((with_reducible refine v_lst ?_ ?_); exact rfl) | ((with_reducible refine v_newl ?_ ?_); exact rfl) | ((with_reducible refine k_pow ?_ ?_); exact rfl)))
    refine k_neB ?_
    (repeat (first | ((with_reducible refine v_varK ?_); refine varK ?_) | ((with_reducible refine t_varK ?_); refine varK ?_) | with_reducible refine s_cons ?_ | with_reducible refine q_nx ?_ | with_reducible refine q_ret ?_ | with_reducible refine q_brk ?_ | with_reducible refine q_cont ?_ | with_reducible refine r_nx ?_ | with_reducible refine r_ret ?_ | with_reducible refine s_nil ?_ | with_reducible refine s_pass ?_ | with_reducible refine s_brk ?_ | with_reducible refine s_cont ?_ | with_reducible refine s_retN ?_ | with_reducible refine s_exv ?_ | with_reducible refine s_rt ?_ | with_reducible refine s_ifs ?_ | with_reducible refine s_st ?_ | with_reducible refine s_stc ?_ | with_reducible refine s_as ?_ | with_reducible refine s_pr ?_ | with_reducible refine s_fr ?_ | with_reducible refine v_int ?_ | with_reducible refine v_bl ?_ | with_reducible refine v_non ?_ | with_reducible refine v_str ?_ | with_reducible refine v_op ?_ | with_reducible refine v_cmp ?_ | with_reducible refine v_neg ?_ | with_reducible refine v_fld ?_ | with_reducible refine v_rev ?_ | with_reducible refine v_not ?_ | with_reducible refine v_and ?_ | with_reducible refine v_or ?_ | with_reducible refine v_ite ?_ | with_reducible refine l_nil ?_ | with_reducible refine l_cons ?_ | with_reducible refine v_blt ?_ | with_reducible refine v_call ?_ | with_reducible refine v_mkF ?_ | with_reducible refine v_idx ?_ | with_reducible refine v_slc ?_ | with_reducible refine v_join ?_ | with_reducible refine v_fmt ?_ | with_reducible refine j_nil ?_ | with_reducible refine j_cons ?_ | with_reducible refine v_joined ?_ | with_reducible refine v_comp ?_ | with_reducible refine r_seq ?_ | with_reducible refine r_rng1 ?_ | with_reducible refine r_rng2 ?_ | with_reducible refine t_not ?_ | with_reducible refine t_and ?_ | with_reducible refine t_or ?_ | with_reducible refine t_cmp ?_ | with_reducible refine t_bl ?_ | with_reducible refine t_call ?_ | with_reducible refine t_fld ?_ | with_reducible refine t_idx ?_ | with_reducible refine t_blt ?_ | with_reducible refine c_no ?_ | with_reducible refine c_yes ?_ | with_reducible refine k_add ?_ | with_reducible refine k_sub ?_ | with_reducible refine k_lt ?_ | with_reducible refine k_le ?_ | with_reducible refine k_gt ?_ | with_reducible refine k_ge ?_ | with_reducible refine k_eqi ?_ | with_reducible refine k_nei ?_ | with_reducible refine k_eqs ?_ | with_reducible refine k_nes ?_ | with_reducible refine k_neg ?_ | with_reducible refine b_abs ?_ | with_reducible refine b_strs ?_ | with_reducible refine b_inti ?_ | with_reducible refine b_intb ?_ | with_reducible refine b_max2 ?_ | with_reducible refine b_min2 ?_ | with_reducible refine bl_k ?_ | with_reducible refine str_k ?_ | with_reducible refine br_t ?_ | with_reducible refine br_f ?_ | with_reducible refine o_no ?_ | with_reducible refine l_nx ?_ | with_reducible refine l_ct ?_ | with_reducible refine l_brk ?_ | with_reducible refine l_ret ?_ | with_reducible refine s_sx ?_ | with_reducible refine s_sf ?_ | with_reducible refine okv ?_ | with_reducible refine v_eqi ?_ | with_reducible refine v_inNo ?_ | with_reducible refine v_isi ?_ | with_reducible refine v_lm ?_ | with_reducible refine t_ext ?_ | with_reducible refine s_tr ?_ | ((with_reducible refine v_tup ?_ ?_); exact rfl) | ((with_reducible refine v_lst ?_ ?_); exact rfl) | ((with_reducible refine v_newl ?_ ?_); exact rfl) | ((with_reducible refine k_pow ?_ ?_); exact rfl)))
    have e8 : decide (nm l p = nm l (p + 1) ∧ pt l p = pt l (p + 1)) = decide (l.filter (fun x => !decide (x = 0)) = []) := by
      congr 1
      refine propext ((one_more hp).trans ?_)
      rw [List.filter_eq_nil_iff]
      exact ⟨fun h x hx => by rw [h x hx]; simp, fun h x hx => by have := h x hx; simpa using this⟩
    refine br_no (by rw [e8]; simp) ?_
    (repeat (first | ((with_reducible refine v_varK ?_); refine varK ?_) | ((with_reducible refine t_varK ?_); refine varK ?_) | with_reducible refine s_cons ?_ | with_reducible refine q_nx ?_ | with_reducible refine q_ret ?_ | with_reducible refine q_brk ?_ | with_reducible refine q_cont ?_ | with_reducible refine r_nx ?_ | with_reducible refine r_ret ?_ | with_reducible refine s_nil ?_ | with_reducible refine s_pass ?_ | with_reducible refine s_brk ?_ | with_reducible refine s_cont ?_ | with_reducible refine s_retN ?_ | with_reducible refine s_exv ?_ | with_reducible refine s_rt ?_ | with_reducible refine s_ifs ?_ | with_reducible refine s_st ?_ | with_reducible refine s_stc ?_ | with_reducible refine s_as ?_ | with_reducible refine s_pr ?_ | with_reducible refine s_fr ?_ | with_reducible refine v_int ?_ | with_reducible refine v_bl ?_ | with_reducible refine v_non ?_ | with_reducible refine v_str ?_ | with_reducible refine v_op ?_ | with_reducible refine v_cmp ?_ | with_reducible refine v_neg ?_ | with_reducible refine v_fld ?_ | with_reducible refine v_rev ?_ | with_reducible refine v_not ?_ | with_reducible refine v_and ?_ | with_reducible refine v_or ?_ | with_reducible refine v_ite ?_ | with_reducible refine l_nil ?_ | with_reducible refine l_cons ?_ | with_reducible refine v_blt ?_ | with_reducible refine v_call ?_ | with_reducible refine v_mkF ?_ | with_reducible refine v_idx ?_ | with_reducible refine v_slc ?_ | with_reducible refine v_join ?_ | with_reducible refine v_fmt ?_ | with_reducible refine j_nil ?_ | with_reducible refine j_cons ?_ | with_reducible refine v_joined ?_ | with_reducible refine v_comp ?_ | with_reducible refine r_seq ?_ | with_reducible refine r_rng1 ?_ | with_reducible refine r_rng2 ?_ | with_reducible refine t_not ?_ | with_reducible refine t_and ?_ | with_reducible refine t_or ?_ | with_reducible refine t_cmp ?_ | with_reducible refine t_bl ?_ | with_reducible refine t_call ?_ | with_reducible refine t_fld ?_ | with_reducible refine t_idx ?_ | with_reducible refine t_blt ?_ | with_reducible refine c_no ?_ | with_reducible refine c_yes ?_ | with_reducible refine k_add ?_ | with_reducible refine k_sub ?_ | with_reducible refine k_lt ?_ | with_reducible refine k_le ?_ | with_reducible refine k_gt ?_ | with_reducible refine k_ge ?_ | with_reducible refine k_eqi ?_ | with_reducible refine k_nei ?_ | with_reducible refine k_eqs ?_ | with_reducible refine k_nes ?_ | with_reducible refine k_neg ?_ | with_reducible refine b_abs ?_ | with_reducible refine b_strs ?_ | with_reducible refine b_inti ?_ | with_reducible refine b_intb ?_ | with_reducible refine b_max2 ?_ | with_reducible refine b_min2 ?_ | with_reducible refine bl_k ?_ | with_reducible refine str_k ?_ | with_reducible refine br_t ?_ | with_reducible refine br_f ?_ | with_reducible refine o_no ?_ | with_reducible refine l_nx ?_ | with_reducible refine l_ct ?_ | with_reducible refine l_brk ?_ | with_reducible refine l_ret ?_ | with_reducible refine s_sx ?_ | with_reducible refine s_sf ?_ | with_reducible refine okv ?_ | with_reducible refine v_eqi ?_ | with_reducible refine v_inNo ?_ | with_reducible refine v_isi ?_ | with_reducible refine v_lm ?_ | with_reducible refine t_ext ?_ | with_reducible refine s_tr ?_ | ((with_reducible refine v_tup ?_ ?_); exact rfl) | ((with_reducible refine v_lst ?_ ?_); exact rfl) | ((with_reducible refine v_newl ?_ ?_); exact rfl) | ((with_reducible refine k_pow ?_ ?_); exact rfl)))
    refine ⟨_, rfl, rfl, ?_⟩
    refine for_rule (fun zs e S' => e.length = 14 ∧ e[3]? = some (some (.val (.lst (iL l)))) ∧ ∀ d ∈ zs, ∃ f : Int, d = .int f ∧ f < 1) (fun _ _ _ _ => rfl) (fun y zs e S' h => ⟨_, rfl, ?_⟩) (fun e S' h => ?_) _ _ _ ⟨rfl, rfl, fun d hd => ?_⟩
    · obtain ⟨h1, h2, h3⟩ := h
      obtain ⟨f, rfl, hf⟩ := h3 y List.mem_cons_self
      obtain ⟨b0, b1, b2, b3, b4, b5, b6, b7, b8, b9, b10, b11, b12, b13, rfl⟩ := len14 h1
      cases h2
      (repeat (first | ((with_reducible refine v_varK ?_); refine varK ?_) | ((with_reducible refine t_varK ?_); refine varK ?_) | with_reducible refine s_cons ?_ | with_reducible refine q_nx ?_ | with_reducible refine q_ret ?_ | with_reducible refine q_brk ?_ | with_reducible refine q_cont ?_ | with_reducible refine r_nx ?_ | with_reducible refine r_ret ?_ | with_reducible refine s_nil ?_ | with_reducible refine s_pass ?_ | with_reducible refine s_brk ?_ | with_reducible refine s_cont ?_ | with_reducible refine s_retN ?_ | with_reducible refine s_exv ?_ | with_reducible refine s_rt ?_ | with_reducible refine s_ifs ?_ | with_reducible refine s_st ?_ | with_reducible refine s_stc ?_ | with_reducible refine s_as ?_ | with_reducible refine s_pr ?_ | with_reducible refine s_fr ?_ | with_reducible refine v_int ?_ | with_reducible refine v_bl ?_ | with_reducible refine v_non ?_ | with_reducible refine v_str ?_ | with_reducible refine v_op ?_ | with_reducible refine v_cmp ?_ | with_reducible refine v_neg ?_ | with_reducible refine v_fld ?_ | with_reducible refine v_rev ?_ | with_reducible refine v_not ?_ | with_reducible refine v_and ?_ | with_reducible refine v_or ?_ | with_reducible refine v_ite ?_ | with_reducible refine l_nil ?_ | with_reducible refine l_cons ?_ | with_reducible refine v_blt ?_ | with_reducible refine v_call ?_ | with_reducible refine v_mkF ?_ | with_reducible refine v_idx ?_ | with_reducible refine v_slc ?_ | with_reducible refine v_join ?_ | with_reducible refine v_fmt ?_ | with_reducible refine j_nil ?_ | with_reducible refine j_cons ?_ | with_reducible refine v_joined ?_ | with_reducible refine v_comp ?_ | with_reducible refine r_seq ?_ | with_reducible refine r_rng1 ?_ | with_reducible refine r_rng2 ?_ | with_reducible refine t_not ?_ | with_reducible refine t_and ?_ | with_reducible refine t_or ?_ | with_reducible refine t_cmp ?_ | with_reducible refine t_bl ?_ | with_reducible refine t_call ?_ | with_reducible refine t_fld ?_ | with_reducible refine t_idx ?_ | with_reducible refine t_blt ?_ | with_reducible refine c_no ?_ | with_reducible refine c_yes ?_ | with_reducible refine k_add ?_ | with_reducible refine k_sub ?_ | with_reducible refine k_lt ?_ | with_reducible refine k_le ?_ | with_reducible refine k_gt ?_ | with_reducible refine k_ge ?_ | with_reducible refine k_eqi ?_ | with_reducible refine k_nei ?_ | with_reducible refine k_eqs ?_ | with_reducible refine k_nes ?_ | with_reducible refine k_neg ?_ | with_reducible refine b_abs ?_ | with_reducible refine b_strs ?_ | with_reducible refine b_inti ?_ | with_reducible refine b_intb ?_ | with_reducible refine b_max2 ?_ | with_reducible refine b_min2 ?_ | with_reducible refine bl_k ?_ | with_reducible refine str_k ?_ | with_reducible refine br_t ?_ | with_reducible refine br_f ?_ | with_reducible refine o_no ?_ | with_reducible refine l_nx ?_ | with_reducible refine l_ct ?_ | with_reducible refine l_brk ?_ | with_reducible refine l_ret ?_ | with_reducible refine s_sx ?_ | with_reducible refine s_sf ?_ | with_reducible refine okv ?_ | with_reducible refine v_eqi ?_ | with_reducible refine v_inNo ?_ | with_reducible refine v_isi ?_ | with_reducible refine v_lm ?_ | with_reducible refine t_ext ?_ | with_reducible refine s_tr ?_ | ((with_reducible refine v_tup ?_ ?_); exact rfl) | ((with_reducible refine v_lst ?_ ?_); exact rfl) | ((with_reducible refine v_newl ?_ ?_); exact rfl) | ((with_reducible refine k_pow ?_ ?_); exact rfl)))
      refine ref_w (k := k + 3) F hf ?_
      (repeat (first | ((with_reducible refine v_varK ?_); refine varK ?_) | ((with_reducible refine t_varK ?_); refine varK ?_) | with_reducible refine s_cons ?_ | with_reducible refine q_nx ?_ | with_reducible refine q_ret ?_ | with_reducible refine q_brk ?_ | with_reducible refine q_cont ?_ | with_reducible refine r_nx ?_ | with_reducible refine r_ret ?_ | with_reducible refine s_nil ?_ | with_reducible refine s_pass ?_ | with_reducible refine s_brk ?_ | with_reducible refine s_cont ?_ | with_reducible refine s_retN ?_ | with_reducible refine s_exv ?_ | with_reducible refine s_rt ?_ | with_reducible refine s_ifs ?_ | with_reducible refine s_st ?_ | with_reducible refine s_stc ?_ | with_reducible refine s_as ?_ | with_reducible refine s_pr ?_ | with_reducible refine s_fr ?_ | with_reducible refine v_int ?_ | with_reducible refine v_bl ?_ | with_reducible refine v_non ?_ | with_reducible refine v_str ?_ | with_reducible refine v_op ?_ | with_reducible refine v_cmp ?_ | with_reducible refine v_neg ?_ | with_reducible refine v_fld ?_ | with_reducible refine v_rev ?_ | with_reducible refine v_not ?_ | with_reducible refine v_and ?_ | with_reducible refine v_or ?_ | with_reducible refine v_ite ?_ | with_reducible refine l_nil ?_ | with_reducible refine l_cons ?_ | with_reducible refine v_blt ?_ | with_reducible refine v_call ?_ | with_reducible refine v_mkF ?_ | with_reducible refine v_idx ?_ | with_reducible refine v_slc ?_ | with_reducible refine v_join ?_ | with_reducible refine v_fmt ?_ | with_reducible refine j_nil ?_ | with_reducible refine j_cons ?_ | with_reducible refine v_joined ?_ | with_reducible refine v_comp ?_ | with_reducible refine r_seq ?_ | with_reducible refine r_rng1 ?_ | with_reducible refine r_rng2 ?_ | with_reducible refine t_not ?_ | with_reducible refine t_and ?_ | with_reducible refine t_or ?_ | with_reducible refine t_cmp ?_ | with_reducible refine t_bl ?_ | with_reducible refine t_call ?_ | with_reducible refine t_fld ?_ | with_reducible refine t_idx ?_ | with_reducible refine t_blt ?_ | with_reducible refine c_no ?_ | with_reducible refine c_yes ?_ | with_reducible refine k_add ?_ | with_reducible refine k_sub ?_ | with_reducible refine k_lt ?_ | with_reducible refine k_le ?_ | with_reducible refine k_gt ?_ | with_reducible refine k_ge ?_ | with_reducible refine k_eqi ?_ | with_reducible refine k_nei ?_ | with_reducible refine k_eqs ?_ | with_reducible refine k_nes ?_ | with_reducible refine k_neg ?_ | with_reducible refine b_abs ?_ | with_reducible refine b_strs ?_ | with_reducible refine b_inti ?_ | with_reducible refine b_intb ?_ | with_reducible refine b_max2 ?_ | with_reducible refine b_min2 ?_ | with_reducible refine bl_k ?_ | with_reducible refine str_k ?_ | with_reducible refine br_t ?_ | with_reducible refine br_f ?_ | with_reducible refine o_no ?_ | with_reducible refine l_nx ?_ | with_reducible refine l_ct ?_ | with_reducible refine l_brk ?_ | with_reducible refine l_ret ?_ | with_reducible refine s_sx ?_ | with_reducible refine s_sf ?_ | with_reducible refine okv ?_ | with_reducible refine v_eqi ?_ | with_reducible refine v_inNo ?_ | with_reducible refine v_isi ?_ | with_reducible refine v_lm ?_ | with_reducible refine t_ext ?_ | with_reducible refine s_tr ?_ | ((with_reducible refine v_tup ?_ ?_); exact rfl) | ((with_reducible refine v_lst ?_ ?_); exact rfl) | ((with_reducible refine v_newl ?_ ?_); exact rfl) | ((with_reducible refine k_pow ?_ ?_); exact rfl)))
      refine k_neD (py_ref (by decide +kernel)) (py_ref (by decide +kernel)) (fun z h => by cases h) ?_
      (repeat (first | ((with_reducible refine v_varK ?_); refine varK ?_) | ((with_reducible refine t_varK ?_); refine varK ?_) | with_reducible refine s_cons ?_ | with_reducible refine q_nx ?_ | with_reducible refine q_ret ?_ | with_reducible refine q_brk ?_ | with_reducible refine q_cont ?_ | with_reducible refine r_nx ?_ | with_reducible refine r_ret ?_ | with_reducible refine s_nil ?_ | with_reducible refine s_pass ?_ | with_reducible refine s_brk ?_ | with_reducible refine s_cont ?_ | with_reducible refine s_retN ?_ | with_reducible refine s_exv ?_ | with_reducible refine s_rt ?_ | with_reducible refine s_ifs ?_ | with_reducible refine s_st ?_ | with_reducible refine s_stc ?_ | with_reducible refine s_as ?_ | with_reducible refine s_pr ?_ | with_reducible refine s_fr ?_ | with_reducible refine v_int ?_ | with_reducible refine v_bl ?_ | with_reducible refine v_non ?_ | with_reducible refine v_str ?_ | with_reducible refine v_op ?_ | with_reducible refine v_cmp ?_ | with_reducible refine v_neg ?_ | with_reducible refine v_fld ?_ | with_reducible refine v_rev ?_ | with_reducible refine v_not ?_ | with_reducible refine v_and ?_ | with_reducible refine v_or ?_ | with_reducible refine v_ite ?_ | with_reducible refine l_nil ?_ | with_reducible refine l_cons ?_ | with_reducible refine v_blt ?_ | with_reducible refine v_call ?_ | with_reducible refine v_mkF ?_ | with_reducible refine v_idx ?_ | with_reducible refine v_slc ?_ | with_reducible refine v_join ?_ | with_reducible refine v_fmt ?_ | with_reducible refine j_nil ?_ | with_reducible refine j_cons ?_ | with_reducible refine v_joined ?_ | with_reducible refine v_comp ?_ | with_reducible refine r_seq ?_ | with_reducible refine r_rng1 ?_ | with_reducible refine r_rng2 ?_ | with_reducible refine t_not ?_ | with_reducible refine t_and ?_ | with_reducible refine t_or ?_ | with_reducible refine t_cmp ?_ | with_reducible refine t_bl ?_ | with_reducible refine t_call ?_ | with_reducible refine t_fld ?_ | with_reducible refine t_idx ?_ | with_reducible refine t_blt ?_ | with_reducible refine c_no ?_ | with_reducible refine c_yes ?_ | with_reducible refine k_add ?_ | with_reducible refine k_sub ?_ | with_reducible refine k_lt ?_ | with_reducible refine k_le ?_ | with_reducible refine k_gt ?_ | with_reducible refine k_ge ?_ | with_reducible refine k_eqi ?_ | with_reducible refine k_nei ?_ | with_reducible refine k_eqs ?_ | with_reducible refine k_nes ?_ | with_reducible refine k_neg ?_ | with_reducible refine b_abs ?_ | with_reducible refine b_strs ?_ | with_reducible refine b_inti ?_ | with_reducible refine b_intb ?_ | with_reducible refine b_max2 ?_ | with_reducible refine b_min2 ?_ | with_reducible refine bl_k ?_ | with_reducible refine str_k ?_ | with_reducible refine br_t ?_ | with_reducible refine br_f ?_ | with_reducible refine o_no ?_ | with_reducible refine l_nx ?_ | with_reducible refine l_ct ?_ | with_reducible refine l_brk ?_ | with_reducible refine l_ret ?_ | with_reducible refine s_sx ?_ | with_reducible refine s_sf ?_ | with_reducible refine okv ?_ | with_reducible refine v_eqi ?_ | with_reducible refine v_inNo ?_ | with_reducible refine v_isi ?_ | with_reducible refine v_lm ?_ | with_reducible refine t_ext ?_ | with_reducible refine s_tr ?_ | ((with_reducible refine v_tup ?_ ?_); exact rfl) | ((with_reducible refine v_lst ?_ ?_); exact rfl) | ((with_reducible refine v_newl ?_ ?_); exact rfl) | ((with_reducible refine k_pow ?_ ?_); exact rfl)))
      refine br_no ?_ ?_
      · show (!((Str.ofString "parts" == Str.ofString "parts") && ((f == f) && true))) = false
        simp
      (repeat (first | ((with_reducible refine v_varK ?_); refine varK ?_) | ((with_reducible refine t_varK ?_); refine varK ?_) | with_reducible refine s_cons ?_ | with_reducible refine q_nx ?_ | with_reducible refine q_ret ?_ | with_reducible refine q_brk ?_ | with_reducible refine q_cont ?_ | with_reducible refine r_nx ?_ | with_reducible refine r_ret ?_ | with_reducible refine s_nil ?_ | with_reducible refine s_pass ?_ | with_reducible refine s_brk ?_ | with_reducible refine s_cont ?_ | with_reducible refine s_retN ?_ | with_reducible refine s_exv ?_ | with_reducible refine s_rt ?_ | with_reducible refine s_ifs ?_ | with_reducible refine s_st ?_ | with_reducible refine s_stc ?_ | with_reducible refine s_as ?_ | with_reducible refine s_pr ?_ | with_reducible refine s_fr ?_ | with_reducible refine v_int ?_ | with_reducible refine v_bl ?_ | with_reducible refine v_non ?_ | with_reducible refine v_str ?_ | with_reducible refine v_op ?_ | with_reducible refine v_cmp ?_ | with_reducible refine v_neg ?_ | with_reducible refine v_fld ?_ | with_reducible refine v_rev ?_ | with_reducible refine v_not ?_ | with_reducible refine v_and ?_ | with_reducible refine v_or ?_ | with_reducible refine v_ite ?_ | with_reducible refine l_nil ?_ | with_reducible refine l_cons ?_ | with_reducible refine v_blt ?_ | with_reducible refine v_call ?_ | with_reducible refine v_mkF ?_ | with_reducible refine v_idx ?_ | with_reducible refine v_slc ?_ | with_reducible refine v_join ?_ | with_reducible refine v_fmt ?_ | with_reducible refine j_nil ?_ | with_reducible refine j_cons ?_ | with_reducible refine v_joined ?_ | with_reducible refine v_comp ?_ | with_reducible refine r_seq ?_ | with_reducible refine r_rng1 ?_ | with_reducible refine r_rng2 ?_ | with_reducible refine t_not ?_ | with_reducible refine t_and ?_ | with_reducible refine t_or ?_ | with_reducible refine t_cmp ?_ | with_reducible refine t_bl ?_ | with_reducible refine t_call ?_ | with_reducible refine t_fld ?_ | with_reducible refine t_idx ?_ | with_reducible refine t_blt ?_ | with_reducible refine c_no ?_ | with_reducible refine c_yes ?_ | with_reducible refine k_add ?_ | with_reducible refine k_sub ?_ | with_reducible refine k_lt ?_ | with_reducible refine k_le ?_ | with_reducible refine k_gt ?_ | with_reducible refine k_ge ?_ | with_reducible refine k_eqi ?_ | with_reducible refine k_nei ?_ | with_reducible refine k_eqs ?_ | with_reducible refine k_nes ?_ | with_reducible refine k_neg ?_ | with_reducible refine b_abs ?_ | with_reducible refine b_strs ?_ | with_reducible refine b_inti ?_ | with_reducible refine b_intb ?_ | with_reducible refine b_max2 ?_ | with_reducible refine b_min2 ?_ | with_reducible refine bl_k ?_ | with_reducible refine str_k ?_ | with_reducible refine br_t ?_ | with_reducible refine br_f ?_ | with_reducible refine o_no ?_ | with_reducible refine l_nx ?_ | with_reducible refine l_ct ?_ | with_reducible refine l_brk ?_ | with_reducible refine l_ret ?_ | with_reducible refine s_sx ?_ | with_reducible refine s_sf ?_ | with_reducible refine okv ?_ | with_reducible refine v_eqi ?_ | with_reducible refine v_inNo ?_ | with_reducible refine v_isi ?_ | with_reducible refine v_lm ?_ | with_reducible refine t_ext ?_ | with_reducible refine s_tr ?_ | ((with_reducible refine v_tup ?_ ?_); exact rfl) | ((with_reducible refine v_lst ?_ ?_); exact rfl) | ((with_reducible refine v_newl ?_ ?_); exact rfl) | ((with_reducible refine k_pow ?_ ?_); exact rfl)))
      exact ⟨rfl, rfl, fun d hd => h3 d (List.mem_cons_of_mem _ hd)⟩
    · (repeat (first | ((with_reducible refine v_varK ?_); refine varK ?_) | ((with_reducible refine t_varK ?_); refine varK ?_) | with_reducible refine s_cons ?_ | with_reducible refine q_nx ?_ | with_reducible refine q_ret ?_ | with_reducible refine q_brk ?_ | with_reducible refine q_cont ?_ | with_reducible refine r_nx ?_ | with_reducible refine r_ret ?_ | with_reducible refine s_nil ?_ | with_reducible refine s_pass ?_ | with_reducible refine s_brk ?_ | with_reducible refine s_cont ?_ | with_reducible refine s_retN ?_ | with_reducible refine s_exv ?_ | with_reducible refine s_rt ?_ | with_reducible refine s_ifs ?_ | with_reducible refine s_st ?_ | with_reducible refine s_stc ?_ | with_reducible refine s_as ?_ | with_reducible refine s_pr ?_ | with_reducible refine s_fr ?_ | with_reducible refine v_int ?_ | with_reducible refine v_bl ?_ | with_reducible refine v_non ?_ | with_reducible refine v_str ?_ | with_reducible refine v_op ?_ | with_reducible refine v_cmp ?_ | with_reducible refine v_neg ?_ | with_reducible refine v_fld ?_ | with_reducible refine v_rev ?_ | with_reducible refine v_not ?_ | with_reducible refine v_and ?_ | with_reducible refine v_or ?_ | with_reducible refine v_ite ?_ | with_reducible refine l_nil ?_ | with_reducible refine l_cons ?_ | with_reducible refine v_blt ?_ | with_reducible refine v_call ?_ | with_reducible refine v_mkF ?_ | with_reducible refine v_idx ?_ | with_reducible refine v_slc ?_ | with_reducible refine v_join ?_ | with_reducible refine v_fmt ?_ | with_reducible refine j_nil ?_ | with_reducible refine j_cons ?_ | with_reducible refine v_joined ?_ | with_reducible refine v_comp ?_ | with_reducible refine r_seq ?_ | with_reducible refine r_rng1 ?_ | with_reducible refine r_rng2 ?_ | with_reducible refine t_not ?_ | with_reducible refine t_and ?_ | with_reducible refine t_or ?_ | with_reducible refine t_cmp ?_ | with_reducible refine t_bl ?_ | with_reducible refine t_call ?_ | with_reducible refine t_fld ?_ | with_reducible refine t_idx ?_ | with_reducible refine t_blt ?_ | with_reducible refine c_no ?_ | with_reducible refine c_yes ?_ | with_reducible refine k_add ?_ | with_reducible refine k_sub ?_ | with_reducible refine k_lt ?_ | with_reducible refine k_le ?_ | with_reducible refine k_gt ?_ | with_reducible refine k_ge ?_ | with_reducible refine k_eqi ?_ | with_reducible refine k_nei ?_ | with_reducible refine k_eqs ?_ | with_reducible refine k_nes ?_ | with_reducible refine k_neg ?_ | with_reducible refine b_abs ?_ | with_reducible refine b_strs ?_ | with_reducible refine b_inti ?_ | with_reducible refine b_intb ?_ | with_reducible refine b_max2 ?_ | with_reducible refine b_min2 ?_ | with_reducible refine bl_k ?_ | with_reducible refine str_k ?_ | with_reducible refine br_t ?_ | with_reducible refine br_f ?_ | with_reducible refine o_no ?_ | with_reducible refine l_nx ?_ | with_reducible refine l_ct ?_ | with_reducible refine l_brk ?_ | with_reducible refine l_ret ?_ | with_reducible refine s_sx ?_ | with_reducible refine s_sf ?_ | with_reducible refine okv ?_ | with_reducible refine v_eqi ?_ | with_reducible refine v_inNo ?_ | with_reducible refine v_isi ?_ | with_reducible refine v_lm ?_ | with_reducible refine t_ext ?_ | with_reducible refine s_tr ?_ | ((with_reducible refine v_tup ?_ ?_); exact rfl) | ((with_reducible refine v_lst ?_ ?_); exact rfl) | ((with_reducible refine v_newl ?_ ?_); exact rfl) | ((with_reducible refine k_pow ?_ ?_); exact rfl)))
      exact hq _ _ h.1
    · have hd : d ∈ [D.int 0, D.int (-1), D.int (0 - (p : Int))] := hd
      rcases List.mem_cons.mp hd with q | hd
      · exact ⟨0, q, by decide⟩
      rcases List.mem_cons.mp hd with q | hd
      · exact ⟨-1, q, by decide⟩
      · exact ⟨_, List.mem_singleton.mp hd, by omega⟩
  · have hd : d ∈ [D.lst (iL (l ++ [0])), D.lst (iL l.reverse), D.lst (iL (l.map fun x => x + 1))] := hd
    rcases List.mem_cons.mp hd with q | hd
    · exact ⟨_, q, by rw [List.length_append]; exact Nat.le_trans (m := 7) (Nat.succ_le_succ hl) (by decide)⟩
    rcases List.mem_cons.mp hd with q | hd
    · exact ⟨_, q, by rw [List.length_reverse]; omega⟩
    · exact ⟨_, List.mem_singleton.mp hd, by rw [List.length_map]; omega⟩
def lawB : Sms := (.cons (.fr (.name 1) (.seq (.slc (.op .add (.var 0) (.lst (.cons (.int 0) .nil))) .no (.yes (.int 8)))) (.cons (.set 2 (.call 200 [.p 0] (.cons (.var 1) .nil) .nil)) (.cons (.set 3 (.call 205 [.p 0] (.cons (.var 2) .nil) .nil)) (.cons (.set 4 (.call 202 [.p 0, .p 1] (.cons (.var 2) (.cons (.lst (.cons (.int 1) (.cons (.int 2) (.cons (.int 6) (.cons (.int 12) (.cons (.int 30) (.cons (.op .pow (.int 10) (.int 12)) (.cons (.op .add (.int 1) (.call 201 [.p 0, .p 1] (.cons (.var 2) (.cons (.int 99) .nil)) .nil)) .nil)))))))) .nil)) .nil)) (.cons (.set 5 (.blt .listN (.cons (.var 3) .nil))) (.cons (.set 6 (.mk 20 20 false [.p 0, .p 1] (.cons (.var 5) (.cons (.var 4) .nil)) .nil)) (.cons (.ex (.ext (.lm .append) (.cons (.var 5) (.cons (.int 5) .nil)))) (.cons (.setIx (.var 5) (.int 0) (.int 77)) (.cons (.set 7 (.call 204 [.p 0] (.cons (.op .add (.var 3) (.lst (.cons (.var 4) .nil))) .nil) .nil)) (.cons (.set 8 (.tup (.cons (.blt .tuple (.cons (.comp (.op .fdiv (.var 13) (.var 7)) (.name 13) (.seq (.var 3)) .no [13]) .nil)) (.cons (.op .fdiv (.var 4) (.var 7)) .nil)))) (.cons (.ifs (.or (.cmp .ne (.tup (.cons (.fld "numbers" (.var 6)) (.cons (.fld "parts" (.var 6)) .nil))) (.var 8)) (.ext .inNo (.cons (.var 6) (.cons (.lst (.cons (.var 8) (.cons .non (.cons (.var 3) .nil)))) .nil)))) (.cons (.ret (.bl false)) .nil) .nil) (.cons (.set 9 (.op .add (.int 1) (.call 201 [.p 0, .p 1] (.cons (.var 2) (.cons (.int 50) .nil)) .nil))) (.cons (.ifs (.ext (.eqi true) (.cons (.var 6) (.cons (.mk 20 20 false [.k 1, .k 0] .nil (.cons (.op .mul (.var 4) (.var 9)) (.cons (.blt .tuple (.cons (.comp (.op .mul (.var 13) (.var 9)) (.name 13) (.seq (.var 3)) .no [13]) .nil)) .nil))) .nil))) (.cons (.ret (.bl false)) .nil) .nil) (.cons (.set 10 (.lst (.cons (.op .add (.var 3) (.lst (.cons (.int 0) .nil))) (.cons (.rev (.var 3)) (.cons (.comp (.op .add (.var 13) (.int 1)) (.name 13) (.seq (.var 3)) .no [13]) .nil))))) (.cons (.fr (.name 11) (.seq (.var 10)) (.cons (.ifs (.cmp .ne (.ext (.eqi false) (.cons (.var 6) (.cons (.mk 20 20 false [.p 0, .p 1] (.cons (.var 11) (.cons (.var 4) .nil)) .nil) .nil))) (.cmp .eq (.var 11) (.var 3))) (.cons (.ret (.bl false)) .nil) .nil) .nil)) (.cons (.ifs (.cmp .ne (.ext (.eqi false) (.cons (.var 6) (.cons (.mk 20 20 false [.p 0, .p 1] (.cons (.var 3) (.cons (.op .add (.var 4) (.int 1)) .nil)) .nil) .nil))) (.cmp .eq (.comp (.var 13) (.name 13) (.seq (.var 3)) (.yes (.cmp .ne (.var 13) (.int 0))) [13]) (.lst .nil))) (.cons (.ret (.bl false)) .nil) .nil) (.cons (.fr (.name 12) (.seq (.lst (.cons (.int 0) (.cons (.neg (.int 1)) (.cons (.op .sub (.int 0) (.var 4)) .nil))))) (.cons (.ifs (.cmp .ne (.call 206 [.p 0, .p 1] (.cons (.var 3) (.cons (.var 12) .nil)) .nil) (.tup (.cons (.str "parts") (.cons (.var 12) .nil)))) (.cons (.ret (.bl false)) .nil) .nil) .nil)) .nil))))))))))))))))) (.cons (.ret (.bl true)) .nil))
theorem law_ok03 (F : F03 ok fs is) (hf : fs 207 = some (14, lawB)) (ns : List Int) (hn : ns.length ≤ 63) : W noE ((TT ok fs is (k + 6)).fn 207 [.scr (ns.map D.int)] S) (fun d _ => d = .bl true) := by
  refine w_fn hf ?_
  unfold lawB
  (repeat (first | ((with_reducible refine v_varK ?_); refine varK ?_) | ((with_reducible refine t_varK ?_); refine varK ?_) | with_reducible refine s_cons ?_ | with_reducible refine q_nx ?_ | with_reducible refine q_ret ?_ | with_reducible refine q_brk ?_ | with_reducible refine q_cont ?_ | with_reducible refine r_nx ?_ | with_reducible refine r_ret ?_ | with_reducible refine s_nil ?_ | with_reducible refine s_pass ?_ | with_reducible refine s_brk ?_ | with_reducible refine s_cont ?_ | with_reducible refine s_retN ?_ | with_reducible refine s_exv ?_ | with_reducible refine s_rt ?_ | with_reducible refine s_ifs ?_ | with_reducible refine s_st ?_ | with_reducible refine s_stc ?_ | with_reducible refine s_as ?_ | with_reducible refine s_pr ?_ | with_reducible refine s_fr ?_ | with_reducible refine v_int ?_ | with_reducible refine v_bl ?_ | with_reducible refine v_non ?_ | with_reducible refine v_str ?_ | with_reducible refine v_op ?_ | with_reducible refine v_cmp ?_ | with_reducible refine v_neg ?_ | with_reducible refine v_fld ?_ | with_reducible refine v_rev ?_ | with_reducible refine v_not ?_ | with_reducible refine v_and ?_ | with_reducible refine v_or ?_ | with_reducible refine v_ite ?_ | with_reducible refine l_nil ?_ | with_reducible refine l_cons ?_ | with_reducible refine v_blt ?_ | with_reducible refine v_call ?_ | with_reducible refine v_mkF ?_ | with_reducible refine v_idx ?_ | with_reducible refine v_slc ?_ | with_reducible refine v_join ?_ | with_reducible refine v_fmt ?_ | with_reducible refine j_nil ?_ | with_reducible refine j_cons ?_ | with_reducible refine v_joined ?_ | with_reducible refine v_comp ?_ | with_reducible refine r_seq ?_ | with_reducible refine r_rng1 ?_ | with_reducible refine r_rng2 ?_ | with_reducible refine t_not ?_ | with_reducible refine t_and ?_ | with_reducible refine t_or ?_ | with_reducible refine t_cmp ?_ | with_reducible refine t_bl ?_ | with_reducible refine t_call ?_ | with_reducible refine t_fld ?_ | with_reducible refine t_idx ?_ | with_reducible refine t_blt ?_ | with_reducible refine c_no ?_ | with_reducible refine c_yes ?_ | with_reducible refine k_add ?_ | with_reducible refine k_sub ?_ | with_reducible refine k_lt ?_ | with_reducible refine k_le ?_ | with_reducible refine k_gt ?_ | with_reducible refine k_ge ?_ | with_reducible refine k_eqi ?_ | with_reducible refine k_nei ?_ | with_reducible refine k_eqs ?_ | with_reducible refine k_nes ?_ | with_reducible refine k_neg ?_ | with_reducible refine b_abs ?_ | with_reducible refine b_strs ?_ | with_reducible refine b_inti ?_ | with_reducible refine b_intb ?_ | with_reducible refine b_max2 ?_ | with_reducible refine b_min2 ?_ | with_reducible refine bl_k ?_ | with_reducible refine str_k ?_ | with_reducible refine br_t ?_ | with_reducible refine br_f ?_ | with_reducible refine o_no ?_ | with_reducible refine l_nx ?_ | with_reducible refine l_ct ?_ | with_reducible refine l_brk ?_ | with_reducible refine l_ret ?_ | with_reducible refine s_sx ?_ | with_reducible refine s_sf ?_ | with_reducible refine okv ?_ | with_reducible refine v_eqi ?_ | with_reducible refine v_inNo ?_ | with_reducible refine v_isi ?_ | with_reducible refine v_lm ?_ | with_reducible refine t_ext ?_ | with_reducible refine s_tr ?_ | ((with_reducible refine v_tup ?_ ?_); exact rfl) | ((with_reducible refine v_lst ?_ ?_); exact rfl) | ((with_reducible refine v_newl ?_ ?_); exact rfl) | ((with_reducible refine k_pow ?_ ?_); exact rfl)))
  refine k_addsl (by rw [List.length_map]; exact Nat.le_trans (m := 64) (by simpa using hn) (by decide)) ?_
  (repeat (first | ((with_reducible refine v_varK ?_); refine varK ?_) | ((with_reducible refine t_varK ?_); refine varK ?_) | with_reducible refine s_cons ?_ | with_reducible refine q_nx ?_ | with_reducible refine q_ret ?_ | with_reducible refine q_brk ?_ | with_reducible refine q_cont ?_ | with_reducible refine r_nx ?_ | with_reducible refine r_ret ?_ | with_reducible refine s_nil ?_ | with_reducible refine s_pass ?_ | with_reducible refine s_brk ?_ | with_reducible refine s_cont ?_ | with_reducible refine s_retN ?_ | with_reducible refine s_exv ?_ | with_reducible refine s_rt ?_ | with_reducible refine s_ifs ?_ | with_reducible refine s_st ?_ | with_reducible refine s_stc ?_ | with_reducible refine s_as ?_ | with_reducible refine s_pr ?_ | with_reducible refine s_fr ?_ | with_reducible refine v_int ?_ | with_reducible refine v_bl ?_ | with_reducible refine v_non ?_ | with_reducible refine v_str ?_ | with_reducible refine v_op ?_ | with_reducible refine v_cmp ?_ | with_reducible refine v_neg ?_ | with_reducible refine v_fld ?_ | with_reducible refine v_rev ?_ | with_reducible refine v_not ?_ | with_reducible refine v_and ?_ | with_reducible refine v_or ?_ | with_reducible refine v_ite ?_ | with_reducible refine l_nil ?_ | with_reducible refine l_cons ?_ | with_reducible refine v_blt ?_ | with_reducible refine v_call ?_ | with_reducible refine v_mkF ?_ | with_reducible refine v_idx ?_ | with_reducible refine v_slc ?_ | with_reducible refine v_join ?_ | with_reducible refine v_fmt ?_ | with_reducible refine j_nil ?_ | with_reducible refine j_cons ?_ | with_reducible refine v_joined ?_ | with_reducible refine v_comp ?_ | with_reducible refine r_seq ?_ | with_reducible refine r_rng1 ?_ | with_reducible refine r_rng2 ?_ | with_reducible refine t_not ?_ | with_reducible refine t_and ?_ | with_reducible refine t_or ?_ | with_reducible refine t_cmp ?_ | with_reducible refine t_bl ?_ | with_reducible refine t_call ?_ | with_reducible refine t_fld ?_ | with_reducible refine t_idx ?_ | with_reducible refine t_blt ?_ | with_reducible refine c_no ?_ | with_reducible refine c_yes ?_ | with_reducible refine k_add ?_ | with_reducible refine k_sub ?_ | with_reducible refine k_lt ?_ | with_reducible refine k_le ?_ | with_reducible refine k_gt ?_ | with_reducible refine k_ge ?_ | with_reducible refine k_eqi ?_ | with_reducible refine k_nei ?_ | with_reducible refine k_eqs ?_ | with_reducible refine k_nes ?_ | with_reducible refine k_neg ?_ | with_reducible refine b_abs ?_ | with_reducible refine b_strs ?_ | with_reducible refine b_inti ?_ | with_reducible refine b_intb ?_ | with_reducible refine b_max2 ?_ | with_reducible refine b_min2 ?_ | with_reducible refine bl_k ?_ | with_reducible refine str_k ?_ | with_reducible refine br_t ?_ | with_reducible refine br_f ?_ | with_reducible refine o_no ?_ | with_reducible refine l_nx ?_ | with_reducible refine l_ct ?_ | with_reducible refine l_brk ?_ | with_reducible refine l_ret ?_ | with_reducible refine s_sx ?_ | with_reducible refine s_sf ?_ | with_reducible refine okv ?_ | with_reducible refine v_eqi ?_ | with_reducible refine v_inNo ?_ | with_reducible refine v_isi ?_ | with_reducible refine v_lm ?_ | with_reducible refine t_ext ?_ | with_reducible refine s_tr ?_ | ((with_reducible refine v_tup ?_ ?_); exact rfl) | ((with_reducible refine v_lst ?_ ?_); exact rfl) | ((with_reducible refine v_newl ?_ ?_); exact rfl) | ((with_reducible refine k_pow ?_ ?_); exact rfl)))
  refine o_yes (i := 8) rfl ?_
  refine slc_lst fun hm => ?_
  refine ⟨_, rfl, rfl, ?_⟩
  refine for_rule (fun zs e S => e.length = 14 ∧ ∀ d ∈ zs, ∃ a, d = .int a ∧ True) (fun _ _ _ _ => rfl) (fun y zs e S h => ⟨_, rfl, ?_⟩) (fun e S h => ?_) _ _ _ ⟨rfl, fun d hd => ?_⟩
  · obtain ⟨hl, hz⟩ := h
    obtain ⟨c, rfl, _⟩ := hz y List.mem_cons_self
    refine cell_ok F (c := c) (by rw [List.length_set]; exact hl) (List.getElem?_set_self (by omega)) fun e2 S2 he2 => ⟨he2, fun d hd => hz d (List.mem_cons_of_mem _ hd)⟩
  · (repeat (first | ((with_reducible refine v_varK ?_); refine varK ?_) | ((with_reducible refine t_varK ?_); refine varK ?_) | with_reducible refine s_cons ?_ | with_reducible refine q_nx ?_ | with_reducible refine q_ret ?_ | with_reducible refine q_brk ?_ | with_reducible refine q_cont ?_ | with_reducible refine r_nx ?_ | with_reducible refine r_ret ?_ | with_reducible refine s_nil ?_ | with_reducible refine s_pass ?_ | with_reducible refine s_brk ?_ | with_reducible refine s_cont ?_ | with_reducible refine s_retN ?_ | with_reducible refine s_exv ?_ | with_reducible refine s_rt ?_ | with_reducible refine s_ifs ?_ | with_reducible refine s_st ?_ | with_reducible refine s_stc ?_ | with_reducible refine s_as ?_ | with_reducible refine s_pr ?_ | with_reducible refine s_fr ?_ | with_reducible refine v_int ?_ | with_reducible refine v_bl ?_ | with_reducible refine v_non ?_ | with_reducible refine v_str ?_ | with_reducible refine v_op ?_ | with_reducible refine v_cmp ?_ | with_reducible refine v_neg ?_ | with_reducible refine v_fld ?_ | with_reducible refine v_rev ?_ | with_reducible refine v_not ?_ | with_reducible refine v_and ?_ | with_reducible refine v_or ?_ | with_reducible refine v_ite ?_ | with_reducible refine l_nil ?_ | with_reducible refine l_cons ?_ | with_reducible refine v_blt ?_ | with_reducible refine v_call ?_ | with_reducible refine v_mkF ?_ | with_reducible refine v_idx ?_ | with_reducible refine v_slc ?_ | with_reducible refine v_join ?_ | with_reducible refine v_fmt ?_ | with_reducible refine j_nil ?_ | with_reducible refine j_cons ?_ | with_reducible refine v_joined ?_ | with_reducible refine v_comp ?_ | with_reducible refine r_seq ?_ | with_reducible refine r_rng1 ?_ | with_reducible refine r_rng2 ?_ | with_reducible refine t_not ?_ | with_reducible refine t_and ?_ | with_reducible refine t_or ?_ | with_reducible refine t_cmp ?_ | with_reducible refine t_bl ?_ | with_reducible refine t_call ?_ | with_reducible refine t_fld ?_ | with_reducible refine t_idx ?_ | with_reducible refine t_blt ?_ | with_reducible refine c_no ?_ | with_reducible refine c_yes ?_ | with_reducible refine k_add ?_ | with_reducible refine k_sub ?_ | with_reducible refine k_lt ?_ | with_reducible refine k_le ?_ | with_reducible refine k_gt ?_ | with_reducible refine k_ge ?_ | with_reducible refine k_eqi ?_ | with_reducible refine k_nei ?_ | with_reducible refine k_eqs ?_ | with_reducible refine k_nes ?_ | with_reducible refine k_neg ?_ | with_reducible refine b_abs ?_ | with_reducible refine b_strs ?_ | with_reducible refine b_inti ?_ | with_reducible refine b_intb ?_ | with_reducible refine b_max2 ?_ | with_reducible refine b_min2 ?_ | with_reducible refine bl_k ?_ | with_reducible refine str_k ?_ | with_reducible refine br_t ?_ | with_reducible refine br_f ?_ | with_reducible refine o_no ?_ | with_reducible refine l_nx ?_ | with_reducible refine l_ct ?_ | with_reducible refine l_brk ?_ | with_reducible refine l_ret ?_ | with_reducible refine s_sx ?_ | with_reducible refine s_sf ?_ | with_reducible refine okv ?_ | with_reducible refine v_eqi ?_ | with_reducible refine v_inNo ?_ | with_reducible refine v_isi ?_ | with_reducible refine v_lm ?_ | with_reducible refine t_ext ?_ | with_reducible refine s_tr ?_ | ((with_reducible refine v_tup ?_ ?_); exact rfl) | ((with_reducible refine v_lst ?_ ?_); exact rfl) | ((with_reducible refine v_newl ?_ ?_); exact rfl) | ((with_reducible refine k_pow ?_ ?_); exact rfl)))
    rfl
  · rcases List.mem_append.mp (hm d hd) with q | q
    · obtain ⟨a, _, rfl⟩ := List.mem_map.mp q
      exact ⟨a, rfl, trivial⟩
    · rw [List.mem_singleton.mp q]
      exact ⟨0, rfl, trivial⟩
end
end PV

set_option Elab.async false
set_option linter.all false
set_option maxRecDepth 100000
set_option maxHeartbeats 0
/-! hookspans_k03_places_told: the text as data (printed by gen.py). -/
namespace Lw
open PySem PySem.Spec PyProof.Rows L2 PV
def top (i : Nat) : Stmt := PySem.Challenge.pw_hookspans_k03_places_told.main.body.getD i (.Pass ⟨0, 0, 0, 0⟩)
def inn (i j : Nat) : Stmt := match top i with
  | .ClassDef _ _ _ body .. => body.getD j (.Pass ⟨0, 0, 0, 0⟩)
  | _ => .Pass ⟨0, 0, 0, 0⟩
def bdF : Nat → List ((Nat × List Str) × List Ar)
  | 57 => [((2, ([] : List Str)), [.p 0, .p 1])]
  | 58 => [((1, ([] : List Str)), [.p 0])]
  | 200 => [((1, ([] : List Str)), [.p 0])]
  | 201 => [((2, ([] : List Str)), [.p 0, .p 1])]
  | 202 => [((2, ([] : List Str)), [.p 0, .p 1])]
  | 204 => [((1, ([] : List Str)), [.p 0])]
  | 205 => [((1, ([] : List Str)), [.p 0])]
  | 206 => [((2, ([] : List Str)), [.p 0, .p 1])]
  | _ => []
def bdI : Nat → List ((Nat × List Str) × List Ar)
  | 20 => [((0, (["parts", "numbers"] : List Str)), [.k 1, .k 0]), ((2, ([] : List Str)), [.p 0, .p 1])]
  | _ => []
def gam : Tb where
  fn := [("shared", 57), ("shared_by", 58), ("_law_well", 200), ("_law_draw", 201), ("_law_one", 202), ("_law_common", 204), ("_law_numbers", 205), ("_law_refused", 206), ("law", 207)]
  cl := [("Places", 20, 20)]
  bl := ["abs", "isinstance", "len", "list", "range", "tuple"]
  bd := bdF
  bi := bdI
  fl := []
  cn := [("BadCount", 0), ("HooksError", 9), ("NoRod", 15), ("Places", 20)]
abbrev s_shared : Stmt := top 6
def N_shared : List Str := ["one", "other"]
def b_shared : Sms := (.cons (.par 0 1 (.blt .abs (.cons (.var 0) .nil)) (.blt .abs (.cons (.var 1) .nil))) (.cons (.wh (.cmp .gt (.var 1) (.int 0)) (.cons (.par 0 1 (.var 1) (.op .mod (.var 0) (.var 1))) .nil)) (.cons (.ret (.var 0)) .nil)))
theorem c_shared : ckss gam N_shared b_shared (defScope s_shared) (defBody s_shared) = true := by decide +kernel
abbrev s_shared_by : Stmt := top 7
def N_shared_by : List Str := ["numbers", "found", "number"]
def b_shared_by : Sms := (.cons (.set 1 (.int 0)) (.cons (.fr (.name 2) (.seq (.var 0)) (.cons (.set 1 (.call 57 [.p 0, .p 1] (.cons (.var 1) (.cons (.var 2) .nil)) .nil)) .nil)) (.cons (.ret (.var 1)) .nil)))
theorem c_shared_by : ckss gam N_shared_by b_shared_by (defScope s_shared_by) (defBody s_shared_by) = true := by decide +kernel
abbrev s__law_well : Stmt := top 11
def N__law_well : List Str := ["_law_cell"]
def b__law_well : Sms := (.cons (.ret (.newl (.cons (.blt .abs (.cons (.var 0) .nil)) (.cons (.op .mod (.var 0) (.int 2147483629)) (.cons (.int 0) .nil))))) .nil)
theorem c__law_well : ckss gam N__law_well b__law_well (defScope s__law_well) (defBody s__law_well) = true := by decide +kernel
abbrev s__law_draw : Stmt := top 12
def N__law_draw : List Str := ["_law_well_here", "_law_many", "_law_number", "_law_found"]
def b__law_draw : Sms := (.cons (.ifs (.cmp .ge (.idx (.var 0) (.int 0)) (.op .pow (.int 10) (.int 18))) (.cons (.set 3 (.op .mod (.idx (.var 0) (.int 0)) (.var 1))) (.cons (.setIx (.var 0) (.int 0) (.op .fdiv (.idx (.var 0) (.int 0)) (.var 1))) (.cons (.ret (.var 3)) .nil))) .nil) (.cons (.setIx (.var 0) (.int 2) (.op .add (.idx (.var 0) (.int 2)) (.int 1))) (.cons (.set 2 (.op .mod (.op .mul (.op .add (.op .add (.idx (.var 0) (.int 1)) (.op .mul (.int 7919) (.idx (.var 0) (.int 2)))) (.int 1)) (.int 48271)) (.int 2147483647))) (.cons (.set 2 (.op .mod (.op .mul (.var 2) (.op .add (.op .fdiv (.var 2) (.int 1013)) (.int 69621))) (.int 2147483587))) (.cons (.ret (.op .mod (.op .mod (.op .add (.op .fdiv (.var 2) (.int 7)) (.op .mul (.op .mod (.var 2) (.int 7919)) (.int 40692))) (.int 2147483399)) (.var 1))) .nil)))))
theorem c__law_draw : ckss gam N__law_draw b__law_draw (defScope s__law_draw) (defBody s__law_draw) = true := by decide +kernel
abbrev s__law_one : Stmt := top 13
def N__law_one : List Str := ["_law_well_here", "_law_some"]
def b__law_one : Sms := (.cons (.ret (.idx (.var 1) (.call 201 [.p 0, .p 1] (.cons (.var 0) (.cons (.blt .len (.cons (.var 1) .nil)) .nil)) .nil))) .nil)
theorem c__law_one : ckss gam N__law_one b__law_one (defScope s__law_one) (defBody s__law_one) = true := by decide +kernel
abbrev s__law_common : Stmt := top 14
def N__law_common : List Str := ["_law_numbers_so", "_law_found", "_law_number"]
def b__law_common : Sms := (.cons (.set 1 (.int 0)) (.cons (.fr (.name 2) (.seq (.var 0)) (.cons (.set 2 (.blt .abs (.cons (.var 2) .nil))) (.cons (.wh (.cmp .gt (.var 2) (.int 0)) (.cons (.par 1 2 (.var 2) (.op .mod (.var 1) (.var 2))) .nil)) .nil))) (.cons (.ret (.var 1)) .nil)))
theorem c__law_common : ckss gam N__law_common b__law_common (defScope s__law_common) (defBody s__law_common) = true := by decide +kernel
abbrev s__law_numbers : Stmt := top 15
def N__law_numbers : List Str := ["_law_well_here", "_law_some", "_law_k"]
def b__law_numbers : Sms := (.cons (.set 1 (.lst (.cons (.int 0) (.cons (.int 1) (.cons (.neg (.int 1)) (.cons (.int 2) (.cons (.int 6) (.cons (.neg (.int 12)) (.cons (.int 30) (.cons (.op .pow (.int 10) (.int 12)) (.cons (.call 201 [.p 0, .p 1] (.cons (.var 0) (.cons (.int 999) .nil)) .nil) (.cons (.int 0) .nil)))))))))))) (.cons (.ret (.comp (.call 202 [.p 0, .p 1] (.cons (.var 0) (.cons (.var 1) .nil)) .nil) (.name 2) (.rng1 (.call 201 [.p 0, .p 1] (.cons (.var 0) (.cons (.int 7) .nil)) .nil)) .no [2])) .nil))
theorem c__law_numbers : ckss gam N__law_numbers b__law_numbers (defScope s__law_numbers) (defBody s__law_numbers) = true := by decide +kernel
abbrev s__law_refused : Stmt := top 16
def N__law_refused : List Str := ["_law_numbers_so", "_law_share", "_law_found", "e"]
def b__law_refused : Sms := (.cons (.set 2 .non) (.cons (.tr 9 3 (.cons (.ex (.mk 20 20 false [.p 0, .p 1] (.cons (.var 0) (.cons (.var 1) .nil)) .nil)) .nil) (.ifs (.and (.isi 0) (.not (.isi 15))) (.set 2 (.tup [(.fld "what"), (.fld "count")])) .pass)) (.cons (.ret (.var 2)) .nil)))
theorem c__law_refused : ckss gam N__law_refused b__law_refused (defScope s__law_refused) (defBody s__law_refused) = true := by decide +kernel
abbrev s_law : Stmt := top 17
def N_law : List Str := ["_law_script", "_law_cell", "_law_well_here", "_law_numbers_so", "_law_share", "_law_handed", "_law_first", "_law_down", "_law_due", "_law_often", "_law_others", "_law_other", "_law_few", "_law_number"]
def b_law : Sms := (.cons (.fr (.name 1) (.seq (.slc (.op .add (.var 0) (.lst (.cons (.int 0) .nil))) .no (.yes (.int 8)))) (.cons (.set 2 (.call 200 [.p 0] (.cons (.var 1) .nil) .nil)) (.cons (.set 3 (.call 205 [.p 0] (.cons (.var 2) .nil) .nil)) (.cons (.set 4 (.call 202 [.p 0, .p 1] (.cons (.var 2) (.cons (.lst (.cons (.int 1) (.cons (.int 2) (.cons (.int 6) (.cons (.int 12) (.cons (.int 30) (.cons (.op .pow (.int 10) (.int 12)) (.cons (.op .add (.int 1) (.call 201 [.p 0, .p 1] (.cons (.var 2) (.cons (.int 99) .nil)) .nil)) .nil)))))))) .nil)) .nil)) (.cons (.set 5 (.blt .listN (.cons (.var 3) .nil))) (.cons (.set 6 (.mk 20 20 false [.p 0, .p 1] (.cons (.var 5) (.cons (.var 4) .nil)) .nil)) (.cons (.ex (.ext (.lm .append) (.cons (.var 5) (.cons (.int 5) .nil)))) (.cons (.setIx (.var 5) (.int 0) (.int 77)) (.cons (.set 7 (.call 204 [.p 0] (.cons (.op .add (.var 3) (.lst (.cons (.var 4) .nil))) .nil) .nil)) (.cons (.set 8 (.tup (.cons (.blt .tuple (.cons (.comp (.op .fdiv (.var 13) (.var 7)) (.name 13) (.seq (.var 3)) .no [13]) .nil)) (.cons (.op .fdiv (.var 4) (.var 7)) .nil)))) (.cons (.ifs (.or (.cmp .ne (.tup (.cons (.fld "numbers" (.var 6)) (.cons (.fld "parts" (.var 6)) .nil))) (.var 8)) (.ext .inNo (.cons (.var 6) (.cons (.lst (.cons (.var 8) (.cons .non (.cons (.var 3) .nil)))) .nil)))) (.cons (.ret (.bl false)) .nil) .nil) (.cons (.set 9 (.op .add (.int 1) (.call 201 [.p 0, .p 1] (.cons (.var 2) (.cons (.int 50) .nil)) .nil))) (.cons (.ifs (.ext (.eqi true) (.cons (.var 6) (.cons (.mk 20 20 false [.k 1, .k 0] .nil (.cons (.op .mul (.var 4) (.var 9)) (.cons (.blt .tuple (.cons (.comp (.op .mul (.var 13) (.var 9)) (.name 13) (.seq (.var 3)) .no [13]) .nil)) .nil))) .nil))) (.cons (.ret (.bl false)) .nil) .nil) (.cons (.set 10 (.lst (.cons (.op .add (.var 3) (.lst (.cons (.int 0) .nil))) (.cons (.rev (.var 3)) (.cons (.comp (.op .add (.var 13) (.int 1)) (.name 13) (.seq (.var 3)) .no [13]) .nil))))) (.cons (.fr (.name 11) (.seq (.var 10)) (.cons (.ifs (.cmp .ne (.ext (.eqi false) (.cons (.var 6) (.cons (.mk 20 20 false [.p 0, .p 1] (.cons (.var 11) (.cons (.var 4) .nil)) .nil) .nil))) (.cmp .eq (.var 11) (.var 3))) (.cons (.ret (.bl false)) .nil) .nil) .nil)) (.cons (.ifs (.cmp .ne (.ext (.eqi false) (.cons (.var 6) (.cons (.mk 20 20 false [.p 0, .p 1] (.cons (.var 3) (.cons (.op .add (.var 4) (.int 1)) .nil)) .nil) .nil))) (.cmp .eq (.comp (.var 13) (.name 13) (.seq (.var 3)) (.yes (.cmp .ne (.var 13) (.int 0))) [13]) (.lst .nil))) (.cons (.ret (.bl false)) .nil) .nil) (.cons (.fr (.name 12) (.seq (.lst (.cons (.int 0) (.cons (.neg (.int 1)) (.cons (.op .sub (.int 0) (.var 4)) .nil))))) (.cons (.ifs (.cmp .ne (.call 206 [.p 0, .p 1] (.cons (.var 3) (.cons (.var 12) .nil)) .nil) (.tup (.cons (.str "parts") (.cons (.var 12) .nil)))) (.cons (.ret (.bl false)) .nil) .nil) .nil)) .nil))))))))))))))))) (.cons (.ret (.bl true)) .nil))
theorem c_law : ckss gam N_law b_law (defScope s_law) (defBody s_law) = true := by decide +kernel
abbrev s_Places : Stmt := inn 9 0
def N_Places : List Str := ["self", "numbers", "parts", "common", "number"]
def b_Places : Sms := (.cons (.ifs (.cmp .lt (.var 2) (.int 1)) (.cons (.rz 0 (.cons (.str "parts") (.cons (.var 2) .nil))) .nil) .nil) (.cons (.set 3 (.call 58 [.p 0] (.cons (.op .add (.blt .list (.cons (.var 1) .nil)) (.lst (.cons (.var 2) .nil))) .nil) .nil)) (.cons (.self 0 "numbers" (.blt .tuple (.cons (.comp (.op .fdiv (.var 4) (.var 3)) (.name 4) (.seq (.var 1)) .no [4]) .nil))) (.cons (.self 0 "parts" (.op .fdiv (.var 2) (.var 3))) .nil))))
theorem c_Places : ckss gam N_Places b_Places (defScope s_Places) (defBody s_Places) = true := by decide +kernel
abbrev s_Places___eq__ : Stmt := inn 9 2
def N_Places___eq__ : List Str := ["self", "other"]
def b_Places___eq__ : Sms := (.cons (.ret (.and (.ext (.isi 20) (.cons (.var 1) .nil)) (.cmp .eq (.ext (.meth 20 "facts") (.cons (.var 0) .nil)) (.ext (.meth 20 "facts") (.cons (.var 1) .nil))))) .nil)
theorem c_Places___eq__ : ckss gam N_Places___eq__ b_Places___eq__ (defScope s_Places___eq__) (defBody s_Places___eq__) = true := by decide +kernel
abbrev s_Places_facts : Stmt := inn 9 1
def N_Places_facts : List Str := ["self"]
def b_Places_facts : Sms := (.cons (.ret (.tup (.cons (.fld "numbers" (.var 0)) (.cons (.fld "parts" (.var 0)) .nil)))) .nil)
theorem c_Places_facts : ckss gam N_Places_facts b_Places_facts (defScope s_Places_facts) (defBody s_Places_facts) = true := by decide +kernel
abbrev s_BadCount : Stmt := inn 3 0
def N_BadCount : List Str := ["self", "what", "count"]
def fs : Nat → Option (Nat × Sms)
  | 57 => some (2, b_shared)
  | 58 => some (3, b_shared_by)
  | 200 => some (1, b__law_well)
  | 201 => some (4, b__law_draw)
  | 202 => some (2, b__law_one)
  | 204 => some (3, b__law_common)
  | 205 => some (3, b__law_numbers)
  | 206 => some (4, b__law_refused)
  | 207 => some (14, b_law)
  | 137 => some (2, b_Places___eq__)
  | 138 => some (1, b_Places_facts)
  | _ => none
def ins : Nat → Option (Nat × Nat × Sms)
  | 20 => some (5, 20, b_Places)
  | _ => none
def d_shared : He.DefD := ⟨("shared", none), "shared", "shared", defArgs s_shared, defBody s_shared, defScope s_shared, [], []⟩
def d_shared_by : He.DefD := ⟨("shared_by", none), "shared_by", "shared_by", defArgs s_shared_by, defBody s_shared_by, defScope s_shared_by, [], []⟩
def d__law_well : He.DefD := ⟨("_law_well", none), "_law_well", "_law_well", defArgs s__law_well, defBody s__law_well, defScope s__law_well, [], []⟩
def d__law_draw : He.DefD := ⟨("_law_draw", none), "_law_draw", "_law_draw", defArgs s__law_draw, defBody s__law_draw, defScope s__law_draw, [], []⟩
def d__law_one : He.DefD := ⟨("_law_one", none), "_law_one", "_law_one", defArgs s__law_one, defBody s__law_one, defScope s__law_one, [], []⟩
def d__law_common : He.DefD := ⟨("_law_common", none), "_law_common", "_law_common", defArgs s__law_common, defBody s__law_common, defScope s__law_common, [], []⟩
def d__law_numbers : He.DefD := ⟨("_law_numbers", none), "_law_numbers", "_law_numbers", defArgs s__law_numbers, defBody s__law_numbers, defScope s__law_numbers, [], []⟩
def d__law_refused : He.DefD := ⟨("_law_refused", none), "_law_refused", "_law_refused", defArgs s__law_refused, defBody s__law_refused, defScope s__law_refused, [], []⟩
def d_law : He.DefD := ⟨("law", none), "law", "law", defArgs s_law, defBody s_law, defScope s_law, [], []⟩
def d_Places : He.DefD := ⟨("Places", some "__init__"), "__init__", "Places.__init__", defArgs s_Places, defBody s_Places, defScope s_Places, [], []⟩
def d_Places___eq__ : He.DefD := ⟨("Places", some "__eq__"), "__eq__", "Places.__eq__", defArgs s_Places___eq__, defBody s_Places___eq__, defScope s_Places___eq__, [], []⟩
def d_Places_facts : He.DefD := ⟨("Places", some "facts"), "facts", "Places.facts", defArgs s_Places_facts, defBody s_Places_facts, defScope s_Places_facts, [], []⟩
def d_BadCount : He.DefD := ⟨("BadCount", some "__init__"), "__init__", "BadCount.__init__", defArgs s_BadCount, defBody s_BadCount, defScope s_BadCount, [], []⟩
def fn : List He.DefD := [d_shared, d_shared_by, d__law_well, d__law_draw, d__law_one, d__law_common, d__law_numbers, d__law_refused, d_law, d_Places, d_Places___eq__, d_Places_facts, d_BadCount]
def fa : List He.Fa := [.glo "shared", .glo "shared_by", .glo "_law_well", .glo "_law_draw", .glo "_law_one", .glo "_law_common", .glo "_law_numbers", .glo "_law_refused", .glo "law", .glo "BadCount", .glo "HooksError", .glo "NoRod", .glo "Places", .cls "Places", .meth "Places" "__eq__", .meth "Places" "facts", .mkr "Places", .noat "Places" "numbers", .noat "Places" "parts", .free "abs", .free "isinstance", .free "len", .free "list", .free "range", .free "tuple"]
def okl : Okl where
  fld := [(20, "numbers"), (20, "parts")]
  met := [((20, "facts"), (138, 1))]
  eqs := [(20, 137)]
  sub := [((20, 20), true)]
  dat := [20]
  exs := [((0, 0), true), ((0, 15), false)]
  exm := [((0, 9), true)]
  xf := [(0, "count"), (0, "what")]
  rz := [(0, ["what", "count"])]
def ca (K : PySem.W.Frag) (c : Nat) : Addr := if c = 0 then He.ga K "BadCount" else if c = 9 then He.ga K "HooksError" else if c = 15 then He.ga K "NoRod" else if c = 20 then He.ga K "Places" else 0
section
variable {Y : Yx} {h : Heap}
theorem sc_shared : FnScope N_shared ["one", "other"] (defScope s_shared) := ⟨by kernel_rfl, by kernel_rfl, by kernel_rfl, by decide +kernel, by kernel_rfl, by decide +kernel, by decide +kernel⟩
theorem g_shared (c : He.SaysD fa fn Y.K) (X : Y.K.In h) (G : h.Ns mainGlobals Y.mg) : FnGood gam Y fs ("shared", 57) := by
  obtain ⟨fd, F⟩ := c.def_ 0 (d := d_shared) rfl
  refine ⟨N_shared, ["one", "other"], _, fd, ⟨⟨_, _, _, _, _, _, b_shared, rfl, F, sc_shared, c_shared⟩⟩, He.glo_ok X G (c.fact 0 (f := .glo "shared") rfl), F.kp, fun q hq => ?_⟩
  have hq : q ∈ ([((2, ([] : List Str)), [.p 0, .p 1])] : List ((Nat × List Str) × List Ar)) := hq
  rcases List.mem_cons.mp hq with rfl | hq
  · exact ⟨rfl, kbn0 F rfl fun _ _ _ _ _ _ us ws hu hw => match us, hu, ws, hw with | [a0, a1], _, [], _ => by kernel_rfl⟩
  cases hq
theorem sc_shared_by : FnScope N_shared_by ["numbers"] (defScope s_shared_by) := ⟨by kernel_rfl, by kernel_rfl, by kernel_rfl, by decide +kernel, by kernel_rfl, by decide +kernel, by decide +kernel⟩
theorem g_shared_by (c : He.SaysD fa fn Y.K) (X : Y.K.In h) (G : h.Ns mainGlobals Y.mg) : FnGood gam Y fs ("shared_by", 58) := by
  obtain ⟨fd, F⟩ := c.def_ 1 (d := d_shared_by) rfl
  refine ⟨N_shared_by, ["numbers"], _, fd, ⟨⟨_, _, _, _, _, _, b_shared_by, rfl, F, sc_shared_by, c_shared_by⟩⟩, He.glo_ok X G (c.fact 1 (f := .glo "shared_by") rfl), F.kp, fun q hq => ?_⟩
  have hq : q ∈ ([((1, ([] : List Str)), [.p 0])] : List ((Nat × List Str) × List Ar)) := hq
  rcases List.mem_cons.mp hq with rfl | hq
  · exact ⟨rfl, kbn0 F rfl fun _ _ _ _ _ _ us ws hu hw => match us, hu, ws, hw with | [a0], _, [], _ => by kernel_rfl⟩
  cases hq
theorem sc__law_well : FnScope N__law_well ["_law_cell"] (defScope s__law_well) := ⟨by kernel_rfl, by kernel_rfl, by kernel_rfl, by decide +kernel, by kernel_rfl, by decide +kernel, by decide +kernel⟩
theorem g__law_well (c : He.SaysD fa fn Y.K) (X : Y.K.In h) (G : h.Ns mainGlobals Y.mg) : FnGood gam Y fs ("_law_well", 200) := by
  obtain ⟨fd, F⟩ := c.def_ 2 (d := d__law_well) rfl
  refine ⟨N__law_well, ["_law_cell"], _, fd, ⟨⟨_, _, _, _, _, _, b__law_well, rfl, F, sc__law_well, c__law_well⟩⟩, He.glo_ok X G (c.fact 2 (f := .glo "_law_well") rfl), F.kp, fun q hq => ?_⟩
  have hq : q ∈ ([((1, ([] : List Str)), [.p 0])] : List ((Nat × List Str) × List Ar)) := hq
  rcases List.mem_cons.mp hq with rfl | hq
  · exact ⟨rfl, kbn0 F rfl fun _ _ _ _ _ _ us ws hu hw => match us, hu, ws, hw with | [a0], _, [], _ => by kernel_rfl⟩
  cases hq
theorem sc__law_draw : FnScope N__law_draw ["_law_well_here", "_law_many"] (defScope s__law_draw) := ⟨by kernel_rfl, by kernel_rfl, by kernel_rfl, by decide +kernel, by kernel_rfl, by decide +kernel, by decide +kernel⟩
theorem g__law_draw (c : He.SaysD fa fn Y.K) (X : Y.K.In h) (G : h.Ns mainGlobals Y.mg) : FnGood gam Y fs ("_law_draw", 201) := by
  obtain ⟨fd, F⟩ := c.def_ 3 (d := d__law_draw) rfl
  refine ⟨N__law_draw, ["_law_well_here", "_law_many"], _, fd, ⟨⟨_, _, _, _, _, _, b__law_draw, rfl, F, sc__law_draw, c__law_draw⟩⟩, He.glo_ok X G (c.fact 3 (f := .glo "_law_draw") rfl), F.kp, fun q hq => ?_⟩
  have hq : q ∈ ([((2, ([] : List Str)), [.p 0, .p 1])] : List ((Nat × List Str) × List Ar)) := hq
  rcases List.mem_cons.mp hq with rfl | hq
  · exact ⟨rfl, kbn0 F rfl fun _ _ _ _ _ _ us ws hu hw => match us, hu, ws, hw with | [a0, a1], _, [], _ => by kernel_rfl⟩
  cases hq
theorem sc__law_one : FnScope N__law_one ["_law_well_here", "_law_some"] (defScope s__law_one) := ⟨by kernel_rfl, by kernel_rfl, by kernel_rfl, by decide +kernel, by kernel_rfl, by decide +kernel, by decide +kernel⟩
theorem g__law_one (c : He.SaysD fa fn Y.K) (X : Y.K.In h) (G : h.Ns mainGlobals Y.mg) : FnGood gam Y fs ("_law_one", 202) := by
  obtain ⟨fd, F⟩ := c.def_ 4 (d := d__law_one) rfl
  refine ⟨N__law_one, ["_law_well_here", "_law_some"], _, fd, ⟨⟨_, _, _, _, _, _, b__law_one, rfl, F, sc__law_one, c__law_one⟩⟩, He.glo_ok X G (c.fact 4 (f := .glo "_law_one") rfl), F.kp, fun q hq => ?_⟩
  have hq : q ∈ ([((2, ([] : List Str)), [.p 0, .p 1])] : List ((Nat × List Str) × List Ar)) := hq
  rcases List.mem_cons.mp hq with rfl | hq
  · exact ⟨rfl, kbn0 F rfl fun _ _ _ _ _ _ us ws hu hw => match us, hu, ws, hw with | [a0, a1], _, [], _ => by kernel_rfl⟩
  cases hq
theorem sc__law_common : FnScope N__law_common ["_law_numbers_so"] (defScope s__law_common) := ⟨by kernel_rfl, by kernel_rfl, by kernel_rfl, by decide +kernel, by kernel_rfl, by decide +kernel, by decide +kernel⟩
theorem g__law_common (c : He.SaysD fa fn Y.K) (X : Y.K.In h) (G : h.Ns mainGlobals Y.mg) : FnGood gam Y fs ("_law_common", 204) := by
  obtain ⟨fd, F⟩ := c.def_ 5 (d := d__law_common) rfl
  refine ⟨N__law_common, ["_law_numbers_so"], _, fd, ⟨⟨_, _, _, _, _, _, b__law_common, rfl, F, sc__law_common, c__law_common⟩⟩, He.glo_ok X G (c.fact 5 (f := .glo "_law_common") rfl), F.kp, fun q hq => ?_⟩
  have hq : q ∈ ([((1, ([] : List Str)), [.p 0])] : List ((Nat × List Str) × List Ar)) := hq
  rcases List.mem_cons.mp hq with rfl | hq
  · exact ⟨rfl, kbn0 F rfl fun _ _ _ _ _ _ us ws hu hw => match us, hu, ws, hw with | [a0], _, [], _ => by kernel_rfl⟩
  cases hq
theorem sc__law_numbers : FnScope N__law_numbers ["_law_well_here"] (defScope s__law_numbers) := ⟨by kernel_rfl, by kernel_rfl, by kernel_rfl, by decide +kernel, by kernel_rfl, by decide +kernel, by decide +kernel⟩
theorem g__law_numbers (c : He.SaysD fa fn Y.K) (X : Y.K.In h) (G : h.Ns mainGlobals Y.mg) : FnGood gam Y fs ("_law_numbers", 205) := by
  obtain ⟨fd, F⟩ := c.def_ 6 (d := d__law_numbers) rfl
  refine ⟨N__law_numbers, ["_law_well_here"], _, fd, ⟨⟨_, _, _, _, _, _, b__law_numbers, rfl, F, sc__law_numbers, c__law_numbers⟩⟩, He.glo_ok X G (c.fact 6 (f := .glo "_law_numbers") rfl), F.kp, fun q hq => ?_⟩
  have hq : q ∈ ([((1, ([] : List Str)), [.p 0])] : List ((Nat × List Str) × List Ar)) := hq
  rcases List.mem_cons.mp hq with rfl | hq
  · exact ⟨rfl, kbn0 F rfl fun _ _ _ _ _ _ us ws hu hw => match us, hu, ws, hw with | [a0], _, [], _ => by kernel_rfl⟩
  cases hq
theorem sc__law_refused : FnScope N__law_refused ["_law_numbers_so", "_law_share"] (defScope s__law_refused) := ⟨by kernel_rfl, by kernel_rfl, by kernel_rfl, by decide +kernel, by kernel_rfl, by decide +kernel, by decide +kernel⟩
theorem g__law_refused (c : He.SaysD fa fn Y.K) (X : Y.K.In h) (G : h.Ns mainGlobals Y.mg) : FnGood gam Y fs ("_law_refused", 206) := by
  obtain ⟨fd, F⟩ := c.def_ 7 (d := d__law_refused) rfl
  refine ⟨N__law_refused, ["_law_numbers_so", "_law_share"], _, fd, ⟨⟨_, _, _, _, _, _, b__law_refused, rfl, F, sc__law_refused, c__law_refused⟩⟩, He.glo_ok X G (c.fact 7 (f := .glo "_law_refused") rfl), F.kp, fun q hq => ?_⟩
  have hq : q ∈ ([((2, ([] : List Str)), [.p 0, .p 1])] : List ((Nat × List Str) × List Ar)) := hq
  rcases List.mem_cons.mp hq with rfl | hq
  · exact ⟨rfl, kbn0 F rfl fun _ _ _ _ _ _ us ws hu hw => match us, hu, ws, hw with | [a0, a1], _, [], _ => by kernel_rfl⟩
  cases hq
theorem sc_law : FnScope N_law ["_law_script"] (defScope s_law) := ⟨by kernel_rfl, by kernel_rfl, by kernel_rfl, by decide +kernel, by kernel_rfl, by decide +kernel, by decide +kernel⟩
theorem g_law (c : He.SaysD fa fn Y.K) (X : Y.K.In h) (G : h.Ns mainGlobals Y.mg) : FnGood gam Y fs ("law", 207) := by
  obtain ⟨fd, F⟩ := c.def_ 8 (d := d_law) rfl
  refine ⟨N_law, ["_law_script"], _, fd, ⟨⟨_, _, _, _, _, _, b_law, rfl, F, sc_law, c_law⟩⟩, He.glo_ok X G (c.fact 8 (f := .glo "law") rfl), F.kp, fun q hq => ?_⟩
  cases hq
theorem sc_Places : FnScope N_Places ["self", "numbers", "parts"] (defScope s_Places) := ⟨by kernel_rfl, by kernel_rfl, by kernel_rfl, by decide +kernel, by kernel_rfl, by decide +kernel, by decide +kernel⟩
theorem g_Places (c : He.SaysD fa fn Y.K) (X : Y.K.In h) (G : h.Ns mainGlobals Y.mg) : InGood gam Y ⟨Y.K, ca Y.K⟩ ins ("Places", 20, 20) := by
  obtain ⟨fd, F⟩ := c.def_ 9 (d := d_Places) rfl
  refine ⟨2, N_Places, ["self", "numbers", "parts"], _, fd, ⟨⟨_, _, _, _, _, _, b_Places, rfl, F, sc_Places, c_Places, rfl, by decide⟩⟩, He.mkr_ok (c.fact 16 (f := .mkr "Places") rfl), He.glo_ok X G (c.fact 12 (f := .glo "Places") rfl), fun q hq => ?_⟩
  have hq : q ∈ ([((0, (["parts", "numbers"] : List Str)), [.k 1, .k 0]), ((2, ([] : List Str)), [.p 0, .p 1])] : List ((Nat × List Str) × List Ar)) := hq
  rcases List.mem_cons.mp hq with rfl | hq
  · exact ⟨rfl, kbn0 F rfl fun _ _ _ _ _ _ us ws hu hw => match us, hu, ws, hw with | [a0], _, [b0, b1], _ => by kernel_rfl⟩
  rcases List.mem_cons.mp hq with rfl | hq
  · exact ⟨rfl, kbn0 F rfl fun _ _ _ _ _ _ us ws hu hw => match us, hu, ws, hw with | [a0, a1, a2], _, [], _ => by kernel_rfl⟩
  cases hq
theorem sc_Places___eq__ : FnScope N_Places___eq__ ["self", "other"] (defScope s_Places___eq__) := ⟨by kernel_rfl, by kernel_rfl, by kernel_rfl, by decide +kernel, by kernel_rfl, by decide +kernel, by decide +kernel⟩
theorem g_Places___eq__ (c : He.SaysD fa fn Y.K) : EqGood gam Y ⟨Y.K, ca Y.K⟩ fs (20, 137) := by
  obtain ⟨fd, F⟩ := c.def_ 10 (d := d_Places___eq__) rfl
  exact ⟨N_Places___eq__, ["self", "other"], fd, ⟨⟨_, _, _, _, _, _, b_Places___eq__, rfl, F, sc_Places___eq__, c_Places___eq__⟩⟩, rfl, He.meth_ok (c.fact 14 (f := .meth "Places" "__eq__") rfl), L2.FunD.bindsN F fun _ _ _ _ _ _ us hl => match us, hl with | [_, _], _ => rfl⟩
theorem sc_Places_facts : FnScope N_Places_facts ["self"] (defScope s_Places_facts) := ⟨by kernel_rfl, by kernel_rfl, by kernel_rfl, by decide +kernel, by kernel_rfl, by decide +kernel, by decide +kernel⟩
theorem g_Places_facts (c : He.SaysD fa fn Y.K) : MtGood gam Y ⟨Y.K, ca Y.K⟩ fs ((20, "facts"), (138, 1)) := by
  obtain ⟨fd, F⟩ := c.def_ 11 (d := d_Places_facts) rfl
  exact ⟨N_Places_facts, ["self"], _, fd, ⟨⟨_, _, _, _, _, _, b_Places_facts, rfl, F, sc_Places_facts, c_Places_facts⟩⟩, rfl, He.cls_ok (c.fact 13 (f := .cls "Places") rfl), He.meth_ok (c.fact 15 (f := .meth "Places" "facts") rfl), L2.FunD.bindsN F fun _ _ _ _ _ _ us hl => match us, hl with | [_], _ => rfl⟩
theorem sc_BadCount : FnScope N_BadCount ["self", "what", "count"] (defScope s_BadCount) := ⟨by kernel_rfl, by kernel_rfl, by kernel_rfl, by decide +kernel, by kernel_rfl, by decide +kernel, by decide +kernel⟩
theorem g_BadCount (c : He.SaysD fa fn Y.K) : RzGood Y ⟨Y.K, ca Y.K⟩ (0, ["what", "count"]) := by
  obtain ⟨fd, F⟩ := c.def_ 12 (d := d_BadCount) rfl
  exact ⟨fd, ["self", "what", "count"], exc_body (k := 0) F sc_BadCount rfl rfl (by decide +kernel) (by decide +kernel), L2.FunD.bindsN F fun _ _ _ _ _ _ us hl => match us, hl with | [_, _, _], _ => rfl⟩
theorem text (c : He.SaysD fa fn Y.K) (cx : exK okl ca Y.K = true) (X : Y.K.In h) (G : h.Ns mainGlobals Y.mg) : Txt gam Y ⟨Y.K, ca Y.K⟩ (okt okl) fs ins := by
  refine txt_of rfl rfl cx (fun p hp => ?_) (fun p hp => ?_) (fun x hx => ?_) (fun p hp => ?_) (fun p hp => ?_) (fun p hp => ?_) (fun p hp => ?_) (fun p hp => ?_) (fun p hp => ?_)
  · have hp : _ ∈ ([("shared", 57), ("shared_by", 58), ("_law_well", 200), ("_law_draw", 201), ("_law_one", 202), ("_law_common", 204), ("_law_numbers", 205), ("_law_refused", 206), ("law", 207)] : List (Str × Nat)) := hp
    rcases List.mem_cons.mp hp with rfl | hp
    · exact g_shared c X G
    rcases List.mem_cons.mp hp with rfl | hp
    · exact g_shared_by c X G
    rcases List.mem_cons.mp hp with rfl | hp
    · exact g__law_well c X G
    rcases List.mem_cons.mp hp with rfl | hp
    · exact g__law_draw c X G
    rcases List.mem_cons.mp hp with rfl | hp
    · exact g__law_one c X G
    rcases List.mem_cons.mp hp with rfl | hp
    · exact g__law_common c X G
    rcases List.mem_cons.mp hp with rfl | hp
    · exact g__law_numbers c X G
    rcases List.mem_cons.mp hp with rfl | hp
    · exact g__law_refused c X G
    rcases List.mem_cons.mp hp with rfl | hp
    · exact g_law c X G
    cases hp
  · have hp : _ ∈ ([("Places", 20, 20)] : List (Str × Nat × Nat)) := hp
    rcases List.mem_cons.mp hp with rfl | hp
    · exact g_Places c X G
    cases hp
  · have hx : _ ∈ (["abs", "isinstance", "len", "list", "range", "tuple"] : List (Str)) := hx
    rcases List.mem_cons.mp hx with rfl | hx
    · exact He.free_ok X G (c.fact 19 (f := .free "abs") rfl)
    rcases List.mem_cons.mp hx with rfl | hx
    · exact He.free_ok X G (c.fact 20 (f := .free "isinstance") rfl)
    rcases List.mem_cons.mp hx with rfl | hx
    · exact He.free_ok X G (c.fact 21 (f := .free "len") rfl)
    rcases List.mem_cons.mp hx with rfl | hx
    · exact He.free_ok X G (c.fact 22 (f := .free "list") rfl)
    rcases List.mem_cons.mp hx with rfl | hx
    · exact He.free_ok X G (c.fact 23 (f := .free "range") rfl)
    rcases List.mem_cons.mp hx with rfl | hx
    · exact He.free_ok X G (c.fact 24 (f := .free "tuple") rfl)
    cases hx
  · have hp : _ ∈ ([(20, "numbers"), (20, "parts")] : List (Nat × String)) := hp
    rcases List.mem_cons.mp hp with rfl | hp
    · exact ⟨He.cls_ok (c.fact 13 (f := .cls "Places") rfl), He.noat_ok (c.fact 17 (f := .noat "Places" "numbers") rfl)⟩
    rcases List.mem_cons.mp hp with rfl | hp
    · exact ⟨He.cls_ok (c.fact 13 (f := .cls "Places") rfl), He.noat_ok (c.fact 18 (f := .noat "Places" "parts") rfl)⟩
    cases hp
  · have hp : _ ∈ ([("BadCount", 0), ("HooksError", 9), ("NoRod", 15), ("Places", 20)] : List (Str × Nat)) := hp
    rcases List.mem_cons.mp hp with rfl | hp
    · exact He.glo_ok X G (c.fact 9 (f := .glo "BadCount") rfl)
    rcases List.mem_cons.mp hp with rfl | hp
    · exact He.glo_ok X G (c.fact 10 (f := .glo "HooksError") rfl)
    rcases List.mem_cons.mp hp with rfl | hp
    · exact He.glo_ok X G (c.fact 11 (f := .glo "NoRod") rfl)
    rcases List.mem_cons.mp hp with rfl | hp
    · exact He.glo_ok X G (c.fact 12 (f := .glo "Places") rfl)
    cases hp
  · have hp : _ ∈ ([((20, "facts"), (138, 1))] : List ((Nat × String) × (Nat × Nat))) := hp
    rcases List.mem_cons.mp hp with rfl | hp
    · exact g_Places_facts c
    cases hp
  · have hp : _ ∈ ([(20, 137)] : List (Nat × Nat)) := hp
    rcases List.mem_cons.mp hp with rfl | hp
    · exact g_Places___eq__ c
    cases hp
  · have hp : _ ∈ ([((20, 20), true)] : List ((Nat × Nat) × Bool)) := hp
    rcases List.mem_cons.mp hp with rfl | hp
    · exact He.cls_ok (c.fact 13 (f := .cls "Places") rfl)
    cases hp
  · have hp : _ ∈ ([(0, ["what", "count"])] : List (Nat × List String)) := hp
    rcases List.mem_cons.mp hp with rfl | hp
    · exact g_BadCount c
    cases hp
end
end Lw


set_option Elab.async false
set_option linter.all false
set_option maxRecDepth 100000
set_option maxHeartbeats 0
namespace Lw
open PySem PySem.Spec PyProof.Rows L2 PV
abbrev R : PySem.W.OpenRow := PySem.W.OpenLaw.row PySem.Challenge.rw_hookspans_k03_places_told
abbrev hk : PySem.W.Hook := He.hookX 4 fa fn [] [] (PV.exK okl ca)
def ob (s : PySem.W.SharedT) : He.AlX := He.obsX 4 fa fn [] [] (PV.exK okl ca) (HandSHeadRun.getT s)
theorem ob_eq (s : PySem.W.SharedT) : ob s = hk.obs s.abs := He.obsX_eq (HandSHeadRun.getT_eq s)
theorem run (w : World) : HandSHeadRun.RunEq R (PySem.W.view R.prog [17]) hk ob 60000 ((["_wall", "HooksError", "BadCount", "NoRod", "shared", "shared_by", "Places", "_law_well", "_law_draw", "_law_one", "_law_common", "_law_numbers", "_law_refused"] : List Str)) w := by
  intro os
  kernel_rfl
end Lw
open PySem PySem.W PySem.Calls PyProof.Rows
theorem holds_of (hl : ∀ ns : List Int, ns.length ≤ 63 → ∃ S, (PV.TT (PV.okt Lw.okl) Lw.fs Lw.ins 30).fn 207 [.scr (ns.map PV.D.int)] [] = .ok (.bl true) S) : PySem.Challenge.rw_hookspans_k03_places_told.Holds := by
  w_on; o_law
  refine HandSHeadRun.head_any (r := OpenLaw.row PySem.Challenge.rw_hookspans_k03_places_told) (q := view (OpenLaw.row PySem.Challenge.rw_hookspans_k03_places_told).prog [17]) (H := Lw.hk) (ob := Lw.ob) (M := 60000) (loose := (["_wall", "HooksError", "BadCount", "NoRod", "shared", "shared_by", "Places", "_law_well", "_law_draw", "_law_one", "_law_common", "_law_numbers", "_law_refused"] : List Str)) (d := HandSHeadRun.topDef (OpenLaw.row PySem.Challenge.rw_hookspans_k03_places_told).prog 17) (kwd := []) Lw.ob_eq
    (by kernel_rfl) (fun s => by kernel_rfl) Lw.run (by kernel_rfl) (by kernel_rfl) (by kernel_rfl) (by rfl) (by first | assumption | decide +kernel) (by decide +kernel) ⟨rfl, rfl, rfl, rfl, rfl, by decide +kernel⟩ ?hw ?hc
  case hw => w_witness2
  case hc =>
    refine PV.walk_w (l := PySem.Challenge.rw_hookspans_k03_places_told) (n := 63) (k := 123) (x := "_law_script") rfl (by decide) (by kernel_rfl) ⟨rfl, by decide, by decide⟩ ?F
    intro w mg fa h Yh G hmg0
    obtain ⟨K, KX, c0⟩ := Yh
    have c := c0.t.d
    have hmg : mg ("law" : PySem.Str) = some (.ref fa) := by
      have e : (HandSHeadRun.topDef (OpenLaw.row PySem.Challenge.rw_hookspans_k03_places_told).prog 17).name = ("law" : PySem.Str) := by kernel_rfl
      rw [← e]
      exact hmg0
    have e0 := hmg.symm.trans (He.glo_ok KX G (c.fact 8 (f := .glo "law") rfl))
    cases e0
    obtain ⟨fd, F⟩ := c.def_ 8 (d := Lw.d_law) rfl
    have hb := L2.FunD.bindsA (ps := ["_law_script"]) F fun _ _ _ _ _ _ us hl => match us, hl with | [_], _ => rfl
    refine ⟨K, fd, PV.spL K 63, KX, fun s v => hb s [v] rfl, fun H a ns hl _ hS => ⟨a, ns, rfl, hl, hS, fun _ => rfl⟩, fun base _ _ => ?_⟩
    have tx := Lw.text (Y := ⟨(PySem.Challenge.rw_hookspans_k03_places_told).prog, w, K, mg, base⟩) c c0.more KX G
    exact PV.law_ok tx (i := 207) (N := Lw.N_law) ⟨⟨_, _, _, _, _, _, Lw.b_law, rfl, F, Lw.sc_law, Lw.c_law⟩⟩ 30 hl


set_option Elab.async false
set_option linter.all false
set_option maxRecDepth 100000
set_option maxHeartbeats 800000
theorem PySem.Challenge.cw_hookspans_k03_places_told_holds : PySem.Challenge.rw_hookspans_k03_places_told.Holds :=
  holds_of fun ns hn => by
    have P : PV.FPl (PV.okt Lw.okl) Lw.fs Lw.ins := ⟨rfl, rfl, rfl, by decide +kernel, by decide +kernel, rfl, rfl, by decide +kernel, by decide +kernel, by decide +kernel, by decide +kernel, by decide +kernel⟩
    have F : PV.F03 (PV.okt Lw.okl) Lw.fs Lw.ins := ⟨P, rfl, rfl, rfl, rfl, rfl, rfl, by decide +kernel, by decide +kernel, by decide +kernel, by decide +kernel, by decide +kernel⟩
    obtain ⟨d, S, h, hd⟩ := PV.W_get (PV.law_ok03 (k := 24) (S := []) F rfl ns hn)
    exact ⟨S, by rw [← hd]; exact h⟩
