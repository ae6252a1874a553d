import PyProof.Rows.All
import Wide.All
import OpenK.AllK
import Wide.FinOn
import HandS.ForMost
import HandS.Exc
import HandS.TryOnly
import HandS.ExcOwn
import HandS.ExcIs
import HandS.ExcValue
import HandS.IsInst
import HandS.WordsExc
import HandS.Defaults
import HandS.Head0
import HandS.Head1
import HandS.Head2
import HandS.HeadEnd
import HandS.HeadHook1
import HandS.HeadHook2
import HandS.Style
import HandS.SetFor
import HandS.Iter
import HandS.Conv
import HandS.More
import HandS.Comp
import HandS.Dict
import HandS.Walk
import HandS.Flt
import HandS.Deep
import PySem.Challenge.RW_tuneroad_k33_whole_sounds
set_option Elab.async false
set_option linter.all false
set_option maxRecDepth 100000
set_option maxHeartbeats 4000000
/-! Assertions over the abstract heap, side by side: each owns its objects, tuples and known things are shared. -/
namespace TR
open PySem PySem.Spec PyProof.Rows L2

/-- what never changes -/
def Imm : HO → Prop
  | .tup _ => True
  | _ => False
def Sb (a b : Hp) : Prop := ∀ p o, a p = some o → b p = some o
def Dj (a b : Hp) : Prop := ∀ p o u, a p = some o → b p = some u → Imm o
theorem Sb.refl (a : Hp) : Sb a a := fun _ _ h => h
theorem Sb.trans {a b c : Hp} (h : Sb a b) (g : Sb b c) : Sb a c := fun p o e => g p o (h p o e)
abbrev As := Hp → Prop
def Sep : List As → Hp → Prop
  | [], _ => True
  | A :: R, H => ∃ h1 h2, Sb h1 H ∧ Sb h2 H ∧ Dj h1 h2 ∧ A h1 ∧ Sep R h2
theorem Sep.mono : ∀ {L : List As} {H H' : Hp}, Sb H H' → Sep L H → Sep L H'
  | [], _, _, _, _ => trivial
  | A :: R, H, H', s, ⟨h1, h2, s1, s2, d, a, r⟩ => ⟨h1, h2, s1.trans s, s2.trans s, d, a, r⟩
def uni (a b : Hp) : Hp := fun p => match a p with
  | some o => some o
  | none => b p
theorem uni_l {a b : Hp} : Sb a (uni a b) := fun p o e => by
  show (match a p with | some o => some o | none => b p) = some o
  rw [e]
theorem uni_or {a b : Hp} {p : Addr} {o : HO} (e : uni a b p = some o) : a p = some o ∨ b p = some o := by
  have e' : (match a p with | some o => some o | none => b p) = some o := e
  cases q : a p with
  | some u =>
    rw [q] at e'
    exact .inl e'
  | none =>
    rw [q] at e'
    exact .inr e'
theorem uni_sub {a b H : Hp} (ha : Sb a H) (hb : Sb b H) : Sb (uni a b) H := fun p o e => (uni_or e).elim (ha p o) (hb p o)
theorem uni_r {a b H : Hp} (ha : Sb a H) (hb : Sb b H) : Sb b (uni a b) := fun p o e => by
  show (match a p with | some o => some o | none => b p) = some o
  cases q : a p with
  | some u =>
    have h1 := ha p u q
    have h2 := hb p o e
    rw [h1] at h2
    exact h2
  | none => exact e
theorem Dj.symm {a b H : Hp} (ha : Sb a H) (hb : Sb b H) (d : Dj a b) : Dj b a := fun p o u e1 e2 => by
  have h1 := hb p o e1
  have h2 := ha p u e2
  rw [h1] at h2
  cases h2
  exact d p o o e2 e1
theorem Dj.sub {a b c : Hp} (d : Dj a b) (s : Sb c b) : Dj a c := fun p o u e1 e2 => d p o u e1 (s p u e2)
theorem Dj.subl {a b c : Hp} (d : Dj a b) (s : Sb c a) : Dj c b := fun p o u e1 e2 => d p o u (s p o e1) e2
theorem Sep.swap {A B : As} {R : List As} {H : Hp} : Sep (A :: B :: R) H → Sep (B :: A :: R) H
  | ⟨h1, h2, s1, s2, d, a, k1, k2, t1, t2, e, b, r⟩ => by
    have u1 : Sb k1 H := t1.trans s2
    have u2 : Sb k2 H := t2.trans s2
    have d1 : Dj h1 k1 := d.sub t1
    have d2 : Dj h1 k2 := d.sub t2
    refine ⟨k1, uni h1 k2, u1, uni_sub s1 u2, fun p o u e1 e2 => ?_, b, h1, k2, uni_l, uni_r s1 u2, d2, a, r⟩
    rcases uni_or e2 with z | z
    · exact d1.symm s1 u1 p o u e1 z
    · exact e p o u e1 z
theorem Sep.tail {A : As} {R : List As} {H : Hp} : Sep (A :: R) H → Sep R H := fun ⟨_, _, _, s2, _, _, r⟩ => Sep.mono s2 r
theorem Sep.skip {A : As} {R R' : List As} {H : Hp} (f : ∀ h, Sep R h → Sep R' h) : Sep (A :: R) H → Sep (A :: R') H := fun ⟨h1, h2, s1, s2, d, a, r⟩ => ⟨h1, h2, s1, s2, d, a, f h2 r⟩
theorem Sep.hd {A B : As} {R : List As} {H : Hp} (f : ∀ h, A h → B h) : Sep (A :: R) H → Sep (B :: R) H := fun ⟨h1, h2, s1, s2, d, a, r⟩ => ⟨h1, h2, s1, s2, d, f h1 a, r⟩

/-- points to -/
def pt (p : Addr) (o : HO) : As := fun h => h p = some o
theorem Sep.get {p : Addr} {o : HO} {R : List As} {H : Hp} (h : Sep (pt p o :: R) H) : H p = some o := by
  obtain ⟨h1, h2, s1, s2, d, a, r⟩ := h
  exact s1 p o a
theorem Sep.put {p : Addr} {o o' : HO} {R : List As} {H : Hp} (n : ¬ Imm o) (h : Sep (pt p o :: R) H) : Sep (pt p o' :: R) (upd H p o') := by
  obtain ⟨h1, h2, s1, s2, d, a, r⟩ := h
  have n2 : ∀ u, h2 p ≠ some u := fun u e => n (d p o u a e)
  refine ⟨fun b => if b = p then some o' else none, h2, fun b u e => ?_, fun b u e => ?_, fun b u v e1 e2 => ?_, if_pos rfl, r⟩
  · by_cases hb : b = p
    · have e1 : some o' = some u := by
        have e' : (if b = p then some o' else none) = some u := e
        rw [if_pos hb] at e'
        exact e'
      rw [hb]
      unfold upd
      rw [if_pos rfl]
      exact e1
    · have e' : (if b = p then some o' else none) = some u := e
      rw [if_neg hb] at e'
      cases e'
  · by_cases hb : b = p
    · rw [hb] at e
      exact absurd e (n2 u)
    · rw [upd_ne hb]
      exact s2 b u e
  · by_cases hb : b = p
    · rw [hb] at e2
      exact absurd e2 (n2 v)
    · have e' : (if b = p then some o' else none) = some u := e1
      rw [if_neg hb] at e'
      cases e'
theorem Sep.new {p : Addr} {o : HO} {R : List As} {H : Hp} (n : H p = none) (h : Sep R H) : Sep (pt p o :: R) (upd H p o) := by
  refine ⟨fun b => if b = p then some o else none, H, fun b u e => ?_, fun b u e => ?_, fun b u v e1 e2 => ?_, if_pos rfl, h⟩
  · by_cases hb : b = p
    · have e' : (if b = p then some o else none) = some u := e
      rw [if_pos hb] at e'
      rw [hb]
      unfold upd
      rw [if_pos rfl]
      exact e'
    · have e' : (if b = p then some o else none) = some u := e
      rw [if_neg hb] at e'
      cases e'
  · rw [upd_ne (ne_of_none e n)]
    exact e
  · by_cases hb : b = p
    · rw [hb, n] at e2
      cases e2
    · have e' : (if b = p then some o else none) = some u := e1
      rw [if_neg hb] at e'
      cases e'
/-- what is new beside: the own dict of a new instance -/
theorem Sep.newd {p : Addr} {o : HO} {R : List As} {H : Hp} (n : H p = none) (h : Sep R H) : Sep R (upd H p o) := (Sep.new n h).tail
/-- a shared thing once more -/
theorem Sep.dup {p : Addr} {o : HO} {R : List As} {H : Hp} (n : Imm o) (h : Sep (pt p o :: R) H) : Sep (pt p o :: pt p o :: R) H := by
  obtain ⟨h1, h2, s1, s2, d, a, r⟩ := h
  have one : Sb (fun b => if b = p then some o else none) h1 := fun b u e => by
    have e' : (if b = p then some o else none) = some u := e
    by_cases hb : b = p
    · rw [if_pos hb] at e'
      rw [hb, ← e']
      exact a
    · rw [if_neg hb] at e'
      cases e'
  have imm : ∀ b u, (if b = p then some o else none) = some u → Imm u := fun b u e => by
    by_cases hb : b = p
    · rw [if_pos hb] at e
      cases e
      exact n
    · rw [if_neg hb] at e
      cases e
  exact ⟨_, H, one.trans s1, Sb.refl H, fun b u v e1 e2 => imm b u e1, if_pos rfl, h1, h2, s1, s2, d, a, r⟩
/-- a fact -/
def pu (φ : Prop) : As := fun _ => φ
theorem Sep.pu {φ : Prop} {R : List As} {H : Hp} : Sep (pu φ :: R) H → φ ∧ Sep R H := fun ⟨_, _, _, s2, _, a, r⟩ => ⟨a, Sep.mono s2 r⟩
theorem Sep.fact {A : As} {φ : Prop} {R : List As} {H : Hp} (f : ∀ h, A h → φ) : Sep (A :: R) H → φ := fun ⟨h1, _, _, _, _, a, _⟩ => f h1 a
theorem empty_sb (H : Hp) : Sb (fun _ => none) H := fun _ _ e => nomatch e
theorem Sep.pui {φ : Prop} {R : List As} {H : Hp} (f : φ) (h : Sep R H) : Sep (TR.pu φ :: R) H := ⟨fun _ => none, H, empty_sb H, Sb.refl H, fun _ _ _ e => (nomatch e), f, h⟩
/-- there is one -/
def ex {α : Type} (A : α → As) : As := fun h => ∃ x, A x h
theorem Sep.ex {α : Type} {A : α → As} {R : List As} {H : Hp} : Sep (ex A :: R) H → ∃ x, Sep (A x :: R) H := fun ⟨h1, h2, s1, s2, d, ⟨x, a⟩, r⟩ => ⟨x, h1, h2, s1, s2, d, a, r⟩
theorem Sep.exi {α : Type} {A : α → As} {R : List As} {H : Hp} (x : α) (h : Sep (A x :: R) H) : Sep (TR.ex A :: R) H := Sep.hd (fun _ a => ⟨x, a⟩) h
/-- several as one -/
def all (L : List As) : As := fun h => Sep L h
theorem Sep.nil1 {R : List As} {H : Hp} (h : Sep R H) : Sep (all [] :: R) H := ⟨fun _ => none, H, empty_sb H, Sb.refl H, fun _ _ _ e => (nomatch e), trivial, h⟩
theorem Sep.flat : ∀ {L R : List As} {H : Hp}, Sep (all L :: R) H → Sep (L ++ R) H
  | [], R, H, h => h.tail
  | A :: L, R, H, ⟨h1, h2, s1, s2, d, ⟨k1, k2, t1, t2, e, a, l⟩, r⟩ => by
    have u1 : Sb k1 H := t1.trans s1
    have u2 : Sb k2 H := t2.trans s1
    have d2 : Dj k2 h2 := d.subl t2
    have q : Sep (L ++ R) (uni k2 h2) := Sep.flat ⟨k2, h2, uni_l, uni_r u2 s2, d2, l, r⟩
    refine ⟨k1, uni k2 h2, u1, uni_sub u2 s2, fun p o u e1 e2 => ?_, a, q⟩
    rcases uni_or e2 with z | z
    · exact e p o u e1 z
    · exact (d.subl t1) p o u e1 z
theorem Sep.wrap : ∀ {L R : List As} {H : Hp}, Sep (L ++ R) H → Sep (all L :: R) H
  | [], R, H, h => h.nil1
  | A :: L, R, H, ⟨h1, h2, s1, s2, d, a, q⟩ => by
    obtain ⟨k1, k2, t1, t2, e, l, r⟩ := Sep.wrap (L := L) (R := R) q
    have u1 : Sb k1 H := t1.trans s2
    have u2 : Sb k2 H := t2.trans s2
    refine ⟨uni h1 k1, k2, uni_sub s1 u1, u2, fun p o u e1 e2 => ?_, ⟨h1, k1, uni_l, uni_r s1 u1, d.sub t1, a, l⟩, r⟩
    rcases uni_or e1 with z | z
    · exact (d.sub t2) p o u z e2
    · exact e p o u z e2

/-- two as one -/
theorem Sep.join {A B C : As} {R : List As} {H : Hp} (f : ∀ h1 h2 h, Sb h1 h → Sb h2 h → A h1 → B h2 → C h) : Sep (A :: B :: R) H → Sep (C :: R) H := fun ⟨h1, h2, s1, s2, d, a, k1, k2, t1, t2, e, b, r⟩ => by
  refine ⟨uni h1 k1, k2, uni_sub s1 (t1.trans s2), t2.trans s2, fun p o u e1 e2 => ?_, f h1 k1 _ uni_l (uni_r s1 (t1.trans s2)) a b, r⟩
  rcases uni_or e1 with z | z
  · exact (d.sub t2) p o u z e2
  · exact e p o u z e2
/-- what is known of an assertion's part of the heap -/
theorem Sep.part {A : As} {R : List As} {H : Hp} : Sep (A :: R) H → ∃ h, Sb h H ∧ A h := fun ⟨h1, _, s1, _, _, a, _⟩ => ⟨h1, s1, a⟩
/-- entailment -/
def En (L L' : List As) : Prop := ∀ H, Sep L H → Sep L' H
theorem En.refl {L : List As} : En L L := fun _ h => h
theorem En.nil {L : List As} : En L [] := fun _ _ => trivial
theorem En.trans {L M N : List As} (a : En L M) (b : En M N) : En L N := fun H h => b H (a H h)
theorem En.skip {A : As} {L L' : List As} (e : En L L') : En (A :: L) (A :: L') := fun _ h => Sep.skip e h
theorem En.swap {A B : As} {R : List As} : En (A :: B :: R) (B :: A :: R) := fun _ h => Sep.swap h
/-- A stands in L, the rest is R -/
class Pk (A : As) (L : List As) (R : outParam (List As)) : Prop where
  en : En L (A :: R)
  ne : En (A :: R) L
instance Pk.here {A : As} {R : List As} : Pk A (A :: R) R := ⟨En.refl, En.refl⟩
instance (priority := low) Pk.there {A B : As} {L R : List As} [p : Pk A L R] : Pk A (B :: L) (B :: R) := ⟨(En.skip p.en).trans En.swap, En.swap.trans (En.skip p.ne)⟩
/-- o stands at p -/
class At (p : Addr) (L : List As) (o : outParam HO) (R : outParam (List As)) : Prop where
  en : En L (pt p o :: R)
instance At.here {p : Addr} {o : HO} {R : List As} : At p (pt p o :: R) o R := ⟨En.refl⟩
instance (priority := low) At.there {p : Addr} {B : As} {L R : List As} {o : HO} [q : At p L o R] : At p (B :: L) o (B :: R) := ⟨(En.skip q.en).trans En.swap⟩
theorem Sep.at_ {p : Addr} {L R : List As} {o : HO} {H : Hp} (h : Sep L H) [q : At p L o R] : H p = some o := (q.en H h).get
theorem Sep.to {A : As} {L R : List As} {H : Hp} (h : Sep L H) [q : Pk A L R] : Sep (A :: R) H := q.en H h
theorem En.cons {A : As} {L L0 R : List As} [q : Pk A L L0] (e : En L0 R) : En L (A :: R) := q.en.trans (En.skip e)
theorem En.drop {A : As} {L L' : List As} (e : En L L') : En (A :: L) L' := fun _ h => e _ h.tail
/-- the tail of L' is a letter -/
theorem Sep.of {L L' : List As} {H : Hp} (h : Sep L H) (e : En L L') : Sep L' H := e H h
/-- an assertion about what stands at p -/
class Kys (A : As) (p : outParam Addr) : Prop where
  k : True
instance {p : Addr} {o : HO} : Kys (pt p o) p := ⟨trivial⟩
class AtA (p : Addr) (L : List As) (A : outParam As) (R : outParam (List As)) : Prop where
  en : En L (A :: R)
instance AtA.here {p : Addr} {A : As} {R : List As} [Kys A p] : AtA p (A :: R) A R := ⟨En.refl⟩
instance (priority := low) AtA.there {p : Addr} {A B : As} {L R : List As} [q : AtA p L A R] : AtA p (B :: L) A (B :: R) := ⟨(En.skip q.en).trans En.swap⟩
theorem Sep.own {L R : List As} {A : As} {H : Hp} (h : Sep L H) (p : Addr) [q : AtA p L A R] : Sep (A :: R) H := q.en H h
theorem Sep.own2 {L R R2 : List As} {A B : As} {H : Hp} (h : Sep L H) (p q : Addr) [a : AtA p L A R] [b : AtA q R B R2] : Sep (A :: B :: R2) H := Sep.skip b.en (a.en H h)
theorem Sep.own3 {L R R2 R3 : List As} {A B C : As} {H : Hp} (h : Sep L H) (p q r : Addr) [a : AtA p L A R] [b : AtA q R B R2] [c : AtA r R2 C R3] : Sep (A :: B :: C :: R3) H := Sep.skip (fun _ z => Sep.skip c.en (b.en _ z)) (a.en H h)
end TR

set_option Elab.async false
set_option linter.all false
set_option maxRecDepth 100000
set_option maxHeartbeats 4000000
/-! The head's facts by names, with facts of one's own. -/
namespace TR
open PySem PySem.Spec PyProof.Rows L2
/-- what isinstance asks of an exception's class -/
def excB (K : PySem.W.Frag) (x : Str) : Bool :=
  decide (PySem.W.findIn K (.ref (He.ga K x)) "__getattribute__" = some (some (.builtin "BaseException.__getattribute__"))) && (decide (PySem.W.findIn K (.ref (He.ga K x)) "__getattr__" = some none) &&
  (decide (PySem.W.subIn K (.ref (He.ga K x)) (.type "BaseException") = some true) && (PySem.W.hasDictIn K (He.ga K x) &&
  (decide (PySem.W.findIn K (.ref (He.ga K x)) "__class__" = some (some (.builtin "object.__class__"))) && (decide (PySem.W.specialIn K (.builtin "object.__class__") "__get__" = some (some (.builtin "getset_descriptor.__get__"))) &&
  (decide (PySem.W.takesIn K (.builtin "object.__class__") = some true) && decide (PySem.W.mroIn K (He.ga K x) (.type "object") = some true)))))))
theorem excB_ok {K : PySem.W.Frag} {x : Str} (h : excB K x = true) : ExcC K (He.ga K x) := by
  obtain ⟨h1, h⟩ := He.ba h
  obtain ⟨h2, h⟩ := He.ba h
  obtain ⟨h3, h⟩ := He.ba h
  obtain ⟨h4, h⟩ := He.ba h
  obtain ⟨h5, h⟩ := He.ba h
  obtain ⟨h6, h⟩ := He.ba h
  obtain ⟨h7, h8⟩ := He.ba h
  exact ⟨of_decide_eq_true h1, of_decide_eq_true h2, of_decide_eq_true h3, h4, of_decide_eq_true h5, of_decide_eq_true h6, of_decide_eq_true h7, of_decide_eq_true h8⟩
def kitB2 (K : PySem.W.Frag) (x y : Str) (b : Bool) : Bool := decide (PySem.W.kitOne K (.ref (He.ga K x)) (.ref (He.ga K y)) = some b)
def kitV (K : PySem.W.Frag) (x : Str) (T : String) (b : Bool) : Bool := decide (PySem.W.kitOne K (.ref (He.ga K x)) (.type T) = some b)
theorem kitB2_ok {K : PySem.W.Frag} {x y : Str} {b : Bool} (h : kitB2 K x y b = true) : PySem.W.kitOne K (.ref (He.ga K x)) (.ref (He.ga K y)) = some b := of_decide_eq_true h
theorem kitV_ok {K : PySem.W.Frag} {x : Str} {T : String} {b : Bool} (h : kitV K x T b = true) : PySem.W.kitOne K (.ref (He.ga K x)) (.type T) = some b := of_decide_eq_true h

/-- what the head says -/
structure Says (fa : List He.Fa) (fn : List He.DefD) (ex : List (PySem.W.Frag → Bool)) (K : PySem.W.Frag) : Prop where
  d : He.SaysD fa fn K
  e : (ex.all fun f => f K) = true
abbrev AlY : Type := He.AlD × Bool
def obsY (fa : List He.Fa) (fn : List He.DefD) (ex : List (PySem.W.Frag → Bool)) (K : PySem.W.Frag) : AlY := (He.obsD fa fn K, ex.all fun f => f K)
/-- the last c objects, and the module's names -/
def lastK (c : Nat) (N : Nat) (g : Addr → Option Obj) : PySem.W.Frag := He.frG g (mainGlobals :: (List.range c).map fun i => N - 1 - i)
def obsYG (c : Nat) (fa : List He.Fa) (fn : List He.DefD) (ex : List (PySem.W.Frag → Bool)) (N : Nat) (g : Addr → Option Obj) : AlY := obsY fa fn ex (lastK c N g)
def valY (fn : List He.DefD) : AlY := (He.valD fn, true)
def hookY (c : Nat) (fa : List He.Fa) (fn : List He.DefD) (ex : List (PySem.W.Frag → Bool)) : PySem.W.Hook where
  α := AlY
  obs := fun s => obsYG c fa fn ex s.heap.objs.size s.heap.get?
  val := fun _ => valY fn
  says := fun _ h => ∃ K : PySem.W.Frag, K.In h ∧ Says fa fn ex K
  of := fun _ _ e => ⟨_, He.frG_in, ⟨congrArg (fun z : AlY => z.1) e, congrArg (fun z : AlY => z.2) e⟩⟩
  keeps := fun _ _ _ ⟨K, hK, c⟩ k => ⟨K, PySem.W.Frag.In.keeps hK k, c⟩
theorem obsYG_eq {c : Nat} {fa : List He.Fa} {fn : List He.DefD} {ex : List (PySem.W.Frag → Bool)} {N : Nat} {g : Addr → Option Obj} {s : Shared} (hN : N = s.heap.objs.size) (h : ∀ a, g a = s.heap.get? a) : obsYG c fa fn ex N g = (hookY c fa fn ex).obs s := by
  have e : g = s.heap.get? := funext h
  rw [e, hN] <;> rfl
theorem sizeT (s : PySem.W.SharedT) : s.n = s.abs.heap.objs.size := (PySem.W.absHeap_size s.tree s.n s.life).symm
theorem Says.fact {fa : List He.Fa} {fn : List He.DefD} {ex : List (PySem.W.Frag → Bool)} {K : PySem.W.Frag} (c : Says fa fn ex K) (i : Nat) {f : He.Fa} (h : fa[i]? = some f := by rfl) : f.ok K = true := c.d.fact i h
theorem Says.more {fa : List He.Fa} {fn : List He.DefD} {ex : List (PySem.W.Frag → Bool)} {K : PySem.W.Frag} (c : Says fa fn ex K) (i : Nat) {f : PySem.W.Frag → Bool} (h : ex[i]? = some f := by rfl) : f K = true :=
  List.all_eq_true.mp c.e f (List.mem_of_getElem? h)
/-! ### the run's equation in parts, each checked by itself -/
theorem run_pair {σ α β : Type} {o : Option σ} {g : σ → α × β} {b : α × β} (h1 : o.map (fun s => (g s).1) = some b.1) (h2 : o.map (fun s => (g s).2) = some b.2) : o.map g = some b := by
  cases o with
  | none => cases h1
  | some s =>
    have e1 : (g s).1 = b.1 := Option.some.inj h1
    have e2 : (g s).2 = b.2 := Option.some.inj h2
    exact congrArg some (Prod.ext e1 e2)
theorem run_parts {σ α β γ : Type} {o : Option σ} {f : σ → α} {g : σ → β} {h : σ → γ} {a : α} {b : β} {c : γ} (h1 : o.map f = some a) (h2 : o.map g = some b) (h3 : o.map h = some c) : o.map (fun s => (f s, g s, h s)) = some (a, b, c) := by
  cases o with
  | none => cases h1
  | some s =>
    have e1 : f s = a := Option.some.inj h1
    have e2 : g s = b := Option.some.inj h2
    have e3 : h s = c := Option.some.inj h3
    show some (f s, g s, h s) = some (a, b, c)
    rw [e1, e2, e3]
end TR

set_option Elab.async false
set_option linter.all false
set_option maxRecDepth 100000
set_option maxHeartbeats 0
/-! The text by places, the head. -/
namespace TR
open PySem PySem.Spec PyProof.Rows L2
def top (i : Nat) : Stmt := PySem.Challenge.pw_tuneroad_k33_whole_sounds.main.body.getD i (.Pass ⟨0, 0, 0, 0⟩)
abbrev s_Dice_init : Stmt := inClass (top 12) 0
abbrev s_Dice_below : Stmt := inClass (top 12) 1
abbrev s_Dice_twin : Stmt := inClass (top 12) 2
abbrev s_mixed : Stmt := top 13
abbrev s_Queue_init : Stmt := inClass (top 16) 0
abbrev s_Queue_entries : Stmt := inClass (top 16) 1
abbrev s_Queue_need : Stmt := inClass (top 16) 2
abbrev s_Queue_tune : Stmt := inClass (top 16) 3
abbrev s_Queue_put : Stmt := inClass (top 16) 4
abbrev s_Queue_remove : Stmt := inClass (top 16) 5
abbrev s_Queue_place : Stmt := inClass (top 16) 7
abbrev s_Queue_twin : Stmt := inClass (top 16) 8
abbrev s_Order_init : Stmt := inClass (top 19) 0
abbrev s_Order_set_again : Stmt := inClass (top 19) 1
abbrev s_Order_put : Stmt := inClass (top 19) 3
abbrev s_Order_remove : Stmt := inClass (top 19) 4
abbrev s_Order_next_plain : Stmt := inClass (top 19) 5
abbrev s_Order_next_mixed : Stmt := inClass (top 19) 6
abbrev s_Order_after : Stmt := inClass (top 19) 7
abbrev s_Order_skip : Stmt := inClass (top 19) 8
abbrev s_Order_first : Stmt := inClass (top 19) 9
abbrev s_Order_began : Stmt := inClass (top 19) 10
abbrev s_Order_twin : Stmt := inClass (top 19) 11
abbrev s_Player_init : Stmt := inClass (top 23) 0
abbrev s_Player_long : Stmt := inClass (top 23) 1
abbrev s_Player_add : Stmt := inClass (top 23) 2
abbrev s_Player_remove : Stmt := inClass (top 23) 3
abbrev s_Player_entries : Stmt := inClass (top 23) 6
abbrev s_Player_tune : Stmt := inClass (top 23) 7
abbrev s_Player_set_again : Stmt := inClass (top 23) 8
abbrev s_Player_begin : Stmt := inClass (top 23) 10
abbrev s_Player_play : Stmt := inClass (top 23) 11
abbrev s_Player_resume : Stmt := inClass (top 23) 12
abbrev s_Player_next_entry : Stmt := inClass (top 23) 14
abbrev s_Player_skip : Stmt := inClass (top 23) 15
abbrev s_Player_seek : Stmt := inClass (top 23) 17
abbrev s_Player_join_long : Stmt := inClass (top 23) 20
abbrev s_Player_step : Stmt := inClass (top 23) 21
abbrev s_Player_turn_over : Stmt := inClass (top 23) 22
abbrev s_Player_tick : Stmt := inClass (top 23) 23
abbrev s_Player_state : Stmt := inClass (top 23) 24
abbrev s_Player_sounds : Stmt := inClass (top 23) 25
abbrev s_Player_log : Stmt := inClass (top 23) 26
abbrev s_Player_ticks : Stmt := inClass (top 23) 27
abbrev s_Player_twin : Stmt := inClass (top 23) 29
abbrev s_look_name : Stmt := top 29
abbrev s_Shelf_init : Stmt := inClass (top 30) 0
abbrev s_Shelf_add : Stmt := inClass (top 30) 1
abbrev s_Shelf_need : Stmt := inClass (top 30) 2
abbrev s_Shelf_long : Stmt := inClass (top 30) 3
abbrev s_l_cell : Stmt := top 32
abbrev s_l_mix : Stmt := top 33
abbrev s_l_draw : Stmt := top 34
abbrev s_l_pick : Stmt := top 35
abbrev s_l_shelf : Stmt := top 36
abbrev s_l_made : Stmt := top 37
abbrev s_l_begins : Stmt := top 38
abbrev s_law : Stmt := top 39
def d_Dice_init : He.DefD := ⟨("Dice", some "__init__"), "__init__", "Dice.__init__", defArgs s_Dice_init, defBody s_Dice_init, defScope s_Dice_init, [], []⟩
def d_Dice_below : He.DefD := ⟨("Dice", some "below"), "below", "Dice.below", defArgs s_Dice_below, defBody s_Dice_below, defScope s_Dice_below, [], []⟩
def d_Dice_twin : He.DefD := ⟨("Dice", some "twin"), "twin", "Dice.twin", defArgs s_Dice_twin, defBody s_Dice_twin, defScope s_Dice_twin, [], []⟩
def d_mixed : He.DefD := ⟨("mixed", none), "mixed", "mixed", defArgs s_mixed, defBody s_mixed, defScope s_mixed, [], []⟩
def d_Queue_init : He.DefD := ⟨("Queue", some "__init__"), "__init__", "Queue.__init__", defArgs s_Queue_init, defBody s_Queue_init, defScope s_Queue_init, [], []⟩
def d_Queue_entries : He.DefD := ⟨("Queue", some "entries"), "entries", "Queue.entries", defArgs s_Queue_entries, defBody s_Queue_entries, defScope s_Queue_entries, [], []⟩
def d_Queue_need : He.DefD := ⟨("Queue", some "need"), "need", "Queue.need", defArgs s_Queue_need, defBody s_Queue_need, defScope s_Queue_need, [], []⟩
def d_Queue_tune : He.DefD := ⟨("Queue", some "tune"), "tune", "Queue.tune", defArgs s_Queue_tune, defBody s_Queue_tune, defScope s_Queue_tune, [], []⟩
def d_Queue_put : He.DefD := ⟨("Queue", some "put"), "put", "Queue.put", defArgs s_Queue_put, defBody s_Queue_put, defScope s_Queue_put, [], []⟩
def d_Queue_remove : He.DefD := ⟨("Queue", some "remove"), "remove", "Queue.remove", defArgs s_Queue_remove, defBody s_Queue_remove, defScope s_Queue_remove, [], []⟩
def d_Queue_place : He.DefD := ⟨("Queue", some "place"), "place", "Queue.place", defArgs s_Queue_place, defBody s_Queue_place, defScope s_Queue_place, [], []⟩
def d_Queue_twin : He.DefD := ⟨("Queue", some "twin"), "twin", "Queue.twin", defArgs s_Queue_twin, defBody s_Queue_twin, defScope s_Queue_twin, [], []⟩
def d_Order_init : He.DefD := ⟨("Order", some "__init__"), "__init__", "Order.__init__", defArgs s_Order_init, defBody s_Order_init, defScope s_Order_init, [], []⟩
def d_Order_set_again : He.DefD := ⟨("Order", some "set_again"), "set_again", "Order.set_again", defArgs s_Order_set_again, defBody s_Order_set_again, defScope s_Order_set_again, [], []⟩
def d_Order_put : He.DefD := ⟨("Order", some "put"), "put", "Order.put", defArgs s_Order_put, defBody s_Order_put, defScope s_Order_put, [], []⟩
def d_Order_remove : He.DefD := ⟨("Order", some "remove"), "remove", "Order.remove", defArgs s_Order_remove, defBody s_Order_remove, defScope s_Order_remove, [], []⟩
def d_Order_next_plain : He.DefD := ⟨("Order", some "next_plain"), "next_plain", "Order.next_plain", defArgs s_Order_next_plain, defBody s_Order_next_plain, defScope s_Order_next_plain, [], []⟩
def d_Order_next_mixed : He.DefD := ⟨("Order", some "next_mixed"), "next_mixed", "Order.next_mixed", defArgs s_Order_next_mixed, defBody s_Order_next_mixed, defScope s_Order_next_mixed, [], []⟩
def d_Order_after : He.DefD := ⟨("Order", some "after"), "after", "Order.after", defArgs s_Order_after, defBody s_Order_after, defScope s_Order_after, [], []⟩
def d_Order_skip : He.DefD := ⟨("Order", some "skip"), "skip", "Order.skip", defArgs s_Order_skip, defBody s_Order_skip, defScope s_Order_skip, [], []⟩
def d_Order_first : He.DefD := ⟨("Order", some "first"), "first", "Order.first", defArgs s_Order_first, defBody s_Order_first, defScope s_Order_first, [], []⟩
def d_Order_began : He.DefD := ⟨("Order", some "began"), "began", "Order.began", defArgs s_Order_began, defBody s_Order_began, defScope s_Order_began, [], []⟩
def d_Order_twin : He.DefD := ⟨("Order", some "twin"), "twin", "Order.twin", defArgs s_Order_twin, defBody s_Order_twin, defScope s_Order_twin, [], []⟩
def d_Player_init : He.DefD := ⟨("Player", some "__init__"), "__init__", "Player.__init__", defArgs s_Player_init, defBody s_Player_init, defScope s_Player_init, [], []⟩
def d_Player_long : He.DefD := ⟨("Player", some "long"), "long", "Player.long", defArgs s_Player_long, defBody s_Player_long, defScope s_Player_long, [], []⟩
def d_Player_add : He.DefD := ⟨("Player", some "add"), "add", "Player.add", defArgs s_Player_add, defBody s_Player_add, defScope s_Player_add, [], []⟩
def d_Player_remove : He.DefD := ⟨("Player", some "remove"), "remove", "Player.remove", defArgs s_Player_remove, defBody s_Player_remove, defScope s_Player_remove, [], []⟩
def d_Player_entries : He.DefD := ⟨("Player", some "entries"), "entries", "Player.entries", defArgs s_Player_entries, defBody s_Player_entries, defScope s_Player_entries, [], []⟩
def d_Player_tune : He.DefD := ⟨("Player", some "tune"), "tune", "Player.tune", defArgs s_Player_tune, defBody s_Player_tune, defScope s_Player_tune, [], []⟩
def d_Player_set_again : He.DefD := ⟨("Player", some "set_again"), "set_again", "Player.set_again", defArgs s_Player_set_again, defBody s_Player_set_again, defScope s_Player_set_again, [], []⟩
def d_Player_begin : He.DefD := ⟨("Player", some "begin"), "begin", "Player.begin", defArgs s_Player_begin, defBody s_Player_begin, defScope s_Player_begin, [], []⟩
def d_Player_play : He.DefD := ⟨("Player", some "play"), "play", "Player.play", defArgs s_Player_play, defBody s_Player_play, defScope s_Player_play, [], []⟩
def d_Player_resume : He.DefD := ⟨("Player", some "resume"), "resume", "Player.resume", defArgs s_Player_resume, defBody s_Player_resume, defScope s_Player_resume, [], []⟩
def d_Player_next_entry : He.DefD := ⟨("Player", some "next_entry"), "next_entry", "Player.next_entry", defArgs s_Player_next_entry, defBody s_Player_next_entry, defScope s_Player_next_entry, [], []⟩
def d_Player_skip : He.DefD := ⟨("Player", some "skip"), "skip", "Player.skip", defArgs s_Player_skip, defBody s_Player_skip, defScope s_Player_skip, [], []⟩
def d_Player_seek : He.DefD := ⟨("Player", some "seek"), "seek", "Player.seek", defArgs s_Player_seek, defBody s_Player_seek, defScope s_Player_seek, [], []⟩
def d_Player_join_long : He.DefD := ⟨("Player", some "join_long"), "join_long", "Player.join_long", defArgs s_Player_join_long, defBody s_Player_join_long, defScope s_Player_join_long, [], []⟩
def d_Player_step : He.DefD := ⟨("Player", some "step"), "step", "Player.step", defArgs s_Player_step, defBody s_Player_step, defScope s_Player_step, [], []⟩
def d_Player_turn_over : He.DefD := ⟨("Player", some "turn_over"), "turn_over", "Player.turn_over", defArgs s_Player_turn_over, defBody s_Player_turn_over, defScope s_Player_turn_over, [], []⟩
def d_Player_tick : He.DefD := ⟨("Player", some "tick"), "tick", "Player.tick", defArgs s_Player_tick, defBody s_Player_tick, defScope s_Player_tick, [], []⟩
def d_Player_state : He.DefD := ⟨("Player", some "state"), "state", "Player.state", defArgs s_Player_state, defBody s_Player_state, defScope s_Player_state, [], []⟩
def d_Player_sounds : He.DefD := ⟨("Player", some "sounds"), "sounds", "Player.sounds", defArgs s_Player_sounds, defBody s_Player_sounds, defScope s_Player_sounds, [], []⟩
def d_Player_log : He.DefD := ⟨("Player", some "log"), "log", "Player.log", defArgs s_Player_log, defBody s_Player_log, defScope s_Player_log, [], []⟩
def d_Player_ticks : He.DefD := ⟨("Player", some "ticks"), "ticks", "Player.ticks", defArgs s_Player_ticks, defBody s_Player_ticks, defScope s_Player_ticks, [], []⟩
def d_Player_twin : He.DefD := ⟨("Player", some "twin"), "twin", "Player.twin", defArgs s_Player_twin, defBody s_Player_twin, defScope s_Player_twin, [], []⟩
def d_look_name : He.DefD := ⟨("look_name", none), "look_name", "look_name", defArgs s_look_name, defBody s_look_name, defScope s_look_name, [], []⟩
def d_Shelf_init : He.DefD := ⟨("Shelf", some "__init__"), "__init__", "Shelf.__init__", defArgs s_Shelf_init, defBody s_Shelf_init, defScope s_Shelf_init, [], []⟩
def d_Shelf_add : He.DefD := ⟨("Shelf", some "add"), "add", "Shelf.add", defArgs s_Shelf_add, defBody s_Shelf_add, defScope s_Shelf_add, [], []⟩
def d_Shelf_need : He.DefD := ⟨("Shelf", some "need"), "need", "Shelf.need", defArgs s_Shelf_need, defBody s_Shelf_need, defScope s_Shelf_need, [], []⟩
def d_Shelf_long : He.DefD := ⟨("Shelf", some "long"), "long", "Shelf.long", defArgs s_Shelf_long, defBody s_Shelf_long, defScope s_Shelf_long, [], []⟩
def d_l_cell : He.DefD := ⟨("_law_cell", none), "_law_cell", "_law_cell", defArgs s_l_cell, defBody s_l_cell, defScope s_l_cell, [], []⟩
def d_l_mix : He.DefD := ⟨("_law_mix", none), "_law_mix", "_law_mix", defArgs s_l_mix, defBody s_l_mix, defScope s_l_mix, [], []⟩
def d_l_draw : He.DefD := ⟨("_law_draw", none), "_law_draw", "_law_draw", defArgs s_l_draw, defBody s_l_draw, defScope s_l_draw, [], []⟩
def d_l_pick : He.DefD := ⟨("_law_pick", none), "_law_pick", "_law_pick", defArgs s_l_pick, defBody s_l_pick, defScope s_l_pick, [], []⟩
def d_l_shelf : He.DefD := ⟨("_law_shelf", none), "_law_shelf", "_law_shelf", defArgs s_l_shelf, defBody s_l_shelf, defScope s_l_shelf, [], []⟩
def d_l_made : He.DefD := ⟨("_law_made", none), "_law_made", "_law_made", defArgs s_l_made, defBody s_l_made, defScope s_l_made, [], []⟩
def d_l_begins : He.DefD := ⟨("_law_begins", none), "_law_begins", "_law_begins", defArgs s_l_begins, defBody s_l_begins, defScope s_l_begins, [], []⟩
def d_law : He.DefD := ⟨("law", none), "law", "law", defArgs s_law, defBody s_law, defScope s_law, [], []⟩
def fn : List He.DefD := (([d_Dice_init, d_Dice_below, d_Dice_twin, d_mixed, d_Queue_init, d_Queue_entries, d_Queue_need, d_Queue_tune, d_Queue_put, d_Queue_remove, d_Queue_place, d_Queue_twin, d_Order_init, d_Order_set_again, d_Order_put, d_Order_remove, d_Order_next_plain, d_Order_next_mixed, d_Order_after, d_Order_skip] : List He.DefD) ++ (([d_Order_first, d_Order_began, d_Order_twin, d_Player_init, d_Player_long, d_Player_add, d_Player_remove, d_Player_entries, d_Player_tune, d_Player_set_again, d_Player_begin, d_Player_play, d_Player_resume, d_Player_next_entry, d_Player_skip, d_Player_seek, d_Player_join_long, d_Player_step, d_Player_turn_over, d_Player_tick] : List He.DefD) ++ ([d_Player_state, d_Player_sounds, d_Player_log, d_Player_ticks, d_Player_twin, d_look_name, d_Shelf_init, d_Shelf_add, d_Shelf_need, d_Shelf_long, d_l_cell, d_l_mix, d_l_draw, d_l_pick, d_l_shelf, d_l_made, d_l_begins, d_law] : List He.DefD)))
def fa : List He.Fa := (([.glo "RoadError", .exc "RoadError", .glo "BadTune", .exc "BadTune", .glo "BadNumber", .exc "BadNumber", .glo "BadEntry", .exc "BadEntry", .glo "BadWord", .exc "BadWord", .glo "Dice", .cls "Dice", .mkr "Dice", .noat "Dice" "number", .meth "Dice" "below", .meth "Dice" "twin", .glo "Queue", .cls "Queue", .mkr "Queue", .noat "Queue" "tunes"] : List He.Fa) ++ (([.noat "Queue" "turn", .noat "Queue" "last", .meth "Queue" "entries", .meth "Queue" "need", .meth "Queue" "tune", .meth "Queue" "put", .meth "Queue" "remove", .meth "Queue" "place", .meth "Queue" "twin", .glo "Order", .cls "Order", .mkr "Order", .noat "Order" "queue", .noat "Order" "dice", .noat "Order" "is_mixed", .noat "Order" "again", .noat "Order" "deck", .noat "Order" "is_gone", .noat "Order" "behind", .meth "Order" "set_again"] : List He.Fa) ++ (([.meth "Order" "put", .meth "Order" "remove", .meth "Order" "next_plain", .meth "Order" "next_mixed", .meth "Order" "after", .meth "Order" "skip", .meth "Order" "first", .meth "Order" "began", .meth "Order" "twin", .glo "Player", .cls "Player", .mkr "Player", .noat "Player" "shelf", .noat "Player" "overlap", .noat "Player" "order", .noat "Player" "time", .noat "Player" "now", .noat "Player" "spot", .noat "Player" "old", .noat "Player" "soon"] : List He.Fa) ++ (([.noat "Player" "past", .noat "Player" "rows", .noat "Player" "is_playing", .noat "Player" "stops", .noat "Player" "sleep_left", .meth "Player" "long", .meth "Player" "add", .meth "Player" "remove", .meth "Player" "entries", .meth "Player" "tune", .meth "Player" "set_again", .meth "Player" "begin", .meth "Player" "play", .meth "Player" "resume", .meth "Player" "next_entry", .meth "Player" "skip", .meth "Player" "seek", .meth "Player" "join_long", .meth "Player" "step", .meth "Player" "turn_over"] : List He.Fa) ++ (([.meth "Player" "tick", .meth "Player" "state", .meth "Player" "sounds", .meth "Player" "log", .meth "Player" "ticks", .meth "Player" "twin", .glo "Shelf", .cls "Shelf", .mkr "Shelf", .noat "Shelf" "longs", .meth "Shelf" "add", .meth "Shelf" "need", .meth "Shelf" "long", .glo "mixed", .glo "look_name", .glo "_law_cell", .glo "_law_mix", .glo "_law_draw", .glo "_law_pick", .glo "_law_shelf"] : List He.Fa) ++ (([.glo "_law_made", .glo "_law_begins", .glo "law", .int "WHEEL" 6075, .int "TIMES" 106, .int "MORE" 1283, .int "MOST" 60, .int "MOST_ENTRIES" 12, .glo "REPEATS", .int "MOST_OVERLAP" 9, .int "MOST_TICKS" 200, .str "SMALL" "abcdefghijklmnopqrstuvwxyz", .int "MOST_NAME" 6, .int "MOST_TUNES" 6, .int "MOST_LONG" 40, .free "len", .free "range", .free "list", .free "min", .free "all"] : List He.Fa) ++ ([.free "any", .free "dict", .free "ValueError"] : List He.Fa)))))))
def exs : List (PySem.W.Frag → Bool) := ([fun K => true, fun K => excB K "RoadError", fun K => excB K "BadTune", fun K => excB K "BadNumber", fun K => excB K "BadEntry", fun K => excB K "BadWord", fun K => He.tupB K "REPEATS" [.str "none", .str "all", .str "one"]] : List (PySem.W.Frag → Bool))
abbrev R : PySem.W.OpenRow := PySem.W.OpenLaw.row PySem.Challenge.rw_tuneroad_k33_whole_sounds
def loose : List Str := ((["_wall", "__name__", "RoadError", "BadTune", "BadNumber", "BadEntry", "BadWord", "WHEEL", "TIMES", "MORE", "MOST", "Dice", "mixed", "MOST_ENTRIES", "Queue", "REPEATS", "Order", "MOST_OVERLAP", "MOST_TICKS", "Player"] : List Str) ++ (["SMALL", "MOST_NAME", "MOST_TUNES", "MOST_LONG", "look_name", "Shelf", "_law_cell", "_law_mix", "_law_draw", "_law_pick", "_law_shelf", "_law_made", "_law_begins"] : List Str))
def ilaw : Nat := 39
def steps : Nat := 5400
def objs : Nat := 1000
abbrev hk : PySem.W.Hook := hookY objs fa fn exs
def ob (s : PySem.W.SharedT) : AlY := obsYG objs fa fn exs s.n (HandSHeadRun.getT s)
theorem ob_eq (s : PySem.W.SharedT) : ob s = hk.obs s.abs := obsYG_eq (sizeT s) (HandSHeadRun.getT_eq s)
noncomputable section
open HandSHeadRun PySem.W PySem.Calls
abbrev qV : Program := PySem.W.view R.prog [ilaw]
abbrev seenV (s : SharedT) := seenQ qV loose (importedModules R.prog.main.body) (fun s => xlAt qV [] s && recOk R.toRowW.records s) s.abs
abbrev endV (w : World) (os : OsState) : Option SharedT := endF (stepQ (denQ tabQ) R.prog w) steps R.prog w os
theorem run1 (w : World) (os : OsState) : (endV w os).map (fun s => looksF R.prog (boot_heap w.params) s.abs) = some true := by kernel_rfl
theorem run2 (w : World) (os : OsState) : (endV w os).map (fun s => (seenV s).1) = some (openGood qV loose).1 := by kernel_rfl
theorem run3 (w : World) (os : OsState) : (endV w os).map (fun s => (seenV s).2.1) = some (openGood qV loose).2.1 := by kernel_rfl
theorem run4 (w : World) (os : OsState) : (endV w os).map (fun s => (seenV s).2.2.1) = some (openGood qV loose).2.2.1 := by kernel_rfl
theorem run5 (w : World) (os : OsState) : (endV w os).map (fun s => (seenV s).2.2.2) = some (openGood qV loose).2.2.2 := by kernel_rfl
theorem run6 (w : World) (os : OsState) : (endV w os).map (fun s => (ob s).1.1) = some true := by kernel_rfl
theorem run7 (w : World) (os : OsState) : (endV w os).map (fun s => (ob s).1.2) = some (fn.map He.DefD.val) := by kernel_rfl
theorem run8 (w : World) (os : OsState) : (endV w os).map (fun s => (ob s).2) = some true := by kernel_rfl
theorem run (w : World) : RunEq R qV hk ob steps loose w := fun os =>
  run_parts (run1 w os) (run_pair (run2 w os) (run_pair (run3 w os) (run_pair (run4 w os) (run5 w os)))) (run_pair (b := hk.val w) (run_pair (b := (hk.val w).1) (run6 w os) (run7 w os)) (run8 w os))
end
end TR

set_option Elab.async false
set_option linter.all false
set_option maxRecDepth 100000
set_option maxHeartbeats 4000000
/-! An error that is caught and held by a name; isinstance of it; calls of own defs in short. -/
namespace TR
open PySem PySem.Spec PyProof.Rows L2

/-! ### an exception object that is held -/
def ExA (cls : Value) (a : Addr) : HO := .ext fun h => ∃ (oe : Obj) (vs : Array Value), h.get? a = some oe ∧ Zc cls none oe ∧ oe.data = .fields vs
theorem exA_ok {P : Program} {w : World} {H : Hp} {h : Heap} {a : Addr} {cls : Value} {oe : Obj} {vs : Array Value} (e : h.get? a = some oe) (z : Zc cls none oe) (d : oe.data = .fields vs) : ObjOk P w H h a (ExA cls a) :=
  ⟨⟨oe, vs, e, z, d⟩, ⟨oe, e⟩, fun _ _ ⟨o, v, q, r⟩ k => ⟨o, v, k o q, r⟩⟩
section
variable {X : Cx} {pins : List (Addr × Obj)} {σ : L2.St} {H : Hp} {s : Shared}
theorem Inv.track {a : Addr} {o : HO} (I : Inv X pins σ H s) (na : H a = none) (n0 : X.s_0.heap.get? a = none) (np : ∀ p ∈ X.pn ++ pins, p.1 ≠ a) (nL : a ≠ X.env.locals) (nc : ∀ x c, X.env.cells.lookup x = some c → c ≠ a)
    (new : ObjOk X.prog X.w (upd H a o) s.heap a o) : Inv X pins σ (upd H a o) s := by
  refine ⟨I.ok, I.os, I.bare, ⟨fun b ob e n hb hx => I.base.keep b ob e n hb hx, fun b ob e n hb hx => I.base.slot b ob e n hb hx, fun b ob e n hx => ?_, fun b ob e hx => I.base.there b ob e hx, fun b xs e => ?_, fun b ob xs e => ?_, fun b ps e => ?_⟩, I.loc, I.cell, ?_, fun x c e => ?_, fun p hp => ?_, fun b u e => ?_, I.len⟩
  · have hb : b ≠ a := fun z => by
      rw [z, n0] at e
      cases e
    rw [upd_ne hb]
    exact I.base.free b ob e n hx
  · have q := I.base.tups b xs e
    rw [upd_ne (ne_of_none q na)]
    exact q
  · have q := I.base.frzs b ob xs e
    rw [upd_ne (ne_of_none q na)]
    exact q
  · obtain ⟨m, q⟩ := I.base.tbls b ps e
    refine ⟨m, ?_⟩
    rw [upd_ne (ne_of_none q na)]
    exact q
  · rw [upd_ne (Ne.symm nL)]
    exact I.free
  · rw [upd_ne (nc x c e)]
    exact I.freeC x c e
  · obtain ⟨e, n, r⟩ := I.pin p hp
    refine ⟨e, ?_, r⟩
    rw [upd_ne (np p hp)]
    exact n
  · by_cases hb : b = a
    · rw [hb] at e ⊢
      rw [upd_same] at e
      cases e
      exact new
    · rw [upd_ne hb] at e
      exact (I.hok b u e).stay (fun _ _ _ q => q) (fun c q => by rw [upd_ne (ne_of_none q na)]; exact q) fun c xs q => by rw [upd_ne (ne_of_none q na)]; exact q
theorem Inv.unsuiteK {a : Addr} {q : Addr × Obj} (I : Inv (X.suite a (q :: (X.pn ++ pins))) [] σ H s) (ok : X.Ok) : Inv X (q :: pins) σ H s :=
  ⟨ok, I.os, I.bare, I.base, I.loc, I.cell, I.free, I.freeC, fun p hp => I.pin p (by
    rw [List.append_nil]
    show p ∈ q :: (X.pn ++ pins)
    rcases List.mem_append.mp hp with z | z
    · exact List.mem_cons_of_mem _ (List.mem_append_left _ z)
    · rcases List.mem_cons.mp z with z | z
      · rw [z]
        exact List.mem_cons_self
      · exact List.mem_cons_of_mem _ (List.mem_append_right _ z)), I.hok, I.len⟩
end

/-- what the clause «except x as n» wishes; behind the suite the error is known as an object -/
def wHold (K : PySem.W.Frag) (c : Value) (i : Nat) (ts : Addr → List (Addr × Obj) → TS) (Wout : WX) (D : Ends) : WX := fun cls d σ H =>
  ∃ b, PySem.W.exmOne K cls c = some b ∧ (b = true → d = none ∧ ∀ a pn, H a = none → ts a pn { nx := fun σ' H' => H' a = none ∧ D.nx (σ'.set i none) (upd H' a (ExA cls a)), rt := fun _ _ => False } (σ.set i (some (.ref a))) H) ∧
    (b = false → Wout cls d σ H)
section
variable {X : Cx} {x n : Str} {c : Value} {i : Nat} {body suite : List Stmt} {b₀ : Stmt} {np pos pos' : Pos} {ts : Addr → List (Addr × Obj) → TS} {Wout : WX}
  {tb : ∀ (W : WX) (pn : List (Addr × Obj)) (xe : Value → Shared → Prop), Takes (X.tr pn xe) W → PassesOwn (model X.prog X.w) X.A X.env xe → TS}
/-- a try's reading -/
def tTry (X : Cx) (c : Value) (i : Nat) (ts : Addr → List (Addr × Obj) → TS) (Wout : WX) (tb : ∀ (W : WX) (pn : List (Addr × Obj)) (xe : Value → Shared → Prop), Takes (X.tr pn xe) W → PassesOwn (model X.prog X.w) X.A X.env xe → TS) : TS :=
  fun D σ H => ∀ pn xe (tk : Takes (X.tr pn xe) (wHold X.K c i ts Wout D)) (po : PassesOwn (model X.prog X.w) X.A X.env xe), tb (wHold X.K c i ts Wout D) pn xe tk po D σ H
theorem ps_try_hold (hs : X.stack = X.env :: X.outer) (hf : X.env.frame = some X.env.locals) (hex : X.ex = []) (hN : X.N.Nodup) (hi : X.N[i]? = some n) (hln : X.env.kindOf n = some .local) (hc : Names X x c) (tk : Takes X Wout)
    (hb : ∀ (W : WX) (pn : List (Addr × Obj)) (xe : Value → Shared → Prop) (tk : Takes (X.tr pn xe) W) (po : PassesOwn (model X.prog X.w) X.A X.env xe), PSs (X.tr pn xe) body (tb W pn xe tk po))
    (hsu : ∀ (a : Addr) (pn : List (Addr × Obj)), PSs (X.suite a pn) (b₀ :: suite) (ts a pn)) :
    PS X (.Try body [.ExceptHandler (some (.Name x np)) (some n) (b₀ :: suite) pos'] [] [] pos) (tTry X c i ts Wout tb) := by
  refine ⟨fun pins s σ H D I h => ?_⟩
  have ok := I.ok
  have hfr : X.A.frames = some (X.env :: X.outer) := by rw [ok.frames, hs]
  have hloc : Loc X.env.scope n := .inl hln
  refine wpAny_Try_except ?_
  refine wpAny_mono ((hb (wHold X.K c i ts Wout D) (X.pn ++ pins) (fun e s₁ => wpAny (model X.prog X.w) X.A (noteFrame e X.env) (fun _ s₂ => wpAny (model X.prog X.w) X.A (setFlight e none) (fun _ s₃ =>
    wpAny (model X.prog X.w) X.A (handleBy e X.env [.ExceptHandler (some (.Name x np)) (some n) (b₀ :: suite) pos']) (SP X pins D) X.xe s₃) X.xe s₂) X.xe s₁) (fun u s' xx => ?_) PassesOwn.looking).run [] s σ H D (I.toTry _) (h _ _ _ _)) (fun f s1 hsp => ?_) (fun e s1 he => he)
  · obtain ⟨a, B, sI, pins', σ', H', cls, d, rfl, J', nb, up, sky, na, os, ag, b, hb1, hyes, hno⟩ := xx
    have J : Inv X pins σ' H' sI := J'.ofTry ok
    have sky' : Sky B (X.env :: X.outer) a (Zc cls d) X.env.locals s'.heap := by rw [← hs]; exact sky
    show wpAny (model X.prog X.w) X.A (noteFrame (.ref a) X.env) _ _ _
    refine Sky.land Zc.steady hfr hf sky' fun h3 fl3 up3 => ?_
    have J3 : Inv X pins σ' H' { s' with heap := h3 } := J.landed nb fl3.1 (up.trans up3) os ag
    obtain ⟨oe3, vs3, he3, hz3, hd3⟩ := fl3.there
    have notFr : ∀ {h : Heap} {o : Obj} {vs : Array Value}, h.FunFrames B (X.env :: X.outer) → h.get? a = some o → o.data = .fields vs → a ∉ frs (X.env :: X.outer) := fun {h o vs} ff e dd hm => by
      obtain ⟨_, o', e', hnf⟩ := ff.mem hm
      rw [e] at e'; cases e'
      exact hnf _ dd
    have nfr := notFr fl3.2.2.1 he3 hd3
    have nL : a ≠ X.env.locals := fun z => nfr (List.mem_filterMap.mpr ⟨X.env, List.mem_cons_self, by rw [hf, z]⟩)
    have nF : a ∉ X.fs := fun hm => by
      obtain ⟨e, he, q⟩ := List.mem_filterMap.mp hm
      exact nfr (List.mem_filterMap.mpr ⟨e, List.mem_cons_of_mem _ he, q⟩)
    have nB : B.get? a = none := fl3.2.1
    have nI : ∀ o, sI.heap.get? a ≠ some o := fun o e => by
      have q := nb a o e (by rw [hs]; exact nfr)
      rw [nB] at q
      cases q
    have n0 : X.s_0.heap.get? a = none := by
      cases q : X.s_0.heap.get? a with
      | none => rfl
      | some o =>
        obtain ⟨o', e'⟩ := J.base.there a o q (by rw [hex]; exact fun z => nomatch z)
        exact absurd e' (nI o')
    have npn : ∀ p ∈ X.pn ++ pins, p.1 ≠ a := fun p hp z => by
      have q := (J'.pin p (List.mem_append_left _ hp)).1
      rw [z] at q
      exact nI _ q
    have ncl : ∀ y k, X.env.cells.lookup y = some k → k ≠ a := fun y k e z => by
      obtain ⟨v, o, ho, hd⟩ := J.cell y k e
      rw [z] at ho
      exact nI _ ho
    have S3 := J3.suite he3 hd3 na nL nF
    refine wpAny_handleBy_cons (codeAny_handlers_test ?_) (by intro q; cases q)
    have LT : PySem.W.Looks (model X.prog X.w) h3 (typeOf (.ref a)) cls := fun A Q E s k q => wpAny_typeOf_ref (k _ _ he3) (by rw [hz3.1]; exact q)
    have LM := PySem.W.exm_one (M := model X.prog X.w) (J3.kIn) LT hb1
    have test : ∀ {Q : Value → Shared → Prop} {E : Value → Shared → Prop}, Q c { s' with heap := h3 } → wpAny (model X.prog X.w) (X.A.mark (some (.ref a))) (eval (.Name x np) X.env) Q E { s' with heap := h3 } := fun {Q E} q => by
      obtain ⟨hg, hdbg, hm | ⟨hm, hv, hnn⟩⟩ := hc
      · exact ld_glob (X := X.suite a ((a, oe3) :: (X.pn ++ pins))) S3 hg hm q hdbg
      · exact ld_blt (X := X.suite a ((a, oe3) :: (X.pn ++ pins))) S3 hg hm hv q hnn hdbg
    refine test (LM.here ?_)
    cases b with
    | true =>
      refine codeAny_handlers_suite_as ?_
      refine HandSPX.lands_againZ fl3 fun h4 fl4 up4 => ?_
      have J4 : Inv X pins σ' H' { s' with heap := h4 } := J.landed nb fl4.1 ((up.trans up3).trans up4) os ag
      obtain ⟨oe4, vs4, he4, hz4, hd4⟩ := fl4.there
      have S4 := J4.suite he4 hd4 na nL nF
      obtain ⟨hd0, hyes2⟩ := hyes rfl
      subst hd0
      refine store_ok (X := X.suite a ((a, oe4) :: (X.pn ++ pins))) (v := .ref a) S4 hN hi hloc rfl (fun s5 S5 => ?_) (.inr hln)
      refine wpAny_mono ((hsu a ((a, oe4) :: (X.pn ++ pins))).run [] s5 _ H' _ S5 (hyes2 a _ na)) (fun f s6 hsp => ?_) (fun _ _ z => False.elim z)
      cases f with
      | next =>
        obtain ⟨σ6, H6, S6, n6, q6⟩ := hsp
        have S6' : Inv X ((a, oe4) :: pins) σ6 H6 s6 := Inv.unsuiteK S6 ok
        show wpAny (model X.prog X.w) X.A (do bindName X.env n .none; unbindBehindTheSuite X.env n pos') _ X.xe s6
        refine gone_ok S6' hN hi hln fun s7 J7 => ?_
        have hp := J7.pin (a, oe4) (List.mem_append_right _ List.mem_cons_self)
        have J8 : Inv X pins (σ6.set i none) H6 s7 := J7.pins_of fun p hp => J7.pin p (List.mem_append_right _ (List.mem_cons_of_mem _ hp))
        exact ⟨_, _, Inv.track J8 n6 n0 npn nL ncl (exA_ok hp.1 hz4 hd4), q6⟩
      | brk =>
        obtain ⟨σ6, H6, S6, q6⟩ := hsp
        exact False.elim q6
      | cont =>
        obtain ⟨σ6, H6, S6, q6⟩ := hsp
        exact False.elim q6
      | ret u =>
        obtain ⟨v6, σ6, H6, S6, r6, q6⟩ := hsp
        exact False.elim q6
    | false =>
      show wpAny _ X.A (handleBy (.ref a) X.env []) _ _ _
      refine wpAny_handleBy_nil ?_
      obtain ⟨k1, k2, k3, oe, vs, T, oT, ts', he, hz, hd, h1, hr⟩ := id fl3
      unfold PySem.passOn
      refine wpAny_bind (wpAny_field he hd h1 ?_)
      rw [if_neg (show ¬ ((Value.ref T == Value.none) = true) from by simp)]
      have fin : wpAny (model X.prog X.w) X.A (setFlight (.ref a) X.env.frame) (fun _ s4 => wpAny (model X.prog X.w) X.A (throw (.ref a) : Sem Flow) (SP X pins D) X.xe s4) X.xe { s' with heap := h3 } := by
        rw [hf]
        refine HandSPX.setFlight_upZ fl3 fun h4 hh4 up4 => wpAny_throw (tk _ _ ?_)
        exact ⟨a, B, sI, pins, σ', H', cls, d, rfl, J, nb, (up.trans up3).trans up4, .inr (.inr (by rw [hs]; exact hh4)), na, os, ag, hno rfl⟩
      first
        | exact wpAny_bind (wpAny_pure (wpAny_bind fin))
        | exact wpAny_bind fin
  · cases f with
    | next =>
      obtain ⟨σ', H', J', q⟩ := hsp
      exact wpAny_execs_nil ⟨σ', H', J'.ofTry ok, q⟩
    | brk =>
      obtain ⟨σ', H', J', q⟩ := hsp
      exact ⟨σ', H', J'.ofTry ok, q⟩
    | cont =>
      obtain ⟨σ', H', J', q⟩ := hsp
      exact ⟨σ', H', J'.ofTry ok, q⟩
    | ret u =>
      obtain ⟨v, σ', H', J', r, q⟩ := hsp
      exact ⟨v, σ', H', J'.ofTry ok, r, q⟩
end

/-- isinstance(x, c), x an error that is held -/
def rIsX (K : PySem.W.Frag) : List V → Hp → VK → Prop := fun xs H Q => ∃ (a D : Addr) (c : V) (cv : Value) (b : Bool), xs = [.ref a, c] ∧ H a = some (ExA (.ref D) a) ∧ ExcC K D ∧ (∀ u, RelV c u → u = cv) ∧ PySem.W.kitOne K (.ref D) cv = some b ∧ Q (.bl b) H
theorem call_isX {X : Cx} : CallR X (.builtin "isinstance") (rIsX X.K) := by
  intro pins s σ H xs us Q I r h
  obtain ⟨a, D, c, cv, b, rfl, ha, C, hcv, e, q⟩ := h
  cases r with
  | cons rx rr =>
    cases rr with
    | cons rt rr =>
      cases rr
      cases rx
      have ec := hcv _ rt
      subst ec
      obtain ⟨⟨oe, vs, hget, hz, hv⟩, _, _⟩ := (show ObjOk X.prog X.w H s.heap a (ExA (.ref D) a) from I.hok a _ ha)
      have J : PySem.W.InstAt s.heap a oe D none := by
        obtain ⟨oc, od, oda, osl⟩ := oe
        obtain ⟨h1, h2⟩ := hz
        dsimp only at h1 h2 hv
        subst h1 h2 hv
        exact ⟨hget, rfl, rfl, trivial⟩
      exact PySem.W.kia_one (PySem.W.handS_kitx_exc C.hg C.hk C.hs C.hd C.ha C.hn C.ht C.hm) I.kIn J e (fun z => nomatch z) fun tk => ⟨.bl b, H, I.kept (t' := tk) fun _ _ z => z, rfl, q⟩

/-! ### a def of the text, its promise -/
def OkD (P : Program) (w : World) (K : PySem.W.Frag) (mg : Str → Option Value) (base : Heap) (d : He.DefD) (k : Nat) (ps : List Str) (sp : Sp) : Prop :=
  ∃ fd, (PySem.W.keepIn K (.ref (He.fAd K d.at_)) = true ∧ ∀ (s : Shared) (us : List Value), us.length = ps.length → BindsTo s fd ⟨us, []⟩ (ps.zip us)) ∧ (Binds K fd ps [] ∧ ∃ oc od osl, K.lookup (He.fAd K d.at_) = some ⟨oc, od, .func fd, osl⟩) ∧ FnOk P w K mg base (L2.CX P w) k (He.fAd K d.at_) fd ps sp
section
variable {P : Program} {w : World} {K : PySem.W.Frag} {mg : Str → Option Value} {base : Heap}
theorem okD {d : He.DefD} {N ps : List Str} {k : Nat} {sp : Sp} (F : ∃ fd, FunD K d.name d.qual d.params d.body d.scope [] [] (He.fAd K d.at_) fd) (S : FnScope N ps d.scope)
    (b : ∀ (kV doc pm : Value) (an : Option Addr) (cdv ct : Value) (us : List Value), us.length = ps.length → bindArgs (PySem.W.fnOf d.name d.qual d.params d.body d.scope .none kV doc pm an cdv ct) ⟨us, []⟩ = pure (ps.zip us))
    (len : ∀ vs H Q E, sp vs H Q E → vs.length = ps.length)
    (body : ∀ (cdv : Value) (A : Around) (outer : List Env) (s : Shared) (H : Hp) (vs : List V) (Q : VK) (E : XK), Room k (A.deeper (envOfC d.qual d.scope s.heap.objs.size (He.fAd K d.at_) cdv)) → sp vs H Q E →
      ∃ t, PSs (cxOf (L2.CX P w) P w K mg base N d.qual d.scope (He.fAd K d.at_) cdv A outer s H E) d.body t ∧ t { nx := fun _ H' => Q .non H', rt := Q } (start N vs) H) : OkD P w K mg base d (k + 1) ps sp := by
  obtain ⟨fd, F⟩ := F
  obtain ⟨oc, od, dV, kV, doc, pm, an, cdv, ct, osl, e, lk, _⟩ := F.ex
  exact ⟨fd, ⟨F.kp, F.bindsA b⟩, ⟨F.bindsN b, oc, od, osl, lk⟩, F.ok S len body⟩
theorem OkD.mono {d : He.DefD} {k j : Nat} {ps : List Str} {sp : Sp} (G : OkD P w K mg base d k ps sp) (h : k ≤ j) : OkD P w K mg base d j ps sp := by
  obtain ⟨fd, h1, h2, h3⟩ := G
  exact ⟨fd, h1, h2, h3.mono h⟩
/-- in a def's body: what is raised leaves the def -/
theorem tkD {N : List Str} {qual : Str} {scope : Scope} {f : Addr} {cd : Value} {A : Around} {outer : List Env} {s : Shared} {H : Hp} {E : XK} : Takes (cxOf (L2.CX P w) P w K mg base N qual scope f cd A outer s H E) (fun cls d _ H => E cls d H) :=
  takes_of rfl rfl rfl rfl
theorem paD {N : List Str} {qual : Str} {scope : Scope} {f : Addr} {cd : Value} {A : Around} {outer : List Env} {s : Shared} {H : Hp} {E : XK} (σ : L2.St) : PassesAt (L2.CX P w) (cxOf (L2.CX P w) P w K mg base N qual scope f cd A outer s H E) σ E :=
  fun pins H1 s1 e s' I c => passes_call tkD (fun _ _ _ _ h => h) pins σ H1 s1 e s' I c
end
/-- nothing is raised -/
theorem paN {X : Cx} (σ : L2.St) : PassesAt (L2.CX X.prog X.w) X σ E0 := fun pins H1 s1 e s' I c => passL pins σ H1 s1 e s' I c
/-- f(..), o.m(..), C(..): what is wanted of an exception hangs on the slots -/
def tMt (C : Addr) (m : Str) (sp : Sp) (E : L2.St → XK) (ta : TE) (t : TA) : TE := fun σ H Q => ta σ H fun x H1 => ∃ a dx fs, x = .ref a ∧ H1 a = some (.ins C dx fs) ∧ fs.lookup m = none ∧ t σ H1 fun vs H2 => sp (x :: vs) H2 Q (E σ)
def tMk (C : Addr) (sp : Sp) (E : L2.St → XK) (t : TA) : TE := fun σ H Q => t σ H fun vs H1 => ∀ x dx, H1 x = none → H1 dx = none → dx ≠ x →
  sp (.ref x :: vs) (upd (upd H1 dx (.own x)) x (.ins C dx [])) (fun v H2 => v = .non ∧ Q (.ref x) H2) (E σ)
section
variable {X : Cx} {d : He.DefD} {k : Nat} {ps : List Str} {sp : Sp} {E : L2.St → XK} {x m C : Str} {p pos apos : Pos} {e o : Expr} {es : List Expr} {ta : TE} {t : TA}
theorem px_call (G : OkD X.prog X.w X.K X.mg X.base d k ps sp) (hr : Room k X.A) (hg : Gl X x) (hm : X.mg x = some (.ref (He.fAd X.K d.at_))) (hx : ∀ σ, PassesAt (L2.CX X.prog X.w) X σ (E σ)) (ha : PA X (e :: es) t)
    (hdb : (x == ("__debug__" : Str)) = false := by decide) (he : starEach (e :: es) X.env = (false, eval e X.env) :: starEach es X.env := by rfl) (hpl : (backTo pos (starEach es X.env)).any (·.1) = false := by rfl) :
    PE X (.Call (.Name x p) (e :: es) [] pos) (tCallS sp E t) := by
  obtain ⟨fd, ⟨hk, _⟩, ⟨hb, _⟩, F⟩ := G
  exact pe_callS F hr hg hm hk hb hx ha hdb he hpl
theorem px_meth {pl : Sem Bool} (G : OkD X.prog X.w X.K X.mg X.base d k ps sp) (hr : Room k X.A) (he : PE X o ta) (c : Cls X.K (He.ga X.K C)) (hm : Meth X.K (He.ga X.K C) m (He.fAd X.K d.at_)) (hx : ∀ σ, PassesAt (L2.CX X.prog X.w) X σ (E σ)) (ha : PA X (e :: es) t)
    (hst : starEach (e :: es) X.env = (false, eval e X.env) :: starEach es X.env := by rfl) (hpl : (backTo pos (starEach es X.env)).any (·.1) = false := by rfl)
    (ht : eval (.Call (.Attribute o m apos) (e :: es) [] pos) X.env = (do
      let ov ← eval o X.env
      standAt apos.atName
      let (f, first) ← holding [ov] (getMethod ov m pl)
      callWith pos f first (backTo pos (starEach (e :: es) X.env)) (backToKw pos (keywordEach [] X.env))) := by rfl) :
    PE X (.Call (.Attribute o m apos) (e :: es) [] pos) (tMt (He.ga X.K C) m sp E ta t) := by
  obtain ⟨fd, ⟨hk, _⟩, ⟨hb, _⟩, F⟩ := G
  refine ⟨fun pins s σ H Q I h => ?_⟩
  refine PySem.W.methodCall_KW (pl := pl) (thn (he.run pins s σ H _ I h) fun u s1 ⟨x, H1, I1, rx, a, dx, fs, ex, ea, l, q⟩ => ?_) ht
  subst ex
  obtain rfl : u = Value.ref a := rx
  refine getmeth_ok I1 ea c hm l ?_
  refine PySem.W.callWith_K (first := [.ref a]) (h₀ := X.base) I.ok.mod.kin hm.kp (thn (ha.run pos pins s1 σ H1 _ I1 q) fun us s2 ⟨vs, H2, I2, r, q2⟩ => ⟨I2.kIn, ?_⟩) hst hpl
  exact run_fnS (us := .ref a :: us) (vs := .ref a :: vs) F hr hb (hx σ) I2 (.cons rfl r) q2
theorem px_meth0 {pl : Sem Bool} (G : OkD X.prog X.w X.K X.mg X.base d k ps sp) (hr : Room k X.A) (he : PE X o ta) (c : Cls X.K (He.ga X.K C)) (hm : Meth X.K (He.ga X.K C) m (He.fAd X.K d.at_)) (hx : ∀ σ, PassesAt (L2.CX X.prog X.w) X σ (E σ))
    (ht : eval (.Call (.Attribute o m apos) [] [] pos) X.env = (do
      let ov ← eval o X.env
      standAt apos.atName
      let (f, first) ← holding [ov] (getMethod ov m pl)
      callWith pos f first (backTo pos (starEach [] X.env)) (backToKw pos (keywordEach [] X.env))) := by rfl) :
    PE X (.Call (.Attribute o m apos) [] [] pos) (tMt (He.ga X.K C) m sp E ta tNil) := by
  obtain ⟨fd, ⟨hk, _⟩, ⟨hb, _⟩, F⟩ := G
  refine ⟨fun pins s σ H Q I h => ?_⟩
  refine PySem.W.methodCall_KW (pl := pl) (thn (he.run pins s σ H _ I h) fun u s1 ⟨x, H1, I1, rx, a, dx, fs, ex, ea, l, q⟩ => ?_) ht
  subst ex
  obtain rfl : u = Value.ref a := rx
  refine getmeth_ok I1 ea c hm l ?_
  exact PySem.W.callWith_K0 (first := [.ref a]) I1.kIn hm.kp (run_fnS (us := [.ref a]) (vs := [.ref a]) F hr hb (hx σ) I1 (.cons rfl .nil) q)
theorem run_makeS {C f : Addr} {fd : FuncData} {pins : List (Addr × Obj)} {σ : L2.St} {H : Hp} {s : Shared} {Q : VK} {us : List Value} {vs : List V} (M : Mk X.K C f) (F : FnOk X.prog X.w X.K X.mg X.base (L2.CX X.prog X.w) k f fd ps sp) (hr : Room (k + 1) X.A) (hb : Binds X.K fd ps [])
    (hx : PassesAt (L2.CX X.prog X.w) X σ (E σ)) (I : Inv X pins σ H s) (r : Vals vs us)
    (h : ∀ x dx, H x = none → H dx = none → dx ≠ x → sp (.ref x :: vs) (upd (upd H dx (.own x)) x (.ins C dx [])) (fun v H2 => v = .non ∧ Q (.ref x) H2) (E σ)) :
    wpAny (model X.prog X.w) X.A (call (.ref C) us) (EP X pins σ Q) X.xe s := by
  have hq := h (s.heap.objs.size + 1) s.heap.objs.size (I.hok.fresh (Nat.le_succ _)) (I.hok.fresh (Nat.le_refl _)) (Nat.ne_of_lt (Nat.lt_succ_self _))
  have I2 := Inv.made (C := C) I
  have r2 : Vals (V.ref (s.heap.objs.size + 1) :: vs) (Value.ref (s.heap.objs.size + 1) :: us) := .cons rfl r
  have hl : (Value.ref (s.heap.objs.size + 1) :: us).length = ps.length := by
    have e := r2.length
    rw [F.len _ _ _ _ hq] at e
    exact e.symm
  have b := hb _ (Value.ref (s.heap.objs.size + 1) :: us) I2.kIn (by rw [List.append_nil]; exact hl)
  rw [List.append_nil] at b
  refine wpAny_call (make_map (f := f) I.kIn M.makes M.init (beq_iff_eq.mp M.fn) (codeAny_mono (F.run _ X.stack _ _ ⟨Value.ref (s.heap.objs.size + 1) :: us, []⟩ (Value.ref (s.heap.objs.size + 1) :: us) _ _ (E σ) (hr.make C us [])
    (I2.env0.make C us []) b r2 hq) fun r s' hq' => ?_))
  cases r with
  | error e => exact hx pins _ _ e s' I2 hq'
  | ok fl =>
    cases fl with
    | ret u =>
      obtain ⟨v, H', I3, rv, ev, q3⟩ := I2.after hq'
      subst ev
      exact ⟨rv, ⟨V.ref (s.heap.objs.size + 1), H', I3, rfl, q3⟩⟩
    | next => exact False.elim hq'
    | brk => exact False.elim hq'
    | cont => exact False.elim hq'
theorem px_make {C : Addr} (G : OkD X.prog X.w X.K X.mg X.base d k ps sp) (hr : Room (k + 1) X.A) (M : Mk X.K C (He.fAd X.K d.at_)) (hg : Gl X x) (hm : X.mg x = some (.ref C)) (hx : ∀ σ, PassesAt (L2.CX X.prog X.w) X σ (E σ)) (ha : PA X (e :: es) t)
    (hdb : (x == ("__debug__" : Str)) = false := by decide) (he : starEach (e :: es) X.env = (false, eval e X.env) :: starEach es X.env := by rfl) (hpl : (backTo pos (starEach es X.env)).any (·.1) = false := by rfl) :
    PE X (.Call (.Name x p) (e :: es) [] pos) (tMk C sp E t) := by
  obtain ⟨fd, ⟨hk, _⟩, ⟨hb, _⟩, F⟩ := G
  refine ⟨fun pins s σ H Q I h => ?_⟩
  refine wpAny_Call_Name_kw (ld_glob I hg hm ?_ hdb)
  refine PySem.W.callWith_K (h₀ := X.base) I.ok.mod.kin M.kp (thn (ha.run pos pins s σ H _ I h) fun us s1 ⟨vs, H1, I1, r, q⟩ => ⟨I1.kIn, ?_⟩) he hpl
  exact run_makeS M F hr hb (hx σ) I1 r q
theorem px_make0 {C : Addr} (G : OkD X.prog X.w X.K X.mg X.base d k ps sp) (hr : Room (k + 1) X.A) (M : Mk X.K C (He.fAd X.K d.at_)) (hg : Gl X x) (hm : X.mg x = some (.ref C)) (hx : ∀ σ, PassesAt (L2.CX X.prog X.w) X σ (E σ))
    (hdb : (x == ("__debug__" : Str)) = false := by decide) :
    PE X (.Call (.Name x p) [] [] pos) (tMk C sp E tNil) := by
  obtain ⟨fd, ⟨hk, _⟩, ⟨hb, _⟩, F⟩ := G
  refine ⟨fun pins s σ H Q I h => ?_⟩
  refine wpAny_Call_Name_kw (ld_glob I hg hm ?_ hdb)
  exact PySem.W.callWith_K0 I.kIn M.kp (run_makeS (us := []) M F hr hb (hx σ) I .nil h)
/-- an int, a text of the module; a def, a class -/
theorem px_int {i : Int} (hg : Gl X x) (hm : ∃ t, X.mg x = some (.int i t)) (hd : (x == ("__debug__" : Str)) = false := by decide) : PE X (.Name x pos) (tC (.int i)) := by
  obtain ⟨t, hm⟩ := hm
  exact pe_glob hg hm ⟨t, rfl⟩ hd
theorem px_str {z : Str} (hg : Gl X x) (hm : ∃ t, X.mg x = some (.str z t)) (hd : (x == ("__debug__" : Str)) = false := by decide) : PE X (.Name x pos) (tC (.str z)) := by
  obtain ⟨t, hm⟩ := hm
  exact pe_glob hg hm ⟨t, rfl⟩ hd
theorem px_ref {a : Addr} (hg : Gl X x) (hm : X.mg x = some (.ref a)) (hd : (x == ("__debug__" : Str)) = false := by decide) : PE X (.Name x pos) (tC (.ref a)) := pe_glob hg hm rfl hd
/-- raise C('..') -/
def tRz (W : WX) (C : Addr) : TS := fun _ σ H => W (.ref C) none σ H
theorem px_raise {C : Addr} {W : WX} {ms : Str} {j : Nat} {p2 pos' : Pos} (hc : X.calm = true) (tk : Takes X W) (hg : Gl X x) (gC : X.mg x = some (.ref C))
    (xC : PySem.W.excIn X.K C He.veBase "ValueError.__new__" = true ∧ PySem.W.keepIn X.K (.ref C) = true ∧ PySem.W.subIn X.K (.ref C) (.type "BaseException") = some true ∧ PySem.W.typeIn X.K (.ref C) = some (.type "type"))
    (hdb : (x == ("__debug__" : Str)) = false := by decide) :
    PS X (.Raise (some (.Call (.Name x p) [.Constant (.str ms) j p2] [] pos)) none pos') (tRz W C) :=
  ps_raise hc tk (pmk_own PySem.F.excBase_ValueError xC.1 gC xC.2.1 (raises_own xC.2.2.1 xC.2.2.2) hg hdb)
end
end TR

set_option Elab.async false
set_option linter.all false
set_option maxRecDepth 100000
set_option maxHeartbeats 4000000
/-! The readings step by step, over assertions side by side. -/
namespace TR
open PySem PySem.Spec PyProof.Rows L2

/-! ### what is wanted behind a part, by names (so that it stays whole) -/
def kTest (QT : Bool → Hp → Prop) : VK := fun x H => ∃ k, x = .bl k ∧ QT k H
def kNot (QT : Bool → Hp → Prop) : Bool → Hp → Prop := fun c H => QT (!c) H
def kAnd (u : TT) (σ : L2.St) (QT : Bool → Hp → Prop) : Bool → Hp → Prop := fun c H => if c = true then u σ H QT else QT false H
def kOr (u : TT) (σ : L2.St) (QT : Bool → Hp → Prop) : Bool → Hp → Prop := fun c H => if c = true then QT true H else u σ H QT
def kOp2 (r : R2) (x : V) (Q : VK) : VK := fun y H => r x y H Q
def kOp1 (r : R2) (tb : TE) (σ : L2.St) (Q : VK) : VK := fun x H => tb σ H (kOp2 r x Q)
def kUn (r : V → Hp → VK → Prop) (Q : VK) : VK := fun x H => r x H Q
def kCh3 (r' : R2) (tc : TE) (σ : L2.St) (y : V) (Q : VK) : VK := fun z H => ∃ k, z = .bl k ∧ (if k = true then tc σ H (kOp2 r' y Q) else Q (.bl false) H)
def kCh2 (r r' : R2) (tc : TE) (σ : L2.St) (x : V) (Q : VK) : VK := fun y H => r x y H (kCh3 r' tc σ y Q)
def kCh1 (r r' : R2) (tb tc : TE) (σ : L2.St) (Q : VK) : VK := fun x H => tb σ H (kCh2 r r' tc σ x Q)
def kAndV (tb : TE) (σ : L2.St) (Q : VK) : VK := fun x H => ∃ c, x = .bl c ∧ if c = true then tb σ H Q else Q (.bl false) H
def kOrV (tb : TE) (σ : L2.St) (Q : VK) : VK := fun x H => ∃ c, x = .bl c ∧ if c = true then Q (.bl true) H else tb σ H Q
def kNotV (Q : VK) : VK := fun x H => ∃ c, x = .bl c ∧ Q (.bl (!c)) H
def kIfE (ta tb : TE) (σ : L2.St) (Q : VK) : Bool → Hp → Prop := fun c H => if c = true then ta σ H Q else tb σ H Q
def kIfS (t u : TS) (D : Ends) (σ : L2.St) : Bool → Hp → Prop := fun c H => if c = true then t D σ H else u D σ H
def kTru (K : PySem.W.Frag) (QT : Bool → Hp → Prop) : VK := fun x H => ∃ k, TruV K x H k ∧ QT k H
def kC2 (x : V) (QA : List V → Hp → Prop) : List V → Hp → Prop := fun xs H => QA (x :: xs) H
def kC1 (tr : TA) (σ : L2.St) (QA : List V → Hp → Prop) : VK := fun x H => tr σ H (kC2 x QA)
def kCb (r : List V → Hp → VK → Prop) (Q : VK) : List V → Hp → Prop := fun vs H => r vs H Q
def kSp (sp : Sp) (E : XK) (Q : VK) : List V → Hp → Prop := fun vs H => sp vs H Q E
def kMt2 (sp : Sp) (E : XK) (x : V) (Q : VK) : List V → Hp → Prop := fun vs H => sp (x :: vs) H Q E
def kMt (C : Addr) (m : Str) (sp : Sp) (E : XK) (tr : TA) (σ : L2.St) (Q : VK) : VK := fun x H => ∃ a dx fs, x = .ref a ∧ H a = some (.ins C dx fs) ∧ fs.lookup m = none ∧ tr σ H (kMt2 sp E x Q)
def kMq (x : Addr) (Q : VK) : VK := fun v H => v = .non ∧ Q (.ref x) H
def kMk (C : Addr) (sp : Sp) (E : XK) (Q : VK) : List V → Hp → Prop := fun vs H => ∀ x dx, H x = none → H dx = none → dx ≠ x → sp (.ref x :: vs) (upd (upd H dx (.own x)) x (.ins C dx [])) (kMq x Q) E
def kLst (Q : VK) : List V → Hp → Prop := fun xs H => xs.length ≤ sizeLine ∧ ∀ p, H p = none → Q (.ref p) (upd H p (.lst xs))
def kTup (Q : VK) : List V → Hp → Prop := fun xs H => xs.length ≤ sizeLine ∧ ∀ p, H p = none → Q (.ref p) (upd H p (.tup xs))
def kFld (K : PySem.W.Frag) (f : Str) (Q : VK) : VK := fun x H => ∃ a C dx fs v, x = .ref a ∧ H a = some (.ins C dx fs) ∧ Cls K C ∧ NoAttr K C f ∧ fs.lookup f = some v ∧ Q v H
def kPut (K : PySem.W.Frag) (f : Str) (y : V) (D : Ends) (σ : L2.St) : VK := fun x H => ∃ a C dx fs, x = .ref a ∧ H a = some (.ins C dx fs) ∧ Cls K C ∧ NoAttr K C f ∧ fs.length < 1000 ∧ D.nx σ (upd H a (.ins C dx (putF f y fs)))
def kSf (K : PySem.W.Frag) (ta : TE) (f : Str) (D : Ends) (σ : L2.St) : VK := fun y H => ta σ H (kPut K f y D σ)
def kAsg (g : TG) (D : Ends) (σ : L2.St) : VK := fun x H => g x σ H D.nx
def kDrop (D : Ends) (σ : L2.St) : VK := fun _ H => D.nx σ H
def kBM (K : PySem.W.Frag) (T : String) (r : V → List V → Hp → VK → Prop) (tr : TA) (σ : L2.St) (Q : VK) : VK := fun x H => tyV K T x H ∧ tr σ H fun xs H2 => r x xs H2 Q
def kBM0 (K : PySem.W.Frag) (T : String) (r : V → List V → Hp → VK → Prop) (Q : VK) : VK := fun x H => tyV K T x H ∧ r x [] H Q
def kBq (r : V → List V → Hp → VK → Prop) (x : V) (Q : VK) : List V → Hp → Prop := fun xs H => r x xs H Q
def kSb2 (g : TSet) (o v : V) (QS : L2.St → Hp → Prop) (σ : L2.St) : VK := fun i H => g o i v H (QS σ)
def kSb1 (ti : TE) (g : TSet) (v : V) (QS : L2.St → Hp → Prop) (σ : L2.St) : VK := fun o H => ti σ H (kSb2 g o v QS σ)
def kG (tg : TGs) (xs : List V) (QS : L2.St → Hp → Prop) : L2.St → Hp → Prop := fun σ H => tg xs σ H QS
def kRev (K : PySem.W.Frag) (Q : VK) : VK := fun x H => ∃ a xs, x = .ref a ∧ SqL K H a xs ∧ ∀ p, H p = none → Q (.ref p) (upd H p (.lst xs.reverse))
def kSl3 (r : V → Option Int → Option Int → Hp → VK → Prop) (x : V) (lo : Option Int) (Q : VK) : Option Int → Hp → Prop := fun u H => r x lo u H Q
def kSl2 (r : V → Option Int → Option Int → Hp → VK → Prop) (th : TO) (σ : L2.St) (x : V) (Q : VK) : Option Int → Hp → Prop := fun l H => th σ H (kSl3 r x l Q)
def kSl1 (r : V → Option Int → Option Int → Hp → VK → Prop) (tl th : TO) (σ : L2.St) (Q : VK) : VK := fun x H => tl σ H (kSl2 r th σ x Q)
def kPart (QO : Option Int → Hp → Prop) : VK := fun x H => ∃ i, x = .int i ∧ QO (some i) H
/-- a value's truth, as a test -/
def tTru (K : PySem.W.Frag) (ta : TE) : TT := fun σ H QT => ta σ H (kTru K QT)
theorem px_truth {X : Cx} {a : Expr} {ta : TE} (ha : PE X a ta) (he : ∀ whole, isTrue a X.env whole = (do let v ← whole; standAt a.pos; holding [v] (truthy v))) : PT X a (tTru X.K ta) := pt_truth ha he

section
variable {K : PySem.W.Frag} {σ : L2.St} {H : Hp} {i : Nat} {v x y z : V} {ta tb tc te tv to ti : TE} {tA tB' : TT} {t u : TS} {D : Ends} {Q : VK} {p : Addr} {L R : List As} {QT : Bool → Hp → Prop} {QA : List V → Hp → Prop} {QS : L2.St → Hp → Prop}

/-! ### expressions -/
theorem x_var (h : σ[i]? = some (some v)) (q : Q v H) : tVar i σ H Q := ⟨v, h, q⟩
theorem x_c (q : Q v H) : tC v σ H Q := q
theorem x_op {r : R2} (q : ta σ H (kOp1 r tb σ Q)) : tOp r ta tb σ H Q := q
theorem y_op1 {r : R2} (q : tb σ H (kOp2 r x Q)) : kOp1 r tb σ Q x H := q
theorem y_op2 {r : R2} (q : r x y H Q) : kOp2 r x Q y H := q
theorem x_un {r : V → Hp → VK → Prop} (q : ta σ H (kUn r Q)) : tUn r ta σ H Q := q
theorem y_neg {i : Int} (q : Q (.int (-i)) H) : kUn (rU fun i => .int (-i)) Q (.int i) H := ⟨i, rfl, q⟩
theorem x_I0 {g : Int → Int → V} {i j : Int} (q : Q (g i j) H) : rI0 g (.int i) (.int j) H Q := ⟨i, j, rfl, rfl, q⟩
theorem x_I {C : Int → Int → Prop} {g : Int → Int → V} {i j : Int} (c : C i j) (q : Q (g i j) H) : rI C g (.int i) (.int j) H Q := ⟨i, j, rfl, rfl, c, q⟩
theorem x_if (q : tA σ H (kIfE ta tb σ Q)) : tIf tA ta tb σ H Q := q
theorem y_ifE {c : Bool} (q : if c = true then ta σ H Q else tb σ H Q) : kIfE ta tb σ Q c H := q
theorem x_nil (q : QA [] H) : tNil σ H QA := q
theorem x_cons {tr : TA} (q : ta σ H (kC1 tr σ QA)) : tCons ta tr σ H QA := q
theorem y_c1 {tr : TA} (q : tr σ H (kC2 x QA)) : kC1 tr σ QA x H := q
theorem y_c2 {xs : List V} (q : QA (x :: xs) H) : kC2 x QA xs H := q
theorem x_cb {r : List V → Hp → VK → Prop} {tr : TA} (q : tr σ H (kCb r Q)) : tCB r tr σ H Q := q
theorem y_cb {r : List V → Hp → VK → Prop} {vs : List V} (q : r vs H Q) : kCb r Q vs H := q

/-! ### tests -/
theorem x_test (q : te σ H (kTest QT)) : tTest te σ H QT := q
theorem x_tB (q : te σ H (kTest QT)) : tB te σ H QT := q
theorem y_test {b : Bool} (q : QT b H) : kTest QT (.bl b) H := ⟨b, rfl, q⟩
theorem x_not (q : tA σ H (kNot QT)) : tNot tA σ H QT := q
theorem y_not {c : Bool} (q : QT (!c) H) : kNot QT c H := q
theorem x_and (q : tA σ H (kAnd tB' σ QT)) : tAnd tA tB' σ H QT := q
theorem y_and {c : Bool} (q : if c = true then tB' σ H QT else QT false H) : kAnd tB' σ QT c H := q
theorem x_or (q : tA σ H (kOr tB' σ QT)) : tOr tA tB' σ H QT := q
theorem y_or {c : Bool} (q : if c = true then QT true H else tB' σ H QT) : kOr tB' σ QT c H := q
theorem x_chain {r r' : R2} (q : ta σ H (kCh1 r r' tb tc σ Q)) : tChain r r' ta tb tc σ H Q := q
theorem y_ch1 {r r' : R2} (q : tb σ H (kCh2 r r' tc σ x Q)) : kCh1 r r' tb tc σ Q x H := q
theorem y_ch2 {r r' : R2} (q : r x y H (kCh3 r' tc σ y Q)) : kCh2 r r' tc σ x Q y H := q
theorem y_ch3 {r' : R2} {k : Bool} (q : if k = true then tc σ H (kOp2 r' y Q) else Q (.bl false) H) : kCh3 r' tc σ y Q (.bl k) H := ⟨k, rfl, q⟩
theorem x_andV (q : ta σ H (kAndV tb σ Q)) : tAndV ta tb σ H Q := q
theorem y_andV {c : Bool} (q : if c = true then tb σ H Q else Q (.bl false) H) : kAndV tb σ Q (.bl c) H := ⟨c, rfl, q⟩
theorem x_orV (q : ta σ H (kOrV tb σ Q)) : tOrV ta tb σ H Q := q
theorem y_orV {c : Bool} (q : if c = true then Q (.bl true) H else tb σ H Q) : kOrV tb σ Q (.bl c) H := ⟨c, rfl, q⟩
theorem x_notV (q : ta σ H (kNotV Q)) : tNotV ta σ H Q := q
theorem y_notV {c : Bool} (q : Q (.bl (!c)) H) : kNotV Q (.bl c) H := ⟨c, rfl, q⟩
theorem x_tt {A B : Prop} (a : A) : if true = true then A else B := by
  rw [if_pos rfl]
  exact a
theorem x_ff {A B : Prop} (b : B) : if false = true then A else B := by
  rw [if_neg Bool.false_ne_true]
  exact b
theorem x_dec {φ : Prop} [d : Decidable φ] {A B : Prop} (a : φ → A) (b : ¬ φ → B) : if decide φ = true then A else B := by
  by_cases h : φ
  · rw [if_pos (decide_eq_true h)]
    exact a h
  · rw [if_neg (by rw [decide_eq_false h]; exact Bool.false_ne_true)]
    exact b h
theorem x_ndec {φ : Prop} [d : Decidable φ] {A B : Prop} (a : ¬ φ → A) (b : φ → B) : if (!decide φ) = true then A else B := by
  by_cases h : φ
  · rw [decide_eq_true h, if_neg (by decide)]
    exact b h
  · rw [decide_eq_false h, if_pos (by decide)]
    exact a h
theorem x_bool {c : Bool} {A B : Prop} (a : c = true → A) (b : c = false → B) : if c = true then A else B := by
  cases c with
  | true => exact x_tt (a rfl)
  | false => exact x_ff (b rfl)
theorem x_nbool {c : Bool} {A B : Prop} (a : c = false → A) (b : c = true → B) : if (!c) = true then A else B := by
  cases c with
  | true => exact x_ff (b rfl)
  | false => exact x_tt (a rfl)
theorem x_yes {c : Bool} {A B : Prop} (h : c = true) (a : A) : if c = true then A else B := by
  rw [if_pos h]
  exact a
theorem x_no {c : Bool} {A B : Prop} (h : c = false) (b : B) : if c = true then A else B := by
  rw [if_neg (by rw [h]; exact Bool.false_ne_true)]
  exact b
theorem x_nt {A B : Prop} (a : A) : if (!false) = true then A else B := x_tt a
theorem x_nf {A B : Prop} (b : B) : if (!true) = true then A else B := x_ff b
/-- a value's truth -/
theorem x_tru (q : ta σ H (kTru K QT)) : tTru K ta σ H QT := q
theorem y_trub {b : Bool} (q : QT b H) : kTru K QT (.bl b) H := ⟨b, rfl, q⟩
theorem y_trui {i : Int} (q : QT (i != 0) H) : kTru K QT (.int i) H := ⟨_, rfl, q⟩
theorem y_trun (q : QT false H) : kTru K QT .non H := ⟨_, rfl, q⟩
theorem y_trul {xs : List V} (h : SqL K H p xs) (q : QT (!xs.isEmpty) H) : kTru K QT (.ref p) H := ⟨_, .inl ⟨xs, h, rfl⟩, q⟩

/-! ### statements -/
theorem x_seq (q : t { D with nx := u D } σ H) : tSeq t u D σ H := q
theorem x_next (q : D.nx σ H) : tNext D σ H := q
theorem x_asg {g : TG} (q : te σ H (kAsg g D σ)) : tAsg te g D σ H := q
theorem y_asg {g : TG} (q : g x σ H D.nx) : kAsg g D σ x H := q
theorem x_name (q : QS (σ.set i (some v)) H) : gName i v σ H QS := q
theorem x_drop (q : te σ H (kDrop D σ)) : tDrop te D σ H := q
theorem y_drop (q : D.nx σ H) : kDrop D σ x H := q
theorem x_ret (q : te σ H D.rt) : tRet te D σ H := q
theorem x_retN (q : D.rt .non H) : tRetN D σ H := q
theorem x_ifS {c : TT} (q : c σ H (kIfS t u D σ)) : tIfS c t u D σ H := q
theorem y_ifS {c : Bool} (q : if c = true then t D σ H else u D σ H) : kIfS t u D σ c H := q
theorem x_cont (q : D.ct σ H) : tCont D σ H := q
theorem x_brk (q : D.bk σ H) : tBreak D σ H := q

/-! ### objects -/
class Fd (fs : List (Str × V)) (f : Str) (v : outParam V) : Prop where
  look : fs.lookup f = some v
  len : fs.length < 1000
class Fp (fs : List (Str × V)) (f : Str) (v : V) (fs' : outParam (List (Str × V))) : Prop where
  put : putF f v fs = fs'
  len : fs.length < 1000
class Fn (fs : List (Str × V)) (m : Str) : Prop where
  none : fs.lookup m = none
class FldI (K : PySem.W.Frag) (C : Addr) (f : Str) : Prop where
  cl : Cls K C
  na : NoAttr K C f
theorem x_fld {f : Str} (q : ta σ H (kFld K f Q)) : tFld K ta f σ H Q := q
theorem y_fld {f : Str} {C dx : Addr} {fs : List (Str × V)} (hS : Sep L H) [a : At p L (.ins C dx fs) R] [i : FldI K C f] [w : Fd fs f v] (q : Q v H) : kFld K f Q (.ref p) H :=
  ⟨p, C, dx, fs, v, rfl, hS.at_, i.cl, i.na, w.look, q⟩
theorem x_sfld {f : Str} (q : tv σ H (kSf K ta f D σ)) : sFld K ta tv f D σ H := q
theorem y_sf {f : Str} (q : ta σ H (kPut K f y D σ)) : kSf K ta f D σ y H := q
theorem y_put {f : Str} {C dx : Addr} {fs fs' : List (Str × V)} (hS : Sep L H) [a : At p L (.ins C dx fs) R] [i : FldI K C f] [w : Fp fs f y fs'] (q : ∀ H', Sep (pt p (.ins C dx fs') :: R) H' → D.nx σ H') : kPut K f y D σ (.ref p) H :=
  ⟨p, C, dx, fs, rfl, hS.at_, i.cl, i.na, w.len, by rw [w.put]; exact q _ (Sep.put (o := .ins C dx fs) (fun z => z) (a.en H hS))⟩
theorem x_meth {C : Addr} {m : Str} {sp : Sp} {E : L2.St → XK} {tr : TA} (q : ta σ H (kMt C m sp (E σ) tr σ Q)) : tMt C m sp E ta tr σ H Q := q
/-- at p an instance of the class at C, of these fields -/
class IsOb (A : As) (p : Addr) (C : outParam Addr) (nm : outParam (List Str)) : Prop where
  ob : ∀ h, A h → ∃ dx vs, h p = some (.ins C dx (nm.zip vs))
instance {p C dx : Addr} {nm : List Str} {vs : List V} : IsOb (pt p (.ins C dx (nm.zip vs))) p C nm := ⟨fun h a => ⟨dx, vs, a⟩⟩
class NotF (nm : List Str) (m : Str) : Prop where
  no : m ∉ nm
theorem look_none : ∀ {nm : List Str} {vs : List V} {f : Str}, f ∉ nm → (nm.zip vs).lookup f = none
  | [], _, _, _ => by simp [List.lookup]
  | _ :: _, [], _, _ => by simp [List.lookup]
  | g :: nm, x :: vs, f, h => by
    have ne : (f == g) = false := beq_eq_false_iff_ne.mpr fun e => h (by rw [e]; exact List.mem_cons_self)
    show List.lookup f ((g, x) :: nm.zip vs) = none
    rw [List.lookup_cons, ne]
    exact look_none fun z => h (List.mem_cons_of_mem _ z)
theorem y_meth {C : Addr} {m : Str} {nm : List Str} {A : As} {sp : Sp} {E : XK} {tr : TA} (hS : Sep L H) [a : AtA p L A R] [o : IsOb A p C nm] [w : NotF nm m] (q : tr σ H (kMt2 sp E (.ref p) Q)) : kMt C m sp E tr σ Q (.ref p) H := by
  obtain ⟨h1, h2, s1, s2, d, ha, r⟩ := a.en H hS
  obtain ⟨dx, vs, e⟩ := o.ob h1 ha
  exact ⟨p, dx, _, rfl, s1 _ _ e, look_none w.no, q⟩
theorem y_mt2 {sp : Sp} {E : XK} {vs : List V} (q : sp (x :: vs) H Q E) : kMt2 sp E x Q vs H := q
theorem x_callS {sp : Sp} {E : L2.St → XK} {tr : TA} (q : tr σ H (kSp sp (E σ) Q)) : tCallS sp E tr σ H Q := q
theorem y_sp {sp : Sp} {E : XK} {vs : List V} (q : sp vs H Q E) : kSp sp E Q vs H := q
theorem x_make {C : Addr} {sp : Sp} {E : L2.St → XK} {tr : TA} (q : tr σ H (kMk C sp (E σ) Q)) : tMk C sp E tr σ H Q := q
theorem y_mk {C : Addr} {sp : Sp} {E : XK} {vs : List V} (hS : Sep L H) (q : ∀ x dx H', Sep (pt x (.ins C dx []) :: L) H' → sp (.ref x :: vs) H' (kMq x Q) E) : kMk C sp E Q vs H := fun x dx nx nd ne =>
  q x dx _ (Sep.new (by rw [upd_ne (Ne.symm ne)]; exact nx) (Sep.newd nd hS))
theorem y_mq (q : Q (.ref p) H) : kMq p Q .non H := ⟨rfl, q⟩
theorem x_rz {W : WX} {C : Addr} (q : W (.ref C) none σ H) : tRz W C D σ H := q

/-! ### lists, tuples -/
theorem x_lst {tr : TA} (q : tr σ H (kLst Q)) : tLst tr σ H Q := q
theorem y_lst {xs : List V} (hS : Sep L H) (h : xs.length ≤ sizeLine) (q : ∀ p H', Sep (pt p (.lst xs) :: L) H' → Q (.ref p) H') : kLst Q xs H := ⟨h, fun p hp => q p _ (Sep.new hp hS)⟩
theorem x_tup {tr : TA} (q : tr σ H (kTup Q)) : tTup tr σ H Q := q
theorem y_tup {xs : List V} (hS : Sep L H) (h : xs.length ≤ sizeLine) (q : ∀ p H', Sep (pt p (.tup xs) :: L) H' → Q (.ref p) H') : kTup Q xs H := ⟨h, fun p hp => q p _ (Sep.new hp hS)⟩
/-- a list that may be read: tracked, known, or of the module -/
theorem sqL {xs : List V} (hS : Sep L H) [a : At p L (.lst xs) R] : SqL K H p xs := .of hS.at_
theorem sqT {xs : List V} (hS : Sep L H) [a : At p L (.tup xs) R] : SqT K H p xs := .of hS.at_
/-- the list at p is to be read -/
def Li (K : PySem.W.Frag) (p : Addr) (xs : List V) : As := fun h => SqL K h p xs
theorem Rd.sb {H H' : Hp} {a : Addr} {u : HO} (s : Sb H H') (r : Rd H a u) : Rd H' a u := by
  rcases r with r | ⟨o, r⟩
  · exact .inl (s _ _ r)
  · exact .inr ⟨o, s _ _ r⟩
theorem SqL.sb {H H' : Hp} {a : Addr} {xs : List V} (s : Sb H H') (r : SqL K H a xs) : SqL K H' a xs := by
  rcases r with r | r
  · exact .inl (Rd.sb s r)
  · exact .inr r
theorem SqT.sb {H H' : Hp} {a : Addr} {xs : List V} (s : Sb H H') (r : SqT K H a xs) : SqT K H' a xs := by
  rcases r with r | r
  · exact .inl (Rd.sb s r)
  · exact .inr r
theorem Sep.li {xs : List V} (h : Sep (Li K p xs :: R) H) : SqL K H p xs := by
  obtain ⟨h1, h2, s1, s2, d, a, r⟩ := h
  exact SqL.sb s1 a
theorem Sep.liOf {xs : List V} (h : Sep L H) [a : Pk (Li K p xs) L R] : SqL K H p xs := (h.to (A := Li K p xs)).li
/-- xs[i] -/
theorem x_ixL {xs : List V} {i : Int} (h : SqL K H p xs) (e : atI xs i = some v) (q : Q v H) : rIx K (.ref p) (.int i) H Q := .inl ⟨p, xs, i, v, rfl, rfl, h, e, q⟩
theorem x_ixT {xs : List V} {i : Int} (h : SqT K H p xs) (e : atI xs i = some v) (q : Q v H) : rIx K (.ref p) (.int i) H Q := .inr (.inl ⟨p, xs, i, v, rfl, rfl, h, e, q⟩)
theorem atI_some {α : Type} {xs : List α} {i : Int} {v : α} (h0 : 0 ≤ i) (h : xs[i.toNat]? = some v) : atI xs i = some v := by
  have e : i = ((i.toNat : Nat) : Int) := by omega
  rw [e]
  exact atI_nat h
theorem ixN_some {n : Nat} {i : Int} (h0 : 0 ≤ i) (h1 : i < n) : ixN n i = some i.toNat := by
  unfold ixN
  rw [if_pos h0, if_pos h1]
/-- xs[i] = v -/
theorem x_sub {g : TSet} (q : to σ H (kSb1 ti g v QS σ)) : gSub to ti g v σ H QS := q
theorem y_sb1 {g : TSet} {o : V} (q : ti σ H (kSb2 g o v QS σ)) : kSb1 ti g v QS σ o H := q
theorem y_setL {xs : List V} {i : Int} {j : Nat} (hS : Sep L H) [a : At p L (.lst xs) R] (e : ixN xs.length i = some j) (q : ∀ H', Sep (pt p (.lst (xs.set j v)) :: R) H' → QS σ H') : kSb2 rSetL (.ref p) v QS σ (.int i) H :=
  ⟨p, xs, i, j, rfl, rfl, hS.at_, e, q _ (Sep.put (o := .lst xs) (fun z => z) (a.en H hS))⟩
/-- a built-in's method -/
theorem x_bm {T : String} {r : V → List V → Hp → VK → Prop} {tr : TA} (q : to σ H (kBM K T r tr σ Q)) : tBM K T r to tr σ H Q := q
theorem y_bm {T : String} {r : V → List V → Hp → VK → Prop} {tr : TA} (h : tyV K T x H) (q : tr σ H (kBq r x Q)) : kBM K T r tr σ Q x H := ⟨h, q⟩
theorem y_bml {xs : List V} {r : V → List V → Hp → VK → Prop} {tr : TA} (h : SqL K H p xs) (q : tr σ H (kBq r (.ref p) Q)) : kBM K "list" r tr σ Q (.ref p) H := ⟨.inl ⟨rfl, _, h⟩, q⟩
theorem y_bq {r : V → List V → Hp → VK → Prop} {xs : List V} (q : r x xs H Q) : kBq r x Q xs H := q
theorem x_bm0 {T : String} {r : V → List V → Hp → VK → Prop} (q : to σ H (kBM0 K T r Q)) : tBM0 K T r to σ H Q := q
theorem y_bml0 {xs : List V} {r : V → List V → Hp → VK → Prop} (h : SqL K H p xs) (q : r (.ref p) [] H Q) : kBM0 K "list" r Q (.ref p) H := ⟨.inl ⟨rfl, _, h⟩, q⟩
theorem x_append {xs : List V} (hS : Sep L H) [a : At p L (.lst xs) R] (e : xs.length < sizeLine) (q : ∀ H', Sep (pt p (.lst (xs ++ [v])) :: R) H' → Q .non H') : rAppend (.ref p) [v] H Q :=
  ⟨p, xs, v, rfl, rfl, hS.at_, e, q _ (Sep.put (o := .lst xs) (fun z => z) (a.en H hS))⟩
/-- list(xs) -/
def rListOf (K : PySem.W.Frag) : List V → Hp → VK → Prop := fun xs H Q => ∃ p ys, xs = [.ref p] ∧ (SqL K H p ys ∨ SqT K H p ys) ∧ ∀ l, H l = none → Q (.ref l) (upd H l (.lst ys))
theorem call_listOf {X : Cx} : CallR X (.type "list") (rListOf X.K) := call_list_of
theorem x_listOf {xs : List V} (hS : Sep L H) (h : SqL K H p xs) (q : ∀ l H', Sep (pt l (.lst xs) :: L) H' → Q (.ref l) H') : rListOf K [.ref p] H Q := ⟨p, xs, rfl, .inl h, fun l hl => q l _ (Sep.new hl hS)⟩
/-- len -/
def rLen (K : PySem.W.Frag) : List V → Hp → VK → Prop := fun xs H Q => ∃ x n, xs = [x] ∧ LenV K x H n ∧ Q (.int (n : Nat)) H
theorem call_lenA {X : Cx} : CallR X (.builtin "len") (rLen X.K) := call_len
theorem x_lenL {xs : List V} (h : SqL K H p xs) (q : Q (.int (xs.length : Nat)) H) : rLen K [.ref p] H Q := ⟨_, _, rfl, .inl ⟨xs, h, rfl⟩, q⟩
/-- ==, != : scalars, or data -/
def rEqA (K : PySem.W.Frag) : R2 := fun x y H Q => rEq x y H Q ∨ rEqD K x y H Q
def rNeA (K : PySem.W.Frag) : R2 := fun x y H Q => rNe x y H Q ∨ rNeD K x y H Q
theorem op_eqA {X : Cx} (hu : X.A.units + 64 < cLine) : OpR X (compareOp .Eq) (rEqA X.K) := op_eq.or (op_eqD hu)
theorem op_neA {X : Cx} (hu : X.A.units + 64 < cLine) : OpR X (compareOp .NotEq) (rNeA X.K) := op_ne.or (op_neD hu)
theorem dec_V {i j : Int} : decide (V.int i = V.int j) = decide (i = j) := by simp
theorem x_eqI {i j : Int} (q : Q (.bl (decide (i = j))) H) : rEqA K (.int i) (.int j) H Q := .inl ⟨rfl, by rw [dec_V]; exact q⟩
theorem x_neI {i j : Int} (q : Q (.bl (!decide (i = j))) H) : rNeA K (.int i) (.int j) H Q := .inl ⟨rfl, by rw [dec_V]; exact q⟩
theorem x_eqS (h : scal x y = true) (q : Q (.bl (decide (x = y))) H) : rEqA K x y H Q := .inl ⟨h, q⟩
theorem x_neS (h : scal x y = true) (q : Q (.bl (!decide (x = y))) H) : rNeA K x y H Q := .inl ⟨h, q⟩
theorem x_eqD {d e : PyData} (hd : Dp K H x d) (he : Dp K H y e) (sd : SeqAt.shaped d = true) (se : SeqAt.shaped e = true) (q : Q (.bl (PyData.eqv d e)) H) : rEqA K x y H Q := .inr ⟨d, e, hd, he, sd, se, q⟩
theorem x_neD {d e : PyData} (hd : Dp K H x d) (he : Dp K H y e) (sd : SeqAt.shaped d = true) (se : SeqAt.shaped e = true) (q : Q (.bl (!PyData.eqv d e)) H) : rNeA K x y H Q := .inr ⟨d, e, hd, he, sd, se, q⟩
/-- is None -/
def rIsN : R2 := fun x y H Q => y = .non ∧ Q (.bl (decide (x = .non))) H
def rNotN : R2 := fun x y H Q => y = .non ∧ Q (.bl (!decide (x = .non))) H
theorem op_isN1 {X : Cx} : OpR X (compareOp .Is) rIsN := op_isN
theorem op_notN1 {X : Cx} : OpR X (compareOp .IsNot) rNotN := op_notN
theorem x_isN (q : Q (.bl (decide (x = .non))) H) : rIsN x .non H Q := ⟨rfl, q⟩
theorem x_notN (q : Q (.bl (!decide (x = .non))) H) : rNotN x .non H Q := ⟨rfl, q⟩
/-- several targets -/
theorem x_gtup {n : Nat} {tg : TGs} {xs : List V} (h : SqT K H p xs) (e : xs.length = n) (q : tg xs σ H QS) : gTup K n tg (.ref p) σ H QS := ⟨p, xs, rfl, h, e, q⟩
theorem x_gcons {g : TG} {tg : TGs} {xs : List V} (q : g x σ H (kG tg xs QS)) : gCons g tg (x :: xs) σ H QS := ⟨x, xs, rfl, q⟩
theorem y_g {tg : TGs} {xs : List V} (q : tg xs σ H QS) : kG tg xs QS σ H := q
theorem x_gnil (q : QS σ H) : gNil [] σ H QS := ⟨rfl, q⟩
/-- xs[::-1], slices -/
theorem x_rev (q : te σ H (kRev K Q)) : tRevL K te σ H Q := q
theorem y_rev {xs : List V} (hS : Sep L H) (h : SqL K H p xs) (q : ∀ l H', Sep (pt l (.lst xs.reverse) :: L) H' → Q (.ref l) H') : kRev K Q (.ref p) H := ⟨p, xs, rfl, h, fun l hl => q l _ (Sep.new hl hS)⟩
theorem x_sl {r : V → Option Int → Option Int → Hp → VK → Prop} {tl th : TO} (q : te σ H (kSl1 r tl th σ Q)) : tSl r te tl th σ H Q := q
theorem y_sl1 {r : V → Option Int → Option Int → Hp → VK → Prop} {tl th : TO} (q : tl σ H (kSl2 r th σ x Q)) : kSl1 r tl th σ Q x H := q
theorem y_sl2 {r : V → Option Int → Option Int → Hp → VK → Prop} {th : TO} {l : Option Int} (q : th σ H (kSl3 r x l Q)) : kSl2 r th σ x Q l H := q
theorem y_sl3 {r : V → Option Int → Option Int → Hp → VK → Prop} {l u : Option Int} (q : r x l u H Q) : kSl3 r x l Q u H := q
theorem x_nop {QO : Option Int → Hp → Prop} (q : QO none H) : tNoPart σ H QO := q
theorem x_part {QO : Option Int → Hp → Prop} (q : te σ H (kPart QO)) : tPart te σ H QO := q
theorem y_part {QO : Option Int → Hp → Prop} {i : Int} (q : QO (some i) H) : kPart QO (.int i) H := ⟨i, rfl, q⟩
theorem x_slL {xs : List V} {lo hi : Option Int} (hS : Sep L H) (h : SqL K H p xs) (q : ∀ l H', Sep (pt l (.lst (cutV xs lo hi)) :: L) H' → Q (.ref l) H') : rSlL K (.ref p) lo hi H Q := ⟨p, xs, rfl, h, fun l hl => q l _ (Sep.new hl hS)⟩

/-! ### loops -/
/-- for k in range(n): P i, the state behind i turns -/
def kRg1 (g : TG) (t : TS) (D : Ends) (σ : L2.St) : List V → Hp → Prop := fun vs H => ∃ j : Int, vs = [.int j] ∧ -(2 ^ 62) ≤ j ∧ j < 2 ^ 62 ∧ ∃ W : Nat → Nat → L2.St → Hp → Prop, (∃ m, W 0 m σ H) ∧ ∀ i m σ H, W i m σ H →
  ((Itr 0 j.toNat).stop i H ∧ D.nx σ H) ∨ ((Itr 0 j.toNat).go i H ∧ ∃ N : L2.St → Hp → Prop, (∀ σ' H', N σ' H' → ∃ m', m' < m ∧ W (i + 1) m' σ' H') ∧ ∀ x H', (Itr 0 j.toNat).yld i H x H' → g x σ H' fun σ2 H2 => t { D with nx := N, ct := N, bk := D.nx } σ2 H2)
theorem x_for1 {ta : TA} {g : TG} (q : ta σ H (kRg1 g t D σ)) : tFor (iRng1 ta) g t D σ H := q
def kBody (t : TS) (D : Ends) (N : L2.St → Hp → Prop) : L2.St → Hp → Prop := fun σ H => t { D with nx := N, ct := N, bk := D.nx } σ H
theorem y_for1 {n : Nat} {g : TG} (P : Nat → L2.St → Hp → Prop) (hn : n ≤ 1000000) (h0 : P 0 σ H) (hs : ∀ i σ H, i < n → P i σ H → g (.int (i : Nat)) σ H (kBody t D (P (i + 1)))) (hd : ∀ σ H, P n σ H → D.nx σ H) : kRg1 g t D σ [.int (n : Nat)] H :=
  ⟨n, rfl, by omega, by omega, by
    rw [Int.toNat_natCast]
    exact for_range (lo := 0) P h0 (fun i σ H hi p => by rw [Int.zero_add]; exact hs i σ H hi p) hd⟩
theorem y_body {N : L2.St → Hp → Prop} (q : t { D with nx := N, ct := N, bk := D.nx } σ H) : kBody t D N σ H := q
/-- for x in a list -/
def kFl (K : PySem.W.Frag) (g : TG) (t : TS) (D : Ends) (σ : L2.St) : VK := fun x H => ∃ a, x = .ref a ∧ (∃ xs, SqL K H a xs) ∧ ∃ W : Nat → Nat → L2.St → Hp → Prop, (∃ m, W 0 m σ H) ∧ ∀ i m σ H, W i m σ H →
  ((Itl K a).stop i H ∧ D.nx σ H) ∨ ((Itl K a).go i H ∧ ∃ N : L2.St → Hp → Prop, (∀ σ' H', N σ' H' → ∃ m', m' < m ∧ W (i + 1) m' σ' H') ∧ ∀ x H', (Itl K a).yld i H x H' → g x σ H' fun σ2 H2 => t { D with nx := N, ct := N, bk := D.nx } σ2 H2)
theorem x_forL {g : TG} (q : te σ H (kFl K g t D σ)) : tFor (iList K te) g t D σ H := q
theorem y_forL {xs : List V} {g : TG} (P : Nat → L2.St → Hp → Prop) (hx : SqL K H p xs) (h0 : P 0 σ H) (hl : ∀ i σ H, i ≤ xs.length → P i σ H → SqL K H p xs) (hs : ∀ i x σ H, xs[i]? = some x → P i σ H → g x σ H (kBody t D (P (i + 1)))) (hd : ∀ σ H, P xs.length σ H → D.nx σ H) :
    kFl K g t D σ (.ref p) H := ⟨p, rfl, ⟨xs, hx⟩, for_list P h0 hl hs hd⟩
/-- for x in a tuple -/
def kFt (K : PySem.W.Frag) (g : TG) (t : TS) (D : Ends) (σ : L2.St) : VK := fun x H => ∃ a, x = .ref a ∧ (∃ xs, SqT K H a xs) ∧ ∃ W : Nat → Nat → L2.St → Hp → Prop, (∃ m, W 0 m σ H) ∧ ∀ i m σ H, W i m σ H →
  ((Itt K a).stop i H ∧ D.nx σ H) ∨ ((Itt K a).go i H ∧ ∃ N : L2.St → Hp → Prop, (∀ σ' H', N σ' H' → ∃ m', m' < m ∧ W (i + 1) m' σ' H') ∧ ∀ x H', (Itt K a).yld i H x H' → g x σ H' fun σ2 H2 => t { D with nx := N, ct := N, bk := D.nx } σ2 H2)
theorem x_forT {g : TG} (q : te σ H (kFt K g t D σ)) : tFor (iTup K te) g t D σ H := q
theorem y_forT {xs : List V} {g : TG} (P : Nat → L2.St → Hp → Prop) (hx : SqT K H p xs) (h0 : P 0 σ H) (hl : ∀ i σ H, i ≤ xs.length → P i σ H → SqT K H p xs) (hs : ∀ i x σ H, xs[i]? = some x → P i σ H → g x σ H (kBody t D (P (i + 1)))) (hd : ∀ σ H, P xs.length σ H → D.nx σ H) :
    kFt K g t D σ (.ref p) H := ⟨p, rfl, ⟨xs, hx⟩, for_tup P h0 hl hs hd⟩
/-- for k in range(a, b, -1) -/
def kRg3 (g : TG) (t : TS) (D : Ends) (σ : L2.St) : List V → Hp → Prop := fun vs H => ∃ (i j c : Int) (n : Nat), vs = [.int i, .int j, .int c] ∧ RgC i j c n ∧ ∃ W : Nat → Nat → L2.St → Hp → Prop, (∃ m, W 0 m σ H) ∧ ∀ i' m σ H, W i' m σ H →
  ((Itc i c n).stop i' H ∧ D.nx σ H) ∨ ((Itc i c n).go i' H ∧ ∃ N : L2.St → Hp → Prop, (∀ σ' H', N σ' H' → ∃ m', m' < m ∧ W (i' + 1) m' σ' H') ∧ ∀ x H', (Itc i c n).yld i' H x H' → g x σ H' fun σ2 H2 => t { D with nx := N, ct := N, bk := D.nx } σ2 H2)
theorem x_for3 {ta : TA} {g : TG} (q : ta σ H (kRg3 g t D σ)) : tFor (iRng3 ta) g t D σ H := q
theorem y_for3 {a b : Int} {g : TG} (P : Nat → L2.St → Hp → Prop) (ha : -1000000 ≤ a ∧ a ≤ 1000000) (hb : -1000000 ≤ b ∧ b ≤ 1000000) (h0 : P 0 σ H)
    (hs : ∀ i σ H, i < (a - b).toNat → P i σ H → g (.int (a - (i : Nat))) σ H (kBody t D (P (i + 1)))) (hd : ∀ σ H, P (a - b).toNat σ H → D.nx σ H) : kRg3 g t D σ [.int a, .int b, .int (-1)] H :=
  ⟨a, b, -1, _, rfl, RgC.neg (by omega) (by omega) (by omega) (by omega), for_rangeC P h0 (fun i σ H hi p => by
    have e : a + ((i : Nat) : Int) * (-1) = a - (i : Nat) := by omega
    rw [e]
    exact hs i σ H hi p) hd⟩
end
end TR

set_option Elab.async false
set_option linter.all false
set_option maxRecDepth 100000
set_option maxHeartbeats 4000000
/-! More rules (sums of any kind, list.count of truths), fields by places, data compared. -/
namespace TR
open PySem PySem.Spec PyProof.Rows L2

/-! ### fields by places -/
section
variable {nm : List Str} {vs : List V} {i : Nat} {f : Str} {v : V}
theorem look_zip : ∀ {nm : List Str} {vs : List V} {i : Nat} {f : Str} {v : V}, nm.Nodup → nm[i]? = some f → vs[i]? = some v → (nm.zip vs).lookup f = some v
  | [], _, _, _, _, _, h, _ => by simp at h
  | _ :: _, [], _, _, _, _, _, h => by simp at h
  | g :: nm, x :: vs, 0, f, v, nd, h1, h2 => by
    have e1 : g = f := Option.some.inj h1
    have e2 : x = v := Option.some.inj h2
    subst e1 e2
    show List.lookup g ((g, x) :: nm.zip vs) = some x
    rw [List.lookup_cons, beq_self_eq_true]
  | g :: nm, x :: vs, i + 1, f, v, nd, h1, h2 => by
    have ne : (f == g) = false := beq_eq_false_iff_ne.mpr fun e => (List.nodup_cons.mp nd).1 (by
      rw [← e]
      exact List.mem_of_getElem? (show nm[i]? = some f from by simpa using h1))
    show List.lookup f ((g, x) :: nm.zip vs) = some v
    rw [List.lookup_cons, ne]
    exact look_zip (i := i) (List.nodup_cons.mp nd).2 (by simpa using h1) (by simpa using h2)
theorem put_zip : ∀ {nm : List Str} {vs : List V} {i : Nat} {f : Str} {v : V}, nm.Nodup → nm[i]? = some f → i < vs.length → putF f v (nm.zip vs) = nm.zip (vs.set i v)
  | [], _, _, _, _, _, h, _ => by simp at h
  | _ :: _, [], _, _, _, _, _, h => by simp at h
  | g :: nm, x :: vs, 0, f, v, nd, h1, h2 => by
    have e1 : g = f := Option.some.inj h1
    subst e1
    show (if g = g then (g, v) :: nm.zip vs else _) = _
    rw [if_pos rfl] <;> rfl
  | g :: nm, x :: vs, i + 1, f, v, nd, h1, h2 => by
    have ne : ¬ g = f := fun e => (List.nodup_cons.mp nd).1 (by
      rw [e]
      exact List.mem_of_getElem? (show nm[i]? = some f from by simpa using h1))
    show (if g = f then (g, v) :: nm.zip vs else (g, x) :: putF f v (nm.zip vs)) = _
    rw [if_neg ne, put_zip (i := i) (List.nodup_cons.mp nd).2 (by simpa using h1) (by simpa using h2)] <;> rfl
theorem put_zip_new : ∀ {nm : List Str} {vs : List V} {f : Str} {v : V}, nm.Nodup → nm[vs.length]? = some f → putF f v (nm.zip vs) = nm.zip (vs ++ [v])
  | [], _, _, _, _, h => by simp at h
  | g :: nm, [], f, v, nd, h1 => by
    have e1 : g = f := Option.some.inj h1
    subst e1
    show [(g, v)] = _
    rw [List.nil_append, List.zip_cons_cons, List.zip_nil_right]
  | g :: nm, x :: vs, f, v, nd, h1 => by
    have h1' : nm[vs.length]? = some f := by simpa using h1
    have ne : ¬ g = f := fun e => (List.nodup_cons.mp nd).1 (by
      rw [e]
      exact List.mem_of_getElem? h1')
    show (if g = f then (g, v) :: nm.zip vs else (g, x) :: putF f v (nm.zip vs)) = _
    rw [if_neg ne, put_zip_new (List.nodup_cons.mp nd).2 h1'] <;> rfl
theorem len_zip (h : nm.length < 1000) : (nm.zip vs).length < 1000 := by
  rw [List.length_zip]
  omega
end

theorem getD_some {α : Type} {xs : List α} {i : Nat} {d : α} (h : i < xs.length) : xs[i]? = some (xs.getD i d) := by
  rw [List.getD_eq_getElem?_getD, List.getElem?_eq_getElem h] <;> rfl
/-! ### sums, products of any kind -/
section
variable {X : Cx} {K : PySem.W.Frag} {σ : L2.St} {H : Hp} {v x y : V} {Q : VK} {p q : Addr} {L R R' : List As}
def rAddS : R2 := fun x y H Q => ∃ i j, x = .str i ∧ y = .str j ∧ i.length + j.length ≤ sizeLine ∧ Q (.str (i ++ j)) H
theorem op_addS : OpR X (binaryOp .Add) rAddS := by
  intro pins s σ H x y v u Q I rx ry ⟨i, j, e1, e2, h, q⟩
  exact op_add_str pins s σ H x y v u Q I rx ry ⟨i, j, e1, e2, h, q⟩
def rAddA (K : PySem.W.Frag) : R2 := fun x y H Q => rI0 (fun i j => .int (i + j)) x y H Q ∨ (rCat x y H Q ∨ (rAddS x y H Q ∨ rCatT K x y H Q))
theorem op_addA : OpR X (binaryOp .Add) (rAddA X.K) := op_add.or (op_cat.or (op_addS.or op_catT))
theorem x_addI {i j : Int} (q : Q (.int (i + j)) H) : rAddA K (.int i) (.int j) H Q := .inl ⟨i, j, rfl, rfl, q⟩
theorem x_addS {i j : Str} (h : i.length + j.length ≤ sizeLine) (q : Q (.str (i ++ j)) H) : rAddA K (.str i) (.str j) H Q := .inr (.inr (.inl ⟨i, j, rfl, rfl, h, q⟩))
theorem x_cat {xs ys : List V} (hS : Sep L H) [a : At p L (.lst xs) R] [b : At q L (.lst ys) R'] (h : xs.length + ys.length ≤ sizeLine) (k : ∀ l H', Sep (pt l (.lst (xs ++ ys)) :: L) H' → Q (.ref l) H') : rAddA K (.ref p) (.ref q) H Q :=
  .inr (.inl ⟨p, q, xs, ys, rfl, rfl, hS.at_, Sep.at_ (q := b) hS, h, fun l hl => k l _ (Sep.new hl hS)⟩)
def rMulA : R2 := fun x y H Q => rI CMul (fun i j => .int (i * j)) x y H Q ∨ rRep x y H Q
theorem op_mulA : OpR X (binaryOp .Mult) rMulA := op_mul.or op_rep
theorem x_mulI {i j : Int} (c : CMul i j) (q : Q (.int (i * j)) H) : rMulA (.int i) (.int j) H Q := .inl ⟨i, j, rfl, rfl, c, q⟩
theorem x_mulL {xs : List V} {n : Nat} (hS : Sep L H) [a : At p L (.lst xs) R] (h0 : n ≤ 1000000) (h : xs.length * n ≤ sizeLine) (k : ∀ l H', Sep (pt l (.lst (List.replicate n xs).flatten) :: L) H' → Q (.ref l) H') : rMulA (.ref p) (.int (n : Nat)) H Q :=
  .inr ⟨p, (n : Nat), xs, rfl, rfl, hS.at_, by omega, by omega, by rw [Int.toNat_natCast]; exact h, fun l hl => by rw [Int.toNat_natCast]; exact k l _ (Sep.new hl hS)⟩
/-- a slice of a list, of a tuple -/
theorem sl_listA : SlR X (rSlL X.K) := sl_list
def kLr (Q : VK) : VK := fun x H => ∃ n, x = .int n ∧ (RgOk 0 n ∧ ∀ l, H l = none → Q (.ref l) (upd H l (.lst (rgV 0 n))))
theorem x_lrange1 {ta : TE} (q : ta σ H (kLr Q)) : tLstRg (tRg1 ta) σ H Q := q
theorem y_lrange1 {n : Int} (hS : Sep L H) (h0 : 0 ≤ n) (h1 : n ≤ 1000000) (q : ∀ l H', Sep (pt l (.lst (rgV 0 n)) :: L) H' → Q (.ref l) H') : kLr Q (.int n) H := ⟨n, rfl, .of_le (by omega) (by omega) (by omega) (by omega), fun l hl => q l _ (Sep.new hl hS)⟩
def kLr2b (i : V) (Q : VK) : VK := fun y H => ∃ a b, i = .int a ∧ y = .int b ∧ (RgOk a b ∧ ∀ l, H l = none → Q (.ref l) (upd H l (.lst (rgV a b))))
def kLr2 (tb : TE) (σ : L2.St) (Q : VK) : VK := fun x H => tb σ H (kLr2b x Q)
theorem x_lrange2 {ta tb : TE} (q : ta σ H (kLr2 tb σ Q)) : tLstRg (tRg2 ta tb) σ H Q := q
theorem y_lr2 {tb : TE} (q : tb σ H (kLr2b x Q)) : kLr2 tb σ Q x H := q
theorem y_lrange2 {a b : Int} (hS : Sep L H) (h : RgOk a b) (q : ∀ l H', Sep (pt l (.lst (rgV a b)) :: L) H' → Q (.ref l) H') : kLr2b (.int a) Q (.int b) H := ⟨a, b, rfl, rfl, h, fun l hl => q l _ (Sep.new hl hS)⟩
/-- how many truths -/
def eqb (k : Bool) (v : Value) : Bool := match v with
  | .bool b => b == k
  | _ => false
theorem vals_bl : ∀ {bs : List Bool} {us : List Value}, Vals (bs.map V.bl) us → (∀ y ∈ us, ∃ b, y = Value.bool b) ∧ ∀ k, us.countP (eqb k) = bs.count k
  | [], _, .nil => ⟨fun y hy => (by cases hy), fun k => rfl⟩
  | b :: bs, _, .cons r t => by
    obtain ⟨h1, h2⟩ := vals_bl (bs := bs) t
    cases r
    refine ⟨fun y hy => ?_, fun k => ?_⟩
    · rcases List.mem_cons.mp hy with e | e
      · exact ⟨b, e⟩
      · exact h1 y e
    · rw [List.countP_cons, List.count_cons, h2] <;> rfl
def rCntB (K : PySem.W.Frag) : V → List V → Hp → VK → Prop := fun x xs H Q => ∃ (p : Addr) (bs : List Bool) (k : Bool), x = .ref p ∧ xs = [.bl k] ∧ SqL K H p (bs.map V.bl) ∧ Q (.int (bs.count k : Nat)) H
theorem mt_countB : MtR X "list.count" (rCntB X.K) := by
  intro pins s σ H x xs v us Q I rx rxs h
  obtain ⟨p, bs, k, rfl, rfl, hs, q⟩ := h
  cases rx
  obtain ⟨u, rfl, ru⟩ := rxs.one
  cases ru
  obtain ⟨its, rv, ⟨⟨cls, dd, data, sl⟩, n, ho, hc, hdn, hd⟩, hlen⟩ := I.list hs
  simp only at hc hd
  subst hc hd
  obtain ⟨h1, h2⟩ := vals_bl rv
  refine call_meets PySem.F.slot_list_count ⟨_, ho, rfl⟩ PySem.F.entry_list_count (PySem.F.args_list_count_2 _ _)
    (SeqAt.list_countAt p its.toArray n dd sl (.bool k) (eqb k)) ⟨ho, fun y hy => ?_, ?_⟩
  · obtain ⟨b, rfl⟩ := h1 y (by simpa using hy)
    exact SeqAt.EqAt.bool_bool b k
  · have ec : its.toArray.toList.countP (eqb k) = bs.count k := h2 k
    refine ⟨.int (bs.count k : Nat), H, I.tok _, ⟨s.toks, ?_⟩, q⟩
    show Value.int ((its.toArray.toList.countP (eqb k) : Nat) : Int) s.toks = Value.int ((bs.count k : Nat) : Int) s.toks
    rw [ec]
end

/-! ### data -/
section
variable {K : PySem.W.Frag} {H : Hp} {a : Addr}
theorem dp_ints {ns : List Int} (h : SqL K H a (ns.map V.int)) : Dp K H (.ref a) (.list (ns.map PyData.int)) := .lst h (go ns)
where go : ∀ ns : List Int, DpAll K H (ns.map V.int) (ns.map PyData.int)
  | [] => .nil
  | n :: r => .cons (.int n) (go r)
theorem can_ints : ∀ ns : List Int, PyData.canLayAll0 (ns.map PyData.int) = true
  | [] => rfl
  | n :: r => by
    show (PyData.canLay0 (.int n) && PyData.canLayAll0 (r.map PyData.int)) = true
    rw [can_ints r] <;> rfl
theorem depth_ints : ∀ ns : List Int, PyData.depthAll (ns.map PyData.int) ≤ 1
  | [] => by decide
  | n :: r => by
    have h := depth_ints r
    show max (PyData.depth (.int n)) (PyData.depthAll (r.map PyData.int)) ≤ 1
    have e : PyData.depth (.int n) ≤ 1 := (by decide : (0 : Nat) ≤ 1)
    omega
end

/-! ### dicts, more of lists -/
def kDg2 (x : V) (Q : VK) : VK := fun y H => ∃ a v, x = .ref a ∧ DGet H a y (some v) ∧ Q v H
def kDg1 (ty : TE) (σ : L2.St) (Q : VK) : VK := fun x H => ty σ H (kDg2 x Q)
def kDi2 (y : V) (Q : VK) : VK := fun x H => ∃ a o, x = .ref a ∧ DGet H a y o ∧ Q (.bl o.isSome) H
def kDi1 (td : TE) (σ : L2.St) (Q : VK) : VK := fun y H => td σ H (kDi2 y Q)
def kDn2 (y : V) (Q : VK) : VK := fun x H => ∃ a o, x = .ref a ∧ DGet H a y o ∧ Q (.bl (!o.isSome)) H
def kDn1 (td : TE) (σ : L2.St) (Q : VK) : VK := fun y H => td σ H (kDn2 y Q)
def kDp3 (v x : V) (D : Ends) (σ : L2.St) : VK := fun y H => ∃ a H4, x = .ref a ∧ DPut H a y v H4 ∧ D.nx σ H4
def kDp2 (ty : TE) (v : V) (D : Ends) (σ : L2.St) : VK := fun x H => ty σ H (kDp3 v x D σ)
def kDp1 (td ty : TE) (D : Ends) (σ : L2.St) : VK := fun v H => td σ H (kDp2 ty v D σ)
section
variable {K : PySem.W.Frag} {σ : L2.St} {H : Hp} {v x y : V} {Q : VK} {p q : Addr} {L R R' : List As} {te td ty tv : TE} {t : TS} {D : Ends} {kvs : List (Key × V)} {k : Key}
theorem x_dnew (hS : Sep L H) (q : ∀ p H', Sep (pt p (.dK []) :: L) H' → Q (.ref p) H') : tDNewK σ H Q := fun p hp => q p _ (Sep.new hp hS)
theorem x_dget (q : td σ H (kDg1 ty σ Q)) : tDGet td ty σ H Q := q
theorem y_dg1 (q : ty σ H (kDg2 x Q)) : kDg1 ty σ Q x H := q
theorem y_dg2 (hS : Sep L H) [a : At p L (.dK kvs) R] (h : valV kvs k = some v) (q : Q v H) : kDg2 (.ref p) Q (kV k) H := ⟨p, v, rfl, h ▸ DGet.k hS.at_, q⟩
theorem y_dgi {i : Int} (hS : Sep L H) [a : At p L (.dK kvs) R] (h : valV kvs (.inl i) = some v) (q : Q v H) : kDg2 (.ref p) Q (.int i) H := y_dg2 (k := .inl i) hS h q
theorem y_dgs {s : Str} (hS : Sep L H) [a : At p L (.dK kvs) R] (h : valV kvs (.inr s) = some v) (q : Q v H) : kDg2 (.ref p) Q (.str s) H := y_dg2 (k := .inr s) hS h q
theorem x_din (q : ty σ H (kDi1 td σ Q)) : tDIn ty td σ H Q := q
theorem y_di1 (q : td σ H (kDi2 y Q)) : kDi1 td σ Q y H := q
theorem y_dii {i : Int} (hS : Sep L H) [a : At p L (.dK kvs) R] (q : Q (.bl (valV kvs (.inl i)).isSome) H) : kDi2 (.int i) Q (.ref p) H := ⟨p, _, rfl, DGet.k (k := .inl i) hS.at_, q⟩
theorem y_dis {s : Str} (hS : Sep L H) [a : At p L (.dK kvs) R] (q : Q (.bl (valV kvs (.inr s)).isSome) H) : kDi2 (.str s) Q (.ref p) H := ⟨p, _, rfl, DGet.k (k := .inr s) hS.at_, q⟩
theorem x_dnotin (q : ty σ H (kDn1 td σ Q)) : tDNotIn ty td σ H Q := q
theorem y_dn1 (q : td σ H (kDn2 y Q)) : kDn1 td σ Q y H := q
theorem y_dni {i : Int} (hS : Sep L H) [a : At p L (.dK kvs) R] (q : Q (.bl (!(valV kvs (.inl i)).isSome)) H) : kDn2 (.int i) Q (.ref p) H := ⟨p, _, rfl, DGet.k (k := .inl i) hS.at_, q⟩
theorem y_dns {s : Str} (hS : Sep L H) [a : At p L (.dK kvs) R] (q : Q (.bl (!(valV kvs (.inr s)).isSome)) H) : kDn2 (.str s) Q (.ref p) H := ⟨p, _, rfl, DGet.k (k := .inr s) hS.at_, q⟩
theorem x_dput (q : tv σ H (kDp1 td ty D σ)) : sDPut td ty tv D σ H := q
theorem y_dp1 (q : td σ H (kDp2 ty v D σ)) : kDp1 td ty D σ v H := q
theorem y_dp2 (q : ty σ H (kDp3 v x D σ)) : kDp2 ty v D σ x H := q
theorem y_dpi {i : Int} (hS : Sep L H) [a : At p L (.dK kvs) R] (hl : kvs.length ≤ 1000000) (q : ∀ H', Sep (pt p (.dK (putK kvs (.inl i) v)) :: R) H' → D.nx σ H') : kDp3 v (.ref p) D σ (.int i) H :=
  ⟨p, _, rfl, DPut.k (k := .inl i) hS.at_ (Nat.lt_of_le_of_lt hl (by decide)), q _ (Sep.put (o := .dK kvs) (fun z => z) (a.en H hS))⟩
theorem y_dps {s : Str} (hS : Sep L H) [a : At p L (.dK kvs) R] (hl : kvs.length ≤ 1000000) (q : ∀ H', Sep (pt p (.dK (putK kvs (.inr s) v)) :: R) H' → D.nx σ H') : kDp3 v (.ref p) D σ (.str s) H :=
  ⟨p, _, rfl, DPut.k (k := .inr s) hS.at_ (Nat.lt_of_le_of_lt hl (by decide)), q _ (Sep.put (o := .dK kvs) (fun z => z) (a.en H hS))⟩
/-- in, not in of a list -/
theorem x_in {xs : List V} (h : SqL K H p xs) (hx : flatV x = true) (hf : xs.all flatV = true) (q : Q (.bl (inV x xs)) H) : rIn K false x (.ref p) H Q := ⟨p, xs, rfl, .inl h, hx, hf, q⟩
theorem x_nin {xs : List V} (h : SqL K H p xs) (hx : flatV x = true) (hf : xs.all flatV = true) (q : Q (.bl (!inV x xs)) H) : rIn K true x (.ref p) H Q := ⟨p, xs, rfl, .inl h, hx, hf, q⟩
theorem flat_ints (ns : List Int) : (ns.map V.int).all flatV = true := by
  rw [List.all_map]
  exact List.all_eq_true.mpr fun _ _ => rfl
theorem in_ints (i : Int) (ns : List Int) : inV (.int i) (ns.map V.int) = decide (i ∈ ns) := by
  unfold inV
  rw [List.any_map]
  induction ns with
  | nil => rfl
  | cons n ns ih =>
    rw [List.any_cons, ih]
    show ((n == i) || decide (i ∈ ns)) = decide (i ∈ n :: ns)
    by_cases e : n = i
    · rw [e, beq_self_eq_true, decide_eq_true (List.mem_cons_self) ] <;> rfl
    · have e1 : (n == i) = false := beq_eq_false_iff_ne.mpr e
      rw [e1, Bool.false_or]
      by_cases h : i ∈ ns
      · rw [decide_eq_true h, decide_eq_true (List.mem_cons_of_mem _ h)]
      · rw [decide_eq_false h, decide_eq_false fun z => by
          rcases List.mem_cons.mp z with z | z
          · exact e z.symm
          · exact h z]
theorem x_inI {i : Int} {ns : List Int} (h : SqL K H p (ns.map V.int)) (q : Q (.bl (decide (i ∈ ns))) H) : rIn K false (.int i) (.ref p) H Q := x_in h rfl (flat_ints ns) (by rw [in_ints]; exact q)
theorem x_ninI {i : Int} {ns : List Int} (h : SqL K H p (ns.map V.int)) (q : Q (.bl (!decide (i ∈ ns))) H) : rIn K true (.int i) (.ref p) H Q := x_nin h rfl (flat_ints ns) (by rw [in_ints]; exact q)
/-- insert, remove, index of ints -/
def rIns : V → List V → Hp → VK → Prop := fun x vs H Q => ∃ (l : Addr) (xs : List V) (i : Int) (y : V), x = .ref l ∧ vs = [.int i, y] ∧ H l = some (.lst xs) ∧ xs.length < sizeLine ∧ 0 ≤ i ∧ i < 2 ^ 63 ∧ Q .non (upd H l (.lst (xs.take i.toNat ++ [y] ++ xs.drop i.toNat)))
theorem mt_ins {X : Cx} : MtR X "list.insert" rIns := mt_insert
theorem x_ins {xs : List V} {i : Int} (hS : Sep L H) [a : At p L (.lst xs) R] (hl : xs.length ≤ 1000000) (h0 : 0 ≤ i ∧ i ≤ 1000000) (q : ∀ H', Sep (pt p (.lst (xs.take i.toNat ++ [y] ++ xs.drop i.toNat)) :: R) H' → Q .non H') : rIns (.ref p) [.int i, y] H Q :=
  ⟨p, xs, i, y, rfl, rfl, hS.at_, Nat.lt_of_le_of_lt hl (by decide), by omega, by omega, q _ (Sep.put (o := .lst xs) (fun z => z) (a.en H hS))⟩
theorem insI (ns : List Int) (i : Nat) (y : Int) : (ns.map V.int).take i ++ [V.int y] ++ (ns.map V.int).drop i = (ns.take i ++ [y] ++ ns.drop i).map V.int := by
  rw [List.map_append, List.map_append, List.map_take, List.map_drop] <;> rfl
theorem x_insI {ns : List Int} {i y : Int} (hS : Sep L H) [a : At p L (.lst (ns.map V.int)) R] (hl : ns.length ≤ 1000000) (h0 : 0 ≤ i ∧ i ≤ 1000000) (q : ∀ H', Sep (pt p (.lst ((ns.take i.toNat ++ [y] ++ ns.drop i.toNat).map V.int)) :: R) H' → Q .non H') : rIns (.ref p) [.int i, .int y] H Q :=
  x_ins hS (by rw [List.length_map]; exact hl) h0 (by rw [insI]; exact q)
theorem first_ix {ns : List Int} {i : Int} (h : i ∈ ns) : ns[ns.idxOf i]? = some i ∧ ∀ m, m < ns.idxOf i → ns[m]? ≠ some i := by
  refine ⟨?_, fun m hm e => ?_⟩
  · rw [List.getElem?_eq_getElem (List.idxOf_lt_length_of_mem h), List.getElem_idxOf]
  · have h1 := (List.getElem?_eq_some_iff.mp e)
    obtain ⟨hlt, e2⟩ := h1
    have h3 := List.not_of_lt_findIdx (p := (· == i)) (xs := ns) (i := m) hm
    rw [e2] at h3
    simp at h3
theorem x_remI {ns : List Int} {i : Int} (hS : Sep L H) [a : At p L (.lst (ns.map V.int)) R] (hi : i ∈ ns) (q : ∀ H', Sep (pt p (.lst ((ns.eraseIdx (ns.idxOf i)).map V.int)) :: R) H' → Q .non H') : rRemI (.ref p) [.int i] H Q :=
  ⟨p, ns, i, ns.idxOf i, rfl, rfl, hS.at_, (first_ix hi).1, (first_ix hi).2, q _ (Sep.put (o := .lst (ns.map V.int)) (fun z => z) (a.en H hS))⟩
theorem x_ixI {ns : List Int} {i : Int} (h : SqL K H p (ns.map V.int)) (hi : i ∈ ns) (q : Q (.int (ns.idxOf i : Nat)) H) : rIndex K (.ref p) [.int i] H Q := by
  refine ⟨p, _, .int i, ns.idxOf i, .int i, rfl, rfl, h, rfl, flat_ints ns, ?_, (by show (i == i) = true; simp), fun m z' hm e => ?_, q⟩
  · rw [List.getElem?_map, (first_ix hi).1] <;> rfl
  · rw [List.getElem?_map] at e
    cases e3 : ns[m]? with
    | none =>
      rw [e3] at e
      cases e
    | some z =>
      rw [e3] at e
      cases e
      show (z == i) = false
      refine beq_eq_false_iff_ne.mpr fun z2 => (first_ix hi).2 m hm ?_
      rw [e3, z2]
end
/-! ### isinstance of a held error; list.count, list.index; sorted; comprehensions -/
section
variable {K : PySem.W.Frag} {σ : L2.St} {H : Hp} {v x y : V} {Q : VK} {p q : Addr} {L R R' : List As} {te : TE} {t : TS}
theorem x_isX {D C : Addr} {b : Bool} (hS : Sep L H) [a : At p L (ExA (.ref D) p) R] (hc : ExcC K D) (hk : PySem.W.kitOne K (.ref D) (.ref C) = some b) (q : Q (.bl b) H) : rIsX K [.ref p, .ref C] H Q :=
  ⟨p, D, .ref C, .ref C, b, rfl, hS.at_, hc, fun u r => r, hk, q⟩
theorem x_isXT {D : Addr} {C : String} {b : Bool} (hS : Sep L H) [a : At p L (ExA (.ref D) p) R] (hc : ExcC K D) (hk : PySem.W.kitOne K (.ref D) (.type C) = some b) (q : Q (.bl b) H) : rIsX K [.ref p, .ty C] H Q :=
  ⟨p, D, .ty C, .type C, b, rfl, hS.at_, hc, fun u r => r, hk, q⟩
theorem x_cntB {bs : List Bool} {k : Bool} (h : SqL K H p (bs.map V.bl)) (q : Q (.int (bs.count k : Nat)) H) : rCntB K (.ref p) [.bl k] H Q := ⟨p, bs, k, rfl, rfl, h, q⟩
theorem x_index {ys : List V} {j : Nat} {z : V} (h : SqL K H p ys) (hy : flatV y = true) (hf : ys.all flatV = true) (hj : ys[j]? = some z) (he : eqV z y = true) (hn : ∀ (m : Nat) (z' : V), m < j → ys[m]? = some z' → eqV z' y = false) (q : Q (.int (j : Nat)) H) : rIndex K (.ref p) [y] H Q :=
  ⟨p, ys, y, j, z, rfl, rfl, h, hy, hf, hj, he, hn, q⟩
theorem x_sorted {ns : List Int} (hS : Sep L H) (h : SqL K H p (ns.map V.int)) (hl : ns.length < 64) (q : ∀ (ns' : List Int) (l : Addr) (H' : Hp), ns'.Perm ns → ns'.Pairwise (· ≤ ·) → Sep (pt l (.lst (ns'.map V.int)) :: L) H' → Q (.ref l) H') : rSorted K [.ref p] H Q :=
  ⟨p, ns, rfl, h, hl, fun ns' l hp hs hl => q ns' l _ hp hs (Sep.new hl hS)⟩
/-- [e for x in a tuple]: P what holds behind i turns, the new list in it -/
def kLcT (K : PySem.W.Frag) (g : TG) (tt : TT) (te : TE) (vs : List Nat) (σ : L2.St) (Q : VK) : VK := fun x H => ∃ a, x = .ref a ∧ (∃ xs, SqT K H a xs) ∧ ∀ D, H D = none → ∃ W : Nat → Nat → Hp → Prop, (∃ m, W 0 m (upd H D (.lst []))) ∧ ∀ i m H, W i m H →
  ((Itt K a).stop i H ∧ Q (.ref D) H) ∨ ((Itt K a).go i H ∧ ∃ Nx : Hp → Prop, (∀ H', Nx H' → ∃ m', m' < m ∧ W (i + 1) m' H') ∧ ∀ x H', (Itt K a).yld i H x H' → g x (wipe σ vs) H' fun σ2 H2 => wipe σ2 vs = wipe σ vs ∧ tt σ2 H2 fun b H3 =>
    if b = true then te σ2 H3 fun y H4 => ∃ acc, H4 D = some (.lst acc) ∧ acc.length < sizeLine ∧ Nx (upd H4 D (.lst (acc ++ [y]))) else Nx H3)
def kLcL (K : PySem.W.Frag) (g : TG) (tt : TT) (te : TE) (vs : List Nat) (σ : L2.St) (Q : VK) : VK := fun x H => ∃ a, x = .ref a ∧ (∃ xs, SqL K H a xs) ∧ ∀ D, H D = none → ∃ W : Nat → Nat → Hp → Prop, (∃ m, W 0 m (upd H D (.lst []))) ∧ ∀ i m H, W i m H →
  ((Itl K a).stop i H ∧ Q (.ref D) H) ∨ ((Itl K a).go i H ∧ ∃ Nx : Hp → Prop, (∀ H', Nx H' → ∃ m', m' < m ∧ W (i + 1) m' H') ∧ ∀ x H', (Itl K a).yld i H x H' → g x (wipe σ vs) H' fun σ2 H2 => wipe σ2 vs = wipe σ vs ∧ tt σ2 H2 fun b H3 =>
    if b = true then te σ2 H3 fun y H4 => ∃ acc, H4 D = some (.lst acc) ∧ acc.length < sizeLine ∧ Nx (upd H4 D (.lst (acc ++ [y]))) else Nx H3)
theorem x_lcT {tl : TE} {g : TG} {tt : TT} {vs : List Nat} (q : tl σ H (kLcT K g tt te vs σ Q)) : tLc (iTup K tl) g tt te vs σ H Q := q
theorem x_lcL {tl : TE} {g : TG} {tt : TT} {vs : List Nat} (q : tl σ H (kLcL K g tt te vs σ Q)) : tLc (iList K tl) g tt te vs σ H Q := q
/-- the element's value y goes behind the list so far -/
def kEl (D : Addr) (N : Hp → Prop) : VK := fun y H => ∃ acc, H D = some (.lst acc) ∧ acc.length < sizeLine ∧ N (upd H D (.lst (acc ++ [y])))
def kTt (te : TE) (σ : L2.St) (D : Addr) (N : Hp → Prop) : Bool → Hp → Prop := fun b H => if b = true then te σ H (kEl D N) else N H
def kLcb (tt : TT) (te : TE) (D : Addr) (σ : L2.St) (vs : List Nat) (N : Hp → Prop) : L2.St → Hp → Prop := fun σ2 H => wipe σ2 vs = wipe σ vs ∧ tt σ2 H (kTt te σ2 D N)
theorem y_el {D : Addr} {acc : List V} {N : Hp → Prop} (hS : Sep L H) [a : At D L (.lst acc) R] (hl : acc.length ≤ 1000000) (q : ∀ H', Sep (pt D (.lst (acc ++ [y])) :: R) H' → N H') : kEl D N y H :=
  ⟨acc, hS.at_, Nat.lt_of_le_of_lt hl (by decide), q _ (Sep.put (o := .lst acc) (fun z => z) (a.en H hS))⟩
theorem y_tt {D : Addr} {N : Hp → Prop} {b : Bool} (q : if b = true then te σ H (kEl D N) else N H) : kTt te σ D N b H := q
theorem y_lcb {tt : TT} {D : Addr} {σ2 : L2.St} {vs : List Nat} {N : Hp → Prop} (hw : wipe σ2 vs = wipe σ vs) (q : tt σ2 H (kTt te σ2 D N)) : kLcb tt te D σ vs N σ2 H := ⟨hw, q⟩
theorem x_yes' {QT : Bool → Hp → Prop} (q : QT true H) : tYes σ H QT := q
theorem y_lcT {g : TG} {tt : TT} {vs : List Nat} {xs : List V} (hx : SqT K H p xs) (hS : Sep L H) (P : Addr → Nat → Hp → Prop) (h0 : ∀ D H', Sep (pt D (.lst []) :: L) H' → P D 0 H') (hl : ∀ D i H, i ≤ xs.length → P D i H → SqT K H p xs)
    (hs : ∀ D i x H, xs[i]? = some x → P D i H → g x (wipe σ vs) H (kLcb tt te D σ vs (P D (i + 1)))) (hd : ∀ D H, P D xs.length H → Q (.ref D) H) : kLcT K g tt te vs σ Q (.ref p) H :=
  ⟨p, rfl, ⟨xs, hx⟩, fun D hD => lc_tup (P D) (h0 D _ (Sep.new hD hS)) (hl D) (hs D) (hd D)⟩
theorem y_lcL {g : TG} {tt : TT} {vs : List Nat} {xs : List V} (hx : SqL K H p xs) (hS : Sep L H) (P : Addr → Nat → Hp → Prop) (h0 : ∀ D H', Sep (pt D (.lst []) :: L) H' → P D 0 H') (hl : ∀ D i H, i ≤ xs.length → P D i H → SqL K H p xs)
    (hs : ∀ D i x H, xs[i]? = some x → P D i H → g x (wipe σ vs) H (kLcb tt te D σ vs (P D (i + 1)))) (hd : ∀ D H, P D xs.length H → Q (.ref D) H) : kLcL K g tt te vs σ Q (.ref p) H :=
  ⟨p, rfl, ⟨xs, hx⟩, fun D hD => lc_list (P D) (h0 D _ (Sep.new hD hS)) (hl D) (hs D) (hd D)⟩
theorem x_try {X : Cx} {c : Value} {i : Nat} {ts : Addr → List (Addr × Obj) → TS} {Wout : WX} {tb : ∀ (W : WX) (pn : List (Addr × Obj)) (xe : Value → Shared → Prop), Takes (X.tr pn xe) W → PassesOwn (model X.prog X.w) X.A X.env xe → TS} {D : Ends}
    (q : ∀ pn xe (tk : Takes (X.tr pn xe) (wHold X.K c i ts Wout D)) (po : PassesOwn (model X.prog X.w) X.A X.env xe), tb (wHold X.K c i ts Wout D) pn xe tk po D σ H) : tTry X c i ts Wout tb D σ H := q
/-- the error is caught, and held by a name -/
theorem y_hold {c cls : Value} {i j : Nat} {D : Ends} {Wout : WX} (hx : PySem.W.exmOne K cls c = some true) (hi : ∀ a, (σ.set i (some (.ref a)))[i]? = some (some (.ref a))) (hS : Sep L H)
    (q : ∀ a H', Sep (pt a (ExA cls a) :: L) H' → D.nx (((σ.set i (some (.ref a))).set j (some (.ref a))).set i none) H') : WE (wHold K c i (fun a pn => tAsg (tVar i) (gName j)) Wout D) σ cls none H :=
  ⟨true, hx, fun _ => ⟨rfl, fun a pn na => ⟨.ref a, hi a, na, q a _ (Sep.new na hS)⟩⟩, fun z => Bool.noConfusion z⟩
end

/-! ### more of data -/
section
variable {K : PySem.W.Frag} {H : Hp} {a : Addr}
theorem shaped_ints (ns : List Int) : SeqAt.shaped (.list (ns.map PyData.int)) = true := by
  have h := depth_ints ns
  have e : PyData.depth (.list (ns.map PyData.int)) ≤ 64 := by
    show PyData.depthAll (ns.map PyData.int) + 1 ≤ 64
    omega
  show (PyData.canLayAll0 (ns.map PyData.int) && decide (PyData.depth (.list (ns.map PyData.int)) ≤ 64)) = true
  rw [can_ints, decide_eq_true e] <;> rfl
theorem eqv_of {d : PyData} (h : SeqAt.shaped d = true) : PyData.eqv d d = true := SeqAt.eqv_refl d (SeqAt.canLay_of_shaped h)
theorem pick_int {P : Int → Prop} {is : List Int} (h : ∀ z ∈ is, P z) {i : Nat} (hi : i < is.length) : ∃ z, P z ∧ z ∈ is ∧ (is.map V.int).getD i .non = .int z := by
  refine ⟨is[i], h _ (List.getElem_mem hi), List.getElem_mem hi, ?_⟩
  rw [List.getD_eq_getElem?_getD, List.getElem?_map, List.getElem?_eq_getElem hi] <;> rfl
/-- an arrangement of ints is a list of ints -/
def unint : V → Int
  | .int i => i
  | _ => 0
theorem perm_ints {xs : List V} {is : List Int} (h : xs.Perm (is.map V.int)) : ∃ js : List Int, xs = js.map V.int ∧ js.Perm is := by
  refine ⟨xs.map unint, ?_, ?_⟩
  · rw [List.map_map]
    have e : ∀ v ∈ xs, (V.int ∘ unint) v = v := fun v hv => by
      obtain ⟨i, _, rfl⟩ := List.mem_map.mp (h.mem_iff.mp hv)
      rfl
    exact (List.map_id' xs).symm.trans (List.map_congr_left fun v hv => (e v hv).symm)
  · have h2 := h.map unint
    rw [List.map_map] at h2
    have e : (unint ∘ V.int) = id := rfl
    rw [e, List.map_id] at h2
    exact h2
end
end TR

set_option Elab.async false
set_option linter.all false
set_option maxRecDepth 100000
set_option maxHeartbeats 4000000
/-! The end: from a def's promise to the row. -/
namespace TR
open PySem PySem.Spec PyProof.Rows L2
def CXall : CXT := fun outer H s E u s' => ∃ P w, L2.CX P w outer H s E u s'
theorem fn_all {P : Program} {w : World} {K : PySem.W.Frag} {mg : Str → Option Value} {base : Heap} {k : Nat} {f : Addr} {fd : FuncData} {ps : List Str} {sp : Sp} (F : FnOk P w K mg base (L2.CX P w) k f fd ps sp) : FnOk P w K mg base CXall k f fd ps sp :=
  ⟨F.len, fun A outer s H args us vs Q E hr e0 hb r hsp => codeAny_mono (F.run A outer s H args us vs Q E hr e0 hb r hsp) fun r s' hq => by
    cases r with
    | ok fl =>
      cases fl with
      | ret u => exact hq
      | next => exact False.elim hq
      | brk => exact False.elim hq
      | cont => exact False.elim hq
    | error e => exact ⟨P, w, hq⟩⟩
theorem cxall_no : ∀ (H : Hp) (s : Shared) (e : Value) (s' : Shared), CXall [] H s (fun _ _ _ => False) e s' → False := fun _ _ _ _ ⟨_, _, _, _, _, _, _, _, _, _, _, _, _, _, h⟩ => h
end TR

set_option Elab.async false
set_option linter.all false
set_option maxRecDepth 100000
set_option maxHeartbeats 4000000
/-! More steps: dicts with named things in them, dict displays, optional numbers, filters. -/
namespace TR
open PySem PySem.Spec PyProof.Rows L2
/-- what stands at a name in a dict -/
class DGs (kvs : List (Key × V)) (k : Str) (v : outParam V) : Prop where
  h : valV kvs (.inr k) = some v
class DPs (kvs : List (Key × V)) (k : Str) (v : V) (kvs' : outParam (List (Key × V))) : Prop where
  h : putK kvs (.inr k) v = kvs'
  hl : kvs.length ≤ 1000000
abbrev oV : Option Int → V
  | none => .non
  | some i => .int i
def hasO (e : Option Int) (ns : List Int) : Bool := match e with
  | none => false
  | some i => decide (i ∈ ns)
def kPa (tv : TE) (trs : List (TE × TE)) (σ : L2.St) (Q : List (V × V) → Hp → Prop) : VK := fun x H => tv σ H fun y H2 => tPairs trs σ H2 fun ps H3 => Q ((x, y) :: ps) H3
def kPb (x : V) (trs : List (TE × TE)) (σ : L2.St) (Q : List (V × V) → Hp → Prop) : VK := fun y H2 => tPairs trs σ H2 fun ps H3 => Q ((x, y) :: ps) H3
def kPc (x y : V) (Q : List (V × V) → Hp → Prop) : List (V × V) → Hp → Prop := fun ps H3 => Q ((x, y) :: ps) H3
def kDsp (p : Addr) (Q : VK) : List (V × V) → Hp → Prop := fun ps H2 => H2 p = some (.dK []) ∧ ∃ kvs : List (Key × V), ps = kvs.map (fun kv => (kV kv.1, kv.2)) ∧ kvs.length ≤ 15 ∧ Q (.ref p) (upd H2 p (.dK (mergeK [] kvs)))
section
variable {K : PySem.W.Frag} {σ : L2.St} {H : Hp} {v x y : V} {Q : VK} {p q : Addr} {L R R' : List As} {te td ty tv tk : TE} {t : TS} {D : Ends} {kvs kvs' : List (Key × V)} {k : Str}
theorem y_dgo {s : Str} (hS : Sep L H) [a : At p L (.dK kvs) R] [d : DGs kvs s v] (q : Q v H) : kDg2 (.ref p) Q (.str s) H := y_dgs hS d.h q
theorem y_dpo {s : Str} (hS : Sep L H) [a : At p L (.dK kvs) R] [d : DPs kvs s v kvs'] (q : ∀ H', Sep (pt p (.dK kvs') :: R) H' → D.nx σ H') : kDp3 v (.ref p) D σ (.str s) H := y_dps hS d.hl fun H' h => q H' (d.h ▸ h)
theorem x_disp {trs : List (TE × TE)} (hS : Sep L H) (q : ∀ p H', Sep (pt p (.dK []) :: L) H' → tPairs trs σ H' (kDsp p Q)) : tDisp trs σ H Q := fun p hp => q p _ (Sep.new hp hS)
theorem x_prs {trs : List (TE × TE)} {Q : List (V × V) → Hp → Prop} (q : tk σ H (kPa tv trs σ Q)) : tPairs ((tk, tv) :: trs) σ H Q := q
theorem y_pa {trs : List (TE × TE)} {Q : List (V × V) → Hp → Prop} (q : tv σ H (kPb x trs σ Q)) : kPa tv trs σ Q x H := q
theorem y_pb {trs : List (TE × TE)} {Q : List (V × V) → Hp → Prop} (q : tPairs trs σ H (kPc x y Q)) : kPb x trs σ Q y H := q
theorem y_pc {ps : List (V × V)} {Q : List (V × V) → Hp → Prop} (q : Q ((x, y) :: ps) H) : kPc x y Q ps H := q
theorem x_prn {Q : List (V × V) → Hp → Prop} (q : Q [] H) : tPairs [] σ H Q := q
theorem y_dsp {ps : List (V × V)} (hS : Sep L H) [a : At p L (.dK []) R] (kvs : List (Key × V)) (e : ps = kvs.map (fun kv => (kV kv.1, kv.2))) (hl : kvs.length ≤ 15) (hm : mergeK [] kvs = kvs') (q : ∀ H', Sep (pt p (.dK kvs') :: R) H' → Q (.ref p) H') : kDsp p Q ps H :=
  ⟨hS.at_, kvs, e, hl, hm ▸ q _ (hm ▸ Sep.put (o := .dK []) (fun z => z) (a.en H hS))⟩
theorem in_oV (e : Option Int) (ns : List Int) : inV (oV e) (ns.map V.int) = hasO e ns := by
  cases e with
  | some i => exact in_ints i ns
  | none =>
    unfold inV
    rw [List.any_map]
    exact List.any_eq_false.mpr fun n _ => (by intro z; cases z)
theorem flat_oV (e : Option Int) : flatV (oV e) = true := by cases e <;> rfl
theorem x_inO {e : Option Int} {ns : List Int} (h : SqL K H p (ns.map V.int)) (q : Q (.bl (hasO e ns)) H) : rIn K false (oV e) (.ref p) H Q := x_in h (flat_oV e) (flat_ints ns) (by rw [in_oV]; exact q)
theorem x_ninO {e : Option Int} {ns : List Int} (h : SqL K H p (ns.map V.int)) (q : Q (.bl (!hasO e ns)) H) : rIn K true (oV e) (.ref p) H Q := x_nin h (flat_oV e) (flat_ints ns) (by rw [in_oV]; exact q)
theorem oV_inj {a b : Option Int} : oV a = oV b ↔ a = b := by
  constructor
  · intro h
    cases a <;> cases b
    · rfl
    · cases h
    · cases h
    · cases h; rfl
  · rintro rfl; rfl
theorem scal_o (a b : Option Int) : scal (oV a) (oV b) = true := by cases a <;> cases b <;> rfl
theorem x_eqO {a b : Option Int} (q : Q (.bl (decide (a = b))) H) : rEqA K (oV a) (oV b) H Q := x_eqS (scal_o a b) (by rw [show decide (oV a = oV b) = decide (a = b) from decide_eq_decide.mpr oV_inj]; exact q)
theorem x_neO {a b : Option Int} (q : Q (.bl (!decide (a = b))) H) : rNeA K (oV a) (oV b) H Q := x_neS (scal_o a b) (by rw [show decide (oV a = oV b) = decide (a = b) from decide_eq_decide.mpr oV_inj]; exact q)
theorem x_eqI1 {i : Int} {b : Option Int} (q : Q (.bl (decide (some i = b))) H) : rEqA K (.int i) (oV b) H Q := x_eqO (a := some i) q
theorem x_neI1 {i : Int} {b : Option Int} (q : Q (.bl (!decide (some i = b))) H) : rNeA K (.int i) (oV b) H Q := x_neO (a := some i) q
theorem x_neJ {i : Int} {b : Option Int} (q : Q (.bl (!decide (some i = b))) H) : rNe (.int i) (oV b) H Q := ⟨scal_o (some i) b, by rw [show decide (V.int i = oV b) = decide (some i = b) from decide_eq_decide.mpr (oV_inj (a := some i))]; exact q⟩
theorem x_isO {e : Option Int} (q : Q (.bl (decide (e = none))) H) : rIsN (oV e) .non H Q := x_isN (by rw [show decide (oV e = V.non) = decide (e = none) from decide_eq_decide.mpr (oV_inj (b := none))]; exact q)
/-- a list against an empty one -/
theorem eqv_nil (ns : List Int) : PyData.eqv (.list (ns.map PyData.int)) (.list ([].map PyData.int)) = ns.isEmpty := by cases ns <;> rfl
theorem x_eqLn {ns : List Int} (h : SqL K H p (ns.map V.int)) (h2 : SqL K H q []) (k : Q (.bl ns.isEmpty) H) : rEqA K (.ref p) (.ref q) H Q :=
  x_eqD (dp_ints (ns := ns) h) (dp_ints (ns := []) h2) (shaped_ints ns) (shaped_ints []) (by rw [eqv_nil]; exact k)
theorem x_neLn {ns : List Int} (h : SqL K H p (ns.map V.int)) (h2 : SqL K H q []) (k : Q (.bl (!ns.isEmpty)) H) : rNeA K (.ref p) (.ref q) H Q :=
  x_neD (dp_ints (ns := ns) h) (dp_ints (ns := []) h2) (shaped_ints ns) (shaped_ints []) (by rw [eqv_nil]; exact k)
theorem x_pop0 {n : Int} {r : List Int} (hS : Sep L H) [a : At p L (.lst ((n :: r).map V.int)) R] (q : ∀ H', Sep (pt p (.lst (r.map V.int)) :: R) H' → Q (.int n) H') : rPopAt (.ref p) [.int 0] H Q :=
  ⟨p, (n :: r).map V.int, 0, 0, .int n, rfl, rfl, hS.at_, by decide, by decide, by
    rw [List.length_map, List.length_cons]
    simp [seqIndex?], rfl, q _ (Sep.put (o := .lst ((n :: r).map V.int)) (fun z => z) (a.en H hS))⟩
/-- [x for x in a list of numbers if ..] -/
theorem y_lcF {g : TG} {tt : TT} {vs : List Nat} {ns : List Int} (f : Int → Bool) (hS : Sep L H) [a : At p L (.lst (ns.map V.int)) R] (hn : ns.length ≤ 100000)
    (hs : ∀ D (acc : List Int) x H, acc.length ≤ 100000 → Sep (pt D (.lst (acc.map V.int)) :: L) H → g (.int x) (wipe σ vs) H (kLcb tt te D σ vs (fun H' => Sep (pt D (.lst ((if f x then acc ++ [x] else acc).map V.int)) :: L) H')))
    (hd : ∀ D H, Sep (pt D (.lst ((ns.filter f).map V.int)) :: L) H → Q (.ref D) H) : kLcL K g tt te vs σ Q (.ref p) H := by
  refine y_lcL (xs := ns.map V.int) (sqL hS) hS (fun D i H => Sep (pt D (.lst (((ns.take i).filter f).map V.int)) :: L) H) (fun D H h => h) (fun D i H _ h => sqL h) ?_ ?_
  · intro D i x H hx hS
    rw [List.getElem?_map] at hx
    obtain ⟨n, hn', rfl⟩ := Option.map_eq_some_iff.mp hx
    have hl := (List.getElem?_eq_some_iff.mp hn').1
    have e : (ns.take (i + 1)).filter f = if f n then (ns.take i).filter f ++ [n] else (ns.take i).filter f := by
      rw [List.take_add_one, hn', List.filter_append]
      cases hf : f n
      · simp [hf]
      · simp [hf]
    rw [e]
    refine hs D _ n H ?_ hS
    exact Nat.le_trans (List.length_filter_le _ _) (Nat.le_trans (List.length_take_le' _ _) hn)
  · intro D H h
    rw [List.length_map, List.take_length] at h
    exact hd D H h
end
/-- [e for k in range(n)] -/
def kLcR (g : TG) (tt : TT) (te : TE) (vs : List Nat) (σ : L2.St) (Q : VK) : List V → Hp → Prop := fun xs H1 => ∃ j : Int, xs = [.int j] ∧ -(2 ^ 62) ≤ j ∧ j < 2 ^ 62 ∧ ∀ D, H1 D = none → ∃ W : Nat → Nat → Hp → Prop, (∃ m, W 0 m (upd H1 D (.lst []))) ∧ ∀ i m H, W i m H →
  ((Itr 0 j.toNat).stop i H ∧ Q (.ref D) H) ∨ ((Itr 0 j.toNat).go i H ∧ ∃ Nx : Hp → Prop, (∀ H', Nx H' → ∃ m', m' < m ∧ W (i + 1) m' H') ∧ ∀ x H', (Itr 0 j.toNat).yld i H x H' → g x (wipe σ vs) H' fun σ2 H2 => wipe σ2 vs = wipe σ vs ∧ tt σ2 H2 fun b H3 =>
    if b = true then te σ2 H3 fun y H4 => ∃ acc, H4 D = some (.lst acc) ∧ acc.length < sizeLine ∧ Nx (upd H4 D (.lst (acc ++ [y]))) else Nx H3)
theorem x_lcR {ta : TA} {g : TG} {tt : TT} {te : TE} {vs : List Nat} {σ : L2.St} {H : Hp} {Q : VK} (q : ta σ H (kLcR g tt te vs σ Q)) : tLc (iRng1 ta) g tt te vs σ H Q := q
theorem y_lcR {g : TG} {tt : TT} {te : TE} {vs : List Nat} {σ : L2.St} {H : Hp} {Q : VK} {L : List As} {n : Nat} (hn : n ≤ 1000000) (hS : Sep L H) (P : Addr → Nat → Hp → Prop) (h0 : ∀ D H', Sep (pt D (.lst []) :: L) H' → P D 0 H')
    (hs : ∀ D i H, i < n → P D i H → g (.int (i : Nat)) (wipe σ vs) H (kLcb tt te D σ vs (P D (i + 1)))) (hd : ∀ D H, P D n H → Q (.ref D) H) : kLcR g tt te vs σ Q [.int (n : Nat)] H :=
  ⟨n, rfl, by omega, by omega, by
    rw [Int.toNat_natCast]
    exact fun D hD => lc_range (lo := 0) (P D) (h0 D _ (Sep.new hD hS)) (fun i H hi p => by rw [Int.zero_add]; exact hs D i H hi p) (hd D)⟩
end TR

set_option Elab.async false
set_option linter.all false
set_option maxRecDepth 100000
set_option maxHeartbeats 4000000
/-! Ways joined: what stands behind an if is walked once. -/
namespace TR
open PySem PySem.Spec PyProof.Rows L2
def tStop (t u : TS) : TS := tSeq t u
def tStopE (t : TE) : TE := t
def tStopT (t : TT) : TT := t
section
variable {σ : L2.St} {H : Hp} {t u v : TS} {D : Ends} {c c2 : TT} {ta tb : TE} {Q : VK} {QT : Bool → Hp → Prop}
theorem x_stop (q : tStop (tIfS c t u) v D σ H) : tSeq (tIfS c t u) v D σ H := q
theorem y_go (q : t { D with nx := u D } σ H) : tStop t u D σ H := q
/-- behind it P holds -/
theorem y_cut (P : L2.St → Hp → Prop) (h : ∀ N, (∀ σ H, P σ H → N σ H) → t { D with nx := N } σ H) (k : ∀ σ H, P σ H → u D σ H) : tStop t u D σ H := h (u D) k
/-- behind the first statement P holds -/
theorem x_seqc (P : L2.St → Hp → Prop) (h : ∀ N, (∀ σ H, P σ H → N σ H) → t { D with nx := N } σ H) (k : ∀ σ H, P σ H → u D σ H) : tSeq t u D σ H := h (u D) k
theorem x_nxc (P : L2.St → Hp → Prop) (h : ∀ N, (∀ σ H, P σ H → N σ H) → t { D with nx := N } σ H) (k : ∀ σ H, P σ H → D.nx σ H) : t D σ H := h D.nx k
theorem x_stopE (q : tStopE (tIf c ta tb) σ H Q) : tIf c ta tb σ H Q := q
theorem y_goE {te : TE} (q : te σ H Q) : tStopE te σ H Q := q
theorem y_cutE {te : TE} (P : V → Hp → Prop) (h : ∀ N : VK, (∀ v H, P v H → N v H) → te σ H N) (k : ∀ v H, P v H → Q v H) : tStopE te σ H Q := h Q k
theorem x_stopA (q : tStopT (tAnd c c2) σ H QT) : tAnd c c2 σ H QT := q
theorem x_stopO (q : tStopT (tOr c c2) σ H QT) : tOr c c2 σ H QT := q
theorem y_goT {te : TT} (q : te σ H QT) : tStopT te σ H QT := q
theorem y_cutT {te : TT} (P : Bool → Hp → Prop) (h : ∀ N : Bool → Hp → Prop, (∀ v H, P v H → N v H) → te σ H N) (k : ∀ v H, P v H → QT v H) : tStopT te σ H QT := h QT k
end
end TR

set_option Elab.async false
set_option linter.all false
set_option maxRecDepth 100000
set_option maxHeartbeats 4000000
/-! Rules of one's own: d.copy(), d.update(e), d.keys() as a value, sorted of it. -/
namespace TR
open PySem PySem.Spec PyProof.Rows L2
section
variable {X : Cx} {pn : List (Addr × Obj)} {σ : L2.St} {H : Hp} {s : Shared}
/-- a new object behind the last one is no module's dict -/
theorem big_ne (I : Inv X pn σ H s) : (s.heap.objs.size == sysModules) = false := by
  rw [beq_eq_false_iff_ne]
  exact Nat.ne_of_gt I.big
/-- d.copy() -/
def rDcopy : V → List V → Hp → VK → Prop := fun x vs H Q => ∃ (d : Addr) (m : List (Key × V)), x = .ref d ∧ vs = [] ∧ H d = some (.dK m) ∧ ∀ c, H c = none → Q (.ref c) (upd H c (.dK m))
theorem mt_dcopy : MtR X "dict.copy" rDcopy := fun pn s σ H x vs v us Q I rx rv ⟨d, m, e1, e2, hd, q⟩ => by
  subst e1 e2
  cases rx
  cases rv
  have k := dk_of I.hok hd
  obtain ⟨z, lo, ws, rel, dd⟩ := k
  have hz : ws.length ≤ sizeLine := rel.length ▸ z
  have T := PySem.F.args_dict_copy_1 (Value.ref d)
  refine call_meetsIn PySem.F.slot_dict_copy dd.typeIs PySem.F.entry_dict_copy T (meets_dict_copy _ d lo) ⟨ws, dd, hz, fun g d1 _ old => ⟨.ref _, upd H s.heap.objs.size (.dK m), ?_, rfl, q _ (I.hok.fresh (Nat.le_refl _))⟩⟩
  exact I.laid (t' := s.toks) old (Nat.le_refl _) (dk_new z (big_ne I) rel d1)
/-- d.update(e) -/
def rDupd : V → List V → Hp → VK → Prop := fun x vs H Q => ∃ (d e : Addr) (m more : List (Key × V)), x = .ref d ∧ vs = [.ref e] ∧ d ≠ e ∧ H d = some (.dK m) ∧ H e = some (.dK more) ∧ m.length + more.length ≤ 1000000 ∧ Q .non (upd H d (.dK (mergeK m more)))
theorem mt_dupd : MtR X "dict.update" rDupd := fun pn s σ H x vs v us Q I rx rv ⟨d, e, m, more, e1, e2, ne, hd, he, hl, q⟩ => by
  subst e1 e2
  cases rx
  obtain ⟨u, rfl, ru⟩ := rv.one
  cases ru
  obtain ⟨z1, lo1, w1, r1, o1⟩ := dk_of I.hok hd
  obtain ⟨z2, lo2, w2, r2, o2⟩ := dk_of I.hok he
  have big : m.length + more.length ≤ sizeLine := Nat.le_trans hl (by decide)
  have T := PySem.F.args_dict_update_2 (Value.ref d) (Value.ref e)
  refine call_meetsIn PySem.F.slot_dict_update o1.typeIs PySem.F.entry_dict_update T (meets_dict_update _ d e ne lo2) ⟨w1, w2, o1, o2, by rw [← r1.length, ← r2.length]; exact big, fun g d1 _ sb => ?_⟩
  have there : ∃ q, g.get? d = some q := by
    obtain ⟨q, _, _, hq, _⟩ := d1
    exact ⟨q, hq⟩
  have fit : (mergeK m more).length ≤ sizeLine := Nat.le_trans (length_mergeK more m) big
  refine ⟨.non, _, d_write I ?_ sb there (dk_new fit lo1 (r2.merge r1) d1), rfl, q⟩
  rw [hd]
  exact True.intro
/-- d.keys() as a value -/
def kvO (d : Addr) : Obj := { cls := .type "dict_keys", data := .fields #[.ref d] }
def keysO (p d : Addr) : HO := .ext fun h => h.get? p = some (kvO d)
def rKeys : V → List V → Hp → VK → Prop := fun x xs H Q => ∃ (d : Addr) (m : List (Key × V)), x = .ref d ∧ xs = [] ∧ H d = some (.dK m) ∧ ∀ p, H p = none → Q (.ref p) (upd H p (keysO p d))
theorem mt_keys : MtR X "dict.keys" rKeys := fun pn s σ H x vs v us Q I rx rv ⟨d, m, e1, e2, hd, q⟩ => by
  subst e1 e2
  cases rx
  cases rv
  obtain ⟨_, lo, ws, _, dd⟩ := dk_of I.hok hd
  have T := PySem.F.args_dict_keys_1 (Value.ref d)
  have at_ : (s.heap.push (kvO d)).get? s.heap.objs.size = some (kvO d) := Heap.get?_push_size _ rfl
  refine call_meetsIn PySem.F.slot_dict_keys dd.typeIs PySem.F.entry_dict_keys T (PySem.W.kdl_meets_keys _ d lo) ⟨⟨ws, dd⟩, .ref _, upd H s.heap.objs.size (keysO s.heap.objs.size d), ?_, rfl, q _ (I.hok.fresh (Nat.le_refl _))⟩
  exact I.laid (t' := s.toks) (fun b u e => Heap.get?_push_of_some _ e) (Nat.le_refl _) ⟨at_, ⟨_, at_⟩, fun _ _ y k => k _ y⟩
/-! ### within a built-in's body -/
abbrev inX (X : Cx) (E : Value → Shared → Prop) : Cx := { X with A := X.A.in1, xe := E }
theorem ok_in {X : Cx} {E : Value → Shared → Prop} (k : X.Ok) : (inX X E).Ok := { mod := k.mod, kind := k.kind, glob := k.glob, blt := k.blt, above := k.above, inj := k.inj, has := k.has, cab := k.cab, hd := k.hd, frames := k.frames, stk := k.stk, exf := k.exf, bs := k.bs, bsz := k.bsz, noex := k.noex, exfs := k.exfs, funs := k.funs, frf := k.frf }
theorem inv_in {E : Value → Shared → Prop} (I : Inv X pn σ H s) : Inv (inX X E) pn σ H s := { ok := ok_in I.ok, os := I.os, bare := I.bare, base := I.base, loc := I.loc, cell := I.cell, free := I.free, freeC := I.freeC, pin := I.pin, hok := I.hok, len := I.len }
theorem ok_out {X Y : Cx} (k : X.Ok) (a : Y.Ok) : X.Ok := k
theorem inv_out {E : Value → Shared → Prop} (o : X.Ok) (I : Inv (inX X E) pn σ H s) : Inv X pn σ H s := { ok := o, os := I.os, bare := I.bare, base := I.base, loc := I.loc, cell := I.cell, free := I.free, freeC := I.freeC, pin := I.pin, hok := I.hok, len := I.len }
/-- what a view's walk found are the keys -/
theorem keys_found {m : List (Key × V)} {ws : List (Key × Value)} (rel : KV m ws) {acc : Array Value} (hn : acc.size = ws.length) (h : ∀ (j : Nat) (v : Value), acc[j]? = some v → ∃ k x, ws[j]? = some (k, x) ∧ keyIs k v = true) : Vals (m.map fun p => kV p.1) acc.toList := by
  have e : (m.map fun p => kV p.1) = ws.map fun p => kV p.1 := by
    have := congrArg (List.map kV) rel.keys
    rw [List.map_map, List.map_map] at this
    exact this
  rw [e]
  exact keys_at (by rw [Array.length_toList, hn]) fun j v z => h j v (by rw [← Array.getElem?_toList]; exact z)
/-- sorted(d.keys()): the keys in a new list l, which is sorted in its place as T says -/
def rSortK (T : List V → List V → Prop) : List V → Hp → VK → Prop := fun xs H Q => ∃ (p d : Addr) (m : List (Key × V)), xs = [.ref p] ∧ H p = some (keysO p d) ∧ H d = some (.dK m) ∧ m.length ≤ 60 ∧
  ∀ l, H l = none → ∀ ys, T (m.map fun q => kV q.1) ys → Q (.ref l) (upd (upd H l (.lst (m.map fun q => kV q.1))) l (.lst ys))
theorem call_sortK {T : List V → List V → Prop} (ok : List V → Prop)
    (srt : ∀ (Y : Cx) (pn : List (Addr × Obj)) (s : Shared) (σ : L2.St) (H : Hp) (l : Addr) (xs : List V) (Q : VK), Inv Y pn σ H s → H l = some (.lst xs) → xs.length ≤ 60 → ok xs → (∀ ys, T xs ys → Q .non (upd H l (.lst ys))) →
      wpAny (model Y.prog Y.w) Y.A (call (.builtin "list.sort") [.ref l]) (EP Y pn σ Q) Y.xe s) (calm : X.calm = true) : CallR X (.builtin "sorted") fun xs H Q => rSortK T xs H Q ∧ ∀ (p d : Addr) (m : List (Key × V)), xs = [.ref p] → H p = some (keysO p d) → H d = some (.dK m) → ok (m.map fun q => kV q.1) := by
  intro pn s σ H xs us Q I r ⟨⟨p, d, m, e, hp, hd, hl, q⟩, hok⟩
  subst e
  have hok := hok p d m rfl hp hd
  obtain ⟨u, eu, ru⟩ := vals1 r
  subst eu
  cases ru
  have view := (show ObjOk X.prog X.w H s.heap p (keysO p d) from I.hok p _ hp).1
  obtain ⟨z, lo, ws, rel, dd⟩ := dk_of I.hok hd
  obtain ⟨ep, at_⟩ := dd.dictAt
  have few : ws.length ≤ sizeLine := rel.length ▸ z
  have A1 := PyProof.Rows.args_sorted1 (Value.ref p)
  refine Calls.call_function_entry PyProof.Rows.kind_sorted PyProof.Rows.plain_sorted PyProof.Rows.entry_sorted A1 ?_
  unfold Builtin.«sorted»
  refine wpAny_bind (m := checkCount "sorted" 1 1 _) (wpAny_pure ?_)
  have src := PySem.W.kdl_keys (prog := X.prog) (w := X.w) (knd := mixKind X.prog X.w) (r := p) (d := d) (kvs := ws) (ep := ep)
  refine wpAny_bind (PySem.W.kdu_collect src (I.ok.hd calm) ⟨⟨_, view, rfl, rfl⟩, at_⟩ few fun g tk acc old found => ?_)
  have vv := keys_found rel found.1 found.2
  have I1 : Inv X pn σ H { s with heap := g, toks := tk } := I.kept old
  have ml : (m.map fun q => kV q.1).length = m.length := List.length_map _
  have short : (m.map fun q => kV q.1).length ≤ sizeLine := by rw [ml]; exact z
  refine wpAny_bind (wpAny_newList ?_ (by rw [← vv.length]; exact short))
  have new := I1.fresh
  have I2 := Inv.lnew (t' := tk) I1 vv short
  refine wpAny_bind (wpAny_holding (wpAny_mono (srt (inX X _) pn _ σ _ _ _ (fun v H' => v = .non ∧ Q (.ref g.objs.size) H') (inv_in I2) upd_same (by rw [ml]; exact hl) hok fun ys hy => ⟨rfl, q _ new ys hy⟩) (fun v s2 ⟨w, H2, I3, rw', e, q2⟩ => ?_) (fun _ _ x => x)))
  exact wpAny_pure ⟨_, rfl, .ref g.objs.size, H2, inv_out I.ok I3, rfl, q2⟩
/-- texts -/
def rSortKS : List V → Hp → VK → Prop := fun xs H Q => ∃ (p d : Addr) (m : List (Key × V)) (zs : List Str), xs = [.ref p] ∧ H p = some (keysO p d) ∧ H d = some (.dK m) ∧ m.map (·.1) = zs.map Sum.inr ∧ zs.length ≤ 60 ∧
  ∀ l, H l = none → ∀ ws : List Str, ws.Perm zs → sortedS ws = true → Q (.ref l) (upd (upd H l (.lst (zs.map V.str))) l (.lst (ws.map V.str)))
theorem keysS {m : List (Key × V)} {zs : List Str} (h : m.map (·.1) = zs.map Sum.inr) : m.map (fun q => kV q.1) = zs.map V.str := by
  have := congrArg (List.map kV) h
  rw [List.map_map, List.map_map] at this
  exact this
theorem call_sortKS (calm : X.calm = true) : CallR X (.builtin "sorted") rSortKS := fun pn s σ H xs us Q I r ⟨p, d, m, zs, e, hp, hd, hz, hl, q⟩ =>
  call_sortK (T := fun xs ys => ∀ zs : List Str, xs = zs.map V.str → ∃ ws : List Str, ws.Perm zs ∧ sortedS ws = true ∧ ys = ws.map V.str) (fun xs => ∃ zs : List Str, xs = zs.map V.str)
    (fun Y pn s σ H l xs Q I hl h60 ⟨zs, e⟩ q => by
      subst e
      refine mt_sortS pn s σ H (.ref l) [] (.ref l) [] Q I rfl .nil ⟨l, zs, rfl, rfl, hl, ?_, fun ws h1 h2 => q _ fun z2 e2 => ?_⟩
      · rw [List.length_map] at h60
        omega
      · have : zs = z2 := by
          have inj : Function.Injective V.str := fun a b h => by injection h
          exact List.map_inj_right (fun a b h => inj h) |>.mp e2
        exact ⟨ws, this ▸ h1, h2, rfl⟩) calm pn s σ H xs us Q I r
    ⟨⟨p, d, m, e, hp, hd, by have := congrArg List.length hz; rw [List.length_map, List.length_map] at this; omega, fun l hn ys hy => by
      obtain ⟨ws, h1, h2, h3⟩ := hy zs (keysS hz)
      rw [keysS hz, h3]
      exact q l hn ws h1 h2⟩, fun p' d' m' e' hp' hd' => by
      rw [e] at e'
      injection e' with e'
      injection e' with e'
      subst e'
      rw [hp] at hp'
      have same : H d = H d' → m = m' := fun hh => by
        rw [hh, hd'] at hd
        injection hd with hd
        injection hd with hd
        exact hd.symm
      obtain ⟨o1, w1⟩ := (show ObjOk X.prog X.w H s.heap p (keysO p d) from I.hok p _ hp)
      obtain ⟨o2, w2⟩ := (show ObjOk X.prog X.w H s.heap p (keysO p d') from I.hok p _ (hp.trans hp'))
      have ed : d = d' := by
        have := o1.symm.trans o2
        unfold kvO at this
        simp at this
        exact this
      rw [← same (by rw [ed])]
      exact ⟨zs, keysS hz⟩⟩
end
end TR

set_option Elab.async false
set_option linter.all false
set_option maxRecDepth 100000
set_option maxHeartbeats 4000000
/-! More steps: texts, dicts' methods, walks over keys. -/
namespace TR
open PySem PySem.Spec PyProof.Rows L2
def kM1b (r : V → List V → Hp → VK → Prop) (x : V) (Q : VK) : VK := fun y H2 => r x [y] H2 Q
def kM1a (r : V → List V → Hp → VK → Prop) (te : TE) (σ : L2.St) (Q : VK) : VK := fun x H1 => (∃ a, x = .str a) ∧ te σ H1 (kM1b r x Q)
def kLcS (g : TG) (tt : TT) (te : TE) (vs : List Nat) (σ : L2.St) (Q : VK) : VK := fun v H1 => ∃ z, v = .str z ∧ ∀ D, H1 D = none → ∃ W : Nat → Nat → Hp → Prop, (∃ m, W 0 m (upd H1 D (.lst []))) ∧ ∀ i m H, W i m H →
  ((Its z).stop i H ∧ Q (.ref D) H) ∨ ((Its z).go i H ∧ ∃ Nx : Hp → Prop, (∀ H', Nx H' → ∃ m', m' < m ∧ W (i + 1) m' H') ∧ ∀ x H', (Its z).yld i H x H' → g x (wipe σ vs) H' fun σ2 H2 => wipe σ2 vs = wipe σ vs ∧ tt σ2 H2 fun b H3 =>
    if b = true then te σ2 H3 fun y H4 => ∃ acc, H4 D = some (.lst acc) ∧ acc.length < sizeLine ∧ Nx (upd H4 D (.lst (acc ++ [y]))) else Nx H3)
/-- what is wanted behind a loop over the keys of a dict, which is locked within -/
def lockD (d : Addr) (od : Obj) (u : HO) (D : Ends) : Ends := ⟨fun σ' H' => H' d = some (.frz od u) ∧ D.nx σ' (upd H' d u), fun v H' => H' d = some (.frz od u) ∧ D.rt v (upd H' d u), fun σ' H' => H' d = some (.frz od u) ∧ D.bk σ' (upd H' d u), fun σ' H' => H' d = some (.frz od u) ∧ D.ct σ' (upd H' d u)⟩
def kFk (g : TG) (t : TS) (D : Ends) (σ : L2.St) : VK := fun x H => ∃ d o kvs, x = .ref d ∧ H d = some (.frz o (.dK kvs)) ∧ ∃ W : Nat → Nat → L2.St → Hp → Prop, (∃ m, W 0 m σ H) ∧ ∀ i m σ H, W i m σ H →
  ((Itk d o kvs).stop i H ∧ D.nx σ H) ∨ ((Itk d o kvs).go i H ∧ ∃ N : L2.St → Hp → Prop, (∀ σ' H', N σ' H' → ∃ m', m' < m ∧ W (i + 1) m' σ' H') ∧ ∀ x H', (Itk d o kvs).yld i H x H' → g x σ H' fun σ2 H2 => t { D with nx := N, ct := N, bk := D.nx } σ2 H2)
section
variable {K : PySem.W.Frag} {σ : L2.St} {H : Hp} {v x y : V} {Q : VK} {p q : Addr} {L R R' : List As} {te td ty tv tk : TE} {t : TS} {D : Ends} {m more : List (Key × V)} {z : Str}
/-! texts -/
theorem x_m1 {r : V → List V → Hp → VK → Prop} (q : td σ H (kM1a r te σ Q)) : tM1 r td te σ H Q := q
theorem y_m1a {r : V → List V → Hp → VK → Prop} (q : te σ H (kM1b r (.str z) Q)) : kM1a r te σ Q (.str z) H := ⟨⟨z, rfl⟩, q⟩
theorem y_m1b {r : V → List V → Hp → VK → Prop} (q : r x [y] H Q) : kM1b r x Q y H := q
theorem x_slS {lo hi : Option Int} (h : z.length ≤ sizeLine) (q : Q (.str (cutS z lo hi)) H) : rSlS (.str z) lo hi H Q := ⟨z, rfl, h, q⟩
theorem x_ixS {i : Int} {c : Nat} (h : z.length ≤ sizeLine) (e : atI z.cps.toList i = some c) (q : Q (.str ⟨#[c]⟩) H) : rIx K (.str z) (.int i) H Q := .inr (.inr ⟨z, i, c, rfl, rfl, h, e, q⟩)
theorem x_lenS (h : z.length ≤ sizeLine) (q : Q (.int (z.length : Nat)) H) : rLen K [.str z] H Q := ⟨_, z.length, rfl, ⟨h, rfl⟩, q⟩
theorem x_lcS {g : TG} {tt : TT} {vs : List Nat} (q : td σ H (kLcS g tt te vs σ Q)) : tLc (iStr td) g tt te vs σ H Q := q
theorem y_lcS {g : TG} {tt : TT} {vs : List Nat} (hS : Sep L H) (P : Addr → Nat → Hp → Prop) (h0 : ∀ D H', Sep (pt D (.lst []) :: L) H' → P D 0 H')
    (hs : ∀ D i c H, z.cps[i]? = some c → P D i H → g (.str ⟨#[c]⟩) (wipe σ vs) H (kLcb tt te D σ vs (P D (i + 1)))) (hd : ∀ D H, P D z.cps.size H → Q (.ref D) H) : kLcS g tt te vs σ Q (.str z) H :=
  ⟨z, rfl, fun D hD => lc_it walk_str (P D) (h0 D _ (Sep.new hD hS)) (fun _ _ _ _ => trivial) (fun i x H H' _ hp ⟨e1, c, e2, e3⟩ => by subst e1 e3; exact hs D i c H' e2 hp) (hd D)⟩
/-! dicts' methods -/
theorem y_bmd {r : V → List V → Hp → VK → Prop} {tr : TA} (hS : Sep L H) [a : At p L (.dK m) R] (k : tr σ H (kBq r (.ref p) Q)) : kBM K "dict" r tr σ Q (.ref p) H := ⟨.inr (.inr (.inl ⟨rfl, .inl ⟨m, hS.at_⟩⟩)), k⟩
theorem y_bmd0 {r : V → List V → Hp → VK → Prop} (hS : Sep L H) [a : At p L (.dK m) R] (k : r (.ref p) [] H Q) : kBM0 K "dict" r Q (.ref p) H := ⟨.inr (.inr (.inl ⟨rfl, .inl ⟨m, hS.at_⟩⟩)), k⟩
theorem x_keys (hS : Sep L H) [a : At p L (.dK m) R] (k : ∀ c H', Sep (pt c (keysO c p) :: L) H' → Q (.ref c) H') : rKeys (.ref p) [] H Q := ⟨p, m, rfl, rfl, hS.at_, fun c hc => k c _ (Sep.new hc hS)⟩
theorem x_dcopy (hS : Sep L H) [a : At p L (.dK m) R] (k : ∀ c H', Sep (pt c (.dK m) :: L) H' → Q (.ref c) H') : rDcopy (.ref p) [] H Q := ⟨p, m, rfl, rfl, hS.at_, fun c hc => k c _ (Sep.new hc hS)⟩
theorem Sep.ne {o u : HO} (n : ¬ Imm o) (hS : Sep (pt p o :: L) H) [b : At q L u R] : p ≠ q := fun e => by
  obtain ⟨h1, h2, s1, s2, d, a, r⟩ := hS
  have b2 : h2 q = some u := Sep.at_ r
  rw [← e] at b2
  exact n (d p o u a b2)
theorem x_dupd (hS : Sep L H) [a : At p L (.dK m) R] [b : At q R (.dK more) R'] (hl : m.length + more.length ≤ 1000000) (k : ∀ H', Sep (pt p (.dK (mergeK m more)) :: R) H' → Q .non H') : rDupd (.ref p) [.ref q] H Q :=
  have hp := a.en H hS
  ⟨p, q, m, more, rfl, rfl, Sep.ne (o := .dK m) (fun z => z) hp, hS.at_, Sep.at_ (q := b) hp.tail, hl, k _ (Sep.put (o := .dK m) (fun z => z) hp)⟩
theorem x_sortKS {zs : List Str} (hS : Sep L H) [a : At q L (keysO q p) R] [b : At p L (.dK m) R'] (hz : m.map (·.1) = zs.map Sum.inr) (hl : zs.length ≤ 60)
    (k : ∀ (ws : List Str) (l : Addr) H', ws.Perm zs → sortedS ws = true → Sep (pt l (.lst (ws.map V.str)) :: L) H' → Q (.ref l) H') : rSortKS [.ref q] H Q :=
  ⟨q, p, m, zs, rfl, Sep.at_ (q := a) hS, Sep.at_ (q := b) hS, hz, hl, fun l hl ws h1 h2 => k ws l _ h1 h2 (Sep.put (o := .lst (zs.map V.str)) (fun z => z) (Sep.new hl hS))⟩
theorem x_sortS {zs : List Str} (hS : Sep L H) (h : SqL K H p (zs.map V.str)) (hl : zs.length < 64) (k : ∀ (ws : List Str) (l : Addr) H', ws.Perm zs → sortedS ws = true → Sep (pt l (.lst (ws.map V.str)) :: L) H' → Q (.ref l) H') : rSortedS K [.ref p] H Q :=
  ⟨p, zs, rfl, h, hl, fun ws l h1 h2 hn => k ws l _ h1 h2 (Sep.new hn hS)⟩
/-! d.get(k, e) -/
def kGt3 (a : Addr) (y : V) (Q : VK) : VK := fun z H => ∃ o, DGet H a y o ∧ Q (o.getD z) H
def kGt2 (a : Addr) (tx : TE) (σ : L2.St) (Q : VK) : VK := fun y H => tx σ H (kGt3 a y Q)
def kGt1 (ty tx : TE) (σ : L2.St) (Q : VK) : VK := fun x H => ∃ a, x = .ref a ∧ IsD H a ∧ ty σ H (kGt2 a tx σ Q)
theorem x_get2 {tx : TE} (q : td σ H (kGt1 ty tx σ Q)) : tDGet2 td ty tx σ H Q := q
theorem y_gt1 {tx : TE} (hS : Sep L H) [a : At p L (.dK m) R] (q : ty σ H (kGt2 p tx σ Q)) : kGt1 ty tx σ Q (.ref p) H := ⟨p, rfl, .inl ⟨m, .inl hS.at_⟩, q⟩
theorem y_gt2 {tx : TE} (q : tx σ H (kGt3 p y Q)) : kGt2 p tx σ Q y H := q
theorem y_gt3s {k : Str} (hS : Sep L H) [a : At p L (.dK m) R] (q : Q ((valV m (.inr k)).getD x) H) : kGt3 p (.str k) Q x H := ⟨_, DGet.k (k := .inr k) hS.at_, q⟩
/-! for k in d.keys() -/
theorem x_lock {u : HO} (hS : Sep L H) [a : At p L u R] (mu : Mut (some u)) (k : ∀ od H', Sep (pt p (.frz od u) :: R) H' → t (lockD p od u D) σ H') (ni : ¬ Imm u) : tLock t D σ H :=
  ⟨p, u, hS.at_, mu, fun od => k od _ (Sep.put (o := u) ni (a.en H hS))⟩
theorem y_unlock {u : HO} {od : Obj} (hS : Sep L H) [a : At p L (.frz od u) R] (ni : ¬ Imm (.frz od u) := by exact fun z => z) (k : ∀ H', Sep (pt p u :: R) H' → D.nx σ H') : (lockD p od u D).nx σ H :=
  ⟨hS.at_, k _ (Sep.put (o := .frz od u) ni (a.en H hS))⟩
theorem x_forK {g : TG} (q : te σ H (kFk g t D σ)) : tFor (iKeysM te) g t D σ H := q
end
section
variable {X : Cx} {d : He.DefD} {k : Nat} {sp : Sp} {E : L2.St → XK} {x : Str} {p pos : Pos}
/-- f() -/
theorem px_call0 (G : OkD X.prog X.w X.K X.mg X.base d k [] sp) (hr : Room k X.A) (hg : Gl X x) (hm : X.mg x = some (.ref (He.fAd X.K d.at_))) (hx : ∀ σ, PassesAt (L2.CX X.prog X.w) X σ (E σ))
    (hdb : (x == ("__debug__" : Str)) = false := by decide) : PE X (.Call (.Name x p) [] [] pos) (tCallS sp E tNil) := by
  obtain ⟨fd, ⟨hk, _⟩, ⟨hb, _⟩, F⟩ := G
  exact ⟨fun pn s σ H Q I h => wpAny_Call_Name_kw (ld_glob I hg hm (PySem.W.callWith_K0 I.kIn hk (run_fnS (us := []) F hr hb (hx σ) I .nil h)) hdb)⟩
end
end TR

set_option Elab.async false
set_option linter.all false
set_option maxRecDepth 100000
set_option maxHeartbeats 4000000
/-! More of data: what can be compared; texts in order; an unrolled loop. -/
namespace TR
open PySem PySem.Spec PyProof.Rows L2
/-- of depth n at most, and to be compared -/
def ShD (n : Nat) (d : PyData) : Prop := PyData.canLay0 d = true ∧ PyData.depth d ≤ n
theorem shaped_of {n : Nat} {d : PyData} (h : ShD n d) (hn : n ≤ 64) : SeqAt.shaped d = true := by
  show (PyData.canLay0 d && decide (PyData.depth d ≤ 64)) = true
  rw [h.1, decide_eq_true (Nat.le_trans h.2 hn)] <;> rfl
theorem ShD.mono {n m : Nat} {d : PyData} (h : ShD n d) (hn : n ≤ m) : ShD m d := ⟨h.1, Nat.le_trans h.2 hn⟩
theorem shd_all {n : Nat} : ∀ {ds : List PyData}, (∀ d ∈ ds, ShD n d) → PyData.canLayAll0 ds = true ∧ PyData.depthAll ds ≤ n
  | [], _ => ⟨rfl, Nat.zero_le _⟩
  | d :: r, h => by
    obtain ⟨a, b⟩ := h d List.mem_cons_self
    obtain ⟨c, e⟩ := shd_all (ds := r) fun x hx => h x (List.mem_cons_of_mem _ hx)
    refine ⟨?_, ?_⟩
    · show (PyData.canLay0 d && PyData.canLayAll0 r) = true
      rw [a, c] <;> rfl
    · show max (PyData.depth d) (PyData.depthAll r) ≤ n
      exact Nat.max_le.mpr ⟨b, e⟩
theorem shd_list {n : Nat} {ds : List PyData} (h : ∀ d ∈ ds, ShD n d) : ShD (n + 1) (.list ds) := ⟨(shd_all h).1, Nat.succ_le_succ (shd_all h).2⟩
theorem shd_tup {n : Nat} {ds : List PyData} (h : ∀ d ∈ ds, ShD n d) : ShD (n + 1) (.tuple ds) := ⟨(shd_all h).1, Nat.succ_le_succ (shd_all h).2⟩
theorem shd_int {n : Nat} (i : Int) : ShD n (.int i) := ⟨rfl, Nat.zero_le _⟩
theorem shd_non {n : Nat} : ShD n .none := ⟨rfl, Nat.zero_le _⟩
theorem shd_bl {n : Nat} (b : Bool) : ShD n (.bool b) := ⟨rfl, Nat.zero_le _⟩
theorem shd_str {n : Nat} {z : Str} (h : PyData.strOk z = true) : ShD n (.str z) := ⟨h, Nat.zero_le _⟩
section
variable {K : PySem.W.Frag} {H : Hp} {a : Addr}
theorem dp_strs {zs : List Str} (h : SqL K H a (zs.map V.str)) : Dp K H (.ref a) (.list (zs.map PyData.str)) := .lst h (go zs)
where go : ∀ zs : List Str, DpAll K H (zs.map V.str) (zs.map PyData.str)
  | [] => .nil
  | z :: r => .cons (.str z) (go r)
theorem shaped_strs {zs : List Str} (h : ∀ z ∈ zs, PyData.strOk z = true) : SeqAt.shaped (.list (zs.map PyData.str)) = true :=
  shaped_of (n := 1) (shd_list fun d hd => by
    obtain ⟨z, hz, rfl⟩ := List.mem_map.mp hd
    exact shd_str (h z hz)) (by decide)
end
/-! sorted texts -/
theorem risingS_pw : ∀ (xs : List Str) (p : Str), risingS p xs = true → (p :: xs).Pairwise fun a b => a.cps.toList ≤ b.cps.toList
  | [], p, _ => List.pairwise_singleton _ _
  | x :: r, p, h => by
    have h : (!ltCps x.cps.toList p.cps.toList && risingS x r) = true := h
    rw [Bool.and_eq_true] at h
    have ih := risingS_pw r x h.2
    have h1 : p.cps.toList ≤ x.cps.toList := by
      have := h.1
      rw [ltCps_eq] at this
      intro z
      rw [decide_eq_true z] at this
      cases this
    refine List.pairwise_cons.mpr ⟨fun b hb => ?_, ih⟩
    rcases List.mem_cons.mp hb with rfl | hb
    · exact h1
    · exact List.le_trans h1 ((List.pairwise_cons.mp ih).1 b hb)
theorem sortedS_eq {xs ys zs : List Str} (p : xs.Perm zs) (q : ys.Perm zs) (hx : sortedS xs = true) (hy : sortedS ys = true) : xs = ys := by
  have pw : ∀ {xs : List Str}, sortedS xs = true → xs.Pairwise fun a b => a.cps.toList ≤ b.cps.toList := fun {xs} h => match xs, h with
    | [], _ => List.Pairwise.nil
    | x :: r, h => risingS_pw r x h
  refine (p.trans q.symm).eq_of_pairwise (fun a b _ _ h1 h2 => ?_) (pw hx) (pw hy)
  have : a.cps.toList = b.cps.toList := List.le_antisymm h1 h2
  cases a; cases b
  simp at this
  rw [this]
/-- signs joined -/
def one (c : Nat) : Str := ⟨#[c]⟩
theorem join_ones (cs : List Nat) : (Txt.join "" (cs.map one)).cps.toList = cs := by
  have h : TL.tl (Txt.join "" (cs.map one)) = TL.joinL [] ((cs.map one).map TL.tl) := by
    rw [TL.join_eq, TL.tl_join]
    rfl
  have g : ∀ cs : List Nat, TL.joinL [] ((cs.map one).map TL.tl) = cs := by
    intro cs
    induction cs with
    | nil => rfl
    | cons c r ih =>
      cases r with
      | nil => rfl
      | cons d r =>
        show [c] ++ ([] ++ TL.joinL [] (((d :: r).map one).map TL.tl)) = _
        rw [ih]
        rfl
  rw [g] at h
  exact h
theorem sum_ones : ∀ cs : List Nat, ((cs.map one).map fun x => x.length).sum = cs.length
  | [] => rfl
  | c :: r => by
    show 1 + ((r.map one).map fun x => x.length).sum = r.length + 1
    rw [sum_ones r]
    omega
theorem len_cut {z : Str} {lo hi : Option Int} : (cutS z lo hi).length ≤ z.length := by
  show ((z.cps.toList.drop _).take _).toArray.size ≤ z.cps.size
  rw [List.size_toArray, List.length_take, List.length_drop, Array.length_toList]
  omega
/-! loops over a few, unrolled -/
section
variable {K : PySem.W.Frag} {σ : L2.St} {H : Hp} {p : Addr} {t : TS} {D : Ends}
def kUn_ (K : PySem.W.Frag) (p : Addr) (g : TG) (t : TS) (D : Ends) (all : List V) : List V → L2.St → Hp → Prop
  | [] => fun σ H => SqL K H p all ∧ D.nx σ H
  | x :: r => fun σ H => SqL K H p all ∧ g x σ H (kBody t D (kUn_ K p g t D all r))
theorem y_un {g : TG} {all r : List V} {x : V} (h : SqL K H p all) (q : g x σ H (kBody t D (kUn_ K p g t D all r))) : kUn_ K p g t D all (x :: r) σ H := ⟨h, q⟩
theorem y_un0 {g : TG} {all : List V} (h : SqL K H p all) (q : D.nx σ H) : kUn_ K p g t D all [] σ H := ⟨h, q⟩
theorem y_forU {xs : List V} {g : TG} (h : kUn_ K p g t D xs xs σ H) : kFl K g t D σ (.ref p) H := by
  have sq : ∀ (ys : List V) σ H, kUn_ K p g t D xs ys σ H → SqL K H p xs := fun ys σ H q => match ys, q with
    | [], q => q.1
    | _ :: _, q => q.1
  refine y_forL (xs := xs) (fun i σ H => kUn_ K p g t D xs (xs.drop i) σ H) (sq _ _ _ h) (by rw [List.drop_zero]; exact h) (fun i σ H _ q => sq _ _ _ q) (fun i x σ H hi q => ?_) (fun σ H q => ?_)
  · have hlt := (List.getElem?_eq_some_iff.mp hi).1
    have he : xs.drop i = x :: xs.drop (i + 1) := by
      rw [List.drop_eq_getElem_cons hlt, (List.getElem?_eq_some_iff.mp hi).2]
    rw [he] at q
    exact q.2
  · rw [List.drop_length] at q
    exact q.2
end
theorem y_forUs {K : PySem.W.Frag} {σ : L2.St} {H : Hp} {p : Addr} {t : TS} {D : Ends} {xs : List V} {g : TG} {L R : List As} (hS : Sep L H) [a : At p L (.lst xs) R] (h : kUn_ K p g t D xs xs σ H) : kFl K g t D σ (.ref p) H := y_forU h
/-! while -/
def kWh (tb : TS) (D : Ends) (P : Nat → L2.St → Hp → Prop) (m : Nat) (σ : L2.St) : Bool → Hp → Prop := fun b H1 => if b = true then ∃ N : L2.St → Hp → Prop, (∀ σ' H', N σ' H' → ∃ m', m' < m ∧ P m' σ' H') ∧ tb { D with nx := N, ct := N, bk := D.nx } σ H1 else D.nx σ H1
section
variable {σ : L2.St} {H : Hp} {tb : TS} {D : Ends} {c : TT} {P : Nat → L2.St → Hp → Prop} {m : Nat}
theorem y_while (P : Nat → L2.St → Hp → Prop) (m0 : Nat) (h0 : P m0 σ H) (hs : ∀ m σ H, P m σ H → c σ H (kWh tb D P m σ)) : tWhile c tb D σ H := ⟨P, ⟨m0, h0⟩, hs⟩
theorem y_wh1 (q : tb { D with nx := fun σ' H' => ∃ m', m' < m ∧ P m' σ' H', ct := fun σ' H' => ∃ m', m' < m ∧ P m' σ' H', bk := D.nx } σ H) : kWh tb D P m σ true H := ⟨_, fun _ _ h => h, q⟩
theorem y_wh0 (q : D.nx σ H) : kWh tb D P m σ false H := q
theorem y_wh1n (q : kWh tb D P m σ true H) : kWh tb D P m σ (!false) H := q
theorem y_wh0n (q : kWh tb D P m σ false H) : kWh tb D P m σ (!true) H := q
theorem y_whd {φ : Prop} [Decidable φ] (a : φ → kWh tb D P m σ true H) (b : ¬ φ → kWh tb D P m σ false H) : kWh tb D P m σ (decide φ) H := by
  by_cases h : φ
  · rw [decide_eq_true h]; exact a h
  · rw [decide_eq_false h]; exact b h
end
end TR

set_option Elab.async false
set_option linter.all false
set_option maxRecDepth 100000
set_option maxHeartbeats 4000000
/-! Loops over a locked dict's keys; data as an assertion. -/
namespace TR
open PySem PySem.Spec PyProof.Rows L2
section
variable {K : PySem.W.Frag} {σ : L2.St} {H : Hp} {v : V} {Q : VK} {p : Addr} {L R : List As} {t : TS} {D : Ends} {m : List (Key × V)} {od : Obj}
theorem y_dgf {s : Str} (hS : Sep L H) [a : At p L (.frz od (.dK m)) R] (h : valV m (.inr s) = some v) (q : Q v H) : kDg2 (.ref p) Q (.str s) H := ⟨p, v, rfl, .inl ⟨m, .inr s, .inr ⟨od, hS.at_⟩, rfl, h.symm⟩, q⟩
theorem y_forK {g : TG} (hS : Sep L H) [a : At p L (.frz od (.dK m)) R] (P : Nat → L2.St → Hp → Prop) (h0 : P 0 σ H) (hl : ∀ i σ H, i ≤ m.length → P i σ H → H p = some (.frz od (.dK m)))
    (hs : ∀ i k v σ H, m[i]? = some (k, v) → P i σ H → g (kV k) σ H (kBody t D (P (i + 1)))) (hd : ∀ σ H, P m.length σ H → D.nx σ H) : kFk g t D σ (.ref p) H :=
  ⟨p, od, m, rfl, hS.at_, for_it (G := fun H => H p = some (.frz od (.dK m))) walk_keys P h0 hl (fun i x σ H H' _ hp ⟨e1, k, v, e2, e3⟩ => by subst e1 e3; exact hs i k v σ H' e2 hp) hd⟩
end
/-! data as an assertion -/
section
variable {K : PySem.W.Frag}
mutual
theorem dp_sb {H H' : Hp} (s : Sb H H') : ∀ {v : V} {d : PyData}, Dp K H v d → Dp K H' v d
  | _, _, .non => .non
  | _, _, .bl b => .bl b
  | _, _, .int i => .int i
  | _, _, .str x => .str x
  | _, _, .lst h a => .lst (SqL.sb s h) (dpAll_sb s a)
  | _, _, .tup h a => .tup (SqT.sb s h) (dpAll_sb s a)
theorem dpAll_sb {H H' : Hp} (s : Sb H H') : ∀ {vs : List V} {ds : List PyData}, DpAll K H vs ds → DpAll K H' vs ds
  | _, _, .nil => .nil
  | _, _, .cons a b => .cons (dp_sb s a) (dpAll_sb s b)
end
def DpA (K : PySem.W.Frag) (v : V) (d : PyData) : As := fun h => Dp K h v d
theorem Sep.dpA {v : V} {d : PyData} {L R : List As} {H : Hp} (h : Sep L H) [q : Pk (DpA K v d) L R] : Dp K H v d := by
  obtain ⟨h1, _, s1, _, _, a, _⟩ := q.en H h
  exact dp_sb s1 a
theorem Sep.mkD {v : V} {d : PyData} {L R : List As} {H : Hp} (f : ∀ h, Sep L h → Dp K h v d) (h : Sep (all L :: R) H) : Sep (DpA K v d :: R) H := Sep.hd (fun h a => f h a) h
def oD : Option Int → PyData
  | none => .none
  | some i => .int i
theorem dp_o {H : Hp} (e : Option Int) : Dp K H (oV e) (oD e) := by cases e <;> constructor
theorem shd_o {n : Nat} (e : Option Int) : ShD n (oD e) := by
  cases e with
  | none => exact shd_non
  | some i => exact shd_int i
theorem dpAll_ints {H : Hp} : ∀ ns : List Int, DpAll K H (ns.map V.int) (ns.map PyData.int)
  | [] => .nil
  | n :: r => .cons (.int n) (dpAll_ints r)
theorem shd_ints {n : Nat} (ns : List Int) : ∀ d ∈ ns.map PyData.int, ShD n d := fun d hd => by
  obtain ⟨i, _, rfl⟩ := List.mem_map.mp hd
  exact shd_int i
end
end TR

set_option Elab.async false
set_option linter.all false
set_option maxRecDepth 100000
set_option maxHeartbeats 4000000
/-! A comparison of three parts as a test; rows in rows; a dict of pairs. -/
namespace TR
open PySem PySem.Spec PyProof.Rows L2
def kT3f (QT : Bool → Hp → Prop) : VK := fun z H => ∃ k, z = .bl k ∧ QT k H
def kT3e (r3 : R2) (w : V) (QT : Bool → Hp → Prop) : VK := fun v H => r3 w v H (kT3f QT)
def kT3d (r3 : R2) (td : TE) (σ : L2.St) (w : V) (QT : Bool → Hp → Prop) : VK := fun z H => ∃ k, z = .bl k ∧ (if k = true then td σ H (kT3e r3 w QT) else QT false H)
def kT3c (r2 r3 : R2) (td : TE) (σ : L2.St) (y : V) (QT : Bool → Hp → Prop) : VK := fun w H => r2 y w H (kT3d r3 td σ w QT)
def kT3b' (r2 r3 : R2) (tc td : TE) (σ : L2.St) (y : V) (QT : Bool → Hp → Prop) : VK := fun z H => ∃ k, z = .bl k ∧ (if k = true then tc σ H (kT3c r2 r3 td σ y QT) else QT false H)
def kT3b (r1 r2 r3 : R2) (tc td : TE) (σ : L2.St) (x : V) (QT : Bool → Hp → Prop) : VK := fun y H => r1 x y H (kT3b' r2 r3 tc td σ y QT)
def kT3a (r1 r2 r3 : R2) (tb tc td : TE) (σ : L2.St) (QT : Bool → Hp → Prop) : VK := fun x H => tb σ H (kT3b r1 r2 r3 tc td σ x QT)
def tChain3 (r1 r2 r3 : R2) (ta tb tc td : TE) : TT := fun σ H QT => ta σ H (kT3a r1 r2 r3 tb tc td σ QT)
section
variable {r1 r2 r3 : R2} {ta tb tc td : TE} {σ : L2.St} {H : Hp} {x y w : V} {QT : Bool → Hp → Prop}
theorem x_chain3 (q : ta σ H (kT3a r1 r2 r3 tb tc td σ QT)) : tChain3 r1 r2 r3 ta tb tc td σ H QT := q
theorem y_t3a (q : tb σ H (kT3b r1 r2 r3 tc td σ x QT)) : kT3a r1 r2 r3 tb tc td σ QT x H := q
theorem y_t3b (q : r1 x y H (kT3b' r2 r3 tc td σ y QT)) : kT3b r1 r2 r3 tc td σ x QT y H := q
theorem y_t3b' {k : Bool} (q : if k = true then tc σ H (kT3c r2 r3 td σ y QT) else QT false H) : kT3b' r2 r3 tc td σ y QT (.bl k) H := ⟨k, rfl, q⟩
theorem y_t3c (q : r2 y w H (kT3d r3 td σ w QT)) : kT3c r2 r3 td σ y QT w H := q
theorem y_t3d {k : Bool} (q : if k = true then td σ H (kT3e r3 w QT) else QT false H) : kT3d r3 td σ w QT (.bl k) H := ⟨k, rfl, q⟩
theorem y_t3e (q : r3 w x H (kT3f QT)) : kT3e r3 w QT x H := q
theorem y_t3f {k : Bool} (q : QT k H) : kT3f QT (.bl k) H := ⟨k, rfl, q⟩
end
section
variable {X : Cx} {a b c d : Expr} {ta tb tc td : TE} {pos : Pos}
theorem pt_chain3 {op op' op'' : CmpOp} {r r' r'' : R2} (ho : OpR X (compareOp op) r) (ho' : OpR X (compareOp op') r') (ho'' : OpR X (compareOp op'') r'') (ha : PE X a ta) (hb : PE X b tb) (hc : PE X c tc) (hd : PE X d td)
    (hm : lastMarks [op, op', op''] [b, c, d] = false := by with_unfolding_all rfl) : PT X (.Compare a [op, op', op''] [b, c, d] pos) (tChain3 r r' r'' ta tb tc td) := by
  refine ⟨fun pins s σ H Q I h => ?_⟩
  refine isTrue_chain (thn (ha.run pins s σ H _ I h) fun v s1 ⟨x, H1, I1, r1, q1⟩ => test_link (thn (hb.run pins s1 σ H1 _ I1 q1) fun u s2 ⟨y, H2, I2, r2, q2⟩ =>
    thn (ho pins s2 σ H2 x y v u _ I2 r1 r2 q2) fun d s3 ⟨z, H3, I3, r3, k, e, q3⟩ => ?_)) hm
  subst e
  cases r3
  refine wpAny_truthy_bool ?_
  cases k with
  | false => exact ite_ff ⟨H3, I3, ((if_neg Bool.false_ne_true).mp q3 : Q false H3)⟩
  | true =>
    have q3 : tc σ H3 (kT3c r' r'' td σ y Q) := (if_pos rfl).mp q3
    refine ite_tt (test_link (thn (hc.run pins s3 σ H3 _ I3 q3) fun w' s4 ⟨z', H4, I4, r4, q4⟩ => thn (ho' pins s4 σ H4 y z' u w' _ I4 r2 r4 q4) fun d' s5 ⟨z2, H5, I5, r5, k2, e2, q5⟩ => ?_))
    subst e2
    cases r5
    refine wpAny_truthy_bool ?_
    cases k2 with
    | false => exact ite_ff ⟨H5, I5, ((if_neg Bool.false_ne_true).mp q5 : Q false H5)⟩
    | true =>
      have q5 : td σ H5 (kT3e r'' z' Q) := (if_pos rfl).mp q5
      refine ite_tt (test_last (thn (hd.run pins s5 σ H5 _ I5 q5) fun w3 s6 ⟨z3, H6, I6, r6, q6⟩ => thn (ho'' pins s6 σ H6 z' z3 w' w3 _ I6 r4 r6 q6) fun d2 s7 ⟨z4, H7, I7, r7, k3, e3, q7⟩ => ?_))
      subst e3
      cases r7
      exact wpAny_truthy_bool ⟨H7, I7, q7⟩
end
theorem un65 {k : Nat} {A : Around} (r : Room k A) : A.units + 65 < cLine := by
  have := r.un
  omega
/-! a dict of pairs -/
section
variable {K : PySem.W.Frag} {H : Hp} {p : Addr} {Q : VK}
def rDictP (K : PySem.W.Frag) : List V → Hp → VK → Prop := fun xs H Q => ∃ (a : Addr) (ps : List Addr) (kvs : List (Key × V)), xs = [.ref a] ∧ SqL K H a (ps.map V.ref) ∧ Paired (fun p kv => SqT K H p [kV kv.1, kv.2]) ps kvs ∧ ∀ p, H p = none → Q (.ref p) (upd H p (.dK (mergeK [] kvs)))
theorem call_dictA {X : Cx} (hcalm : X.calm = true) : CallR X (.type "dict") (rDictP X.K) := call_dictP hcalm
end
end TR

set_option Elab.async false
set_option linter.all false
set_option maxRecDepth 100000
set_option maxHeartbeats 4000000
/-! The facts, the fields. -/
namespace TR
open PySem PySem.Spec PyProof.Rows L2
class Top (K : PySem.W.Frag) (mg : outParam (Str → Option Value)) : Prop where
  s : Says fa fn exs K
  g : ∃ h : Heap, K.In h ∧ h.Ns mainGlobals mg
section
variable {K : PySem.W.Frag} {mg : Str → Option Value}
theorem gl_RoadError (T : Top K mg) : mg "RoadError" = some (.ref (He.ga K "RoadError")) := let ⟨_, X, G⟩ := T.g; He.glo_ok X G (T.s.fact 0 (f := .glo "RoadError"))
theorem xc_RoadError (T : Top K mg) : PySem.W.excIn K (He.ga K "RoadError") He.veBase "ValueError.__new__" = true ∧ PySem.W.keepIn K (.ref (He.ga K "RoadError")) = true ∧ PySem.W.subIn K (.ref (He.ga K "RoadError")) (.type "BaseException") = some true ∧ PySem.W.typeIn K (.ref (He.ga K "RoadError")) = some (.type "type") := He.exc_ok (T.s.fact 1 (f := .exc "RoadError"))
theorem gl_BadTune (T : Top K mg) : mg "BadTune" = some (.ref (He.ga K "BadTune")) := let ⟨_, X, G⟩ := T.g; He.glo_ok X G (T.s.fact 2 (f := .glo "BadTune"))
theorem xc_BadTune (T : Top K mg) : PySem.W.excIn K (He.ga K "BadTune") He.veBase "ValueError.__new__" = true ∧ PySem.W.keepIn K (.ref (He.ga K "BadTune")) = true ∧ PySem.W.subIn K (.ref (He.ga K "BadTune")) (.type "BaseException") = some true ∧ PySem.W.typeIn K (.ref (He.ga K "BadTune")) = some (.type "type") := He.exc_ok (T.s.fact 3 (f := .exc "BadTune"))
theorem gl_BadNumber (T : Top K mg) : mg "BadNumber" = some (.ref (He.ga K "BadNumber")) := let ⟨_, X, G⟩ := T.g; He.glo_ok X G (T.s.fact 4 (f := .glo "BadNumber"))
theorem xc_BadNumber (T : Top K mg) : PySem.W.excIn K (He.ga K "BadNumber") He.veBase "ValueError.__new__" = true ∧ PySem.W.keepIn K (.ref (He.ga K "BadNumber")) = true ∧ PySem.W.subIn K (.ref (He.ga K "BadNumber")) (.type "BaseException") = some true ∧ PySem.W.typeIn K (.ref (He.ga K "BadNumber")) = some (.type "type") := He.exc_ok (T.s.fact 5 (f := .exc "BadNumber"))
theorem gl_BadEntry (T : Top K mg) : mg "BadEntry" = some (.ref (He.ga K "BadEntry")) := let ⟨_, X, G⟩ := T.g; He.glo_ok X G (T.s.fact 6 (f := .glo "BadEntry"))
theorem xc_BadEntry (T : Top K mg) : PySem.W.excIn K (He.ga K "BadEntry") He.veBase "ValueError.__new__" = true ∧ PySem.W.keepIn K (.ref (He.ga K "BadEntry")) = true ∧ PySem.W.subIn K (.ref (He.ga K "BadEntry")) (.type "BaseException") = some true ∧ PySem.W.typeIn K (.ref (He.ga K "BadEntry")) = some (.type "type") := He.exc_ok (T.s.fact 7 (f := .exc "BadEntry"))
theorem gl_BadWord (T : Top K mg) : mg "BadWord" = some (.ref (He.ga K "BadWord")) := let ⟨_, X, G⟩ := T.g; He.glo_ok X G (T.s.fact 8 (f := .glo "BadWord"))
theorem xc_BadWord (T : Top K mg) : PySem.W.excIn K (He.ga K "BadWord") He.veBase "ValueError.__new__" = true ∧ PySem.W.keepIn K (.ref (He.ga K "BadWord")) = true ∧ PySem.W.subIn K (.ref (He.ga K "BadWord")) (.type "BaseException") = some true ∧ PySem.W.typeIn K (.ref (He.ga K "BadWord")) = some (.type "type") := He.exc_ok (T.s.fact 9 (f := .exc "BadWord"))
theorem gl_Dice (T : Top K mg) : mg "Dice" = some (.ref (He.ga K "Dice")) := let ⟨_, X, G⟩ := T.g; He.glo_ok X G (T.s.fact 10 (f := .glo "Dice"))
theorem cl_Dice (T : Top K mg) : Cls K (He.ga K "Dice") := He.cls_ok (T.s.fact 11 (f := .cls "Dice"))
theorem mk_Dice (T : Top K mg) : Mk K (He.ga K "Dice") (He.ma K (He.ga K "Dice") "__init__") := He.mkr_ok (T.s.fact 12 (f := .mkr "Dice"))
theorem na_Dice_number (T : Top K mg) : NoAttr K (He.ga K "Dice") "number" := He.noat_ok (T.s.fact 13 (f := .noat "Dice" "number"))
theorem me_Dice_below (T : Top K mg) : Meth K (He.ga K "Dice") "below" (He.ma K (He.ga K "Dice") "below") := He.meth_ok (T.s.fact 14 (f := .meth "Dice" "below"))
theorem me_Dice_twin (T : Top K mg) : Meth K (He.ga K "Dice") "twin" (He.ma K (He.ga K "Dice") "twin") := He.meth_ok (T.s.fact 15 (f := .meth "Dice" "twin"))
theorem gl_Queue (T : Top K mg) : mg "Queue" = some (.ref (He.ga K "Queue")) := let ⟨_, X, G⟩ := T.g; He.glo_ok X G (T.s.fact 16 (f := .glo "Queue"))
theorem cl_Queue (T : Top K mg) : Cls K (He.ga K "Queue") := He.cls_ok (T.s.fact 17 (f := .cls "Queue"))
theorem mk_Queue (T : Top K mg) : Mk K (He.ga K "Queue") (He.ma K (He.ga K "Queue") "__init__") := He.mkr_ok (T.s.fact 18 (f := .mkr "Queue"))
theorem na_Queue_tunes (T : Top K mg) : NoAttr K (He.ga K "Queue") "tunes" := He.noat_ok (T.s.fact 19 (f := .noat "Queue" "tunes"))
theorem na_Queue_turn (T : Top K mg) : NoAttr K (He.ga K "Queue") "turn" := He.noat_ok (T.s.fact 20 (f := .noat "Queue" "turn"))
theorem na_Queue_last (T : Top K mg) : NoAttr K (He.ga K "Queue") "last" := He.noat_ok (T.s.fact 21 (f := .noat "Queue" "last"))
theorem me_Queue_entries (T : Top K mg) : Meth K (He.ga K "Queue") "entries" (He.ma K (He.ga K "Queue") "entries") := He.meth_ok (T.s.fact 22 (f := .meth "Queue" "entries"))
theorem me_Queue_need (T : Top K mg) : Meth K (He.ga K "Queue") "need" (He.ma K (He.ga K "Queue") "need") := He.meth_ok (T.s.fact 23 (f := .meth "Queue" "need"))
theorem me_Queue_tune (T : Top K mg) : Meth K (He.ga K "Queue") "tune" (He.ma K (He.ga K "Queue") "tune") := He.meth_ok (T.s.fact 24 (f := .meth "Queue" "tune"))
theorem me_Queue_put (T : Top K mg) : Meth K (He.ga K "Queue") "put" (He.ma K (He.ga K "Queue") "put") := He.meth_ok (T.s.fact 25 (f := .meth "Queue" "put"))
theorem me_Queue_remove (T : Top K mg) : Meth K (He.ga K "Queue") "remove" (He.ma K (He.ga K "Queue") "remove") := He.meth_ok (T.s.fact 26 (f := .meth "Queue" "remove"))
theorem me_Queue_place (T : Top K mg) : Meth K (He.ga K "Queue") "place" (He.ma K (He.ga K "Queue") "place") := He.meth_ok (T.s.fact 27 (f := .meth "Queue" "place"))
theorem me_Queue_twin (T : Top K mg) : Meth K (He.ga K "Queue") "twin" (He.ma K (He.ga K "Queue") "twin") := He.meth_ok (T.s.fact 28 (f := .meth "Queue" "twin"))
theorem gl_Order (T : Top K mg) : mg "Order" = some (.ref (He.ga K "Order")) := let ⟨_, X, G⟩ := T.g; He.glo_ok X G (T.s.fact 29 (f := .glo "Order"))
theorem cl_Order (T : Top K mg) : Cls K (He.ga K "Order") := He.cls_ok (T.s.fact 30 (f := .cls "Order"))
theorem mk_Order (T : Top K mg) : Mk K (He.ga K "Order") (He.ma K (He.ga K "Order") "__init__") := He.mkr_ok (T.s.fact 31 (f := .mkr "Order"))
theorem na_Order_queue (T : Top K mg) : NoAttr K (He.ga K "Order") "queue" := He.noat_ok (T.s.fact 32 (f := .noat "Order" "queue"))
theorem na_Order_dice (T : Top K mg) : NoAttr K (He.ga K "Order") "dice" := He.noat_ok (T.s.fact 33 (f := .noat "Order" "dice"))
theorem na_Order_is_mixed (T : Top K mg) : NoAttr K (He.ga K "Order") "is_mixed" := He.noat_ok (T.s.fact 34 (f := .noat "Order" "is_mixed"))
theorem na_Order_again (T : Top K mg) : NoAttr K (He.ga K "Order") "again" := He.noat_ok (T.s.fact 35 (f := .noat "Order" "again"))
theorem na_Order_deck (T : Top K mg) : NoAttr K (He.ga K "Order") "deck" := He.noat_ok (T.s.fact 36 (f := .noat "Order" "deck"))
theorem na_Order_is_gone (T : Top K mg) : NoAttr K (He.ga K "Order") "is_gone" := He.noat_ok (T.s.fact 37 (f := .noat "Order" "is_gone"))
theorem na_Order_behind (T : Top K mg) : NoAttr K (He.ga K "Order") "behind" := He.noat_ok (T.s.fact 38 (f := .noat "Order" "behind"))
theorem me_Order_set_again (T : Top K mg) : Meth K (He.ga K "Order") "set_again" (He.ma K (He.ga K "Order") "set_again") := He.meth_ok (T.s.fact 39 (f := .meth "Order" "set_again"))
theorem me_Order_put (T : Top K mg) : Meth K (He.ga K "Order") "put" (He.ma K (He.ga K "Order") "put") := He.meth_ok (T.s.fact 40 (f := .meth "Order" "put"))
theorem me_Order_remove (T : Top K mg) : Meth K (He.ga K "Order") "remove" (He.ma K (He.ga K "Order") "remove") := He.meth_ok (T.s.fact 41 (f := .meth "Order" "remove"))
theorem me_Order_next_plain (T : Top K mg) : Meth K (He.ga K "Order") "next_plain" (He.ma K (He.ga K "Order") "next_plain") := He.meth_ok (T.s.fact 42 (f := .meth "Order" "next_plain"))
theorem me_Order_next_mixed (T : Top K mg) : Meth K (He.ga K "Order") "next_mixed" (He.ma K (He.ga K "Order") "next_mixed") := He.meth_ok (T.s.fact 43 (f := .meth "Order" "next_mixed"))
theorem me_Order_after (T : Top K mg) : Meth K (He.ga K "Order") "after" (He.ma K (He.ga K "Order") "after") := He.meth_ok (T.s.fact 44 (f := .meth "Order" "after"))
theorem me_Order_skip (T : Top K mg) : Meth K (He.ga K "Order") "skip" (He.ma K (He.ga K "Order") "skip") := He.meth_ok (T.s.fact 45 (f := .meth "Order" "skip"))
theorem me_Order_first (T : Top K mg) : Meth K (He.ga K "Order") "first" (He.ma K (He.ga K "Order") "first") := He.meth_ok (T.s.fact 46 (f := .meth "Order" "first"))
theorem me_Order_began (T : Top K mg) : Meth K (He.ga K "Order") "began" (He.ma K (He.ga K "Order") "began") := He.meth_ok (T.s.fact 47 (f := .meth "Order" "began"))
theorem me_Order_twin (T : Top K mg) : Meth K (He.ga K "Order") "twin" (He.ma K (He.ga K "Order") "twin") := He.meth_ok (T.s.fact 48 (f := .meth "Order" "twin"))
theorem gl_Player (T : Top K mg) : mg "Player" = some (.ref (He.ga K "Player")) := let ⟨_, X, G⟩ := T.g; He.glo_ok X G (T.s.fact 49 (f := .glo "Player"))
theorem cl_Player (T : Top K mg) : Cls K (He.ga K "Player") := He.cls_ok (T.s.fact 50 (f := .cls "Player"))
theorem mk_Player (T : Top K mg) : Mk K (He.ga K "Player") (He.ma K (He.ga K "Player") "__init__") := He.mkr_ok (T.s.fact 51 (f := .mkr "Player"))
theorem na_Player_shelf (T : Top K mg) : NoAttr K (He.ga K "Player") "shelf" := He.noat_ok (T.s.fact 52 (f := .noat "Player" "shelf"))
theorem na_Player_overlap (T : Top K mg) : NoAttr K (He.ga K "Player") "overlap" := He.noat_ok (T.s.fact 53 (f := .noat "Player" "overlap"))
theorem na_Player_order (T : Top K mg) : NoAttr K (He.ga K "Player") "order" := He.noat_ok (T.s.fact 54 (f := .noat "Player" "order"))
theorem na_Player_time (T : Top K mg) : NoAttr K (He.ga K "Player") "time" := He.noat_ok (T.s.fact 55 (f := .noat "Player" "time"))
theorem na_Player_now (T : Top K mg) : NoAttr K (He.ga K "Player") "now" := He.noat_ok (T.s.fact 56 (f := .noat "Player" "now"))
theorem na_Player_spot (T : Top K mg) : NoAttr K (He.ga K "Player") "spot" := He.noat_ok (T.s.fact 57 (f := .noat "Player" "spot"))
theorem na_Player_old (T : Top K mg) : NoAttr K (He.ga K "Player") "old" := He.noat_ok (T.s.fact 58 (f := .noat "Player" "old"))
theorem na_Player_soon (T : Top K mg) : NoAttr K (He.ga K "Player") "soon" := He.noat_ok (T.s.fact 59 (f := .noat "Player" "soon"))
theorem na_Player_past (T : Top K mg) : NoAttr K (He.ga K "Player") "past" := He.noat_ok (T.s.fact 60 (f := .noat "Player" "past"))
theorem na_Player_rows (T : Top K mg) : NoAttr K (He.ga K "Player") "rows" := He.noat_ok (T.s.fact 61 (f := .noat "Player" "rows"))
theorem na_Player_is_playing (T : Top K mg) : NoAttr K (He.ga K "Player") "is_playing" := He.noat_ok (T.s.fact 62 (f := .noat "Player" "is_playing"))
theorem na_Player_stops (T : Top K mg) : NoAttr K (He.ga K "Player") "stops" := He.noat_ok (T.s.fact 63 (f := .noat "Player" "stops"))
theorem na_Player_sleep_left (T : Top K mg) : NoAttr K (He.ga K "Player") "sleep_left" := He.noat_ok (T.s.fact 64 (f := .noat "Player" "sleep_left"))
theorem me_Player_long (T : Top K mg) : Meth K (He.ga K "Player") "long" (He.ma K (He.ga K "Player") "long") := He.meth_ok (T.s.fact 65 (f := .meth "Player" "long"))
theorem me_Player_add (T : Top K mg) : Meth K (He.ga K "Player") "add" (He.ma K (He.ga K "Player") "add") := He.meth_ok (T.s.fact 66 (f := .meth "Player" "add"))
theorem me_Player_remove (T : Top K mg) : Meth K (He.ga K "Player") "remove" (He.ma K (He.ga K "Player") "remove") := He.meth_ok (T.s.fact 67 (f := .meth "Player" "remove"))
theorem me_Player_entries (T : Top K mg) : Meth K (He.ga K "Player") "entries" (He.ma K (He.ga K "Player") "entries") := He.meth_ok (T.s.fact 68 (f := .meth "Player" "entries"))
theorem me_Player_tune (T : Top K mg) : Meth K (He.ga K "Player") "tune" (He.ma K (He.ga K "Player") "tune") := He.meth_ok (T.s.fact 69 (f := .meth "Player" "tune"))
theorem me_Player_set_again (T : Top K mg) : Meth K (He.ga K "Player") "set_again" (He.ma K (He.ga K "Player") "set_again") := He.meth_ok (T.s.fact 70 (f := .meth "Player" "set_again"))
theorem me_Player_begin (T : Top K mg) : Meth K (He.ga K "Player") "begin" (He.ma K (He.ga K "Player") "begin") := He.meth_ok (T.s.fact 71 (f := .meth "Player" "begin"))
theorem me_Player_play (T : Top K mg) : Meth K (He.ga K "Player") "play" (He.ma K (He.ga K "Player") "play") := He.meth_ok (T.s.fact 72 (f := .meth "Player" "play"))
theorem me_Player_resume (T : Top K mg) : Meth K (He.ga K "Player") "resume" (He.ma K (He.ga K "Player") "resume") := He.meth_ok (T.s.fact 73 (f := .meth "Player" "resume"))
theorem me_Player_next_entry (T : Top K mg) : Meth K (He.ga K "Player") "next_entry" (He.ma K (He.ga K "Player") "next_entry") := He.meth_ok (T.s.fact 74 (f := .meth "Player" "next_entry"))
theorem me_Player_skip (T : Top K mg) : Meth K (He.ga K "Player") "skip" (He.ma K (He.ga K "Player") "skip") := He.meth_ok (T.s.fact 75 (f := .meth "Player" "skip"))
theorem me_Player_seek (T : Top K mg) : Meth K (He.ga K "Player") "seek" (He.ma K (He.ga K "Player") "seek") := He.meth_ok (T.s.fact 76 (f := .meth "Player" "seek"))
theorem me_Player_join_long (T : Top K mg) : Meth K (He.ga K "Player") "join_long" (He.ma K (He.ga K "Player") "join_long") := He.meth_ok (T.s.fact 77 (f := .meth "Player" "join_long"))
theorem me_Player_step (T : Top K mg) : Meth K (He.ga K "Player") "step" (He.ma K (He.ga K "Player") "step") := He.meth_ok (T.s.fact 78 (f := .meth "Player" "step"))
theorem me_Player_turn_over (T : Top K mg) : Meth K (He.ga K "Player") "turn_over" (He.ma K (He.ga K "Player") "turn_over") := He.meth_ok (T.s.fact 79 (f := .meth "Player" "turn_over"))
theorem me_Player_tick (T : Top K mg) : Meth K (He.ga K "Player") "tick" (He.ma K (He.ga K "Player") "tick") := He.meth_ok (T.s.fact 80 (f := .meth "Player" "tick"))
theorem me_Player_state (T : Top K mg) : Meth K (He.ga K "Player") "state" (He.ma K (He.ga K "Player") "state") := He.meth_ok (T.s.fact 81 (f := .meth "Player" "state"))
theorem me_Player_sounds (T : Top K mg) : Meth K (He.ga K "Player") "sounds" (He.ma K (He.ga K "Player") "sounds") := He.meth_ok (T.s.fact 82 (f := .meth "Player" "sounds"))
theorem me_Player_log (T : Top K mg) : Meth K (He.ga K "Player") "log" (He.ma K (He.ga K "Player") "log") := He.meth_ok (T.s.fact 83 (f := .meth "Player" "log"))
theorem me_Player_ticks (T : Top K mg) : Meth K (He.ga K "Player") "ticks" (He.ma K (He.ga K "Player") "ticks") := He.meth_ok (T.s.fact 84 (f := .meth "Player" "ticks"))
theorem me_Player_twin (T : Top K mg) : Meth K (He.ga K "Player") "twin" (He.ma K (He.ga K "Player") "twin") := He.meth_ok (T.s.fact 85 (f := .meth "Player" "twin"))
theorem gl_Shelf (T : Top K mg) : mg "Shelf" = some (.ref (He.ga K "Shelf")) := let ⟨_, X, G⟩ := T.g; He.glo_ok X G (T.s.fact 86 (f := .glo "Shelf"))
theorem cl_Shelf (T : Top K mg) : Cls K (He.ga K "Shelf") := He.cls_ok (T.s.fact 87 (f := .cls "Shelf"))
theorem mk_Shelf (T : Top K mg) : Mk K (He.ga K "Shelf") (He.ma K (He.ga K "Shelf") "__init__") := He.mkr_ok (T.s.fact 88 (f := .mkr "Shelf"))
theorem na_Shelf_longs (T : Top K mg) : NoAttr K (He.ga K "Shelf") "longs" := He.noat_ok (T.s.fact 89 (f := .noat "Shelf" "longs"))
theorem me_Shelf_add (T : Top K mg) : Meth K (He.ga K "Shelf") "add" (He.ma K (He.ga K "Shelf") "add") := He.meth_ok (T.s.fact 90 (f := .meth "Shelf" "add"))
theorem me_Shelf_need (T : Top K mg) : Meth K (He.ga K "Shelf") "need" (He.ma K (He.ga K "Shelf") "need") := He.meth_ok (T.s.fact 91 (f := .meth "Shelf" "need"))
theorem me_Shelf_long (T : Top K mg) : Meth K (He.ga K "Shelf") "long" (He.ma K (He.ga K "Shelf") "long") := He.meth_ok (T.s.fact 92 (f := .meth "Shelf" "long"))
theorem gl_mixed (T : Top K mg) : mg "mixed" = some (.ref (He.ga K "mixed")) := let ⟨_, X, G⟩ := T.g; He.glo_ok X G (T.s.fact 93 (f := .glo "mixed"))
theorem gl_look_name (T : Top K mg) : mg "look_name" = some (.ref (He.ga K "look_name")) := let ⟨_, X, G⟩ := T.g; He.glo_ok X G (T.s.fact 94 (f := .glo "look_name"))
theorem gl__law_cell (T : Top K mg) : mg "_law_cell" = some (.ref (He.ga K "_law_cell")) := let ⟨_, X, G⟩ := T.g; He.glo_ok X G (T.s.fact 95 (f := .glo "_law_cell"))
theorem gl__law_mix (T : Top K mg) : mg "_law_mix" = some (.ref (He.ga K "_law_mix")) := let ⟨_, X, G⟩ := T.g; He.glo_ok X G (T.s.fact 96 (f := .glo "_law_mix"))
theorem gl__law_draw (T : Top K mg) : mg "_law_draw" = some (.ref (He.ga K "_law_draw")) := let ⟨_, X, G⟩ := T.g; He.glo_ok X G (T.s.fact 97 (f := .glo "_law_draw"))
theorem gl__law_pick (T : Top K mg) : mg "_law_pick" = some (.ref (He.ga K "_law_pick")) := let ⟨_, X, G⟩ := T.g; He.glo_ok X G (T.s.fact 98 (f := .glo "_law_pick"))
theorem gl__law_shelf (T : Top K mg) : mg "_law_shelf" = some (.ref (He.ga K "_law_shelf")) := let ⟨_, X, G⟩ := T.g; He.glo_ok X G (T.s.fact 99 (f := .glo "_law_shelf"))
theorem gl__law_made (T : Top K mg) : mg "_law_made" = some (.ref (He.ga K "_law_made")) := let ⟨_, X, G⟩ := T.g; He.glo_ok X G (T.s.fact 100 (f := .glo "_law_made"))
theorem gl__law_begins (T : Top K mg) : mg "_law_begins" = some (.ref (He.ga K "_law_begins")) := let ⟨_, X, G⟩ := T.g; He.glo_ok X G (T.s.fact 101 (f := .glo "_law_begins"))
theorem gl_law (T : Top K mg) : mg "law" = some (.ref (He.ga K "law")) := let ⟨_, X, G⟩ := T.g; He.glo_ok X G (T.s.fact 102 (f := .glo "law"))
theorem gi_WHEEL (T : Top K mg) : ∃ t, mg "WHEEL" = some (.int 6075 t) := let ⟨_, X, G⟩ := T.g; He.int_ok X G (T.s.fact 103 (f := .int "WHEEL" 6075))
theorem gi_TIMES (T : Top K mg) : ∃ t, mg "TIMES" = some (.int 106 t) := let ⟨_, X, G⟩ := T.g; He.int_ok X G (T.s.fact 104 (f := .int "TIMES" 106))
theorem gi_MORE (T : Top K mg) : ∃ t, mg "MORE" = some (.int 1283 t) := let ⟨_, X, G⟩ := T.g; He.int_ok X G (T.s.fact 105 (f := .int "MORE" 1283))
theorem gi_MOST (T : Top K mg) : ∃ t, mg "MOST" = some (.int 60 t) := let ⟨_, X, G⟩ := T.g; He.int_ok X G (T.s.fact 106 (f := .int "MOST" 60))
theorem gi_MOST_ENTRIES (T : Top K mg) : ∃ t, mg "MOST_ENTRIES" = some (.int 12 t) := let ⟨_, X, G⟩ := T.g; He.int_ok X G (T.s.fact 107 (f := .int "MOST_ENTRIES" 12))
theorem gl_REPEATS (T : Top K mg) : mg "REPEATS" = some (.ref (He.ga K "REPEATS")) := let ⟨_, X, G⟩ := T.g; He.glo_ok X G (T.s.fact 108 (f := .glo "REPEATS"))
theorem gi_MOST_OVERLAP (T : Top K mg) : ∃ t, mg "MOST_OVERLAP" = some (.int 9 t) := let ⟨_, X, G⟩ := T.g; He.int_ok X G (T.s.fact 109 (f := .int "MOST_OVERLAP" 9))
theorem gi_MOST_TICKS (T : Top K mg) : ∃ t, mg "MOST_TICKS" = some (.int 200 t) := let ⟨_, X, G⟩ := T.g; He.int_ok X G (T.s.fact 110 (f := .int "MOST_TICKS" 200))
theorem gs_SMALL (T : Top K mg) : ∃ t, mg "SMALL" = some (.str "abcdefghijklmnopqrstuvwxyz" t) := let ⟨_, X, G⟩ := T.g; He.str_ok X G (T.s.fact 111 (f := .str "SMALL" "abcdefghijklmnopqrstuvwxyz"))
theorem gi_MOST_NAME (T : Top K mg) : ∃ t, mg "MOST_NAME" = some (.int 6 t) := let ⟨_, X, G⟩ := T.g; He.int_ok X G (T.s.fact 112 (f := .int "MOST_NAME" 6))
theorem gi_MOST_TUNES (T : Top K mg) : ∃ t, mg "MOST_TUNES" = some (.int 6 t) := let ⟨_, X, G⟩ := T.g; He.int_ok X G (T.s.fact 113 (f := .int "MOST_TUNES" 6))
theorem gi_MOST_LONG (T : Top K mg) : ∃ t, mg "MOST_LONG" = some (.int 40 t) := let ⟨_, X, G⟩ := T.g; He.int_ok X G (T.s.fact 114 (f := .int "MOST_LONG" 40))
theorem fr_len (T : Top K mg) : mg "len" = none := let ⟨_, X, G⟩ := T.g; He.free_ok X G (T.s.fact 115 (f := .free "len"))
theorem fr_range (T : Top K mg) : mg "range" = none := let ⟨_, X, G⟩ := T.g; He.free_ok X G (T.s.fact 116 (f := .free "range"))
theorem fr_list (T : Top K mg) : mg "list" = none := let ⟨_, X, G⟩ := T.g; He.free_ok X G (T.s.fact 117 (f := .free "list"))
theorem fr_min (T : Top K mg) : mg "min" = none := let ⟨_, X, G⟩ := T.g; He.free_ok X G (T.s.fact 118 (f := .free "min"))
theorem fr_all (T : Top K mg) : mg "all" = none := let ⟨_, X, G⟩ := T.g; He.free_ok X G (T.s.fact 119 (f := .free "all"))
theorem fr_any (T : Top K mg) : mg "any" = none := let ⟨_, X, G⟩ := T.g; He.free_ok X G (T.s.fact 120 (f := .free "any"))
theorem fr_dict (T : Top K mg) : mg "dict" = none := let ⟨_, X, G⟩ := T.g; He.free_ok X G (T.s.fact 121 (f := .free "dict"))
theorem fr_ValueError (T : Top K mg) : mg "ValueError" = none := let ⟨_, X, G⟩ := T.g; He.free_ok X G (T.s.fact 122 (f := .free "ValueError"))
theorem xb_RoadError (T : Top K mg) : ExcC K (He.ga K "RoadError") := excB_ok (T.s.more 1 (f := fun K => excB K "RoadError"))
theorem xb_BadTune (T : Top K mg) : ExcC K (He.ga K "BadTune") := excB_ok (T.s.more 2 (f := fun K => excB K "BadTune"))
theorem xb_BadNumber (T : Top K mg) : ExcC K (He.ga K "BadNumber") := excB_ok (T.s.more 3 (f := fun K => excB K "BadNumber"))
theorem xb_BadEntry (T : Top K mg) : ExcC K (He.ga K "BadEntry") := excB_ok (T.s.more 4 (f := fun K => excB K "BadEntry"))
theorem xb_BadWord (T : Top K mg) : ExcC K (He.ga K "BadWord") := excB_ok (T.s.more 5 (f := fun K => excB K "BadWord"))
theorem tu_REPEATS (T : Top K mg) (H : Hp) : SqT K H (He.ga K "REPEATS") (([.str "none", .str "all", .str "one"] : List He.Dv).map (He.Dv.v K)) := He.tupB_ok (T.s.more 6 (f := fun K => He.tupB K "REPEATS" [.str "none", .str "all", .str "one"])) H
instance [T : Top K mg] : FldI K (He.ga K "Dice") "number" := ⟨cl_Dice T, na_Dice_number T⟩
instance [T : Top K mg] : FldI K (He.ga K "Queue") "tunes" := ⟨cl_Queue T, na_Queue_tunes T⟩
instance [T : Top K mg] : FldI K (He.ga K "Queue") "turn" := ⟨cl_Queue T, na_Queue_turn T⟩
instance [T : Top K mg] : FldI K (He.ga K "Queue") "last" := ⟨cl_Queue T, na_Queue_last T⟩
instance [T : Top K mg] : FldI K (He.ga K "Order") "queue" := ⟨cl_Order T, na_Order_queue T⟩
instance [T : Top K mg] : FldI K (He.ga K "Order") "dice" := ⟨cl_Order T, na_Order_dice T⟩
instance [T : Top K mg] : FldI K (He.ga K "Order") "is_mixed" := ⟨cl_Order T, na_Order_is_mixed T⟩
instance [T : Top K mg] : FldI K (He.ga K "Order") "again" := ⟨cl_Order T, na_Order_again T⟩
instance [T : Top K mg] : FldI K (He.ga K "Order") "deck" := ⟨cl_Order T, na_Order_deck T⟩
instance [T : Top K mg] : FldI K (He.ga K "Order") "is_gone" := ⟨cl_Order T, na_Order_is_gone T⟩
instance [T : Top K mg] : FldI K (He.ga K "Order") "behind" := ⟨cl_Order T, na_Order_behind T⟩
instance [T : Top K mg] : FldI K (He.ga K "Player") "shelf" := ⟨cl_Player T, na_Player_shelf T⟩
instance [T : Top K mg] : FldI K (He.ga K "Player") "overlap" := ⟨cl_Player T, na_Player_overlap T⟩
instance [T : Top K mg] : FldI K (He.ga K "Player") "order" := ⟨cl_Player T, na_Player_order T⟩
instance [T : Top K mg] : FldI K (He.ga K "Player") "time" := ⟨cl_Player T, na_Player_time T⟩
instance [T : Top K mg] : FldI K (He.ga K "Player") "now" := ⟨cl_Player T, na_Player_now T⟩
instance [T : Top K mg] : FldI K (He.ga K "Player") "spot" := ⟨cl_Player T, na_Player_spot T⟩
instance [T : Top K mg] : FldI K (He.ga K "Player") "old" := ⟨cl_Player T, na_Player_old T⟩
instance [T : Top K mg] : FldI K (He.ga K "Player") "soon" := ⟨cl_Player T, na_Player_soon T⟩
instance [T : Top K mg] : FldI K (He.ga K "Player") "past" := ⟨cl_Player T, na_Player_past T⟩
instance [T : Top K mg] : FldI K (He.ga K "Player") "rows" := ⟨cl_Player T, na_Player_rows T⟩
instance [T : Top K mg] : FldI K (He.ga K "Player") "is_playing" := ⟨cl_Player T, na_Player_is_playing T⟩
instance [T : Top K mg] : FldI K (He.ga K "Player") "stops" := ⟨cl_Player T, na_Player_stops T⟩
instance [T : Top K mg] : FldI K (He.ga K "Player") "sleep_left" := ⟨cl_Player T, na_Player_sleep_left T⟩
instance [T : Top K mg] : FldI K (He.ga K "Shelf") "longs" := ⟨cl_Shelf T, na_Shelf_longs T⟩
theorem df_Dice_init (T : Top K mg) : ∃ fd, FunD K "__init__" "Dice.__init__" (defArgs s_Dice_init) (defBody s_Dice_init) (defScope s_Dice_init) [] [] (He.fAd K ("Dice", some "__init__")) fd := T.s.d.def_ 0 (d := d_Dice_init)
theorem df_Dice_below (T : Top K mg) : ∃ fd, FunD K "below" "Dice.below" (defArgs s_Dice_below) (defBody s_Dice_below) (defScope s_Dice_below) [] [] (He.fAd K ("Dice", some "below")) fd := T.s.d.def_ 1 (d := d_Dice_below)
theorem df_Dice_twin (T : Top K mg) : ∃ fd, FunD K "twin" "Dice.twin" (defArgs s_Dice_twin) (defBody s_Dice_twin) (defScope s_Dice_twin) [] [] (He.fAd K ("Dice", some "twin")) fd := T.s.d.def_ 2 (d := d_Dice_twin)
theorem df_mixed (T : Top K mg) : ∃ fd, FunD K "mixed" "mixed" (defArgs s_mixed) (defBody s_mixed) (defScope s_mixed) [] [] (He.fAd K ("mixed", none)) fd := T.s.d.def_ 3 (d := d_mixed)
theorem df_Queue_init (T : Top K mg) : ∃ fd, FunD K "__init__" "Queue.__init__" (defArgs s_Queue_init) (defBody s_Queue_init) (defScope s_Queue_init) [] [] (He.fAd K ("Queue", some "__init__")) fd := T.s.d.def_ 4 (d := d_Queue_init)
theorem df_Queue_entries (T : Top K mg) : ∃ fd, FunD K "entries" "Queue.entries" (defArgs s_Queue_entries) (defBody s_Queue_entries) (defScope s_Queue_entries) [] [] (He.fAd K ("Queue", some "entries")) fd := T.s.d.def_ 5 (d := d_Queue_entries)
theorem df_Queue_need (T : Top K mg) : ∃ fd, FunD K "need" "Queue.need" (defArgs s_Queue_need) (defBody s_Queue_need) (defScope s_Queue_need) [] [] (He.fAd K ("Queue", some "need")) fd := T.s.d.def_ 6 (d := d_Queue_need)
theorem df_Queue_tune (T : Top K mg) : ∃ fd, FunD K "tune" "Queue.tune" (defArgs s_Queue_tune) (defBody s_Queue_tune) (defScope s_Queue_tune) [] [] (He.fAd K ("Queue", some "tune")) fd := T.s.d.def_ 7 (d := d_Queue_tune)
theorem df_Queue_put (T : Top K mg) : ∃ fd, FunD K "put" "Queue.put" (defArgs s_Queue_put) (defBody s_Queue_put) (defScope s_Queue_put) [] [] (He.fAd K ("Queue", some "put")) fd := T.s.d.def_ 8 (d := d_Queue_put)
theorem df_Queue_remove (T : Top K mg) : ∃ fd, FunD K "remove" "Queue.remove" (defArgs s_Queue_remove) (defBody s_Queue_remove) (defScope s_Queue_remove) [] [] (He.fAd K ("Queue", some "remove")) fd := T.s.d.def_ 9 (d := d_Queue_remove)
theorem df_Queue_place (T : Top K mg) : ∃ fd, FunD K "place" "Queue.place" (defArgs s_Queue_place) (defBody s_Queue_place) (defScope s_Queue_place) [] [] (He.fAd K ("Queue", some "place")) fd := T.s.d.def_ 10 (d := d_Queue_place)
theorem df_Queue_twin (T : Top K mg) : ∃ fd, FunD K "twin" "Queue.twin" (defArgs s_Queue_twin) (defBody s_Queue_twin) (defScope s_Queue_twin) [] [] (He.fAd K ("Queue", some "twin")) fd := T.s.d.def_ 11 (d := d_Queue_twin)
theorem df_Order_init (T : Top K mg) : ∃ fd, FunD K "__init__" "Order.__init__" (defArgs s_Order_init) (defBody s_Order_init) (defScope s_Order_init) [] [] (He.fAd K ("Order", some "__init__")) fd := T.s.d.def_ 12 (d := d_Order_init)
theorem df_Order_set_again (T : Top K mg) : ∃ fd, FunD K "set_again" "Order.set_again" (defArgs s_Order_set_again) (defBody s_Order_set_again) (defScope s_Order_set_again) [] [] (He.fAd K ("Order", some "set_again")) fd := T.s.d.def_ 13 (d := d_Order_set_again)
theorem df_Order_put (T : Top K mg) : ∃ fd, FunD K "put" "Order.put" (defArgs s_Order_put) (defBody s_Order_put) (defScope s_Order_put) [] [] (He.fAd K ("Order", some "put")) fd := T.s.d.def_ 14 (d := d_Order_put)
theorem df_Order_remove (T : Top K mg) : ∃ fd, FunD K "remove" "Order.remove" (defArgs s_Order_remove) (defBody s_Order_remove) (defScope s_Order_remove) [] [] (He.fAd K ("Order", some "remove")) fd := T.s.d.def_ 15 (d := d_Order_remove)
theorem df_Order_next_plain (T : Top K mg) : ∃ fd, FunD K "next_plain" "Order.next_plain" (defArgs s_Order_next_plain) (defBody s_Order_next_plain) (defScope s_Order_next_plain) [] [] (He.fAd K ("Order", some "next_plain")) fd := T.s.d.def_ 16 (d := d_Order_next_plain)
theorem df_Order_next_mixed (T : Top K mg) : ∃ fd, FunD K "next_mixed" "Order.next_mixed" (defArgs s_Order_next_mixed) (defBody s_Order_next_mixed) (defScope s_Order_next_mixed) [] [] (He.fAd K ("Order", some "next_mixed")) fd := T.s.d.def_ 17 (d := d_Order_next_mixed)
theorem df_Order_after (T : Top K mg) : ∃ fd, FunD K "after" "Order.after" (defArgs s_Order_after) (defBody s_Order_after) (defScope s_Order_after) [] [] (He.fAd K ("Order", some "after")) fd := T.s.d.def_ 18 (d := d_Order_after)
theorem df_Order_skip (T : Top K mg) : ∃ fd, FunD K "skip" "Order.skip" (defArgs s_Order_skip) (defBody s_Order_skip) (defScope s_Order_skip) [] [] (He.fAd K ("Order", some "skip")) fd := T.s.d.def_ 19 (d := d_Order_skip)
theorem df_Order_first (T : Top K mg) : ∃ fd, FunD K "first" "Order.first" (defArgs s_Order_first) (defBody s_Order_first) (defScope s_Order_first) [] [] (He.fAd K ("Order", some "first")) fd := T.s.d.def_ 20 (d := d_Order_first)
theorem df_Order_began (T : Top K mg) : ∃ fd, FunD K "began" "Order.began" (defArgs s_Order_began) (defBody s_Order_began) (defScope s_Order_began) [] [] (He.fAd K ("Order", some "began")) fd := T.s.d.def_ 21 (d := d_Order_began)
theorem df_Order_twin (T : Top K mg) : ∃ fd, FunD K "twin" "Order.twin" (defArgs s_Order_twin) (defBody s_Order_twin) (defScope s_Order_twin) [] [] (He.fAd K ("Order", some "twin")) fd := T.s.d.def_ 22 (d := d_Order_twin)
theorem df_Player_init (T : Top K mg) : ∃ fd, FunD K "__init__" "Player.__init__" (defArgs s_Player_init) (defBody s_Player_init) (defScope s_Player_init) [] [] (He.fAd K ("Player", some "__init__")) fd := T.s.d.def_ 23 (d := d_Player_init)
theorem df_Player_long (T : Top K mg) : ∃ fd, FunD K "long" "Player.long" (defArgs s_Player_long) (defBody s_Player_long) (defScope s_Player_long) [] [] (He.fAd K ("Player", some "long")) fd := T.s.d.def_ 24 (d := d_Player_long)
theorem df_Player_add (T : Top K mg) : ∃ fd, FunD K "add" "Player.add" (defArgs s_Player_add) (defBody s_Player_add) (defScope s_Player_add) [] [] (He.fAd K ("Player", some "add")) fd := T.s.d.def_ 25 (d := d_Player_add)
theorem df_Player_remove (T : Top K mg) : ∃ fd, FunD K "remove" "Player.remove" (defArgs s_Player_remove) (defBody s_Player_remove) (defScope s_Player_remove) [] [] (He.fAd K ("Player", some "remove")) fd := T.s.d.def_ 26 (d := d_Player_remove)
theorem df_Player_entries (T : Top K mg) : ∃ fd, FunD K "entries" "Player.entries" (defArgs s_Player_entries) (defBody s_Player_entries) (defScope s_Player_entries) [] [] (He.fAd K ("Player", some "entries")) fd := T.s.d.def_ 27 (d := d_Player_entries)
theorem df_Player_tune (T : Top K mg) : ∃ fd, FunD K "tune" "Player.tune" (defArgs s_Player_tune) (defBody s_Player_tune) (defScope s_Player_tune) [] [] (He.fAd K ("Player", some "tune")) fd := T.s.d.def_ 28 (d := d_Player_tune)
theorem df_Player_set_again (T : Top K mg) : ∃ fd, FunD K "set_again" "Player.set_again" (defArgs s_Player_set_again) (defBody s_Player_set_again) (defScope s_Player_set_again) [] [] (He.fAd K ("Player", some "set_again")) fd := T.s.d.def_ 29 (d := d_Player_set_again)
theorem df_Player_begin (T : Top K mg) : ∃ fd, FunD K "begin" "Player.begin" (defArgs s_Player_begin) (defBody s_Player_begin) (defScope s_Player_begin) [] [] (He.fAd K ("Player", some "begin")) fd := T.s.d.def_ 30 (d := d_Player_begin)
theorem df_Player_play (T : Top K mg) : ∃ fd, FunD K "play" "Player.play" (defArgs s_Player_play) (defBody s_Player_play) (defScope s_Player_play) [] [] (He.fAd K ("Player", some "play")) fd := T.s.d.def_ 31 (d := d_Player_play)
theorem df_Player_resume (T : Top K mg) : ∃ fd, FunD K "resume" "Player.resume" (defArgs s_Player_resume) (defBody s_Player_resume) (defScope s_Player_resume) [] [] (He.fAd K ("Player", some "resume")) fd := T.s.d.def_ 32 (d := d_Player_resume)
theorem df_Player_next_entry (T : Top K mg) : ∃ fd, FunD K "next_entry" "Player.next_entry" (defArgs s_Player_next_entry) (defBody s_Player_next_entry) (defScope s_Player_next_entry) [] [] (He.fAd K ("Player", some "next_entry")) fd := T.s.d.def_ 33 (d := d_Player_next_entry)
theorem df_Player_skip (T : Top K mg) : ∃ fd, FunD K "skip" "Player.skip" (defArgs s_Player_skip) (defBody s_Player_skip) (defScope s_Player_skip) [] [] (He.fAd K ("Player", some "skip")) fd := T.s.d.def_ 34 (d := d_Player_skip)
theorem df_Player_seek (T : Top K mg) : ∃ fd, FunD K "seek" "Player.seek" (defArgs s_Player_seek) (defBody s_Player_seek) (defScope s_Player_seek) [] [] (He.fAd K ("Player", some "seek")) fd := T.s.d.def_ 35 (d := d_Player_seek)
theorem df_Player_join_long (T : Top K mg) : ∃ fd, FunD K "join_long" "Player.join_long" (defArgs s_Player_join_long) (defBody s_Player_join_long) (defScope s_Player_join_long) [] [] (He.fAd K ("Player", some "join_long")) fd := T.s.d.def_ 36 (d := d_Player_join_long)
theorem df_Player_step (T : Top K mg) : ∃ fd, FunD K "step" "Player.step" (defArgs s_Player_step) (defBody s_Player_step) (defScope s_Player_step) [] [] (He.fAd K ("Player", some "step")) fd := T.s.d.def_ 37 (d := d_Player_step)
theorem df_Player_turn_over (T : Top K mg) : ∃ fd, FunD K "turn_over" "Player.turn_over" (defArgs s_Player_turn_over) (defBody s_Player_turn_over) (defScope s_Player_turn_over) [] [] (He.fAd K ("Player", some "turn_over")) fd := T.s.d.def_ 38 (d := d_Player_turn_over)
theorem df_Player_tick (T : Top K mg) : ∃ fd, FunD K "tick" "Player.tick" (defArgs s_Player_tick) (defBody s_Player_tick) (defScope s_Player_tick) [] [] (He.fAd K ("Player", some "tick")) fd := T.s.d.def_ 39 (d := d_Player_tick)
theorem df_Player_state (T : Top K mg) : ∃ fd, FunD K "state" "Player.state" (defArgs s_Player_state) (defBody s_Player_state) (defScope s_Player_state) [] [] (He.fAd K ("Player", some "state")) fd := T.s.d.def_ 40 (d := d_Player_state)
theorem df_Player_sounds (T : Top K mg) : ∃ fd, FunD K "sounds" "Player.sounds" (defArgs s_Player_sounds) (defBody s_Player_sounds) (defScope s_Player_sounds) [] [] (He.fAd K ("Player", some "sounds")) fd := T.s.d.def_ 41 (d := d_Player_sounds)
theorem df_Player_log (T : Top K mg) : ∃ fd, FunD K "log" "Player.log" (defArgs s_Player_log) (defBody s_Player_log) (defScope s_Player_log) [] [] (He.fAd K ("Player", some "log")) fd := T.s.d.def_ 42 (d := d_Player_log)
theorem df_Player_ticks (T : Top K mg) : ∃ fd, FunD K "ticks" "Player.ticks" (defArgs s_Player_ticks) (defBody s_Player_ticks) (defScope s_Player_ticks) [] [] (He.fAd K ("Player", some "ticks")) fd := T.s.d.def_ 43 (d := d_Player_ticks)
theorem df_Player_twin (T : Top K mg) : ∃ fd, FunD K "twin" "Player.twin" (defArgs s_Player_twin) (defBody s_Player_twin) (defScope s_Player_twin) [] [] (He.fAd K ("Player", some "twin")) fd := T.s.d.def_ 44 (d := d_Player_twin)
theorem df_look_name (T : Top K mg) : ∃ fd, FunD K "look_name" "look_name" (defArgs s_look_name) (defBody s_look_name) (defScope s_look_name) [] [] (He.fAd K ("look_name", none)) fd := T.s.d.def_ 45 (d := d_look_name)
theorem df_Shelf_init (T : Top K mg) : ∃ fd, FunD K "__init__" "Shelf.__init__" (defArgs s_Shelf_init) (defBody s_Shelf_init) (defScope s_Shelf_init) [] [] (He.fAd K ("Shelf", some "__init__")) fd := T.s.d.def_ 46 (d := d_Shelf_init)
theorem df_Shelf_add (T : Top K mg) : ∃ fd, FunD K "add" "Shelf.add" (defArgs s_Shelf_add) (defBody s_Shelf_add) (defScope s_Shelf_add) [] [] (He.fAd K ("Shelf", some "add")) fd := T.s.d.def_ 47 (d := d_Shelf_add)
theorem df_Shelf_need (T : Top K mg) : ∃ fd, FunD K "need" "Shelf.need" (defArgs s_Shelf_need) (defBody s_Shelf_need) (defScope s_Shelf_need) [] [] (He.fAd K ("Shelf", some "need")) fd := T.s.d.def_ 48 (d := d_Shelf_need)
theorem df_Shelf_long (T : Top K mg) : ∃ fd, FunD K "long" "Shelf.long" (defArgs s_Shelf_long) (defBody s_Shelf_long) (defScope s_Shelf_long) [] [] (He.fAd K ("Shelf", some "long")) fd := T.s.d.def_ 49 (d := d_Shelf_long)
theorem df_l_cell (T : Top K mg) : ∃ fd, FunD K "_law_cell" "_law_cell" (defArgs s_l_cell) (defBody s_l_cell) (defScope s_l_cell) [] [] (He.fAd K ("_law_cell", none)) fd := T.s.d.def_ 50 (d := d_l_cell)
theorem df_l_mix (T : Top K mg) : ∃ fd, FunD K "_law_mix" "_law_mix" (defArgs s_l_mix) (defBody s_l_mix) (defScope s_l_mix) [] [] (He.fAd K ("_law_mix", none)) fd := T.s.d.def_ 51 (d := d_l_mix)
theorem df_l_draw (T : Top K mg) : ∃ fd, FunD K "_law_draw" "_law_draw" (defArgs s_l_draw) (defBody s_l_draw) (defScope s_l_draw) [] [] (He.fAd K ("_law_draw", none)) fd := T.s.d.def_ 52 (d := d_l_draw)
theorem df_l_pick (T : Top K mg) : ∃ fd, FunD K "_law_pick" "_law_pick" (defArgs s_l_pick) (defBody s_l_pick) (defScope s_l_pick) [] [] (He.fAd K ("_law_pick", none)) fd := T.s.d.def_ 53 (d := d_l_pick)
theorem df_l_shelf (T : Top K mg) : ∃ fd, FunD K "_law_shelf" "_law_shelf" (defArgs s_l_shelf) (defBody s_l_shelf) (defScope s_l_shelf) [] [] (He.fAd K ("_law_shelf", none)) fd := T.s.d.def_ 54 (d := d_l_shelf)
theorem df_l_made (T : Top K mg) : ∃ fd, FunD K "_law_made" "_law_made" (defArgs s_l_made) (defBody s_l_made) (defScope s_l_made) [] [] (He.fAd K ("_law_made", none)) fd := T.s.d.def_ 55 (d := d_l_made)
theorem df_l_begins (T : Top K mg) : ∃ fd, FunD K "_law_begins" "_law_begins" (defArgs s_l_begins) (defBody s_l_begins) (defScope s_l_begins) [] [] (He.fAd K ("_law_begins", none)) fd := T.s.d.def_ 56 (d := d_l_begins)
theorem df_law (T : Top K mg) : ∃ fd, FunD K "law" "law" (defArgs s_law) (defBody s_law) (defScope s_law) [] [] (He.fAd K ("law", none)) fd := T.s.d.def_ 57 (d := d_law)
end
def nmDice : List Str := ["number"]
theorem ndDice : nmDice.Nodup := by decide +kernel
instance : ∀ {a0 : V}, Fd (nmDice.zip [a0]) "number" a0 := fun {a0} => ⟨look_zip ndDice (i := 0) rfl rfl, len_zip (by decide)⟩
instance : ∀ {a0 y : V}, Fp (nmDice.zip [a0]) "number" y (nmDice.zip [y]) := fun {a0 y} => ⟨put_zip ndDice (i := 0) rfl (by show 0 < 1; decide), len_zip (by decide)⟩
instance : ∀ {y : V}, Fp ([]) "number" y (nmDice.zip [y]) := fun {y} => ⟨put_zip_new (vs := []) ndDice rfl, (by show 0 < 1000; decide)⟩
instance : NotF nmDice "below" := ⟨by decide +kernel⟩
instance : NotF nmDice "twin" := ⟨by decide +kernel⟩
def nmQueue : List Str := ["tunes", "turn", "last"]
theorem ndQueue : nmQueue.Nodup := by decide +kernel
instance : ∀ {a0 a1 a2 : V}, Fd (nmQueue.zip [a0, a1, a2]) "tunes" a0 := fun {a0 a1 a2} => ⟨look_zip ndQueue (i := 0) rfl rfl, len_zip (by decide)⟩
instance : ∀ {a0 a1 a2 y : V}, Fp (nmQueue.zip [a0, a1, a2]) "tunes" y (nmQueue.zip [y, a1, a2]) := fun {a0 a1 a2 y} => ⟨put_zip ndQueue (i := 0) rfl (by show 0 < 3; decide), len_zip (by decide)⟩
instance : ∀ {y : V}, Fp ([]) "tunes" y (nmQueue.zip [y]) := fun {y} => ⟨put_zip_new (vs := []) ndQueue rfl, (by show 0 < 1000; decide)⟩
instance : ∀ {a0 a1 a2 : V}, Fd (nmQueue.zip [a0, a1, a2]) "turn" a1 := fun {a0 a1 a2} => ⟨look_zip ndQueue (i := 1) rfl rfl, len_zip (by decide)⟩
instance : ∀ {a0 a1 a2 y : V}, Fp (nmQueue.zip [a0, a1, a2]) "turn" y (nmQueue.zip [a0, y, a2]) := fun {a0 a1 a2 y} => ⟨put_zip ndQueue (i := 1) rfl (by show 1 < 3; decide), len_zip (by decide)⟩
instance : ∀ {a0 y : V}, Fp (nmQueue.zip [a0]) "turn" y (nmQueue.zip [a0, y]) := fun {a0 y} => ⟨put_zip_new (vs := [a0]) ndQueue rfl, len_zip (by decide)⟩
instance : ∀ {a0 a1 a2 : V}, Fd (nmQueue.zip [a0, a1, a2]) "last" a2 := fun {a0 a1 a2} => ⟨look_zip ndQueue (i := 2) rfl rfl, len_zip (by decide)⟩
instance : ∀ {a0 a1 a2 y : V}, Fp (nmQueue.zip [a0, a1, a2]) "last" y (nmQueue.zip [a0, a1, y]) := fun {a0 a1 a2 y} => ⟨put_zip ndQueue (i := 2) rfl (by show 2 < 3; decide), len_zip (by decide)⟩
instance : ∀ {a0 a1 y : V}, Fp (nmQueue.zip [a0, a1]) "last" y (nmQueue.zip [a0, a1, y]) := fun {a0 a1 y} => ⟨put_zip_new (vs := [a0, a1]) ndQueue rfl, len_zip (by decide)⟩
instance : NotF nmQueue "entries" := ⟨by decide +kernel⟩
instance : NotF nmQueue "need" := ⟨by decide +kernel⟩
instance : NotF nmQueue "tune" := ⟨by decide +kernel⟩
instance : NotF nmQueue "put" := ⟨by decide +kernel⟩
instance : NotF nmQueue "remove" := ⟨by decide +kernel⟩
instance : NotF nmQueue "place" := ⟨by decide +kernel⟩
instance : NotF nmQueue "twin" := ⟨by decide +kernel⟩
def nmOrder : List Str := ["queue", "dice", "is_mixed", "again", "deck", "is_gone", "behind"]
theorem ndOrder : nmOrder.Nodup := by decide +kernel
instance : ∀ {a0 a1 a2 a3 a4 a5 a6 : V}, Fd (nmOrder.zip [a0, a1, a2, a3, a4, a5, a6]) "queue" a0 := fun {a0 a1 a2 a3 a4 a5 a6} => ⟨look_zip ndOrder (i := 0) rfl rfl, len_zip (by decide)⟩
instance : ∀ {a0 a1 a2 a3 a4 a5 a6 y : V}, Fp (nmOrder.zip [a0, a1, a2, a3, a4, a5, a6]) "queue" y (nmOrder.zip [y, a1, a2, a3, a4, a5, a6]) := fun {a0 a1 a2 a3 a4 a5 a6 y} => ⟨put_zip ndOrder (i := 0) rfl (by show 0 < 7; decide), len_zip (by decide)⟩
instance : ∀ {y : V}, Fp ([]) "queue" y (nmOrder.zip [y]) := fun {y} => ⟨put_zip_new (vs := []) ndOrder rfl, (by show 0 < 1000; decide)⟩
instance : ∀ {a0 a1 a2 a3 a4 a5 a6 : V}, Fd (nmOrder.zip [a0, a1, a2, a3, a4, a5, a6]) "dice" a1 := fun {a0 a1 a2 a3 a4 a5 a6} => ⟨look_zip ndOrder (i := 1) rfl rfl, len_zip (by decide)⟩
instance : ∀ {a0 a1 a2 a3 a4 a5 a6 y : V}, Fp (nmOrder.zip [a0, a1, a2, a3, a4, a5, a6]) "dice" y (nmOrder.zip [a0, y, a2, a3, a4, a5, a6]) := fun {a0 a1 a2 a3 a4 a5 a6 y} => ⟨put_zip ndOrder (i := 1) rfl (by show 1 < 7; decide), len_zip (by decide)⟩
instance : ∀ {a0 y : V}, Fp (nmOrder.zip [a0]) "dice" y (nmOrder.zip [a0, y]) := fun {a0 y} => ⟨put_zip_new (vs := [a0]) ndOrder rfl, len_zip (by decide)⟩
instance : ∀ {a0 a1 a2 a3 a4 a5 a6 : V}, Fd (nmOrder.zip [a0, a1, a2, a3, a4, a5, a6]) "is_mixed" a2 := fun {a0 a1 a2 a3 a4 a5 a6} => ⟨look_zip ndOrder (i := 2) rfl rfl, len_zip (by decide)⟩
instance : ∀ {a0 a1 a2 a3 a4 a5 a6 y : V}, Fp (nmOrder.zip [a0, a1, a2, a3, a4, a5, a6]) "is_mixed" y (nmOrder.zip [a0, a1, y, a3, a4, a5, a6]) := fun {a0 a1 a2 a3 a4 a5 a6 y} => ⟨put_zip ndOrder (i := 2) rfl (by show 2 < 7; decide), len_zip (by decide)⟩
instance : ∀ {a0 a1 y : V}, Fp (nmOrder.zip [a0, a1]) "is_mixed" y (nmOrder.zip [a0, a1, y]) := fun {a0 a1 y} => ⟨put_zip_new (vs := [a0, a1]) ndOrder rfl, len_zip (by decide)⟩
instance : ∀ {a0 a1 a2 a3 a4 a5 a6 : V}, Fd (nmOrder.zip [a0, a1, a2, a3, a4, a5, a6]) "again" a3 := fun {a0 a1 a2 a3 a4 a5 a6} => ⟨look_zip ndOrder (i := 3) rfl rfl, len_zip (by decide)⟩
instance : ∀ {a0 a1 a2 a3 a4 a5 a6 y : V}, Fp (nmOrder.zip [a0, a1, a2, a3, a4, a5, a6]) "again" y (nmOrder.zip [a0, a1, a2, y, a4, a5, a6]) := fun {a0 a1 a2 a3 a4 a5 a6 y} => ⟨put_zip ndOrder (i := 3) rfl (by show 3 < 7; decide), len_zip (by decide)⟩
instance : ∀ {a0 a1 a2 y : V}, Fp (nmOrder.zip [a0, a1, a2]) "again" y (nmOrder.zip [a0, a1, a2, y]) := fun {a0 a1 a2 y} => ⟨put_zip_new (vs := [a0, a1, a2]) ndOrder rfl, len_zip (by decide)⟩
instance : ∀ {a0 a1 a2 a3 a4 a5 a6 : V}, Fd (nmOrder.zip [a0, a1, a2, a3, a4, a5, a6]) "deck" a4 := fun {a0 a1 a2 a3 a4 a5 a6} => ⟨look_zip ndOrder (i := 4) rfl rfl, len_zip (by decide)⟩
instance : ∀ {a0 a1 a2 a3 a4 a5 a6 y : V}, Fp (nmOrder.zip [a0, a1, a2, a3, a4, a5, a6]) "deck" y (nmOrder.zip [a0, a1, a2, a3, y, a5, a6]) := fun {a0 a1 a2 a3 a4 a5 a6 y} => ⟨put_zip ndOrder (i := 4) rfl (by show 4 < 7; decide), len_zip (by decide)⟩
instance : ∀ {a0 a1 a2 a3 y : V}, Fp (nmOrder.zip [a0, a1, a2, a3]) "deck" y (nmOrder.zip [a0, a1, a2, a3, y]) := fun {a0 a1 a2 a3 y} => ⟨put_zip_new (vs := [a0, a1, a2, a3]) ndOrder rfl, len_zip (by decide)⟩
instance : ∀ {a0 a1 a2 a3 a4 a5 a6 : V}, Fd (nmOrder.zip [a0, a1, a2, a3, a4, a5, a6]) "is_gone" a5 := fun {a0 a1 a2 a3 a4 a5 a6} => ⟨look_zip ndOrder (i := 5) rfl rfl, len_zip (by decide)⟩
instance : ∀ {a0 a1 a2 a3 a4 a5 a6 y : V}, Fp (nmOrder.zip [a0, a1, a2, a3, a4, a5, a6]) "is_gone" y (nmOrder.zip [a0, a1, a2, a3, a4, y, a6]) := fun {a0 a1 a2 a3 a4 a5 a6 y} => ⟨put_zip ndOrder (i := 5) rfl (by show 5 < 7; decide), len_zip (by decide)⟩
instance : ∀ {a0 a1 a2 a3 a4 y : V}, Fp (nmOrder.zip [a0, a1, a2, a3, a4]) "is_gone" y (nmOrder.zip [a0, a1, a2, a3, a4, y]) := fun {a0 a1 a2 a3 a4 y} => ⟨put_zip_new (vs := [a0, a1, a2, a3, a4]) ndOrder rfl, len_zip (by decide)⟩
instance : ∀ {a0 a1 a2 a3 a4 a5 a6 : V}, Fd (nmOrder.zip [a0, a1, a2, a3, a4, a5, a6]) "behind" a6 := fun {a0 a1 a2 a3 a4 a5 a6} => ⟨look_zip ndOrder (i := 6) rfl rfl, len_zip (by decide)⟩
instance : ∀ {a0 a1 a2 a3 a4 a5 a6 y : V}, Fp (nmOrder.zip [a0, a1, a2, a3, a4, a5, a6]) "behind" y (nmOrder.zip [a0, a1, a2, a3, a4, a5, y]) := fun {a0 a1 a2 a3 a4 a5 a6 y} => ⟨put_zip ndOrder (i := 6) rfl (by show 6 < 7; decide), len_zip (by decide)⟩
instance : ∀ {a0 a1 a2 a3 a4 a5 y : V}, Fp (nmOrder.zip [a0, a1, a2, a3, a4, a5]) "behind" y (nmOrder.zip [a0, a1, a2, a3, a4, a5, y]) := fun {a0 a1 a2 a3 a4 a5 y} => ⟨put_zip_new (vs := [a0, a1, a2, a3, a4, a5]) ndOrder rfl, len_zip (by decide)⟩
instance : NotF nmOrder "set_again" := ⟨by decide +kernel⟩
instance : NotF nmOrder "put" := ⟨by decide +kernel⟩
instance : NotF nmOrder "remove" := ⟨by decide +kernel⟩
instance : NotF nmOrder "next_plain" := ⟨by decide +kernel⟩
instance : NotF nmOrder "next_mixed" := ⟨by decide +kernel⟩
instance : NotF nmOrder "after" := ⟨by decide +kernel⟩
instance : NotF nmOrder "skip" := ⟨by decide +kernel⟩
instance : NotF nmOrder "first" := ⟨by decide +kernel⟩
instance : NotF nmOrder "began" := ⟨by decide +kernel⟩
instance : NotF nmOrder "twin" := ⟨by decide +kernel⟩
def nmPlayer : List Str := ["shelf", "overlap", "order", "time", "now", "spot", "old", "soon", "past", "rows", "is_playing", "stops", "sleep_left"]
theorem ndPlayer : nmPlayer.Nodup := by decide +kernel
instance : ∀ {a0 a1 a2 a3 a4 a5 a6 a7 a8 a9 a10 a11 a12 : V}, Fd (nmPlayer.zip [a0, a1, a2, a3, a4, a5, a6, a7, a8, a9, a10, a11, a12]) "shelf" a0 := fun {a0 a1 a2 a3 a4 a5 a6 a7 a8 a9 a10 a11 a12} => ⟨look_zip ndPlayer (i := 0) rfl rfl, len_zip (by decide)⟩
instance : ∀ {a0 a1 a2 a3 a4 a5 a6 a7 a8 a9 a10 a11 a12 y : V}, Fp (nmPlayer.zip [a0, a1, a2, a3, a4, a5, a6, a7, a8, a9, a10, a11, a12]) "shelf" y (nmPlayer.zip [y, a1, a2, a3, a4, a5, a6, a7, a8, a9, a10, a11, a12]) := fun {a0 a1 a2 a3 a4 a5 a6 a7 a8 a9 a10 a11 a12 y} => ⟨put_zip ndPlayer (i := 0) rfl (by show 0 < 13; decide), len_zip (by decide)⟩
instance : ∀ {y : V}, Fp ([]) "shelf" y (nmPlayer.zip [y]) := fun {y} => ⟨put_zip_new (vs := []) ndPlayer rfl, (by show 0 < 1000; decide)⟩
instance : ∀ {a0 a1 a2 a3 a4 a5 a6 a7 a8 a9 a10 a11 a12 : V}, Fd (nmPlayer.zip [a0, a1, a2, a3, a4, a5, a6, a7, a8, a9, a10, a11, a12]) "overlap" a1 := fun {a0 a1 a2 a3 a4 a5 a6 a7 a8 a9 a10 a11 a12} => ⟨look_zip ndPlayer (i := 1) rfl rfl, len_zip (by decide)⟩
instance : ∀ {a0 a1 a2 a3 a4 a5 a6 a7 a8 a9 a10 a11 a12 y : V}, Fp (nmPlayer.zip [a0, a1, a2, a3, a4, a5, a6, a7, a8, a9, a10, a11, a12]) "overlap" y (nmPlayer.zip [a0, y, a2, a3, a4, a5, a6, a7, a8, a9, a10, a11, a12]) := fun {a0 a1 a2 a3 a4 a5 a6 a7 a8 a9 a10 a11 a12 y} => ⟨put_zip ndPlayer (i := 1) rfl (by show 1 < 13; decide), len_zip (by decide)⟩
instance : ∀ {a0 y : V}, Fp (nmPlayer.zip [a0]) "overlap" y (nmPlayer.zip [a0, y]) := fun {a0 y} => ⟨put_zip_new (vs := [a0]) ndPlayer rfl, len_zip (by decide)⟩
instance : ∀ {a0 a1 a2 a3 a4 a5 a6 a7 a8 a9 a10 a11 a12 : V}, Fd (nmPlayer.zip [a0, a1, a2, a3, a4, a5, a6, a7, a8, a9, a10, a11, a12]) "order" a2 := fun {a0 a1 a2 a3 a4 a5 a6 a7 a8 a9 a10 a11 a12} => ⟨look_zip ndPlayer (i := 2) rfl rfl, len_zip (by decide)⟩
instance : ∀ {a0 a1 a2 a3 a4 a5 a6 a7 a8 a9 a10 a11 a12 y : V}, Fp (nmPlayer.zip [a0, a1, a2, a3, a4, a5, a6, a7, a8, a9, a10, a11, a12]) "order" y (nmPlayer.zip [a0, a1, y, a3, a4, a5, a6, a7, a8, a9, a10, a11, a12]) := fun {a0 a1 a2 a3 a4 a5 a6 a7 a8 a9 a10 a11 a12 y} => ⟨put_zip ndPlayer (i := 2) rfl (by show 2 < 13; decide), len_zip (by decide)⟩
instance : ∀ {a0 a1 y : V}, Fp (nmPlayer.zip [a0, a1]) "order" y (nmPlayer.zip [a0, a1, y]) := fun {a0 a1 y} => ⟨put_zip_new (vs := [a0, a1]) ndPlayer rfl, len_zip (by decide)⟩
instance : ∀ {a0 a1 a2 a3 a4 a5 a6 a7 a8 a9 a10 a11 a12 : V}, Fd (nmPlayer.zip [a0, a1, a2, a3, a4, a5, a6, a7, a8, a9, a10, a11, a12]) "time" a3 := fun {a0 a1 a2 a3 a4 a5 a6 a7 a8 a9 a10 a11 a12} => ⟨look_zip ndPlayer (i := 3) rfl rfl, len_zip (by decide)⟩
instance : ∀ {a0 a1 a2 a3 a4 a5 a6 a7 a8 a9 a10 a11 a12 y : V}, Fp (nmPlayer.zip [a0, a1, a2, a3, a4, a5, a6, a7, a8, a9, a10, a11, a12]) "time" y (nmPlayer.zip [a0, a1, a2, y, a4, a5, a6, a7, a8, a9, a10, a11, a12]) := fun {a0 a1 a2 a3 a4 a5 a6 a7 a8 a9 a10 a11 a12 y} => ⟨put_zip ndPlayer (i := 3) rfl (by show 3 < 13; decide), len_zip (by decide)⟩
instance : ∀ {a0 a1 a2 y : V}, Fp (nmPlayer.zip [a0, a1, a2]) "time" y (nmPlayer.zip [a0, a1, a2, y]) := fun {a0 a1 a2 y} => ⟨put_zip_new (vs := [a0, a1, a2]) ndPlayer rfl, len_zip (by decide)⟩
instance : ∀ {a0 a1 a2 a3 a4 a5 a6 a7 a8 a9 a10 a11 a12 : V}, Fd (nmPlayer.zip [a0, a1, a2, a3, a4, a5, a6, a7, a8, a9, a10, a11, a12]) "now" a4 := fun {a0 a1 a2 a3 a4 a5 a6 a7 a8 a9 a10 a11 a12} => ⟨look_zip ndPlayer (i := 4) rfl rfl, len_zip (by decide)⟩
instance : ∀ {a0 a1 a2 a3 a4 a5 a6 a7 a8 a9 a10 a11 a12 y : V}, Fp (nmPlayer.zip [a0, a1, a2, a3, a4, a5, a6, a7, a8, a9, a10, a11, a12]) "now" y (nmPlayer.zip [a0, a1, a2, a3, y, a5, a6, a7, a8, a9, a10, a11, a12]) := fun {a0 a1 a2 a3 a4 a5 a6 a7 a8 a9 a10 a11 a12 y} => ⟨put_zip ndPlayer (i := 4) rfl (by show 4 < 13; decide), len_zip (by decide)⟩
instance : ∀ {a0 a1 a2 a3 y : V}, Fp (nmPlayer.zip [a0, a1, a2, a3]) "now" y (nmPlayer.zip [a0, a1, a2, a3, y]) := fun {a0 a1 a2 a3 y} => ⟨put_zip_new (vs := [a0, a1, a2, a3]) ndPlayer rfl, len_zip (by decide)⟩
instance : ∀ {a0 a1 a2 a3 a4 a5 a6 a7 a8 a9 a10 a11 a12 : V}, Fd (nmPlayer.zip [a0, a1, a2, a3, a4, a5, a6, a7, a8, a9, a10, a11, a12]) "spot" a5 := fun {a0 a1 a2 a3 a4 a5 a6 a7 a8 a9 a10 a11 a12} => ⟨look_zip ndPlayer (i := 5) rfl rfl, len_zip (by decide)⟩
instance : ∀ {a0 a1 a2 a3 a4 a5 a6 a7 a8 a9 a10 a11 a12 y : V}, Fp (nmPlayer.zip [a0, a1, a2, a3, a4, a5, a6, a7, a8, a9, a10, a11, a12]) "spot" y (nmPlayer.zip [a0, a1, a2, a3, a4, y, a6, a7, a8, a9, a10, a11, a12]) := fun {a0 a1 a2 a3 a4 a5 a6 a7 a8 a9 a10 a11 a12 y} => ⟨put_zip ndPlayer (i := 5) rfl (by show 5 < 13; decide), len_zip (by decide)⟩
instance : ∀ {a0 a1 a2 a3 a4 y : V}, Fp (nmPlayer.zip [a0, a1, a2, a3, a4]) "spot" y (nmPlayer.zip [a0, a1, a2, a3, a4, y]) := fun {a0 a1 a2 a3 a4 y} => ⟨put_zip_new (vs := [a0, a1, a2, a3, a4]) ndPlayer rfl, len_zip (by decide)⟩
instance : ∀ {a0 a1 a2 a3 a4 a5 a6 a7 a8 a9 a10 a11 a12 : V}, Fd (nmPlayer.zip [a0, a1, a2, a3, a4, a5, a6, a7, a8, a9, a10, a11, a12]) "old" a6 := fun {a0 a1 a2 a3 a4 a5 a6 a7 a8 a9 a10 a11 a12} => ⟨look_zip ndPlayer (i := 6) rfl rfl, len_zip (by decide)⟩
instance : ∀ {a0 a1 a2 a3 a4 a5 a6 a7 a8 a9 a10 a11 a12 y : V}, Fp (nmPlayer.zip [a0, a1, a2, a3, a4, a5, a6, a7, a8, a9, a10, a11, a12]) "old" y (nmPlayer.zip [a0, a1, a2, a3, a4, a5, y, a7, a8, a9, a10, a11, a12]) := fun {a0 a1 a2 a3 a4 a5 a6 a7 a8 a9 a10 a11 a12 y} => ⟨put_zip ndPlayer (i := 6) rfl (by show 6 < 13; decide), len_zip (by decide)⟩
instance : ∀ {a0 a1 a2 a3 a4 a5 y : V}, Fp (nmPlayer.zip [a0, a1, a2, a3, a4, a5]) "old" y (nmPlayer.zip [a0, a1, a2, a3, a4, a5, y]) := fun {a0 a1 a2 a3 a4 a5 y} => ⟨put_zip_new (vs := [a0, a1, a2, a3, a4, a5]) ndPlayer rfl, len_zip (by decide)⟩
instance : ∀ {a0 a1 a2 a3 a4 a5 a6 a7 a8 a9 a10 a11 a12 : V}, Fd (nmPlayer.zip [a0, a1, a2, a3, a4, a5, a6, a7, a8, a9, a10, a11, a12]) "soon" a7 := fun {a0 a1 a2 a3 a4 a5 a6 a7 a8 a9 a10 a11 a12} => ⟨look_zip ndPlayer (i := 7) rfl rfl, len_zip (by decide)⟩
instance : ∀ {a0 a1 a2 a3 a4 a5 a6 a7 a8 a9 a10 a11 a12 y : V}, Fp (nmPlayer.zip [a0, a1, a2, a3, a4, a5, a6, a7, a8, a9, a10, a11, a12]) "soon" y (nmPlayer.zip [a0, a1, a2, a3, a4, a5, a6, y, a8, a9, a10, a11, a12]) := fun {a0 a1 a2 a3 a4 a5 a6 a7 a8 a9 a10 a11 a12 y} => ⟨put_zip ndPlayer (i := 7) rfl (by show 7 < 13; decide), len_zip (by decide)⟩
instance : ∀ {a0 a1 a2 a3 a4 a5 a6 y : V}, Fp (nmPlayer.zip [a0, a1, a2, a3, a4, a5, a6]) "soon" y (nmPlayer.zip [a0, a1, a2, a3, a4, a5, a6, y]) := fun {a0 a1 a2 a3 a4 a5 a6 y} => ⟨put_zip_new (vs := [a0, a1, a2, a3, a4, a5, a6]) ndPlayer rfl, len_zip (by decide)⟩
instance : ∀ {a0 a1 a2 a3 a4 a5 a6 a7 a8 a9 a10 a11 a12 : V}, Fd (nmPlayer.zip [a0, a1, a2, a3, a4, a5, a6, a7, a8, a9, a10, a11, a12]) "past" a8 := fun {a0 a1 a2 a3 a4 a5 a6 a7 a8 a9 a10 a11 a12} => ⟨look_zip ndPlayer (i := 8) rfl rfl, len_zip (by decide)⟩
instance : ∀ {a0 a1 a2 a3 a4 a5 a6 a7 a8 a9 a10 a11 a12 y : V}, Fp (nmPlayer.zip [a0, a1, a2, a3, a4, a5, a6, a7, a8, a9, a10, a11, a12]) "past" y (nmPlayer.zip [a0, a1, a2, a3, a4, a5, a6, a7, y, a9, a10, a11, a12]) := fun {a0 a1 a2 a3 a4 a5 a6 a7 a8 a9 a10 a11 a12 y} => ⟨put_zip ndPlayer (i := 8) rfl (by show 8 < 13; decide), len_zip (by decide)⟩
instance : ∀ {a0 a1 a2 a3 a4 a5 a6 a7 y : V}, Fp (nmPlayer.zip [a0, a1, a2, a3, a4, a5, a6, a7]) "past" y (nmPlayer.zip [a0, a1, a2, a3, a4, a5, a6, a7, y]) := fun {a0 a1 a2 a3 a4 a5 a6 a7 y} => ⟨put_zip_new (vs := [a0, a1, a2, a3, a4, a5, a6, a7]) ndPlayer rfl, len_zip (by decide)⟩
instance : ∀ {a0 a1 a2 a3 a4 a5 a6 a7 a8 a9 a10 a11 a12 : V}, Fd (nmPlayer.zip [a0, a1, a2, a3, a4, a5, a6, a7, a8, a9, a10, a11, a12]) "rows" a9 := fun {a0 a1 a2 a3 a4 a5 a6 a7 a8 a9 a10 a11 a12} => ⟨look_zip ndPlayer (i := 9) rfl rfl, len_zip (by decide)⟩
instance : ∀ {a0 a1 a2 a3 a4 a5 a6 a7 a8 a9 a10 a11 a12 y : V}, Fp (nmPlayer.zip [a0, a1, a2, a3, a4, a5, a6, a7, a8, a9, a10, a11, a12]) "rows" y (nmPlayer.zip [a0, a1, a2, a3, a4, a5, a6, a7, a8, y, a10, a11, a12]) := fun {a0 a1 a2 a3 a4 a5 a6 a7 a8 a9 a10 a11 a12 y} => ⟨put_zip ndPlayer (i := 9) rfl (by show 9 < 13; decide), len_zip (by decide)⟩
instance : ∀ {a0 a1 a2 a3 a4 a5 a6 a7 a8 y : V}, Fp (nmPlayer.zip [a0, a1, a2, a3, a4, a5, a6, a7, a8]) "rows" y (nmPlayer.zip [a0, a1, a2, a3, a4, a5, a6, a7, a8, y]) := fun {a0 a1 a2 a3 a4 a5 a6 a7 a8 y} => ⟨put_zip_new (vs := [a0, a1, a2, a3, a4, a5, a6, a7, a8]) ndPlayer rfl, len_zip (by decide)⟩
instance : ∀ {a0 a1 a2 a3 a4 a5 a6 a7 a8 a9 a10 a11 a12 : V}, Fd (nmPlayer.zip [a0, a1, a2, a3, a4, a5, a6, a7, a8, a9, a10, a11, a12]) "is_playing" a10 := fun {a0 a1 a2 a3 a4 a5 a6 a7 a8 a9 a10 a11 a12} => ⟨look_zip ndPlayer (i := 10) rfl rfl, len_zip (by decide)⟩
instance : ∀ {a0 a1 a2 a3 a4 a5 a6 a7 a8 a9 a10 a11 a12 y : V}, Fp (nmPlayer.zip [a0, a1, a2, a3, a4, a5, a6, a7, a8, a9, a10, a11, a12]) "is_playing" y (nmPlayer.zip [a0, a1, a2, a3, a4, a5, a6, a7, a8, a9, y, a11, a12]) := fun {a0 a1 a2 a3 a4 a5 a6 a7 a8 a9 a10 a11 a12 y} => ⟨put_zip ndPlayer (i := 10) rfl (by show 10 < 13; decide), len_zip (by decide)⟩
instance : ∀ {a0 a1 a2 a3 a4 a5 a6 a7 a8 a9 y : V}, Fp (nmPlayer.zip [a0, a1, a2, a3, a4, a5, a6, a7, a8, a9]) "is_playing" y (nmPlayer.zip [a0, a1, a2, a3, a4, a5, a6, a7, a8, a9, y]) := fun {a0 a1 a2 a3 a4 a5 a6 a7 a8 a9 y} => ⟨put_zip_new (vs := [a0, a1, a2, a3, a4, a5, a6, a7, a8, a9]) ndPlayer rfl, len_zip (by decide)⟩
instance : ∀ {a0 a1 a2 a3 a4 a5 a6 a7 a8 a9 a10 a11 a12 : V}, Fd (nmPlayer.zip [a0, a1, a2, a3, a4, a5, a6, a7, a8, a9, a10, a11, a12]) "stops" a11 := fun {a0 a1 a2 a3 a4 a5 a6 a7 a8 a9 a10 a11 a12} => ⟨look_zip ndPlayer (i := 11) rfl rfl, len_zip (by decide)⟩
instance : ∀ {a0 a1 a2 a3 a4 a5 a6 a7 a8 a9 a10 a11 a12 y : V}, Fp (nmPlayer.zip [a0, a1, a2, a3, a4, a5, a6, a7, a8, a9, a10, a11, a12]) "stops" y (nmPlayer.zip [a0, a1, a2, a3, a4, a5, a6, a7, a8, a9, a10, y, a12]) := fun {a0 a1 a2 a3 a4 a5 a6 a7 a8 a9 a10 a11 a12 y} => ⟨put_zip ndPlayer (i := 11) rfl (by show 11 < 13; decide), len_zip (by decide)⟩
instance : ∀ {a0 a1 a2 a3 a4 a5 a6 a7 a8 a9 a10 y : V}, Fp (nmPlayer.zip [a0, a1, a2, a3, a4, a5, a6, a7, a8, a9, a10]) "stops" y (nmPlayer.zip [a0, a1, a2, a3, a4, a5, a6, a7, a8, a9, a10, y]) := fun {a0 a1 a2 a3 a4 a5 a6 a7 a8 a9 a10 y} => ⟨put_zip_new (vs := [a0, a1, a2, a3, a4, a5, a6, a7, a8, a9, a10]) ndPlayer rfl, len_zip (by decide)⟩
instance : ∀ {a0 a1 a2 a3 a4 a5 a6 a7 a8 a9 a10 a11 a12 : V}, Fd (nmPlayer.zip [a0, a1, a2, a3, a4, a5, a6, a7, a8, a9, a10, a11, a12]) "sleep_left" a12 := fun {a0 a1 a2 a3 a4 a5 a6 a7 a8 a9 a10 a11 a12} => ⟨look_zip ndPlayer (i := 12) rfl rfl, len_zip (by decide)⟩
instance : ∀ {a0 a1 a2 a3 a4 a5 a6 a7 a8 a9 a10 a11 a12 y : V}, Fp (nmPlayer.zip [a0, a1, a2, a3, a4, a5, a6, a7, a8, a9, a10, a11, a12]) "sleep_left" y (nmPlayer.zip [a0, a1, a2, a3, a4, a5, a6, a7, a8, a9, a10, a11, y]) := fun {a0 a1 a2 a3 a4 a5 a6 a7 a8 a9 a10 a11 a12 y} => ⟨put_zip ndPlayer (i := 12) rfl (by show 12 < 13; decide), len_zip (by decide)⟩
instance : ∀ {a0 a1 a2 a3 a4 a5 a6 a7 a8 a9 a10 a11 y : V}, Fp (nmPlayer.zip [a0, a1, a2, a3, a4, a5, a6, a7, a8, a9, a10, a11]) "sleep_left" y (nmPlayer.zip [a0, a1, a2, a3, a4, a5, a6, a7, a8, a9, a10, a11, y]) := fun {a0 a1 a2 a3 a4 a5 a6 a7 a8 a9 a10 a11 y} => ⟨put_zip_new (vs := [a0, a1, a2, a3, a4, a5, a6, a7, a8, a9, a10, a11]) ndPlayer rfl, len_zip (by decide)⟩
instance : NotF nmPlayer "long" := ⟨by decide +kernel⟩
instance : NotF nmPlayer "add" := ⟨by decide +kernel⟩
instance : NotF nmPlayer "remove" := ⟨by decide +kernel⟩
instance : NotF nmPlayer "entries" := ⟨by decide +kernel⟩
instance : NotF nmPlayer "tune" := ⟨by decide +kernel⟩
instance : NotF nmPlayer "set_again" := ⟨by decide +kernel⟩
instance : NotF nmPlayer "begin" := ⟨by decide +kernel⟩
instance : NotF nmPlayer "play" := ⟨by decide +kernel⟩
instance : NotF nmPlayer "resume" := ⟨by decide +kernel⟩
instance : NotF nmPlayer "next_entry" := ⟨by decide +kernel⟩
instance : NotF nmPlayer "skip" := ⟨by decide +kernel⟩
instance : NotF nmPlayer "seek" := ⟨by decide +kernel⟩
instance : NotF nmPlayer "join_long" := ⟨by decide +kernel⟩
instance : NotF nmPlayer "step" := ⟨by decide +kernel⟩
instance : NotF nmPlayer "turn_over" := ⟨by decide +kernel⟩
instance : NotF nmPlayer "tick" := ⟨by decide +kernel⟩
instance : NotF nmPlayer "state" := ⟨by decide +kernel⟩
instance : NotF nmPlayer "sounds" := ⟨by decide +kernel⟩
instance : NotF nmPlayer "log" := ⟨by decide +kernel⟩
instance : NotF nmPlayer "ticks" := ⟨by decide +kernel⟩
instance : NotF nmPlayer "twin" := ⟨by decide +kernel⟩
def nmShelf : List Str := ["longs"]
theorem ndShelf : nmShelf.Nodup := by decide +kernel
instance : ∀ {a0 : V}, Fd (nmShelf.zip [a0]) "longs" a0 := fun {a0} => ⟨look_zip ndShelf (i := 0) rfl rfl, len_zip (by decide)⟩
instance : ∀ {a0 y : V}, Fp (nmShelf.zip [a0]) "longs" y (nmShelf.zip [y]) := fun {a0 y} => ⟨put_zip ndShelf (i := 0) rfl (by show 0 < 1; decide), len_zip (by decide)⟩
instance : ∀ {y : V}, Fp ([]) "longs" y (nmShelf.zip [y]) := fun {y} => ⟨put_zip_new (vs := []) ndShelf rfl, (by show 0 < 1000; decide)⟩
instance : NotF nmShelf "add" := ⟨by decide +kernel⟩
instance : NotF nmShelf "need" := ⟨by decide +kernel⟩
instance : NotF nmShelf "long" := ⟨by decide +kernel⟩
end TR

set_option Elab.async false
set_option linter.all false
set_option maxRecDepth 100000
set_option maxHeartbeats 4000000
/-! .. -/
set_option hygiene false
local macro_rules | `(tactic| walk_at "r1") => `(tactic| first
  | (with_reducible refine x_dnew hS (fun u H hS => ?_))
  | (with_reducible refine x_disp hS (fun u H hS => ?_))
  | (with_reducible refine y_un (sqL hS) ?_)
  | (with_reducible refine y_un0 (sqL hS) ?_)
  | (with_reducible refine y_bmd hS ?_)
  | (with_reducible refine y_bmd0 hS ?_)
  | (with_reducible refine x_keys hS (fun u H hS => ?_))
  | (with_reducible refine x_dcopy hS (fun u H hS => ?_))
  | (with_reducible refine y_gt1 hS ?_)
  | (with_reducible refine y_gt3s hS ?_)
  | (with_reducible refine y_dgo hS ?_)
  | (with_reducible refine y_dpo hS (fun H hS => ?_))
  | ((with_reducible refine x_try (fun pn xe tk po => ?_)); (try dsimp only [cxOf]))
  | ((with_reducible refine' y_lcb ?h1 ?_); (case h1 => exact rfl))
  | (with_reducible refine y_fld hS ?_)
  | (with_reducible refine y_meth hS ?_)
  | (with_reducible refine y_put hS (fun H hS => ?_))
  | ((with_reducible refine' x_var ?h1 ?_); (case h1 => exact rfl))
  | (with_reducible refine y_lst hS (by first | decide | (show _ ≤ sizeLine; simp only [List.length_cons, List.length_nil]; decide)) (fun u H hS => ?_))
  | (with_reducible refine y_tup hS (by first | decide | (show _ ≤ sizeLine; simp only [List.length_cons, List.length_nil]; decide)) (fun u H hS => ?_)))
local macro_rules | `(tactic| walk_at "s1") => `(tactic| first
  | apply_rules -exfalso -symm (transparency := .reducible) (maxDepth := 200) only [@x_seq, @x_asg, @y_asg, @x_name, @x_ifS, @y_ifS, @x_ret, @x_retN, @x_drop, @y_drop, @x_next, @x_cont, @x_test, @x_tB, @y_test, @x_not, @y_not, @x_and, @y_and, @x_or, @y_or, @x_chain, @y_ch1, @y_ch2, @y_ch3, @x_andV, @y_andV, @x_orV, @y_orV, @x_notV, @y_notV, @x_if, @y_ifE, @x_op, @y_op1, @y_op2, @x_un, @y_neg, @x_c, @x_fld, @x_sfld, @y_sf, @x_nil, @x_cons, @y_c1, @y_c2, @x_callS, @y_sp, @x_meth, @y_mt2, @x_make, @y_mq, @x_cb, @y_cb, @x_bm, @y_bq, @x_bm0, @x_rz, @x_lst, @x_tup, @x_sub, @y_sb1, @x_for1, @x_forL, @x_for3, @x_forT, @y_body, @x_tru, @y_trub, @y_trui, @y_trun, @x_gcons, @y_g, @x_gnil, @x_rev, @x_sl, @y_sl1, @y_sl2, @y_sl3, @x_nop, @x_part, @y_part, @x_lrange1, @x_lrange2, @y_lr2, @x_addI, @x_dget, @y_dg1, @x_din, @y_di1, @x_dnotin, @y_dn1, @x_dput, @y_dp1, @y_dp2, @x_prs, @y_pa, @y_pb, @x_prn, @y_pc, @x_m1, @y_m1a, @y_m1b, @x_lcS, @x_get2, @y_gt2, @x_forK, @y_wh1, @y_wh0, @y_wh1n, @y_wh0n, @x_lcT, @x_lcL, @x_lcR, @y_tt, @x_yes', @x_I0, @x_eqI, @x_neI, @x_isN, @x_notN, @x_tt, @x_ff, @x_nt, @x_nf]
  | walk_at "r1")
local macro_rules | `(tactic| walk_at "s") => `(tactic| repeat walk_at "s1")
local macro_rules | `(tactic| walk_at "go") => `(tactic| (dsimp only [cxOf]; repeat walk_at "s1"))
local macro_rules | `(tactic| walk_at "w1") => `(tactic| first
  | apply_rules -exfalso -symm (transparency := .reducible) (maxDepth := 200) only [@x_stop, @x_stopE, @x_stopA, @x_stopO, @x_seq, @x_asg, @y_asg, @x_name, @x_ifS, @y_ifS, @x_ret, @x_retN, @x_drop, @y_drop, @x_next, @x_cont, @x_test, @x_tB, @y_test, @x_not, @y_not, @x_and, @y_and, @x_or, @y_or, @x_chain, @y_ch1, @y_ch2, @y_ch3, @x_andV, @y_andV, @x_orV, @y_orV, @x_notV, @y_notV, @x_if, @y_ifE, @x_op, @y_op1, @y_op2, @x_un, @y_neg, @x_c, @x_fld, @x_sfld, @y_sf, @x_nil, @x_cons, @y_c1, @y_c2, @x_callS, @y_sp, @x_meth, @y_mt2, @x_make, @y_mq, @x_cb, @y_cb, @x_bm, @y_bq, @x_bm0, @x_rz, @x_lst, @x_tup, @x_sub, @y_sb1, @x_for1, @x_forL, @x_for3, @x_forT, @y_body, @x_tru, @y_trub, @y_trui, @y_trun, @x_gcons, @y_g, @x_gnil, @x_rev, @x_sl, @y_sl1, @y_sl2, @y_sl3, @x_nop, @x_part, @y_part, @x_lrange1, @x_lrange2, @y_lr2, @x_addI, @x_dget, @y_dg1, @x_din, @y_di1, @x_dnotin, @y_dn1, @x_dput, @y_dp1, @y_dp2, @x_prs, @y_pa, @y_pb, @x_prn, @y_pc, @x_m1, @y_m1a, @y_m1b, @x_lcS, @x_get2, @y_gt2, @x_forK, @y_wh1, @y_wh0, @y_wh1n, @y_wh0n, @x_lcT, @x_lcL, @x_lcR, @y_tt, @x_yes', @x_I0, @x_eqI, @x_neI, @x_isN, @x_notN, @x_tt, @x_ff, @x_nt, @x_nf]
  | walk_at "r1"
  | walk_at "k1")
local macro_rules | `(tactic| walk_at "k1") => `(tactic| first
  | ((with_reducible refine' x_eqS ?h1 ?_); (case h1 => exact rfl))
  | ((with_reducible refine' x_neS ?h1 ?_); (case h1 => exact rfl))
  | ((with_reducible refine' x_yes ?h1 ?_); (case h1 => exact rfl))
  | ((with_reducible refine' x_no ?h1 ?_); (case h1 => exact rfl)))
local macro_rules | `(tactic| walk_at "w") => `(tactic| repeat walk_at "w1")
local macro_rules | `(tactic| walk_at "wo") => `(tactic| (dsimp only [cxOf]; repeat walk_at "w1"))
local macro_rules | `(tactic| walk_at "v") => `(tactic| repeat (first | walk_at "s1" | walk_at "k1"))
local macro_rules | `(tactic| walk_at "w0") => `(tactic| dsimp only [cxOf])

namespace TR
open PySem PySem.Spec PyProof.Rows L2
section
variable {P : Program} {w : World} {K : PySem.W.Frag} {mg : Str → Option Value} {base : Heap}
/-! ### the law's draws -/
/-- the script -/
def ScrA (K : PySem.W.Frag) (a : Addr) (ns : List Int) : As := fun h => SqL K h a (ns.map V.int)
instance {K : PySem.W.Frag} {a : Addr} {ns : List Int} : Kys (ScrA K a ns) a := ⟨trivial⟩
theorem Sep.scr {a : Addr} {ns : List Int} {L R : List As} {H : Hp} (h : Sep L H) [q : AtA a L (ScrA K a ns) R] : SqL K H a (ns.map V.int) := by
  obtain ⟨h1, h2, s1, s2, d, x, r⟩ := q.en H h
  exact SqL.sb s1 x
/-- how many draws -/
def TownA (t : Addr) (n : Nat) : As := pt t (.lst (List.replicate n (V.int 0)))
instance {t : Addr} {n : Nat} : Kys (TownA t n) t := ⟨trivial⟩
def lcell (ns : List Int) (k : Nat) : Int := if ns = [] then 0 else ns.getD (k % ns.length) 0
def lmix (ns : List Int) (k : Nat) : Int :=
  let a := (lcell ns k + 104729 * ((k : Int) + 1)) % 4294967291
  let b := a ^ 5 % 4294967279
  (b / 64 * 69621 + b) % 4294967231
def draw (ns : List Int) (n : Nat) (m : Int) : Int := lmix ns n / 8 % m
theorem draw_ok (ns : List Int) (n : Nat) {m : Int} (h : 0 < m) : 0 ≤ draw ns n m ∧ draw ns n m < m := ⟨Int.emod_nonneg _ (by omega), Int.emod_lt_of_pos _ h⟩
def sp_l_cell (K : PySem.W.Frag) : Sp := fun vs H Q E => ∃ (a : Addr) (ns : List Int) (k : Nat) (R : List As), vs = [.ref a, .int (k : Nat)] ∧ Sep (ScrA K a ns :: R) H ∧ Q (.int (lcell ns k)) H
theorem ln_l_cell : ∀ vs H Q E, sp_l_cell K vs H Q E → vs.length = (["_law_script", "_law_k"] : List Str).length := by
  rintro _ _ _ _ ⟨a, ns, k, R, rfl, _⟩
  rfl
theorem sc_l_cell : FnScope ["_law_script", "_law_k"] ["_law_script", "_law_k"] (defScope s_l_cell) := ⟨rfl, rfl, rfl, by decide +kernel, rfl, by decide +kernel, by decide +kernel⟩
theorem ok_l_cell (T : Top K mg) : OkD P w K mg base d_l_cell 1 ["_law_script", "_law_k"] (sp_l_cell K) := by
  refine okD (df_l_cell T) sc_l_cell (fun _ _ _ _ _ _ us hl => match us, hl with | [_, _], _ => rfl) ln_l_cell (fun cdv A outer s H vs Q E hr h => ⟨_,
      pss_cons (ps_if (px_truth (pv 0) (by intro _; rfl))
       (pss_one (ps_ret (pe_ix ix_seq (pv 0) (pe_op op_mod (pv 1) (pe_callB call_lenA (by rfl) (fr_len T) (by decide +kernel) (pa_cons (pv 0) pa_nil))) (fun _ _ => rfl))))
       (pss_nil))
      (pss_one (ps_ret pe_int)), ?_⟩)
  obtain ⟨a, ns, k, R, rfl, hS, h1⟩ := h
  have hL : SqL K H a (ns.map V.int) := hS.scr
  walk_at "go"
  refine y_trul hL ?_
  walk_at "s"
  cases ns with
  | nil =>
    walk_at "s"
    exact h1
  | cons z r =>
    walk_at "s"
    refine x_yes rfl ?_
    walk_at "s"
    refine x_lenL hL ?_
    walk_at "s"
    have hp : (0 : Int) < (((z :: r).map V.int).length : Nat) := by
      rw [List.length_map, List.length_cons]
      omega
    refine x_I hp ?_
    have e : (k : Int) % ((((z :: r).map V.int).length : Nat) : Int) = ((k % (z :: r).length : Nat) : Int) := by
      rw [List.length_map] <;> rfl
    rw [e]
    have hlt : k % (z :: r).length < (z :: r).length := Nat.mod_lt _ (by rw [List.length_cons]; omega)
    refine x_ixL hL (atI_nat (v := V.int ((z :: r).getD (k % (z :: r).length) 0)) (by rw [List.getElem?_map, getD_some (d := 0) hlt] <;> rfl)) ?_
    walk_at "s"
    have e2 : lcell (z :: r) k = (z :: r).getD (k % (z :: r).length) 0 := by
      unfold lcell
      rw [if_neg (by intro q; cases q)]
    rw [e2] at h1
    exact h1
def sp_l_mix (K : PySem.W.Frag) : Sp := fun vs H Q E => ∃ (a : Addr) (ns : List Int) (k : Nat) (R : List As), vs = [.ref a, .int (k : Nat)] ∧ Sep (ScrA K a ns :: R) H ∧ Q (.int (lmix ns k)) H
theorem ln_l_mix : ∀ vs H Q E, sp_l_mix K vs H Q E → vs.length = (["_law_script", "_law_k"] : List Str).length := by
  rintro _ _ _ _ ⟨a, ns, k, R, rfl, _⟩
  rfl
theorem sc_l_mix : FnScope ["_law_script", "_law_k", "_law_number"] ["_law_script", "_law_k"] (defScope s_l_mix) := ⟨rfl, rfl, rfl, by decide +kernel, rfl, by decide +kernel, by decide +kernel⟩
theorem ok_l_mix (T : Top K mg) : OkD P w K mg base d_l_mix 2 ["_law_script", "_law_k"] (sp_l_mix K) := by
  refine okD (df_l_mix T) sc_l_mix (fun _ _ _ _ _ _ us hl => match us, hl with | [_, _], _ => rfl) ln_l_mix (fun cdv A outer s H vs Q E hr h => ⟨_,
      pss_cons (ps_set (i := 2) sc_l_mix.nd rfl (Or.inl rfl) (pe_op op_mod (pe_op op_addA (px_call (ok_l_cell T) (hr.mono (by decide)) rfl (gl__law_cell T) (fun σ => paD σ) (pa_cons (pv 0) (pa_cons (pv 1) pa_nil))) (pe_op op_mulA pe_int (pe_op op_addA (pv 1) pe_int))) pe_int))
      (pss_cons (ps_set (i := 2) sc_l_mix.nd rfl (Or.inl rfl) (pe_op op_mod (pe_op op_pow (pv 2) pe_int) pe_int))
      (pss_one (ps_ret (pe_op op_mod (pe_op op_addA (pe_op op_mulA (pe_op op_fdiv (pv 2) pe_int) pe_int) (pv 2)) pe_int)))), ?_⟩)
  obtain ⟨a, ns, k, R, rfl, hS, h1⟩ := h
  walk_at "go"
  refine ⟨a, ns, k, R, rfl, hS, ?_⟩
  walk_at "s"
  refine x_mulI (.inl ⟨by decide, by decide⟩) ?_
  walk_at "s"
  refine x_I (by decide) ?_
  walk_at "s"
  have b1 := Int.emod_nonneg (lcell ns k + 104729 * ((k : Int) + 1)) (b := 4294967291) (by decide)
  have b2 := Int.emod_lt_of_pos (lcell ns k + 104729 * ((k : Int) + 1)) (b := 4294967291) (by decide)
  refine x_I ⟨by decide, by decide, by omega⟩ ?_
  walk_at "s"
  refine x_I (by decide) ?_
  walk_at "s"
  refine x_I ⟨by decide, by decide⟩ ?_
  walk_at "s"
  refine x_mulI (.inr ⟨by decide, by decide⟩) ?_
  walk_at "s"
  refine x_I (by decide) ?_
  walk_at "s"
  exact h1
theorem sz {n : Nat} (h : n ≤ 1000000) : n < sizeLine := Nat.lt_of_le_of_lt h (by decide)
theorem sz' {n : Nat} (h : n ≤ 1000000) : n ≤ sizeLine := Nat.le_of_lt (sz h)
def sp_l_draw (K : PySem.W.Frag) : Sp := fun vs H Q E => ∃ (a t : Addr) (ns : List Int) (n : Nat) (m : Int) (R : List As), vs = [.ref a, .ref t, .int m] ∧ 0 < m ∧ n ≤ 1000000 ∧ Sep (ScrA K a ns :: TownA t n :: R) H ∧
  ∀ H', Sep (ScrA K a ns :: TownA t (n + 1) :: R) H' → Q (.int (draw ns (n + 1) m)) H'
theorem ln_l_draw : ∀ vs H Q E, sp_l_draw K vs H Q E → vs.length = (["_law_script", "_law_town", "_law_many"] : List Str).length := by
  rintro _ _ _ _ ⟨a, t, ns, n, m, R, rfl, _⟩
  rfl
theorem sc_l_draw : FnScope ["_law_script", "_law_town", "_law_many"] ["_law_script", "_law_town", "_law_many"] (defScope s_l_draw) := ⟨rfl, rfl, rfl, by decide +kernel, rfl, by decide +kernel, by decide +kernel⟩
theorem ok_l_draw (T : Top K mg) : OkD P w K mg base d_l_draw 3 ["_law_script", "_law_town", "_law_many"] (sp_l_draw K) := by
  refine okD (df_l_draw T) sc_l_draw (fun _ _ _ _ _ _ us hl => match us, hl with | [_, _, _], _ => rfl) ln_l_draw (fun cdv A outer s H vs Q E hr h => ⟨_,
      pss_cons (ps_expr (pe_bm PySem.F.plainAttrs_list PySem.F.slot_list_append PySem.F.type_list_append mt_append (pv 1) (pa_cons pe_int pa_nil)))
      (pss_one (ps_ret (pe_op op_mod (pe_op op_fdiv (px_call (ok_l_mix T) (hr.mono (by decide)) rfl (gl__law_mix T) (fun σ => paD σ) (pa_cons (pv 0) (pa_cons (pe_callB call_lenA (by rfl) (fr_len T) (by decide +kernel) (pa_cons (pv 1) pa_nil)) pa_nil))) pe_int) (pv 2)))), ?_⟩)
  obtain ⟨a, t, ns, n, m, R, rfl, hm, hn, hS, h1⟩ := h
  replace hS : Sep (ScrA K a ns :: pt t (.lst (List.replicate n (V.int 0))) :: R) H := hS
  walk_at "go"
  refine y_bml (sqL hS) ?_
  walk_at "s"
  refine x_append hS (by rw [List.length_replicate]; exact sz hn) (fun H hS => ?_)
  have e : List.replicate n (V.int 0) ++ [V.int 0] = List.replicate (n + 1) (V.int 0) := List.replicate_succ'.symm
  rw [e] at hS
  walk_at "s"
  refine x_lenL (sqL hS) ?_
  walk_at "s"
  rw [List.length_replicate]
  refine ⟨a, ns, n + 1, _, rfl, hS.own a, ?_⟩
  walk_at "s"
  refine x_I ⟨by decide, by decide⟩ ?_
  walk_at "s"
  refine x_I hm ?_
  exact h1 _ (hS.of En.swap)
/-! ### a draw, a pick, by what is known of it -/
section
variable {a t q : Addr} {ns : List Int} {n : Nat} {m : Int} {xs : List V} {R : List As} {H : Hp} {Q : VK} {E : XK}
theorem draw_use (hm : 0 < m) (hn : n ≤ 1000000) (hS : Sep (ScrA K a ns :: TownA t n :: R) H) (k : ∀ (j : Nat) H', (j : Int) < m → Sep (ScrA K a ns :: TownA t (n + 1) :: R) H' → Q (.int (j : Nat)) H') : sp_l_draw K [.ref a, .ref t, .int m] H Q E := by
  refine ⟨a, t, ns, n, m, R, rfl, hm, hn, hS, fun H' hS' => ?_⟩
  have d := draw_ok ns (n + 1) hm
  have e : draw ns (n + 1) m = ((draw ns (n + 1) m).toNat : Nat) := by omega
  rw [e]
  exact k _ H' (by omega) hS'
end

theorem scr_sep {a : Addr} {ns : List Int} {H : Hp} (h : SqL K H a (ns.map V.int)) : Sep [ScrA K a ns] H := ⟨H, fun _ => none, Sb.refl H, empty_sb H, fun _ _ _ _ e => (nomatch e), h, trivial⟩
/-! ### the law's promise -/
def sp_law (K : PySem.W.Frag) : Sp := fun vs H Q E => ∃ (a : Addr) (ns : List Int), vs = [.ref a] ∧ Sep [ScrA K a ns] H ∧ ∀ H', Q (.bl true) H'
theorem ln_law : ∀ vs H Q E, sp_law K vs H Q E → vs.length = (["_law_script"] : List Str).length := by
  rintro _ _ _ _ ⟨a, ns, rfl, _⟩
  rfl
theorem law_start {a : Addr} {ns : List Int} {H : Hp} (hl : ns.length ≤ 63) (h : SqL K H a (ns.map V.int)) : sp_law K [.ref a] H (fun v _ => v = .bl true) (fun _ _ _ => False) := ⟨a, ns, rfl, scr_sep h, fun _ => rfl⟩

end
end TR

set_option Elab.async false
set_option linter.all false
set_option maxRecDepth 100000
set_option maxHeartbeats 4000000
/-! .. -/

namespace TR
open PySem PySem.Spec PyProof.Rows L2
section
variable {P : Program} {w : World} {K : PySem.W.Frag} {mg : Str → Option Value} {base : Heap}
/-! ### dice -/
def DiceR (K : PySem.W.Frag) (p : Addr) (n : Int) : As := ex fun dx => pt p (.ins (He.ga K "Dice") dx (nmDice.zip [.int n]))
instance {K : PySem.W.Frag} {p : Addr} {n : Int} : Kys (DiceR K p n) p := ⟨trivial⟩
instance {K : PySem.W.Frag} {p : Addr} {n : Int} : IsOb (DiceR K p n) p (He.ga K "Dice") nmDice := ⟨fun h ⟨dx, a⟩ => ⟨dx, _, a⟩⟩
def okSeed (s : Int) : Prop := 0 ≤ s ∧ s < 6075
def dnext (n : Int) : Int := (106 * n + 1283) % 6075
theorem dnext_ok (n : Int) : okSeed (dnext n) := ⟨Int.emod_nonneg _ (by decide), Int.emod_lt_of_pos _ (by decide)⟩
def sp_Dice_init (K : PySem.W.Frag) : Sp := fun vs H Q E => ∃ (p dx : Addr) (s : Int) (R : List As), vs = [.ref p, .int s] ∧ Sep (pt p (.ins (He.ga K "Dice") dx []) :: R) H ∧
  (okSeed s → ∀ H', Sep (DiceR K p s :: R) H' → Q .non H') ∧ (¬ okSeed s → ∀ H', Sep R H' → E (.ref (He.ga K "BadNumber")) none H')
theorem ln_Dice_init : ∀ vs H Q E, sp_Dice_init K vs H Q E → vs.length = (["self", "seed"] : List Str).length := by
  rintro _ _ _ _ ⟨p, dx, s, R, rfl, _⟩
  rfl
theorem sc_Dice_init : FnScope ["self", "seed"] ["self", "seed"] (defScope s_Dice_init) := ⟨rfl, rfl, rfl, by decide +kernel, rfl, by decide +kernel, by decide +kernel⟩
theorem ok_Dice_init (T : Top K mg) : OkD P w K mg base d_Dice_init 1 ["self", "seed"] (sp_Dice_init K) := by
  refine okD (df_Dice_init T) sc_Dice_init (fun _ _ _ _ _ _ us hl => match us, hl with | [_, _], _ => rfl) ln_Dice_init (fun cdv A outer s H vs Q E hr h => ⟨_,
      pss_cons (ps_if (pt_not (pt_chain op_le op_lt pe_int (pv 1) (px_int rfl (gi_WHEEL T))))
       (pss_one (px_raise rfl tkD rfl (gl_BadNumber T) (xc_BadNumber T)))
       (pss_nil))
      (pss_one (ps_fld (pv 0) (pv 1) rfl)), ?_⟩)
  obtain ⟨p, dx, s, R, rfl, hS, h1, h2⟩ := h
  walk_at "go"
  refine x_dec (fun ha => ?_) (fun ha => ?_)
  · walk_at "s"
    refine x_ndec (fun hb => ?_) (fun hb => ?_)
    · walk_at "s"
      exact h2 (fun z => hb z.2) _ hS.tail
    · walk_at "s"
      exact h1 ⟨ha, hb⟩ _ (hS.exi dx)
  · walk_at "s"
    exact h2 (fun z => ha z.1) _ hS.tail
def okMany (m : Int) : Prop := 1 ≤ m ∧ m ≤ 60
def dval (n m : Int) : Int := dnext n * m / 6075
theorem dval_ok (n : Int) {m : Int} (h : 1 ≤ m) : 0 ≤ dval n m ∧ dval n m < m := by
  obtain ⟨h1, h2⟩ := dnext_ok n
  refine ⟨Int.ediv_nonneg (Int.mul_nonneg h1 (by omega)) (by decide), Int.ediv_lt_of_lt_mul (by decide) ?_⟩
  rw [Int.mul_comm m]
  exact Int.mul_lt_mul_of_pos_right h2 (by omega)
def sp_Dice_below (K : PySem.W.Frag) : Sp := fun vs H Q E => ∃ (p : Addr) (n m : Int) (R : List As), vs = [.ref p, .int m] ∧ okSeed n ∧ Sep (DiceR K p n :: R) H ∧
  (okMany m → ∀ H', Sep (DiceR K p (dnext n) :: R) H' → Q (.int (dval n m)) H') ∧ (¬ okMany m → ∀ H', Sep (DiceR K p n :: R) H' → E (.ref (He.ga K "BadNumber")) none H')
theorem ln_Dice_below : ∀ vs H Q E, sp_Dice_below K vs H Q E → vs.length = (["self", "many"] : List Str).length := by
  rintro _ _ _ _ ⟨p, n, m, R, rfl, _⟩
  rfl
theorem sc_Dice_below : FnScope ["self", "many"] ["self", "many"] (defScope s_Dice_below) := ⟨rfl, rfl, rfl, by decide +kernel, rfl, by decide +kernel, by decide +kernel⟩
theorem ok_Dice_below (T : Top K mg) : OkD P w K mg base d_Dice_below 1 ["self", "many"] (sp_Dice_below K) := by
  refine okD (df_Dice_below T) sc_Dice_below (fun _ _ _ _ _ _ us hl => match us, hl with | [_, _], _ => rfl) ln_Dice_below (fun cdv A outer s H vs Q E hr h => ⟨_,
      pss_cons (ps_if (pt_not (pt_chain op_le op_le pe_int (pv 1) (px_int rfl (gi_MOST T))))
       (pss_one (px_raise rfl tkD rfl (gl_BadNumber T) (xc_BadNumber T)))
       (pss_nil))
      (pss_cons (ps_fld (pv 0) (pe_op op_mod (pe_op op_addA (pe_op op_mulA (px_int rfl (gi_TIMES T)) (pe_fld (pv 0) rfl)) (px_int rfl (gi_MORE T))) (px_int rfl (gi_WHEEL T))) rfl)
      (pss_one (ps_ret (pe_op op_fdiv (pe_op op_mulA (pe_fld (pv 0) rfl) (pv 1)) (px_int rfl (gi_WHEEL T)))))), ?_⟩)
  obtain ⟨p, n, m, R, rfl, hn, hS, h1, h2⟩ := h
  obtain ⟨dx, hS⟩ := hS.ex
  have hd := dnext_ok n
  walk_at "go"
  refine x_dec (fun ha => ?_) (fun ha => ?_)
  · walk_at "s"
    refine x_ndec (fun hb => ?_) (fun hb => ?_)
    · walk_at "s"
      exact h2 (fun z => hb z.2) _ (hS.exi dx)
    · walk_at "s"
      refine x_mulI (.inl ⟨by decide, by decide⟩) ?_
      walk_at "s"
      refine x_I (by decide) ?_
      walk_at "s"
      refine x_mulI (.inl ⟨by have := hd.1; omega, by have := hd.2; omega⟩) ?_
      walk_at "s"
      refine x_I ⟨by decide, by decide⟩ ?_
      exact h1 ⟨ha, hb⟩ _ (hS.exi dx)
  · walk_at "s"
    exact h2 (fun z => ha z.1) _ (hS.exi dx)
/-! ### mixed -/
def swp (xs : List V) (i j : Nat) : List V := (xs.set i (xs.getD j .non)).set j (xs.getD i .non)
theorem swp_length (xs : List V) (i j : Nat) : (swp xs i j).length = xs.length := by
  unfold swp
  rw [List.length_set, List.length_set]
/-- the thing at place k goes to a drawn place -/
def mixS (k : Nat) (s : Int × List V) : Int × List V := (dnext s.1, swp s.2 k (dval s.1 (k + 1)).toNat)
def mixI (L : Nat) : Nat → Int × List V → Int × List V
  | 0, s => s
  | i + 1, s => mixS (L - 1 - i) (mixI L i s)
theorem mixI_length (L : Nat) (s : Int × List V) : ∀ i, (mixI L i s).2.length = s.2.length
  | 0 => rfl
  | i + 1 => by
    show (swp _ _ _).length = _
    rw [swp_length, mixI_length L s i]
theorem mixI_ok (L : Nat) {s : Int × List V} (h : okSeed s.1) : ∀ i, okSeed (mixI L i s).1
  | 0 => h
  | i + 1 => dnext_ok _
def mixd (n : Int) (xs : List V) : Int × List V := mixI xs.length (xs.length - 1) (n, xs)
def sp_mixed (K : PySem.W.Frag) : Sp := fun vs H Q E => ∃ (p q : Addr) (n : Int) (xs : List V) (R : List As), vs = [.ref p, .ref q] ∧ okSeed n ∧ xs.length ≤ 60 ∧ Sep (DiceR K p n :: pt q (.lst xs) :: R) H ∧
  (∀ l H', Sep (pt l (.lst (mixd n xs).2) :: DiceR K p (mixd n xs).1 :: pt q (.lst xs) :: R) H' → Q (.ref l) H')
theorem ln_mixed : ∀ vs H Q E, sp_mixed K vs H Q E → vs.length = (["dice", "some"] : List Str).length := by
  rintro _ _ _ _ ⟨p, q, n, xs, R, rfl, _⟩
  rfl
theorem sc_mixed : FnScope ["dice", "some", "found", "k", "other"] ["dice", "some"] (defScope s_mixed) := ⟨rfl, rfl, rfl, by decide +kernel, rfl, by decide +kernel, by decide +kernel⟩
theorem ok_mixed (T : Top K mg) : OkD P w K mg base d_mixed 2 ["dice", "some"] (sp_mixed K) := by
  refine okD (df_mixed T) sc_mixed (fun _ _ _ _ _ _ us hl => match us, hl with | [_, _], _ => rfl) ln_mixed (fun cdv A outer s H vs Q E hr h => ⟨_,
      pss_cons (ps_set (i := 2) sc_mixed.nd rfl (Or.inl rfl) (pe_callTy call_listOf (by rfl) (fr_list T) (by decide +kernel) (pa_cons (pv 1) pa_nil)))
      (pss_cons (ps_for (passes_of rfl) rfl (pi_range3 rfl (fr_range T) (pa_cons (pe_op op_sub (pe_callB call_lenA (by rfl) (fr_len T) (by decide +kernel) (pa_cons (pv 2) pa_nil)) pe_int) (pa_cons pe_int (pa_cons (pe_un un_neg pe_int) pa_nil)))) (pg_name (i := 3) sc_mixed.nd rfl (Or.inl rfl))
       (pss_cons (ps_set (i := 4) sc_mixed.nd rfl (Or.inl rfl) (px_meth (ok_Dice_below T) (hr.mono (by decide)) (pv 0) (cl_Dice T) (me_Dice_below T) (fun σ => paD σ) (pa_cons (pe_op op_addA (pv 3) pe_int) pa_nil)))
        (pss_one (ps_asg (pe_tup (pa_cons (pe_ix ix_seq (pv 2) (pv 4) (fun _ _ => rfl)) (pa_cons (pe_ix ix_seq (pv 2) (pv 3) (fun _ _ => rfl)) pa_nil))) (pg_tup (n := 2) rfl (pgs_cons (pg_sub (pv 2) (pv 3) set_list) (pgs_cons (pg_sub (pv 2) (pv 4) set_list) pgs_nil)))))))
      (pss_one (ps_ret (pv 2)))), ?_⟩)
  obtain ⟨p, q, n, xs, R, rfl, hn, hx, hS, h1⟩ := h
  walk_at "go"
  refine x_listOf hS (sqL hS) fun l H hS => ?_
  walk_at "s"
  refine x_lenL (sqL hS) ?_
  walk_at "s"
  refine y_for3 (fun i σ H => ∃ a b : Option V, σ = [some (.ref p), some (.ref q), some (.ref l), a, b] ∧ Sep (pt l (.lst (mixI xs.length i (n, xs)).2) :: DiceR K p (mixI xs.length i (n, xs)).1 :: pt q (.lst xs) :: R) H)
    (by omega) (by omega) ⟨none, none, rfl, hS⟩ ?_ ?_
  · rintro i σ H hi ⟨a, b, rfl, hS⟩
    have hL : (mixI xs.length i (n, xs)).2.length = xs.length := mixI_length xs.length (n, xs) i
    have hok := mixI_ok xs.length (s := (n, xs)) hn i
    obtain ⟨k, hk, hk2⟩ : ∃ k : Nat, ((xs.length : Int) - 1 - (i : Nat)) = (k : Nat) ∧ xs.length - 1 - i = k := ⟨xs.length - 1 - i, by omega, rfl⟩
    have e2 : (mixI xs.length (i + 1) (n, xs)) = mixS k (mixI xs.length i (n, xs)) := by
      rw [← hk2] <;> rfl
    have dv := dval_ok (mixI xs.length i (n, xs)).1 (m := (k : Int) + 1) (by omega)
    rw [hk, e2]
    obtain ⟨s, hs⟩ : ∃ s, s = mixI xs.length i (n, xs) := ⟨_, rfl⟩
    rw [← hs] at hL hok dv hS ⊢
    walk_at "s"
    refine ⟨p, _, _, _, rfl, hok, hS.own p, fun _ H hS => ?_, fun hn => absurd (show okMany _ from ⟨by omega, by omega⟩) hn⟩
    walk_at "s"
    refine x_ixL (sqL hS) (atI_some (v := s.2.getD (dval s.1 (k + 1)).toNat .non) dv.1 (getD_some (by omega))) ?_
    walk_at "s"
    refine x_ixL (sqL hS) (atI_nat (v := s.2.getD k .non) (getD_some (by omega))) ?_
    walk_at "s"
    refine x_gtup (sqT hS) rfl ?_
    walk_at "s"
    refine y_setL hS (ixN_some (by omega) (by omega)) (fun H hS => ?_)
    walk_at "s"
    refine y_setL hS (ixN_some (by omega) (by rw [List.length_set]; omega)) (fun H hS => ?_)
    walk_at "s"
    refine ⟨_, _, rfl, ?_⟩
    rw [Int.toNat_natCast] at hS
    exact (show Sep (pt l (.lst (mixS k s).2) :: pt u _ :: DiceR K p (mixS k s).1 :: pt q (.lst xs) :: R) H from hS).of (En.cons (En.drop (En.cons (En.cons En.refl))))
  · rintro σ H ⟨a, b, rfl, hS⟩
    walk_at "s"
    refine h1 l _ ?_
    have e : ((xs.length : Int) - 1 - 0).toNat = xs.length - 1 := by omega
    rw [e] at hS
    exact hS

theorem swp_perm {xs : List V} {i j : Nat} (hi : i < xs.length) (hj : j < xs.length) : (swp xs i j).Perm xs := by
  unfold swp
  rw [List.getD_eq_getElem?_getD, List.getElem?_eq_getElem hj, List.getD_eq_getElem?_getD, List.getElem?_eq_getElem hi]
  show ((xs.set i xs[j]).set j xs[i]).Perm xs
  exact List.set_set_perm hi hj
theorem mixI_perm {L : Nat} {s : Int × List V} (hs : s.2.length = L) : ∀ i, i < L → (mixI L i s).2.Perm s.2
  | 0, _ => .refl _
  | i + 1, h => by
    have ih := mixI_perm hs i (by omega)
    have hl := mixI_length L s i
    have dv := dval_ok (mixI L i s).1 (m := ((L - 1 - i : Nat) : Int) + 1) (by omega)
    exact (swp_perm (by omega) (by omega)).trans ih
theorem mixd_perm (n : Int) (xs : List V) : (mixd n xs).2.Perm xs := by
  unfold mixd
  by_cases h : xs.length = 0
  · rw [h]
    exact .refl _
  · exact mixI_perm (L := xs.length) (s := (n, xs)) rfl (xs.length - 1) (by omega)
theorem mixd_ok {n : Int} (h : okSeed n) (xs : List V) : okSeed (mixd n xs).1 := mixI_ok _ (s := (n, xs)) h _

end
end TR

set_option Elab.async false
set_option linter.all false
set_option maxRecDepth 100000
set_option maxHeartbeats 4000000
/-! .. -/

namespace TR
open PySem PySem.Spec PyProof.Rows L2
section
variable {P : Program} {w : World} {K : PySem.W.Frag} {mg : Str → Option Value} {base : Heap}
/-! ### queues -/
structure QS where
  turn : List Int
  tunes : List Str
/-- the entries' tunes as a dict, from 1 on -/
def dN : Nat → List Str → List (Key × V)
  | _, [] => []
  | n, z :: r => (.inl ((n : Int) + 1), .str z) :: dN (n + 1) r
theorem dN_length : ∀ (n : Nat) (zs : List Str), (dN n zs).length = zs.length
  | _, [] => rfl
  | n, z :: r => by
    show (dN (n + 1) r).length + 1 = r.length + 1
    rw [dN_length]
theorem dN_val : ∀ (n : Nat) (zs : List Str) (i : Int), valV (dN n zs) (.inl i) = if (n : Int) < i then (zs[(i - n - 1).toNat]?).map V.str else none
  | n, [], i => by
    show none = _
    split <;> simp
  | n, z :: r, i => by
    show valV ((.inl ((n : Int) + 1), .str z) :: dN (n + 1) r) (.inl i) = _
    by_cases e : (n : Int) + 1 = i
    · rw [valV_pos (p := (Sum.inl ((n : Int) + 1), V.str z)) (congrArg Sum.inl e), if_pos (by omega), show (i - n - 1).toNat = 0 by omega] <;> rfl
    · rw [valV_neg (p := (Sum.inl ((n : Int) + 1), V.str z)) (fun q => e (Sum.inl.inj q)), dN_val (n + 1) r i]
      by_cases h : (n : Int) + 1 < i
      · rw [if_pos (by omega), if_pos (by omega), show (i - n - 1).toNat = (i - ((n + 1 : Nat) : Int) - 1).toNat + 1 by omega] <;> rfl
      · rw [if_neg (by omega), if_neg (by omega)]
theorem dN_snoc : ∀ (n : Nat) (zs : List Str) (z : Str), dN n (zs ++ [z]) = dN n zs ++ [(.inl ((n + zs.length : Nat) + 1 : Int), .str z)]
  | n, [], z => rfl
  | n, y :: r, z => by
    show (_ :: dN (n + 1) (r ++ [z])) = _
    rw [dN_snoc (n + 1) r z]
    show _ = (_ :: (dN (n + 1) r ++ _))
    rw [show n + 1 + r.length = n + (y :: r).length by rw [List.length_cons]; omega]
theorem dN_put (zs : List Str) (z : Str) : putK (dN 0 zs) (.inl ((zs.length : Int) + 1)) (.str z) = dN 0 (zs ++ [z]) := by
  rw [putK_new _ (by rw [dN_val, if_pos (by omega), List.getElem?_eq_none (by omega)] <;> rfl), dN_snoc, Nat.zero_add]
def QueueR (K : PySem.W.Frag) (p : Addr) (S : QS) : As := ex fun dx => ex fun t => ex fun l => all [pt p (.ins (He.ga K "Queue") dx (nmQueue.zip [.ref t, .ref l, .int (S.tunes.length : Nat)])), pt t (.dK (dN 0 S.tunes)), pt l (.lst (S.turn.map V.int))]
instance {K : PySem.W.Frag} {p : Addr} {S : QS} : Kys (QueueR K p S) p := ⟨trivial⟩
instance {K : PySem.W.Frag} {p : Addr} {S : QS} : IsOb (QueueR K p S) p (He.ga K "Queue") nmQueue := ⟨fun h ⟨dx, t, l, a⟩ => ⟨dx, _, Sep.get a⟩⟩
theorem Sep.opQ {p : Addr} {S : QS} {R : List As} {H : Hp} (h : Sep (QueueR K p S :: R) H) : ∃ dx t l, Sep (pt p (.ins (He.ga K "Queue") dx (nmQueue.zip [.ref t, .ref l, .int (S.tunes.length : Nat)])) :: pt t (.dK (dN 0 S.tunes)) :: pt l (.lst (S.turn.map V.int)) :: R) H := by
  obtain ⟨dx, h⟩ := h.ex
  obtain ⟨t, h⟩ := h.ex
  obtain ⟨l, h⟩ := h.ex
  exact ⟨dx, t, l, h.flat⟩
theorem Sep.clQ {p dx t l : Addr} {S : QS} {R : List As} {H : Hp} (h : Sep (pt p (.ins (He.ga K "Queue") dx (nmQueue.zip [.ref t, .ref l, .int (S.tunes.length : Nat)])) :: pt t (.dK (dN 0 S.tunes)) :: pt l (.lst (S.turn.map V.int)) :: R) H) : Sep (QueueR K p S :: R) H :=
  Sep.exi dx (Sep.exi t (Sep.exi l (Sep.wrap h)))
theorem Sep.clQ0 {p dx t l : Addr} {R : List As} {H : Hp} (h : Sep (pt p (.ins (He.ga K "Queue") dx (nmQueue.zip [.ref t, .ref l, .int 0])) :: pt l (.lst []) :: pt t (.dK []) :: R) H) : Sep (QueueR K p ⟨[], []⟩ :: R) H :=
  Sep.clQ (S := ⟨[], []⟩) (show Sep (pt p (.ins (He.ga K "Queue") dx (nmQueue.zip [.ref t, .ref l, .int 0])) :: pt t (.dK []) :: pt l (.lst []) :: R) H from h.of (En.cons En.swap))
theorem Sep.clQ1 {p dx t l : Addr} {S : QS} {n : Int} {R : List As} {H : Hp} (e : n = (S.tunes.length : Nat)) (h : Sep (pt l (.lst (S.turn.map V.int)) :: pt t (.dK (dN 0 S.tunes)) :: pt p (.ins (He.ga K "Queue") dx (nmQueue.zip [.ref t, .ref l, .int n])) :: R) H) : Sep (QueueR K p S :: R) H := by
  subst e
  exact Sep.clQ (p := p) (dx := dx) (t := t) (l := l) (h.of (En.cons (En.cons (En.cons En.refl))))
theorem Sep.clQ2 {p dx t l : Addr} {S : QS} {R : List As} {H : Hp} (h : Sep (pt l (.lst (S.turn.map V.int)) :: pt p (.ins (He.ga K "Queue") dx (nmQueue.zip [.ref t, .ref l, .int (S.tunes.length : Nat)])) :: pt t (.dK (dN 0 S.tunes)) :: R) H) : Sep (QueueR K p S :: R) H :=
  Sep.clQ (p := p) (dx := dx) (t := t) (l := l) (h.of (En.cons (En.cons (En.cons En.refl))))
/-- bounds that the machine asks -/
structure QS.Fit (S : QS) : Prop where
  turn : S.turn.length ≤ 1000
  tunes : S.tunes.length ≤ 100000
def sp_Queue_init (K : PySem.W.Frag) : Sp := fun vs H Q E => ∃ (p dx : Addr) (R : List As), vs = [.ref p] ∧ Sep (pt p (.ins (He.ga K "Queue") dx []) :: R) H ∧ ∀ H', Sep (QueueR K p ⟨[], []⟩ :: R) H' → Q .non H'
theorem ln_Queue_init : ∀ vs H Q E, sp_Queue_init K vs H Q E → vs.length = (["self"] : List Str).length := by
  rintro _ _ _ _ ⟨p, dx, R, rfl, _⟩
  rfl
theorem sc_Queue_init : FnScope ["self"] ["self"] (defScope s_Queue_init) := ⟨rfl, rfl, rfl, by decide +kernel, rfl, by decide +kernel, by decide +kernel⟩
theorem ok_Queue_init (T : Top K mg) : OkD P w K mg base d_Queue_init 1 ["self"] (sp_Queue_init K) := by
  refine okD (df_Queue_init T) sc_Queue_init (fun _ _ _ _ _ _ us hl => match us, hl with | [_], _ => rfl) ln_Queue_init (fun cdv A outer s H vs Q E hr h => ⟨_,
      pss_cons (ps_fld (pv 0) pe_dnewK rfl)
      (pss_cons (ps_fld (pv 0) (pe_lst pa_nil) rfl)
      (pss_one (ps_fld (pv 0) pe_int rfl))), ?_⟩)
  obtain ⟨p, dx, R, rfl, hS, h1⟩ := h
  walk_at "go"
  exact h1 _ hS.clQ0
def sp_Queue_entries (K : PySem.W.Frag) : Sp := fun vs H Q E => ∃ (p : Addr) (S : QS) (R : List As), vs = [.ref p] ∧ Sep (QueueR K p S :: R) H ∧ ∀ l H', Sep (pt l (.lst (S.turn.map V.int)) :: QueueR K p S :: R) H' → Q (.ref l) H'
theorem ln_Queue_entries : ∀ vs H Q E, sp_Queue_entries K vs H Q E → vs.length = (["self"] : List Str).length := by
  rintro _ _ _ _ ⟨p, S, R, rfl, _⟩
  rfl
theorem sc_Queue_entries : FnScope ["self"] ["self"] (defScope s_Queue_entries) := ⟨rfl, rfl, rfl, by decide +kernel, rfl, by decide +kernel, by decide +kernel⟩
theorem ok_Queue_entries (T : Top K mg) : OkD P w K mg base d_Queue_entries 1 ["self"] (sp_Queue_entries K) := by
  refine okD (df_Queue_entries T) sc_Queue_entries (fun _ _ _ _ _ _ us hl => match us, hl with | [_], _ => rfl) ln_Queue_entries (fun cdv A outer s H vs Q E hr h => ⟨_,
      pss_one (ps_ret (pe_callTy call_listOf (by rfl) (fr_list T) (by decide +kernel) (pa_cons (pe_fld (pv 0) rfl) pa_nil))), ?_⟩)
  obtain ⟨p, S, R, rfl, hS, h1⟩ := h
  obtain ⟨dx, t, l, hS⟩ := hS.opQ
  walk_at "go"
  refine x_listOf hS (sqL hS) fun u H hS => ?_
  exact h1 u _ (Sep.skip (fun _ => Sep.clQ) hS)
/-- a promise that an entry stands in the queue -/
def sp_Queue_need (K : PySem.W.Frag) : Sp := fun vs H Q E => ∃ (p : Addr) (e : Int) (S : QS) (R : List As), vs = [.ref p, .int e] ∧ Sep (QueueR K p S :: R) H ∧
  (e ∈ S.turn → ∀ H', Sep (QueueR K p S :: R) H' → Q .non H') ∧ (e ∉ S.turn → ∀ H', Sep (QueueR K p S :: R) H' → E (.ref (He.ga K "BadEntry")) none H')
theorem ln_Queue_need : ∀ vs H Q E, sp_Queue_need K vs H Q E → vs.length = (["self", "entry"] : List Str).length := by
  rintro _ _ _ _ ⟨p, e, S, R, rfl, _⟩
  rfl
theorem sc_Queue_need : FnScope ["self", "entry"] ["self", "entry"] (defScope s_Queue_need) := ⟨rfl, rfl, rfl, by decide +kernel, rfl, by decide +kernel, by decide +kernel⟩
theorem ok_Queue_need (T : Top K mg) : OkD P w K mg base d_Queue_need 1 ["self", "entry"] (sp_Queue_need K) := by
  refine okD (df_Queue_need T) sc_Queue_need (fun _ _ _ _ _ _ us hl => match us, hl with | [_, _], _ => rfl) ln_Queue_need (fun cdv A outer s H vs Q E hr h => ⟨_,
      pss_one (ps_if (pt_cmpR op_notIn_seq (pv 1) (pe_fld (pv 0) rfl) (by rfl))
       (pss_one (px_raise rfl tkD rfl (gl_BadEntry T) (xc_BadEntry T)))
       (pss_nil)), ?_⟩)
  obtain ⟨p, e, S, R, rfl, hS, h1, h2⟩ := h
  obtain ⟨dx, t, l, hS⟩ := hS.opQ
  walk_at "go"
  refine x_ninI (sqL hS) ?_
  walk_at "s"
  refine x_ndec (fun hn => ?_) (fun hy => ?_)
  · walk_at "s"
    exact h2 hn _ hS.clQ
  · walk_at "s"
    exact h1 hy _ hS.clQ
def QS.tune (S : QS) (e : Int) : Option Str := if 1 ≤ e then S.tunes[(e - 1).toNat]? else none
theorem QS.tune_val (S : QS) (e : Int) : valV (dN 0 S.tunes) (.inl e) = (S.tune e).map V.str := by
  rw [dN_val]
  unfold QS.tune
  by_cases h : 1 ≤ e
  · rw [if_pos (by omega), if_pos h, show (e - ((0 : Nat) : Int) - 1).toNat = (e - 1).toNat by omega]
  · rw [if_neg (by omega), if_neg h] <;> rfl
def sp_Queue_tune (K : PySem.W.Frag) : Sp := fun vs H Q E => ∃ (p : Addr) (e : Int) (S : QS) (R : List As), vs = [.ref p, .int e] ∧ Sep (QueueR K p S :: R) H ∧
  (∀ z, S.tune e = some z → ∀ H', Sep (QueueR K p S :: R) H' → Q (.str z) H') ∧ (S.tune e = none → ∀ H', Sep (QueueR K p S :: R) H' → E (.ref (He.ga K "BadEntry")) none H')
theorem ln_Queue_tune : ∀ vs H Q E, sp_Queue_tune K vs H Q E → vs.length = (["self", "entry"] : List Str).length := by
  rintro _ _ _ _ ⟨p, e, S, R, rfl, _⟩
  rfl
theorem sc_Queue_tune : FnScope ["self", "entry"] ["self", "entry"] (defScope s_Queue_tune) := ⟨rfl, rfl, rfl, by decide +kernel, rfl, by decide +kernel, by decide +kernel⟩
theorem ok_Queue_tune (T : Top K mg) : OkD P w K mg base d_Queue_tune 1 ["self", "entry"] (sp_Queue_tune K) := by
  refine okD (df_Queue_tune T) sc_Queue_tune (fun _ _ _ _ _ _ us hl => match us, hl with | [_, _], _ => rfl) ln_Queue_tune (fun cdv A outer s H vs Q E hr h => ⟨_,
      pss_cons (ps_if (pt_cmp (pc_dnotin (hu_of hr) (pv 1) (pe_fld (pv 0) rfl)))
       (pss_one (px_raise rfl tkD rfl (gl_BadEntry T) (xc_BadEntry T)))
       (pss_nil))
      (pss_one (ps_ret (pe_dget (hu_of hr) (pe_fld (pv 0) rfl) (pv 1) (fun _ _ => rfl)))), ?_⟩)
  obtain ⟨p, e, S, R, rfl, hS, h1, h2⟩ := h
  obtain ⟨dx, t, l, hS⟩ := hS.opQ
  walk_at "go"
  refine y_dni hS ?_
  rw [QS.tune_val]
  walk_at "s"
  cases hz : S.tune e with
  | none =>
    walk_at "s"
    exact h2 hz _ hS.clQ
  | some z =>
    walk_at "s"
    refine x_no rfl ?_
    walk_at "s"
    refine y_dgi hS (by rw [QS.tune_val, hz] <;> rfl) ?_
    exact h1 z hz _ hS.clQ
def okPut (S : QS) (pl : Int) : Prop := 0 ≤ pl ∧ pl ≤ (S.turn.length : Nat) ∧ S.turn.length ≠ 12
instance (S : QS) (pl : Int) : Decidable (okPut S pl) := by unfold okPut; infer_instance
def insAt (xs : List Int) (i : Nat) (y : Int) : List Int := xs.take i ++ [y] ++ xs.drop i
def QS.put (S : QS) (z : Str) (pl : Nat) : QS := ⟨insAt S.turn pl ((S.tunes.length : Nat) + 1 : Int), S.tunes ++ [z]⟩
def sp_Queue_put (K : PySem.W.Frag) : Sp := fun vs H Q E => ∃ (p : Addr) (z : Str) (pl : Int) (S : QS) (R : List As), vs = [.ref p, .str z, .int pl] ∧ S.Fit ∧ Sep (QueueR K p S :: R) H ∧
  (okPut S pl → ∀ H', Sep (QueueR K p (S.put z pl.toNat) :: R) H' → Q (.int ((S.tunes.length : Nat) + 1)) H') ∧ (¬ okPut S pl → ∀ H', Sep (QueueR K p S :: R) H' → E (.ref (He.ga K "BadNumber")) none H')
theorem ln_Queue_put : ∀ vs H Q E, sp_Queue_put K vs H Q E → vs.length = (["self", "name", "place"] : List Str).length := by
  rintro _ _ _ _ ⟨p, z, pl, S, R, rfl, _⟩
  rfl
theorem sc_Queue_put : FnScope ["self", "name", "place"] ["self", "name", "place"] (defScope s_Queue_put) := ⟨rfl, rfl, rfl, by decide +kernel, rfl, by decide +kernel, by decide +kernel⟩
theorem ok_Queue_put (T : Top K mg) : OkD P w K mg base d_Queue_put 1 ["self", "name", "place"] (sp_Queue_put K) := by
  refine okD (df_Queue_put T) sc_Queue_put (fun _ _ _ _ _ _ us hl => match us, hl with | [_, _, _], _ => rfl) ln_Queue_put (fun cdv A outer s H vs Q E hr h => ⟨_,
      pss_cons (ps_if (PW.pt (pw_or (pt_not (pt_chain op_le op_le pe_int (pv 2) (pe_callB call_lenA (by rfl) (fr_len T) (by decide +kernel) (pa_cons (pe_fld (pv 0) rfl) pa_nil)))) (pw_or1 (pt_cmpR (op_eqA hr.units) (pe_callB call_lenA (by rfl) (fr_len T) (by decide +kernel) (pa_cons (pe_fld (pv 0) rfl) pa_nil)) (px_int rfl (gi_MOST_ENTRIES T)) (nomark _)))))
       (pss_one (px_raise rfl tkD rfl (gl_BadNumber T) (xc_BadNumber T)))
       (pss_nil))
      (pss_cons (ps_fld (pv 0) (pe_op op_addA (pe_fld (pv 0) rfl) pe_int) rfl)
      (pss_cons (ps_dput (hu_of hr) (pe_fld (pv 0) rfl) (pe_fld (pv 0) rfl) (pv 1) rfl)
      (pss_cons (ps_expr (pe_bm PySem.F.plainAttrs_list PySem.F.slot_list_insert PySem.F.type_list_insert mt_ins (pe_fld (pv 0) rfl) (pa_cons (pv 2) (pa_cons (pe_fld (pv 0) rfl) pa_nil))))
      (pss_one (ps_ret (pe_fld (pv 0) rfl)))))), ?_⟩)
  obtain ⟨p, z, pl, S, R, rfl, hf, hS, h1, h2⟩ := h
  obtain ⟨dx, t, l, hS⟩ := hS.opQ
  have bad : ¬ okPut S pl → ∀ {H : Hp}, Sep _ H → E (.ref (He.ga K "BadNumber")) none H := fun hb H hS => h2 hb _ (Sep.clQ (R := R) (dx := dx) (t := t) (l := l) hS)
  have e1 : (S.turn.map V.int).length = S.turn.length := List.length_map _
  walk_at "go"
  refine x_dec (fun ha => ?_) (fun ha => ?_)
  · walk_at "s"
    refine x_lenL (sqL hS) ?_
    walk_at "s"
    refine x_ndec (fun hb => ?_) (fun hb => ?_)
    · walk_at "s"
      exact bad (fun z => hb (by rw [e1]; exact z.2.1)) hS
    · walk_at "s"
      refine x_lenL (sqL hS) ?_
      walk_at "s"
      refine x_dec (fun hc => ?_) (fun hc => ?_)
      · walk_at "s"
        exact bad (fun z => z.2.2 (by rw [e1] at hc; omega)) hS
      · walk_at "s"
        rw [e1] at hb hc
        have ok : okPut S pl := ⟨ha, hb, by omega⟩
        have := hf.turn
        have := hf.tunes
        refine y_dpi hS (by rw [dN_length]; omega) fun H hS => ?_
        rw [dN_put] at hS
        walk_at "s"
        refine y_bml (sqL hS) ?_
        walk_at "s"
        refine x_insI hS (by omega) ⟨by omega, by omega⟩ fun H hS => ?_
        walk_at "s"
        exact h1 ok _ (Sep.clQ1 (S := S.put z pl.toNat) (by show _ = ((S.tunes ++ [z]).length : Int); rw [List.length_append]; rfl) hS)
  · walk_at "s"
    exact bad (fun z => ha z.1) hS

def QS.remove (S : QS) (e : Int) : QS := ⟨S.turn.eraseIdx (S.turn.idxOf e), S.tunes⟩
def sp_Queue_remove (K : PySem.W.Frag) : Sp := fun vs H Q E => ∃ (p : Addr) (e : Int) (S : QS) (R : List As), vs = [.ref p, .int e] ∧ Sep (QueueR K p S :: R) H ∧
  (e ∈ S.turn → ∀ H', Sep (QueueR K p (S.remove e) :: R) H' → Q .non H') ∧ (e ∉ S.turn → ∀ H', Sep (QueueR K p S :: R) H' → E (.ref (He.ga K "BadEntry")) none H')
theorem ln_Queue_remove : ∀ vs H Q E, sp_Queue_remove K vs H Q E → vs.length = (["self", "entry"] : List Str).length := by
  rintro _ _ _ _ ⟨p, e, S, R, rfl, _⟩
  rfl
theorem sc_Queue_remove : FnScope ["self", "entry"] ["self", "entry"] (defScope s_Queue_remove) := ⟨rfl, rfl, rfl, by decide +kernel, rfl, by decide +kernel, by decide +kernel⟩
theorem ok_Queue_remove (T : Top K mg) : OkD P w K mg base d_Queue_remove 2 ["self", "entry"] (sp_Queue_remove K) := by
  refine okD (df_Queue_remove T) sc_Queue_remove (fun _ _ _ _ _ _ us hl => match us, hl with | [_, _], _ => rfl) ln_Queue_remove (fun cdv A outer s H vs Q E hr h => ⟨_,
      pss_cons (ps_expr (px_meth (ok_Queue_need T) (hr.mono (by decide)) (pv 0) (cl_Queue T) (me_Queue_need T) (fun σ => paD σ) (pa_cons (pv 1) pa_nil)))
      (pss_one (ps_expr (pe_bm PySem.F.plainAttrs_list PySem.F.slot_list_remove PySem.F.type_list_remove mt_remove (pe_fld (pv 0) rfl) (pa_cons (pv 1) pa_nil)))), ?_⟩)
  obtain ⟨p, e, S, R, rfl, hS, h1, h2⟩ := h
  walk_at "go"
  refine ⟨p, e, S, R, rfl, hS, fun hy H hS => ?_, h2⟩
  obtain ⟨dx, t, l, hS⟩ := hS.opQ
  walk_at "s"
  refine y_bml (sqL hS) ?_
  walk_at "s"
  refine x_remI hS hy fun H hS => ?_
  walk_at "s"
  exact h1 hy _ (Sep.clQ2 (S := S.remove e) hS)
def okMove (S : QS) (pl : Int) : Prop := 0 ≤ pl ∧ pl < (S.turn.length : Nat)
instance (S : QS) (pl : Int) : Decidable (okMove S pl) := by unfold okMove; infer_instance
def QS.move (S : QS) (e : Int) (pl : Nat) : QS := ⟨insAt (S.turn.eraseIdx (S.turn.idxOf e)) pl e, S.tunes⟩
def sp_Queue_move (K : PySem.W.Frag) : Sp := fun vs H Q E => ∃ (p : Addr) (e pl : Int) (S : QS) (R : List As), vs = [.ref p, .int e, .int pl] ∧ S.Fit ∧ Sep (QueueR K p S :: R) H ∧
  (e ∈ S.turn → okMove S pl → ∀ H', Sep (QueueR K p (S.move e pl.toNat) :: R) H' → Q .non H') ∧ (e ∉ S.turn → ∀ H', Sep (QueueR K p S :: R) H' → E (.ref (He.ga K "BadEntry")) none H') ∧
  (e ∈ S.turn → ¬ okMove S pl → ∀ H', Sep (QueueR K p S :: R) H' → E (.ref (He.ga K "BadNumber")) none H')
theorem ln_Queue_move : ∀ vs H Q E, sp_Queue_move K vs H Q E → vs.length = (["self", "entry", "place"] : List Str).length := by
  rintro _ _ _ _ ⟨p, e, pl, S, R, rfl, _⟩
  rfl
def sp_Queue_place (K : PySem.W.Frag) : Sp := fun vs H Q E => ∃ (p : Addr) (e : Int) (S : QS) (R : List As), vs = [.ref p, .int e] ∧ Sep (QueueR K p S :: R) H ∧
  (e ∈ S.turn → ∀ H', Sep (QueueR K p S :: R) H' → Q (.int (S.turn.idxOf e : Nat)) H') ∧ (e ∉ S.turn → ∀ H', Sep (QueueR K p S :: R) H' → E (.ref (He.ga K "BadEntry")) none H')
theorem ln_Queue_place : ∀ vs H Q E, sp_Queue_place K vs H Q E → vs.length = (["self", "entry"] : List Str).length := by
  rintro _ _ _ _ ⟨p, e, S, R, rfl, _⟩
  rfl
theorem sc_Queue_place : FnScope ["self", "entry"] ["self", "entry"] (defScope s_Queue_place) := ⟨rfl, rfl, rfl, by decide +kernel, rfl, by decide +kernel, by decide +kernel⟩
theorem ok_Queue_place (T : Top K mg) : OkD P w K mg base d_Queue_place 2 ["self", "entry"] (sp_Queue_place K) := by
  refine okD (df_Queue_place T) sc_Queue_place (fun _ _ _ _ _ _ us hl => match us, hl with | [_, _], _ => rfl) ln_Queue_place (fun cdv A outer s H vs Q E hr h => ⟨_,
      pss_cons (ps_expr (px_meth (ok_Queue_need T) (hr.mono (by decide)) (pv 0) (cl_Queue T) (me_Queue_need T) (fun σ => paD σ) (pa_cons (pv 1) pa_nil)))
      (pss_one (ps_ret (pe_bm PySem.F.plainAttrs_list PySem.F.slot_list_index PySem.F.type_list_index mt_index (pe_fld (pv 0) rfl) (pa_cons (pv 1) pa_nil)))), ?_⟩)
  obtain ⟨p, e, S, R, rfl, hS, h1, h2⟩ := h
  walk_at "go"
  refine ⟨p, e, S, R, rfl, hS, fun hy H hS => ?_, h2⟩
  obtain ⟨dx, t, l, hS⟩ := hS.opQ
  walk_at "s"
  refine y_bml (sqL hS) ?_
  walk_at "s"
  refine x_ixI (sqL hS) hy ?_
  exact h1 hy _ hS.clQ

end
end TR

set_option Elab.async false
set_option linter.all false
set_option maxRecDepth 100000
set_option maxHeartbeats 4000000
/-! .. -/

namespace TR
open PySem PySem.Spec PyProof.Rows L2
section
variable {P : Program} {w : World} {K : PySem.W.Frag} {mg : Str → Option Value} {base : Heap}
/-! ### orders -/
/-- things mixed, of numbers -/
def mixN (n : Int) (ns : List Int) : List Int := (mixd n (ns.map V.int)).2.map fun v => match v with
  | .int i => i
  | _ => 0
theorem mixN_eq (n : Int) (ns : List Int) : (mixd n (ns.map V.int)).2 = (mixN n ns).map V.int := by
  obtain ⟨js, h, _⟩ := perm_ints (mixd_perm n (ns.map V.int))
  unfold mixN
  rw [h, List.map_map, List.map_map]
  exact (List.map_congr_left fun _ _ => rfl).symm
theorem mixN_perm (n : Int) (ns : List Int) : (mixN n ns).Perm ns := by
  obtain ⟨js, h, hp⟩ := perm_ints (mixd_perm n (ns.map V.int))
  have e : mixN n ns = js := by
    unfold mixN
    rw [h, List.map_map]
    exact (List.map_congr_left fun _ _ => rfl).trans (List.map_id js)
  rw [e]
  exact hp
def mixSd (n : Int) (ns : List Int) : Int := (mixd n (ns.map V.int)).1
theorem mixSd_ok {n : Int} (h : okSeed n) (ns : List Int) : okSeed (mixSd n ns) := mixd_ok h _
structure OS where
  q : QS
  d : Int
  mx : Bool
  ag : Str
  deck : List Int
  gone : Bool
  beh : Option Int
structure OS.Ok (S : OS) : Prop where
  nd : S.q.turn.Nodup
  dnd : S.deck.Nodup
  pos : ∀ e ∈ S.q.turn, 1 ≤ e ∧ e ≤ (S.q.tunes.length : Nat)
  sub : ∀ e ∈ S.deck, e ∈ S.q.turn
  len : S.q.turn.length ≤ 12
  tl : S.q.tunes.length ≤ 1000
  seed : okSeed S.d
  bh : ∀ b, S.gone = true → S.beh = some b → b ∈ S.q.turn
theorem OS.Ok.fit {S : OS} (h : S.Ok) : S.q.Fit := ⟨by have := h.len; omega, by have := h.tl; omega⟩
theorem nodup_len : ∀ {xs ys : List Int}, xs.Nodup → (∀ e ∈ xs, e ∈ ys) → xs.length ≤ ys.length
  | [], _, _, _ => Nat.zero_le _
  | x :: r, ys, h, hs => by
    obtain ⟨h1, h2⟩ := List.nodup_cons.mp h
    have hx := hs x List.mem_cons_self
    have ih := nodup_len h2 (ys := ys.erase x) fun e he => (List.mem_erase_of_ne fun z => h1 (by rw [← z]; exact he)).mpr (hs e (List.mem_cons_of_mem _ he))
    rw [List.length_erase_of_mem hx] at ih
    have := List.length_pos_of_mem hx
    rw [List.length_cons]
    omega
theorem OS.Ok.dl {S : OS} (h : S.Ok) : S.deck.length ≤ 12 := Nat.le_trans (nodup_len h.dnd h.sub) h.len
def OrderR (K : PySem.W.Frag) (p : Addr) (S : OS) : As := ex fun dx => ex fun q => ex fun c => ex fun k =>
  all [pt p (.ins (He.ga K "Order") dx (nmOrder.zip [.ref q, .ref c, .bl S.mx, .str S.ag, .ref k, .bl S.gone, oV S.beh])), QueueR K q S.q, DiceR K c S.d, pt k (.lst (S.deck.map V.int))]
instance {K : PySem.W.Frag} {p : Addr} {S : OS} : Kys (OrderR K p S) p := ⟨trivial⟩
instance {K : PySem.W.Frag} {p : Addr} {S : OS} : IsOb (OrderR K p S) p (He.ga K "Order") nmOrder := ⟨fun h ⟨dx, q, c, k, a⟩ => ⟨dx, _, Sep.get a⟩⟩
theorem Sep.opO {p : Addr} {S : OS} {R : List As} {H : Hp} (h : Sep (OrderR K p S :: R) H) : ∃ dx q c k, Sep (pt p (.ins (He.ga K "Order") dx (nmOrder.zip [.ref q, .ref c, .bl S.mx, .str S.ag, .ref k, .bl S.gone, oV S.beh])) :: QueueR K q S.q :: DiceR K c S.d :: pt k (.lst (S.deck.map V.int)) :: R) H := by
  obtain ⟨dx, h⟩ := h.ex
  obtain ⟨q, h⟩ := h.ex
  obtain ⟨c, h⟩ := h.ex
  obtain ⟨k, h⟩ := h.ex
  exact ⟨dx, q, c, k, h.flat⟩
theorem Sep.clO {p dx q c k : Addr} {S : OS} {R : List As} {H : Hp} (h : Sep (pt p (.ins (He.ga K "Order") dx (nmOrder.zip [.ref q, .ref c, .bl S.mx, .str S.ag, .ref k, .bl S.gone, oV S.beh])) :: QueueR K q S.q :: DiceR K c S.d :: pt k (.lst (S.deck.map V.int)) :: R) H) : Sep (OrderR K p S :: R) H :=
  Sep.exi dx (Sep.exi q (Sep.exi c (Sep.exi k (Sep.wrap h))))
/-- closed, by the parts named -/
theorem Sep.clO' (S : OS) (dx q c k : Addr) {p : Addr} {R L : List As} {H : Hp} (h : Sep L H) (e : En L (pt p (.ins (He.ga K "Order") dx (nmOrder.zip [.ref q, .ref c, .bl S.mx, .str S.ag, .ref k, .bl S.gone, oV S.beh])) :: QueueR K q S.q :: DiceR K c S.d :: pt k (.lst (S.deck.map V.int)) :: R)) : Sep (OrderR K p S :: R) H := Sep.clO (h.of e)
def OS.new (s : Int) : OS := ⟨⟨[], []⟩, s, false, "none", [], false, none⟩
def sp_Order_init (K : PySem.W.Frag) : Sp := fun vs H Q E => ∃ (p dx : Addr) (s : Int) (R : List As), vs = [.ref p, .int s] ∧ Sep (pt p (.ins (He.ga K "Order") dx []) :: R) H ∧
  (okSeed s → ∀ H', Sep (OrderR K p (OS.new s) :: R) H' → Q .non H') ∧ (¬ okSeed s → ∀ H', Sep R H' → E (.ref (He.ga K "BadNumber")) none H')
theorem ln_Order_init : ∀ vs H Q E, sp_Order_init K vs H Q E → vs.length = (["self", "seed"] : List Str).length := by
  rintro _ _ _ _ ⟨p, dx, s, R, rfl, _⟩
  rfl
theorem sc_Order_init : FnScope ["self", "seed"] ["self", "seed"] (defScope s_Order_init) := ⟨rfl, rfl, rfl, by decide +kernel, rfl, by decide +kernel, by decide +kernel⟩
theorem ok_Order_init (T : Top K mg) : OkD P w K mg base d_Order_init 3 ["self", "seed"] (sp_Order_init K) := by
  refine okD (df_Order_init T) sc_Order_init (fun _ _ _ _ _ _ us hl => match us, hl with | [_, _], _ => rfl) ln_Order_init (fun cdv A outer s H vs Q E hr h => ⟨_,
      pss_cons (ps_fld (pv 0) (px_make0 (ok_Queue_init T) (hr.mono (by decide)) (mk_Queue T) rfl (gl_Queue T) (fun σ => paD σ)) rfl)
      (pss_cons (ps_fld (pv 0) (px_make (ok_Dice_init T) (hr.mono (by decide)) (mk_Dice T) rfl (gl_Dice T) (fun σ => paD σ) (pa_cons (pv 1) pa_nil)) rfl)
      (pss_cons (ps_fld (pv 0) pe_bl rfl)
      (pss_cons (ps_fld (pv 0) pe_str rfl)
      (pss_cons (ps_fld (pv 0) (pe_lst pa_nil) rfl)
      (pss_cons (ps_fld (pv 0) pe_bl rfl)
      (pss_one (ps_fld (pv 0) pe_non rfl))))))), ?_⟩)
  obtain ⟨p, dx, s, R, rfl, hS, h1, h2⟩ := h
  walk_at "go"
  refine y_mk hS fun q dx2 H hS => ?_
  refine ⟨q, dx2, _, rfl, hS.own q, fun H hS => ?_⟩
  walk_at "s"
  refine y_mk hS fun c dx3 H hS => ?_
  refine ⟨c, dx3, s, _, rfl, hS.own c, fun ok H hS => ?_, fun no H hS => ?_⟩
  · walk_at "s"
    exact h1 ok _ (Sep.clO' (OS.new s) dx q c u hS (by
      show En _ (pt p (.ins (He.ga K "Order") dx (nmOrder.zip [.ref q, .ref c, .bl false, .str "none", .ref u, .bl false, .non])) :: QueueR K q ⟨[], []⟩ :: DiceR K c s :: pt u (.lst []) :: R)
      repeat (first | exact En.refl | exact En.nil | refine En.cons ?_ | refine En.drop ?_)))
  · exact h2 no _ (hS.of (by repeat (first | exact En.refl | exact En.nil | refine En.cons ?_ | refine En.drop ?_)))
def okWord (w : Str) : Prop := w = "none" ∨ w = "all" ∨ w = "one"
instance (w : Str) : Decidable (okWord w) := by unfold okWord; infer_instance
theorem in_word (z : Str) : inV (.str z) [.str "none", .str "all", .str "one"] = decide (okWord z) := by
  unfold inV
  show ((("none" : Str) == z) || ((("all" : Str) == z) || ((("one" : Str) == z) || false))) = _
  by_cases h1 : z = "none"
  · subst h1; rfl
  by_cases h2 : z = "all"
  · subst h2; rfl
  by_cases h3 : z = "one"
  · subst h3; rfl
  have e : decide (okWord z) = false := decide_eq_false (by rintro (h | h | h) <;> contradiction)
  rw [e, beq_eq_false_iff_ne.mpr (Ne.symm h1), beq_eq_false_iff_ne.mpr (Ne.symm h2), beq_eq_false_iff_ne.mpr (Ne.symm h3)] <;> rfl
def sp_Order_set_again (K : PySem.W.Frag) : Sp := fun vs H Q E => ∃ (p : Addr) (z : Str) (S : OS) (R : List As), vs = [.ref p, .str z] ∧ Sep (OrderR K p S :: R) H ∧
  (okWord z → ∀ H', Sep (OrderR K p { S with ag := z } :: R) H' → Q .non H') ∧ (¬ okWord z → ∀ H', Sep (OrderR K p S :: R) H' → E (.ref (He.ga K "BadWord")) none H')
theorem ln_Order_set_again : ∀ vs H Q E, sp_Order_set_again K vs H Q E → vs.length = (["self", "word"] : List Str).length := by
  rintro _ _ _ _ ⟨p, z, S, R, rfl, _⟩
  rfl
theorem sc_Order_set_again : FnScope ["self", "word"] ["self", "word"] (defScope s_Order_set_again) := ⟨rfl, rfl, rfl, by decide +kernel, rfl, by decide +kernel, by decide +kernel⟩
theorem ok_Order_set_again (T : Top K mg) : OkD P w K mg base d_Order_set_again 1 ["self", "word"] (sp_Order_set_again K) := by
  refine okD (df_Order_set_again T) sc_Order_set_again (fun _ _ _ _ _ _ us hl => match us, hl with | [_, _], _ => rfl) ln_Order_set_again (fun cdv A outer s H vs Q E hr h => ⟨_,
      pss_cons (ps_if (pt_cmpR op_notIn_seq (pv 1) (px_ref rfl (gl_REPEATS T)) (by rfl))
       (pss_one (px_raise rfl tkD rfl (gl_BadWord T) (xc_BadWord T)))
       (pss_nil))
      (pss_one (ps_fld (pv 0) (pv 1) rfl)), ?_⟩)
  obtain ⟨p, z, S, R, rfl, hS, h1, h2⟩ := h
  obtain ⟨dx, q, c, k, hS⟩ := hS.opO
  walk_at "go"
  refine ⟨_, [.str "none", .str "all", .str "one"], rfl, .inr (tu_REPEATS T _), rfl, rfl, ?_⟩
  rw [in_word]
  walk_at "s"
  refine x_ndec (fun hn => ?_) (fun hy => ?_)
  · walk_at "s"
    exact h2 hn _ hS.clO
  · walk_at "s"
    exact h1 hy _ (Sep.clO' ({ S with ag := z }) dx q c k hS (by (try simp only [List.map_nil]); repeat (first | exact En.refl | exact En.nil | refine En.cons ?_ | refine En.drop ?_)))
/-- mixed or not -/
def OS.rest (S : OS) (e : Option Int) : List Int := S.q.turn.filter fun o => !decide (some o = e)
def OS.setMixed (S : OS) (b : Bool) (e : Option Int) : OS := match b, S.mx with
  | true, false => ⟨S.q, mixSd S.d (S.rest e), true, S.ag, mixN S.d (S.rest e), S.gone, S.beh⟩
  | true, true => S
  | false, _ => ⟨S.q, S.d, false, S.ag, [], S.gone, S.beh⟩
theorem OS.mx_eq {S : OS} {b : Bool} (h : S.mx = b) : S = ⟨S.q, S.d, b, S.ag, S.deck, S.gone, S.beh⟩ := by
  cases S
  cases h
  rfl
theorem rest_len {S : OS} (h : S.Ok) (e : Option Int) : (S.rest e).length ≤ 12 := Nat.le_trans (List.length_filter_le _ _) h.len
def sp_Order_set_mixed (K : PySem.W.Frag) : Sp := fun vs H Q E => ∃ (p : Addr) (b : Bool) (e : Option Int) (S : OS) (R : List As), vs = [.ref p, .bl b, oV e] ∧ S.Ok ∧ Sep (OrderR K p S :: R) H ∧
  (∀ H', Sep (OrderR K p (S.setMixed b e) :: R) H' → Q .non H')
theorem ln_Order_set_mixed : ∀ vs H Q E, sp_Order_set_mixed K vs H Q E → vs.length = (["self", "is_mixed", "entry"] : List Str).length := by
  rintro _ _ _ _ ⟨p, b, e, S, R, rfl, _⟩
  rfl
end
end TR

set_option Elab.async false
set_option linter.all false
set_option maxRecDepth 100000
set_option maxHeartbeats 4000000
/-! .. -/

namespace TR
open PySem PySem.Spec PyProof.Rows L2
section
variable {P : Program} {w : World} {K : PySem.W.Frag} {mg : Str → Option Value} {base : Heap}
/-- an entry comes -/
def OS.put (S : OS) (z : Str) (pl : Nat) : OS := match S.mx with
  | true => ⟨S.q.put z pl, dnext S.d, true, S.ag, insAt S.deck (dval S.d ((S.deck.length : Nat) + 1)).toNat ((S.q.tunes.length : Nat) + 1), S.gone, S.beh⟩
  | false => ⟨S.q.put z pl, S.d, false, S.ag, S.deck, S.gone, S.beh⟩
def sp_Order_put (K : PySem.W.Frag) : Sp := fun vs H Q E => ∃ (p : Addr) (z : Str) (pl : Int) (S : OS) (R : List As), vs = [.ref p, .str z, .int pl] ∧ S.Ok ∧ Sep (OrderR K p S :: R) H ∧
  (okPut S.q pl → ∀ H', Sep (OrderR K p (S.put z pl.toNat) :: R) H' → Q (.int ((S.q.tunes.length : Nat) + 1)) H') ∧ (¬ okPut S.q pl → ∀ H', Sep (OrderR K p S :: R) H' → E (.ref (He.ga K "BadNumber")) none H')
theorem ln_Order_put : ∀ vs H Q E, sp_Order_put K vs H Q E → vs.length = (["self", "name", "place"] : List Str).length := by
  rintro _ _ _ _ ⟨p, z, pl, S, R, rfl, _⟩
  rfl
theorem sc_Order_put : FnScope ["self", "name", "place", "found"] ["self", "name", "place"] (defScope s_Order_put) := ⟨rfl, rfl, rfl, by decide +kernel, rfl, by decide +kernel, by decide +kernel⟩
theorem ok_Order_put (T : Top K mg) : OkD P w K mg base d_Order_put 2 ["self", "name", "place"] (sp_Order_put K) := by
  refine okD (df_Order_put T) sc_Order_put (fun _ _ _ _ _ _ us hl => match us, hl with | [_, _, _], _ => rfl) ln_Order_put (fun cdv A outer s H vs Q E hr h => ⟨_,
      pss_cons (ps_set (i := 3) sc_Order_put.nd rfl (Or.inl rfl) (px_meth (ok_Queue_put T) (hr.mono (by decide)) (pe_fld (pv 0) rfl) (cl_Queue T) (me_Queue_put T) (fun σ => paD σ) (pa_cons (pv 1) (pa_cons (pv 2) pa_nil))))
      (pss_cons (ps_if (px_truth (pe_fld (pv 0) rfl) (by intro _; rfl))
       (pss_one (ps_expr (pe_bm PySem.F.plainAttrs_list PySem.F.slot_list_insert PySem.F.type_list_insert mt_ins (pe_fld (pv 0) rfl) (pa_cons (px_meth (ok_Dice_below T) (hr.mono (by decide)) (pe_fld (pv 0) rfl) (cl_Dice T) (me_Dice_below T) (fun σ => paD σ) (pa_cons (pe_op op_addA (pe_callB call_lenA (by rfl) (fr_len T) (by decide +kernel) (pa_cons (pe_fld (pv 0) rfl) pa_nil)) pe_int) pa_nil)) (pa_cons (pv 3) pa_nil)))))
       (pss_nil))
      (pss_one (ps_ret (pv 3)))), ?_⟩)
  obtain ⟨p, z, pl, S, R, rfl, ho, hS, h1, h2⟩ := h
  obtain ⟨dx, q, c, k, hS⟩ := hS.opO
  have hd := ho.dl
  have ed : (S.deck.map V.int).length = S.deck.length := List.length_map _
  walk_at "go"
  refine ⟨q, z, pl, S.q, _, rfl, ho.fit, hS.own q, fun ok H hS => ?_, fun no H hS => h2 no _ (Sep.clO' (S) dx q c k hS (by (try simp only [List.map_nil]); repeat (first | exact En.refl | exact En.nil | refine En.cons ?_ | refine En.drop ?_)))⟩
  walk_at "s"
  cases hm : S.mx with
  | true =>
    have e1 : S.put z pl.toNat = ⟨S.q.put z pl.toNat, dnext S.d, true, S.ag, insAt S.deck (dval S.d ((S.deck.length : Nat) + 1)).toNat ((S.q.tunes.length : Nat) + 1), S.gone, S.beh⟩ := by unfold OS.put; rw [hm]
    rw [e1] at h1
    rw [hm] at hS
    walk_at "s"
    refine y_bml (sqL hS) ?_
    walk_at "s"
    refine x_lenL (sqL hS) ?_
    walk_at "s"
    rw [ed]
    refine ⟨c, S.d, _, _, rfl, ho.seed, hS.own c, fun _ H hS => ?_, fun no => absurd (show okMany _ from ⟨by omega, by omega⟩) no⟩
    have dv := dval_ok S.d (m := (S.deck.length : Nat) + 1) (by omega)
    walk_at "s"
    refine x_insI hS (by omega) ⟨by omega, by omega⟩ fun H hS => ?_
    replace hS : Sep (pt k (.lst ((insAt S.deck (dval S.d ((S.deck.length : Nat) + 1)).toNat ((S.q.tunes.length : Nat) + 1)).map V.int)) :: _) H := hS
    walk_at "s"
    exact h1 ok _ (Sep.clO' (⟨S.q.put z pl.toNat, dnext S.d, true, S.ag, insAt S.deck (dval S.d ((S.deck.length : Nat) + 1)).toNat ((S.q.tunes.length : Nat) + 1), S.gone, S.beh⟩) dx q c k hS (by (try simp only [List.map_nil]); repeat (first | exact En.refl | exact En.nil | refine En.cons ?_ | refine En.drop ?_)))
  | false =>
    have e1 : S.put z pl.toNat = ⟨S.q.put z pl.toNat, S.d, false, S.ag, S.deck, S.gone, S.beh⟩ := by unfold OS.put; rw [hm]
    rw [e1] at h1
    rw [hm] at hS
    walk_at "s"
    exact h1 ok _ (Sep.clO' (⟨S.q.put z pl.toNat, S.d, false, S.ag, S.deck, S.gone, S.beh⟩) dx q c k hS (by (try simp only [List.map_nil]); repeat (first | exact En.refl | exact En.nil | refine En.cons ?_ | refine En.drop ?_)))
/-- an entry begins -/
def wo (e : Int) (ns : List Int) : List Int := ns.filter fun o => !decide (some o = some e)
theorem wo_not {e : Int} {ns : List Int} (h : e ∉ ns) : wo e ns = ns := List.filter_eq_self.mpr fun a ha => by
  have : a ≠ e := fun z => h (z ▸ ha)
  simp [this]
theorem wo_rem {e : Int} : ∀ {ns : List Int}, ns.Nodup → e ∈ ns → ns.eraseIdx (ns.idxOf e) = wo e ns
  | x :: r, hd, he => by
    obtain ⟨h1, h2⟩ := List.nodup_cons.mp hd
    by_cases hx : x = e
    · subst hx
      rw [List.idxOf_cons_self]
      show r = wo x (x :: r)
      have e1 : wo x (x :: r) = wo x r := by unfold wo; simp
      rw [e1, wo_not h1]
    · have he' : e ∈ r := (List.mem_cons.mp he).resolve_left (Ne.symm hx)
      have e1 : wo e (x :: r) = x :: wo e r := by unfold wo; simp [hx]
      have e2 : (x :: r).idxOf e = r.idxOf e + 1 := by
        rw [List.idxOf_cons, beq_eq_false_iff_ne.mpr hx] <;> rfl
      rw [e1, ← wo_rem h2 he', e2]
      rfl
def OS.began (S : OS) (e : Int) : OS := ⟨S.q, S.d, S.mx, S.ag, wo e S.deck, if e ∈ S.q.turn then false else S.gone, S.beh⟩
def sp_Order_began (K : PySem.W.Frag) : Sp := fun vs H Q E => ∃ (p : Addr) (e : Int) (S : OS) (R : List As), vs = [.ref p, .int e] ∧ S.Ok ∧ Sep (OrderR K p S :: R) H ∧ (∀ H', Sep (OrderR K p (S.began e) :: R) H' → Q .non H')
theorem ln_Order_began : ∀ vs H Q E, sp_Order_began K vs H Q E → vs.length = (["self", "entry"] : List Str).length := by
  rintro _ _ _ _ ⟨p, e, S, R, rfl, _⟩
  rfl
theorem sc_Order_began : FnScope ["self", "entry"] ["self", "entry"] (defScope s_Order_began) := ⟨rfl, rfl, rfl, by decide +kernel, rfl, by decide +kernel, by decide +kernel⟩
theorem ok_Order_began (T : Top K mg) : OkD P w K mg base d_Order_began 2 ["self", "entry"] (sp_Order_began K) := by
  refine okD (df_Order_began T) sc_Order_began (fun _ _ _ _ _ _ us hl => match us, hl with | [_, _], _ => rfl) ln_Order_began (fun cdv A outer s H vs Q E hr h => ⟨_,
      pss_cons (ps_if (pt_cmpR op_in_seq (pv 1) (px_meth0 (ok_Queue_entries T) (hr.mono (by decide)) (pe_fld (pv 0) rfl) (cl_Queue T) (me_Queue_entries T) (fun σ => paD σ)) (by rfl))
       (pss_one (ps_fld (pv 0) pe_bl rfl))
       (pss_nil))
      (pss_one (ps_if (pt_cmpR op_in_seq (pv 1) (pe_fld (pv 0) rfl) (by rfl))
       (pss_one (ps_expr (pe_bm PySem.F.plainAttrs_list PySem.F.slot_list_remove PySem.F.type_list_remove mt_remove (pe_fld (pv 0) rfl) (pa_cons (pv 1) pa_nil))))
       (pss_nil))), ?_⟩)
  obtain ⟨p, e, S, R, rfl, ho, hS, h1⟩ := h
  obtain ⟨dx, q, c, k, hS⟩ := hS.opO
  walk_at "go"
  refine ⟨q, S.q, _, rfl, hS.own q, fun l H hS => ?_⟩
  walk_at "s"
  refine x_inI (sqL hS) ?_
  walk_at "s"
  unfold OS.began at h1
  refine x_dec (fun he => ?_) (fun he => ?_)
  · rw [if_pos he] at h1
    walk_at "s"
    refine x_inI (sqL hS) ?_
    walk_at "s"
    refine x_dec (fun hd => ?_) (fun hd => ?_)
    · walk_at "s"
      refine y_bml (sqL hS) ?_
      walk_at "s"
      refine x_remI hS hd fun H hS => ?_
      rw [wo_rem ho.dnd hd] at hS
      walk_at "s"
      exact h1 _ (Sep.clO' (⟨S.q, S.d, S.mx, S.ag, wo e S.deck, false, S.beh⟩) dx q c k hS (by (try simp only [List.map_nil]); repeat (first | exact En.refl | exact En.nil | refine En.cons ?_ | refine En.drop ?_)))
    · rw [wo_not hd] at h1
      walk_at "s"
      exact h1 _ (Sep.clO' (⟨S.q, S.d, S.mx, S.ag, S.deck, false, S.beh⟩) dx q c k hS (by (try simp only [List.map_nil]); repeat (first | exact En.refl | exact En.nil | refine En.cons ?_ | refine En.drop ?_)))
  · rw [if_neg he] at h1
    walk_at "s"
    refine x_inI (sqL hS) ?_
    walk_at "s"
    refine x_dec (fun hd => ?_) (fun hd => ?_)
    · walk_at "s"
      refine y_bml (sqL hS) ?_
      walk_at "s"
      refine x_remI hS hd fun H hS => ?_
      rw [wo_rem ho.dnd hd] at hS
      walk_at "s"
      exact h1 _ (Sep.clO' (⟨S.q, S.d, S.mx, S.ag, wo e S.deck, S.gone, S.beh⟩) dx q c k hS (by (try simp only [List.map_nil]); repeat (first | exact En.refl | exact En.nil | refine En.cons ?_ | refine En.drop ?_)))
    · rw [wo_not hd] at h1
      walk_at "s"
      exact h1 _ (Sep.clO' (⟨S.q, S.d, S.mx, S.ag, S.deck, S.gone, S.beh⟩) dx q c k hS (by (try simp only [List.map_nil]); repeat (first | exact En.refl | exact En.nil | refine En.cons ?_ | refine En.drop ?_)))
/-- the front of what is left of a round -/
def OS.pop (S : OS) : OS × Option Int := match S.deck with
  | [] => (S, none)
  | x :: r => (⟨S.q, S.d, S.mx, S.ag, r, S.gone, S.beh⟩, some x)
/-- a round anew -/
def OS.deal (S : OS) (f : List Int → List Int) : OS := ⟨S.q, mixSd S.d S.q.turn, S.mx, S.ag, f (mixN S.d S.q.turn), S.gone, S.beh⟩
def OS.first (S : OS) : OS × Option Int := match S.mx with
  | false => (S, S.q.turn[0]?)
  | true => (if S.deck = [] then S.deal id else S).pop
def sp_Order_first (K : PySem.W.Frag) : Sp := fun vs H Q E => ∃ (p : Addr) (S : OS) (R : List As), vs = [.ref p] ∧ S.Ok ∧ Sep (OrderR K p S :: R) H ∧ (∀ H', Sep (OrderR K p S.first.1 :: R) H' → Q (oV S.first.2) H')
theorem ln_Order_first : ∀ vs H Q E, sp_Order_first K vs H Q E → vs.length = (["self"] : List Str).length := by
  rintro _ _ _ _ ⟨p, S, R, rfl, _⟩
  rfl
theorem sc_Order_first : FnScope ["self"] ["self"] (defScope s_Order_first) := ⟨rfl, rfl, rfl, by decide +kernel, rfl, by decide +kernel, by decide +kernel⟩
theorem ok_Order_first (T : Top K mg) : OkD P w K mg base d_Order_first 3 ["self"] (sp_Order_first K) := by
  refine okD (df_Order_first T) sc_Order_first (fun _ _ _ _ _ _ us hl => match us, hl with | [_], _ => rfl) ln_Order_first (fun cdv A outer s H vs Q E hr h => ⟨_,
      pss_cons (ps_if (pt_not (px_truth (pe_fld (pv 0) rfl) (by intro _; rfl)))
       (pss_one (ps_ret (pe_ifExp (px_truth (px_meth0 (ok_Queue_entries T) (hr.mono (by decide)) (pe_fld (pv 0) rfl) (cl_Queue T) (me_Queue_entries T) (fun σ => paD σ)) (by intro _; rfl)) (pe_ix ix_seq (px_meth0 (ok_Queue_entries T) (hr.mono (by decide)) (pe_fld (pv 0) rfl) (cl_Queue T) (me_Queue_entries T) (fun σ => paD σ)) pe_int (fun _ _ => rfl)) pe_non)))
       (pss_nil))
      (pss_cons (ps_if (pt_not (px_truth (pe_fld (pv 0) rfl) (by intro _; rfl)))
       (pss_one (ps_fld (pv 0) (px_call (ok_mixed T) (hr.mono (by decide)) rfl (gl_mixed T) (fun σ => paD σ) (pa_cons (pe_fld (pv 0) rfl) (pa_cons (px_meth0 (ok_Queue_entries T) (hr.mono (by decide)) (pe_fld (pv 0) rfl) (cl_Queue T) (me_Queue_entries T) (fun σ => paD σ)) pa_nil))) rfl))
       (pss_nil))
      (pss_one (ps_ret (pe_ifExp (px_truth (pe_fld (pv 0) rfl) (by intro _; rfl)) (pe_bm PySem.F.plainAttrs_list PySem.F.slot_list_pop PySem.F.type_list_pop mt_popAt (pe_fld (pv 0) rfl) (pa_cons pe_int pa_nil)) pe_non)))), ?_⟩)
  obtain ⟨p, S, R, rfl, ho, hS, h1⟩ := h
  obtain ⟨dx, q, c, k, hS⟩ := hS.opO
  have hl := ho.len
  walk_at "go"
  unfold OS.first at h1
  cases hm : S.mx with
  | false =>
    rw [hm] at h1 hS
    walk_at "s"
    refine ⟨q, S.q, _, rfl, hS.own q, fun l H hS => ?_⟩
    refine y_trul (sqL hS) ?_
    cases ht : S.q.turn with
    | nil =>
      rw [ht] at h1
      walk_at "s"
      exact h1 _ (by rw [S.mx_eq hm]; exact (Sep.clO' (⟨S.q, S.d, false, S.ag, S.deck, S.gone, S.beh⟩) dx q c k hS (by (try simp only [List.map_nil]); repeat (first | exact En.refl | exact En.nil | refine En.cons ?_ | refine En.drop ?_))))
    | cons x r =>
      rw [ht] at h1
      refine x_yes rfl ?_
      walk_at "s"
      refine ⟨q, S.q, _, rfl, hS.own q, fun l2 H hS => ?_⟩
      walk_at "s"
      refine x_ixL (sqL hS) (atI_nat (j := 0) (v := .int x) (by rw [ht] <;> rfl)) ?_
      walk_at "s"
      exact h1 _ (by rw [S.mx_eq hm]; exact (Sep.clO' (⟨S.q, S.d, false, S.ag, S.deck, S.gone, S.beh⟩) dx q c k hS (by (try simp only [List.map_nil]); repeat (first | exact En.refl | exact En.nil | refine En.cons ?_ | refine En.drop ?_))))
  | true =>
    rw [hm] at h1 hS
    walk_at "s"
    refine y_trul (sqL hS) ?_
    cases hd : S.deck with
    | nil =>
      rw [hd] at hS
      rw [if_pos hd] at h1
      walk_at "s"
      refine x_yes rfl ?_
      walk_at "s"
      refine ⟨q, S.q, _, rfl, hS.own q, fun l H hS => ?_⟩
      walk_at "s"
      refine ⟨c, l, S.d, S.q.turn.map V.int, _, rfl, ho.seed, by rw [List.length_map]; omega, hS.own2 c l, fun l3 H hS => ?_⟩
      rw [mixN_eq] at hS
      replace hS : Sep (pt l3 (.lst ((mixN S.d S.q.turn).map V.int)) :: DiceR K c (mixSd S.d S.q.turn) :: _) H := hS
      walk_at "s"
      refine y_trul (sqL hS) ?_
      unfold OS.pop OS.deal at h1
      dsimp only [id] at h1
      cases hx : mixN S.d S.q.turn with
      | nil =>
        rw [hx] at h1 hS
        walk_at "s"
        exact h1 _ (by rw [hm]; exact (Sep.clO' (⟨S.q, mixSd S.d S.q.turn, true, S.ag, [], S.gone, S.beh⟩) dx q c l3 hS (by (try simp only [List.map_nil]); repeat (first | exact En.refl | exact En.nil | refine En.cons ?_ | refine En.drop ?_))))
      | cons x r =>
        rw [hx] at h1 hS
        walk_at "s"
        refine x_yes rfl ?_
        walk_at "s"
        refine y_bml (sqL hS) ?_
        walk_at "s"
        refine x_pop0 hS fun H hS => ?_
        walk_at "s"
        exact h1 _ (by rw [hm]; exact (Sep.clO' (⟨S.q, mixSd S.d S.q.turn, true, S.ag, r, S.gone, S.beh⟩) dx q c l3 hS (by (try simp only [List.map_nil]); repeat (first | exact En.refl | exact En.nil | refine En.cons ?_ | refine En.drop ?_))))
    | cons x r =>
      rw [hd] at hS
      rw [if_neg (by rw [hd]; intro z; cases z)] at h1
      unfold OS.pop at h1
      rw [hd] at h1
      walk_at "s"
      refine x_no rfl ?_
      walk_at "s"
      refine y_trul (sqL hS) ?_
      walk_at "s"
      refine x_yes rfl ?_
      walk_at "s"
      refine y_bml (sqL hS) ?_
      walk_at "s"
      refine x_pop0 hS fun H hS => ?_
      walk_at "s"
      exact h1 _ (by rw [hm]; exact (Sep.clO' (⟨S.q, S.d, true, S.ag, r, S.gone, S.beh⟩) dx q c k hS (by (try simp only [List.map_nil]); repeat (first | exact En.refl | exact En.nil | refine En.cons ?_ | refine En.drop ?_))))

end
end TR

set_option Elab.async false
set_option linter.all false
set_option maxRecDepth 100000
set_option maxHeartbeats 4000000
/-! .. -/

namespace TR
open PySem PySem.Spec PyProof.Rows L2
section
variable {P : Program} {w : World} {K : PySem.W.Frag} {mg : Str → Option Value} {base : Heap}
/-- the last one to the front, the first one to the end -/
def rot (xs : List Int) : List Int := (xs.drop (xs.length - 1)) ++ ((xs.drop 1).take (xs.length - 1 - 1)) ++ xs.take 1
/-- the next round's turn: none twice in a row -/
def turnD (e : Option Int) (xs : List Int) : List Int := if 1 < xs.length ∧ xs[0]? = e then rot xs else xs
def OS.nextM (S : OS) (e : Option Int) : OS × Option Int := (if S.deck = [] ∧ S.ag = "all" then S.deal (turnD e) else S).pop
theorem OS.dk_eq {S : OS} {xs : List Int} (h : S.deck = xs) : S = ⟨S.q, S.d, S.mx, S.ag, xs, S.gone, S.beh⟩ := by
  cases S
  cases h
  rfl
theorem cut_from (ns : List Int) (n : Nat) : cutV (ns.map V.int) (some (n : Int)) none = (ns.drop n).map V.int := by
  unfold cutV
  rw [HT.sIx_nat, HT.sIx_none, List.length_map, List.map_drop, List.take_of_length_le (by rw [List.length_drop, List.length_map]; omega)]
  by_cases h : n ≤ ns.length
  · rw [Nat.min_eq_left h]
  · rw [Nat.min_eq_right (by omega), List.drop_of_length_le (by rw [List.length_map]; omega), List.drop_of_length_le (by rw [List.length_map]; omega)]
theorem cut_last {ns : List Int} (h : 1 < ns.length) : cutV (ns.map V.int) (some (-1)) none = (ns.drop (ns.length - 1)).map V.int := by
  have e : HT.sIx (ns.map V.int).length 0 (some (-1)) = ns.length - 1 := by
    show (if (-1 : Int) < 0 then ((-1 : Int) + ((ns.map V.int).length : Int)).toNat else min (-1 : Int).toNat (ns.map V.int).length) = _
    rw [if_pos (by decide), List.length_map]
    omega
  unfold cutV
  rw [e, HT.sIx_none, List.length_map, List.map_drop, List.take_of_length_le (by rw [List.length_drop, List.length_map]; omega)]
theorem cut_mid {ns : List Int} (h : 1 < ns.length) : cutV (ns.map V.int) (some 1) (some (-1)) = ((ns.drop 1).take (ns.length - 1 - 1)).map V.int := by
  have e : HT.sIx (ns.map V.int).length (ns.map V.int).length (some (-1)) = ns.length - 1 := by
    show (if (-1 : Int) < 0 then ((-1 : Int) + ((ns.map V.int).length : Int)).toNat else min (-1 : Int).toNat (ns.map V.int).length) = _
    rw [if_pos (by decide), List.length_map]
    omega
  have e2 : HT.sIx (ns.map V.int).length 0 (some 1) = 1 := by
    show (if (1 : Int) < 0 then ((1 : Int) + ((ns.map V.int).length : Int)).toNat else min (1 : Int).toNat (ns.map V.int).length) = _
    rw [if_neg (by decide), List.length_map, show (1 : Int).toNat = 1 from rfl]
    omega
  unfold cutV
  rw [e, e2, List.map_take, List.map_drop]
theorem cut_head {ns : List Int} (h : 1 < ns.length) : cutV (ns.map V.int) none (some 1) = (ns.take 1).map V.int := by
  have e2 : HT.sIx (ns.map V.int).length (ns.map V.int).length (some 1) = 1 := by
    show (if (1 : Int) < 0 then ((1 : Int) + ((ns.map V.int).length : Int)).toNat else min (1 : Int).toNat (ns.map V.int).length) = _
    rw [if_neg (by decide), List.length_map, show (1 : Int).toNat = 1 from rfl]
    omega
  unfold cutV
  rw [e2, HT.sIx_none, List.drop_zero, List.map_take]
def sp_Order_next_mixed (K : PySem.W.Frag) : Sp := fun vs H Q E => ∃ (p : Addr) (e : Option Int) (S : OS) (R : List As), vs = [.ref p, oV e] ∧ S.Ok ∧ Sep (OrderR K p S :: R) H ∧ (∀ H', Sep (OrderR K p (S.nextM e).1 :: R) H' → Q (oV (S.nextM e).2) H')
theorem ln_Order_next_mixed : ∀ vs H Q E, sp_Order_next_mixed K vs H Q E → vs.length = (["self", "entry"] : List Str).length := by
  rintro _ _ _ _ ⟨p, e, S, R, rfl, _⟩
  rfl
theorem sc_Order_next_mixed : FnScope ["self", "entry"] ["self", "entry"] (defScope s_Order_next_mixed) := ⟨rfl, rfl, rfl, by decide +kernel, rfl, by decide +kernel, by decide +kernel⟩
theorem ok_Order_next_mixed (T : Top K mg) : OkD P w K mg base d_Order_next_mixed 3 ["self", "entry"] (sp_Order_next_mixed K) := by
  refine okD (df_Order_next_mixed T) sc_Order_next_mixed (fun _ _ _ _ _ _ us hl => match us, hl with | [_, _], _ => rfl) ln_Order_next_mixed (fun cdv A outer s H vs Q E hr h => ⟨_,
      pss_cons (ps_if (PW.pt (pw_and (pt_not (px_truth (pe_fld (pv 0) rfl) (by intro _; rfl))) (pw_and1 (pt_cmpR (op_eqA hr.units) (pe_fld (pv 0) rfl) pe_str (nomark _)))))
       (pss_cons (ps_fld (pv 0) (px_call (ok_mixed T) (hr.mono (by decide)) rfl (gl_mixed T) (fun σ => paD σ) (pa_cons (pe_fld (pv 0) rfl) (pa_cons (px_meth0 (ok_Queue_entries T) (hr.mono (by decide)) (pe_fld (pv 0) rfl) (cl_Queue T) (me_Queue_entries T) (fun σ => paD σ)) pa_nil))) rfl)
        (pss_one (ps_if (PW.pt (pw_and (pt_cmpR op_gt (pe_callB call_lenA (by rfl) (fr_len T) (by decide +kernel) (pa_cons (pe_fld (pv 0) rfl) pa_nil)) pe_int (nomark _)) (pw_and1 (pt_cmpR (op_eqA hr.units) (pe_ix ix_seq (pe_fld (pv 0) rfl) pe_int (fun _ _ => rfl)) (pv 1) (nomark _)))))
         (pss_one (ps_fld (pv 0) (pe_op op_addA (pe_op op_addA (pe_slice sl_list (pe_fld (pv 0) rfl) (po_some (pe_un un_neg pe_int)) po_none) (pe_slice sl_list (pe_fld (pv 0) rfl) (po_some pe_int) (po_some (pe_un un_neg pe_int)))) (pe_slice sl_list (pe_fld (pv 0) rfl) po_none (po_some pe_int))) rfl))
         (pss_nil))))
       (pss_nil))
      (pss_one (ps_ret (pe_ifExp (px_truth (pe_fld (pv 0) rfl) (by intro _; rfl)) (pe_bm PySem.F.plainAttrs_list PySem.F.slot_list_pop PySem.F.type_list_pop mt_popAt (pe_fld (pv 0) rfl) (pa_cons pe_int pa_nil)) pe_non))), ?_⟩)
  obtain ⟨p, e, S, R, rfl, ho, hS, h1⟩ := h
  obtain ⟨dx, q, c, k, hS⟩ := hS.opO
  have hl := ho.len
  walk_at "go"
  unfold OS.nextM at h1
  refine y_trul (sqL hS) ?_
  cases hd : S.deck with
  | cons x r =>
    rw [hd] at hS
    rw [if_neg (by rw [hd]; rintro ⟨z, _⟩; cases z)] at h1
    unfold OS.pop at h1
    rw [hd] at h1
    walk_at "s"
    refine x_no rfl ?_
    walk_at "s"
    refine y_trul (sqL hS) ?_
    walk_at "s"
    refine x_yes rfl ?_
    walk_at "s"
    refine y_bml (sqL hS) ?_
    walk_at "s"
    refine x_pop0 hS fun H hS => ?_
    walk_at "s"
    exact h1 _ (Sep.clO' (⟨S.q, S.d, S.mx, S.ag, r, S.gone, S.beh⟩) dx q c k hS (by (try simp only [List.map_nil]); repeat (first | exact En.refl | exact En.nil | refine En.cons ?_ | refine En.drop ?_)))
  | nil =>
    rw [hd] at hS
    walk_at "s"
    refine x_yes rfl ?_
    walk_at "s"
    refine x_eqS rfl ?_
    walk_at "s"
    refine x_dec (fun ha => ?_) (fun ha => ?_)
    · have ha' : S.ag = "all" := by injection ha
      rw [if_pos ⟨hd, ha'⟩] at h1
      walk_at "s"
      refine ⟨q, S.q, _, rfl, hS.own q, fun l H hS => ?_⟩
      walk_at "s"
      refine ⟨c, l, S.d, S.q.turn.map V.int, _, rfl, ho.seed, by rw [List.length_map]; omega, hS.own2 c l, fun l3 H hS => ?_⟩
      rw [mixN_eq] at hS
      replace hS : Sep (pt l3 (.lst ((mixN S.d S.q.turn).map V.int)) :: DiceR K c (mixSd S.d S.q.turn) :: _) H := hS
      unfold OS.pop OS.deal at h1
      dsimp only at h1
      obtain ⟨xs, hx⟩ : ∃ xs, xs = mixN S.d S.q.turn := ⟨_, rfl⟩
      rw [← hx] at h1 hS
      have hxl : xs.length ≤ 12 := by rw [hx, (mixN_perm S.d S.q.turn).length_eq]; exact hl
      have exl : (xs.map V.int).length = xs.length := List.length_map _
      walk_at "s"
      refine x_lenL (sqL hS) ?_
      walk_at "s"
      rw [exl]
      refine x_dec (fun h2 => ?_) (fun h2 => ?_)
      · have h2' : 1 < xs.length := by omega
        obtain ⟨x0, hx0⟩ : ∃ x0, xs[0]? = some x0 := ⟨_, List.getElem?_eq_getElem (by omega)⟩
        walk_at "s"
        refine x_ixL (sqL hS) (atI_nat (j := 0) (v := .int x0) (by rw [List.getElem?_map, hx0] <;> rfl)) ?_
        walk_at "s"
        refine x_eqI1 ?_
        walk_at "s"
        refine x_dec (fun h3 => ?_) (fun h3 => ?_)
        · have et : turnD e xs = rot xs := if_pos ⟨h2', hx0.trans h3⟩
          rw [et] at h1
          walk_at "s"
          refine x_slL hS (sqL hS) fun l4 H hS => ?_
          rw [cut_last h2'] at hS
          walk_at "s"
          refine x_slL hS (sqL hS) fun l5 H hS => ?_
          rw [cut_mid h2'] at hS
          walk_at "s"
          refine x_cat hS (by simp only [List.length_map, List.length_drop, List.length_take, List.length_append]; exact sz' (by omega)) fun l6 H hS => ?_
          walk_at "s"
          refine x_slL hS (sqL hS) fun l7 H hS => ?_
          rw [cut_head h2'] at hS
          walk_at "s"
          refine x_cat hS (by simp only [List.length_map, List.length_drop, List.length_take, List.length_append]; exact sz' (by omega)) fun l8 H hS => ?_
          rw [← List.map_append, ← List.map_append] at hS
          obtain ⟨ys, hys⟩ : ∃ ys, ys = rot xs := ⟨_, rfl⟩
          replace hS : Sep (pt l8 (.lst ((rot xs).map V.int)) :: _) H := hS
          rw [← hys] at h1 hS
          walk_at "s"
          refine y_trul (sqL hS) ?_
          cases hy : ys with
          | nil =>
            rw [hy] at h1 hS
            walk_at "s"
            exact h1 _ (Sep.clO' (⟨S.q, mixSd S.d S.q.turn, S.mx, S.ag, [], S.gone, S.beh⟩) dx q c l8 hS (by (try simp only [List.map_nil]); repeat (first | exact En.refl | exact En.nil | refine En.cons ?_ | refine En.drop ?_)))
          | cons y r =>
            rw [hy] at h1 hS
            walk_at "s"
            refine x_yes rfl ?_
            walk_at "s"
            refine y_bml (sqL hS) ?_
            walk_at "s"
            refine x_pop0 hS fun H hS => ?_
            walk_at "s"
            exact h1 _ (Sep.clO' (⟨S.q, mixSd S.d S.q.turn, S.mx, S.ag, r, S.gone, S.beh⟩) dx q c l8 hS (by (try simp only [List.map_nil]); repeat (first | exact En.refl | exact En.nil | refine En.cons ?_ | refine En.drop ?_)))
        · have et : turnD e xs = xs := if_neg fun z => h3 (hx0.symm.trans z.2)
          rw [et] at h1
          clear hx
          obtain ⟨ys, hys⟩ : ∃ ys, ys = xs := ⟨_, rfl⟩
          rw [← hys] at h1 hS
          walk_at "s"
          refine y_trul (sqL hS) ?_
          cases hy : ys with
          | nil =>
            rw [hy] at h1 hS
            walk_at "s"
            exact h1 _ (Sep.clO' (⟨S.q, mixSd S.d S.q.turn, S.mx, S.ag, [], S.gone, S.beh⟩) dx q c l3 hS (by (try simp only [List.map_nil]); repeat (first | exact En.refl | exact En.nil | refine En.cons ?_ | refine En.drop ?_)))
          | cons y r =>
            rw [hy] at h1 hS
            walk_at "s"
            refine x_yes rfl ?_
            walk_at "s"
            refine y_bml (sqL hS) ?_
            walk_at "s"
            refine x_pop0 hS fun H hS => ?_
            walk_at "s"
            exact h1 _ (Sep.clO' (⟨S.q, mixSd S.d S.q.turn, S.mx, S.ag, r, S.gone, S.beh⟩) dx q c l3 hS (by (try simp only [List.map_nil]); repeat (first | exact En.refl | exact En.nil | refine En.cons ?_ | refine En.drop ?_)))
      · have et : turnD e xs = xs := if_neg fun z => h2 (by omega)
        rw [et] at h1
        clear hx
        obtain ⟨ys, hys⟩ : ∃ ys, ys = xs := ⟨_, rfl⟩
        rw [← hys] at h1 hS
        walk_at "s"
        refine y_trul (sqL hS) ?_
        cases hy : ys with
        | nil =>
          rw [hy] at h1 hS
          walk_at "s"
          exact h1 _ (Sep.clO' (⟨S.q, mixSd S.d S.q.turn, S.mx, S.ag, [], S.gone, S.beh⟩) dx q c l3 hS (by (try simp only [List.map_nil]); repeat (first | exact En.refl | exact En.nil | refine En.cons ?_ | refine En.drop ?_)))
        | cons y r =>
          rw [hy] at h1 hS
          walk_at "s"
          refine x_yes rfl ?_
          walk_at "s"
          refine y_bml (sqL hS) ?_
          walk_at "s"
          refine x_pop0 hS fun H hS => ?_
          walk_at "s"
          exact h1 _ (Sep.clO' (⟨S.q, mixSd S.d S.q.turn, S.mx, S.ag, r, S.gone, S.beh⟩) dx q c l3 hS (by (try simp only [List.map_nil]); repeat (first | exact En.refl | exact En.nil | refine En.cons ?_ | refine En.drop ?_)))
    · rw [if_neg (fun z => ha (by rw [z.2]))] at h1
      unfold OS.pop at h1
      rw [hd] at h1
      walk_at "s"
      refine y_trul (sqL hS) ?_
      walk_at "s"
      exact h1 _ (by rw [S.dk_eq hd]; exact (Sep.clO' (⟨S.q, S.d, S.mx, S.ag, [], S.gone, S.beh⟩) dx q c k hS (by (try simp only [List.map_nil]); repeat (first | exact En.refl | exact En.nil | refine En.cons ?_ | refine En.drop ?_))))

end
end TR

set_option Elab.async false
set_option linter.all false
set_option maxRecDepth 100000
set_option maxHeartbeats 4000000
/-! .. -/

namespace TR
open PySem PySem.Spec PyProof.Rows L2
section
variable {P : Program} {w : World} {K : PySem.W.Frag} {mg : Str → Option Value} {base : Heap}
/-- the place in the turn of what comes -/
def OS.at_ (S : OS) (e : Option Int) : Nat := if hasO e S.q.turn = true then (match e with
    | some i => S.q.turn.idxOf i + 1
    | none => 0) else if S.gone = true then (match S.beh with
    | some b => S.q.turn.idxOf b
    | none => S.q.turn.length) else 0
def OS.nextP (S : OS) (e : Option Int) : Option Int := if S.at_ e < S.q.turn.length then S.q.turn[S.at_ e]? else if S.ag = "all" then S.q.turn[0]? else none
def sp_Order_next_plain (K : PySem.W.Frag) : Sp := fun vs H Q E => ∃ (p : Addr) (e : Option Int) (S : OS) (R : List As), vs = [.ref p, oV e] ∧ S.Ok ∧ Sep (OrderR K p S :: R) H ∧ (∀ H', Sep (OrderR K p S :: R) H' → Q (oV (S.nextP e)) H')
theorem ln_Order_next_plain : ∀ vs H Q E, sp_Order_next_plain K vs H Q E → vs.length = (["self", "entry"] : List Str).length := by
  rintro _ _ _ _ ⟨p, e, S, R, rfl, _⟩
  rfl
theorem has_some {e : Option Int} {ns : List Int} (h : hasO e ns = true) : ∃ i, e = some i ∧ i ∈ ns := by
  cases e with
  | none => cases h
  | some i => exact ⟨i, rfl, of_decide_eq_true h⟩
theorem sc_Order_next_plain : FnScope ["self", "entry", "every", "place"] ["self", "entry"] (defScope s_Order_next_plain) := ⟨rfl, rfl, rfl, by decide +kernel, rfl, by decide +kernel, by decide +kernel⟩
theorem ok_Order_next_plain (T : Top K mg) : OkD P w K mg base d_Order_next_plain 2 ["self", "entry"] (sp_Order_next_plain K) := by
  refine okD (df_Order_next_plain T) sc_Order_next_plain (fun _ _ _ _ _ _ us hl => match us, hl with | [_, _], _ => rfl) ln_Order_next_plain (fun cdv A outer s H vs Q E hr h => ⟨_,
      pss_cons (ps_set (i := 2) sc_Order_next_plain.nd rfl (Or.inl rfl) (px_meth0 (ok_Queue_entries T) (hr.mono (by decide)) (pe_fld (pv 0) rfl) (cl_Queue T) (me_Queue_entries T) (fun σ => paD σ)))
      (pss_cons (ps_set (i := 3) sc_Order_next_plain.nd rfl (Or.inl rfl) (pe_ifExp (pt_cmpR op_in_seq (pv 1) (pv 2) (by rfl)) (pe_op op_addA (pe_bm PySem.F.plainAttrs_list PySem.F.slot_list_index PySem.F.type_list_index mt_index (pv 2) (pa_cons (pv 1) pa_nil)) pe_int) pe_int))
      (pss_cons (ps_if (PW.pt (pw_and (px_truth (pe_fld (pv 0) rfl) (by intro _; rfl)) (pw_and1 (pt_cmpR op_notIn_seq (pv 1) (pv 2) (by rfl)))))
       (pss_one (ps_set (i := 3) sc_Order_next_plain.nd rfl (Or.inl rfl) (pe_ifExp (pt_cmpR op_isN1 (pe_fld (pv 0) rfl) pe_non (nomark _)) (pe_callB call_lenA (by rfl) (fr_len T) (by decide +kernel) (pa_cons (pv 2) pa_nil)) (pe_bm PySem.F.plainAttrs_list PySem.F.slot_list_index PySem.F.type_list_index mt_index (pv 2) (pa_cons (pe_fld (pv 0) rfl) pa_nil)))))
       (pss_nil))
      (pss_cons (ps_if (pt_cmpR op_lt (pv 3) (pe_callB call_lenA (by rfl) (fr_len T) (by decide +kernel) (pa_cons (pv 2) pa_nil)) (nomark _))
       (pss_one (ps_ret (pe_ix ix_seq (pv 2) (pv 3) (fun _ _ => rfl))))
       (pss_nil))
      (pss_one (ps_ret (pe_ifExp (PW.pt (pw_and (pt_cmpR (op_eqA hr.units) (pe_fld (pv 0) rfl) pe_str (nomark _)) (pw_and1 (px_truth (pv 2) (by intro _; rfl))))) (pe_ix ix_seq (pv 2) pe_int (fun _ _ => rfl)) pe_non)))))), ?_⟩)
  obtain ⟨p, e, S, R, rfl, ho, hS, h1⟩ := h
  obtain ⟨dx, q, c, k, hS⟩ := hS.opO
  have hl := ho.len
  have etl : (S.q.turn.map V.int).length = S.q.turn.length := List.length_map _
  walk_at "go"
  refine ⟨q, S.q, _, rfl, hS.own q, fun l H hS => ?_⟩
  walk_at "s"
  refine x_inO (sqL hS) ?_
  walk_at "s"
  cases hh : hasO e S.q.turn with
  | true =>
    obtain ⟨i, he, hi⟩ := has_some hh
    have hat : S.at_ e = S.q.turn.idxOf i + 1 := by
      unfold OS.at_
      rw [if_pos hh, he]
    walk_at "s"
    refine y_bml (sqL hS) ?_
    walk_at "s"
    rw [he]
    refine x_ixI (sqL hS) hi ?_
    rw [← he]
    walk_at "s"
    cases hg : S.gone with
    | true =>
      walk_at "s"
      refine x_ninO (sqL hS) ?_
      rw [hh]
      walk_at "s"
      refine x_lenL (sqL hS) ?_
      walk_at "s"
      rw [etl]
      refine x_dec (fun h2 => ?_) (fun h2 => ?_)
      · obtain ⟨y, hy⟩ : ∃ y, S.q.turn[S.q.turn.idxOf i + 1]? = some y := ⟨_, List.getElem?_eq_getElem (by omega)⟩
        have e2 : S.nextP e = some y := by unfold OS.nextP; rw [hat, if_pos (by omega)]; exact hy
        walk_at "s"
        refine x_ixL (sqL hS) (atI_some (v := .int y) (by omega) (by rw [List.getElem?_map, show (((S.q.turn.idxOf i : Nat) : Int) + 1).toNat = S.q.turn.idxOf i + 1 by omega, hy] <;> rfl)) ?_
        rw [e2] at h1
        exact h1 _ (Sep.clO' (S) dx q c k hS (by (try simp only [List.map_nil]); repeat (first | exact En.refl | exact En.nil | refine En.cons ?_ | refine En.drop ?_)))
      · walk_at "s"
        refine x_eqS rfl ?_
        walk_at "s"
        refine x_dec (fun ha => ?_) (fun ha => ?_)
        · have ha' : S.ag = "all" := by injection ha
          have e2 : S.nextP e = S.q.turn[0]? := by unfold OS.nextP; rw [hat, if_neg (by omega), if_pos ha']
          rw [e2] at h1
          walk_at "s"
          refine y_trul (sqL hS) ?_
          cases ht : S.q.turn with
          | nil =>
            rw [ht] at h1
            walk_at "s"
            exact h1 _ (Sep.clO' (S) dx q c k hS (by (try simp only [List.map_nil]); repeat (first | exact En.refl | exact En.nil | refine En.cons ?_ | refine En.drop ?_)))
          | cons y r =>
            rw [ht] at h1
            walk_at "s"
            refine x_yes rfl ?_
            walk_at "s"
            refine x_ixL (sqL hS) (atI_nat (j := 0) (v := .int y) (by rw [ht] <;> rfl)) ?_
            walk_at "s"
            exact h1 _ (Sep.clO' (S) dx q c k hS (by (try simp only [List.map_nil]); repeat (first | exact En.refl | exact En.nil | refine En.cons ?_ | refine En.drop ?_)))
        · have e2 : S.nextP e = none := by unfold OS.nextP; rw [hat, if_neg (by omega), if_neg (fun z => ha (by rw [z]))]
          rw [e2] at h1
          walk_at "s"
          exact h1 _ (Sep.clO' (S) dx q c k hS (by (try simp only [List.map_nil]); repeat (first | exact En.refl | exact En.nil | refine En.cons ?_ | refine En.drop ?_)))
    | false =>
      walk_at "s"
      refine x_lenL (sqL hS) ?_
      walk_at "s"
      rw [etl]
      refine x_dec (fun h2 => ?_) (fun h2 => ?_)
      · obtain ⟨y, hy⟩ : ∃ y, S.q.turn[S.q.turn.idxOf i + 1]? = some y := ⟨_, List.getElem?_eq_getElem (by omega)⟩
        have e2 : S.nextP e = some y := by unfold OS.nextP; rw [hat, if_pos (by omega)]; exact hy
        walk_at "s"
        refine x_ixL (sqL hS) (atI_some (v := .int y) (by omega) (by rw [List.getElem?_map, show (((S.q.turn.idxOf i : Nat) : Int) + 1).toNat = S.q.turn.idxOf i + 1 by omega, hy] <;> rfl)) ?_
        rw [e2] at h1
        exact h1 _ (Sep.clO' (S) dx q c k hS (by (try simp only [List.map_nil]); repeat (first | exact En.refl | exact En.nil | refine En.cons ?_ | refine En.drop ?_)))
      · walk_at "s"
        refine x_eqS rfl ?_
        walk_at "s"
        refine x_dec (fun ha => ?_) (fun ha => ?_)
        · have ha' : S.ag = "all" := by injection ha
          have e2 : S.nextP e = S.q.turn[0]? := by unfold OS.nextP; rw [hat, if_neg (by omega), if_pos ha']
          rw [e2] at h1
          walk_at "s"
          refine y_trul (sqL hS) ?_
          cases ht : S.q.turn with
          | nil =>
            rw [ht] at h1
            walk_at "s"
            exact h1 _ (Sep.clO' (S) dx q c k hS (by (try simp only [List.map_nil]); repeat (first | exact En.refl | exact En.nil | refine En.cons ?_ | refine En.drop ?_)))
          | cons y r =>
            rw [ht] at h1
            walk_at "s"
            refine x_yes rfl ?_
            walk_at "s"
            refine x_ixL (sqL hS) (atI_nat (j := 0) (v := .int y) (by rw [ht] <;> rfl)) ?_
            walk_at "s"
            exact h1 _ (Sep.clO' (S) dx q c k hS (by (try simp only [List.map_nil]); repeat (first | exact En.refl | exact En.nil | refine En.cons ?_ | refine En.drop ?_)))
        · have e2 : S.nextP e = none := by unfold OS.nextP; rw [hat, if_neg (by omega), if_neg (fun z => ha (by rw [z]))]
          rw [e2] at h1
          walk_at "s"
          exact h1 _ (Sep.clO' (S) dx q c k hS (by (try simp only [List.map_nil]); repeat (first | exact En.refl | exact En.nil | refine En.cons ?_ | refine En.drop ?_)))
  | false =>
    have hn : ¬ hasO e S.q.turn = true := by rw [hh]; intro z; cases z
    walk_at "s"
    cases hg : S.gone with
    | true =>
      walk_at "s"
      refine x_ninO (sqL hS) ?_
      rw [hh]
      walk_at "s"
      cases hb : S.beh with
      | none =>
        have hat : S.at_ e = S.q.turn.length := by
          unfold OS.at_
          rw [if_neg hn, if_pos hg, hb]
        refine x_yes rfl ?_
        walk_at "s"
        refine x_lenL (sqL hS) ?_
        walk_at "s"
        rw [etl]
        walk_at "s"
        refine x_lenL (sqL hS) ?_
        walk_at "s"
        rw [etl]
        refine x_dec (fun h2 => ?_) (fun h2 => ?_)
        · obtain ⟨y, hy⟩ : ∃ y, S.q.turn[S.q.turn.length]? = some y := ⟨_, List.getElem?_eq_getElem (by omega)⟩
          have e2 : S.nextP e = some y := by unfold OS.nextP; rw [hat, if_pos (by omega)]; exact hy
          walk_at "s"
          refine x_ixL (sqL hS) (atI_some (v := .int y) (by omega) (by rw [List.getElem?_map, show (((S.q.turn.length : Nat) : Int)).toNat = S.q.turn.length by omega, hy] <;> rfl)) ?_
          rw [e2] at h1
          exact h1 _ (Sep.clO' (S) dx q c k hS (by (try simp only [List.map_nil]); repeat (first | exact En.refl | exact En.nil | refine En.cons ?_ | refine En.drop ?_)))
        · walk_at "s"
          refine x_eqS rfl ?_
          walk_at "s"
          refine x_dec (fun ha => ?_) (fun ha => ?_)
          · have ha' : S.ag = "all" := by injection ha
            have e2 : S.nextP e = S.q.turn[0]? := by unfold OS.nextP; rw [hat, if_neg (by omega), if_pos ha']
            rw [e2] at h1
            walk_at "s"
            refine y_trul (sqL hS) ?_
            cases ht : S.q.turn with
            | nil =>
              rw [ht] at h1
              walk_at "s"
              exact h1 _ (Sep.clO' (S) dx q c k hS (by (try simp only [List.map_nil]); repeat (first | exact En.refl | exact En.nil | refine En.cons ?_ | refine En.drop ?_)))
            | cons y r =>
              rw [ht] at h1
              walk_at "s"
              refine x_yes rfl ?_
              walk_at "s"
              refine x_ixL (sqL hS) (atI_nat (j := 0) (v := .int y) (by rw [ht] <;> rfl)) ?_
              walk_at "s"
              exact h1 _ (Sep.clO' (S) dx q c k hS (by (try simp only [List.map_nil]); repeat (first | exact En.refl | exact En.nil | refine En.cons ?_ | refine En.drop ?_)))
          · have e2 : S.nextP e = none := by unfold OS.nextP; rw [hat, if_neg (by omega), if_neg (fun z => ha (by rw [z]))]
            rw [e2] at h1
            walk_at "s"
            exact h1 _ (Sep.clO' (S) dx q c k hS (by (try simp only [List.map_nil]); repeat (first | exact En.refl | exact En.nil | refine En.cons ?_ | refine En.drop ?_)))
      | some b =>
        have hat : S.at_ e = S.q.turn.idxOf b := by
          unfold OS.at_
          rw [if_neg hn, if_pos hg, hb]
        refine x_no rfl ?_
        walk_at "s"
        refine y_bml (sqL hS) ?_
        walk_at "s"
        rw [hb]
        refine x_ixI (sqL hS) (ho.bh b hg hb) ?_
        walk_at "s"
        refine x_lenL (sqL hS) ?_
        walk_at "s"
        rw [etl]
        refine x_dec (fun h2 => ?_) (fun h2 => ?_)
        · obtain ⟨y, hy⟩ : ∃ y, S.q.turn[S.q.turn.idxOf b]? = some y := ⟨_, List.getElem?_eq_getElem (by omega)⟩
          have e2 : S.nextP e = some y := by unfold OS.nextP; rw [hat, if_pos (by omega)]; exact hy
          walk_at "s"
          refine x_ixL (sqL hS) (atI_some (v := .int y) (by omega) (by rw [List.getElem?_map, show (((S.q.turn.idxOf b : Nat) : Int)).toNat = S.q.turn.idxOf b by omega, hy] <;> rfl)) ?_
          rw [e2] at h1
          exact h1 _ (Sep.clO' (S) dx q c k hS (by (try simp only [List.map_nil]); repeat (first | exact En.refl | exact En.nil | refine En.cons ?_ | refine En.drop ?_)))
        · walk_at "s"
          refine x_eqS rfl ?_
          walk_at "s"
          refine x_dec (fun ha => ?_) (fun ha => ?_)
          · have ha' : S.ag = "all" := by injection ha
            have e2 : S.nextP e = S.q.turn[0]? := by unfold OS.nextP; rw [hat, if_neg (by omega), if_pos ha']
            rw [e2] at h1
            walk_at "s"
            refine y_trul (sqL hS) ?_
            cases ht : S.q.turn with
            | nil =>
              rw [ht] at h1
              walk_at "s"
              exact h1 _ (Sep.clO' (S) dx q c k hS (by (try simp only [List.map_nil]); repeat (first | exact En.refl | exact En.nil | refine En.cons ?_ | refine En.drop ?_)))
            | cons y r =>
              rw [ht] at h1
              walk_at "s"
              refine x_yes rfl ?_
              walk_at "s"
              refine x_ixL (sqL hS) (atI_nat (j := 0) (v := .int y) (by rw [ht] <;> rfl)) ?_
              walk_at "s"
              exact h1 _ (Sep.clO' (S) dx q c k hS (by (try simp only [List.map_nil]); repeat (first | exact En.refl | exact En.nil | refine En.cons ?_ | refine En.drop ?_)))
          · have e2 : S.nextP e = none := by unfold OS.nextP; rw [hat, if_neg (by omega), if_neg (fun z => ha (by rw [z]))]
            rw [e2] at h1
            walk_at "s"
            exact h1 _ (Sep.clO' (S) dx q c k hS (by (try simp only [List.map_nil]); repeat (first | exact En.refl | exact En.nil | refine En.cons ?_ | refine En.drop ?_)))
    | false =>
      have hat : S.at_ e = 0 := by
        unfold OS.at_
        rw [if_neg hn, if_neg (by rw [hg]; intro z; cases z)]
      walk_at "s"
      refine x_lenL (sqL hS) ?_
      walk_at "s"
      rw [etl]
      refine x_dec (fun h2 => ?_) (fun h2 => ?_)
      · obtain ⟨y, hy⟩ : ∃ y, S.q.turn[0]? = some y := ⟨_, List.getElem?_eq_getElem (by omega)⟩
        have e2 : S.nextP e = some y := by unfold OS.nextP; rw [hat, if_pos (by omega)]; exact hy
        walk_at "s"
        refine x_ixL (sqL hS) (atI_some (v := .int y) (by omega) (by rw [List.getElem?_map, show ((0 : Int)).toNat = 0 by omega, hy] <;> rfl)) ?_
        rw [e2] at h1
        exact h1 _ (Sep.clO' (S) dx q c k hS (by (try simp only [List.map_nil]); repeat (first | exact En.refl | exact En.nil | refine En.cons ?_ | refine En.drop ?_)))
      · walk_at "s"
        refine x_eqS rfl ?_
        walk_at "s"
        refine x_dec (fun ha => ?_) (fun ha => ?_)
        · have ha' : S.ag = "all" := by injection ha
          have e2 : S.nextP e = S.q.turn[0]? := by unfold OS.nextP; rw [hat, if_neg (by omega), if_pos ha']
          rw [e2] at h1
          walk_at "s"
          refine y_trul (sqL hS) ?_
          cases ht : S.q.turn with
          | nil =>
            rw [ht] at h1
            walk_at "s"
            exact h1 _ (Sep.clO' (S) dx q c k hS (by (try simp only [List.map_nil]); repeat (first | exact En.refl | exact En.nil | refine En.cons ?_ | refine En.drop ?_)))
          | cons y r =>
            rw [ht] at h1
            walk_at "s"
            refine x_yes rfl ?_
            walk_at "s"
            refine x_ixL (sqL hS) (atI_nat (j := 0) (v := .int y) (by rw [ht] <;> rfl)) ?_
            walk_at "s"
            exact h1 _ (Sep.clO' (S) dx q c k hS (by (try simp only [List.map_nil]); repeat (first | exact En.refl | exact En.nil | refine En.cons ?_ | refine En.drop ?_)))
        · have e2 : S.nextP e = none := by unfold OS.nextP; rw [hat, if_neg (by omega), if_neg (fun z => ha (by rw [z]))]
          rw [e2] at h1
          walk_at "s"
          exact h1 _ (Sep.clO' (S) dx q c k hS (by (try simp only [List.map_nil]); repeat (first | exact En.refl | exact En.nil | refine En.cons ?_ | refine En.drop ?_)))
def OS.skip (S : OS) (e : Option Int) : OS × Option Int := match S.mx with
  | true => S.nextM e
  | false => (S, S.nextP e)
def sp_Order_skip (K : PySem.W.Frag) : Sp := fun vs H Q E => ∃ (p : Addr) (e : Option Int) (S : OS) (R : List As), vs = [.ref p, oV e] ∧ S.Ok ∧ Sep (OrderR K p S :: R) H ∧ (∀ H', Sep (OrderR K p (S.skip e).1 :: R) H' → Q (oV (S.skip e).2) H')
theorem ln_Order_skip : ∀ vs H Q E, sp_Order_skip K vs H Q E → vs.length = (["self", "entry"] : List Str).length := by
  rintro _ _ _ _ ⟨p, e, S, R, rfl, _⟩
  rfl
theorem sc_Order_skip : FnScope ["self", "entry"] ["self", "entry"] (defScope s_Order_skip) := ⟨rfl, rfl, rfl, by decide +kernel, rfl, by decide +kernel, by decide +kernel⟩
theorem ok_Order_skip (T : Top K mg) : OkD P w K mg base d_Order_skip 4 ["self", "entry"] (sp_Order_skip K) := by
  refine okD (df_Order_skip T) sc_Order_skip (fun _ _ _ _ _ _ us hl => match us, hl with | [_, _], _ => rfl) ln_Order_skip (fun cdv A outer s H vs Q E hr h => ⟨_,
      pss_one (ps_ret (pe_ifExp (px_truth (pe_fld (pv 0) rfl) (by intro _; rfl)) (px_meth (ok_Order_next_mixed T) (hr.mono (by decide)) (pv 0) (cl_Order T) (me_Order_next_mixed T) (fun σ => paD σ) (pa_cons (pv 1) pa_nil)) (px_meth (ok_Order_next_plain T) (hr.mono (by decide)) (pv 0) (cl_Order T) (me_Order_next_plain T) (fun σ => paD σ) (pa_cons (pv 1) pa_nil)))), ?_⟩)
  obtain ⟨p, e, S, R, rfl, ho, hS, h1⟩ := h
  obtain ⟨dx, q, c, k, hS⟩ := hS.opO
  walk_at "go"
  unfold OS.skip at h1
  cases hm : S.mx with
  | true =>
    rw [hm] at h1
    walk_at "s"
    exact ⟨p, e, S, R, rfl, ho, (Sep.clO' (S) dx q c k hS (by (try simp only [List.map_nil]); repeat (first | exact En.refl | exact En.nil | refine En.cons ?_ | refine En.drop ?_))), h1⟩
  | false =>
    rw [hm] at h1
    walk_at "s"
    exact ⟨p, e, S, R, rfl, ho, (Sep.clO' (S) dx q c k hS (by (try simp only [List.map_nil]); repeat (first | exact En.refl | exact En.nil | refine En.cons ?_ | refine En.drop ?_))), h1⟩
def OS.after (S : OS) (e : Option Int) : OS × Option Int := if S.ag = "one" ∧ hasO e S.q.turn = true then (S, e) else S.skip e
def sp_Order_after (K : PySem.W.Frag) : Sp := fun vs H Q E => ∃ (p : Addr) (e : Option Int) (S : OS) (R : List As), vs = [.ref p, oV e] ∧ S.Ok ∧ Sep (OrderR K p S :: R) H ∧ (∀ H', Sep (OrderR K p (S.after e).1 :: R) H' → Q (oV (S.after e).2) H')
theorem ln_Order_after : ∀ vs H Q E, sp_Order_after K vs H Q E → vs.length = (["self", "entry"] : List Str).length := by
  rintro _ _ _ _ ⟨p, e, S, R, rfl, _⟩
  rfl
theorem sc_Order_after : FnScope ["self", "entry"] ["self", "entry"] (defScope s_Order_after) := ⟨rfl, rfl, rfl, by decide +kernel, rfl, by decide +kernel, by decide +kernel⟩
theorem ok_Order_after (T : Top K mg) : OkD P w K mg base d_Order_after 5 ["self", "entry"] (sp_Order_after K) := by
  refine okD (df_Order_after T) sc_Order_after (fun _ _ _ _ _ _ us hl => match us, hl with | [_, _], _ => rfl) ln_Order_after (fun cdv A outer s H vs Q E hr h => ⟨_,
      pss_cons (ps_if (PW.pt (pw_and (pt_cmpR (op_eqA hr.units) (pe_fld (pv 0) rfl) pe_str (nomark _)) (pw_and1 (pt_cmpR op_in_seq (pv 1) (px_meth0 (ok_Queue_entries T) (hr.mono (by decide)) (pe_fld (pv 0) rfl) (cl_Queue T) (me_Queue_entries T) (fun σ => paD σ)) (by rfl)))))
       (pss_one (ps_ret (pv 1)))
       (pss_nil))
      (pss_one (ps_ret (px_meth (ok_Order_skip T) (hr.mono (by decide)) (pv 0) (cl_Order T) (me_Order_skip T) (fun σ => paD σ) (pa_cons (pv 1) pa_nil)))), ?_⟩)
  obtain ⟨p, e, S, R, rfl, ho, hS, h1⟩ := h
  obtain ⟨dx, q, c, k, hS⟩ := hS.opO
  walk_at "go"
  unfold OS.after at h1
  refine x_eqS rfl ?_
  walk_at "s"
  refine x_dec (fun ha => ?_) (fun ha => ?_)
  · have ha' : S.ag = "one" := by injection ha
    walk_at "s"
    refine ⟨q, S.q, _, rfl, hS.own q, fun l H hS => ?_⟩
    walk_at "s"
    refine x_inO (sqL hS) ?_
    cases hh : hasO e S.q.turn with
    | true =>
      rw [if_pos ⟨ha', hh⟩] at h1
      walk_at "s"
      exact h1 _ (Sep.clO' (S) dx q c k hS (by (try simp only [List.map_nil]); repeat (first | exact En.refl | exact En.nil | refine En.cons ?_ | refine En.drop ?_)))
    | false =>
      rw [if_neg (fun z => by rw [hh] at z; cases z.2)] at h1
      walk_at "s"
      exact ⟨p, e, S, R, rfl, ho, (Sep.clO' (S) dx q c k hS (by (try simp only [List.map_nil]); repeat (first | exact En.refl | exact En.nil | refine En.cons ?_ | refine En.drop ?_))), h1⟩
  · rw [if_neg (fun z => ha (by rw [z.1]))] at h1
    walk_at "s"
    exact ⟨p, e, S, R, rfl, ho, (Sep.clO' (S) dx q c k hS (by (try simp only [List.map_nil]); repeat (first | exact En.refl | exact En.nil | refine En.cons ?_ | refine En.drop ?_))), h1⟩
/-- an entry goes -/
def OS.hit (S : OS) (e : Int) (now : Option Int) : Prop := some e = now ∨ (S.gone = true ∧ some e = S.beh)
instance (S : OS) (e : Int) (now : Option Int) : Decidable (S.hit e now) := by unfold OS.hit; infer_instance
def OS.remove (S : OS) (e : Int) (now : Option Int) : OS := if S.hit e now then ⟨S.q.remove e, S.d, S.mx, S.ag, wo e S.deck, true, S.q.turn[S.q.turn.idxOf e + 1]?⟩ else ⟨S.q.remove e, S.d, S.mx, S.ag, wo e S.deck, S.gone, S.beh⟩
def sp_Order_remove (K : PySem.W.Frag) : Sp := fun vs H Q E => ∃ (p : Addr) (e : Int) (now : Option Int) (S : OS) (R : List As), vs = [.ref p, .int e, oV now] ∧ S.Ok ∧ Sep (OrderR K p S :: R) H ∧
  (e ∈ S.q.turn → ∀ H', Sep (OrderR K p (S.remove e now) :: R) H' → Q .non H') ∧ (e ∉ S.q.turn → ∀ H', Sep (OrderR K p S :: R) H' → E (.ref (He.ga K "BadEntry")) none H')
theorem ln_Order_remove : ∀ vs H Q E, sp_Order_remove K vs H Q E → vs.length = (["self", "entry", "now"] : List Str).length := by
  rintro _ _ _ _ ⟨p, e, now, S, R, rfl, _⟩
  rfl
theorem sc_Order_remove : FnScope ["self", "entry", "now", "later"] ["self", "entry", "now"] (defScope s_Order_remove) := ⟨rfl, rfl, rfl, by decide +kernel, rfl, by decide +kernel, by decide +kernel⟩
theorem ok_Order_remove (T : Top K mg) : OkD P w K mg base d_Order_remove 3 ["self", "entry", "now"] (sp_Order_remove K) := by
  refine okD (df_Order_remove T) sc_Order_remove (fun _ _ _ _ _ _ us hl => match us, hl with | [_, _, _], _ => rfl) ln_Order_remove (fun cdv A outer s H vs Q E hr h => ⟨_,
      pss_cons (ps_set (i := 3) sc_Order_remove.nd rfl (Or.inl rfl) (pe_slice sl_list (px_meth0 (ok_Queue_entries T) (hr.mono (by decide)) (pe_fld (pv 0) rfl) (cl_Queue T) (me_Queue_entries T) (fun σ => paD σ)) (po_some (pe_op op_addA (px_meth (ok_Queue_place T) (hr.mono (by decide)) (pe_fld (pv 0) rfl) (cl_Queue T) (me_Queue_place T) (fun σ => paD σ) (pa_cons (pv 1) pa_nil)) pe_int)) po_none))
      (pss_cons (ps_expr (px_meth (ok_Queue_remove T) (hr.mono (by decide)) (pe_fld (pv 0) rfl) (cl_Queue T) (me_Queue_remove T) (fun σ => paD σ) (pa_cons (pv 1) pa_nil)))
      (pss_cons (ps_if (pt_cmpR op_in_seq (pv 1) (pe_fld (pv 0) rfl) (by rfl))
       (pss_one (ps_expr (pe_bm PySem.F.plainAttrs_list PySem.F.slot_list_remove PySem.F.type_list_remove mt_remove (pe_fld (pv 0) rfl) (pa_cons (pv 1) pa_nil))))
       (pss_nil))
      (pss_one (ps_if (PW.pt (pw_or (pt_cmpR (op_eqA hr.units) (pv 1) (pv 2) (nomark _)) (pw_or1 (PW.pt (pw_and (px_truth (pe_fld (pv 0) rfl) (by intro _; rfl)) (pw_and1 (pt_cmpR (op_eqA hr.units) (pv 1) (pe_fld (pv 0) rfl) (nomark _))))))))
       (pss_cons (ps_fld (pv 0) pe_bl rfl)
        (pss_one (ps_fld (pv 0) (pe_ifExp (px_truth (pv 3) (by intro _; rfl)) (pe_ix ix_seq (pv 3) pe_int (fun _ _ => rfl)) pe_non) rfl)))
       (pss_nil))))), ?_⟩)
  obtain ⟨p, e, now, S, R, rfl, ho, hS, h1, h2⟩ := h
  obtain ⟨dx, q, c, k, hS⟩ := hS.opO
  walk_at "go"
  refine ⟨q, S.q, _, rfl, hS.own q, fun l H hS => ?_⟩
  walk_at "s"
  refine ⟨q, e, S.q, _, rfl, hS.own q, fun hy H hS => ?_, fun no H hS => h2 no _ (Sep.clO' (S) dx q c k hS (by (try simp only [List.map_nil]); repeat (first | exact En.refl | exact En.nil | refine En.cons ?_ | refine En.drop ?_)))⟩
  replace h1 := h1 hy
  walk_at "s"
  refine x_slL hS (sqL hS) fun l2 H hS => ?_
  have e1 : ((S.q.turn.idxOf e : Nat) : Int) + 1 = ((S.q.turn.idxOf e + 1 : Nat) : Int) := by omega
  rw [e1, cut_from] at hS
  obtain ⟨w, hw⟩ : ∃ w, w = S.q.turn.drop (S.q.turn.idxOf e + 1) := ⟨_, rfl⟩
  have hz : S.q.turn[S.q.turn.idxOf e + 1]? = w[0]? := by rw [hw, List.getElem?_drop, Nat.add_zero]
  rw [← hw] at hS
  unfold OS.remove at h1
  rw [hz] at h1
  walk_at "s"
  refine ⟨q, e, S.q, _, rfl, hS.own q, fun _ H hS => ?_, fun no => absurd hy no⟩
  walk_at "s"
  refine x_inI (sqL hS) ?_
  walk_at "s"
  refine x_dec (fun hd => ?_) (fun hd => ?_)
  · walk_at "s"
    refine y_bml (sqL hS) ?_
    walk_at "s"
    refine x_remI hS hd fun H hS => ?_
    rw [wo_rem ho.dnd hd] at hS
    walk_at "s"
    refine x_eqI1 ?_
    walk_at "s"
    refine x_dec (fun hn => ?_) (fun hn => ?_)
    · have hh : S.hit e now := .inl hn
      rw [if_pos hh] at h1
      walk_at "s"
      refine y_trul (sqL hS) ?_
      cases hx : w with
      | nil =>
        rw [hx] at h1
        walk_at "s"
        refine x_no rfl ?_
        walk_at "s"
        replace hS : Sep (pt p (.ins (He.ga K "Order") dx (nmOrder.zip [.ref q, .ref c, .bl S.mx, .str S.ag, .ref k, .bl true, oV none])) :: _) H := hS
        exact h1 _ (Sep.clO' (⟨S.q.remove e, S.d, S.mx, S.ag, wo e S.deck, true, none⟩) dx q c k hS (by (try simp only [List.map_nil]); repeat (first | exact En.refl | exact En.nil | refine En.cons ?_ | refine En.drop ?_)))
      | cons x r =>
        rw [hx] at h1
        walk_at "s"
        refine x_yes rfl ?_
        walk_at "s"
        refine x_ixL (sqL hS) (atI_nat (j := 0) (v := .int x) (by rw [hx] <;> rfl)) ?_
        walk_at "s"
        replace hS : Sep (pt p (.ins (He.ga K "Order") dx (nmOrder.zip [.ref q, .ref c, .bl S.mx, .str S.ag, .ref k, .bl true, oV (some x)])) :: _) H := hS
        exact h1 _ (Sep.clO' (⟨S.q.remove e, S.d, S.mx, S.ag, wo e S.deck, true, some x⟩) dx q c k hS (by (try simp only [List.map_nil]); repeat (first | exact En.refl | exact En.nil | refine En.cons ?_ | refine En.drop ?_)))
    · walk_at "s"
      cases hg : S.gone with
      | true =>
        walk_at "s"
        refine x_eqI1 ?_
        walk_at "s"
        refine x_dec (fun hb => ?_) (fun hb => ?_)
        · have hh : S.hit e now := .inr ⟨hg, hb⟩
          rw [if_pos hh] at h1
          walk_at "s"
          refine y_trul (sqL hS) ?_
          cases hx : w with
          | nil =>
            rw [hx] at h1
            walk_at "s"
            refine x_no rfl ?_
            walk_at "s"
            replace hS : Sep (pt p (.ins (He.ga K "Order") dx (nmOrder.zip [.ref q, .ref c, .bl S.mx, .str S.ag, .ref k, .bl true, oV none])) :: _) H := hS
            exact h1 _ (Sep.clO' (⟨S.q.remove e, S.d, S.mx, S.ag, wo e S.deck, true, none⟩) dx q c k hS (by (try simp only [List.map_nil]); repeat (first | exact En.refl | exact En.nil | refine En.cons ?_ | refine En.drop ?_)))
          | cons x r =>
            rw [hx] at h1
            walk_at "s"
            refine x_yes rfl ?_
            walk_at "s"
            refine x_ixL (sqL hS) (atI_nat (j := 0) (v := .int x) (by rw [hx] <;> rfl)) ?_
            walk_at "s"
            replace hS : Sep (pt p (.ins (He.ga K "Order") dx (nmOrder.zip [.ref q, .ref c, .bl S.mx, .str S.ag, .ref k, .bl true, oV (some x)])) :: _) H := hS
            exact h1 _ (Sep.clO' (⟨S.q.remove e, S.d, S.mx, S.ag, wo e S.deck, true, some x⟩) dx q c k hS (by (try simp only [List.map_nil]); repeat (first | exact En.refl | exact En.nil | refine En.cons ?_ | refine En.drop ?_)))
        · have hh : ¬ S.hit e now := fun z => z.elim hn fun z => hb z.2
          rw [if_neg hh] at h1
          walk_at "s"
          exact h1 _ (Sep.clO' (⟨S.q.remove e, S.d, S.mx, S.ag, wo e S.deck, S.gone, S.beh⟩) dx q c k hS (by (try simp only [List.map_nil]); repeat (first | exact En.refl | exact En.nil | refine En.cons ?_ | refine En.drop ?_)))
      | false =>
        have hh : ¬ S.hit e now := fun z => z.elim hn fun z => by rw [hg] at z; cases z.1
        rw [if_neg hh] at h1
        walk_at "s"
        exact h1 _ (Sep.clO' (⟨S.q.remove e, S.d, S.mx, S.ag, wo e S.deck, S.gone, S.beh⟩) dx q c k hS (by (try simp only [List.map_nil]); repeat (first | exact En.refl | exact En.nil | refine En.cons ?_ | refine En.drop ?_)))
  · walk_at "s"
    rw [wo_not hd] at h1
    refine x_eqI1 ?_
    walk_at "s"
    refine x_dec (fun hn => ?_) (fun hn => ?_)
    · have hh : S.hit e now := .inl hn
      rw [if_pos hh] at h1
      walk_at "s"
      refine y_trul (sqL hS) ?_
      cases hx : w with
      | nil =>
        rw [hx] at h1
        walk_at "s"
        refine x_no rfl ?_
        walk_at "s"
        replace hS : Sep (pt p (.ins (He.ga K "Order") dx (nmOrder.zip [.ref q, .ref c, .bl S.mx, .str S.ag, .ref k, .bl true, oV none])) :: _) H := hS
        exact h1 _ (Sep.clO' (⟨S.q.remove e, S.d, S.mx, S.ag, S.deck, true, none⟩) dx q c k hS (by (try simp only [List.map_nil]); repeat (first | exact En.refl | exact En.nil | refine En.cons ?_ | refine En.drop ?_)))
      | cons x r =>
        rw [hx] at h1
        walk_at "s"
        refine x_yes rfl ?_
        walk_at "s"
        refine x_ixL (sqL hS) (atI_nat (j := 0) (v := .int x) (by rw [hx] <;> rfl)) ?_
        walk_at "s"
        replace hS : Sep (pt p (.ins (He.ga K "Order") dx (nmOrder.zip [.ref q, .ref c, .bl S.mx, .str S.ag, .ref k, .bl true, oV (some x)])) :: _) H := hS
        exact h1 _ (Sep.clO' (⟨S.q.remove e, S.d, S.mx, S.ag, S.deck, true, some x⟩) dx q c k hS (by (try simp only [List.map_nil]); repeat (first | exact En.refl | exact En.nil | refine En.cons ?_ | refine En.drop ?_)))
    · walk_at "s"
      cases hg : S.gone with
      | true =>
        walk_at "s"
        refine x_eqI1 ?_
        walk_at "s"
        refine x_dec (fun hb => ?_) (fun hb => ?_)
        · have hh : S.hit e now := .inr ⟨hg, hb⟩
          rw [if_pos hh] at h1
          walk_at "s"
          refine y_trul (sqL hS) ?_
          cases hx : w with
          | nil =>
            rw [hx] at h1
            walk_at "s"
            refine x_no rfl ?_
            walk_at "s"
            replace hS : Sep (pt p (.ins (He.ga K "Order") dx (nmOrder.zip [.ref q, .ref c, .bl S.mx, .str S.ag, .ref k, .bl true, oV none])) :: _) H := hS
            exact h1 _ (Sep.clO' (⟨S.q.remove e, S.d, S.mx, S.ag, S.deck, true, none⟩) dx q c k hS (by (try simp only [List.map_nil]); repeat (first | exact En.refl | exact En.nil | refine En.cons ?_ | refine En.drop ?_)))
          | cons x r =>
            rw [hx] at h1
            walk_at "s"
            refine x_yes rfl ?_
            walk_at "s"
            refine x_ixL (sqL hS) (atI_nat (j := 0) (v := .int x) (by rw [hx] <;> rfl)) ?_
            walk_at "s"
            replace hS : Sep (pt p (.ins (He.ga K "Order") dx (nmOrder.zip [.ref q, .ref c, .bl S.mx, .str S.ag, .ref k, .bl true, oV (some x)])) :: _) H := hS
            exact h1 _ (Sep.clO' (⟨S.q.remove e, S.d, S.mx, S.ag, S.deck, true, some x⟩) dx q c k hS (by (try simp only [List.map_nil]); repeat (first | exact En.refl | exact En.nil | refine En.cons ?_ | refine En.drop ?_)))
        · have hh : ¬ S.hit e now := fun z => z.elim hn fun z => hb z.2
          rw [if_neg hh] at h1
          walk_at "s"
          exact h1 _ (Sep.clO' (⟨S.q.remove e, S.d, S.mx, S.ag, S.deck, S.gone, S.beh⟩) dx q c k hS (by (try simp only [List.map_nil]); repeat (first | exact En.refl | exact En.nil | refine En.cons ?_ | refine En.drop ?_)))
      | false =>
        have hh : ¬ S.hit e now := fun z => z.elim hn fun z => by rw [hg] at z; cases z.1
        rw [if_neg hh] at h1
        walk_at "s"
        exact h1 _ (Sep.clO' (⟨S.q.remove e, S.d, S.mx, S.ag, S.deck, S.gone, S.beh⟩) dx q c k hS (by (try simp only [List.map_nil]); repeat (first | exact En.refl | exact En.nil | refine En.cons ?_ | refine En.drop ?_)))

end
end TR

set_option Elab.async false
set_option linter.all false
set_option maxRecDepth 100000
set_option maxHeartbeats 4000000
/-! .. -/

namespace TR
open PySem PySem.Spec PyProof.Rows L2
section
variable {P : Program} {w : World} {K : PySem.W.Frag} {mg : Str → Option Value} {base : Heap}
/-! ### what orders keep -/
theorem insAt_perm (xs : List Int) (i : Nat) (y : Int) : (insAt xs i y).Perm (y :: xs) := by
  have h := List.perm_middle (a := y) (l₁ := xs.take i) (l₂ := xs.drop i)
  rw [List.take_append_drop] at h
  unfold insAt
  rw [List.append_assoc]
  exact h
theorem mem_wo {e a : Int} {ns : List Int} : a ∈ wo e ns ↔ a ∈ ns ∧ a ≠ e := by
  unfold wo
  rw [List.mem_filter]
  simp
theorem wo_nodup {e : Int} {ns : List Int} (h : ns.Nodup) : (wo e ns).Nodup := List.Nodup.sublist List.filter_sublist h
theorem rot_perm {xs : List Int} (h : 1 < xs.length) : (rot xs).Perm xs := by
  have e1 : xs = xs.take 1 ++ ((xs.drop 1).take (xs.length - 1 - 1) ++ xs.drop (xs.length - 1)) := by
    have e2 : xs.drop (xs.length - 1) = (xs.drop 1).drop (xs.length - 1 - 1) := by
      rw [List.drop_drop]
      congr 1
      omega
    rw [e2, List.take_append_drop, List.take_append_drop]
  obtain ⟨a, ha⟩ : ∃ a, a = xs.take 1 := ⟨_, rfl⟩
  obtain ⟨b, hb⟩ : ∃ b, b = (xs.drop 1).take (xs.length - 1 - 1) := ⟨_, rfl⟩
  obtain ⟨c, hc⟩ : ∃ c, c = xs.drop (xs.length - 1) := ⟨_, rfl⟩
  have e4 : xs = a ++ (b ++ c) := by
    rw [ha, hb, hc]
    exact e1
  unfold rot
  rw [← ha, ← hb, ← hc]
  have e3 : (c ++ b ++ a).Perm (a ++ (b ++ c)) := (List.perm_append_comm).trans (List.Perm.append_left a List.perm_append_comm)
  exact e3.trans (List.Perm.of_eq e4.symm)
theorem turnD_perm (e : Option Int) (xs : List Int) : (turnD e xs).Perm xs := by
  unfold turnD
  split
  · next h => exact rot_perm h.1
  · exact .refl _
theorem OS.Ok.deck {S : OS} (h : S.Ok) {ds : List Int} {d : Int} (hd : ds.Nodup) (hs : ∀ e ∈ ds, e ∈ S.q.turn) (ok : okSeed d) (mx : Bool) (ag : Str) : OS.Ok ⟨S.q, d, mx, ag, ds, S.gone, S.beh⟩ :=
  ⟨h.nd, hd, h.pos, hs, h.len, h.tl, ok, h.bh⟩
theorem OS.Ok.again {S : OS} (h : S.Ok) (z : Str) : OS.Ok { S with ag := z } := h.deck h.dnd h.sub h.seed S.mx z
theorem OS.Ok.setMixed {S : OS} (h : S.Ok) (b : Bool) (e : Option Int) : (S.setMixed b e).Ok := by
  unfold OS.setMixed
  split
  · have hp := mixN_perm S.d (S.rest e)
    exact h.deck (hp.nodup_iff.mpr (List.Nodup.sublist List.filter_sublist h.nd)) (fun a ha => (List.mem_filter.mp (hp.mem_iff.mp ha)).1) (mixSd_ok h.seed _) _ _
  · exact h
  · exact h.deck List.nodup_nil (fun a ha => by cases ha) h.seed _ _
theorem OS.Ok.pop {S : OS} (h : S.Ok) : S.pop.1.Ok := by
  unfold OS.pop
  split
  · exact h
  · next x r hd =>
    have h1 := h.dnd
    rw [hd] at h1
    exact h.deck (List.nodup_cons.mp h1).2 (fun a ha => h.sub a (by rw [hd]; exact List.mem_cons_of_mem _ ha)) h.seed _ _
theorem OS.Ok.deal {S : OS} (h : S.Ok) {f : List Int → List Int} (hf : ∀ xs, (f xs).Perm xs) : (S.deal f).Ok := by
  have hp := (hf (mixN S.d S.q.turn)).trans (mixN_perm S.d S.q.turn)
  exact h.deck (hp.nodup_iff.mpr h.nd) (fun a ha => hp.mem_iff.mp ha) (mixSd_ok h.seed _) _ _
theorem OS.Ok.first {S : OS} (h : S.Ok) : S.first.1.Ok := by
  unfold OS.first
  split
  · exact h
  · split
    · exact (h.deal (f := id) fun _ => .refl _).pop
    · exact h.pop
theorem OS.Ok.nextM {S : OS} (h : S.Ok) (e : Option Int) : (S.nextM e).1.Ok := by
  unfold OS.nextM
  split
  · exact (h.deal (turnD_perm e)).pop
  · exact h.pop
theorem OS.Ok.skip {S : OS} (h : S.Ok) (e : Option Int) : (S.skip e).1.Ok := by
  unfold OS.skip
  split
  · exact h.nextM e
  · exact h
theorem OS.Ok.after {S : OS} (h : S.Ok) (e : Option Int) : (S.after e).1.Ok := by
  unfold OS.after
  split
  · exact h
  · exact h.skip e
theorem OS.Ok.began {S : OS} (h : S.Ok) (e : Int) : (S.began e).Ok :=
  ⟨h.nd, wo_nodup h.dnd, h.pos, fun a ha => h.sub a (mem_wo.mp ha).1, h.len, h.tl, h.seed, fun b hg hb => by
    have hg' : (if e ∈ S.q.turn then false else S.gone) = true := hg
    split at hg'
    · cases hg'
    · exact h.bh b hg' hb⟩
theorem OS.Ok.put {S : OS} (h : S.Ok) {z : Str} {pl : Int} (o : okPut S.q pl) (ht : S.q.tunes.length < 1000) : (S.put z pl.toNat).Ok := by
  obtain ⟨o1, o2, o3⟩ := o
  have hl := h.len
  have fresh : ∀ a ∈ S.q.turn, a ≠ ((S.q.tunes.length : Nat) : Int) + 1 := fun a ha z => by
    have := (h.pos a ha).2
    omega
  have hp := insAt_perm S.q.turn pl.toNat ((S.q.tunes.length : Nat) + 1)
  have nd : (insAt S.q.turn pl.toNat ((S.q.tunes.length : Nat) + 1)).Nodup := hp.nodup_iff.mpr (List.nodup_cons.mpr ⟨fun z => fresh _ z rfl, h.nd⟩)
  have pos : ∀ a ∈ insAt S.q.turn pl.toNat ((S.q.tunes.length : Nat) + 1), 1 ≤ a ∧ a ≤ ((S.q.tunes ++ [z]).length : Nat) := fun a ha => by
    rw [List.length_append, List.length_singleton]
    rcases List.mem_cons.mp (hp.mem_iff.mp ha) with rfl | ha
    · omega
    · have := h.pos a ha
      omega
  have len : (insAt S.q.turn pl.toNat ((S.q.tunes.length : Nat) + 1)).length ≤ 12 := by
    rw [hp.length_eq, List.length_cons]
    omega
  have tl : (S.q.tunes ++ [z]).length ≤ 1000 := by
    rw [List.length_append, List.length_singleton]
    omega
  have inn : ∀ a ∈ S.q.turn, a ∈ insAt S.q.turn pl.toNat ((S.q.tunes.length : Nat) + 1) := fun a ha => hp.mem_iff.mpr (List.mem_cons_of_mem _ ha)
  unfold OS.put
  split
  · have hq := insAt_perm S.deck (dval S.d ((S.deck.length : Nat) + 1)).toNat ((S.q.tunes.length : Nat) + 1)
    refine ⟨nd, hq.nodup_iff.mpr (List.nodup_cons.mpr ⟨fun z => fresh _ (h.sub _ z) rfl, h.dnd⟩), pos, fun a ha => ?_, len, tl, dnext_ok _, fun b hg hb => inn b (h.bh b hg hb)⟩
    rcases List.mem_cons.mp (hq.mem_iff.mp ha) with rfl | ha
    · exact hp.mem_iff.mpr List.mem_cons_self
    · exact inn a (h.sub a ha)
  · exact ⟨nd, h.dnd, pos, fun a ha => inn a (h.sub a ha), len, tl, h.seed, fun b hg hb => inn b (h.bh b hg hb)⟩
theorem OS.Ok.remove {S : OS} (h : S.Ok) {e : Int} (he : e ∈ S.q.turn) (now : Option Int) : (S.remove e now).Ok := by
  have eq : S.q.remove e = ⟨wo e S.q.turn, S.q.tunes⟩ := by unfold QS.remove; rw [wo_rem h.nd he]
  have sub : ∀ a ∈ wo e S.deck, a ∈ wo e S.q.turn := fun a ha => mem_wo.mpr ⟨h.sub a (mem_wo.mp ha).1, (mem_wo.mp ha).2⟩
  have len : (wo e S.q.turn).length ≤ 12 := Nat.le_trans (List.length_filter_le _ _) h.len
  unfold OS.remove
  rw [eq]
  split
  · refine ⟨wo_nodup h.nd, wo_nodup h.dnd, fun a ha => h.pos a (mem_wo.mp ha).1, sub, len, h.tl, h.seed, fun b _ hb => ?_⟩
    have hb' : S.q.turn[S.q.turn.idxOf e + 1]? = some b := hb
    obtain ⟨hi, hx⟩ := List.getElem?_eq_some_iff.mp hb'
    refine mem_wo.mpr ⟨hx ▸ List.getElem_mem hi, fun z => ?_⟩
    obtain ⟨hi2, hx2⟩ := List.getElem?_eq_some_iff.mp (first_ix he).1
    exact List.pairwise_iff_getElem.mp h.nd (S.q.turn.idxOf e) (S.q.turn.idxOf e + 1) hi2 hi (Nat.lt_succ_self _) (by rw [hx, hx2, z])
  · next hh =>
    refine ⟨wo_nodup h.nd, wo_nodup h.dnd, fun a ha => h.pos a (mem_wo.mp ha).1, sub, len, h.tl, h.seed, fun b hg hb => mem_wo.mpr ⟨h.bh b hg hb, fun z => hh (.inr ⟨hg, ?_⟩)⟩⟩
    have hb' : S.beh = some b := hb
    rw [hb', z]
/-- an entry moves -/
def OS.move (S : OS) (e : Int) (pl : Nat) : OS := ⟨S.q.move e pl, S.d, S.mx, S.ag, S.deck, S.gone, S.beh⟩
theorem move_perm {S : OS} (h : S.Ok) {e : Int} (he : e ∈ S.q.turn) (pl : Nat) : (S.q.move e pl).turn.Perm S.q.turn := by
  show (insAt (S.q.turn.eraseIdx (S.q.turn.idxOf e)) pl e).Perm S.q.turn
  refine (insAt_perm _ _ _).trans ?_
  rw [← List.erase_eq_eraseIdx_of_idxOf (by rfl)]
  exact (List.perm_cons_erase he).symm
theorem OS.Ok.move {S : OS} (h : S.Ok) {e : Int} (he : e ∈ S.q.turn) (pl : Nat) : (S.move e pl).Ok := by
  have hp := move_perm h he pl
  exact ⟨hp.nodup_iff.mpr h.nd, h.dnd, fun a ha => h.pos a (hp.mem_iff.mp ha), fun a ha => hp.mem_iff.mpr (h.sub a ha), by show (S.q.move e pl).turn.length ≤ 12; rw [hp.length_eq]; exact h.len, h.tl, h.seed, fun b hg hb => hp.mem_iff.mpr (h.bh b hg hb)⟩
/-! tunes stay -/
theorem OS.pop_q (S : OS) : S.pop.1.q = S.q := by
  unfold OS.pop
  split <;> rfl
theorem OS.first_q (S : OS) : S.first.1.q = S.q := by
  unfold OS.first
  split
  · rfl
  · split
    · exact OS.pop_q _
    · exact OS.pop_q _
theorem OS.skip_q (S : OS) (e : Option Int) : (S.skip e).1.q = S.q := by
  unfold OS.skip OS.nextM
  split
  · split
    · exact OS.pop_q _
    · exact OS.pop_q _
  · rfl
theorem OS.after_q (S : OS) (e : Option Int) : (S.after e).1.q = S.q := by
  unfold OS.after
  split
  · rfl
  · exact S.skip_q e
theorem OS.setMixed_q (S : OS) (b : Bool) (e : Option Int) : (S.setMixed b e).q = S.q := by
  unfold OS.setMixed
  split <;> rfl
theorem OS.remove_t (S : OS) (e : Int) (now : Option Int) : (S.remove e now).q.tunes = S.q.tunes := by
  unfold OS.remove
  split <;> rfl
theorem OS.put_t (S : OS) (z : Str) (pl : Nat) : (S.put z pl).q.tunes = S.q.tunes ++ [z] := by
  unfold OS.put
  split <;> rfl

end
end TR

set_option Elab.async false
set_option linter.all false
set_option maxRecDepth 100000
set_option maxHeartbeats 4000000
/-! .. -/

namespace TR
open PySem PySem.Spec PyProof.Rows L2
section
variable {P : Program} {w : World} {K : PySem.W.Frag} {mg : Str → Option Value} {base : Heap}
def sp_l_pick (K : PySem.W.Frag) : Sp := fun vs H Q E => ∃ (a t q : Addr) (ns : List Int) (n : Nat) (xs : List V) (R : List As), vs = [.ref a, .ref t, .ref q] ∧ xs ≠ [] ∧ n ≤ 1000000 ∧ Sep (ScrA K a ns :: TownA t n :: pt q (.lst xs) :: R) H ∧
  ∀ H', Sep (ScrA K a ns :: TownA t (n + 1) :: pt q (.lst xs) :: R) H' → Q (xs.getD (draw ns (n + 1) (xs.length : Nat)).toNat .non) H'
theorem ln_l_pick : ∀ vs H Q E, sp_l_pick K vs H Q E → vs.length = (["_law_script", "_law_town", "_law_some"] : List Str).length := by
  rintro _ _ _ _ ⟨a, t, q, ns, n, xs, R, rfl, _⟩
  rfl
theorem sc_l_pick : FnScope ["_law_script", "_law_town", "_law_some"] ["_law_script", "_law_town", "_law_some"] (defScope s_l_pick) := ⟨rfl, rfl, rfl, by decide +kernel, rfl, by decide +kernel, by decide +kernel⟩
theorem ok_l_pick (T : Top K mg) : OkD P w K mg base d_l_pick 4 ["_law_script", "_law_town", "_law_some"] (sp_l_pick K) := by
  refine okD (df_l_pick T) sc_l_pick (fun _ _ _ _ _ _ us hl => match us, hl with | [_, _, _], _ => rfl) ln_l_pick (fun cdv A outer s H vs Q E hr h => ⟨_,
      pss_one (ps_ret (pe_ix ix_seq (pv 2) (px_call (ok_l_draw T) (hr.mono (by decide)) rfl (gl__law_draw T) (fun σ => paD σ) (pa_cons (pv 0) (pa_cons (pv 1) (pa_cons (pe_callB call_lenA (by rfl) (fr_len T) (by decide +kernel) (pa_cons (pv 2) pa_nil)) pa_nil)))) (fun _ _ => rfl))), ?_⟩)
  obtain ⟨a, t, q, ns, n, xs, R, rfl, hx, hn, hS, h1⟩ := h
  have hl : 0 < xs.length := List.length_pos_iff.mpr hx
  walk_at "go"
  refine x_lenL (sqL hS) ?_
  walk_at "s"
  refine ⟨a, t, ns, n, _, _, rfl, by omega, hn, hS.own2 a t, fun H hS => ?_⟩
  walk_at "s"
  have d := draw_ok ns (n + 1) (m := (xs.length : Nat)) (by omega)
  refine x_ixL (sqL hS) (atI_some d.1 (getD_some (d := .non) (by omega))) ?_
  exact h1 _ hS
section
variable {a t q : Addr} {ns : List Int} {n : Nat} {m : Int} {xs : List V} {R : List As} {H : Hp} {Q : VK} {E : XK}
theorem pick_use (hx : xs ≠ []) (hn : n ≤ 1000000) (hS : Sep (ScrA K a ns :: TownA t n :: pt q (.lst xs) :: R) H) (k : ∀ v H', v ∈ xs → Sep (ScrA K a ns :: TownA t (n + 1) :: pt q (.lst xs) :: R) H' → Q v H') : sp_l_pick K [.ref a, .ref t, .ref q] H Q E := by
  refine ⟨a, t, q, ns, n, xs, R, rfl, hx, hn, hS, fun H' hS' => k _ H' ?_ hS'⟩
  have hl : 0 < xs.length := List.length_pos_iff.mpr hx
  have d := draw_ok ns (n + 1) (m := (xs.length : Nat)) (by omega)
  rw [List.getD_eq_getElem?_getD, List.getElem?_eq_getElem (by omega)]
  exact List.getElem_mem _
end
/-! ### refusals -/
inductive Kd where
  | tune | number | entry | word
  deriving DecidableEq
def Kd.cls : Kd → Str
  | .tune => "BadTune" | .number => "BadNumber" | .entry => "BadEntry" | .word => "BadWord"
def Kd.txt : Kd → Str
  | .tune => "tune" | .number => "number" | .entry => "entry" | .word => "word"
def Kd.ix : Kd → Nat
  | .tune => 0 | .number => 1 | .entry => 2 | .word => 3

end
end TR

set_option Elab.async false
set_option linter.all false
set_option maxRecDepth 100000
set_option maxHeartbeats 4000000
/-! .. -/

namespace TR
open PySem PySem.Spec PyProof.Rows L2
section
variable {P : Program} {w : World} {K : PySem.W.Frag} {mg : Str → Option Value} {base : Heap}
/-! ### shelves -/
def smallZ : Str := "abcdefghijklmnopqrstuvwxyz"
def okName (z : Str) : Prop := ((1 : Int) ≤ (z.length : Nat) ∧ ((z.length : Nat) : Int) ≤ 6) ∧ ∀ c ∈ z.cps.toList, c ∈ smallZ.cps.toList
instance (z : Str) : Decidable (okName z) := by unfold okName; infer_instance
def inSm (c : Nat) : Bool := decide (c ∈ smallZ.cps.toList)
theorem all_sm {z : Str} (h : (1 : Int) ≤ (z.length : Nat) ∧ ((z.length : Nat) : Int) ≤ 6) : (z.cps.toList.map inSm).all id = decide (okName z) := by
  rw [List.all_map, Bool.eq_iff_iff, List.all_eq_true, decide_eq_true_iff]
  constructor
  · intro a
    exact ⟨⟨by omega, by omega⟩, fun c hc => of_decide_eq_true (a c hc)⟩
  · intro a c hc
    exact decide_eq_true (a.2 c hc)
def sp_look_name (K : PySem.W.Frag) : Sp := fun vs H Q E => ∃ (z : Str) (R : List As), vs = [.str z] ∧ z.length ≤ 1000 ∧ Sep R H ∧ (okName z → ∀ H', Sep R H' → Q .non H') ∧ (¬ okName z → ∀ H', Sep R H' → E (.ref (He.ga K "BadTune")) none H')
theorem ln_look_name : ∀ vs H Q E, sp_look_name K vs H Q E → vs.length = (["name"] : List Str).length := by
  rintro _ _ _ _ ⟨z, R, rfl, _⟩
  rfl
theorem sc_look_name : FnScope ["name", "sign"] ["name"] (defScope s_look_name) := ⟨rfl, rfl, rfl, by decide +kernel, rfl, by decide +kernel, by decide +kernel⟩
theorem ok_look_name (T : Top K mg) : OkD P w K mg base d_look_name 1 ["name"] (sp_look_name K) := by
  refine okD (df_look_name T) sc_look_name (fun _ _ _ _ _ _ us hl => match us, hl with | [_], _ => rfl) ln_look_name (fun cdv A outer s H vs Q E hr h => ⟨_,
      pss_one (ps_if (PW.pt (pw_or (pt_not (pt_chain op_le op_le pe_int (pe_callB call_lenA (by rfl) (fr_len T) (by decide +kernel) (pa_cons (pv 0) pa_nil)) (px_int rfl (gi_MOST_NAME T)))) (pw_or1 (pt_not (px_truth (pe_callB (cr_all rfl) (by rfl) (fr_all T) (by decide +kernel) (pa_cons (pe_lc (own := [("sign", 1)]) (g := gName 1) (by rfl) sc_look_name.nd (pi_str (pv 0)) (blkOk_by (own := [("sign", 1)]) (N := ["name", "sign"]) (sc := defScope s_look_name) (by decide +kernel)) (fun _ _ _ _ _ => pg_name (i := 1) sc_look_name.nd rfl (Or.inl rfl)) (fun _ _ _ _ _ => pts_nil) (fun _ _ _ _ _ => pe_cmpR op_in_sign (pv 1) (px_str rfl (gs_SMALL T)) (by rfl))) pa_nil)) (by intro _; rfl))))))
       (pss_one (px_raise rfl tkD rfl (gl_BadTune T) (xc_BadTune T)))
       (pss_nil)), ?_⟩)
  obtain ⟨z, R, rfl, hz, hS, h1, h2⟩ := h
  walk_at "wo"
  refine y_cutT (fun b H => b = (!decide (okName z)) ∧ Sep R H) (fun N hN => ?_) ?_
  · walk_at "v"
    refine x_lenS (sz' (by omega)) ?_
    walk_at "v"
    refine x_dec (fun hA => ?_) (fun hA => ?_)
    · walk_at "v"
      refine x_ndec (fun hB => ?_) (fun hB => ?_)
      · exact hN _ _ ⟨by rw [decide_eq_false (fun h => hB h.1.2)] <;> rfl, hS⟩
      · walk_at "v"
        refine y_lcS hS (fun D i H => Sep (pt D (.lst (((z.cps.toList.take i).map inSm).map V.bl)) :: R) H) (fun D H h => h) (fun D i c H hc hS => ?_) (fun D H hS => ?_)
        · have hc' : z.cps.toList[i]? = some c := by rw [Array.getElem?_toList]; exact hc
          have hi := (List.getElem?_eq_some_iff.mp hc').1
          have hL : z.cps.toList.length ≤ 1000 := by rw [Array.length_toList]; exact hz
          walk_at "v"
          refine ⟨c, smallZ, rfl, rfl, ?_⟩
          refine y_el hS (by rw [List.length_map, List.length_map, List.length_take]; omega) fun H hS => ?_
          rw [List.take_add_one, hc', List.map_append, List.map_append]
          exact hS
        · have hS : Sep (pt D (.lst ((z.cps.toList.map inSm).map V.bl)) :: R) H := by
            rw [show z.cps.size = z.cps.toList.length from Array.length_toList.symm, List.take_length] at hS
            exact hS
          walk_at "v"
          refine ⟨D, _, rfl, sqL hS, ?_⟩
          walk_at "v"
          exact hN _ _ ⟨by rw [all_sm ⟨hA, hB⟩], hS.tail⟩
    · walk_at "v"
      exact hN _ _ ⟨by rw [decide_eq_false (fun h => hA (by have := h.1.1; omega))] <;> rfl, hS⟩
  · rintro _ H ⟨rfl, hS⟩
    refine x_ndec (fun hn => ?_) (fun hy => ?_)
    · walk_at "v"
      exact h2 hn _ hS
    · walk_at "v"
      exact h1 hy _ hS

def shD (L : List (Str × Int)) : List (Key × V) := L.map fun q => (.inr q.1, .int q.2)
def lk (L : List (Str × Int)) (z : Str) : Option Int := (L.find? fun q => q.1 = z).map (·.2)
theorem lk_val : ∀ (L : List (Str × Int)) (z : Str), valV (shD L) (.inr z) = (lk L z).map V.int
  | [], _ => rfl
  | q :: r, z => by
    by_cases h : q.1 = z
    · subst h
      unfold lk valV shD
      simp
    · have ih := lk_val r z
      have h2 : ¬ ((Sum.inr q.1 : Key) = .inr z) := fun e => h (by injection e)
      unfold lk valV shD at ih ⊢
      rw [List.map_cons, List.find?_cons_of_neg (by simpa using h2), List.find?_cons_of_neg (by simpa using h)]
      exact ih
theorem putK_new (L : List (Str × Int)) (z : Str) (l : Int) (h : lk L z = none) : putK (shD L) (.inr z) (.int l) = shD (L ++ [(z, l)]) := by
  have hn : ((shD L).any fun kv => decide (kv.1 = (.inr z : Key))) = false := by
    rw [List.any_eq_false]
    intro kv hkv
    obtain ⟨q, hq, rfl⟩ := List.mem_map.mp hkv
    have h1 : L.find? (fun q => q.1 = z) = none := by
      unfold lk at h
      exact Option.map_eq_none_iff.mp h
    have h2 := List.find?_eq_none.mp h1 q hq
    intro e
    have e' : (Sum.inr q.1 : Key) = .inr z := of_decide_eq_true e
    injection e' with e'
    exact h2 (decide_eq_true e')
  unfold putK
  rw [hn, if_neg (by decide)]
  show _ = shD (L ++ [(z, l)])
  unfold shD
  rw [List.map_append]
  rfl
theorem shD_len (L : List (Str × Int)) : (shD L).length = L.length := List.length_map _
theorem shD_keys (L : List (Str × Int)) : (shD L).map (·.1) = (L.map (·.1)).map Sum.inr := by
  unfold shD
  rw [List.map_map, List.map_map]
  rfl
/-- a shelf -/
def ShelfR (K : PySem.W.Frag) (p : Addr) (L : List (Str × Int)) : As := ex fun dx => ex fun d => all [pt p (.ins (He.ga K "Shelf") dx (nmShelf.zip [.ref d])), pt d (.dK (shD L))]
instance {K : PySem.W.Frag} {p : Addr} {L : List (Str × Int)} : Kys (ShelfR K p L) p := ⟨trivial⟩
instance {K : PySem.W.Frag} {p : Addr} {L : List (Str × Int)} : IsOb (ShelfR K p L) p (He.ga K "Shelf") nmShelf := ⟨fun h ⟨dx, d, a⟩ => ⟨dx, _, Sep.get a⟩⟩
theorem Sep.opS {p : Addr} {L : List (Str × Int)} {R : List As} {H : Hp} (h : Sep (ShelfR K p L :: R) H) : ∃ dx d, Sep (pt p (.ins (He.ga K "Shelf") dx (nmShelf.zip [.ref d])) :: pt d (.dK (shD L)) :: R) H := by
  obtain ⟨dx, h⟩ := h.ex
  obtain ⟨d, h⟩ := h.ex
  exact ⟨dx, d, h.flat⟩
theorem Sep.clS' (L : List (Str × Int)) (dx d : Addr) {p : Addr} {R M : List As} {H : Hp} (h : Sep M H) (e : En M (pt p (.ins (He.ga K "Shelf") dx (nmShelf.zip [.ref d])) :: pt d (.dK (shD L)) :: R)) : Sep (ShelfR K p L :: R) H := Sep.exi dx (Sep.exi d (Sep.wrap (h.of e)))
def sp_Shelf_init (K : PySem.W.Frag) : Sp := fun vs H Q E => ∃ (p dx : Addr) (R : List As), vs = [.ref p] ∧ Sep (pt p (.ins (He.ga K "Shelf") dx []) :: R) H ∧ ∀ H', Sep (ShelfR K p [] :: R) H' → Q .non H'
theorem ln_Shelf_init : ∀ vs H Q E, sp_Shelf_init K vs H Q E → vs.length = (["self"] : List Str).length := by
  rintro _ _ _ _ ⟨p, dx, R, rfl, _⟩
  rfl
theorem sc_Shelf_init : FnScope ["self"] ["self"] (defScope s_Shelf_init) := ⟨rfl, rfl, rfl, by decide +kernel, rfl, by decide +kernel, by decide +kernel⟩
theorem ok_Shelf_init (T : Top K mg) : OkD P w K mg base d_Shelf_init 1 ["self"] (sp_Shelf_init K) := by
  refine okD (df_Shelf_init T) sc_Shelf_init (fun _ _ _ _ _ _ us hl => match us, hl with | [_], _ => rfl) ln_Shelf_init (fun cdv A outer s H vs Q E hr h => ⟨_,
      pss_one (ps_fld (pv 0) pe_dnewK rfl), ?_⟩)
  obtain ⟨p, dx, R, rfl, hS, h1⟩ := h
  walk_at "wo"
  exact h1 _ (Sep.clS' ([]) dx u hS (by (try simp only [List.map_nil]); repeat (first | exact En.refl | exact En.nil | refine En.cons ?_ | refine En.drop ?_)))
def addK (L : List (Str × Int)) (z : Str) (l : Int) : Option Kd := if ¬ okName z ∨ (lk L z).isSome = true ∨ L.length = 6 then some .tune else if 1 ≤ l ∧ l ≤ 40 then none else some .number
def sp_Shelf_add (K : PySem.W.Frag) : Sp := fun vs H Q E => ∃ (p : Addr) (z : Str) (l : Int) (L : List (Str × Int)) (R : List As), vs = [.ref p, .str z, .int l] ∧ z.length ≤ 1000 ∧ L.length ≤ 1000 ∧ Sep (ShelfR K p L :: R) H ∧
  (addK L z l = none → ∀ H', Sep (ShelfR K p (L ++ [(z, l)]) :: R) H' → Q .non H') ∧ (∀ k, addK L z l = some k → ∀ H', Sep (ShelfR K p L :: R) H' → E (.ref (He.ga K k.cls)) none H')
theorem ln_Shelf_add : ∀ vs H Q E, sp_Shelf_add K vs H Q E → vs.length = (["self", "name", "long"] : List Str).length := by
  rintro _ _ _ _ ⟨p, z, l, L, R, rfl, _⟩
  rfl
theorem sc_Shelf_add : FnScope ["self", "name", "long"] ["self", "name", "long"] (defScope s_Shelf_add) := ⟨rfl, rfl, rfl, by decide +kernel, rfl, by decide +kernel, by decide +kernel⟩
theorem ok_Shelf_add (T : Top K mg) : OkD P w K mg base d_Shelf_add 2 ["self", "name", "long"] (sp_Shelf_add K) := by
  refine okD (df_Shelf_add T) sc_Shelf_add (fun _ _ _ _ _ _ us hl => match us, hl with | [_, _, _], _ => rfl) ln_Shelf_add (fun cdv A outer s H vs Q E hr h => ⟨_,
      pss_cons (ps_expr (px_call (ok_look_name T) (hr.mono (by decide)) rfl (gl_look_name T) (fun σ => paD σ) (pa_cons (pv 1) pa_nil)))
      (pss_cons (ps_if (PW.pt (pw_or (pt_cmp (pc_din (hu_of hr) (pv 1) (pe_fld (pv 0) rfl))) (pw_or1 (pt_cmpR (op_eqA hr.units) (pe_callB call_lenD (by rfl) (fr_len T) (by decide +kernel) (pa_cons (pe_fld (pv 0) rfl) pa_nil)) (px_int rfl (gi_MOST_TUNES T)) (nomark _)))))
       (pss_one (px_raise rfl tkD rfl (gl_BadTune T) (xc_BadTune T)))
       (pss_nil))
      (pss_cons (ps_if (pt_not (pt_chain op_le op_le pe_int (pv 2) (px_int rfl (gi_MOST_LONG T))))
       (pss_one (px_raise rfl tkD rfl (gl_BadNumber T) (xc_BadNumber T)))
       (pss_nil))
      (pss_one (ps_dput (hu_of hr) (pe_fld (pv 0) rfl) (pv 1) (pv 2) rfl)))), ?_⟩)
  obtain ⟨p, z, l, L, R, rfl, hz, hL, hS, h1, h2⟩ := h
  obtain ⟨dx, d, hS⟩ := hS.opS
  walk_at "wo"
  refine ⟨z, _, rfl, hz, hS, fun hk H hS => ?_, fun hk H hS => h2 .tune (if_pos (.inl hk)) _ (Sep.clS' (L) dx d hS (by (try simp only [List.map_nil]); repeat (first | exact En.refl | exact En.nil | refine En.cons ?_ | refine En.drop ?_)))⟩
  walk_at "w"
  refine y_cut (fun σ H' => (lk L z = none ∧ L.length ≠ 6) ∧ σ = [some (.ref p), some (.str z), some (.int l)] ∧ Sep (pt p (.ins (He.ga K "Shelf") dx (nmShelf.zip [.ref d])) :: pt d (.dK (shD L)) :: R) H') (fun N hN => ?_) ?_
  · walk_at "v"
    refine y_dis hS ?_
    rw [lk_val, Option.isSome_map]
    walk_at "v"
    refine x_bool (fun hk => ?_) (fun hk2 => ?_)
    · walk_at "v"
      exact h2 .tune (if_pos (.inr (.inl hk))) _ (Sep.clS' (L) dx d hS (by (try simp only [List.map_nil]); repeat (first | exact En.refl | exact En.nil | refine En.cons ?_ | refine En.drop ?_)))
    · walk_at "v"
      refine ⟨d, _, rfl, hS.at_, ?_⟩
      walk_at "v"
      rw [shD_len]
      refine x_dec (fun h6 => ?_) (fun h6 => ?_)
      · walk_at "v"
        exact h2 .tune (if_pos (.inr (.inr (by omega)))) _ (Sep.clS' (L) dx d hS (by (try simp only [List.map_nil]); repeat (first | exact En.refl | exact En.nil | refine En.cons ?_ | refine En.drop ?_)))
      · walk_at "v"
        exact hN _ _ ⟨⟨Option.isSome_eq_false_iff.mp hk2 |> Option.isNone_iff_eq_none.mp, by omega⟩, rfl, hS⟩
  · rintro σ H ⟨⟨hn, h6⟩, rfl, hS⟩
    have hnt : ¬ (¬ okName z ∨ (lk L z).isSome = true ∨ L.length = 6) := by
      rintro (h | h | h)
      · exact h hk
      · rw [hn] at h; cases h
      · exact h6 h
    walk_at "v"
    refine x_dec (fun hA => ?_) (fun hA => ?_)
    · walk_at "v"
      refine x_ndec (fun hB => ?_) (fun hB => ?_)
      · walk_at "v"
        exact h2 .number ((if_neg hnt).trans (if_neg (fun q => hB q.2))) _ (Sep.clS' (L) dx d hS (by (try simp only [List.map_nil]); repeat (first | exact En.refl | exact En.nil | refine En.cons ?_ | refine En.drop ?_)))
      · walk_at "v"
        refine y_dps hS (by rw [shD_len]; omega) fun H hS => ?_
        rw [putK_new L z l hn] at hS
        exact h1 ((if_neg hnt).trans (if_pos ⟨hA, hB⟩)) _ (Sep.clS' (L ++ [(z, l)]) dx d hS (by (try simp only [List.map_nil]); repeat (first | exact En.refl | exact En.nil | refine En.cons ?_ | refine En.drop ?_)))
    · walk_at "v"
      exact h2 .number ((if_neg hnt).trans (if_neg (fun q => hA q.1))) _ (Sep.clS' (L) dx d hS (by (try simp only [List.map_nil]); repeat (first | exact En.refl | exact En.nil | refine En.cons ?_ | refine En.drop ?_)))
def sp_Shelf_need (K : PySem.W.Frag) : Sp := fun vs H Q E => ∃ (p : Addr) (z : Str) (L : List (Str × Int)) (R : List As), vs = [.ref p, .str z] ∧ Sep (ShelfR K p L :: R) H ∧
  ((lk L z).isSome = true → ∀ H', Sep (ShelfR K p L :: R) H' → Q .non H') ∧ (lk L z = none → ∀ H', Sep (ShelfR K p L :: R) H' → E (.ref (He.ga K "BadTune")) none H')
theorem ln_Shelf_need : ∀ vs H Q E, sp_Shelf_need K vs H Q E → vs.length = (["self", "name"] : List Str).length := by
  rintro _ _ _ _ ⟨p, z, L, R, rfl, _⟩
  rfl
theorem sc_Shelf_need : FnScope ["self", "name"] ["self", "name"] (defScope s_Shelf_need) := ⟨rfl, rfl, rfl, by decide +kernel, rfl, by decide +kernel, by decide +kernel⟩
theorem ok_Shelf_need (T : Top K mg) : OkD P w K mg base d_Shelf_need 1 ["self", "name"] (sp_Shelf_need K) := by
  refine okD (df_Shelf_need T) sc_Shelf_need (fun _ _ _ _ _ _ us hl => match us, hl with | [_, _], _ => rfl) ln_Shelf_need (fun cdv A outer s H vs Q E hr h => ⟨_,
      pss_one (ps_if (pt_cmp (pc_dnotin (hu_of hr) (pv 1) (pe_fld (pv 0) rfl)))
       (pss_one (px_raise rfl tkD rfl (gl_BadTune T) (xc_BadTune T)))
       (pss_nil)), ?_⟩)
  obtain ⟨p, z, L, R, rfl, hS, h1, h2⟩ := h
  obtain ⟨dx, d, hS⟩ := hS.opS
  walk_at "wo"
  refine y_dns hS ?_
  rw [lk_val, Option.isSome_map]
  walk_at "v"
  refine x_nbool (fun hk => ?_) (fun hk => ?_)
  · walk_at "v"
    exact h2 (Option.isNone_iff_eq_none.mp (Option.isSome_eq_false_iff.mp hk)) _ (Sep.clS' (L) dx d hS (by (try simp only [List.map_nil]); repeat (first | exact En.refl | exact En.nil | refine En.cons ?_ | refine En.drop ?_)))
  · walk_at "v"
    exact h1 hk _ (Sep.clS' (L) dx d hS (by (try simp only [List.map_nil]); repeat (first | exact En.refl | exact En.nil | refine En.cons ?_ | refine En.drop ?_)))
def sp_Shelf_long (K : PySem.W.Frag) : Sp := fun vs H Q E => ∃ (p : Addr) (z : Str) (L : List (Str × Int)) (R : List As), vs = [.ref p, .str z] ∧ Sep (ShelfR K p L :: R) H ∧
  (∀ l, lk L z = some l → ∀ H', Sep (ShelfR K p L :: R) H' → Q (.int l) H') ∧ (lk L z = none → ∀ H', Sep (ShelfR K p L :: R) H' → E (.ref (He.ga K "BadTune")) none H')
theorem ln_Shelf_long : ∀ vs H Q E, sp_Shelf_long K vs H Q E → vs.length = (["self", "name"] : List Str).length := by
  rintro _ _ _ _ ⟨p, z, L, R, rfl, _⟩
  rfl
theorem sc_Shelf_long : FnScope ["self", "name"] ["self", "name"] (defScope s_Shelf_long) := ⟨rfl, rfl, rfl, by decide +kernel, rfl, by decide +kernel, by decide +kernel⟩
theorem ok_Shelf_long (T : Top K mg) : OkD P w K mg base d_Shelf_long 2 ["self", "name"] (sp_Shelf_long K) := by
  refine okD (df_Shelf_long T) sc_Shelf_long (fun _ _ _ _ _ _ us hl => match us, hl with | [_, _], _ => rfl) ln_Shelf_long (fun cdv A outer s H vs Q E hr h => ⟨_,
      pss_cons (ps_expr (px_meth (ok_Shelf_need T) (hr.mono (by decide)) (pv 0) (cl_Shelf T) (me_Shelf_need T) (fun σ => paD σ) (pa_cons (pv 1) pa_nil)))
      (pss_one (ps_ret (pe_dget (hu_of hr) (pe_fld (pv 0) rfl) (pv 1) (fun _ _ => rfl)))), ?_⟩)
  obtain ⟨p, z, L, R, rfl, hS, h1, h2⟩ := h
  walk_at "wo"
  refine ⟨p, z, L, _, rfl, hS, fun hk H hS => ?_, h2⟩
  obtain ⟨l, hl⟩ := Option.isSome_iff_exists.mp hk
  obtain ⟨dx, d, hS⟩ := hS.opS
  walk_at "v"
  refine y_dgs hS (v := .int l) (by rw [lk_val, hl] <;> rfl) ?_
  exact h1 l hl _ (Sep.clS' (L) dx d hS (by (try simp only [List.map_nil]); repeat (first | exact En.refl | exact En.nil | refine En.cons ?_ | refine En.drop ?_)))
def sp_Shelf_names (K : PySem.W.Frag) : Sp := fun vs H Q E => ∃ (p : Addr) (L : List (Str × Int)) (R : List As), vs = [.ref p] ∧ L.length ≤ 60 ∧ Sep (ShelfR K p L :: R) H ∧
  ∀ (ws : List Str) (l : Addr) H', ws.Perm (L.map (·.1)) → sortedS ws = true → Sep (pt l (.lst (ws.map V.str)) :: ShelfR K p L :: R) H' → Q (.ref l) H'
theorem ln_Shelf_names : ∀ vs H Q E, sp_Shelf_names K vs H Q E → vs.length = (["self"] : List Str).length := by
  rintro _ _ _ _ ⟨p, L, R, rfl, _⟩
  rfl
end
end TR

set_option Elab.async false
set_option linter.all false
set_option maxRecDepth 100000
set_option maxHeartbeats 4000000
/-! .. -/

namespace TR
open PySem PySem.Spec PyProof.Rows L2
section
variable {P : Program} {w : World} {K : PySem.W.Frag} {mg : Str → Option Value} {base : Heap}
/-! ### players: what they are, what is done at them -/
def QS.lg (q : QS) (L : List (Str × Int)) (e : Int) : Int := match q.tune e with
  | some z => (lk L z).getD 1
  | none => 1
def QS.ent (q : QS) (e : Int) : Prop := 1 ≤ e ∧ e ≤ (q.tunes.length : Nat)
def okT (L : List (Str × Int)) (q : QS) : Prop := ∀ z ∈ q.tunes, ∃ l, lk L z = some l ∧ 1 ≤ l ∧ l ≤ 40
def okOv (i : Int) : Prop := 0 ≤ i ∧ i ≤ 9
instance (i : Int) : Decidable (okOv i) := by unfold okOv; infer_instance
structure PL where
  ov : Int
  o : OS
  tm : Int
  now : Option Int
  spot : Int
  old : Option (Int × Int × Int)
  soon : List Int
  past : List Int
  rows : List (Int × Int)
  pl : Bool
  st : Bool
  sl : Option Int
structure PL.Ok (L : List (Str × Int)) (c n : Nat) (S : PL) : Prop where
  o : S.o.Ok
  t : okT L S.o.q
  now : ∀ e, S.now = some e → S.o.q.ent e
  old : ∀ r, S.old = some r → S.o.q.ent r.1
  soon : ∀ e ∈ S.soon, e ∈ S.o.q.turn
  past : ∀ e ∈ S.past, S.o.q.ent e
  tl : S.o.q.tunes.length ≤ c
  sz : S.soon.length + S.past.length + S.rows.length ≤ n
def PL.Sp (L : List (Str × Int)) (S : PL) : Prop := ∀ e, S.now = some e → 0 ≤ S.spot ∧ S.spot < S.o.q.lg L e
/-- what plays is there -/
def PL.Pg (S : PL) : Prop := S.pl = true → S.now ≠ none
theorem OS.Ok.ent {S : OS} (h : S.Ok) {e : Int} (he : e ∈ S.q.turn) : S.q.ent e := h.pos e he
theorem tune_ent {q : QS} {e : Int} (h : q.ent e) : ∃ z, q.tune e = some z ∧ z ∈ q.tunes := by
  obtain ⟨h1, h2⟩ := h
  have hl : (e - 1).toNat < q.tunes.length := by omega
  refine ⟨q.tunes[(e - 1).toNat], ?_, List.getElem_mem hl⟩
  unfold QS.tune
  rw [if_pos h1, List.getElem?_eq_getElem hl]
theorem lg_ent {L : List (Str × Int)} {q : QS} {e : Int} (t : okT L q) (h : q.ent e) : ∃ z, q.tune e = some z ∧ lk L z = some (q.lg L e) ∧ 1 ≤ q.lg L e ∧ q.lg L e ≤ 40 := by
  obtain ⟨z, hz, hm⟩ := tune_ent h
  obtain ⟨l, hl, h1, h2⟩ := t z hm
  have e : q.lg L e = l := by
    unfold QS.lg
    rw [hz]
    show (lk L z).getD 1 = l
    rw [hl] <;> rfl
  exact ⟨z, hz, by rw [e]; exact hl, by rw [e]; exact h1, by rw [e]; exact h2⟩
/-! what comes is in the queue -/
theorem OS.Ok.pop_mem {S : OS} (h : S.Ok) {x : Int} (hx : S.pop.2 = some x) : x ∈ S.q.turn := by
  unfold OS.pop at hx
  split at hx
  · cases hx
  · next y r hd =>
    injection hx with hx
    exact h.sub x (by rw [hd, ← hx]; exact List.mem_cons_self)
theorem OS.Ok.first_mem {S : OS} (h : S.Ok) {x : Int} (hx : S.first.2 = some x) : x ∈ S.q.turn := by
  unfold OS.first at hx
  split at hx
  · exact List.mem_of_getElem? hx
  · split at hx
    · exact (h.deal (f := id) fun _ => .refl _).pop_mem hx
    · exact h.pop_mem hx
theorem OS.Ok.skip_mem {S : OS} (h : S.Ok) {e : Option Int} {x : Int} (hx : (S.skip e).2 = some x) : x ∈ S.q.turn := by
  unfold OS.skip at hx
  split at hx
  · unfold OS.nextM at hx
    split at hx
    · exact (h.deal (turnD_perm e)).pop_mem hx
    · exact h.pop_mem hx
  · unfold OS.nextP at hx
    dsimp only at hx
    split at hx
    · exact List.mem_of_getElem? hx
    · split at hx
      · exact List.mem_of_getElem? hx
      · cases hx
theorem OS.Ok.after_mem {S : OS} (h : S.Ok) {e : Option Int} {x : Int} (hx : (S.after e).2 = some x) : x ∈ S.q.turn := by
  unfold OS.after at hx
  split at hx
  · next hh =>
    rw [show (S, e).2 = e from rfl] at hx
    rw [hx] at hh
    exact of_decide_eq_true hh.2
  · exact h.skip_mem hx
/-! what is done -/
def PL.begin (S : PL) (L : List (Str × Int)) (e : Option Int) (j : Bool) : PL := { S with
  old := if j = true then S.now.map (fun m => (m, S.spot, S.o.q.lg L m - S.spot)) else none
  now := e
  spot := 0
  o := match e with
    | some x => S.o.began x
    | none => S.o
  rows := match e with
    | some x => S.rows ++ [(S.tm, x)]
    | none => S.rows }
def PL.nx (S : PL) (l : Bool) : OS × Option Int := if l = true then S.o.skip S.now else S.o.after S.now
def PL.next (S : PL) (l : Bool) : PL × Option Int := match S.soon with
  | x :: r => ({ S with soon := r }, some x)
  | [] => ({ S with o := (S.nx l).1 }, (S.nx l).2)
def PL.leave (S : PL) : PL := { S with past := match S.now with
  | some m => S.past ++ [m]
  | none => S.past }
def PL.play (S : PL) (L : List (Str × Int)) (e : Int) : PL := { (S.leave.begin L (some e) false) with pl := true }
def PL.open (S : PL) : PL × Option Int := match S.soon with
  | x :: r => ({ S with soon := r }, some x)
  | [] => ({ S with o := S.o.first.1 }, S.o.first.2)
def PL.resume0 (S : PL) (L : List (Str × Int)) : PL := match S.now with
  | some _ => S
  | none => match S.open.2 with
    | some x => S.open.1.begin L (some x) false
    | none => S.open.1
def PL.resume (S : PL) (L : List (Str × Int)) : PL := { S.resume0 L with pl := (S.resume0 L).now.isSome }
def PL.skip0 (S : PL) (L : List (Str × Int)) : PL := (S.next true).1.leave.begin L (S.next true).2 false
def PL.skip (S : PL) (L : List (Str × Int)) : PL := { S.skip0 L with pl := (S.skip0 L).pl && (S.next true).2.isSome }
/-- what was, without those at its end that are gone -/
def pastIn (t : List Int) : List Int → List Int
  | [] => []
  | x :: r => match pastIn t r with
    | [] => if x ∈ t then [x] else []
    | y :: s => x :: y :: s
def PL.again (S : PL) (L : List (Str × Int)) : PL := match S.now with
  | some m => S.begin L (some m) false
  | none => S
def PL.lately (S : PL) : List Int := match S.now with
  | some m => if m ∈ S.o.q.turn then m :: S.soon else S.soon
  | none => S.soon
def PL.back (S : PL) (L : List (Str × Int)) : PL := match (pastIn S.o.q.turn S.past).getLast? with
  | none => { S with past := pastIn S.o.q.turn S.past }.again L
  | some b => if 3 < S.spot then { S with past := pastIn S.o.q.turn S.past }.again L else { S with past := (pastIn S.o.q.turn S.past).dropLast, soon := S.lately }.begin L (some b) false
def PL.found (S : PL) (L : List (Str × Int)) (m : Int) : Option Int := if S.st = false ∧ S.o.q.lg L m - min S.ov (S.o.q.lg L m / 2) ≤ S.spot then (S.next false).2 else none
def PL.jl (S : PL) (L : List (Str × Int)) (m f : Int) : Int := min (min S.ov (S.o.q.lg L m / 2)) (S.o.q.lg L f / 2)
def PL.fin (S : PL) (L : List (Str × Int)) (m : Int) : PL := if S.o.q.lg L m ≤ S.spot then { ({ S with past := S.past ++ [m] }.begin L none false) with pl := false, st := false } else S
def PL.turn (S : PL) (L : List (Str × Int)) (m : Int) : PL := match S.found L m with
  | some f => if S.o.q.lg L m - S.jl L m f ≤ S.spot then { (S.next false).1 with past := S.past ++ [m] }.begin L (some f) (decide (S.spot < S.o.q.lg L m)) else S.fin L m
  | none => S.fin L m
def PL.aged (S : PL) (L : List (Str × Int)) : Option (Int × Int × Int) := match S.old with
  | some (e, s, w) => if s + 1 < S.o.q.lg L e then some (e, s + 1, w) else none
  | none => none
def PL.slept (S : PL) : PL := match S.sl with
  | some k => if k - 1 = 0 then { S with sl := none, pl := false } else { S with sl := some (k - 1) }
  | none => S
def PL.ticked (S : PL) (L : List (Str × Int)) : PL := { S with tm := S.tm + 1, spot := S.spot + 1, old := S.aged L }
def PL.step (S : PL) (L : List (Str × Int)) : PL := match S.now with
  | some m => ((S.ticked L).turn L m).slept
  | none => S
def PL.tk (S : PL) (L : List (Str × Int)) : PL := if S.pl = true then S.step L else S
def PL.tick (S : PL) (L : List (Str × Int)) : Nat → PL
  | 0 => S
  | n + 1 => (S.tick L n).tk L
def PL.fore (S : PL) (L : List (Str × Int)) (t : Nat) : Nat → PL
  | 0 => S
  | k + 1 => if (S.fore L t k).pl = true ∧ (S.fore L t k).rows.length < t then (S.fore L t k).step L else S.fore L t k
def PL.alike (S : PL) : PL := { S with sl := none, pl := S.now.isSome }
def PL.ahead (S : PL) (L : List (Str × Int)) (many : Nat) : List (Int × Int) := ((S.alike.fore L (S.rows.length + many) 600).rows.drop S.rows.length).map fun r => (r.1 - S.tm, r.2)
def PL.remove (S : PL) (e : Int) : PL := { S with o := S.o.remove e S.now, soon := wo e S.soon }
def PL.sounds (S : PL) (L : List (Str × Int)) : List (List Int) := match S.now with
  | none => []
  | some m => match S.old with
    | none => [[m, S.spot, 1, 1]]
    | some (e, s, w) => [[e, s, S.o.q.lg L e - s, w], [m, S.spot, w - (S.o.q.lg L e - s), w]]
def PL.new (ov sd : Int) : PL := ⟨ov, OS.new sd, 0, none, 0, none, [], [], [], false, false, none⟩

end
end TR

set_option Elab.async false
set_option linter.all false
set_option maxRecDepth 100000
set_option maxHeartbeats 4000000
/-! .. -/

namespace TR
open PySem PySem.Spec PyProof.Rows L2
section
variable {P : Program} {w : World} {K : PySem.W.Frag} {mg : Str → Option Value} {base : Heap}
/-! ### what players keep -/
section
variable {L : List (Str × Int)} {c n : Nat} {S : PL}
theorem PL.Ok.mono {c' n' : Nat} (h : S.Ok L c n) (hc : c ≤ c') (hn : n ≤ n') : S.Ok L c' n' := ⟨h.o, h.t, h.now, h.old, h.soon, h.past, Nat.le_trans h.tl hc, Nat.le_trans h.sz hn⟩
theorem PL.Ok.ord (h : S.Ok L c n) {o' : OS} (ho : o'.Ok) (hq : o'.q = S.o.q) : ({ S with o := o' } : PL).Ok L c n := by
  refine ⟨ho, ?_, ?_, ?_, ?_, ?_, ?_, h.sz⟩
  · show okT L o'.q
    rw [hq]; exact h.t
  · show ∀ e, S.now = some e → o'.q.ent e
    rw [hq]; exact h.now
  · show ∀ r, S.old = some r → o'.q.ent r.1
    rw [hq]; exact h.old
  · show ∀ e ∈ S.soon, e ∈ o'.q.turn
    rw [hq]; exact h.soon
  · show ∀ e ∈ S.past, o'.q.ent e
    rw [hq]; exact h.past
  · show o'.q.tunes.length ≤ c
    rw [hq]; exact h.tl
theorem next_cons {x : Int} {r : List Int} (hs : S.soon = x :: r) (l : Bool) : S.next l = ({ S with soon := r }, some x) := by unfold PL.next; rw [hs] <;> rfl
theorem next_nil (hs : S.soon = []) (l : Bool) : S.next l = ({ S with o := (S.nx l).1 }, (S.nx l).2) := by unfold PL.next; rw [hs] <;> rfl
theorem open_cons {x : Int} {r : List Int} (hs : S.soon = x :: r) : S.open = ({ S with soon := r }, some x) := by unfold PL.open; rw [hs] <;> rfl
theorem open_nil (hs : S.soon = []) : S.open = ({ S with o := S.o.first.1 }, S.o.first.2) := by unfold PL.open; rw [hs] <;> rfl
theorem PL.nx_q (S : PL) (l : Bool) : (S.nx l).1.q = S.o.q := by
  unfold PL.nx
  split
  · exact S.o.skip_q S.now
  · exact S.o.after_q S.now
theorem PL.Ok.nx_ok (h : S.Ok L c n) (l : Bool) : (S.nx l).1.Ok := by
  unfold PL.nx
  split
  · exact h.o.skip S.now
  · exact h.o.after S.now
theorem PL.Ok.nx_mem (h : S.Ok L c n) {l : Bool} {x : Int} (hx : (S.nx l).2 = some x) : x ∈ S.o.q.turn := by
  unfold PL.nx at hx
  split at hx
  · exact h.o.skip_mem hx
  · exact h.o.after_mem hx
theorem PL.next_q (S : PL) (l : Bool) : (S.next l).1.o.q = S.o.q := by
  unfold PL.next
  split
  · rfl
  · exact S.nx_q l
theorem PL.Ok.soonT (h : S.Ok L c n) {x : Int} {r : List Int} (hs : S.soon = x :: r) : ({ S with soon := r } : PL).Ok L c n := by
  refine ⟨h.o, h.t, h.now, h.old, fun e he => h.soon e (by rw [hs]; exact List.mem_cons_of_mem _ he), h.past, h.tl, ?_⟩
  have := h.sz
  rw [hs, List.length_cons] at this
  show r.length + S.past.length + S.rows.length ≤ n
  omega
theorem PL.Ok.next (h : S.Ok L c n) (l : Bool) : (S.next l).1.Ok L c n := by
  unfold PL.next
  split
  · next x r hs => exact h.soonT hs
  · exact h.ord (h.nx_ok l) (S.nx_q l)
theorem PL.Ok.next_mem (h : S.Ok L c n) {l : Bool} {x : Int} (hx : (S.next l).2 = some x) : x ∈ S.o.q.turn := by
  unfold PL.next at hx
  split at hx
  · next y r hs =>
    injection hx with hx
    exact h.soon x (by rw [hs, ← hx]; exact List.mem_cons_self)
  · exact h.nx_mem hx
theorem PL.Ok.open (h : S.Ok L c n) : S.open.1.Ok L c n := by
  unfold PL.open
  split
  · next x r hs => exact h.soonT hs
  · exact h.ord h.o.first S.o.first_q
theorem PL.Ok.open_mem (h : S.Ok L c n) {x : Int} (hx : S.open.2 = some x) : x ∈ S.o.q.turn := by
  unfold PL.open at hx
  split at hx
  · next y r hs =>
    injection hx with hx
    exact h.soon x (by rw [hs, ← hx]; exact List.mem_cons_self)
  · exact h.o.first_mem hx
theorem PL.open_q (S : PL) : S.open.1.o.q = S.o.q := by
  unfold PL.open
  split
  · rfl
  · exact S.o.first_q
theorem PL.begin_q (S : PL) (L : List (Str × Int)) (e : Option Int) (j : Bool) : (S.begin L e j).o.q = S.o.q := by
  unfold PL.begin
  cases e <;> rfl
theorem PL.Ok.begin (h : S.Ok L c n) {e : Option Int} (he : ∀ x, e = some x → S.o.q.ent x) (j : Bool) : (S.begin L e j).Ok L c (n + 1) := by
  have hq := S.begin_q L e j
  refine ⟨?_, ?_, ?_, ?_, ?_, ?_, ?_, ?_⟩
  · unfold PL.begin
    cases e with
    | none => exact h.o
    | some x => exact h.o.began x
  · rw [hq]; exact h.t
  · rw [hq]; exact he
  · rw [hq]
    intro r hr
    have hr' : (if j = true then S.now.map (fun m => (m, S.spot, S.o.q.lg L m - S.spot)) else none) = some r := hr
    split at hr'
    · obtain ⟨m, hm, rfl⟩ := Option.map_eq_some_iff.mp hr'
      exact h.now m hm
    · cases hr'
  · rw [hq]; exact h.soon
  · rw [hq]; exact h.past
  · rw [hq]; exact h.tl
  · have := h.sz
    cases e with
    | none => exact Nat.le_trans this (Nat.le_succ n)
    | some x =>
      show S.soon.length + S.past.length + (S.rows ++ [(S.tm, x)]).length ≤ n + 1
      rw [List.length_append, List.length_singleton]
      omega
theorem PL.Ok.pastA (h : S.Ok L c n) {m : Int} (hm : S.o.q.ent m) : ({ S with past := S.past ++ [m] } : PL).Ok L c (n + 1) := by
  refine ⟨h.o, h.t, h.now, h.old, h.soon, fun e he => ?_, h.tl, ?_⟩
  · rcases List.mem_append.mp he with he | he
    · exact h.past e he
    · rw [List.mem_singleton.mp he]; exact hm
  · have := h.sz
    show S.soon.length + (S.past ++ [m]).length + S.rows.length ≤ n + 1
    rw [List.length_append, List.length_singleton]
    omega
theorem PL.Ok.leave (h : S.Ok L c n) : S.leave.Ok L c (n + 1) := by
  cases hm : S.now with
  | none =>
    have e : S.leave = S := by
      cases S
      dsimp only at hm
      subst hm
      rfl
    rw [e]
    exact h.mono (Nat.le_refl _) (Nat.le_succ n)
  | some m =>
    have e : S.leave = { S with past := S.past ++ [m] } := by
      unfold PL.leave
      rw [hm]
    rw [e]
    exact h.pastA (h.now m hm)
theorem PL.Ok.plays (h : S.Ok L c n) (b : Bool) : ({ S with pl := b } : PL).Ok L c n := ⟨h.o, h.t, h.now, h.old, h.soon, h.past, h.tl, h.sz⟩
theorem PL.Ok.stops (h : S.Ok L c n) (b : Bool) : ({ S with st := b } : PL).Ok L c n := ⟨h.o, h.t, h.now, h.old, h.soon, h.past, h.tl, h.sz⟩
theorem PL.Ok.sleep (h : S.Ok L c n) (k : Option Int) : ({ S with sl := k } : PL).Ok L c n := ⟨h.o, h.t, h.now, h.old, h.soon, h.past, h.tl, h.sz⟩
theorem PL.Ok.play (h : S.Ok L c n) {e : Int} (he : e ∈ S.o.q.turn) : (S.play L e).Ok L c (n + 2) :=
  ((h.leave.begin (e := some e) (fun x hx => by injection hx with hx; subst hx; exact h.o.ent he) false).plays true)
theorem PL.Ok.skip (h : S.Ok L c n) : (S.skip L).Ok L c (n + 2) := by
  refine (((h.next true).leave.begin (e := (S.next true).2) (fun x hx => ?_) false).plays _)
  have h1 := h.o.ent (h.next_mem hx)
  show (S.next true).1.o.q.ent x
  rw [S.next_q]
  exact h1
theorem PL.Ok.resume0 (h : S.Ok L c n) : (S.resume0 L).Ok L c (n + 1) := by
  unfold PL.resume0
  split
  · exact h.mono (Nat.le_refl _) (Nat.le_succ n)
  · split
    · next x hx =>
      refine (h.open.begin (e := some x) (fun y hy => ?_) false)
      injection hy with hy
      subst hy
      rw [S.open_q]
      exact h.o.ent (h.open_mem hx)
    · exact h.open.mono (Nat.le_refl _) (Nat.le_succ n)
theorem PL.Ok.resume (h : S.Ok L c n) : (S.resume L).Ok L c (n + 1) := h.resume0.plays _
/-! what was -/
theorem pastIn_sub {t : List Int} : ∀ {xs : List Int} {e : Int}, e ∈ pastIn t xs → e ∈ xs
  | x :: r, e, h => by
    have h' : e ∈ (match pastIn t r with | [] => if x ∈ t then [x] else [] | y :: s => x :: y :: s) := h
    split at h'
    · split at h'
      · rw [List.mem_singleton.mp h']; exact List.mem_cons_self
      · cases h'
    · next y s hs =>
      rcases List.mem_cons.mp h' with rfl | h'
      · exact List.mem_cons_self
      · exact List.mem_cons_of_mem _ (pastIn_sub (by rw [hs]; exact h'))
theorem pastIn_len {t : List Int} : ∀ xs : List Int, (pastIn t xs).length ≤ xs.length
  | [] => Nat.le_refl _
  | x :: r => by
    have ih := pastIn_len (t := t) r
    show (match pastIn t r with | [] => if x ∈ t then [x] else [] | y :: s => x :: y :: s).length ≤ r.length + 1
    split
    · split
      · show 1 ≤ r.length + 1
        omega
      · exact Nat.zero_le _
    · next y s hs =>
      rw [hs] at ih
      show (y :: s).length + 1 ≤ r.length + 1
      omega
theorem pastIn_app_in {t : List Int} {x : Int} (hx : x ∈ t) : ∀ xs : List Int, pastIn t (xs ++ [x]) = xs ++ [x]
  | [] => if_pos hx
  | y :: r => by
    have ih := pastIn_app_in hx r
    show (match pastIn t (r ++ [x]) with | [] => if y ∈ t then [y] else [] | z :: s => y :: z :: s) = _
    rw [ih]
    cases r <;> rfl
theorem pastIn_app_out {t : List Int} {x : Int} (hx : x ∉ t) : ∀ xs : List Int, pastIn t (xs ++ [x]) = pastIn t xs
  | [] => if_neg hx
  | y :: r => by
    have ih := pastIn_app_out hx r
    show (match pastIn t (r ++ [x]) with | [] => if y ∈ t then [y] else [] | z :: s => y :: z :: s) = (match pastIn t r with | [] => if y ∈ t then [y] else [] | z :: s => y :: z :: s)
    rw [ih]
theorem pastIn_last {t : List Int} : ∀ {xs : List Int} {b : Int}, (pastIn t xs).getLast? = some b → b ∈ t
  | [], _, h => by cases h
  | x :: r, b, h => by
    have h' : (match pastIn t r with | [] => if x ∈ t then [x] else [] | y :: s => x :: y :: s).getLast? = some b := h
    split at h'
    · split at h'
      · next hx => injection h' with h'; subst h'; exact hx
      · cases h'
    · next y s hs =>
      rw [List.getLast?_cons_cons] at h'
      exact pastIn_last (xs := r) (by rw [hs]; exact h')
theorem pastIn_id {t : List Int} {xs : List Int} (h : ∀ b, xs.getLast? = some b → b ∈ t) : pastIn t xs = xs := by
  rcases List.eq_nil_or_concat xs with rfl | ⟨ys, y, rfl⟩
  · rfl
  · rw [List.concat_eq_append] at h ⊢
    exact pastIn_app_in (h y (by simp)) ys
theorem leave_some {m : Int} (h : S.now = some m) : S.leave = { S with past := S.past ++ [m] } := by
  unfold PL.leave
  rw [h]
theorem leave_none (h : S.now = none) : S.leave = S := by
  cases S
  dsimp only at h
  subst h
  rfl
theorem PL.Ok.pastS (h : S.Ok L c n) {xs : List Int} (hx : ∀ e ∈ xs, e ∈ S.past) (hl : xs.length ≤ S.past.length) : ({ S with past := xs } : PL).Ok L c n := by
  refine ⟨h.o, h.t, h.now, h.old, h.soon, fun e he => h.past e (hx e he), h.tl, ?_⟩
  have := h.sz
  show S.soon.length + xs.length + S.rows.length ≤ n
  omega
theorem PL.Ok.back (h : S.Ok L c n) : (S.back L).Ok L c (n + 1) := by
  have h1 : ({ S with past := pastIn S.o.q.turn S.past } : PL).Ok L c n := h.pastS (fun e he => pastIn_sub he) (pastIn_len _)
  have again : (({ S with past := pastIn S.o.q.turn S.past } : PL).again L).Ok L c (n + 1) := by
    unfold PL.again
    split
    · next m hm => exact h1.begin (e := some m) (fun x hx => by injection hx with hx; subst hx; exact h.now _ hm) false
    · exact h1.mono (Nat.le_refl _) (Nat.le_succ n)
  unfold PL.back
  split
  · exact again
  · next b hb =>
    split
    · exact again
    · have hbt := pastIn_last hb
      refine PL.Ok.begin (n := n) ?_ (e := some b) (fun x hx => by injection hx with hx; subst hx; exact h.o.ent hbt) false
      have hl : (pastIn S.o.q.turn S.past).dropLast.length + 1 ≤ S.past.length := by
        have := pastIn_len (t := S.o.q.turn) S.past
        have hne : pastIn S.o.q.turn S.past ≠ [] := fun z => by rw [z] at hb; cases hb
        have := List.length_pos_iff.mpr hne
        rw [List.length_dropLast]
        omega
      have hz := h.sz
      refine ⟨h.o, h.t, h.now, h.old, ?_, fun e he => h.past e (pastIn_sub (List.dropLast_sublist _ |>.mem he)), h.tl, ?_⟩
      · intro e he
        have he' : e ∈ S.lately := he
        unfold PL.lately at he'
        split at he'
        · split at he'
          · next hm =>
            rcases List.mem_cons.mp he' with rfl | he'
            · exact hm
            · exact h.soon e he'
          · exact h.soon e he'
        · exact h.soon e he'
      · have hy : S.lately.length ≤ S.soon.length + 1 := by
          unfold PL.lately
          split
          · split
            · exact Nat.le_refl _
            · exact Nat.le_succ _
          · exact Nat.le_succ _
        show S.lately.length + (pastIn S.o.q.turn S.past).dropLast.length + S.rows.length ≤ n
        omega
/-! ticks -/
theorem PL.Ok.fin (h : S.Ok L c n) {m : Int} (hm : S.now = some m) : (S.fin L m).Ok L c (n + 2) := by
  unfold PL.fin
  split
  · exact ((((h.pastA (h.now m hm)).begin (e := none) (fun x hx => by cases hx) false).plays false).stops false)
  · exact h.mono (Nat.le_refl _) (Nat.le_add_right n 2)
theorem PL.Ok.turn (h : S.Ok L c n) {m : Int} (hm : S.now = some m) : (S.turn L m).Ok L c (n + 2) := by
  unfold PL.turn
  split
  · next f hf =>
    have hf' : (S.next false).2 = some f := by
      unfold PL.found at hf
      split at hf
      · exact hf
      · cases hf
    split
    · have e1 : (S.next false).1.past = S.past := by
        unfold PL.next
        split <;> rfl
      refine PL.Ok.begin (n := n + 1) ?_ (e := some f) (fun x hx => ?_) _
      · have hn : (S.next false).1.o.q.ent m := by rw [S.next_q]; exact h.now m hm
        have := (h.next false).pastA hn
        rw [e1] at this
        exact this
      · injection hx with hx
        subst hx
        show (S.next false).1.o.q.ent f
        rw [S.next_q]
        exact h.o.ent (h.next_mem hf')
    · exact h.fin hm
  · exact h.fin hm
theorem PL.Ok.ticked (h : S.Ok L c n) : (S.ticked L).Ok L c n := by
  refine ⟨h.o, h.t, h.now, ?_, h.soon, h.past, h.tl, h.sz⟩
  intro r hr
  have hr' : S.aged L = some r := hr
  unfold PL.aged at hr'
  split at hr'
  · next e s w ho =>
    split at hr'
    · injection hr' with hr'
      subst hr'
      exact h.old (e, s, w) ho
    · cases hr'
  · cases hr'
theorem PL.Ok.slept (h : S.Ok L c n) : S.slept.Ok L c n := by
  unfold PL.slept
  split
  · split
    · exact (h.sleep none).plays false
    · exact h.sleep _
  · exact h
theorem PL.Ok.step (h : S.Ok L c n) : (S.step L).Ok L c (n + 2) := by
  unfold PL.step
  split
  · next m hm => exact (h.ticked.turn hm).slept
  · exact h.mono (Nat.le_refl _) (Nat.le_add_right n 2)
theorem PL.Ok.tk (h : S.Ok L c n) : (S.tk L).Ok L c (n + 2) := by
  unfold PL.tk
  split
  · exact h.step
  · exact h.mono (Nat.le_refl _) (Nat.le_add_right n 2)
theorem PL.Ok.tick (h : S.Ok L c n) : ∀ k, (S.tick L k).Ok L c (n + 2 * k)
  | 0 => h
  | k + 1 => (PL.Ok.tick h k).tk
theorem PL.Ok.fore (h : S.Ok L c n) (t : Nat) : ∀ k, (S.fore L t k).Ok L c (n + 2 * k)
  | 0 => h
  | k + 1 => by
    have ih := PL.Ok.fore h t k
    show (if (S.fore L t k).pl = true ∧ (S.fore L t k).rows.length < t then (S.fore L t k).step L else S.fore L t k).Ok L c (n + 2 * (k + 1))
    split
    · exact ih.step
    · exact ih.mono (Nat.le_refl _) (by omega)
theorem PL.Ok.alike (h : S.Ok L c n) : S.alike.Ok L c n := (h.sleep none).plays _
/-! what plays is there -/
theorem PL.Pg.begin (h : S.Pg) {e : Option Int} (he : S.pl = true → e ≠ none) (j : Bool) : (S.begin L e j).Pg := he
theorem PL.Pg.alike : S.alike.Pg := fun h z => by
  have h' : S.now.isSome = true := h
  rw [show S.alike.now = S.now from rfl] at z
  rw [z] at h'
  cases h'
theorem PL.Pg.turn (h : S.Pg) {m : Int} (hm : S.now = some m) : (S.turn L m).Pg := by
  have hfin : (S.fin L m).Pg := by
    unfold PL.fin
    split
    · intro z; cases z
    · exact h
  unfold PL.turn
  split
  · split
    · intro _ z; cases z
    · exact hfin
  · exact hfin
theorem PL.Pg.slept (h : S.Pg) : S.slept.Pg := by
  unfold PL.slept
  split
  · split
    · intro z; cases z
    · exact h
  · exact h
theorem PL.Pg.step (h : S.Pg) : (S.step L).Pg := by
  unfold PL.step
  split
  · next m hm => exact (PL.Pg.turn (S := S.ticked L) h hm).slept
  · exact h
theorem PL.Pg.tk (h : S.Pg) : (S.tk L).Pg := by
  unfold PL.tk
  split
  · exact h.step
  · exact h
theorem PL.Pg.tick (h : S.Pg) : ∀ k, (S.tick L k).Pg
  | 0 => h
  | k + 1 => (PL.Pg.tick h k).tk
theorem PL.Pg.fore (h : S.Pg) (t : Nat) : ∀ k, (S.fore L t k).Pg
  | 0 => h
  | k + 1 => by
    have ih := PL.Pg.fore h t k
    show PL.Pg (if (S.fore L t k).pl = true ∧ (S.fore L t k).rows.length < t then (S.fore L t k).step L else S.fore L t k)
    split
    · exact ih.step
    · exact ih
theorem again_none (hm : S.now = none) : S.again L = S := by
  unfold PL.again
  rw [hm]
theorem again_some {m : Int} (hm : S.now = some m) : S.again L = S.begin L (some m) false := by
  unfold PL.again
  rw [hm]
theorem lately_in {m : Int} (hm : S.now = some m) (hi : m ∈ S.o.q.turn) : S.lately = m :: S.soon := by
  unfold PL.lately
  rw [hm]
  exact if_pos hi
theorem lately_out {m : Int} (hm : S.now = some m) (hi : m ∉ S.o.q.turn) : S.lately = S.soon := by
  unfold PL.lately
  rw [hm]
  exact if_neg hi
theorem lately_none (hm : S.now = none) : S.lately = S.soon := by
  unfold PL.lately
  rw [hm]
theorem back_again (h : 3 < S.spot ∨ pastIn S.o.q.turn S.past = []) : S.back L = ({ S with past := pastIn S.o.q.turn S.past } : PL).again L := by
  unfold PL.back
  split
  · rfl
  · next b hb =>
    rcases h with h | h
    · rw [if_pos h]
    · rw [h] at hb
      cases hb
theorem back_prev {ys : List Int} {b : Int} (h : ¬ 3 < S.spot) (hx : pastIn S.o.q.turn S.past = ys ++ [b]) : S.back L = ({ S with past := ys, soon := S.lately } : PL).begin L (some b) false := by
  unfold PL.back
  rw [hx]
  simp [h]
theorem PL.next_ov (S : PL) (l : Bool) : (S.next l).1.ov = S.ov := by
  unfold PL.next
  split <;> rfl
theorem PL.next_now (S : PL) (l : Bool) : (S.next l).1.now = S.now := by
  unfold PL.next
  split <;> rfl
theorem PL.next_spot (S : PL) (l : Bool) : (S.next l).1.spot = S.spot := by
  unfold PL.next
  split <;> rfl
theorem PL.next_past (S : PL) (l : Bool) : (S.next l).1.past = S.past := by
  unfold PL.next
  split <;> rfl
theorem PL.fin_ov (S : PL) (L : List (Str × Int)) (m : Int) : (S.fin L m).ov = S.ov := by
  unfold PL.fin
  split <;> rfl
theorem PL.turn_ov (S : PL) (L : List (Str × Int)) (m : Int) : (S.turn L m).ov = S.ov := by
  unfold PL.turn
  split
  · split
    · exact S.next_ov false
    · exact S.fin_ov L m
  · exact S.fin_ov L m
theorem PL.slept_ov (S : PL) : S.slept.ov = S.ov := by
  unfold PL.slept
  split
  · split <;> rfl
  · rfl
theorem PL.step_ov (S : PL) (L : List (Str × Int)) : (S.step L).ov = S.ov := by
  unfold PL.step
  split
  · next m _ => exact (PL.slept_ov _).trans ((PL.turn_ov (S.ticked L) L m))
  · rfl
theorem PL.tk_ov (S : PL) (L : List (Str × Int)) : (S.tk L).ov = S.ov := by
  unfold PL.tk
  split
  · exact S.step_ov L
  · rfl
theorem PL.tick_ov (S : PL) (L : List (Str × Int)) : ∀ k, (S.tick L k).ov = S.ov
  | 0 => rfl
  | k + 1 => ((S.tick L k).tk_ov L).trans (PL.tick_ov S L k)
theorem PL.fore_ov (S : PL) (L : List (Str × Int)) (t : Nat) : ∀ k, (S.fore L t k).ov = S.ov
  | 0 => rfl
  | k + 1 => by
    show (if (S.fore L t k).pl = true ∧ (S.fore L t k).rows.length < t then (S.fore L t k).step L else S.fore L t k).ov = S.ov
    split
    · exact ((S.fore L t k).step_ov L).trans (PL.fore_ov S L t k)
    · exact PL.fore_ov S L t k
theorem PL.Ok.found_ent (h : S.Ok L c n) {m f : Int} (hf : S.found L m = some f) : S.o.q.ent f := by
  have hf' : (S.next false).2 = some f := by
    unfold PL.found at hf
    split at hf
    · exact hf
    · cases hf
  exact h.o.ent (h.next_mem hf')
/-- it is time for the next one -/
def PL.over (S : PL) (L : List (Str × Int)) (m : Int) : Bool := match S.found L m with
  | some f => decide (S.o.q.lg L m - S.jl L m f ≤ S.spot)
  | none => false
theorem over_some {m : Int} (h : S.over L m = true) : ∃ f, S.found L m = some f ∧ S.o.q.lg L m - S.jl L m f ≤ S.spot := by
  unfold PL.over at h
  split at h
  · next f hf => exact ⟨f, hf, of_decide_eq_true h⟩
  · cases h
theorem turn_some {m f : Int} (hf : S.found L m = some f) (h : S.o.q.lg L m - S.jl L m f ≤ S.spot) : S.turn L m = ({ (S.next false).1 with past := S.past ++ [m] } : PL).begin L (some f) (decide (S.spot < S.o.q.lg L m)) := by
  unfold PL.turn
  rw [hf]
  exact if_pos h
theorem turn_fin {m : Int} (h : S.over L m = false) : S.turn L m = S.fin L m := by
  unfold PL.over at h
  unfold PL.turn
  cases hf : S.found L m with
  | some f =>
    rw [hf] at h
    exact if_neg (of_decide_eq_false h)
  | none => rfl
theorem aged_none (h : S.old = none) : S.aged L = none := by
  unfold PL.aged
  rw [h]
theorem aged_some {e s w : Int} (h : S.old = some (e, s, w)) : S.aged L = if s + 1 < S.o.q.lg L e then some (e, s + 1, w) else none := by
  unfold PL.aged
  rw [h]
end

end
end TR

set_option Elab.async false
set_option linter.all false
set_option maxRecDepth 100000
set_option maxHeartbeats 4000000
/-! .. -/

namespace TR
open PySem PySem.Spec PyProof.Rows L2
section
variable {P : Program} {w : World} {K : PySem.W.Frag} {mg : Str → Option Value} {base : Heap}
/-! ### twins -/
theorem Sep.clQ' (S : QS) (dx t l : Addr) {p : Addr} {R M : List As} {H : Hp} (h : Sep M H) (e : En M (pt p (.ins (He.ga K "Queue") dx (nmQueue.zip [.ref t, .ref l, .int (S.tunes.length : Nat)])) :: pt t (.dK (dN 0 S.tunes)) :: pt l (.lst (S.turn.map V.int)) :: R)) : Sep (QueueR K p S :: R) H := Sep.clQ (h.of e)
def sp_Queue_twin (K : PySem.W.Frag) : Sp := fun vs H Q E => ∃ (p : Addr) (S : QS) (R : List As), vs = [.ref p] ∧ Sep (QueueR K p S :: R) H ∧ ∀ q H', Sep (QueueR K q S :: QueueR K p S :: R) H' → Q (.ref q) H'
theorem ln_Queue_twin : ∀ vs H Q E, sp_Queue_twin K vs H Q E → vs.length = (["self"] : List Str).length := by
  rintro _ _ _ _ ⟨p, S, R, rfl, _⟩
  rfl
theorem sc_Queue_twin : FnScope ["self", "found"] ["self"] (defScope s_Queue_twin) := ⟨rfl, rfl, rfl, by decide +kernel, rfl, by decide +kernel, by decide +kernel⟩
theorem ok_Queue_twin (T : Top K mg) : OkD P w K mg base d_Queue_twin 3 ["self"] (sp_Queue_twin K) := by
  refine okD (df_Queue_twin T) sc_Queue_twin (fun _ _ _ _ _ _ us hl => match us, hl with | [_], _ => rfl) ln_Queue_twin (fun cdv A outer s H vs Q E hr h => ⟨_,
      pss_cons (ps_set (i := 1) sc_Queue_twin.nd rfl (Or.inl rfl) (px_make0 (ok_Queue_init T) (hr.mono (by decide)) (mk_Queue T) rfl (gl_Queue T) (fun σ => paD σ)))
      (pss_cons (ps_fld (pv 1) (pe_bm0 PySem.F.plainAttrs_dict PySem.F.slot_dict_copy PySem.F.type_dict_copy mt_dcopy (pe_fld (pv 0) rfl)) rfl)
      (pss_cons (ps_fld (pv 1) (pe_callTy call_listOf (by rfl) (fr_list T) (by decide +kernel) (pa_cons (pe_fld (pv 0) rfl) pa_nil)) rfl)
      (pss_cons (ps_fld (pv 1) (pe_fld (pv 0) rfl) rfl)
      (pss_one (ps_ret (pv 1)))))), ?_⟩)
  obtain ⟨p, S, R, rfl, hS, h1⟩ := h
  obtain ⟨dx, t, l, hS⟩ := hS.opQ
  walk_at "wo"
  refine y_mk hS fun q dx0 H hS => ?_
  refine ⟨q, dx0, _, rfl, hS.own q, fun H hS => ?_⟩
  obtain ⟨dx2, t2, l2, hS⟩ := (hS.own q).opQ
  walk_at "w"
  obtain ⟨t3, rfl⟩ : ∃ t3, t3 = u := ⟨_, rfl⟩
  refine x_listOf hS (sqL hS) fun l3 H hS => ?_
  walk_at "w"
  have hS : Sep (QueueR K p S :: pt q (.ins (He.ga K "Queue") dx2 (nmQueue.zip [.ref t3, .ref l3, .int (S.tunes.length : Nat)])) :: pt t3 (.dK (dN 0 S.tunes)) :: pt l3 (.lst (S.turn.map V.int)) :: R) H := (Sep.clQ' (S) dx t l hS (by (try simp only [List.map_nil]); repeat (first | exact En.refl | exact En.nil | refine En.cons ?_ | refine En.drop ?_)))
  have hS : Sep (QueueR K q S :: QueueR K p S :: R) H := (Sep.clQ' (S) dx2 t3 l3 hS (by (try simp only [List.map_nil]); repeat (first | exact En.refl | exact En.nil | refine En.cons ?_ | refine En.drop ?_)))
  exact h1 q _ hS
def sp_Dice_twin (K : PySem.W.Frag) : Sp := fun vs H Q E => ∃ (p : Addr) (s : Int) (R : List As), vs = [.ref p] ∧ okSeed s ∧ Sep (DiceR K p s :: R) H ∧ ∀ q H', Sep (DiceR K q s :: DiceR K p s :: R) H' → Q (.ref q) H'
theorem ln_Dice_twin : ∀ vs H Q E, sp_Dice_twin K vs H Q E → vs.length = (["self"] : List Str).length := by
  rintro _ _ _ _ ⟨p, s, R, rfl, _⟩
  rfl
theorem sc_Dice_twin : FnScope ["self"] ["self"] (defScope s_Dice_twin) := ⟨rfl, rfl, rfl, by decide +kernel, rfl, by decide +kernel, by decide +kernel⟩
theorem ok_Dice_twin (T : Top K mg) : OkD P w K mg base d_Dice_twin 3 ["self"] (sp_Dice_twin K) := by
  refine okD (df_Dice_twin T) sc_Dice_twin (fun _ _ _ _ _ _ us hl => match us, hl with | [_], _ => rfl) ln_Dice_twin (fun cdv A outer s H vs Q E hr h => ⟨_,
      pss_one (ps_ret (px_make (ok_Dice_init T) (hr.mono (by decide)) (mk_Dice T) rfl (gl_Dice T) (fun σ => paD σ) (pa_cons (pe_fld (pv 0) rfl) pa_nil))), ?_⟩)
  obtain ⟨p, sd, R, rfl, hs, hS, h1⟩ := h
  obtain ⟨dx, hS⟩ := hS.ex
  walk_at "wo"
  refine y_mk hS fun q dx0 H hS => ?_
  refine ⟨q, dx0, sd, _, rfl, hS.own q, fun _ H hS => ?_, fun no => absurd hs no⟩
  walk_at "w"
  have hS : Sep (DiceR K p sd :: DiceR K q sd :: R) H := Sep.exi dx (hS.of (by repeat (first | exact En.refl | exact En.nil | refine En.cons ?_ | refine En.drop ?_)))
  exact h1 q _ (hS.of (by repeat (first | exact En.refl | exact En.nil | refine En.cons ?_ | refine En.drop ?_)))
def sp_Order_twin (K : PySem.W.Frag) : Sp := fun vs H Q E => ∃ (p : Addr) (S : OS) (R : List As), vs = [.ref p] ∧ S.Ok ∧ Sep (OrderR K p S :: R) H ∧ ∀ q H', Sep (OrderR K q S :: OrderR K p S :: R) H' → Q (.ref q) H'
theorem ln_Order_twin : ∀ vs H Q E, sp_Order_twin K vs H Q E → vs.length = (["self"] : List Str).length := by
  rintro _ _ _ _ ⟨p, S, R, rfl, _⟩
  rfl
theorem sc_Order_twin : FnScope ["self", "found"] ["self"] (defScope s_Order_twin) := ⟨rfl, rfl, rfl, by decide +kernel, rfl, by decide +kernel, by decide +kernel⟩
theorem ok_Order_twin (T : Top K mg) : OkD P w K mg base d_Order_twin 5 ["self"] (sp_Order_twin K) := by
  refine okD (df_Order_twin T) sc_Order_twin (fun _ _ _ _ _ _ us hl => match us, hl with | [_], _ => rfl) ln_Order_twin (fun cdv A outer s H vs Q E hr h => ⟨_,
      pss_cons (ps_set (i := 1) sc_Order_twin.nd rfl (Or.inl rfl) (px_make (ok_Order_init T) (hr.mono (by decide)) (mk_Order T) rfl (gl_Order T) (fun σ => paD σ) (pa_cons pe_int pa_nil)))
      (pss_cons (ps_fld (pv 1) (px_meth0 (ok_Queue_twin T) (hr.mono (by decide)) (pe_fld (pv 0) rfl) (cl_Queue T) (me_Queue_twin T) (fun σ => paD σ)) rfl)
      (pss_cons (ps_fld (pv 1) (px_meth0 (ok_Dice_twin T) (hr.mono (by decide)) (pe_fld (pv 0) rfl) (cl_Dice T) (me_Dice_twin T) (fun σ => paD σ)) rfl)
      (pss_cons (ps_fld (pv 1) (pe_fld (pv 0) rfl) rfl)
      (pss_cons (ps_fld (pv 1) (pe_fld (pv 0) rfl) rfl)
      (pss_cons (ps_fld (pv 1) (pe_callTy call_listOf (by rfl) (fr_list T) (by decide +kernel) (pa_cons (pe_fld (pv 0) rfl) pa_nil)) rfl)
      (pss_cons (ps_fld (pv 1) (pe_fld (pv 0) rfl) rfl)
      (pss_cons (ps_fld (pv 1) (pe_fld (pv 0) rfl) rfl)
      (pss_one (ps_ret (pv 1)))))))))), ?_⟩)
  obtain ⟨p, S, R, rfl, ho, hS, h1⟩ := h
  obtain ⟨dx, q, c, k, hS⟩ := hS.opO
  walk_at "wo"
  refine y_mk hS fun f dx0 H hS => ?_
  refine ⟨f, dx0, 0, _, rfl, hS.own f, fun _ H hS => ?_, fun no => absurd (show okSeed 0 from ⟨by decide, by decide⟩) no⟩
  obtain ⟨dx2, q2, c2, k2, hS⟩ := (hS.own f).opO
  walk_at "w"
  refine ⟨q, S.q, _, rfl, hS.own q, fun q3 H hS => ?_⟩
  walk_at "w"
  refine ⟨c, S.d, _, rfl, ho.seed, hS.own c, fun c3 H hS => ?_⟩
  walk_at "w"
  refine x_listOf hS (sqL hS) fun k3 H hS => ?_
  walk_at "w"
  have hS : Sep (OrderR K p S :: pt f (.ins (He.ga K "Order") dx2 (nmOrder.zip [.ref q3, .ref c3, .bl S.mx, .str S.ag, .ref k3, .bl S.gone, oV S.beh])) :: QueueR K q3 S.q :: DiceR K c3 S.d :: pt k3 (.lst (S.deck.map V.int)) :: R) H := (Sep.clO' (S) dx q c k hS (by (try simp only [List.map_nil]); repeat (first | exact En.refl | exact En.nil | refine En.cons ?_ | refine En.drop ?_)))
  have hS : Sep (OrderR K f S :: OrderR K p S :: R) H := (Sep.clO' (S) dx2 q3 c3 k3 hS (by (try simp only [List.map_nil]); repeat (first | exact En.refl | exact En.nil | refine En.cons ?_ | refine En.drop ?_)))
  exact h1 f _ hS
/-! ### lists of tuples of numbers -/
def TupA : List Addr → List (List Int) → As
  | [], [] => fun _ => True
  | p :: ps, r :: rs => fun h => h p = some (.tup (r.map V.int)) ∧ TupA ps rs h
  | _, _ => fun _ => False
theorem TupA.sb : ∀ {ps : List Addr} {rs : List (List Int)} {h h' : Hp}, Sb h h' → TupA ps rs h → TupA ps rs h'
  | [], [], _, _, _, _ => trivial
  | _ :: ps, _ :: rs, _, _, s, ⟨a, b⟩ => ⟨s _ _ a, TupA.sb (ps := ps) (rs := rs) s b⟩
theorem TupA.len : ∀ {ps : List Addr} {rs : List (List Int)} {h : Hp}, TupA ps rs h → ps.length = rs.length
  | [], [], _, _ => rfl
  | _ :: ps, _ :: rs, _, ⟨_, b⟩ => congrArg (· + 1) (TupA.len (ps := ps) (rs := rs) b)
theorem TupA.snoc : ∀ {ps : List Addr} {rs : List (List Int)} {h : Hp} {p : Addr} {r : List Int}, TupA ps rs h → h p = some (.tup (r.map V.int)) → TupA (ps ++ [p]) (rs ++ [r]) h
  | [], [], _, _, _, _, a => ⟨a, trivial⟩
  | _ :: ps, _ :: rs, _, _, _, ⟨b, c⟩, a => ⟨b, TupA.snoc (ps := ps) (rs := rs) c a⟩
theorem TupA.drop : ∀ {ps : List Addr} {rs : List (List Int)} {h : Hp} (n : Nat), TupA ps rs h → TupA (ps.drop n) (rs.drop n) h
  | _, _, _, 0, a => a
  | [], [], _, _ + 1, _ => trivial
  | _ :: ps, _ :: rs, _, n + 1, ⟨_, b⟩ => TupA.drop (ps := ps) (rs := rs) n b
theorem TupA.at_ : ∀ {ps : List Addr} {rs : List (List Int)} {h : Hp} {i : Nat} {p : Addr}, TupA ps rs h → ps[i]? = some p → ∃ r, rs[i]? = some r ∧ h p = some (.tup (r.map V.int))
  | q :: ps, r :: rs, _, 0, p, ⟨a, _⟩, e => by
    injection e with e
    subst e
    exact ⟨r, rfl, a⟩
  | _ :: ps, _ :: rs, _, i + 1, p, ⟨_, b⟩, e => TupA.at_ (ps := ps) (rs := rs) (i := i) b e
/-- shared: only what never changes -/
theorem TupA.imm : ∀ {ps : List Addr} {rs : List (List Int)} {h : Hp}, TupA ps rs h → ∃ g : Hp, Sb g h ∧ TupA ps rs g ∧ ∀ p o, g p = some o → Imm o := fun {ps rs h} a => by
  refine ⟨fun p => match h p with | some (.tup xs) => some (.tup xs) | _ => none, fun p o e => ?_, ?_, fun p o e => ?_⟩
  · have e : (match h p with | some (.tup xs) => some (HO.tup xs) | _ => none) = some o := e
    split at e
    · next xs hx => rw [hx]; exact e
    · cases e
  · induction ps generalizing rs with
    | nil => cases rs with
      | nil => trivial
      | cons r rs => exact a
    | cons q ps ih => cases rs with
      | nil => exact a
      | cons r rs =>
        refine ⟨?_, ih a.2⟩
        show (match h q with | some (.tup xs) => some (HO.tup xs) | _ => none) = _
        rw [a.1]
  · have e : (match h p with | some (.tup xs) => some (HO.tup xs) | _ => none) = some o := e
    split at e
    · injection e with e
      subst e
      exact trivial
    · cases e
theorem Sep.dupA {A : As} {R : List As} {H : Hp} (ai : ∀ h, A h → ∃ g : Hp, Sb g h ∧ A g ∧ ∀ p o, g p = some o → Imm o) (h : Sep (A :: R) H) : Sep (A :: A :: R) H := by
  obtain ⟨h1, h2, s1, s2, d, a, r⟩ := h
  obtain ⟨g, sg, ag, ig⟩ := ai h1 a
  exact ⟨g, H, sg.trans s1, Sb.refl H, fun p o u e1 _ => ig p o e1, ag, h1, h2, s1, s2, d, a, r⟩
theorem Sep.tups {ps : List Addr} {rs : List (List Int)} {R : List As} {H : Hp} (h : Sep (TupA ps rs :: R) H) : TupA ps rs H := by
  obtain ⟨h1, _, s1, _, _, a, _⟩ := h
  exact a.sb s1
theorem Sep.tupsOf {ps : List Addr} {rs : List (List Int)} {L R : List As} {H : Hp} (h : Sep L H) [q : Pk (TupA ps rs) L R] : TupA ps rs H := (h.to (A := TupA ps rs)).tups
theorem Sep.snocT {ps : List Addr} {rs : List (List Int)} {p : Addr} {r : List Int} {R : List As} {H : Hp} (h : Sep (TupA ps rs :: pt p (.tup (r.map V.int)) :: R) H) : Sep (TupA (ps ++ [p]) (rs ++ [r]) :: R) H :=
  Sep.join (fun _ _ _ s1 s2 a b => (a.sb s1).snoc (s2 _ _ b)) h
/-- a list of them -/
def RowsR (l : Addr) (rs : List (List Int)) : As := ex fun ps : List Addr => all [pt l (.lst (ps.map V.ref)), TupA ps rs]
instance {l : Addr} {rs : List (List Int)} : Kys (RowsR l rs) l := ⟨trivial⟩
theorem Sep.opR {l : Addr} {rs : List (List Int)} {R : List As} {H : Hp} (h : Sep (RowsR l rs :: R) H) : ∃ ps : List Addr, Sep (pt l (.lst (ps.map V.ref)) :: TupA ps rs :: R) H := by
  obtain ⟨ps, h⟩ := h.ex
  exact ⟨ps, h.flat⟩
theorem Sep.clR (ps : List Addr) {l : Addr} {rs : List (List Int)} {R : List As} {H : Hp} (h : Sep (pt l (.lst (ps.map V.ref)) :: TupA ps rs :: R) H) : Sep (RowsR l rs :: R) H := Sep.exi ps (Sep.wrap h)
def rw2 (rows : List (Int × Int)) : List (List Int) := rows.map fun r => [r.1, r.2]
/-- what goes over -/
def OldA (v : V) (o : Option (Int × Int × Int)) : As := match o with
  | none => pu (v = .non)
  | some r => ex fun t => all [pu (v = .ref t), pt t (.tup [.int r.1, .int r.2.1, .int r.2.2])]
theorem old_none {v : V} {R : List As} {H : Hp} (h : Sep (OldA v none :: R) H) : v = .non ∧ Sep R H := Sep.pu h
theorem old_some {v : V} {r : Int × Int × Int} {R : List As} {H : Hp} (h : Sep (OldA v (some r) :: R) H) : ∃ t, v = .ref t ∧ Sep (pt t (.tup [.int r.1, .int r.2.1, .int r.2.2]) :: R) H := by
  obtain ⟨t, h⟩ := h.ex
  have h := h.flat
  exact ⟨t, (Sep.pu h).1, (Sep.pu h).2⟩
theorem old_mk0 {R : List As} {H : Hp} (h : Sep R H) : Sep (OldA .non none :: R) H := Sep.pui rfl h
theorem old_mk {t : Addr} {a b c : Int} {R : List As} {H : Hp} (h : Sep (pt t (.tup [.int a, .int b, .int c]) :: R) H) : Sep (OldA (.ref t) (some (a, b, c)) :: R) H := Sep.exi t (Sep.wrap (Sep.pui rfl h))
theorem old_imm {v : V} {o : Option (Int × Int × Int)} : ∀ h, OldA v o h → ∃ g : Hp, Sb g h ∧ OldA v o g ∧ ∀ p o, g p = some o → Imm o := by
  intro h a
  cases o with
  | none => exact ⟨fun _ => none, empty_sb h, a, fun _ _ e => nomatch e⟩
  | some r =>
    obtain ⟨t, h1, h2, s1, s2, d, e, h3, h4, s3, s4, d2, a2, _⟩ := a
    have at_ : h t = some (.tup [.int r.1, .int r.2.1, .int r.2.2]) := s2 _ _ (s3 _ _ a2)
    let g : Hp := fun p => if p = t then h t else none
    have gt : g t = h t := if_pos rfl
    refine ⟨g, fun p o e => ?_, ⟨t, fun _ => none, g, fun _ _ e => (nomatch e), Sb.refl g, fun _ _ _ e => (nomatch e), e, g, fun _ => none, Sb.refl g, fun _ _ e => (nomatch e), fun _ _ _ _ e => (nomatch e), gt.trans at_, trivial⟩, fun p o e => ?_⟩
    · by_cases hp : p = t
      · rw [hp] at e ⊢
        rw [← gt]; exact e
      · rw [show g p = none from if_neg hp] at e
        cases e
    · by_cases hp : p = t
      · rw [hp, gt, at_] at e
        cases e
        exact trivial
      · rw [show g p = none from if_neg hp] at e
        cases e
/-! ### a player -/
def PlayerR (K : PySem.W.Frag) (p sh : Addr) (S : PL) : As := ex fun dx => ex fun o => ex fun v => ex fun so => ex fun pa => ex fun ro =>
  all [pt p (.ins (He.ga K "Player") dx (nmPlayer.zip [.ref sh, .int S.ov, .ref o, .int S.tm, oV S.now, .int S.spot, v, .ref so, .ref pa, .ref ro, .bl S.pl, .bl S.st, oV S.sl])), OrderR K o S.o, OldA v S.old, pt so (.lst (S.soon.map V.int)), pt pa (.lst (S.past.map V.int)), RowsR ro (rw2 S.rows)]
instance {K : PySem.W.Frag} {p sh : Addr} {S : PL} : Kys (PlayerR K p sh S) p := ⟨trivial⟩
instance {K : PySem.W.Frag} {p sh : Addr} {S : PL} : IsOb (PlayerR K p sh S) p (He.ga K "Player") nmPlayer := ⟨fun h ⟨dx, o, v, so, pa, ro, a⟩ => ⟨dx, _, Sep.get a⟩⟩
theorem Sep.opP {p sh : Addr} {S : PL} {R : List As} {H : Hp} (h : Sep (PlayerR K p sh S :: R) H) : ∃ dx o v so pa ro, Sep (pt p (.ins (He.ga K "Player") dx (nmPlayer.zip [.ref sh, .int S.ov, .ref o, .int S.tm, oV S.now, .int S.spot, v, .ref so, .ref pa, .ref ro, .bl S.pl, .bl S.st, oV S.sl])) :: OrderR K o S.o :: OldA v S.old :: pt so (.lst (S.soon.map V.int)) :: pt pa (.lst (S.past.map V.int)) :: RowsR ro (rw2 S.rows) :: R) H := by
  obtain ⟨dx, h⟩ := h.ex
  obtain ⟨o, h⟩ := h.ex
  obtain ⟨v, h⟩ := h.ex
  obtain ⟨so, h⟩ := h.ex
  obtain ⟨pa, h⟩ := h.ex
  obtain ⟨ro, h⟩ := h.ex
  exact ⟨dx, o, v, so, pa, ro, h.flat⟩
theorem Sep.clP' (S : PL) (sh dx o : Addr) (v : V) (so pa ro : Addr) {p : Addr} {R M : List As} {H : Hp} (h : Sep M H) (e : En M (pt p (.ins (He.ga K "Player") dx (nmPlayer.zip [.ref sh, .int S.ov, .ref o, .int S.tm, oV S.now, .int S.spot, v, .ref so, .ref pa, .ref ro, .bl S.pl, .bl S.st, oV S.sl])) :: OrderR K o S.o :: OldA v S.old :: pt so (.lst (S.soon.map V.int)) :: pt pa (.lst (S.past.map V.int)) :: RowsR ro (rw2 S.rows) :: R)) : Sep (PlayerR K p sh S :: R) H :=
  Sep.exi dx (Sep.exi o (Sep.exi v (Sep.exi so (Sep.exi pa (Sep.exi ro (Sep.wrap (h.of e)))))))

end
end TR

set_option Elab.async false
set_option linter.all false
set_option maxRecDepth 100000
set_option maxHeartbeats 4000000
/-! .. -/

namespace TR
open PySem PySem.Spec PyProof.Rows L2
section
variable {P : Program} {w : World} {K : PySem.W.Frag} {mg : Str → Option Value} {base : Heap}
/-! ### players, walked -/
class Pks (X : List As) (L : List As) (R : outParam (List As)) : Prop where
  en : En L (X ++ R)
instance Pks.nil {L : List As} : Pks [] L L := ⟨En.refl⟩
instance Pks.cons {A : As} {X L L1 R : List As} [a : Pk A L L1] [b : Pks X L1 R] : Pks (A :: X) L R := ⟨a.en.trans (En.skip b.en)⟩
theorem Sep.clRA {l : Addr} (ps : List Addr) {rs : List (List Int)} {L R : List As} {H : Hp} (h : Sep L H) [q : Pks [pt l (.lst (ps.map V.ref)), TupA ps rs] L R] : Sep (RowsR l rs :: R) H := Sep.clR ps (q.en H h)
theorem Sep.clOA (S : OS) {o dx q c k : Addr} {L R : List As} {H : Hp} (h : Sep L H) [a : Pks [pt o (.ins (He.ga K "Order") dx (nmOrder.zip [.ref q, .ref c, .bl S.mx, .str S.ag, .ref k, .bl S.gone, oV S.beh])), QueueR K q S.q, DiceR K c S.d, pt k (.lst (S.deck.map V.int))] L R] : Sep (OrderR K o S :: R) H :=
  Sep.clO (a.en H h)
theorem Sep.clPA (S : PL) {p sh dx o : Addr} {v : V} {so pa ro : Addr} {L R : List As} {H : Hp} (h : Sep L H) [a : Pks [pt p (.ins (He.ga K "Player") dx (nmPlayer.zip [.ref sh, .int S.ov, .ref o, .int S.tm, oV S.now, .int S.spot, v, .ref so, .ref pa, .ref ro, .bl S.pl, .bl S.st, oV S.sl])),
    OrderR K o S.o, OldA v S.old, pt so (.lst (S.soon.map V.int)), pt pa (.lst (S.past.map V.int)), RowsR ro (rw2 S.rows)] L R] : Sep (PlayerR K p sh S :: R) H :=
  Sep.exi dx (Sep.exi o (Sep.exi v (Sep.exi so (Sep.exi pa (Sep.exi ro (Sep.wrap (a.en H h)))))))
theorem Sep.rowsA {ro u : Addr} {ps : List Addr} {rows : List (Int × Int)} {a b : Int} {L R : List As} {H : Hp} (h : Sep L H) [q : Pks [pt ro (.lst (ps.map V.ref ++ [.ref u])), TupA ps (rw2 rows), pt u (.tup [.int a, .int b])] L R] : Sep (RowsR ro (rw2 (rows ++ [(a, b)])) :: R) H := by
  have h : Sep (pt ro (.lst (ps.map V.ref ++ [.ref u])) :: TupA ps (rw2 rows) :: pt u (.tup ([a, b].map V.int)) :: R) H := q.en H h
  have h : Sep (pt ro (.lst (ps.map V.ref ++ [.ref u])) :: TupA (ps ++ [u]) (rw2 rows ++ [[a, b]]) :: R) H := h.skip fun _ h => Sep.snocT h
  rw [show ps.map V.ref ++ [.ref u] = (ps ++ [u]).map V.ref by rw [List.map_append] <;> rfl, show rw2 rows ++ [[a, b]] = rw2 (rows ++ [(a, b)]) by unfold rw2; rw [List.map_append] <;> rfl] at h
  exact Sep.clR _ h
theorem Sep.oldA {u : Addr} {a b c : Int} {L R : List As} {H : Hp} (h : Sep L H) [q : Pk (pt u (.tup [.int a, .int b, .int c])) L R] : Sep (OldA (.ref u) (some (a, b, c)) :: R) H := old_mk (q.en H h)
theorem tupA_len {ro : Addr} {ps : List Addr} {rs : List (List Int)} {L R : List As} {H : Hp} (h : Sep L H) [q : Pk (TupA ps rs) L R] : ps.length = rs.length := TupA.len (h.tupsOf (ps := ps) (rs := rs))
theorem rw2_len (rows : List (Int × Int)) : (rw2 rows).length = rows.length := List.length_map _
theorem Sep.tup0 {R : List As} {H : Hp} (h : Sep R H) : Sep (TupA [] [] :: R) H := ⟨fun _ => none, H, empty_sb H, Sb.refl H, fun _ _ _ e => (nomatch e), trivial, h⟩
theorem clP0 {p dx sh o so pa ro : Addr} {ov sd : Int} {R : List As} {H : Hp} (h : Sep (pt p (.ins (He.ga K "Player") dx (nmPlayer.zip [.ref sh, .int ov, .ref o, .int 0, .non, .int 0, .non, .ref so, .ref pa, .ref ro, .bl false, .bl false, .non])) :: pt ro (.lst []) :: pt pa (.lst []) :: pt so (.lst []) :: OrderR K o (OS.new sd) :: R) H) :
    Sep (PlayerR K p sh (PL.new ov sd) :: R) H := by
  have h2 : Sep (TupA [] [] :: _) H := Sep.tup0 h
  have hS : Sep (pt ro (.lst (([] : List Addr).map V.ref)) :: TupA [] [] :: pt p (.ins (He.ga K "Player") dx (nmPlayer.zip [.ref sh, .int ov, .ref o, .int 0, .non, .int 0, .non, .ref so, .ref pa, .ref ro, .bl false, .bl false, .non])) :: pt pa (.lst []) :: pt so (.lst []) :: OrderR K o (OS.new sd) :: R) H :=
    show Sep (pt ro (.lst []) :: TupA [] [] :: _) H from h2.of (by repeat (first | exact En.refl | exact En.nil | refine En.cons ?_ | refine En.drop ?_))
  have hS := Sep.clR [] hS
  have hS := old_mk0 hS
  refine Sep.exi dx (Sep.exi o (Sep.exi .non (Sep.exi so (Sep.exi pa (Sep.exi ro (Sep.wrap ?_))))))
  show Sep (pt p (.ins (He.ga K "Player") dx (nmPlayer.zip [.ref sh, .int ov, .ref o, .int 0, .non, .int 0, .non, .ref so, .ref pa, .ref ro, .bl false, .bl false, .non])) :: OrderR K o (OS.new sd) :: OldA .non none :: pt so (.lst []) :: pt pa (.lst []) :: RowsR ro [] :: R) H
  exact hS.of (by repeat (first | exact En.refl | exact En.nil | refine En.cons ?_ | refine En.drop ?_))
def sp_Player_init (K : PySem.W.Frag) : Sp := fun vs H Q E => ∃ (p dx sh : Addr) (ov sd : Int) (R : List As), vs = [.ref p, .ref sh, .int ov, .int sd] ∧ Sep (pt p (.ins (He.ga K "Player") dx []) :: R) H ∧
  (okOv ov → okSeed sd → ∀ H', Sep (PlayerR K p sh (PL.new ov sd) :: R) H' → Q .non H') ∧ (¬ (okOv ov ∧ okSeed sd) → ∀ H', Sep R H' → E (.ref (He.ga K "BadNumber")) none H')
theorem ln_Player_init : ∀ vs H Q E, sp_Player_init K vs H Q E → vs.length = (["self", "shelf", "overlap", "seed"] : List Str).length := by
  rintro _ _ _ _ ⟨p, dx, sh, ov, sd, R, rfl, _⟩
  rfl
theorem sc_Player_init : FnScope ["self", "shelf", "overlap", "seed"] ["self", "shelf", "overlap", "seed"] (defScope s_Player_init) := ⟨rfl, rfl, rfl, by decide +kernel, rfl, by decide +kernel, by decide +kernel⟩
theorem ok_Player_init (T : Top K mg) : OkD P w K mg base d_Player_init 5 ["self", "shelf", "overlap", "seed"] (sp_Player_init K) := by
  refine okD (df_Player_init T) sc_Player_init (fun _ _ _ _ _ _ us hl => match us, hl with | [_, _, _, _], _ => rfl) ln_Player_init (fun cdv A outer s H vs Q E hr h => ⟨_,
      pss_cons (ps_if (pt_not (pt_chain op_le op_le pe_int (pv 2) (px_int rfl (gi_MOST_OVERLAP T))))
       (pss_one (px_raise rfl tkD rfl (gl_BadNumber T) (xc_BadNumber T)))
       (pss_nil))
      (pss_cons (ps_fld (pv 0) (pv 1) rfl)
      (pss_cons (ps_fld (pv 0) (pv 2) rfl)
      (pss_cons (ps_fld (pv 0) (px_make (ok_Order_init T) (hr.mono (by decide)) (mk_Order T) rfl (gl_Order T) (fun σ => paD σ) (pa_cons (pv 3) pa_nil)) rfl)
      (pss_cons (ps_fld (pv 0) pe_int rfl)
      (pss_cons (ps_fld (pv 0) pe_non rfl)
      (pss_cons (ps_fld (pv 0) pe_int rfl)
      (pss_cons (ps_fld (pv 0) pe_non rfl)
      (pss_cons (ps_fld (pv 0) (pe_lst pa_nil) rfl)
      (pss_cons (ps_fld (pv 0) (pe_lst pa_nil) rfl)
      (pss_cons (ps_fld (pv 0) (pe_lst pa_nil) rfl)
      (pss_cons (ps_fld (pv 0) pe_bl rfl)
      (pss_cons (ps_fld (pv 0) pe_bl rfl)
      (pss_one (ps_fld (pv 0) pe_non rfl)))))))))))))), ?_⟩)
  obtain ⟨p, dx, sh, ov, sd, R, rfl, hS, h1, h2⟩ := h
  walk_at "wo"
  refine y_cut (fun σ H => okOv ov ∧ σ = [some (.ref p), some (.ref sh), some (.int ov), some (.int sd)] ∧ Sep (pt p (.ins (He.ga K "Player") dx []) :: R) H) (fun N hN => ?_) ?_
  · walk_at "v"
    refine x_dec (fun hA => ?_) (fun hA => ?_)
    · walk_at "v"
      refine x_ndec (fun hB => ?_) (fun hB => ?_)
      · walk_at "v"
        exact h2 (fun z => hB z.1.2) _ hS.tail
      · walk_at "v"
        exact hN _ _ ⟨⟨hA, hB⟩, rfl, hS⟩
    · walk_at "v"
      exact h2 (fun z => hA z.1.1) _ hS.tail
  · rintro σ H ⟨hov, rfl, hS⟩
    walk_at "v"
    refine y_mk hS fun o dx2 H hS => ?_
    refine ⟨o, dx2, sd, _, rfl, hS.own o, fun hs H hS => ?_, fun no H hS => h2 (fun z => no z.2) _ (by obtain ⟨hS⟩ := (⟨hS⟩ : PLift _); exact (hS.own p).tail)⟩
    walk_at "v"
    exact h1 hov hs _ (clP0 hS)

def sp_Player_long (K : PySem.W.Frag) : Sp := fun vs H Q E => ∃ (p sh : Addr) (e : Int) (S : PL) (L : List (Str × Int)) (R : List As), vs = [.ref p, .int e] ∧ okT L S.o.q ∧ S.o.q.ent e ∧ Sep (PlayerR K p sh S :: ShelfR K sh L :: R) H ∧
  ∀ H', Sep (PlayerR K p sh S :: ShelfR K sh L :: R) H' → Q (.int (S.o.q.lg L e)) H'
theorem ln_Player_long : ∀ vs H Q E, sp_Player_long K vs H Q E → vs.length = (["self", "entry"] : List Str).length := by
  rintro _ _ _ _ ⟨p, sh, e, S, L, R, rfl, _⟩
  rfl
theorem sc_Player_long : FnScope ["self", "entry"] ["self", "entry"] (defScope s_Player_long) := ⟨rfl, rfl, rfl, by decide +kernel, rfl, by decide +kernel, by decide +kernel⟩
theorem ok_Player_long (T : Top K mg) : OkD P w K mg base d_Player_long 3 ["self", "entry"] (sp_Player_long K) := by
  refine okD (df_Player_long T) sc_Player_long (fun _ _ _ _ _ _ us hl => match us, hl with | [_, _], _ => rfl) ln_Player_long (fun cdv A outer s H vs Q E hr h => ⟨_,
      pss_one (ps_ret (px_meth (ok_Shelf_long T) (hr.mono (by decide)) (pe_fld (pv 0) rfl) (cl_Shelf T) (me_Shelf_long T) (fun σ => paD σ) (pa_cons (px_meth (ok_Queue_tune T) (hr.mono (by decide)) (pe_fld (pe_fld (pv 0) rfl) rfl) (cl_Queue T) (me_Queue_tune T) (fun σ => paD σ) (pa_cons (pv 1) pa_nil)) pa_nil))), ?_⟩)
  obtain ⟨p, sh, e, S, L, R, rfl, ht, he, hS, h1⟩ := h
  obtain ⟨z, hz, hl, _, _⟩ := lg_ent ht he
  obtain ⟨dx, o, v, so, pa, ro, hS⟩ := hS.opP
  obtain ⟨dx2, q, c, k, hS⟩ := (hS.own o).opO
  walk_at "wo"
  refine ⟨q, e, S.o.q, _, rfl, hS.own q, fun z2 hz2 H hS => ?_, fun no => by rw [hz] at no; cases no⟩
  rw [hz] at hz2
  injection hz2 with hz2
  subst hz2
  walk_at "w"
  refine ⟨sh, z, L, _, rfl, hS.own sh, fun l hl2 H hS => ?_, fun no => by rw [hl] at no; cases no⟩
  rw [hl] at hl2
  injection hl2 with hl2
  subst hl2
  have hS := Sep.clOA (K := K) (S.o) (o := o) (dx := dx2) (q := q) (c := c) (k := k) hS
  have hS := Sep.clPA (K := K) (S) (p := p) (sh := sh) (dx := dx) (o := o) (v := v) (so := so) (pa := pa) (ro := ro) hS
  exact h1 _ (hS.of (by repeat (first | exact En.refl | exact En.nil | refine En.cons ?_ | refine En.drop ?_)))

end
end TR

set_option Elab.async false
set_option linter.all false
set_option maxRecDepth 100000
set_option maxHeartbeats 4000000
/-! .. -/

namespace TR
open PySem PySem.Spec PyProof.Rows L2
section
variable {P : Program} {w : World} {K : PySem.W.Frag} {mg : Str → Option Value} {base : Heap}
/-! players: what changes the order, the queue -/
def sp_Player_add (K : PySem.W.Frag) : Sp := fun vs H Q E => ∃ (p sh : Addr) (z : Str) (pl : Int) (S : PL) (L : List (Str × Int)) (R : List As), vs = [.ref p, .str z, .int pl] ∧ S.o.Ok ∧ Sep (PlayerR K p sh S :: ShelfR K sh L :: R) H ∧
  ((lk L z).isSome = true → okPut S.o.q pl → ∀ H', Sep (PlayerR K p sh { S with o := S.o.put z pl.toNat } :: ShelfR K sh L :: R) H' → Q (.int ((S.o.q.tunes.length : Nat) + 1)) H') ∧
  (lk L z = none → ∀ H', Sep (PlayerR K p sh S :: ShelfR K sh L :: R) H' → E (.ref (He.ga K "BadTune")) none H') ∧
  ((lk L z).isSome = true → ¬ okPut S.o.q pl → ∀ H', Sep (PlayerR K p sh S :: ShelfR K sh L :: R) H' → E (.ref (He.ga K "BadNumber")) none H')
theorem ln_Player_add : ∀ vs H Q E, sp_Player_add K vs H Q E → vs.length = (["self", "name", "place"] : List Str).length := by
  rintro _ _ _ _ ⟨p, sh, z, pl, S, L, R, rfl, _⟩
  rfl
theorem sc_Player_add : FnScope ["self", "name", "place"] ["self", "name", "place"] (defScope s_Player_add) := ⟨rfl, rfl, rfl, by decide +kernel, rfl, by decide +kernel, by decide +kernel⟩
theorem ok_Player_add (T : Top K mg) : OkD P w K mg base d_Player_add 3 ["self", "name", "place"] (sp_Player_add K) := by
  refine okD (df_Player_add T) sc_Player_add (fun _ _ _ _ _ _ us hl => match us, hl with | [_, _, _], _ => rfl) ln_Player_add (fun cdv A outer s H vs Q E hr h => ⟨_,
      pss_cons (ps_expr (px_meth (ok_Shelf_need T) (hr.mono (by decide)) (pe_fld (pv 0) rfl) (cl_Shelf T) (me_Shelf_need T) (fun σ => paD σ) (pa_cons (pv 1) pa_nil)))
      (pss_one (ps_ret (px_meth (ok_Order_put T) (hr.mono (by decide)) (pe_fld (pv 0) rfl) (cl_Order T) (me_Order_put T) (fun σ => paD σ) (pa_cons (pv 1) (pa_cons (pv 2) pa_nil))))), ?_⟩)
  obtain ⟨p, sh, z, pl, S, L, R, rfl, ho, hS, h1, h2, h3⟩ := h
  obtain ⟨dx, o, v, so, pa, ro, hS⟩ := hS.opP
  walk_at "wo"
  refine ⟨sh, z, L, _, rfl, hS.own sh, fun hk H hS => ?_, fun hk H hS => ?_⟩
  · walk_at "w"
    refine ⟨o, z, pl, S.o, _, rfl, ho, hS.own o, fun ok H hS => ?_, fun no H hS => ?_⟩
    · have hS := Sep.clPA (K := K) ({ S with o := S.o.put z pl.toNat }) (p := p) (sh := sh) (dx := dx) (o := o) (v := v) (so := so) (pa := pa) (ro := ro) hS
      exact h1 hk ok _ (hS.of (by repeat (first | exact En.refl | exact En.nil | refine En.cons ?_ | refine En.drop ?_)))
    · have hS := Sep.clPA (K := K) (S) (p := p) (sh := sh) (dx := dx) (o := o) (v := v) (so := so) (pa := pa) (ro := ro) hS
      exact h3 hk no _ (hS.of (by repeat (first | exact En.refl | exact En.nil | refine En.cons ?_ | refine En.drop ?_)))
  · have hS := Sep.clPA (K := K) (S) (p := p) (sh := sh) (dx := dx) (o := o) (v := v) (so := so) (pa := pa) (ro := ro) hS
    exact h2 hk _ (hS.of (by repeat (first | exact En.refl | exact En.nil | refine En.cons ?_ | refine En.drop ?_)))
def sp_Player_remove (K : PySem.W.Frag) : Sp := fun vs H Q E => ∃ (p sh : Addr) (e : Int) (S : PL) (R : List As), vs = [.ref p, .int e] ∧ S.o.Ok ∧ S.soon.length ≤ 100000 ∧ Sep (PlayerR K p sh S :: R) H ∧
  (e ∈ S.o.q.turn → ∀ H', Sep (PlayerR K p sh (S.remove e) :: R) H' → Q .non H') ∧ (e ∉ S.o.q.turn → ∀ H', Sep (PlayerR K p sh S :: R) H' → E (.ref (He.ga K "BadEntry")) none H')
theorem ln_Player_remove : ∀ vs H Q E, sp_Player_remove K vs H Q E → vs.length = (["self", "entry"] : List Str).length := by
  rintro _ _ _ _ ⟨p, sh, e, S, R, rfl, _⟩
  rfl
theorem sc_Player_remove : FnScope ["self", "entry", "one"] ["self", "entry"] (defScope s_Player_remove) := ⟨rfl, rfl, rfl, by decide +kernel, rfl, by decide +kernel, by decide +kernel⟩
theorem ok_Player_remove (T : Top K mg) : OkD P w K mg base d_Player_remove 4 ["self", "entry"] (sp_Player_remove K) := by
  refine okD (df_Player_remove T) sc_Player_remove (fun _ _ _ _ _ _ us hl => match us, hl with | [_, _], _ => rfl) ln_Player_remove (fun cdv A outer s H vs Q E hr h => ⟨_,
      pss_cons (ps_expr (px_meth (ok_Order_remove T) (hr.mono (by decide)) (pe_fld (pv 0) rfl) (cl_Order T) (me_Order_remove T) (fun σ => paD σ) (pa_cons (pv 1) (pa_cons (pe_fld (pv 0) rfl) pa_nil))))
      (pss_one (ps_fld (pv 0) (pe_lc (own := [("one", 2)]) (g := gName 2) (by rfl) sc_Player_remove.nd (pi_list (pe_fld (pv 0) rfl)) (blkOk_by (own := [("one", 2)]) (N := ["self", "entry", "one"]) (sc := defScope s_Player_remove) (by decide +kernel)) (fun _ _ _ _ _ => pg_name (i := 2) sc_Player_remove.nd rfl (Or.inl rfl)) (fun _ _ _ _ _ => pts_one (pt_cmpR op_ne (pv 2) (pv 1) (nomark _))) (fun _ _ _ _ _ => pv 2)) rfl)), ?_⟩)
  obtain ⟨p, sh, e, S, R, rfl, ho, hl, hS, h1, h2⟩ := h
  obtain ⟨dx, o, v, so, pa, ro, hS⟩ := hS.opP
  walk_at "wo"
  refine ⟨o, e, S.now, S.o, _, rfl, ho, hS.own o, fun he H hS => ?_, fun he H hS => ?_⟩
  · walk_at "w"
    refine y_lcF (fun o => !decide (some o = some e)) hS hl (fun D acc x H hl hS => ?_) (fun l2 H hS => ?_)
    · walk_at "w"
      refine x_neJ (b := some e) ?_
      walk_at "w"
      refine x_ndec (fun hn => ?_) (fun hy => ?_)
      · walk_at "w"
        refine y_el hS (by rw [List.length_map]; omega) fun H hS => ?_
        rw [if_pos (by rw [decide_eq_false hn] <;> rfl), List.map_append]
        exact hS
      · rw [if_neg (by rw [decide_eq_true hy]; intro z; cases z)]
        exact hS
    · replace hS : Sep (pt l2 (.lst ((wo e S.soon).map V.int)) :: _) H := hS
      walk_at "w"
      have hS := Sep.clPA (K := K) { S with o := S.o.remove e S.now, soon := wo e S.soon } (p := p) (sh := sh) (dx := dx) (o := o) (v := v) (so := l2) (pa := pa) (ro := ro) hS
      have hS : Sep (PlayerR K p sh (S.remove e) :: _) H := hS
      exact h1 he _ (hS.of (by repeat (first | exact En.refl | exact En.nil | refine En.cons ?_ | refine En.drop ?_)))
  · have hS := Sep.clPA (K := K) (S) (p := p) (sh := sh) (dx := dx) (o := o) (v := v) (so := so) (pa := pa) (ro := ro) hS
    exact h2 he _ (hS.of (by repeat (first | exact En.refl | exact En.nil | refine En.cons ?_ | refine En.drop ?_)))
def PL.move (S : PL) (e : Int) (pl : Nat) : PL := { S with o := S.o.move e pl }
def sp_Player_move (K : PySem.W.Frag) : Sp := fun vs H Q E => ∃ (p sh : Addr) (e pl : Int) (S : PL) (R : List As), vs = [.ref p, .int e, .int pl] ∧ S.o.Ok ∧ Sep (PlayerR K p sh S :: R) H ∧
  (e ∈ S.o.q.turn → okMove S.o.q pl → ∀ H', Sep (PlayerR K p sh (S.move e pl.toNat) :: R) H' → Q .non H') ∧ (e ∉ S.o.q.turn → ∀ H', Sep (PlayerR K p sh S :: R) H' → E (.ref (He.ga K "BadEntry")) none H') ∧
  (e ∈ S.o.q.turn → ¬ okMove S.o.q pl → ∀ H', Sep (PlayerR K p sh S :: R) H' → E (.ref (He.ga K "BadNumber")) none H')
theorem ln_Player_move : ∀ vs H Q E, sp_Player_move K vs H Q E → vs.length = (["self", "entry", "place"] : List Str).length := by
  rintro _ _ _ _ ⟨p, sh, e, pl, S, R, rfl, _⟩
  rfl
def PL.playSoon (S : PL) (e : Int) : PL := { S with soon := S.soon ++ [e] }
def sp_Player_play_soon (K : PySem.W.Frag) : Sp := fun vs H Q E => ∃ (p sh : Addr) (e : Int) (S : PL) (R : List As), vs = [.ref p, .int e] ∧ S.soon.length ≤ 100000 ∧ Sep (PlayerR K p sh S :: R) H ∧
  (e ∈ S.o.q.turn → ∀ H', Sep (PlayerR K p sh (S.playSoon e) :: R) H' → Q .non H') ∧ (e ∉ S.o.q.turn → ∀ H', Sep (PlayerR K p sh S :: R) H' → E (.ref (He.ga K "BadEntry")) none H')
theorem ln_Player_play_soon : ∀ vs H Q E, sp_Player_play_soon K vs H Q E → vs.length = (["self", "entry"] : List Str).length := by
  rintro _ _ _ _ ⟨p, sh, e, S, R, rfl, _⟩
  rfl
def sp_Player_entries (K : PySem.W.Frag) : Sp := fun vs H Q E => ∃ (p sh : Addr) (S : PL) (R : List As), vs = [.ref p] ∧ Sep (PlayerR K p sh S :: R) H ∧
  ∀ l H', Sep (pt l (.lst (S.o.q.turn.map V.int)) :: PlayerR K p sh S :: R) H' → Q (.ref l) H'
theorem ln_Player_entries : ∀ vs H Q E, sp_Player_entries K vs H Q E → vs.length = (["self"] : List Str).length := by
  rintro _ _ _ _ ⟨p, sh, S, R, rfl, _⟩
  rfl
theorem sc_Player_entries : FnScope ["self"] ["self"] (defScope s_Player_entries) := ⟨rfl, rfl, rfl, by decide +kernel, rfl, by decide +kernel, by decide +kernel⟩
theorem ok_Player_entries (T : Top K mg) : OkD P w K mg base d_Player_entries 2 ["self"] (sp_Player_entries K) := by
  refine okD (df_Player_entries T) sc_Player_entries (fun _ _ _ _ _ _ us hl => match us, hl with | [_], _ => rfl) ln_Player_entries (fun cdv A outer s H vs Q E hr h => ⟨_,
      pss_one (ps_ret (px_meth0 (ok_Queue_entries T) (hr.mono (by decide)) (pe_fld (pe_fld (pv 0) rfl) rfl) (cl_Queue T) (me_Queue_entries T) (fun σ => paD σ))), ?_⟩)
  obtain ⟨p, sh, S, R, rfl, hS, h1⟩ := h
  obtain ⟨dx, o, v, so, pa, ro, hS⟩ := hS.opP
  obtain ⟨dx2, q, c, k, hS⟩ := (hS.own o).opO
  walk_at "wo"
  refine ⟨q, S.o.q, _, rfl, hS.own q, fun l H hS => ?_⟩
  have hS := Sep.clOA (K := K) (S.o) (o := o) (dx := dx2) (q := q) (c := c) (k := k) hS
  have hS := Sep.clPA (K := K) (S) (p := p) (sh := sh) (dx := dx) (o := o) (v := v) (so := so) (pa := pa) (ro := ro) hS
  exact h1 l _ (hS.of (by repeat (first | exact En.refl | exact En.nil | refine En.cons ?_ | refine En.drop ?_)))
def sp_Player_tune (K : PySem.W.Frag) : Sp := fun vs H Q E => ∃ (p sh : Addr) (e : Int) (S : PL) (R : List As), vs = [.ref p, .int e] ∧ Sep (PlayerR K p sh S :: R) H ∧
  (∀ z, S.o.q.tune e = some z → ∀ H', Sep (PlayerR K p sh S :: R) H' → Q (.str z) H') ∧ (S.o.q.tune e = none → ∀ H', Sep (PlayerR K p sh S :: R) H' → E (.ref (He.ga K "BadEntry")) none H')
theorem ln_Player_tune : ∀ vs H Q E, sp_Player_tune K vs H Q E → vs.length = (["self", "entry"] : List Str).length := by
  rintro _ _ _ _ ⟨p, sh, e, S, R, rfl, _⟩
  rfl
theorem sc_Player_tune : FnScope ["self", "entry"] ["self", "entry"] (defScope s_Player_tune) := ⟨rfl, rfl, rfl, by decide +kernel, rfl, by decide +kernel, by decide +kernel⟩
theorem ok_Player_tune (T : Top K mg) : OkD P w K mg base d_Player_tune 2 ["self", "entry"] (sp_Player_tune K) := by
  refine okD (df_Player_tune T) sc_Player_tune (fun _ _ _ _ _ _ us hl => match us, hl with | [_, _], _ => rfl) ln_Player_tune (fun cdv A outer s H vs Q E hr h => ⟨_,
      pss_one (ps_ret (px_meth (ok_Queue_tune T) (hr.mono (by decide)) (pe_fld (pe_fld (pv 0) rfl) rfl) (cl_Queue T) (me_Queue_tune T) (fun σ => paD σ) (pa_cons (pv 1) pa_nil))), ?_⟩)
  obtain ⟨p, sh, e, S, R, rfl, hS, h1, h2⟩ := h
  obtain ⟨dx, o, v, so, pa, ro, hS⟩ := hS.opP
  obtain ⟨dx2, q, c, k, hS⟩ := (hS.own o).opO
  walk_at "wo"
  refine ⟨q, e, S.o.q, _, rfl, hS.own q, fun z hz H hS => ?_, fun no H hS => ?_⟩
  · have hS := Sep.clOA (K := K) (S.o) (o := o) (dx := dx2) (q := q) (c := c) (k := k) hS
    have hS := Sep.clPA (K := K) (S) (p := p) (sh := sh) (dx := dx) (o := o) (v := v) (so := so) (pa := pa) (ro := ro) hS
    exact h1 z hz _ (hS.of (by repeat (first | exact En.refl | exact En.nil | refine En.cons ?_ | refine En.drop ?_)))
  · have hS := Sep.clOA (K := K) (S.o) (o := o) (dx := dx2) (q := q) (c := c) (k := k) hS
    have hS := Sep.clPA (K := K) (S) (p := p) (sh := sh) (dx := dx) (o := o) (v := v) (so := so) (pa := pa) (ro := ro) hS
    exact h2 no _ (hS.of (by repeat (first | exact En.refl | exact En.nil | refine En.cons ?_ | refine En.drop ?_)))
def sp_Player_set_again (K : PySem.W.Frag) : Sp := fun vs H Q E => ∃ (p sh : Addr) (z : Str) (S : PL) (R : List As), vs = [.ref p, .str z] ∧ Sep (PlayerR K p sh S :: R) H ∧
  (okWord z → ∀ H', Sep (PlayerR K p sh { S with o := { S.o with ag := z } } :: R) H' → Q .non H') ∧ (¬ okWord z → ∀ H', Sep (PlayerR K p sh S :: R) H' → E (.ref (He.ga K "BadWord")) none H')
theorem ln_Player_set_again : ∀ vs H Q E, sp_Player_set_again K vs H Q E → vs.length = (["self", "word"] : List Str).length := by
  rintro _ _ _ _ ⟨p, sh, z, S, R, rfl, _⟩
  rfl
theorem sc_Player_set_again : FnScope ["self", "word"] ["self", "word"] (defScope s_Player_set_again) := ⟨rfl, rfl, rfl, by decide +kernel, rfl, by decide +kernel, by decide +kernel⟩
theorem ok_Player_set_again (T : Top K mg) : OkD P w K mg base d_Player_set_again 2 ["self", "word"] (sp_Player_set_again K) := by
  refine okD (df_Player_set_again T) sc_Player_set_again (fun _ _ _ _ _ _ us hl => match us, hl with | [_, _], _ => rfl) ln_Player_set_again (fun cdv A outer s H vs Q E hr h => ⟨_,
      pss_one (ps_expr (px_meth (ok_Order_set_again T) (hr.mono (by decide)) (pe_fld (pv 0) rfl) (cl_Order T) (me_Order_set_again T) (fun σ => paD σ) (pa_cons (pv 1) pa_nil))), ?_⟩)
  obtain ⟨p, sh, z, S, R, rfl, hS, h1, h2⟩ := h
  obtain ⟨dx, o, v, so, pa, ro, hS⟩ := hS.opP
  walk_at "wo"
  refine ⟨o, z, S.o, _, rfl, hS.own o, fun ok H hS => ?_, fun no H hS => ?_⟩
  · walk_at "w"
    have hS := Sep.clPA (K := K) ({ S with o := { S.o with ag := z } }) (p := p) (sh := sh) (dx := dx) (o := o) (v := v) (so := so) (pa := pa) (ro := ro) hS
    exact h1 ok _ (hS.of (by repeat (first | exact En.refl | exact En.nil | refine En.cons ?_ | refine En.drop ?_)))
  · have hS := Sep.clPA (K := K) (S) (p := p) (sh := sh) (dx := dx) (o := o) (v := v) (so := so) (pa := pa) (ro := ro) hS
    exact h2 no _ (hS.of (by repeat (first | exact En.refl | exact En.nil | refine En.cons ?_ | refine En.drop ?_)))
def sp_Player_set_mixed (K : PySem.W.Frag) : Sp := fun vs H Q E => ∃ (p sh : Addr) (b : Bool) (S : PL) (R : List As), vs = [.ref p, .bl b] ∧ S.o.Ok ∧ Sep (PlayerR K p sh S :: R) H ∧
  (∀ H', Sep (PlayerR K p sh { S with o := S.o.setMixed b S.now } :: R) H' → Q .non H')
theorem ln_Player_set_mixed : ∀ vs H Q E, sp_Player_set_mixed K vs H Q E → vs.length = (["self", "is_mixed"] : List Str).length := by
  rintro _ _ _ _ ⟨p, sh, b, S, R, rfl, _⟩
  rfl
end
end TR

set_option Elab.async false
set_option linter.all false
set_option maxRecDepth 100000
set_option maxHeartbeats 4000000
/-! .. -/

namespace TR
open PySem PySem.Spec PyProof.Rows L2
section
variable {P : Program} {w : World} {K : PySem.W.Frag} {mg : Str → Option Value} {base : Heap}
/-! players: what begins -/
def sp_Player_begin (K : PySem.W.Frag) : Sp := fun vs H Q E => ∃ (p sh : Addr) (e : Option Int) (j : Bool) (S : PL) (L : List (Str × Int)) (R : List As), vs = [.ref p, oV e, .bl j] ∧ S.o.Ok ∧ okT L S.o.q ∧ (j = true → ∃ m, S.now = some m ∧ S.o.q.ent m) ∧ S.rows.length ≤ 100000 ∧
  Sep (PlayerR K p sh S :: ShelfR K sh L :: R) H ∧ ∀ H', Sep (PlayerR K p sh (S.begin L e j) :: ShelfR K sh L :: R) H' → Q .non H'
theorem ln_Player_begin : ∀ vs H Q E, sp_Player_begin K vs H Q E → vs.length = (["self", "entry", "is_joined"] : List Str).length := by
  rintro _ _ _ _ ⟨p, sh, e, j, S, L, R, rfl, _⟩
  rfl
theorem sc_Player_begin : FnScope ["self", "entry", "is_joined"] ["self", "entry", "is_joined"] (defScope s_Player_begin) := ⟨rfl, rfl, rfl, by decide +kernel, rfl, by decide +kernel, by decide +kernel⟩
theorem ok_Player_begin (T : Top K mg) : OkD P w K mg base d_Player_begin 4 ["self", "entry", "is_joined"] (sp_Player_begin K) := by
  refine okD (df_Player_begin T) sc_Player_begin (fun _ _ _ _ _ _ us hl => match us, hl with | [_, _, _], _ => rfl) ln_Player_begin (fun cdv A outer s H vs Q E hr h => ⟨_,
      pss_cons (ps_fld (pv 0) (pe_ifExp (px_truth (pv 2) (by intro _; rfl)) (pe_tup (pa_cons (pe_fld (pv 0) rfl) (pa_cons (pe_fld (pv 0) rfl) (pa_cons (pe_op op_sub (px_meth (ok_Player_long T) (hr.mono (by decide)) (pv 0) (cl_Player T) (me_Player_long T) (fun σ => paD σ) (pa_cons (pe_fld (pv 0) rfl) pa_nil)) (pe_fld (pv 0) rfl)) pa_nil)))) pe_non) rfl)
      (pss_cons (ps_fld (pv 0) (pv 1) rfl)
      (pss_cons (ps_fld (pv 0) pe_int rfl)
      (pss_one (ps_if (pt_cmpR op_notN1 (pv 1) pe_non (nomark _))
       (pss_cons (ps_expr (px_meth (ok_Order_began T) (hr.mono (by decide)) (pe_fld (pv 0) rfl) (cl_Order T) (me_Order_began T) (fun σ => paD σ) (pa_cons (pv 1) pa_nil)))
        (pss_one (ps_expr (pe_bm PySem.F.plainAttrs_list PySem.F.slot_list_append PySem.F.type_list_append mt_append (pe_fld (pv 0) rfl) (pa_cons (pe_tup (pa_cons (pe_fld (pv 0) rfl) (pa_cons (pv 1) pa_nil))) pa_nil)))))
       (pss_nil))))), ?_⟩)
  obtain ⟨p, sh, e, j, S, L, R, rfl, ho, ht, hj, hr, hS, h1⟩ := h
  obtain ⟨dx, o, v, so, pa, ro, hS⟩ := hS.opP
  walk_at "w0"
  refine x_seqc (fun σ H => σ = [some (.ref p), some (oV e), some (.bl j)] ∧ ∃ dx o v so pa ro, Sep (pt p (.ins (He.ga K "Player") dx (nmPlayer.zip [.ref sh, .int S.ov, .ref o, .int S.tm, oV S.now, .int S.spot, v, .ref so, .ref pa, .ref ro, .bl S.pl, .bl S.st, oV S.sl])) ::
    OrderR K o S.o :: OldA v (if j = true then S.now.map (fun m => (m, S.spot, S.o.q.lg L m - S.spot)) else none) :: pt so (.lst (S.soon.map V.int)) :: pt pa (.lst (S.past.map V.int)) :: RowsR ro (rw2 S.rows) :: ShelfR K sh L :: R) H) (fun N hN => ?_) ?_
  · walk_at "w"
    refine y_goE ?_
    cases j with
    | true =>
      obtain ⟨m, hm, hme⟩ := hj rfl
      walk_at "v"
      have hS := Sep.clPA (K := K) (S) (p := p) (sh := sh) (dx := dx) (o := o) (v := v) (so := so) (pa := pa) (ro := ro) hS
      rw [hm]
      refine ⟨p, sh, m, S, L, _, rfl, ht, hme, (hS.of (by repeat (first | exact En.refl | exact En.nil | refine En.cons ?_ | refine En.drop ?_))), fun H hS => ?_⟩
      obtain ⟨dx, o, v, so, pa, ro, hS⟩ := hS.opP
      walk_at "v"
      have hS := Sep.oldA (u := u) (a := m) (b := S.spot) (c := S.o.q.lg L m - S.spot) hS
      rw [show S.now.map (fun m => (m, S.spot, S.o.q.lg L m - S.spot)) = some (m, S.spot, S.o.q.lg L m - S.spot) by rw [hm] <;> rfl] at hN
      exact hN _ _ ⟨rfl, dx, o, .ref u, so, pa, ro, by rw [if_pos rfl]; exact (hS.of (by repeat (first | exact En.refl | exact En.nil | refine En.cons ?_ | refine En.drop ?_)))⟩
    | false =>
      walk_at "v"
      have hS := old_mk0 hS
      exact hN _ _ ⟨rfl, dx, o, .non, so, pa, ro, by rw [if_neg (fun h => by cases h)]; exact (hS.of (by repeat (first | exact En.refl | exact En.nil | refine En.cons ?_ | refine En.drop ?_)))⟩
  · rintro σ H ⟨rfl, dx, o, v, so, pa, ro, hS⟩
    walk_at "w"
    cases e with
    | none =>
      walk_at "v"
      have hS := Sep.clPA (K := K) (⟨S.ov, S.o, S.tm, none, 0, if j = true then S.now.map (fun m => (m, S.spot, S.o.q.lg L m - S.spot)) else none, S.soon, S.past, S.rows, S.pl, S.st, S.sl⟩) (p := p) (sh := sh) (dx := dx) (o := o) (v := v) (so := so) (pa := pa) (ro := ro) hS
      exact h1 _ (hS.of (by repeat (first | exact En.refl | exact En.nil | refine En.cons ?_ | refine En.drop ?_)))
    | some x =>
      walk_at "v"
      refine ⟨o, x, S.o, _, rfl, ho, hS.own o, fun H hS => ?_⟩
      walk_at "v"
      obtain ⟨ps, hS⟩ := (hS.own ro).opR
      have hpl := tupA_len (ro := ro) (ps := ps) (rs := rw2 S.rows) hS
      rw [rw2_len] at hpl
      refine y_bml (sqL hS) ?_
      walk_at "v"
      refine x_append hS (by rw [List.length_map]; exact sz (by omega)) fun H hS => ?_
      walk_at "v"
      have hS := Sep.rowsA (ro := ro) (u := u) (ps := ps) (rows := S.rows) (a := S.tm) (b := x) hS
      have hS := Sep.clPA (K := K) (⟨S.ov, S.o.began x, S.tm, some x, 0, if j = true then S.now.map (fun m => (m, S.spot, S.o.q.lg L m - S.spot)) else none, S.soon, S.past, S.rows ++ [(S.tm, x)], S.pl, S.st, S.sl⟩) (p := p) (sh := sh) (dx := dx) (o := o) (v := v) (so := so) (pa := pa) (ro := ro) hS
      exact h1 _ (hS.of (by repeat (first | exact En.refl | exact En.nil | refine En.cons ?_ | refine En.drop ?_)))
theorem x_popL {H : Hp} {Q : VK} {p : Addr} {L R : List As} {ys : List Int} {y : Int} (hS : Sep L H) [a : At p L (.lst ((ys ++ [y]).map V.int)) R] (q : ∀ H', Sep (pt p (.lst (ys.map V.int)) :: R) H' → Q (.int y) H') : rPop (.ref p) [] H Q := by
  refine ⟨p, (ys ++ [y]).map V.int, .int y, rfl, rfl, hS.at_, ?_, ?_⟩
  · rw [List.map_append, List.length_append, List.length_map]
    simp
  · have e : ((ys ++ [y]).map V.int).dropLast = ys.map V.int := by rw [List.map_append]; simp
    rw [e]
    exact q _ (Sep.put (o := .lst ((ys ++ [y]).map V.int)) (fun z => z) (a.en H hS))
def sp_Player_play (K : PySem.W.Frag) : Sp := fun vs H Q E => ∃ (p sh : Addr) (e : Int) (S : PL) (L : List (Str × Int)) (c n : Nat) (R : List As), vs = [.ref p, .int e] ∧ S.Ok L c n ∧ n ≤ 100000 ∧ Sep (PlayerR K p sh S :: ShelfR K sh L :: R) H ∧
  (e ∈ S.o.q.turn → ∀ H', Sep (PlayerR K p sh (S.play L e) :: ShelfR K sh L :: R) H' → Q .non H') ∧ (e ∉ S.o.q.turn → ∀ H', Sep (PlayerR K p sh S :: ShelfR K sh L :: R) H' → E (.ref (He.ga K "BadEntry")) none H')
theorem ln_Player_play : ∀ vs H Q E, sp_Player_play K vs H Q E → vs.length = (["self", "entry"] : List Str).length := by
  rintro _ _ _ _ ⟨p, sh, e, S, L, c, n, R, rfl, _⟩
  rfl
theorem sc_Player_play : FnScope ["self", "entry"] ["self", "entry"] (defScope s_Player_play) := ⟨rfl, rfl, rfl, by decide +kernel, rfl, by decide +kernel, by decide +kernel⟩
theorem ok_Player_play (T : Top K mg) : OkD P w K mg base d_Player_play 5 ["self", "entry"] (sp_Player_play K) := by
  refine okD (df_Player_play T) sc_Player_play (fun _ _ _ _ _ _ us hl => match us, hl with | [_, _], _ => rfl) ln_Player_play (fun cdv A outer s H vs Q E hr h => ⟨_,
      pss_cons (ps_expr (px_meth (ok_Queue_need T) (hr.mono (by decide)) (pe_fld (pe_fld (pv 0) rfl) rfl) (cl_Queue T) (me_Queue_need T) (fun σ => paD σ) (pa_cons (pv 1) pa_nil)))
      (pss_cons (ps_if (pt_cmpR op_notN1 (pe_fld (pv 0) rfl) pe_non (nomark _))
       (pss_one (ps_expr (pe_bm PySem.F.plainAttrs_list PySem.F.slot_list_append PySem.F.type_list_append mt_append (pe_fld (pv 0) rfl) (pa_cons (pe_fld (pv 0) rfl) pa_nil))))
       (pss_nil))
      (pss_cons (ps_expr (px_meth (ok_Player_begin T) (hr.mono (by decide)) (pv 0) (cl_Player T) (me_Player_begin T) (fun σ => paD σ) (pa_cons (pv 1) (pa_cons pe_bl pa_nil))))
      (pss_one (ps_fld (pv 0) pe_bl rfl)))), ?_⟩)
  obtain ⟨p, sh, e, S, L, c, n, R, rfl, ok, hn, hS, h1, h2⟩ := h
  have hz := ok.sz
  obtain ⟨dx, o, v, so, pa, ro, hS⟩ := hS.opP
  obtain ⟨dx2, q, c, k, hS⟩ := (hS.own o).opO
  walk_at "wo"
  refine ⟨q, e, S.o.q, _, rfl, hS.own q, fun he H hS => ?_, fun he H hS => ?_⟩
  · have hS := Sep.clOA (K := K) (S.o) (o := o) (dx := dx2) (q := q) (c := c) (k := k) hS
    walk_at "w"
    refine y_cut (fun σ H => σ = [some (.ref p), some (.int e)] ∧ Sep (PlayerR K p sh S.leave :: ShelfR K sh L :: R) H) (fun N hN => ?_) ?_
    · walk_at "v"
      cases hm : S.now with
      | none =>
        walk_at "v"
        have hS := Sep.clPA (K := K) (S) (p := p) (sh := sh) (dx := dx) (o := o) (v := v) (so := so) (pa := pa) (ro := ro) hS
        exact hN _ _ ⟨rfl, by rw [leave_none hm]; exact (hS.of (by repeat (first | exact En.refl | exact En.nil | refine En.cons ?_ | refine En.drop ?_)))⟩
      | some m =>
        walk_at "v"
        refine y_bml (sqL hS) ?_
        walk_at "v"
        rw [hm]
        refine x_append hS (by rw [List.length_map]; exact sz (by omega)) fun H hS => ?_
        rw [show S.past.map V.int ++ [oV (some m)] = (S.past ++ [m]).map V.int by rw [List.map_append] <;> rfl] at hS
        walk_at "v"
        have hS := Sep.clPA (K := K) ({ S with past := S.past ++ [m] }) (p := p) (sh := sh) (dx := dx) (o := o) (v := v) (so := so) (pa := pa) (ro := ro) hS
        exact hN _ _ ⟨rfl, by rw [leave_some hm]; exact (hS.of (by repeat (first | exact En.refl | exact En.nil | refine En.cons ?_ | refine En.drop ?_)))⟩
    · rintro σ H ⟨rfl, hS⟩
      have okl := ok.leave
      walk_at "w"
      refine ⟨p, sh, some e, false, S.leave, L, _, rfl, okl.o, okl.t, (fun h => by cases h), by show S.rows.length ≤ _; omega, hS, fun H hS => ?_⟩
      obtain ⟨dx, o, v, so, pa, ro, hS⟩ := hS.opP
      walk_at "w"
      have hS := Sep.clPA (K := K) { S.leave.begin L (some e) false with pl := true } (p := p) (sh := sh) (dx := dx) (o := o) (v := v) (so := so) (pa := pa) (ro := ro) hS
      exact h1 he _ hS
  · have hS := Sep.clOA (K := K) (S.o) (o := o) (dx := dx2) (q := q) (c := c) (k := k) hS
    have hS := Sep.clPA (K := K) (S) (p := p) (sh := sh) (dx := dx) (o := o) (v := v) (so := so) (pa := pa) (ro := ro) hS
    exact h2 he _ (hS.of (by repeat (first | exact En.refl | exact En.nil | refine En.cons ?_ | refine En.drop ?_)))
def sp_Player_next_entry (K : PySem.W.Frag) : Sp := fun vs H Q E => ∃ (p sh : Addr) (l : Bool) (S : PL) (R : List As), vs = [.ref p, .bl l] ∧ S.o.Ok ∧ Sep (PlayerR K p sh S :: R) H ∧ ∀ H', Sep (PlayerR K p sh (S.next l).1 :: R) H' → Q (oV (S.next l).2) H'
theorem ln_Player_next_entry : ∀ vs H Q E, sp_Player_next_entry K vs H Q E → vs.length = (["self", "is_left"] : List Str).length := by
  rintro _ _ _ _ ⟨p, sh, l, S, R, rfl, _⟩
  rfl
theorem sc_Player_next_entry : FnScope ["self", "is_left"] ["self", "is_left"] (defScope s_Player_next_entry) := ⟨rfl, rfl, rfl, by decide +kernel, rfl, by decide +kernel, by decide +kernel⟩
theorem ok_Player_next_entry (T : Top K mg) : OkD P w K mg base d_Player_next_entry 6 ["self", "is_left"] (sp_Player_next_entry K) := by
  refine okD (df_Player_next_entry T) sc_Player_next_entry (fun _ _ _ _ _ _ us hl => match us, hl with | [_, _], _ => rfl) ln_Player_next_entry (fun cdv A outer s H vs Q E hr h => ⟨_,
      pss_cons (ps_if (px_truth (pe_fld (pv 0) rfl) (by intro _; rfl))
       (pss_one (ps_ret (pe_bm PySem.F.plainAttrs_list PySem.F.slot_list_pop PySem.F.type_list_pop mt_popAt (pe_fld (pv 0) rfl) (pa_cons pe_int pa_nil))))
       (pss_nil))
      (pss_one (ps_ret (pe_ifExp (px_truth (pv 1) (by intro _; rfl)) (px_meth (ok_Order_skip T) (hr.mono (by decide)) (pe_fld (pv 0) rfl) (cl_Order T) (me_Order_skip T) (fun σ => paD σ) (pa_cons (pe_fld (pv 0) rfl) pa_nil)) (px_meth (ok_Order_after T) (hr.mono (by decide)) (pe_fld (pv 0) rfl) (cl_Order T) (me_Order_after T) (fun σ => paD σ) (pa_cons (pe_fld (pv 0) rfl) pa_nil))))), ?_⟩)
  obtain ⟨p, sh, l, S, R, rfl, ho, hS, h1⟩ := h
  obtain ⟨dx, o, v, so, pa, ro, hS⟩ := hS.opP
  walk_at "go"
  refine y_trul (sqL hS) ?_
  cases hs : S.soon with
  | cons x r =>
    rw [next_cons hs] at h1
    rw [hs] at hS
    walk_at "v"
    refine y_bml (sqL hS) ?_
    walk_at "v"
    refine x_pop0 hS fun H hS => ?_
    have hS := Sep.clPA (K := K) ({ S with soon := r }) (p := p) (sh := sh) (dx := dx) (o := o) (v := v) (so := so) (pa := pa) (ro := ro) hS
    exact h1 _ hS
  | nil =>
    rw [next_nil hs] at h1
    rw [hs] at hS
    walk_at "v"
    rw [← hs] at hS
    unfold PL.nx at h1
    cases l with
    | true =>
      rw [if_pos rfl] at h1
      walk_at "v"
      refine ⟨o, S.now, S.o, _, rfl, ho, hS.own o, fun H hS => ?_⟩
      have hS := Sep.clPA (K := K) ({ S with o := (S.o.skip S.now).1 }) (p := p) (sh := sh) (dx := dx) (o := o) (v := v) (so := so) (pa := pa) (ro := ro) hS
      exact h1 _ hS
    | false =>
      rw [if_neg (fun h => by cases h)] at h1
      walk_at "v"
      refine ⟨o, S.now, S.o, _, rfl, ho, hS.own o, fun H hS => ?_⟩
      have hS := Sep.clPA (K := K) ({ S with o := (S.o.after S.now).1 }) (p := p) (sh := sh) (dx := dx) (o := o) (v := v) (so := so) (pa := pa) (ro := ro) hS
      exact h1 _ hS
def sp_Player_resume (K : PySem.W.Frag) : Sp := fun vs H Q E => ∃ (p sh : Addr) (S : PL) (L : List (Str × Int)) (c n : Nat) (R : List As), vs = [.ref p] ∧ S.Ok L c n ∧ n ≤ 100000 ∧ Sep (PlayerR K p sh S :: ShelfR K sh L :: R) H ∧
  ∀ H', Sep (PlayerR K p sh (S.resume L) :: ShelfR K sh L :: R) H' → Q .non H'
theorem ln_Player_resume : ∀ vs H Q E, sp_Player_resume K vs H Q E → vs.length = (["self"] : List Str).length := by
  rintro _ _ _ _ ⟨p, sh, S, L, c, n, R, rfl, _⟩
  rfl
theorem sc_Player_resume : FnScope ["self", "found"] ["self"] (defScope s_Player_resume) := ⟨rfl, rfl, rfl, by decide +kernel, rfl, by decide +kernel, by decide +kernel⟩
theorem ok_Player_resume (T : Top K mg) : OkD P w K mg base d_Player_resume 5 ["self"] (sp_Player_resume K) := by
  refine okD (df_Player_resume T) sc_Player_resume (fun _ _ _ _ _ _ us hl => match us, hl with | [_], _ => rfl) ln_Player_resume (fun cdv A outer s H vs Q E hr h => ⟨_,
      pss_cons (ps_if (pt_cmpR op_isN1 (pe_fld (pv 0) rfl) pe_non (nomark _))
       (pss_cons (ps_set (i := 1) sc_Player_resume.nd rfl (Or.inl rfl) (pe_ifExp (px_truth (pe_fld (pv 0) rfl) (by intro _; rfl)) (pe_bm PySem.F.plainAttrs_list PySem.F.slot_list_pop PySem.F.type_list_pop mt_popAt (pe_fld (pv 0) rfl) (pa_cons pe_int pa_nil)) (px_meth0 (ok_Order_first T) (hr.mono (by decide)) (pe_fld (pv 0) rfl) (cl_Order T) (me_Order_first T) (fun σ => paD σ))))
        (pss_one (ps_if (pt_cmpR op_notN1 (pv 1) pe_non (nomark _))
         (pss_one (ps_expr (px_meth (ok_Player_begin T) (hr.mono (by decide)) (pv 0) (cl_Player T) (me_Player_begin T) (fun σ => paD σ) (pa_cons (pv 1) (pa_cons pe_bl pa_nil)))))
         (pss_nil))))
       (pss_nil))
      (pss_one (ps_fld (pv 0) (pe_cmpR op_notN1 (pe_fld (pv 0) rfl) pe_non (nomark _)) rfl)), ?_⟩)
  obtain ⟨p, sh, S, L, c, n, R, rfl, ok, hn, hS, h1⟩ := h
  have hz := ok.sz
  walk_at "wo"
  refine y_cut (fun σ H => (∃ b, σ = [some (.ref p), b]) ∧ Sep (PlayerR K p sh (S.resume0 L) :: ShelfR K sh L :: R) H) (fun N hN => ?_) ?_
  · obtain ⟨dx, o, v, so, pa, ro, hS⟩ := hS.opP
    walk_at "v"
    cases hm : S.now with
    | some m =>
      have e : S.resume0 L = S := by unfold PL.resume0; rw [hm] <;> rfl
      rw [e] at hN
      walk_at "v"
      have hS := Sep.clPA (K := K) (S) (p := p) (sh := sh) (dx := dx) (o := o) (v := v) (so := so) (pa := pa) (ro := ro) hS
      exact hN _ _ ⟨⟨_, rfl⟩, hS⟩
    | none =>
      have e : S.resume0 L = match S.open.2 with
        | some x => S.open.1.begin L (some x) false
        | none => S.open.1 := by
        unfold PL.resume0
        rw [hm] <;> rfl
      rw [e] at hN
      walk_at "w"
      refine y_cutE (fun v H => v = oV S.open.2 ∧ Sep (PlayerR K p sh S.open.1 :: ShelfR K sh L :: R) H) (fun N2 hN2 => ?_) ?_
      · walk_at "v"
        refine y_trul (sqL hS) ?_
        cases hs : S.soon with
        | cons x r =>
          rw [open_cons hs] at hN2
          rw [hs] at hS
          walk_at "v"
          refine y_bml (sqL hS) ?_
          walk_at "v"
          refine x_pop0 hS fun H hS => ?_
          have hS := Sep.clPA (K := K) ({ S with soon := r }) (p := p) (sh := sh) (dx := dx) (o := o) (v := v) (so := so) (pa := pa) (ro := ro) hS
          exact hN2 _ _ ⟨rfl, hS⟩
        | nil =>
          rw [open_nil hs] at hN2
          walk_at "v"
          refine ⟨o, S.o, _, rfl, ok.o, hS.own o, fun H hS => ?_⟩
          have hS := Sep.clPA (K := K) ({ S with o := S.o.first.1 }) (p := p) (sh := sh) (dx := dx) (o := o) (v := v) (so := so) (pa := pa) (ro := ro) hS
          exact hN2 _ _ ⟨rfl, hS⟩
      · rintro _ H ⟨rfl, hS⟩
        have oko := ok.open
        have hzo := oko.sz
        walk_at "v"
        cases hf : S.open.2 with
        | none =>
          rw [hf] at hN
          walk_at "v"
          exact hN _ _ ⟨⟨_, rfl⟩, hS⟩
        | some x =>
          rw [hf] at hN
          walk_at "v"
          refine ⟨p, sh, some x, false, S.open.1, L, _, rfl, oko.o, oko.t, (fun h => by cases h), by omega, hS, fun H hS => ?_⟩
          walk_at "v"
          exact hN _ _ ⟨⟨_, rfl⟩, hS⟩
  · rintro σ H ⟨⟨b, rfl⟩, hS⟩
    obtain ⟨dx, o, v, so, pa, ro, hS⟩ := hS.opP
    walk_at "w"
    rw [show (!decide (oV (S.resume0 L).now = V.non)) = (S.resume0 L).now.isSome by cases (S.resume0 L).now <;> rfl] at hS
    have hS := Sep.clPA (K := K) { S.resume0 L with pl := (S.resume0 L).now.isSome } (p := p) (sh := sh) (dx := dx) (o := o) (v := v) (so := so) (pa := pa) (ro := ro) hS
    exact h1 _ hS

end
end TR

set_option Elab.async false
set_option linter.all false
set_option maxRecDepth 100000
set_option maxHeartbeats 4000000
/-! .. -/

namespace TR
open PySem PySem.Spec PyProof.Rows L2
section
variable {P : Program} {w : World} {K : PySem.W.Frag} {mg : Str → Option Value} {base : Heap}
/-! players: left, back, elsewhere -/
def sp_Player_skip (K : PySem.W.Frag) : Sp := fun vs H Q E => ∃ (p sh : Addr) (S : PL) (L : List (Str × Int)) (c n : Nat) (R : List As), vs = [.ref p] ∧ S.Ok L c n ∧ n ≤ 100000 ∧ Sep (PlayerR K p sh S :: ShelfR K sh L :: R) H ∧
  ∀ H', Sep (PlayerR K p sh (S.skip L) :: ShelfR K sh L :: R) H' → Q .non H'
theorem ln_Player_skip : ∀ vs H Q E, sp_Player_skip K vs H Q E → vs.length = (["self"] : List Str).length := by
  rintro _ _ _ _ ⟨p, sh, S, L, c, n, R, rfl, _⟩
  rfl
theorem sc_Player_skip : FnScope ["self", "found"] ["self"] (defScope s_Player_skip) := ⟨rfl, rfl, rfl, by decide +kernel, rfl, by decide +kernel, by decide +kernel⟩
theorem ok_Player_skip (T : Top K mg) : OkD P w K mg base d_Player_skip 7 ["self"] (sp_Player_skip K) := by
  refine okD (df_Player_skip T) sc_Player_skip (fun _ _ _ _ _ _ us hl => match us, hl with | [_], _ => rfl) ln_Player_skip (fun cdv A outer s H vs Q E hr h => ⟨_,
      pss_cons (ps_set (i := 1) sc_Player_skip.nd rfl (Or.inl rfl) (px_meth (ok_Player_next_entry T) (hr.mono (by decide)) (pv 0) (cl_Player T) (me_Player_next_entry T) (fun σ => paD σ) (pa_cons pe_bl pa_nil)))
      (pss_cons (ps_if (pt_cmpR op_notN1 (pe_fld (pv 0) rfl) pe_non (nomark _))
       (pss_one (ps_expr (pe_bm PySem.F.plainAttrs_list PySem.F.slot_list_append PySem.F.type_list_append mt_append (pe_fld (pv 0) rfl) (pa_cons (pe_fld (pv 0) rfl) pa_nil))))
       (pss_nil))
      (pss_cons (ps_expr (px_meth (ok_Player_begin T) (hr.mono (by decide)) (pv 0) (cl_Player T) (me_Player_begin T) (fun σ => paD σ) (pa_cons (pv 1) (pa_cons pe_bl pa_nil))))
      (pss_one (ps_fld (pv 0) (pe_and (pe_fld (pv 0) rfl) (pe_one (pe_cmpR op_notN1 (pv 1) pe_non (nomark _)))) rfl)))), ?_⟩)
  obtain ⟨p, sh, S, L, cc, n, R, rfl, ok, hn, hS, h1⟩ := h
  walk_at "wo"
  refine ⟨p, sh, true, S, _, rfl, ok.o, hS, fun H hS => ?_⟩
  have okn := ok.next true
  have hzn := okn.sz
  obtain ⟨T, hT⟩ : ∃ T, T = (S.next true).1 := ⟨_, rfl⟩
  obtain ⟨f, hf⟩ : ∃ f, f = (S.next true).2 := ⟨_, rfl⟩
  have hmem : ∀ x, f = some x → T.o.q.ent x := fun x hx => by
    rw [hT, S.next_q]
    exact ok.o.ent (ok.next_mem (hf.symm.trans hx))
  have e0 : S.skip L = { T.leave.begin L f false with pl := (T.leave.begin L f false).pl && f.isSome } := by rw [hT, hf] <;> rfl
  rw [e0] at h1
  rw [← hT] at okn hzn hS
  rw [← hf]
  walk_at "w"
  refine y_cut (fun σ H => σ = [some (.ref p), some (oV f)] ∧ Sep (PlayerR K p sh T.leave :: ShelfR K sh L :: R) H) (fun N hN => ?_) ?_
  · obtain ⟨dx, o, v, so, pa, ro, hS⟩ := hS.opP
    walk_at "v"
    cases hm : T.now with
    | none =>
      walk_at "v"
      have hS := Sep.clPA (K := K) (T) (p := p) (sh := sh) (dx := dx) (o := o) (v := v) (so := so) (pa := pa) (ro := ro) hS
      exact hN _ _ ⟨rfl, by rw [leave_none hm]; exact (hS.of (by repeat (first | exact En.refl | exact En.nil | refine En.cons ?_ | refine En.drop ?_)))⟩
    | some m =>
      walk_at "v"
      refine y_bml (sqL hS) ?_
      walk_at "v"
      rw [hm]
      refine x_append hS (by rw [List.length_map]; exact sz (by omega)) fun H hS => ?_
      rw [show T.past.map V.int ++ [oV (some m)] = (T.past ++ [m]).map V.int by rw [List.map_append] <;> rfl] at hS
      walk_at "v"
      have hS := Sep.clPA (K := K) ({ T with past := T.past ++ [m] }) (p := p) (sh := sh) (dx := dx) (o := o) (v := v) (so := so) (pa := pa) (ro := ro) hS
      exact hN _ _ ⟨rfl, by rw [leave_some hm]; exact (hS.of (by repeat (first | exact En.refl | exact En.nil | refine En.cons ?_ | refine En.drop ?_)))⟩
  · rintro σ H ⟨rfl, hS⟩
    have okl := okn.leave
    walk_at "w"
    refine ⟨p, sh, f, false, T.leave, L, _, rfl, okl.o, okl.t, (fun h => by cases h), by show T.rows.length ≤ _; omega, hS, fun H hS => ?_⟩
    obtain ⟨U, hU⟩ : ∃ U, U = T.leave.begin L f false := ⟨_, rfl⟩
    rw [← hU] at hS h1
    obtain ⟨dx, o, v, so, pa, ro, hS⟩ := hS.opP
    walk_at "w"
    refine x_bool (fun hp => ?_) (fun hp => ?_)
    · rw [hp] at h1
      walk_at "v"
      rw [show (!decide (oV f = V.non)) = f.isSome by cases f <;> rfl] at hS
      have hS := Sep.clPA (K := K) { U with pl := f.isSome } (p := p) (sh := sh) (dx := dx) (o := o) (v := v) (so := so) (pa := pa) (ro := ro) hS
      exact h1 _ hS
    · rw [hp] at h1
      walk_at "v"
      have hS := Sep.clPA (K := K) { U with pl := false } (p := p) (sh := sh) (dx := dx) (o := o) (v := v) (so := so) (pa := pa) (ro := ro) hS
      exact h1 _ hS
def PL.seek (S : PL) (k : Int) : PL := { S with spot := k, old := none }
def sp_Player_seek (K : PySem.W.Frag) : Sp := fun vs H Q E => ∃ (p sh : Addr) (k : Int) (S : PL) (L : List (Str × Int)) (c n : Nat) (R : List As), vs = [.ref p, .int k] ∧ S.Ok L c n ∧ Sep (PlayerR K p sh S :: ShelfR K sh L :: R) H ∧
  (S.now = none → ∀ H', Sep (PlayerR K p sh S :: ShelfR K sh L :: R) H' → E (.ref (He.ga K "BadEntry")) none H') ∧
  (∀ m, S.now = some m → (0 ≤ k ∧ k < S.o.q.lg L m → ∀ H', Sep (PlayerR K p sh (S.seek k) :: ShelfR K sh L :: R) H' → Q .non H') ∧ (¬ (0 ≤ k ∧ k < S.o.q.lg L m) → ∀ H', Sep (PlayerR K p sh S :: ShelfR K sh L :: R) H' → E (.ref (He.ga K "BadNumber")) none H'))
theorem ln_Player_seek : ∀ vs H Q E, sp_Player_seek K vs H Q E → vs.length = (["self", "spot"] : List Str).length := by
  rintro _ _ _ _ ⟨p, sh, k, S, L, c, n, R, rfl, _⟩
  rfl
theorem sc_Player_seek : FnScope ["self", "spot"] ["self", "spot"] (defScope s_Player_seek) := ⟨rfl, rfl, rfl, by decide +kernel, rfl, by decide +kernel, by decide +kernel⟩
theorem ok_Player_seek (T : Top K mg) : OkD P w K mg base d_Player_seek 4 ["self", "spot"] (sp_Player_seek K) := by
  refine okD (df_Player_seek T) sc_Player_seek (fun _ _ _ _ _ _ us hl => match us, hl with | [_, _], _ => rfl) ln_Player_seek (fun cdv A outer s H vs Q E hr h => ⟨_,
      pss_cons (ps_if (pt_cmpR op_isN1 (pe_fld (pv 0) rfl) pe_non (nomark _))
       (pss_one (px_raise rfl tkD rfl (gl_BadEntry T) (xc_BadEntry T)))
       (pss_nil))
      (pss_cons (ps_if (pt_not (pt_chain op_le op_lt pe_int (pv 1) (px_meth (ok_Player_long T) (hr.mono (by decide)) (pv 0) (cl_Player T) (me_Player_long T) (fun σ => paD σ) (pa_cons (pe_fld (pv 0) rfl) pa_nil))))
       (pss_one (px_raise rfl tkD rfl (gl_BadNumber T) (xc_BadNumber T)))
       (pss_nil))
      (pss_cons (ps_fld (pv 0) (pv 1) rfl)
      (pss_one (ps_fld (pv 0) pe_non rfl)))), ?_⟩)
  obtain ⟨p, sh, k, S, L, c, n, R, rfl, ok, hS, h1, h2⟩ := h
  obtain ⟨dx, o, v, so, pa, ro, hS⟩ := hS.opP
  walk_at "go"
  cases hm : S.now with
  | none =>
    walk_at "v"
    have hS := Sep.clPA (K := K) (S) (p := p) (sh := sh) (dx := dx) (o := o) (v := v) (so := so) (pa := pa) (ro := ro) hS
    exact h1 hm _ hS
  | some m =>
    obtain ⟨h3, h4⟩ := h2 m hm
    have hme := ok.now m hm
    walk_at "v"
    refine x_dec (fun hA => ?_) (fun hA => ?_)
    · walk_at "v"
      have hS := Sep.clPA (K := K) (S) (p := p) (sh := sh) (dx := dx) (o := o) (v := v) (so := so) (pa := pa) (ro := ro) hS
      rw [hm]
      refine ⟨p, sh, m, S, L, _, rfl, ok.t, hme, hS, fun H hS => ?_⟩
      walk_at "v"
      refine x_ndec (fun hB => ?_) (fun hB => ?_)
      · walk_at "v"
        exact h4 (fun z => hB z.2) _ hS
      · obtain ⟨dx, o, v, so, pa, ro, hS⟩ := hS.opP
        walk_at "v"
        have hS := old_mk0 hS
        have hS := Sep.clPA (K := K) ({ S with spot := k, old := none }) (p := p) (sh := sh) (dx := dx) (o := o) (v := .non) (so := so) (pa := pa) (ro := ro) hS
        have hS : Sep (PlayerR K p sh (S.seek k) :: _) H := hS
        exact h3 ⟨hA, hB⟩ _ (hS.of (by repeat (first | exact En.refl | exact En.nil | refine En.cons ?_ | refine En.drop ?_)))
    · walk_at "v"
      have hS := Sep.clPA (K := K) (S) (p := p) (sh := sh) (dx := dx) (o := o) (v := v) (so := so) (pa := pa) (ro := ro) hS
      exact h4 (fun z => hA z.1) _ hS
def sp_Player_stop_behind (K : PySem.W.Frag) : Sp := fun vs H Q E => ∃ (p sh : Addr) (b : Bool) (S : PL) (R : List As), vs = [.ref p, .bl b] ∧ Sep (PlayerR K p sh S :: R) H ∧ ∀ H', Sep (PlayerR K p sh { S with st := b } :: R) H' → Q .non H'
theorem ln_Player_stop_behind : ∀ vs H Q E, sp_Player_stop_behind K vs H Q E → vs.length = (["self", "is_so"] : List Str).length := by
  rintro _ _ _ _ ⟨p, sh, b, S, R, rfl, _⟩
  rfl
def sp_Player_pause (K : PySem.W.Frag) : Sp := fun vs H Q E => ∃ (p sh : Addr) (S : PL) (R : List As), vs = [.ref p] ∧ Sep (PlayerR K p sh S :: R) H ∧ ∀ H', Sep (PlayerR K p sh { S with pl := false } :: R) H' → Q .non H'
theorem ln_Player_pause : ∀ vs H Q E, sp_Player_pause K vs H Q E → vs.length = (["self"] : List Str).length := by
  rintro _ _ _ _ ⟨p, sh, S, R, rfl, _⟩
  rfl
def okSl (k : Option Int) : Prop := ∀ i, k = some i → 1 ≤ i ∧ i ≤ 60
def sp_Player_sleep (K : PySem.W.Frag) : Sp := fun vs H Q E => ∃ (p sh : Addr) (k : Option Int) (S : PL) (R : List As), vs = [.ref p, oV k] ∧ Sep (PlayerR K p sh S :: R) H ∧
  (okSl k → ∀ H', Sep (PlayerR K p sh { S with sl := k } :: R) H' → Q .non H') ∧ (¬ okSl k → ∀ H', Sep (PlayerR K p sh S :: R) H' → E (.ref (He.ga K "BadNumber")) none H')
theorem ln_Player_sleep : ∀ vs H Q E, sp_Player_sleep K vs H Q E → vs.length = (["self", "many"] : List Str).length := by
  rintro _ _ _ _ ⟨p, sh, k, S, R, rfl, _⟩
  rfl
end
end TR

set_option Elab.async false
set_option linter.all false
set_option maxRecDepth 100000
set_option maxHeartbeats 4000000
/-! .. -/

namespace TR
open PySem PySem.Spec PyProof.Rows L2
section
variable {P : Program} {w : World} {K : PySem.W.Frag} {mg : Str → Option Value} {base : Heap}
/-! players: back, twins, ticks -/
def sp_Player_back (K : PySem.W.Frag) : Sp := fun vs H Q E => ∃ (p sh : Addr) (S : PL) (L : List (Str × Int)) (c n : Nat) (R : List As), vs = [.ref p] ∧ S.Ok L c n ∧ n ≤ 100000 ∧ Sep (PlayerR K p sh S :: ShelfR K sh L :: R) H ∧
  ∀ H', Sep (PlayerR K p sh (S.back L) :: ShelfR K sh L :: R) H' → Q .non H'
theorem ln_Player_back : ∀ vs H Q E, sp_Player_back K vs H Q E → vs.length = (["self"] : List Str).length := by
  rintro _ _ _ _ ⟨p, sh, S, L, c, n, R, rfl, _⟩
  rfl
theorem atI_endA {ys : List Int} {y : Int} : atI ((ys ++ [y]).map V.int) (-1) = some (.int y) := by
  have e : ixN ((ys ++ [y]).map V.int).length (-1) = some ys.length := by
    unfold ixN
    rw [List.length_map, List.length_append, List.length_singleton, if_neg (by decide), if_pos (by omega)]
    congr 1
    omega
  unfold atI
  rw [e]
  show ((ys ++ [y]).map V.int)[ys.length]? = _
  rw [List.getElem?_map, List.getElem?_append_right (Nat.le_refl _), Nat.sub_self]
  rfl
end
end TR

set_option Elab.async false
set_option linter.all false
set_option maxRecDepth 100000
set_option maxHeartbeats 4000000
/-! .. -/

namespace TR
open PySem PySem.Spec PyProof.Rows L2
section
variable {P : Program} {w : World} {K : PySem.W.Frag} {mg : Str → Option Value} {base : Heap}
/-! players: twins, ticks -/
def sp_Player_twin (K : PySem.W.Frag) : Sp := fun vs H Q E => ∃ (p sh : Addr) (S : PL) (R : List As), vs = [.ref p] ∧ S.o.Ok ∧ okOv S.ov ∧ Sep (PlayerR K p sh S :: R) H ∧
  ∀ f H', Sep (PlayerR K f sh S :: PlayerR K p sh S :: R) H' → Q (.ref f) H'
theorem ln_Player_twin : ∀ vs H Q E, sp_Player_twin K vs H Q E → vs.length = (["self"] : List Str).length := by
  rintro _ _ _ _ ⟨p, sh, S, R, rfl, _⟩
  rfl
theorem sc_Player_twin : FnScope ["self", "found"] ["self"] (defScope s_Player_twin) := ⟨rfl, rfl, rfl, by decide +kernel, rfl, by decide +kernel, by decide +kernel⟩
theorem ok_Player_twin (T : Top K mg) : OkD P w K mg base d_Player_twin 7 ["self"] (sp_Player_twin K) := by
  refine okD (df_Player_twin T) sc_Player_twin (fun _ _ _ _ _ _ us hl => match us, hl with | [_], _ => rfl) ln_Player_twin (fun cdv A outer s H vs Q E hr h => ⟨_,
      pss_cons (ps_set (i := 1) sc_Player_twin.nd rfl (Or.inl rfl) (px_make (ok_Player_init T) (hr.mono (by decide)) (mk_Player T) rfl (gl_Player T) (fun σ => paD σ) (pa_cons (pe_fld (pv 0) rfl) (pa_cons (pe_fld (pv 0) rfl) (pa_cons pe_int pa_nil)))))
      (pss_cons (ps_fld (pv 1) (px_meth0 (ok_Order_twin T) (hr.mono (by decide)) (pe_fld (pv 0) rfl) (cl_Order T) (me_Order_twin T) (fun σ => paD σ)) rfl)
      (pss_cons (ps_fld (pv 1) (pe_fld (pv 0) rfl) rfl)
      (pss_cons (ps_fld (pv 1) (pe_fld (pv 0) rfl) rfl)
      (pss_cons (ps_fld (pv 1) (pe_fld (pv 0) rfl) rfl)
      (pss_cons (ps_fld (pv 1) (pe_fld (pv 0) rfl) rfl)
      (pss_cons (ps_fld (pv 1) (pe_callTy call_listOf (by rfl) (fr_list T) (by decide +kernel) (pa_cons (pe_fld (pv 0) rfl) pa_nil)) rfl)
      (pss_cons (ps_fld (pv 1) (pe_callTy call_listOf (by rfl) (fr_list T) (by decide +kernel) (pa_cons (pe_fld (pv 0) rfl) pa_nil)) rfl)
      (pss_cons (ps_fld (pv 1) (pe_callTy call_listOf (by rfl) (fr_list T) (by decide +kernel) (pa_cons (pe_fld (pv 0) rfl) pa_nil)) rfl)
      (pss_cons (ps_fld (pv 1) (pe_fld (pv 0) rfl) rfl)
      (pss_cons (ps_fld (pv 1) (pe_fld (pv 0) rfl) rfl)
      (pss_cons (ps_fld (pv 1) (pe_fld (pv 0) rfl) rfl)
      (pss_one (ps_ret (pv 1)))))))))))))), ?_⟩)
  obtain ⟨p, sh, S, R, rfl, hk, hov, hS, h1⟩ := h
  obtain ⟨dx, o, v, so, pa, ro, hS⟩ := hS.opP
  walk_at "wo"
  refine y_mk hS fun f dx0 H hS => ?_
  refine ⟨f, dx0, sh, S.ov, 0, _, rfl, hS.own f, fun _ _ H hS => ?_, fun no => absurd (show okOv S.ov ∧ okSeed 0 from ⟨hov, by decide, by decide⟩) no⟩
  obtain ⟨d2, o2, v2, s2, p2, r2, hS⟩ := (hS.own f).opP
  dsimp only [PL.new] at hS
  walk_at "w"
  refine ⟨o, S.o, _, rfl, hk, hS.own o, fun o3 H hS => ?_⟩
  walk_at "w"
  refine x_listOf hS (sqL hS) fun s3 H hS => ?_
  walk_at "w"
  refine x_listOf hS (sqL hS) fun p3 H hS => ?_
  walk_at "w"
  obtain ⟨ps, hS⟩ := (hS.own ro).opR
  refine x_listOf hS (sqL hS) fun r3 H hS => ?_
  walk_at "w"
  have hS := Sep.dupA (A := OldA v S.old) old_imm (hS.to (A := OldA v S.old))
  have hS := Sep.dupA (A := TupA ps (rw2 S.rows)) (fun _ a => a.imm) (hS.to (A := TupA ps (rw2 S.rows)))
  have hS := hS.swap
  have hS : Sep (pt r3 (.lst (ps.map V.ref)) :: TupA ps (rw2 S.rows) :: _) H := (hS.skip fun _ h => h.to (A := pt r3 (.lst (ps.map V.ref)))).swap
  have hS := Sep.clR ps hS
  have hS : Sep (pt ro (.lst (ps.map V.ref)) :: TupA ps (rw2 S.rows) :: _) H := (hS.to (A := TupA ps (rw2 S.rows))).skip (fun _ h => h.to (A := pt ro (.lst (ps.map V.ref)))) |>.swap
  have hS := Sep.clR ps hS
  have hS := Sep.clPA (K := K) (S) (p := p) (sh := sh) (dx := dx) (o := o) (v := v) (so := so) (pa := pa) (ro := ro) hS
  have hS := Sep.clPA (K := K) S (p := f) (sh := sh) (dx := d2) (o := o3) (v := v) (so := s3) (pa := p3) (ro := r3) hS
  exact h1 f _ (hS.of (by repeat (first | exact En.refl | exact En.nil | refine En.cons ?_ | refine En.drop ?_)))
def sp_Player_join_long (K : PySem.W.Frag) : Sp := fun vs H Q E => ∃ (p sh : Addr) (e m : Int) (S : PL) (L : List (Str × Int)) (R : List As), vs = [.ref p, .int e] ∧ okT L S.o.q ∧ S.o.q.ent e ∧ S.o.q.ent m ∧ S.now = some m ∧ Sep (PlayerR K p sh S :: ShelfR K sh L :: R) H ∧
  ∀ H', Sep (PlayerR K p sh S :: ShelfR K sh L :: R) H' → Q (.int (S.jl L m e)) H'
theorem ln_Player_join_long : ∀ vs H Q E, sp_Player_join_long K vs H Q E → vs.length = (["self", "entry"] : List Str).length := by
  rintro _ _ _ _ ⟨p, sh, e, m, S, L, R, rfl, _⟩
  rfl
theorem x_min2 {H : Hp} {Q : VK} {i j : Int} (q : Q (.int (min i j)) H) : (fun (xs : List V) (H : Hp) (Q : VK) => ∃ i j, xs = [.int i, .int j] ∧ Q (.int (if j < i then j else i)) H) [.int i, .int j] H Q := by
  refine ⟨i, j, rfl, ?_⟩
  rw [show (if j < i then j else i) = min i j by split <;> omega]
  exact q
theorem x_min3 {H : Hp} {Q : VK} {i j k : Int} (q : Q (.int (min (min i j) k)) H) : rNuC3 nuMin3 [.int i, .int j, .int k] H Q := by
  refine ⟨_, _, _, .int (min (min i j) k), rfl, ?_, q⟩
  have h2 : ∀ a b : Int, nuMin2 (.int a) (.int b) = some (.int (min a b)) := fun a b => by
    show (some (decide (b < a))).map (fun c => if c = true then V.int b else V.int a) = _
    by_cases h : b < a
    · rw [decide_eq_true h, show min a b = b by omega] <;> rfl
    · rw [decide_eq_false h, show min a b = a by omega] <;> rfl
  show (nuMin2 (.int i) (.int j)).bind (fun m => nuMin2 m (.int k)) = _
  rw [h2]
  exact h2 _ _
theorem sc_Player_join_long : FnScope ["self", "entry"] ["self", "entry"] (defScope s_Player_join_long) := ⟨rfl, rfl, rfl, by decide +kernel, rfl, by decide +kernel, by decide +kernel⟩
theorem ok_Player_join_long (T : Top K mg) : OkD P w K mg base d_Player_join_long 4 ["self", "entry"] (sp_Player_join_long K) := by
  refine okD (df_Player_join_long T) sc_Player_join_long (fun _ _ _ _ _ _ us hl => match us, hl with | [_, _], _ => rfl) ln_Player_join_long (fun cdv A outer s H vs Q E hr h => ⟨_,
      pss_one (ps_ret (pe_callB (call_min3Nu rfl) (by rfl) (fr_min T) (by decide +kernel) (pa_cons (pe_fld (pv 0) rfl) (pa_cons (pe_op op_fdiv (px_meth (ok_Player_long T) (hr.mono (by decide)) (pv 0) (cl_Player T) (me_Player_long T) (fun σ => paD σ) (pa_cons (pe_fld (pv 0) rfl) pa_nil)) pe_int) (pa_cons (pe_op op_fdiv (px_meth (ok_Player_long T) (hr.mono (by decide)) (pv 0) (cl_Player T) (me_Player_long T) (fun σ => paD σ) (pa_cons (pv 1) pa_nil)) pe_int) pa_nil))))), ?_⟩)
  obtain ⟨p, sh, e, m, S, L, R, rfl, ht, he, hme, hm, hS, h1⟩ := h
  obtain ⟨dx, o, v, so, pa, ro, hS⟩ := hS.opP
  walk_at "wo"
  have hS := Sep.clPA (K := K) (S) (p := p) (sh := sh) (dx := dx) (o := o) (v := v) (so := so) (pa := pa) (ro := ro) hS
  rw [hm]
  refine ⟨p, sh, m, S, L, _, rfl, ht, hme, (hS.of (by repeat (first | exact En.refl | exact En.nil | refine En.cons ?_ | refine En.drop ?_))), fun H hS => ?_⟩
  walk_at "w"
  refine x_I ⟨by decide, by decide⟩ ?_
  walk_at "w"
  refine ⟨p, sh, e, S, L, _, rfl, ht, he, hS, fun H hS => ?_⟩
  walk_at "w"
  refine x_I ⟨by decide, by decide⟩ ?_
  walk_at "w"
  refine x_min3 ?_
  exact h1 _ hS
def sp_Player_turn_over (K : PySem.W.Frag) : Sp := fun vs H Q E => ∃ (p sh : Addr) (m : Int) (S : PL) (L : List (Str × Int)) (c n : Nat) (R : List As), vs = [.ref p] ∧ S.Ok L c n ∧ n ≤ 100000 ∧ okOv S.ov ∧ S.now = some m ∧ Sep (PlayerR K p sh S :: ShelfR K sh L :: R) H ∧
  ∀ H', Sep (PlayerR K p sh (S.turn L m) :: ShelfR K sh L :: R) H' → Q .non H'
theorem ln_Player_turn_over : ∀ vs H Q E, sp_Player_turn_over K vs H Q E → vs.length = (["self"] : List Str).length := by
  rintro _ _ _ _ ⟨p, sh, m, S, L, c, n, R, rfl, _⟩
  rfl
theorem sc_Player_turn_over : FnScope ["self", "long", "found"] ["self"] (defScope s_Player_turn_over) := ⟨rfl, rfl, rfl, by decide +kernel, rfl, by decide +kernel, by decide +kernel⟩
theorem ok_Player_turn_over (T : Top K mg) : OkD P w K mg base d_Player_turn_over 8 ["self"] (sp_Player_turn_over K) := by
  refine okD (df_Player_turn_over T) sc_Player_turn_over (fun _ _ _ _ _ _ us hl => match us, hl with | [_], _ => rfl) ln_Player_turn_over (fun cdv A outer s H vs Q E hr h => ⟨_,
      pss_cons (ps_set (i := 1) sc_Player_turn_over.nd rfl (Or.inl rfl) (px_meth (ok_Player_long T) (hr.mono (by decide)) (pv 0) (cl_Player T) (me_Player_long T) (fun σ => paD σ) (pa_cons (pe_fld (pv 0) rfl) pa_nil)))
      (pss_cons (ps_set (i := 2) sc_Player_turn_over.nd rfl (Or.inl rfl) pe_non)
      (pss_cons (ps_if (PW.pt (pw_and (pt_not (px_truth (pe_fld (pv 0) rfl) (by intro _; rfl))) (pw_and1 (pt_cmpR op_ge (pe_fld (pv 0) rfl) (pe_op op_sub (pv 1) (pe_callB (call_min2 rfl) (by rfl) (fr_min T) (by decide +kernel) (pa_cons (pe_fld (pv 0) rfl) (pa_cons (pe_op op_fdiv (pv 1) pe_int) pa_nil)))) (nomark _)))))
       (pss_one (ps_set (i := 2) sc_Player_turn_over.nd rfl (Or.inl rfl) (px_meth (ok_Player_next_entry T) (hr.mono (by decide)) (px_meth0 (ok_Player_twin T) (hr.mono (by decide)) (pv 0) (cl_Player T) (me_Player_twin T) (fun σ => paD σ)) (cl_Player T) (me_Player_next_entry T) (fun σ => paD σ) (pa_cons pe_bl pa_nil))))
       (pss_nil))
      (pss_one (ps_if (PW.pt (pw_and (pt_cmpR op_notN1 (pv 2) pe_non (nomark _)) (pw_and1 (pt_cmpR op_ge (pe_fld (pv 0) rfl) (pe_op op_sub (pv 1) (px_meth (ok_Player_join_long T) (hr.mono (by decide)) (pv 0) (cl_Player T) (me_Player_join_long T) (fun σ => paD σ) (pa_cons (pv 2) pa_nil))) (nomark _)))))
       (pss_cons (ps_expr (px_meth (ok_Player_next_entry T) (hr.mono (by decide)) (pv 0) (cl_Player T) (me_Player_next_entry T) (fun σ => paD σ) (pa_cons pe_bl pa_nil)))
        (pss_cons (ps_expr (pe_bm PySem.F.plainAttrs_list PySem.F.slot_list_append PySem.F.type_list_append mt_append (pe_fld (pv 0) rfl) (pa_cons (pe_fld (pv 0) rfl) pa_nil)))
        (pss_one (ps_expr (px_meth (ok_Player_begin T) (hr.mono (by decide)) (pv 0) (cl_Player T) (me_Player_begin T) (fun σ => paD σ) (pa_cons (pv 2) (pa_cons (pe_cmpR op_lt (pe_fld (pv 0) rfl) (pv 1) (nomark _)) pa_nil)))))))
       (pss_one (ps_if (pt_cmpR op_ge (pe_fld (pv 0) rfl) (pv 1) (nomark _))
         (pss_cons (ps_expr (pe_bm PySem.F.plainAttrs_list PySem.F.slot_list_append PySem.F.type_list_append mt_append (pe_fld (pv 0) rfl) (pa_cons (pe_fld (pv 0) rfl) pa_nil)))
          (pss_cons (ps_expr (px_meth (ok_Player_begin T) (hr.mono (by decide)) (pv 0) (cl_Player T) (me_Player_begin T) (fun σ => paD σ) (pa_cons pe_non (pa_cons pe_bl pa_nil))))
          (pss_cons (ps_fld (pv 0) pe_bl rfl)
          (pss_one (ps_fld (pv 0) pe_bl rfl)))))
         (pss_nil))))))), ?_⟩)
  obtain ⟨p, sh, m, S, L, cc, n, R, rfl, ok, hn, hov, hm, hS, h1⟩ := h
  have hz := ok.sz
  have hme := ok.now m hm
  obtain ⟨dx, o, v, so, pa, ro, hS⟩ := hS.opP
  walk_at "wo"
  have hS := Sep.clPA (K := K) (S) (p := p) (sh := sh) (dx := dx) (o := o) (v := v) (so := so) (pa := pa) (ro := ro) hS
  rw [hm]
  refine ⟨p, sh, m, S, L, _, rfl, ok.t, hme, (hS.of (by repeat (first | exact En.refl | exact En.nil | refine En.cons ?_ | refine En.drop ?_))), fun H hS => ?_⟩
  walk_at "w"
  refine y_cut (fun σ H => σ = [some (.ref p), some (.int (S.o.q.lg L m)), some (oV (S.found L m))] ∧ Sep (PlayerR K p sh S :: ShelfR K sh L :: R) H) (fun N hN => ?_) ?_
  · walk_at "w"
    refine y_cutT (fun b H => b = decide (S.st = false ∧ S.o.q.lg L m - min S.ov (S.o.q.lg L m / 2) ≤ S.spot) ∧ Sep (PlayerR K p sh S :: ShelfR K sh L :: R) H) (fun N2 hN2 => ?_) ?_
    · obtain ⟨dx, o, v, so, pa, ro, hS⟩ := hS.opP
      walk_at "v"
      cases hst : S.st with
      | true =>
        walk_at "v"
        have hS := Sep.clPA (K := K) (S) (p := p) (sh := sh) (dx := dx) (o := o) (v := v) (so := so) (pa := pa) (ro := ro) hS
        exact hN2 _ _ ⟨by rw [hst, decide_eq_false (fun h => by cases h.1)] <;> rfl, hS⟩
      | false =>
        walk_at "v"
        refine x_I ⟨by decide, by decide⟩ ?_
        walk_at "v"
        refine x_min2 ?_
        walk_at "v"
        have hS := Sep.clPA (K := K) (S) (p := p) (sh := sh) (dx := dx) (o := o) (v := v) (so := so) (pa := pa) (ro := ro) hS
        exact hN2 _ _ ⟨by rw [hst]; exact decide_eq_decide.mpr ⟨fun h => ⟨rfl, h⟩, fun h => h.2⟩, hS⟩
    · rintro _ H ⟨rfl, hS⟩
      refine x_dec (fun hb => ?_) (fun hb => ?_)
      · rw [show S.found L m = (S.next false).2 from if_pos hb] at hN
        walk_at "w"
        refine ⟨p, sh, S, _, rfl, ok.o, hov, hS, fun f H hS => ?_⟩
        walk_at "w"
        refine ⟨f, sh, false, S, _, rfl, ok.o, hS, fun H hS => ?_⟩
        walk_at "w"
        exact hN _ _ ⟨rfl, hS.tail⟩
      · rw [show S.found L m = none from if_neg hb] at hN
        walk_at "w"
        exact hN _ _ ⟨rfl, hS⟩
  · rintro σ H ⟨rfl, hS⟩
    walk_at "w"
    refine y_cutT (fun b H => b = S.over L m ∧ Sep (PlayerR K p sh S :: ShelfR K sh L :: R) H) (fun N hN => ?_) ?_
    · walk_at "v"
      unfold PL.over at hN
      cases hf : S.found L m with
      | none =>
        rw [hf] at hN
        walk_at "v"
        exact hN _ _ ⟨rfl, hS⟩
      | some f =>
        rw [hf] at hN
        have hfe := ok.found_ent hf
        obtain ⟨dx, o, v, so, pa, ro, hS⟩ := hS.opP
        walk_at "v"
        have hS := Sep.clPA (K := K) (S) (p := p) (sh := sh) (dx := dx) (o := o) (v := v) (so := so) (pa := pa) (ro := ro) hS
        refine ⟨p, sh, f, m, S, L, _, rfl, ok.t, hfe, hme, hm, hS, fun H hS => ?_⟩
        walk_at "v"
        exact hN _ _ ⟨rfl, hS⟩
    · rintro _ H ⟨rfl, hS⟩
      refine x_bool (fun hb => ?_) (fun hb => ?_)
      · obtain ⟨f, hf, hle⟩ := over_some hb
        have hfe := ok.found_ent hf
        rw [turn_some hf hle] at h1
        rw [hf]
        have okn := ok.next false
        have hzn := okn.sz
        have hnow := (S.next_now false).trans hm
        have hspot := S.next_spot false
        have hpast := S.next_past false
        walk_at "w"
        refine ⟨p, sh, false, S, _, rfl, ok.o, hS, fun H hS => ?_⟩
        obtain ⟨T, hT⟩ : ∃ T, T = (S.next false).1 := ⟨_, rfl⟩
        have hq : T.o.q = S.o.q := by rw [hT]; exact S.next_q false
        rw [← hT] at h1 hS okn hzn hnow hspot hpast
        obtain ⟨dx, o, v, so, pa, ro, hS⟩ := hS.opP
        walk_at "w"
        refine y_bml (sqL hS) ?_
        walk_at "w"
        rw [hnow]
        refine x_append hS (by rw [List.length_map]; exact sz (by omega)) fun H hS => ?_
        rw [show T.past.map V.int ++ [oV (some m)] = (T.past ++ [m]).map V.int by rw [List.map_append] <;> rfl] at hS
        walk_at "w"
        have hS := Sep.clPA (K := K) ({ T with past := T.past ++ [m] }) (p := p) (sh := sh) (dx := dx) (o := o) (v := v) (so := so) (pa := pa) (ro := ro) hS
        rw [hspot]
        refine ⟨p, sh, some f, _, { T with past := T.past ++ [m] }, L, _, rfl, okn.o, okn.t, fun _ => ⟨m, hnow, by show T.o.q.ent m; rw [hq]; exact hme⟩, by show T.rows.length ≤ _; omega, (hS.of (by repeat (first | exact En.refl | exact En.nil | refine En.cons ?_ | refine En.drop ?_))), fun H hS => ?_⟩
        walk_at "w"
        rw [← hpast] at h1
        exact h1 _ hS
      · rw [turn_fin hb] at h1
        unfold PL.fin at h1
        obtain ⟨dx, o, v, so, pa, ro, hS⟩ := hS.opP
        walk_at "v"
        refine x_dec (fun hA => ?_) (fun hA => ?_)
        · rw [if_pos (by omega)] at h1
          walk_at "v"
          refine y_bml (sqL hS) ?_
          walk_at "v"
          rw [hm]
          refine x_append hS (by rw [List.length_map]; exact sz (by omega)) fun H hS => ?_
          rw [show S.past.map V.int ++ [oV (some m)] = (S.past ++ [m]).map V.int by rw [List.map_append] <;> rfl] at hS
          walk_at "v"
          have hS := Sep.clPA (K := K) ({ S with past := S.past ++ [m] }) (p := p) (sh := sh) (dx := dx) (o := o) (v := v) (so := so) (pa := pa) (ro := ro) hS
          refine ⟨p, sh, none, false, { S with past := S.past ++ [m] }, L, _, rfl, ok.o, ok.t, (fun h => by cases h), by show S.rows.length ≤ _; omega, (hS.of (by repeat (first | exact En.refl | exact En.nil | refine En.cons ?_ | refine En.drop ?_))), fun H hS => ?_⟩
          obtain ⟨U, hU⟩ : ∃ U, U = ({ S with past := S.past ++ [m] } : PL).begin L none false := ⟨_, rfl⟩
          rw [← hU] at h1 hS
          obtain ⟨dx, o, v, so, pa, ro, hS⟩ := hS.opP
          walk_at "v"
          have hS := Sep.clPA (K := K) { U with pl := false, st := false } (p := p) (sh := sh) (dx := dx) (o := o) (v := v) (so := so) (pa := pa) (ro := ro) hS
          exact h1 _ hS
        · rw [if_neg (by omega)] at h1
          walk_at "v"
          have hS := Sep.clPA (K := K) (S) (p := p) (sh := sh) (dx := dx) (o := o) (v := v) (so := so) (pa := pa) (ro := ro) hS
          exact h1 _ hS
def sp_Player_step (K : PySem.W.Frag) : Sp := fun vs H Q E => ∃ (p sh : Addr) (S : PL) (L : List (Str × Int)) (c n : Nat) (R : List As), vs = [.ref p] ∧ S.Ok L c n ∧ n ≤ 100000 ∧ okOv S.ov ∧ S.now ≠ none ∧ Sep (PlayerR K p sh S :: ShelfR K sh L :: R) H ∧
  ∀ H', Sep (PlayerR K p sh (S.step L) :: ShelfR K sh L :: R) H' → Q .non H'
theorem ln_Player_step : ∀ vs H Q E, sp_Player_step K vs H Q E → vs.length = (["self"] : List Str).length := by
  rintro _ _ _ _ ⟨p, sh, S, L, c, n, R, rfl, _⟩
  rfl
theorem sc_Player_step : FnScope ["self", "entry", "spot", "left"] ["self"] (defScope s_Player_step) := ⟨rfl, rfl, rfl, by decide +kernel, rfl, by decide +kernel, by decide +kernel⟩
theorem ok_Player_step (T : Top K mg) : OkD P w K mg base d_Player_step 9 ["self"] (sp_Player_step K) := by
  refine okD (df_Player_step T) sc_Player_step (fun _ _ _ _ _ _ us hl => match us, hl with | [_], _ => rfl) ln_Player_step (fun cdv A outer s H vs Q E hr h => ⟨_,
      pss_cons (ps_fld (pv 0) (pe_op op_addA (pe_fld (pv 0) rfl) pe_int) rfl)
      (pss_cons (ps_fld (pv 0) (pe_op op_addA (pe_fld (pv 0) rfl) pe_int) rfl)
      (pss_cons (ps_if (pt_cmpR op_notN1 (pe_fld (pv 0) rfl) pe_non (nomark _))
       (pss_cons (ps_asg (pe_fld (pv 0) rfl) (pg_tup (n := 3) rfl (pgs_cons (pg_name (i := 1) sc_Player_step.nd rfl (Or.inl rfl)) (pgs_cons (pg_name (i := 2) sc_Player_step.nd rfl (Or.inl rfl)) (pgs_cons (pg_name (i := 3) sc_Player_step.nd rfl (Or.inl rfl)) pgs_nil)))))
        (pss_one (ps_fld (pv 0) (pe_ifExp (pt_cmpR op_lt (pe_op op_addA (pv 2) pe_int) (px_meth (ok_Player_long T) (hr.mono (by decide)) (pv 0) (cl_Player T) (me_Player_long T) (fun σ => paD σ) (pa_cons (pv 1) pa_nil)) (nomark _)) (pe_tup (pa_cons (pv 1) (pa_cons (pe_op op_addA (pv 2) pe_int) (pa_cons (pv 3) pa_nil)))) pe_non) rfl)))
       (pss_nil))
      (pss_cons (ps_expr (px_meth0 (ok_Player_turn_over T) (hr.mono (by decide)) (pv 0) (cl_Player T) (me_Player_turn_over T) (fun σ => paD σ)))
      (pss_one (ps_if (pt_cmpR op_notN1 (pe_fld (pv 0) rfl) pe_non (nomark _))
       (pss_cons (ps_fld (pv 0) (pe_op op_sub (pe_fld (pv 0) rfl) pe_int) rfl)
        (pss_one (ps_if (pt_cmpR (op_eqA hr.units) (pe_fld (pv 0) rfl) pe_int (nomark _))
         (pss_cons (ps_fld (pv 0) pe_non rfl)
          (pss_one (ps_fld (pv 0) pe_bl rfl)))
         (pss_nil))))
       (pss_nil)))))), ?_⟩)
  obtain ⟨p, sh, S, L, cc, n, R, rfl, ok, hn, hov, hnow, hS, h1⟩ := h
  obtain ⟨m, hm⟩ := Option.ne_none_iff_exists'.mp hnow
  have hz := ok.sz
  unfold PL.step at h1
  rw [hm] at h1
  dsimp only at h1
  have okt := ok.ticked
  obtain ⟨dx, o, v, so, pa, ro, hS⟩ := hS.opP
  walk_at "wo"
  refine y_cut (fun σ H => (∃ b1 b2 b3, σ = [some (.ref p), b1, b2, b3]) ∧ Sep (PlayerR K p sh (S.ticked L) :: ShelfR K sh L :: R) H) (fun N hN => ?_) ?_
  · unfold PL.ticked at hN
    walk_at "v"
    cases hold : S.old with
    | none =>
      rw [hold] at hS
      obtain ⟨e2, hS2⟩ := old_none (hS.to (A := OldA v none))
      subst e2
      replace hS := hS2
      rw [aged_none hold] at hN
      walk_at "v"
      have hS := old_mk0 hS
      have hS := Sep.clPA (K := K) ({ S with tm := S.tm + 1, spot := S.spot + 1, old := none }) (p := p) (sh := sh) (dx := dx) (o := o) (v := .non) (so := so) (pa := pa) (ro := ro) hS
      exact hN _ _ ⟨⟨_, _, _, rfl⟩, hS⟩
    | some r =>
      obtain ⟨e, s0, w0⟩ := r
      have hoe := ok.old _ hold
      rw [hold] at hS
      obtain ⟨t, e2, hS2⟩ := old_some (hS.to (A := OldA v (some (e, s0, w0))))
      subst e2
      replace hS := hS2
      rw [aged_some hold] at hN
      walk_at "v"
      refine x_gtup (sqT hS) rfl ?_
      walk_at "v"
      have hS := Sep.oldA (u := t) (a := e) (b := s0) (c := w0) hS
      have hS := Sep.clPA (K := K) ({ S with tm := S.tm + 1, spot := S.spot + 1, old := some (e, s0, w0) }) (p := p) (sh := sh) (dx := dx) (o := o) (v := .ref t) (so := so) (pa := pa) (ro := ro) hS
      refine ⟨p, sh, e, { S with tm := S.tm + 1, spot := S.spot + 1, old := some (e, s0, w0) }, L, _, rfl, ok.t, hoe, hS, fun H hS => ?_⟩
      obtain ⟨dx, o, v, so, pa, ro, hS⟩ := hS.opP
      walk_at "v"
      refine x_dec (fun hA => ?_) (fun hA => ?_)
      · rw [if_pos hA] at hN
        walk_at "v"
        have hS := Sep.oldA (u := u) (a := e) (b := s0 + 1) (c := w0) hS
        have hS := Sep.clPA (K := K) ({ S with tm := S.tm + 1, spot := S.spot + 1, old := some (e, s0 + 1, w0) }) (p := p) (sh := sh) (dx := dx) (o := o) (v := .ref u) (so := so) (pa := pa) (ro := ro) hS
        exact hN _ _ ⟨⟨_, _, _, rfl⟩, (hS.of (by repeat (first | exact En.refl | exact En.nil | refine En.cons ?_ | refine En.drop ?_)))⟩
      · rw [if_neg hA] at hN
        walk_at "v"
        have hS := old_mk0 hS
        have hS := Sep.clPA (K := K) ({ S with tm := S.tm + 1, spot := S.spot + 1, old := none }) (p := p) (sh := sh) (dx := dx) (o := o) (v := .non) (so := so) (pa := pa) (ro := ro) hS
        exact hN _ _ ⟨⟨_, _, _, rfl⟩, (hS.of (by repeat (first | exact En.refl | exact En.nil | refine En.cons ?_ | refine En.drop ?_)))⟩
  · rintro σ H ⟨⟨b1, b2, b3, rfl⟩, hS⟩
    walk_at "w"
    refine ⟨p, sh, m, S.ticked L, L, cc, n, _, rfl, okt, hn, hov, hm, hS, fun H hS => ?_⟩
    obtain ⟨U, hU⟩ : ∃ U, U = (S.ticked L).turn L m := ⟨_, rfl⟩
    rw [← hU] at h1 hS
    unfold PL.slept at h1
    obtain ⟨dx, o, v, so, pa, ro, hS⟩ := hS.opP
    walk_at "v"
    cases hsl : U.sl with
    | none =>
      rw [hsl] at h1
      walk_at "v"
      have hS := Sep.clPA (K := K) (U) (p := p) (sh := sh) (dx := dx) (o := o) (v := v) (so := so) (pa := pa) (ro := ro) hS
      exact h1 _ hS
    | some k =>
      rw [hsl] at h1 hS
      dsimp only at h1
      walk_at "v"
      refine x_dec (fun hA => ?_) (fun hA => ?_)
      · rw [if_pos hA] at h1
        walk_at "v"
        have hS := Sep.clPA (K := K) ({ U with sl := none, pl := false }) (p := p) (sh := sh) (dx := dx) (o := o) (v := v) (so := so) (pa := pa) (ro := ro) hS
        exact h1 _ hS
      · rw [if_neg hA] at h1
        walk_at "v"
        have hS := Sep.clPA (K := K) ({ U with sl := some (k - 1) }) (p := p) (sh := sh) (dx := dx) (o := o) (v := v) (so := so) (pa := pa) (ro := ro) hS
        exact h1 _ hS
def okTk (k : Int) : Prop := 0 ≤ k ∧ k ≤ 200
def sp_Player_tick (K : PySem.W.Frag) : Sp := fun vs H Q E => ∃ (p sh : Addr) (k : Int) (S : PL) (L : List (Str × Int)) (c n : Nat) (R : List As), vs = [.ref p, .int k] ∧ S.Ok L c n ∧ n ≤ 50000 ∧ okOv S.ov ∧ S.Pg ∧ Sep (PlayerR K p sh S :: ShelfR K sh L :: R) H ∧
  (okTk k → ∀ H', Sep (PlayerR K p sh (S.tick L k.toNat) :: ShelfR K sh L :: R) H' → Q .non H') ∧ (¬ okTk k → ∀ H', Sep (PlayerR K p sh S :: ShelfR K sh L :: R) H' → E (.ref (He.ga K "BadNumber")) none H')
theorem ln_Player_tick : ∀ vs H Q E, sp_Player_tick K vs H Q E → vs.length = (["self", "many"] : List Str).length := by
  rintro _ _ _ _ ⟨p, sh, k, S, L, c, n, R, rfl, _⟩
  rfl
theorem sc_Player_tick : FnScope ["self", "many", "k"] ["self", "many"] (defScope s_Player_tick) := ⟨rfl, rfl, rfl, by decide +kernel, rfl, by decide +kernel, by decide +kernel⟩
theorem ok_Player_tick (T : Top K mg) : OkD P w K mg base d_Player_tick 10 ["self", "many"] (sp_Player_tick K) := by
  refine okD (df_Player_tick T) sc_Player_tick (fun _ _ _ _ _ _ us hl => match us, hl with | [_, _], _ => rfl) ln_Player_tick (fun cdv A outer s H vs Q E hr h => ⟨_,
      pss_cons (ps_if (pt_not (pt_chain op_le op_le pe_int (pv 1) (px_int rfl (gi_MOST_TICKS T))))
       (pss_one (px_raise rfl tkD rfl (gl_BadNumber T) (xc_BadNumber T)))
       (pss_nil))
      (pss_one (ps_for (passes_of rfl) rfl (pi_range1 rfl (fr_range T) (pa_cons (pv 1) pa_nil)) (pg_name (i := 2) sc_Player_tick.nd rfl (Or.inl rfl))
       (pss_one (ps_if (px_truth (pe_fld (pv 0) rfl) (by intro _; rfl))
         (pss_one (ps_expr (px_meth0 (ok_Player_step T) (hr.mono (by decide)) (pv 0) (cl_Player T) (me_Player_step T) (fun σ => paD σ))))
         (pss_nil))))), ?_⟩)
  obtain ⟨p, sh, k, S, L, cc, n, R, rfl, ok, hn, hov, hpg, hS, h1, h2⟩ := h
  walk_at "wo"
  refine y_cut (fun σ H => okTk k ∧ σ = [some (.ref p), some (.int k), none] ∧ Sep (PlayerR K p sh S :: ShelfR K sh L :: R) H) (fun N hN => ?_) ?_
  · walk_at "v"
    refine x_dec (fun hA => ?_) (fun hA => ?_)
    · walk_at "v"
      refine x_ndec (fun hB => ?_) (fun hB => ?_)
      · walk_at "v"
        exact h2 (fun z => hB z.2) _ hS
      · walk_at "v"
        exact hN _ _ ⟨⟨hA, hB⟩, rfl, hS⟩
    · walk_at "v"
      exact h2 (fun z => hA z.1) _ hS
  · rintro σ H ⟨hk, rfl, hS⟩
    obtain ⟨j, hj⟩ : ∃ j : Nat, k = j := ⟨k.toNat, by have := hk.1; omega⟩
    subst hj
    replace h1 := h1 hk
    rw [Int.toNat_natCast] at h1
    have hj2 := hk.2
    walk_at "w"
    refine y_for1 (n := j) (fun i σ H => (∃ b, σ = [some (.ref p), some (.int (j : Nat)), b]) ∧ Sep (PlayerR K p sh (S.tick L i) :: ShelfR K sh L :: R) H) (by omega) ⟨⟨_, rfl⟩, hS⟩ ?_ ?_
    · rintro i σ H hi ⟨⟨b, rfl⟩, hS⟩
      have okT := ok.tick i
      have hpT : (S.tick L i).Pg := PL.Pg.tick hpg i
      have hoT := S.tick_ov L i
      have eN : S.tick L (i + 1) = (S.tick L i).tk L := rfl
      rw [eN]
      obtain ⟨T, hT⟩ : ∃ T, T = S.tick L i := ⟨_, rfl⟩
      rw [← hT] at okT hpT hoT hS ⊢
      obtain ⟨dx, o, v, so, pa, ro, hS⟩ := hS.opP
      walk_at "v"
      refine x_bool (fun hp => ?_) (fun hp => ?_)
      · rw [show T.tk L = T.step L from if_pos hp]
        walk_at "v"
        have hS := Sep.clPA (K := K) (T) (p := p) (sh := sh) (dx := dx) (o := o) (v := v) (so := so) (pa := pa) (ro := ro) hS
        refine ⟨p, sh, T, L, cc, _, _, rfl, okT, by omega, by rw [hoT]; exact hov, hpT hp, hS, fun H hS => ?_⟩
        walk_at "v"
        exact ⟨⟨_, rfl⟩, hS⟩
      · rw [show T.tk L = T from if_neg (by rw [hp]; intro h; cases h)]
        walk_at "v"
        have hS := Sep.clPA (K := K) (T) (p := p) (sh := sh) (dx := dx) (o := o) (v := v) (so := so) (pa := pa) (ro := ro) hS
        exact ⟨⟨_, rfl⟩, hS⟩
    · rintro σ H ⟨⟨b, rfl⟩, hS⟩
      exact h1 _ hS

end
end TR

set_option Elab.async false
set_option linter.all false
set_option maxRecDepth 100000
set_option maxHeartbeats 4000000
/-! .. -/

namespace TR
open PySem PySem.Spec PyProof.Rows L2
section
variable {P : Program} {w : World} {K : PySem.W.Frag} {mg : Str → Option Value} {base : Heap}
/-! players: how far it is to the end of what is told ahead -/
section
variable {L : List (Str × Int)} {c n : Nat} {S : PL}
theorem PL.Sp.begin (h : okT L S.o.q) {e : Option Int} (he : ∀ x, e = some x → S.o.q.ent x) (j : Bool) : (S.begin L e j).Sp L := fun x hx => by
  obtain ⟨_, _, _, h1, _⟩ := lg_ent h (he x hx)
  have hq := S.begin_q L e j
  rw [hq]
  exact ⟨Int.le_refl _, h1⟩
theorem PL.Sp.slept (h : S.Sp L) : S.slept.Sp L := by
  unfold PL.slept
  split
  · split <;> exact h
  · exact h
theorem PL.Sp.alike (h : S.Sp L) : S.alike.Sp L := h
/-- what a tick's turn does -/
theorem PL.Ok.turn_cases (h : S.Ok L c n) {m : Int} (hm : S.now = some m) :
    (∃ f, S.o.q.ent f ∧ S.turn L m = ({ (S.next false).1 with past := S.past ++ [m] } : PL).begin L (some f) (decide (S.spot < S.o.q.lg L m))) ∨ ((S.turn L m).now = none ∧ (S.turn L m).pl = false) ∨ (S.turn L m = S ∧ S.spot < S.o.q.lg L m) := by
  cases hb : S.over L m with
  | true =>
    obtain ⟨f, hf, hle⟩ := over_some hb
    exact .inl ⟨f, h.found_ent hf, turn_some hf hle⟩
  | false =>
    rw [turn_fin hb]
    unfold PL.fin
    by_cases he : S.o.q.lg L m ≤ S.spot
    · rw [if_pos he]
      exact .inr (.inl ⟨rfl, rfl⟩)
    · rw [if_neg he]
      exact .inr (.inr ⟨rfl, by omega⟩)
theorem PL.Sp.step (h : S.Ok L c n) (hs : S.Sp L) : (S.step L).Sp L := by
  unfold PL.step
  split
  · next m hm =>
    refine PL.Sp.slept ?_
    have hk := h.ticked
    have hm' : (S.ticked L).now = some m := hm
    rcases hk.turn_cases hm' with ⟨f, hf, e⟩ | ⟨e, _⟩ | ⟨e, hl⟩
    · rw [e]
      refine PL.Sp.begin ?_ (fun x hx => ?_) _
      · show okT L ((S.ticked L).next false).1.o.q
        rw [PL.next_q]
        exact hk.t
      · injection hx with hx
        subst hx
        show ((S.ticked L).next false).1.o.q.ent f
        rw [PL.next_q]
        exact hf
    · intro x hx
      rw [e] at hx
      cases hx
    · rw [e]
      intro x hx
      rw [hm'] at hx
      injection hx with hx
      subst hx
      have := (hs _ hm).1
      exact ⟨by show 0 ≤ S.spot + 1; omega, hl⟩
  · exact hs
theorem PL.Sp.tk (h : S.Ok L c n) (hs : S.Sp L) : (S.tk L).Sp L := by
  unfold PL.tk
  split
  · exact PL.Sp.step h hs
  · exact hs
theorem PL.Sp.tick (h : S.Ok L c n) (hs : S.Sp L) : ∀ k, (S.tick L k).Sp L
  | 0 => hs
  | k + 1 => PL.Sp.tk (h.tick k) (PL.Sp.tick h hs k)
theorem PL.Sp.fore (h : S.Ok L c n) (hs : S.Sp L) (t : Nat) : ∀ k, (S.fore L t k).Sp L
  | 0 => hs
  | k + 1 => by
    show PL.Sp L (if (S.fore L t k).pl = true ∧ (S.fore L t k).rows.length < t then (S.fore L t k).step L else S.fore L t k)
    split
    · exact PL.Sp.step (h.fore t k) (PL.Sp.fore h hs t k)
    · exact PL.Sp.fore h hs t k
/-- turns left, at most -/
def PL.mu (S : PL) (L : List (Str × Int)) (t : Nat) : Nat := if S.pl = true then 1 + (t - S.rows.length) * 41 + (match S.now with
  | some m => (S.o.q.lg L m - S.spot).toNat
  | none => 0) else 0
theorem PL.mu_slept (S : PL) (L : List (Str × Int)) (t : Nat) : S.slept.mu L t ≤ S.mu L t := by
  unfold PL.slept
  split
  · split
    · unfold PL.mu
      rw [if_neg (by intro h; cases h)]
      exact Nat.zero_le _
    · exact Nat.le_refl _
  · exact Nat.le_refl _
theorem PL.mu_step (h : S.Ok L c n) (hs : S.Sp L) (hg : S.Pg) (hp : S.pl = true) {t : Nat} (hr : S.rows.length < t) : (S.step L).mu L t < S.mu L t := by
  obtain ⟨m, hm⟩ := Option.ne_none_iff_exists'.mp (hg hp)
  have h0 := hs m hm
  have hS : S.mu L t = 1 + (t - S.rows.length) * 41 + (S.o.q.lg L m - S.spot).toNat := by
    unfold PL.mu
    rw [if_pos hp, hm]
  have hk := h.ticked
  have hm' : (S.ticked L).now = some m := hm
  have e0 : S.step L = ((S.ticked L).turn L m).slept := by
    unfold PL.step
    rw [hm]
  rw [e0]
  refine Nat.lt_of_le_of_lt (PL.mu_slept _ _ _) ?_
  rw [hS]
  rcases hk.turn_cases hm' with ⟨f, hf, e⟩ | ⟨_, e⟩ | ⟨e, hl⟩
  · have hq : ((S.ticked L).turn L m).o.q = S.o.q := by
      rw [e, PL.begin_q]
      show ((S.ticked L).next false).1.o.q = _
      rw [PL.next_q]
      rfl
    have hrl : ((S.ticked L).turn L m).rows.length = S.rows.length + 1 := by
      have e1 : ((S.ticked L).next false).1.rows = S.rows := by
        unfold PL.next
        split <;> rfl
      rw [e]
      show (((S.ticked L).next false).1.rows ++ [_]).length = _
      rw [e1, List.length_append]
      rfl
    have hn : ((S.ticked L).turn L m).now = some f := by rw [e] <;> rfl
    have hsp : ((S.ticked L).turn L m).spot = 0 := by rw [e] <;> rfl
    obtain ⟨_, _, _, _, h40⟩ := lg_ent h.t hf
    unfold PL.mu
    split
    · rw [hn]
      dsimp only
      rw [hrl, hsp, hq]
      have : (t - (S.rows.length + 1)) * 41 + 41 = (t - S.rows.length) * 41 := by
        rw [show t - S.rows.length = (t - (S.rows.length + 1)) + 1 by omega, Nat.add_mul]
      omega
    · omega
  · unfold PL.mu
    rw [if_neg (by rw [e]; intro h; cases h)]
    omega
  · rw [e]
    unfold PL.mu
    have hp' : (S.ticked L).pl = true := hp
    rw [if_pos hp', hm']
    show 1 + (t - S.rows.length) * 41 + (S.o.q.lg L m - (S.spot + 1)).toNat < _
    omega
theorem PL.mu_start (h : S.Ok L c n) (hs : S.Sp L) {k : Nat} (hk : k ≤ 12) : S.alike.mu L (S.rows.length + k) ≤ 599 := by
  unfold PL.mu
  split
  · show 1 + (S.rows.length + k - S.rows.length) * 41 + _ ≤ _
    have hb : (match S.alike.now with | some m => (S.alike.o.q.lg L m - S.alike.spot).toNat | none => 0) ≤ 40 := by
      show (match S.now with | some m => (S.o.q.lg L m - S.spot).toNat | none => 0) ≤ 40
      split
      · next m hm =>
        obtain ⟨_, _, _, _, h40⟩ := lg_ent h.t (h.now m hm)
        have := (hs m hm).1
        omega
      · exact Nat.zero_le _
    have : (S.rows.length + k - S.rows.length) * 41 ≤ 12 * 41 := Nat.mul_le_mul_right _ (by omega)
    omega
  · exact Nat.zero_le _
/-- behind its end nothing more -/
theorem fore_stop {t j : Nat} (h : ¬ ((S.fore L t j).pl = true ∧ (S.fore L t j).rows.length < t)) : ∀ k, S.fore L t (j + k) = S.fore L t j
  | 0 => rfl
  | k + 1 => by
    have ih := fore_stop h k
    show (if (S.fore L t (j + k)).pl = true ∧ (S.fore L t (j + k)).rows.length < t then (S.fore L t (j + k)).step L else S.fore L t (j + k)) = _
    rw [ih, if_neg h]
theorem fore_go {t j : Nat} (h : (S.fore L t j).pl = true ∧ (S.fore L t j).rows.length < t) : S.fore L t (j + 1) = (S.fore L t j).step L := if_pos h
end

end
end TR

set_option Elab.async false
set_option linter.all false
set_option maxRecDepth 100000
set_option maxHeartbeats 4000000
/-! .. -/

namespace TR
open PySem PySem.Spec PyProof.Rows L2
section
variable {P : Program} {w : World} {K : PySem.W.Frag} {mg : Str → Option Value} {base : Heap}
/-! players: what is told -/
def sp_Player_state (K : PySem.W.Frag) : Sp := fun vs H Q E => ∃ (p sh : Addr) (S : PL) (R : List As), vs = [.ref p] ∧ Sep (PlayerR K p sh S :: R) H ∧
  ∀ t H', Sep (pt t (.tup [oV S.now, .int S.spot, .bl S.pl]) :: PlayerR K p sh S :: R) H' → Q (.ref t) H'
theorem ln_Player_state : ∀ vs H Q E, sp_Player_state K vs H Q E → vs.length = (["self"] : List Str).length := by
  rintro _ _ _ _ ⟨p, sh, S, R, rfl, _⟩
  rfl
theorem sc_Player_state : FnScope ["self"] ["self"] (defScope s_Player_state) := ⟨rfl, rfl, rfl, by decide +kernel, rfl, by decide +kernel, by decide +kernel⟩
theorem ok_Player_state (T : Top K mg) : OkD P w K mg base d_Player_state 1 ["self"] (sp_Player_state K) := by
  refine okD (df_Player_state T) sc_Player_state (fun _ _ _ _ _ _ us hl => match us, hl with | [_], _ => rfl) ln_Player_state (fun cdv A outer s H vs Q E hr h => ⟨_,
      pss_one (ps_ret (pe_tup (pa_cons (pe_fld (pv 0) rfl) (pa_cons (pe_fld (pv 0) rfl) (pa_cons (pe_fld (pv 0) rfl) pa_nil))))), ?_⟩)
  obtain ⟨p, sh, S, R, rfl, hS, h1⟩ := h
  obtain ⟨dx, o, v, so, pa, ro, hS⟩ := hS.opP
  walk_at "wo"
  have hS := Sep.clPA (K := K) (S) (p := p) (sh := sh) (dx := dx) (o := o) (v := v) (so := so) (pa := pa) (ro := ro) hS
  exact h1 _ _ (hS.of (by repeat (first | exact En.refl | exact En.nil | refine En.cons ?_ | refine En.drop ?_)))
def sp_Player_ticks (K : PySem.W.Frag) : Sp := fun vs H Q E => ∃ (p sh : Addr) (S : PL) (R : List As), vs = [.ref p] ∧ Sep (PlayerR K p sh S :: R) H ∧ ∀ H', Sep (PlayerR K p sh S :: R) H' → Q (.int S.tm) H'
theorem ln_Player_ticks : ∀ vs H Q E, sp_Player_ticks K vs H Q E → vs.length = (["self"] : List Str).length := by
  rintro _ _ _ _ ⟨p, sh, S, R, rfl, _⟩
  rfl
theorem sc_Player_ticks : FnScope ["self"] ["self"] (defScope s_Player_ticks) := ⟨rfl, rfl, rfl, by decide +kernel, rfl, by decide +kernel, by decide +kernel⟩
theorem ok_Player_ticks (T : Top K mg) : OkD P w K mg base d_Player_ticks 1 ["self"] (sp_Player_ticks K) := by
  refine okD (df_Player_ticks T) sc_Player_ticks (fun _ _ _ _ _ _ us hl => match us, hl with | [_], _ => rfl) ln_Player_ticks (fun cdv A outer s H vs Q E hr h => ⟨_,
      pss_one (ps_ret (pe_fld (pv 0) rfl)), ?_⟩)
  obtain ⟨p, sh, S, R, rfl, hS, h1⟩ := h
  obtain ⟨dx, o, v, so, pa, ro, hS⟩ := hS.opP
  walk_at "wo"
  have hS := Sep.clPA (K := K) (S) (p := p) (sh := sh) (dx := dx) (o := o) (v := v) (so := so) (pa := pa) (ro := ro) hS
  exact h1 _ hS
def sp_Player_log (K : PySem.W.Frag) : Sp := fun vs H Q E => ∃ (p sh : Addr) (S : PL) (R : List As), vs = [.ref p] ∧ Sep (PlayerR K p sh S :: R) H ∧ ∀ l H', Sep (RowsR l (rw2 S.rows) :: PlayerR K p sh S :: R) H' → Q (.ref l) H'
theorem ln_Player_log : ∀ vs H Q E, sp_Player_log K vs H Q E → vs.length = (["self"] : List Str).length := by
  rintro _ _ _ _ ⟨p, sh, S, R, rfl, _⟩
  rfl
theorem sc_Player_log : FnScope ["self"] ["self"] (defScope s_Player_log) := ⟨rfl, rfl, rfl, by decide +kernel, rfl, by decide +kernel, by decide +kernel⟩
theorem ok_Player_log (T : Top K mg) : OkD P w K mg base d_Player_log 1 ["self"] (sp_Player_log K) := by
  refine okD (df_Player_log T) sc_Player_log (fun _ _ _ _ _ _ us hl => match us, hl with | [_], _ => rfl) ln_Player_log (fun cdv A outer s H vs Q E hr h => ⟨_,
      pss_one (ps_ret (pe_callTy call_listOf (by rfl) (fr_list T) (by decide +kernel) (pa_cons (pe_fld (pv 0) rfl) pa_nil))), ?_⟩)
  obtain ⟨p, sh, S, R, rfl, hS, h1⟩ := h
  obtain ⟨dx, o, v, so, pa, ro, hS⟩ := hS.opP
  walk_at "wo"
  obtain ⟨ps, hS⟩ := (hS.own ro).opR
  refine x_listOf hS (sqL hS) fun r3 H hS => ?_
  have hS := Sep.dupA (A := TupA ps (rw2 S.rows)) (fun _ a => a.imm) (hS.to (A := TupA ps (rw2 S.rows)))
  have hS : Sep (pt r3 (.lst (ps.map V.ref)) :: TupA ps (rw2 S.rows) :: _) H := (hS.skip fun _ h => h.to (A := pt r3 (.lst (ps.map V.ref)))).swap
  have hS := Sep.clR ps hS
  have hS : Sep (pt ro (.lst (ps.map V.ref)) :: TupA ps (rw2 S.rows) :: _) H := (hS.to (A := TupA ps (rw2 S.rows))).skip (fun _ h => h.to (A := pt ro (.lst (ps.map V.ref)))) |>.swap
  have hS := Sep.clR ps hS
  have hS := Sep.clPA (K := K) (S) (p := p) (sh := sh) (dx := dx) (o := o) (v := v) (so := so) (pa := pa) (ro := ro) hS
  exact h1 _ _ (hS.of (by repeat (first | exact En.refl | exact En.nil | refine En.cons ?_ | refine En.drop ?_)))
theorem Sep.rows1 {l u : Addr} {a b c d : Int} {L R : List As} {H : Hp} (h : Sep L H) [q : Pks [pt l (.lst [.ref u]), pt u (.tup [.int a, .int b, .int c, .int d])] L R] : Sep (RowsR l [[a, b, c, d]] :: R) H := by
  have h : Sep (pt l (.lst [.ref u]) :: pt u (.tup ([a, b, c, d].map V.int)) :: R) H := q.en H h
  have h : Sep (pt l (.lst ([u].map V.ref)) :: TupA [u] [[a, b, c, d]] :: R) H := h.skip fun _ h => Sep.snocT (ps := []) (rs := []) (Sep.tup0 h)
  exact Sep.clR _ h
theorem Sep.rows2 {l u w : Addr} {a b c d e f g k : Int} {L R : List As} {H : Hp} (h : Sep L H) [q : Pks [pt l (.lst [.ref u, .ref w]), pt u (.tup [.int a, .int b, .int c, .int d]), pt w (.tup [.int e, .int f, .int g, .int k])] L R] : Sep (RowsR l [[a, b, c, d], [e, f, g, k]] :: R) H := by
  have h : Sep (pt l (.lst [.ref u, .ref w]) :: pt u (.tup ([a, b, c, d].map V.int)) :: pt w (.tup ([e, f, g, k].map V.int)) :: R) H := q.en H h
  have h : Sep (pt l (.lst ([u, w].map V.ref)) :: TupA [u, w] [[a, b, c, d], [e, f, g, k]] :: R) H := h.skip fun _ h => Sep.snocT (ps := [u]) (rs := [[a, b, c, d]]) (Sep.snocT (ps := []) (rs := []) (Sep.tup0 h))
  exact Sep.clR _ h
theorem Sep.rows2h {l u w : Addr} {a b c d e f g k : Int} {R : List As} {H : Hp} (h : Sep (pt l (.lst [.ref u, .ref w]) :: pt w (.tup [.int e, .int f, .int g, .int k]) :: pt u (.tup [.int a, .int b, .int c, .int d]) :: R) H) : Sep (RowsR l [[a, b, c, d], [e, f, g, k]] :: R) H :=
  Sep.rows2 (l := l) (u := u) (w := w) (h.skip fun _ h => h.swap)
def sp_Player_sounds (K : PySem.W.Frag) : Sp := fun vs H Q E => ∃ (p sh : Addr) (S : PL) (L : List (Str × Int)) (c n : Nat) (R : List As), vs = [.ref p] ∧ S.Ok L c n ∧ Sep (PlayerR K p sh S :: ShelfR K sh L :: R) H ∧
  ∀ l H', Sep (RowsR l (S.sounds L) :: PlayerR K p sh S :: ShelfR K sh L :: R) H' → Q (.ref l) H'
theorem ln_Player_sounds : ∀ vs H Q E, sp_Player_sounds K vs H Q E → vs.length = (["self"] : List Str).length := by
  rintro _ _ _ _ ⟨p, sh, S, L, c, n, R, rfl, _⟩
  rfl
theorem sc_Player_sounds : FnScope ["self", "entry", "spot", "whole", "left"] ["self"] (defScope s_Player_sounds) := ⟨rfl, rfl, rfl, by decide +kernel, rfl, by decide +kernel, by decide +kernel⟩
theorem ok_Player_sounds (T : Top K mg) : OkD P w K mg base d_Player_sounds 4 ["self"] (sp_Player_sounds K) := by
  refine okD (df_Player_sounds T) sc_Player_sounds (fun _ _ _ _ _ _ us hl => match us, hl with | [_], _ => rfl) ln_Player_sounds (fun cdv A outer s H vs Q E hr h => ⟨_,
      pss_cons (ps_if (pt_cmpR op_isN1 (pe_fld (pv 0) rfl) pe_non (nomark _))
       (pss_one (ps_ret (pe_lst pa_nil)))
       (pss_nil))
      (pss_cons (ps_if (pt_cmpR op_isN1 (pe_fld (pv 0) rfl) pe_non (nomark _))
       (pss_one (ps_ret (pe_lst (pa_cons (pe_tup (pa_cons (pe_fld (pv 0) rfl) (pa_cons (pe_fld (pv 0) rfl) (pa_cons pe_int (pa_cons pe_int pa_nil))))) pa_nil))))
       (pss_nil))
      (pss_cons (ps_asg (pe_fld (pv 0) rfl) (pg_tup (n := 3) rfl (pgs_cons (pg_name (i := 1) sc_Player_sounds.nd rfl (Or.inl rfl)) (pgs_cons (pg_name (i := 2) sc_Player_sounds.nd rfl (Or.inl rfl)) (pgs_cons (pg_name (i := 3) sc_Player_sounds.nd rfl (Or.inl rfl)) pgs_nil)))))
      (pss_cons (ps_set (i := 4) sc_Player_sounds.nd rfl (Or.inl rfl) (pe_op op_sub (px_meth (ok_Player_long T) (hr.mono (by decide)) (pv 0) (cl_Player T) (me_Player_long T) (fun σ => paD σ) (pa_cons (pv 1) pa_nil)) (pv 2)))
      (pss_one (ps_ret (pe_lst (pa_cons (pe_tup (pa_cons (pv 1) (pa_cons (pv 2) (pa_cons (pv 4) (pa_cons (pv 3) pa_nil))))) (pa_cons (pe_tup (pa_cons (pe_fld (pv 0) rfl) (pa_cons (pe_fld (pv 0) rfl) (pa_cons (pe_op op_sub (pv 3) (pv 4)) (pa_cons (pv 3) pa_nil))))) pa_nil)))))))), ?_⟩)
  obtain ⟨p, sh, S, L, cc, n, R, rfl, ok, hS, h1⟩ := h
  obtain ⟨dx, o, v, so, pa, ro, hS⟩ := hS.opP
  unfold PL.sounds at h1
  walk_at "go"
  cases hm : S.now with
  | none =>
    rw [hm] at h1
    dsimp only at h1
    walk_at "v"
    have hS := Sep.clPA (K := K) (S) (p := p) (sh := sh) (dx := dx) (o := o) (v := v) (so := so) (pa := pa) (ro := ro) hS
    have hS := Sep.tup0 hS
    have hS : Sep (pt u (.lst (([] : List Addr).map V.ref)) :: TupA [] [] :: _) H := (hS.skip fun _ h => h.to (A := pt u (.lst []))).swap
    have hS := Sep.clR [] hS
    exact h1 _ _ (hS.of (by repeat (first | exact En.refl | exact En.nil | refine En.cons ?_ | refine En.drop ?_)))
  | some m =>
    rw [hm] at h1 hS
    dsimp only at h1
    walk_at "v"
    cases hold : S.old with
    | none =>
      rw [hold] at h1 hS
      dsimp only at h1
      obtain ⟨e2, hS2⟩ := old_none (hS.to (A := OldA v none))
      subst e2
      replace hS := hS2
      walk_at "v"
      obtain ⟨l, rfl⟩ : ∃ l, l = u := ⟨_, rfl⟩
      have hS := Sep.rows1 (l := l) (u := u) (a := m) (b := S.spot) (c := 1) (d := 1) hS
      have hS := old_mk0 hS
      rw [← hm, ← hold] at hS
      have hS := Sep.clPA (K := K) (S) (p := p) (sh := sh) (dx := dx) (o := o) (v := .non) (so := so) (pa := pa) (ro := ro) hS
      exact h1 _ _ (hS.of (by repeat (first | exact En.refl | exact En.nil | refine En.cons ?_ | refine En.drop ?_)))
    | some r =>
      obtain ⟨e, s0, w0⟩ := r
      rw [hold] at h1 hS
      dsimp only at h1
      obtain ⟨t, e2, hS2⟩ := old_some (hS.to (A := OldA v (some (e, s0, w0))))
      subst e2
      replace hS := hS2
      walk_at "v"
      refine x_gtup (sqT hS) rfl ?_
      walk_at "v"
      have hS := Sep.oldA (u := t) (a := e) (b := s0) (c := w0) hS
      rw [← hm, ← hold] at hS
      have hS := Sep.clPA (K := K) (S) (p := p) (sh := sh) (dx := dx) (o := o) (v := .ref t) (so := so) (pa := pa) (ro := ro) hS
      refine ⟨p, sh, e, S, L, _, rfl, ok.t, ok.old _ hold, hS, fun H hS => ?_⟩
      obtain ⟨dx, o, v, so, pa, ro, hS⟩ := hS.opP
      rw [hm] at hS
      walk_at "v"
      have hS := Sep.rows2h hS
      rw [← hm] at hS
      have hS := Sep.clPA (K := K) (S) (p := p) (sh := sh) (dx := dx) (o := o) (v := v) (so := so) (pa := pa) (ro := ro) hS
      exact h1 _ _ (hS.of (by repeat (first | exact En.refl | exact En.nil | refine En.cons ?_ | refine En.drop ?_)))
theorem cut_fromV (xs : List V) (n : Nat) : cutV xs (some (n : Int)) none = xs.drop n := by
  unfold cutV
  rw [HT.sIx_nat, HT.sIx_none, List.take_of_length_le (by rw [List.length_drop]; omega)]
  by_cases h : n ≤ xs.length
  · rw [Nat.min_eq_left h]
  · rw [Nat.min_eq_right (by omega), List.drop_of_length_le (by omega), List.drop_of_length_le (by omega)]
def okAh (k : Int) : Prop := 0 ≤ k ∧ k ≤ 12
def sp_Player_ahead (K : PySem.W.Frag) : Sp := fun vs H Q E => ∃ (p sh : Addr) (k : Int) (S : PL) (L : List (Str × Int)) (c n : Nat) (R : List As), vs = [.ref p, .int k] ∧ S.Ok L c n ∧ n ≤ 50000 ∧ okOv S.ov ∧ S.Sp L ∧ Sep (PlayerR K p sh S :: ShelfR K sh L :: R) H ∧
  (okAh k → ∀ l H', Sep (RowsR l (rw2 (S.ahead L k.toNat)) :: PlayerR K p sh S :: ShelfR K sh L :: R) H' → Q (.ref l) H') ∧ (¬ okAh k → ∀ H', Sep (PlayerR K p sh S :: ShelfR K sh L :: R) H' → E (.ref (He.ga K "BadNumber")) none H')
theorem ln_Player_ahead : ∀ vs H Q E, sp_Player_ahead K vs H Q E → vs.length = (["self", "many"] : List Str).length := by
  rintro _ _ _ _ ⟨p, sh, k, S, L, c, n, R, rfl, _⟩
  rfl
end
end TR

set_option Elab.async false
set_option linter.all false
set_option maxRecDepth 100000
set_option maxHeartbeats 4000000
/-! .. -/

namespace TR
open PySem PySem.Spec PyProof.Rows L2
section
variable {P : Program} {w : World} {K : PySem.W.Frag} {mg : Str → Option Value} {base : Heap}
/-! ### what the light laws share -/
def LongsA (lg : Addr) (L : List (Str × Int)) : As := pt lg (.dK (shD L))
instance {lg : Addr} {L : List (Str × Int)} : Kys (LongsA lg L) lg := ⟨trivial⟩
instance {lg : Addr} {L : List (Str × Int)} {R : List As} : At lg (LongsA lg L :: R) (.dK (shD L)) R := ⟨En.refl⟩
/-! all that is told -/
def tD (r : List Int) : PyData := .tuple (r.map PyData.int)
def wholeD (S : PL) (L : List (Str × Int)) : PyData := .tuple [.tuple [oD S.now, .int S.spot, .bool S.pl], .list (S.o.q.turn.map PyData.int), .list ((S.sounds L).map tD), .list ((rw2 S.rows).map tD), .int S.tm]
theorem shd_tD (rs : List (List Int)) : ∀ d ∈ rs.map tD, ShD 1 d := fun d hd => by
  obtain ⟨r, _, rfl⟩ := List.mem_map.mp hd
  exact shd_tup (n := 0) (shd_ints r)
theorem shaped_whole (S : PL) (L : List (Str × Int)) : SeqAt.shaped (wholeD S L) = true := by
  refine shaped_of (n := 3) (shd_tup (n := 2) fun d hd => ?_) (by decide)
  simp only [List.mem_cons, List.not_mem_nil, or_false] at hd
  rcases hd with rfl | rfl | rfl | rfl | rfl
  · refine (shd_tup (n := 0) fun d hd => ?_).mono (by decide)
    simp only [List.mem_cons, List.not_mem_nil, or_false] at hd
    rcases hd with rfl | rfl | rfl
    · exact shd_o _
    · exact shd_int _
    · exact shd_bl _
  · exact (shd_list (n := 0) (shd_ints _)).mono (by decide)
  · exact shd_list (n := 1) (shd_tD _)
  · exact shd_list (n := 1) (shd_tD _)
  · exact shd_int _
theorem dpAll_tup {H : Hp} : ∀ {ps : List Addr} {rs : List (List Int)}, TupA ps rs H → DpAll K H (ps.map V.ref) (rs.map tD)
  | [], [], _ => .nil
  | _ :: ps, r :: rs, ⟨a, b⟩ => .cons (.tup (.of a) (dpAll_ints r)) (dpAll_tup (ps := ps) (rs := rs) b)
theorem dp_rows {l : Addr} {rs : List (List Int)} {L R : List As} {H : Hp} (h : Sep L H) [q : Pk (RowsR l rs) L R] : Dp K H (.ref l) (.list (rs.map tD)) := by
  obtain ⟨ps, h⟩ := (h.to (A := RowsR l rs)).opR
  exact .lst (sqL h) (dpAll_tup (h.tupsOf (ps := ps) (rs := rs)))
def sp_l_all (K : PySem.W.Frag) : Sp := fun vs H Q E => ∃ (p sh : Addr) (S : PL) (L : List (Str × Int)) (c n : Nat) (R : List As), vs = [.ref p] ∧ S.Ok L c n ∧ Sep (PlayerR K p sh S :: ShelfR K sh L :: R) H ∧
  ∀ u H', Sep (DpA K (.ref u) (wholeD S L) :: PlayerR K p sh S :: ShelfR K sh L :: R) H' → Q (.ref u) H'
theorem ln_l_all : ∀ vs H Q E, sp_l_all K vs H Q E → vs.length = (["_law_player_here"] : List Str).length := by
  rintro _ _ _ _ ⟨p, sh, S, L, c, n, R, rfl, _⟩
  rfl
def nm6 : List Str := ["a", "b", "c", "d", "ee", "sixabc"]
structure okLg (L : List (Str × Int)) : Prop where
  nd : (L.map (·.1)).Nodup
  ok : ∀ z ∈ L.map (·.1), okName z
  len : L.length ≤ 6
  v : ∀ q ∈ L, 1 ≤ q.2 ∧ q.2 ≤ 40
theorem okLg6 {L : List (Str × Int)} (h : L.map (·.1) = nm6) (v : ∀ q ∈ L, 1 ≤ q.2 ∧ q.2 ≤ 40) : okLg L := by
  refine ⟨by rw [h]; decide +kernel, by rw [h]; decide +kernel, ?_, v⟩
  have := congrArg List.length h
  rw [List.length_map] at this
  rw [this]
  decide
def sp_l_shelf (K : PySem.W.Frag) : Sp := fun vs H Q E => ∃ (a t : Addr) (ns : List Int) (n : Nat) (R : List As), vs = [.ref a, .ref t] ∧ n ≤ 1000 ∧ Sep (ScrA K a ns :: TownA t n :: R) H ∧
  ∀ lg L H', L.map (·.1) = nm6 → okLg L → Sep (LongsA lg L :: ScrA K a ns :: TownA t (n + 12) :: R) H' → Q (.ref lg) H'
theorem ln_l_shelf : ∀ vs H Q E, sp_l_shelf K vs H Q E → vs.length = (["_law_script", "_law_town"] : List Str).length := by
  rintro _ _ _ _ ⟨a, t, ns, n, R, rfl, _⟩
  rfl
theorem lk_none {L : List (Str × Int)} {z : Str} (h : z ∉ L.map (·.1)) : lk L z = none := by
  unfold lk
  rw [Option.map_eq_none_iff, List.find?_eq_none]
  intro q hq e
  exact h (List.mem_map.mpr ⟨q, hq, of_decide_eq_true e⟩)
theorem nm6_fresh : ∀ i, i < 6 → nm6.getD i "" ∉ nm6.take i := by
  have h : ∀ i : Fin 6, nm6.getD i "" ∉ nm6.take i := by decide +kernel
  exact fun i hi => h ⟨i, hi⟩
theorem sc_l_shelf : FnScope ["_law_script", "_law_town", "_law_found", "_law_name"] ["_law_script", "_law_town"] (defScope s_l_shelf) := ⟨rfl, rfl, rfl, by decide +kernel, rfl, by decide +kernel, by decide +kernel⟩
theorem ok_l_shelf (T : Top K mg) : OkD P w K mg base d_l_shelf 5 ["_law_script", "_law_town"] (sp_l_shelf K) := by
  refine okD (df_l_shelf T) sc_l_shelf (fun _ _ _ _ _ _ us hl => match us, hl with | [_, _], _ => rfl) ln_l_shelf (fun cdv A outer s H vs Q E hr h => ⟨_,
      pss_cons (ps_set (i := 2) sc_l_shelf.nd rfl (Or.inl rfl) pe_dnewK)
      (pss_cons (ps_for (passes_of rfl) rfl (pi_list (pe_lst (pa_cons pe_str (pa_cons pe_str (pa_cons pe_str (pa_cons pe_str (pa_cons pe_str (pa_cons pe_str pa_nil)))))))) (pg_name (i := 3) sc_l_shelf.nd rfl (Or.inl rfl))
       (pss_one (ps_dput (hu_of hr) (pv 2) (pv 3) (pe_op op_addA pe_int (px_call (ok_l_draw T) (hr.mono (by decide)) rfl (gl__law_draw T) (fun σ => paD σ) (pa_cons (pv 0) (pa_cons (pv 1) (pa_cons (px_call (ok_l_pick T) (hr.mono (by decide)) rfl (gl__law_pick T) (fun σ => paD σ) (pa_cons (pv 0) (pa_cons (pv 1) (pa_cons (pe_lst (pa_cons pe_int (pa_cons pe_int (pa_cons pe_int pa_nil)))) pa_nil)))) pa_nil))))) rfl)))
      (pss_one (ps_ret (pv 2)))), ?_⟩)
  obtain ⟨a, t, ns, n, R, rfl, hn, hS, h1⟩ := h
  walk_at "wo"
  rename Addr => g
  obtain ⟨d, rfl⟩ : ∃ d, d = u := ⟨_, rfl⟩
  have hS : Sep (pt g (.lst (nm6.map V.str)) :: pt d (.dK (shD [])) :: ScrA K a ns :: TownA t n :: R) H := hS
  refine y_forL (xs := nm6.map V.str) (fun i σ H => ∃ (L : List (Str × Int)) (b : Option V), σ = [some (.ref a), some (.ref t), some (.ref d), b] ∧ L.map (·.1) = nm6.take i ∧ (∀ q ∈ L, 1 ≤ q.2 ∧ q.2 ≤ 40) ∧ Sep (pt g (.lst (nm6.map V.str)) :: pt d (.dK (shD L)) :: ScrA K a ns :: TownA t (n + 2 * i) :: R) H)
    (sqL hS) ⟨[], _, rfl, rfl, (fun q hq => by cases hq), hS⟩ (fun i σ H _ ⟨_, _, _, _, _, hS⟩ => sqL hS) ?_ ?_
  · rintro i x σ H hx ⟨L, b, rfl, hL, hv, hS⟩
    rw [List.getElem?_map] at hx
    obtain ⟨z, hz, rfl⟩ := Option.map_eq_some_iff.mp hx
    have hi : i < 6 := (List.getElem?_eq_some_iff.mp hz).1
    have hlk : lk L z = none := lk_none (by
      rw [hL]
      have := nm6_fresh i hi
      rw [List.getD_eq_getElem?_getD, hz] at this
      exact this)
    have hLl : L.length = i := by
      have := congrArg List.length hL
      rw [List.length_map, List.length_take, show nm6.length = 6 from rfl] at this
      omega
    walk_at "w"
    refine pick_use (by intro h; cases h) (by omega) (hS.own3 a t u) fun v H hv2 hS => ?_
    obtain ⟨k, hk, hk2, rfl⟩ : ∃ k : Int, 0 < k ∧ k ≤ 40 ∧ v = V.int k := by
      simp only [List.mem_cons, List.not_mem_nil, or_false] at hv2
      rcases hv2 with h | h | h
      · exact ⟨3, by decide, by decide, h⟩
      · exact ⟨12, by decide, by decide, h⟩
      · exact ⟨40, by decide, by decide, h⟩
    walk_at "w"
    refine draw_use hk (by omega) (hS.own2 a t) fun j H hj hS => ?_
    walk_at "w"
    refine y_dps hS (by rw [shD_len]; omega) fun H hS => ?_
    rw [putK_new L z (1 + (j : Int)) hlk] at hS
    refine ⟨L ++ [(z, 1 + (j : Int))], _, rfl, ?_, ?_, show Sep (pt g (.lst (nm6.map V.str)) :: pt d (.dK (shD (L ++ [(z, 1 + (j : Int))]))) :: ScrA K a ns :: TownA t (n + 2 * i + 1 + 1) :: R) H from (hS.of (by repeat (first | exact En.refl | exact En.nil | refine En.cons ?_ | refine En.drop ?_)))⟩
    · rw [List.map_append, hL, List.take_add_one, hz] <;> rfl
    · intro q hq
      rcases List.mem_append.mp hq with hq | hq
      · exact hv q hq
      · rw [List.mem_singleton.mp hq]
        exact ⟨by show 1 ≤ 1 + (j : Int); omega, by show 1 + (j : Int) ≤ 40; omega⟩
  · rintro σ H ⟨L, b, rfl, hL, hv, hS⟩
    have hL : L.map (·.1) = nm6 := hL
    walk_at "w"
    exact h1 d L _ hL (okLg6 hL hv) (show Sep (pt d (.dK (shD L)) :: ScrA K a ns :: TownA t (n + 12) :: R) H from hS.tail)
def sp_l_made (K : PySem.W.Frag) : Sp := fun vs H Q E => ∃ (lg : Addr) (L : List (Str × Int)) (R : List As), vs = [.ref lg] ∧ okLg L ∧ Sep (LongsA lg L :: R) H ∧ ∀ sh H', Sep (ShelfR K sh L :: LongsA lg L :: R) H' → Q (.ref sh) H'
theorem ln_l_made : ∀ vs H Q E, sp_l_made K vs H Q E → vs.length = (["_law_longs"] : List Str).length := by
  rintro _ _ _ _ ⟨lg, L, R, rfl, _⟩
  rfl
theorem add_lg {L : List (Str × Int)} (h : okLg L) {i : Nat} {z : Str} {l : Int} (hi : L[i]? = some (z, l)) : addK (L.take i) z l = none := by
  have hm := List.mem_of_getElem? hi
  have hlt := (List.getElem?_eq_some_iff.mp hi).1
  have hlen := h.len
  refine (if_neg ?_).trans (if_pos (h.v _ hm))
  rintro (q | q | q)
  · exact q (h.ok z (List.mem_map.mpr ⟨_, hm, rfl⟩))
  · have : lk (L.take i) z = none := lk_none fun hz => by
      rw [List.map_take] at hz
      obtain ⟨k, hk, e⟩ := List.mem_take_iff_getElem.mp hz
      have nd := h.nd
      have hk2 : k < i := by omega
      have hil : i < (L.map (·.1)).length := by rw [List.length_map]; exact hlt
      have e2 : (L.map (·.1))[i] = z := by
        rw [List.getElem_map, (List.getElem?_eq_some_iff.mp hi).2]
      exact List.pairwise_iff_getElem.mp nd k i (by omega) hil hk2 (e.trans e2.symm)
    rw [this] at q
    cases q
  · rw [List.length_take] at q
    omega
theorem sc_l_made : FnScope ["_law_longs", "_law_found", "_law_name"] ["_law_longs"] (defScope s_l_made) := ⟨rfl, rfl, rfl, by decide +kernel, rfl, by decide +kernel, by decide +kernel⟩
theorem ok_l_made (T : Top K mg) : OkD P w K mg base d_l_made 3 ["_law_longs"] (sp_l_made K) := by
  refine okD (df_l_made T) sc_l_made (fun _ _ _ _ _ _ us hl => match us, hl with | [_], _ => rfl) ln_l_made (fun cdv A outer s H vs Q E hr h => ⟨_,
      pss_cons (ps_set (i := 1) sc_l_made.nd rfl (Or.inl rfl) (px_make0 (ok_Shelf_init T) (hr.mono (by decide)) (mk_Shelf T) rfl (gl_Shelf T) (fun σ => paD σ)))
      (pss_cons (ps_lock (ps_for (passes_of rfl) rfl (pi_keysM (pv 0)) (pg_name (i := 2) sc_l_made.nd rfl (Or.inl rfl))
       (pss_one (ps_expr (px_meth (ok_Shelf_add T) (hr.mono (by decide)) (pv 1) (cl_Shelf T) (me_Shelf_add T) (fun σ => paD σ) (pa_cons (pv 2) (pa_cons (pe_dget (hu_of hr) (pv 0) (pv 2) (fun _ _ => rfl)) pa_nil)))))))
      (pss_one (ps_ret (pv 1)))), ?_⟩)
  obtain ⟨lg, L, R, rfl, hL, hS, h1⟩ := h
  have hlen := hL.len
  walk_at "wo"
  refine y_mk hS fun q dx H hS => ?_
  refine ⟨q, dx, _, rfl, hS.own q, fun H hS => ?_⟩
  walk_at "w"
  refine x_lock (p := lg) (u := .dK (shD L)) hS trivial (fun od H hS => ?_) (fun z => z)
  walk_at "w"
  refine y_forK hS (fun i σ H => (∃ b, σ = [some (.ref lg), some (.ref q), b]) ∧ Sep (pt lg (.frz od (.dK (shD L))) :: ShelfR K q (L.take i) :: R) H) ⟨⟨_, rfl⟩, show Sep (pt lg (.frz od (.dK (shD L))) :: ShelfR K q [] :: R) H from (hS.of (by repeat (first | exact En.refl | exact En.nil | refine En.cons ?_ | refine En.drop ?_)))⟩ (fun i σ H _ ⟨_, hS⟩ => hS.at_) ?_ ?_
  · rintro i k v σ H hkv ⟨⟨b, rfl⟩, hS⟩
    unfold shD at hkv
    rw [List.getElem?_map] at hkv
    obtain ⟨⟨z, l⟩, hzl, e⟩ := Option.map_eq_some_iff.mp hkv
    cases e
    have hk := add_lg hL hzl
    have hm := List.mem_of_getElem? hzl
    have hzo := hL.ok z (List.mem_map.mpr ⟨_, hm, rfl⟩)
    have hv : lk L z = some l := by
      unfold lk
      cases hf : L.find? (fun q => q.1 = z) with
      | none => exact absurd (List.find?_eq_none.mp hf _ hm) (by simp)
      | some q =>
        have hq1 := List.mem_of_find?_eq_some hf
        have hq2 : q.1 = z := by simpa using List.find?_some hf
        obtain ⟨i1, hi1, e1⟩ := List.getElem_of_mem hq1
        obtain ⟨i2, hi2, e2⟩ := List.getElem_of_mem hm
        have : i1 = i2 := by
          rcases Nat.lt_trichotomy i1 i2 with h | h | h
          · exact absurd (by rw [List.getElem_map, List.getElem_map, e1, e2]; exact hq2) (List.pairwise_iff_getElem.mp hL.nd i1 i2 (by rw [List.length_map]; exact hi1) (by rw [List.length_map]; exact hi2) h)
          · exact h
          · exact absurd (by rw [List.getElem_map, List.getElem_map, e1, e2]; exact hq2.symm) (List.pairwise_iff_getElem.mp hL.nd i2 i1 (by rw [List.length_map]; exact hi2) (by rw [List.length_map]; exact hi1) h)
        subst this
        rw [e1] at e2
        rw [e2]
        rfl
    walk_at "w"
    refine y_dgf hS (v := .int l) (by rw [lk_val, hv] <;> rfl) ?_
    walk_at "w"
    refine ⟨q, z, l, L.take i, _, rfl, by have := hzo.1.2; omega, by rw [List.length_take]; omega, hS.own q, fun _ H hS => ?_, fun k hk2 => by rw [hk] at hk2; cases hk2⟩
    walk_at "w"
    refine ⟨⟨_, rfl⟩, ?_⟩
    rw [List.take_add_one, hzl]
    exact (hS.of (by repeat (first | exact En.refl | exact En.nil | refine En.cons ?_ | refine En.drop ?_)))
  · rintro σ H ⟨⟨b, rfl⟩, hS⟩
    rw [shD_len, List.take_length] at hS
    refine y_unlock hS (k := fun H hS => ?_)
    walk_at "w"
    exact h1 q _ (show Sep (ShelfR K q L :: pt lg (.dK (shD L)) :: R) H from (hS.of (by repeat (first | exact En.refl | exact En.nil | refine En.cons ?_ | refine En.drop ?_))))
section
variable {L : List (Str × Int)} {c n : Nat} {S : PL}
theorem PL.fin_q (S : PL) (L : List (Str × Int)) (m : Int) : (S.fin L m).o.q = S.o.q := by
  unfold PL.fin
  split <;> rfl
theorem PL.turn_q (S : PL) (L : List (Str × Int)) (m : Int) : (S.turn L m).o.q = S.o.q := by
  unfold PL.turn
  split
  · split
    · rw [PL.begin_q]
      exact S.next_q false
    · exact S.fin_q L m
  · exact S.fin_q L m
theorem PL.slept_o (S : PL) : S.slept.o = S.o := by
  unfold PL.slept
  split
  · split <;> rfl
  · rfl
theorem PL.step_q (S : PL) (L : List (Str × Int)) : (S.step L).o.q = S.o.q := by
  unfold PL.step
  split
  · rw [PL.slept_o, PL.turn_q] <;> rfl
  · rfl
theorem PL.tk_q (S : PL) (L : List (Str × Int)) : (S.tk L).o.q = S.o.q := by
  unfold PL.tk
  split
  · exact S.step_q L
  · rfl
theorem PL.tick_q (S : PL) (L : List (Str × Int)) : ∀ k, (S.tick L k).o.q = S.o.q
  | 0 => rfl
  | k + 1 => ((S.tick L k).tk_q L).trans (S.tick_q L k)
theorem PL.resume_q (S : PL) (L : List (Str × Int)) : (S.resume L).o.q = S.o.q := by
  show (S.resume0 L).o.q = _
  unfold PL.resume0
  split
  · rfl
  · split
    · rw [PL.begin_q]
      exact S.open_q
    · exact S.open_q
theorem PL.new_ok0 (L : List (Str × Int)) (ov sd : Int) (h : okSeed sd) : (PL.new ov sd).Ok L 0 0 := by
  refine ⟨⟨List.nodup_nil, List.nodup_nil, fun _ z => (by cases z), fun _ z => (by cases z), Nat.zero_le _, Nat.zero_le _, h, fun _ z => (by cases z)⟩, ?_, ?_, ?_, ?_, ?_, Nat.le_refl _, Nat.le_refl _⟩
  · intro z hz
    cases hz
  · intro e he
    cases he
  · intro r hr
    cases hr
  · intro e he
    cases he
  · intro e he
    cases he
end
def dr (ns : List Int) (n : Nat) (m : Int) : Nat := (draw ns (n + 1) m).toNat
theorem dr_lt {ns : List Int} {n : Nat} {m : Int} (h : 0 < m) : (dr ns n m : Int) < m := by
  have d := draw_ok ns (n + 1) h
  unfold dr
  omega
theorem getD_mem {α : Type} {xs : List α} {i : Nat} {d : α} (h : i < xs.length) : xs.getD i d ∈ xs := by
  rw [List.getD_eq_getElem?_getD, List.getElem?_eq_getElem h]
  exact List.getElem_mem h
theorem dr_mem {α : Type} {xs : List α} {ns : List Int} {n : Nat} {d : α} {m : Int} (hm : m = (xs.length : Nat)) (h : xs ≠ []) : xs.getD (dr ns n m) d ∈ xs := by
  have hl := List.length_pos_iff.mpr h
  have := dr_lt (ns := ns) (n := n) (m := m) (by omega)
  exact getD_mem (by omega)
theorem lk_isSome {L : List (Str × Int)} {z : Str} (h : z ∈ L.map (·.1)) : (lk L z).isSome = true := by
  obtain ⟨q, hq, rfl⟩ := List.mem_map.mp h
  unfold lk
  rw [Option.isSome_map, List.find?_isSome]
  exact ⟨q, hq, decide_eq_true rfl⟩
section
variable {a t q : Addr} {ns : List Int} {n : Nat} {m : Int} {R : List As} {H : Hp} {Q : VK} {E : XK}
theorem draw_is (hm : 0 < m) (hn : n ≤ 1000000) (hS : Sep (ScrA K a ns :: TownA t n :: R) H) (k : ∀ H', Sep (ScrA K a ns :: TownA t (n + 1) :: R) H' → Q (.int (dr ns n m : Nat)) H') : sp_l_draw K [.ref a, .ref t, .int m] H Q E := by
  refine ⟨a, t, ns, n, m, R, rfl, hm, hn, hS, fun H' hS' => ?_⟩
  have d := draw_ok ns (n + 1) hm
  have e : draw ns (n + 1) m = (dr ns n m : Nat) := by
    unfold dr
    omega
  rw [e]
  exact k H' hS'
theorem pick_is {xs : List V} (hx : xs ≠ []) (hn : n ≤ 1000000) (hS : Sep (ScrA K a ns :: TownA t n :: pt q (.lst xs) :: R) H) (k : ∀ H', Sep (ScrA K a ns :: TownA t (n + 1) :: pt q (.lst xs) :: R) H' → Q (xs.getD (dr ns n (xs.length : Nat)) .non) H') : sp_l_pick K [.ref a, .ref t, .ref q] H Q E :=
  ⟨a, t, q, ns, n, xs, R, rfl, hx, hn, hS, fun H' hS' => k H' hS'⟩
end
theorem nm6_get {i : Nat} (h : i < 6) : (nm6.map V.str).getD i .non = V.str (nm6.getD i "") := by
  rw [List.getD_eq_getElem?_getD, List.getD_eq_getElem?_getD, List.getElem?_map, List.getElem?_eq_getElem (show i < nm6.length from h)] <;> rfl
theorem ints_get {xs : List Int} {i : Nat} (h : i < xs.length) : (xs.map V.int).getD i .non = V.int (xs.getD i 0) := by
  rw [List.getD_eq_getElem?_getD, List.getD_eq_getElem?_getD, List.getElem?_map, List.getElem?_eq_getElem h] <;> rfl
theorem o_get {xs : List (Option Int)} {i : Nat} (h : i < xs.length) : (xs.map oV).getD i .non = oV (xs.getD i none) := by
  rw [List.getD_eq_getElem?_getD, List.getD_eq_getElem?_getD, List.getElem?_map, List.getElem?_eq_getElem h] <;> rfl
theorem str_get {xs : List Str} {i : Nat} (h : i < xs.length) : (xs.map V.str).getD i .non = V.str (xs.getD i "") := by
  rw [List.getD_eq_getElem?_getD, List.getD_eq_getElem?_getD, List.getElem?_map, List.getElem?_eq_getElem h] <;> rfl
theorem nats_get {xs : List Nat} {i : Nat} (h : i < xs.length) : (xs.map fun k => V.int (k : Nat)).getD i .non = V.int (xs.getD i 0 : Nat) := by
  rw [List.getD_eq_getElem?_getD, List.getD_eq_getElem?_getD, List.getElem?_map, List.getElem?_eq_getElem h] <;> rfl

end
end TR

set_option Elab.async false
set_option linter.all false
set_option maxRecDepth 100000
set_option maxHeartbeats 4000000
/-! .. -/

namespace TR
open PySem PySem.Spec PyProof.Rows L2
section
variable {P : Program} {w : World} {K : PySem.W.Frag} {mg : Str → Option Value} {base : Heap}
/-! ### what a law's call does -/
inductive Op where
  | nop | put (z : Str) (pl : Nat) | rem (e : Int) | mov (e : Int) (pl : Nat) | soon (e : Int) | again (z : Str) | mixed (b : Bool) | play (e : Int) | back | skip | stop (b : Bool) | sleep (k : Option Int) | seek (k : Int) | pause | resume | tick (k : Nat)
def PL.op (S : PL) (L : List (Str × Int)) : Op → PL
  | .nop => S
  | .put z pl => { S with o := S.o.put z pl }
  | .rem e => S.remove e
  | .mov e pl => S.move e pl
  | .soon e => S.playSoon e
  | .again z => { S with o := { S.o with ag := z } }
  | .mixed b => { S with o := S.o.setMixed b S.now }
  | .play e => S.play L e
  | .back => S.back L
  | .skip => S.skip L
  | .stop b => { S with st := b }
  | .sleep k => { S with sl := k }
  | .seek k => S.seek k
  | .pause => { S with pl := false }
  | .resume => S.resume L
  | .tick k => S.tick L k
def okOp (L : List (Str × Int)) (S : PL) : Op → Prop
  | .put z pl => (lk L z).isSome = true ∧ okPut S.o.q pl
  | .rem e => e ∈ S.o.q.turn
  | .mov e pl => e ∈ S.o.q.turn ∧ okMove S.o.q pl
  | .soon e => e ∈ S.o.q.turn
  | .again z => okWord z
  | .play e => e ∈ S.o.q.turn
  | .sleep k => okSl k
  | .seek k => ∃ m, S.now = some m ∧ 0 ≤ k ∧ k < S.o.q.lg L m
  | .tick k => k ≤ 60
  | _ => True
section
variable {L : List (Str × Int)} {c n : Nat} {S : PL}
theorem ent_mono {q q' : QS} (h : q.tunes.length ≤ q'.tunes.length) {e : Int} (he : q.ent e) : q'.ent e := ⟨he.1, by have := he.2; omega⟩
theorem lk_okv {L : List (Str × Int)} (hv : ∀ q ∈ L, 1 ≤ q.2 ∧ q.2 ≤ 40) {z : Str} (h : (lk L z).isSome = true) : ∃ l, lk L z = some l ∧ 1 ≤ l ∧ l ≤ 40 := by
  obtain ⟨l, hl⟩ := Option.isSome_iff_exists.mp h
  refine ⟨l, hl, ?_⟩
  unfold lk at hl
  obtain ⟨q, hq, rfl⟩ := Option.map_eq_some_iff.mp hl
  exact hv q (List.mem_of_find?_eq_some hq)
theorem put_turn (S : OS) (z : Str) (pl : Nat) : (S.put z pl).q = S.q.put z pl := by
  unfold OS.put
  split <;> rfl
theorem PL.Ok.put (h : S.Ok L c n) (hv : ∀ q ∈ L, 1 ≤ q.2 ∧ q.2 ≤ 40) (hc : c < 1000) {z : Str} {pl : Nat} (hz : (lk L z).isSome = true) (hp : okPut S.o.q pl) : ({ S with o := S.o.put z pl } : PL).Ok L (c + 1) n := by
  have htl := h.tl
  have ok := h.o.put (z := z) hp (by omega)
  rw [Int.toNat_natCast] at ok
  have ht := S.o.put_t z pl
  have hle : S.o.q.tunes.length ≤ (S.o.put z pl).q.tunes.length := by rw [ht, List.length_append]; omega
  refine ⟨ok, ?_, fun e he => ent_mono hle (h.now e he), fun r hr => ent_mono hle (h.old r hr), fun e he => ?_, fun e he => ent_mono hle (h.past e he), ?_, h.sz⟩
  · intro y hy
    have hy' : y ∈ (S.o.put z pl).q.tunes := hy
    rw [ht] at hy'
    rcases List.mem_append.mp hy' with hy' | hy'
    · exact h.t y hy'
    · rw [List.mem_singleton.mp hy']
      exact lk_okv hv hz
  · show e ∈ (S.o.put z pl).q.turn
    rw [put_turn]
    exact (insAt_perm _ _ _).mem_iff.mpr (List.mem_cons_of_mem _ (h.soon e he))
  · show (S.o.put z pl).q.tunes.length ≤ c + 1
    rw [ht, List.length_append, List.length_singleton]
    omega
theorem remove_turn (S : OS) (e : Int) (now : Option Int) : (S.remove e now).q = S.q.remove e := by
  unfold OS.remove
  split <;> rfl
theorem remove_wo {S : OS} (h : S.Ok) {e : Int} (he : e ∈ S.q.turn) (now : Option Int) : (S.remove e now).q.turn = wo e S.q.turn := by
  rw [remove_turn]
  exact wo_rem h.nd he
theorem PL.Ok.remove (h : S.Ok L c n) {e : Int} (he : e ∈ S.o.q.turn) : (S.remove e).Ok L c n := by
  have ht := S.o.remove_t e S.now
  have hle : S.o.q.tunes.length ≤ (S.o.remove e S.now).q.tunes.length := by rw [ht]; exact Nat.le_refl _
  refine ⟨h.o.remove he S.now, ?_, fun x hx => ent_mono hle (h.now x hx), fun r hr => ent_mono hle (h.old r hr), fun x hx => ?_, fun x hx => ent_mono hle (h.past x hx), ?_, ?_⟩
  · show okT L (S.o.remove e S.now).q
    unfold okT
    rw [ht]
    exact h.t
  · obtain ⟨h1, h2⟩ := mem_wo.mp hx
    show x ∈ (S.o.remove e S.now).q.turn
    rw [remove_wo h.o he]
    exact mem_wo.mpr ⟨h.soon x h1, h2⟩
  · show (S.o.remove e S.now).q.tunes.length ≤ c
    rw [ht]
    exact h.tl
  · have h1 := h.sz
    have h2 : (wo e S.soon).length ≤ S.soon.length := List.length_filter_le _ _
    show (wo e S.soon).length + S.past.length + S.rows.length ≤ n
    omega
theorem PL.Ok.move (h : S.Ok L c n) {e : Int} (he : e ∈ S.o.q.turn) (pl : Nat) : (S.move e pl).Ok L c n := by
  have hp := move_perm h.o he pl
  exact ⟨h.o.move he pl, h.t, h.now, h.old, fun x hx => hp.mem_iff.mpr (h.soon x hx), h.past, h.tl, h.sz⟩
theorem PL.Ok.playSoon (h : S.Ok L c n) {e : Int} (he : e ∈ S.o.q.turn) : (S.playSoon e).Ok L c (n + 1) := by
  refine ⟨h.o, h.t, h.now, h.old, fun x hx => ?_, h.past, h.tl, ?_⟩
  · rcases List.mem_append.mp hx with hx | hx
    · exact h.soon x hx
    · rw [List.mem_singleton.mp hx]; exact he
  · have := h.sz
    show (S.soon ++ [e]).length + S.past.length + S.rows.length ≤ n + 1
    rw [List.length_append, List.length_singleton]
    omega
theorem PL.Ok.seek (h : S.Ok L c n) (k : Int) : (S.seek k).Ok L c n := ⟨h.o, h.t, h.now, fun r hr => (by cases hr), h.soon, h.past, h.tl, h.sz⟩
theorem PL.Ok.op (h : S.Ok L c n) (hv : ∀ q ∈ L, 1 ≤ q.2 ∧ q.2 ≤ 40) (hc : c < 1000) {x : Op} (hx : okOp L S x) : (S.op L x).Ok L (c + 1) (n + 200) := by
  have up : ∀ {T : PL} {k : Nat}, T.Ok L c k → k ≤ n + 200 → T.Ok L (c + 1) (n + 200) := fun t hk => t.mono (Nat.le_succ c) hk
  cases x with
  | nop => exact up h (by omega)
  | put z pl => exact (h.put hv hc hx.1 hx.2).mono (Nat.le_refl _) (by omega)
  | rem e => exact up (h.remove hx) (by omega)
  | mov e pl => exact up (h.move hx.1 pl) (by omega)
  | soon e => exact up (h.playSoon hx) (by omega)
  | again z => exact up (h.ord (h.o.again z) rfl) (by omega)
  | mixed b => exact up (h.ord (h.o.setMixed b S.now) (S.o.setMixed_q b S.now)) (by omega)
  | play e => exact up (h.play hx) (by omega)
  | back => exact up h.back (by omega)
  | skip => exact up h.skip (by omega)
  | stop b => exact up (h.stops b) (by omega)
  | sleep k => exact up (h.sleep k) (by omega)
  | seek k => exact up (h.seek k) (by omega)
  | pause => exact up (h.plays false) (by omega)
  | resume => exact up h.resume (by omega)
  | tick k =>
    have hk : k ≤ 60 := hx
    exact up (h.tick k) (by omega)
/-! what plays is there; its spot -/
theorem lg_same {q q' : QS} (h : q'.tunes = q.tunes) (e : Int) : q'.lg L e = q.lg L e := by
  unfold QS.lg QS.tune
  rw [h]
theorem PL.Sp.same {T : PL} (hs : S.Sp L) (h1 : T.now = S.now) (h2 : T.spot = S.spot) (h3 : T.o.q.tunes = S.o.q.tunes) : T.Sp L := fun e he => by
  rw [h1] at he
  rw [h2, lg_same h3]
  exact hs e he
theorem lg_app {q q' : QS} {z : Str} (h : q'.tunes = q.tunes ++ [z]) {e : Int} (he : q.ent e) : q'.lg L e = q.lg L e := by
  have hl : (e - 1).toNat < q.tunes.length := by have := he.1; have := he.2; omega
  unfold QS.lg QS.tune
  rw [if_pos he.1, if_pos he.1, h, List.getElem?_append_left hl]
theorem PL.Ok.leave_q : (S.leave).o = S.o := rfl
theorem PL.Sp.op (h : S.Ok L c n) (hs : S.Sp L) {x : Op} (hx : okOp L S x) : (S.op L x).Sp L := by
  cases x with
  | nop => exact hs
  | put z pl =>
    intro e he
    obtain ⟨h1, h2⟩ := hs e he
    refine ⟨h1, ?_⟩
    show S.spot < (S.o.put z pl).q.lg L e
    rw [lg_app (S.o.put_t z pl) (h.now e he)]
    exact h2
  | rem e => exact PL.Sp.same hs rfl rfl (S.o.remove_t e S.now)
  | mov e pl => exact PL.Sp.same hs rfl rfl rfl
  | soon e => exact hs
  | again z => exact PL.Sp.same hs rfl rfl rfl
  | mixed b => exact PL.Sp.same hs rfl rfl (by show (S.o.setMixed b S.now).q.tunes = _; rw [S.o.setMixed_q])
  | play e => exact PL.Sp.begin (S := S.leave) h.t (fun y hy => by injection hy with hy; subst hy; exact h.o.ent hx) false
  | back =>
    have ag : ∀ T : PL, T.o = S.o → T.now = S.now → T.spot = S.spot → (T.again L).Sp L := fun T e1 e2 e3 => by
      unfold PL.again
      split
      · next m hm =>
        refine PL.Sp.begin (by rw [e1]; exact h.t) (fun y hy => ?_) false
        injection hy with hy
        subst hy
        rw [e1]
        exact h.now _ (e2.symm.trans hm)
      · exact PL.Sp.same hs e2 e3 (by rw [e1])
    show (S.back L).Sp L
    unfold PL.back
    split
    · exact ag _ rfl rfl rfl
    · next b hb =>
      split
      · exact ag _ rfl rfl rfl
      · refine PL.Sp.begin h.t (fun y hy => ?_) false
        injection hy with hy
        subst hy
        exact h.o.ent (pastIn_last hb)
  | skip =>
    refine PL.Sp.begin (S := (S.next true).1.leave) ?_ (fun y hy => ?_) false
    · show okT L (S.next true).1.o.q
      rw [S.next_q]
      exact h.t
    · show (S.next true).1.o.q.ent y
      rw [S.next_q]
      exact h.o.ent (h.next_mem hy)
  | stop b => exact hs
  | sleep k => exact hs
  | seek k =>
    obtain ⟨m, hm, h1, h2⟩ := hx
    intro e he
    rw [hm.symm.trans he |> Option.some.inj] at h2
    exact ⟨h1, h2⟩
  | pause => exact hs
  | resume =>
    show PL.Sp L { S.resume0 L with pl := _ }
    have : (S.resume0 L).Sp L := by
      unfold PL.resume0
      split
      · exact hs
      · split
        · next y hy =>
          refine PL.Sp.begin (by rw [S.open_q]; exact h.t) (fun x hx => ?_) false
          injection hx with hx
          subst hx
          rw [S.open_q]
          exact h.o.ent (h.open_mem hy)
        · next hm _ _ =>
          intro e he
          have : S.open.1.now = S.now := by
            unfold PL.open
            split <;> rfl
          rw [this, hm] at he
          cases he
    exact this
  | tick k => exact PL.Sp.tick h hs k
theorem PL.Pg.op (hp : S.Pg) (x : Op) : (S.op L x).Pg := by
  have bg : ∀ (T : PL) (e : Int) (j : Bool), (T.begin L (some e) j).Pg := fun T e j _ z => by cases z
  have ag : ∀ T : PL, T.Pg → (T.again L).Pg := fun T hT => by
    unfold PL.again
    split
    · exact bg _ _ _
    · exact hT
  cases x with
  | nop => exact hp
  | put z pl => exact hp
  | rem e => exact hp
  | mov e pl => exact hp
  | soon e => exact hp
  | again z => exact hp
  | mixed b => exact hp
  | play e => exact fun _ z => by cases z
  | back =>
    show (S.back L).Pg
    unfold PL.back
    split
    · exact ag _ hp
    · split
      · exact ag _ hp
      · exact bg _ _ _
  | skip =>
    intro h z
    have h' : ((S.skip0 L).pl && (S.next true).2.isSome) = true := h
    have z' : (S.next true).2 = none := z
    rw [z', Bool.and_comm] at h'
    cases h'
  | stop b => exact hp
  | sleep k => exact hp
  | seek k => exact hp
  | pause => exact fun h => by cases h
  | resume =>
    intro h z
    have h' : (S.resume0 L).now.isSome = true := h
    have z' : (S.resume0 L).now = none := z
    rw [z'] at h'
    cases h'
  | tick k => exact PL.Pg.tick hp k
theorem PL.op_ov (S : PL) (L : List (Str × Int)) (x : Op) : (S.op L x).ov = S.ov := by
  have ag : ∀ T : PL, (T.again L).ov = T.ov := fun T => by
    unfold PL.again
    split <;> rfl
  cases x with
  | back =>
    show (S.back L).ov = S.ov
    unfold PL.back
    split
    · exact ag _
    · split
      · exact ag _
      · rfl
  | skip => exact S.next_ov true
  | resume =>
    show (S.resume0 L).ov = S.ov
    have ho : S.open.1.ov = S.ov := by
      unfold PL.open
      split <;> rfl
    unfold PL.resume0
    split
    · rfl
    · split
      · exact ho
      · exact ho
  | tick k => exact S.tick_ov L k
  | _ => rfl
end

end
end TR

set_option Elab.async false
set_option linter.all false
set_option maxRecDepth 100000
set_option maxHeartbeats 4000000
/-! .. -/

namespace TR
open PySem PySem.Spec PyProof.Rows L2
section
variable {P : Program} {w : World} {K : PySem.W.Frag} {mg : Str → Option Value} {base : Heap}
/-! ### ticks one by one: what they add, when it ends -/
section
variable {L : List (Str × Int)} {c n : Nat} {S : PL}
theorem tick_add (S : PL) (L : List (Str × Int)) (a : Nat) : ∀ b, S.tick L (a + b) = (S.tick L a).tick L b
  | 0 => rfl
  | b + 1 => by
    show (S.tick L (a + b)).tk L = ((S.tick L a).tick L b).tk L
    rw [tick_add S L a b]
theorem tk_off (h : S.pl = false) : S.tk L = S := by
  unfold PL.tk
  rw [if_neg (by rw [h]; intro z; cases z)]
theorem tick_off (h : S.pl = false) : ∀ k, S.tick L k = S
  | 0 => rfl
  | k + 1 => by
    show (S.tick L k).tk L = S
    rw [tick_off h k, tk_off h]
theorem tk_on (h : S.pl = true) : S.tk L = S.step L := by
  unfold PL.tk
  rw [if_pos h]
/-- it plays on only where it played -/
theorem tick_pl {a b : Nat} (h : a ≤ b) (hp : (S.tick L b).pl = true) : (S.tick L a).pl = true := by
  cases q : (S.tick L a).pl with
  | true => rfl
  | false =>
    obtain ⟨d, rfl⟩ : ∃ d, b = a + d := ⟨b - a, by omega⟩
    rw [tick_add, tick_off q, q] at hp
    cases hp
theorem next_tm (S : PL) (l : Bool) : (S.next l).1.tm = S.tm := by
  unfold PL.next
  split <;> rfl
theorem next_rows (S : PL) (l : Bool) : (S.next l).1.rows = S.rows := by
  unfold PL.next
  split <;> rfl
theorem next_pl (S : PL) (l : Bool) : (S.next l).1.pl = S.pl := by
  unfold PL.next
  split <;> rfl
theorem next_st (S : PL) (l : Bool) : (S.next l).1.st = S.st := by
  unfold PL.next
  split <;> rfl
theorem next_sl (S : PL) (l : Bool) : (S.next l).1.sl = S.sl := by
  unfold PL.next
  split <;> rfl
/-- a turn: the next one begins, or the end, or nothing -/
theorem turn_three (S : PL) (L : List (Str × Int)) (m : Int) :
    (∃ f, S.found L m = some f ∧ S.o.q.lg L m - S.jl L m f ≤ S.spot ∧ S.turn L m = ({ (S.next false).1 with past := S.past ++ [m] } : PL).begin L (some f) (decide (S.spot < S.o.q.lg L m))) ∨
    (S.over L m = false ∧ S.o.q.lg L m ≤ S.spot ∧ S.turn L m = ({ ({ S with past := S.past ++ [m] } : PL).begin L none false with pl := false, st := false } : PL)) ∨ (S.over L m = false ∧ S.turn L m = S ∧ S.spot < S.o.q.lg L m) := by
  cases hb : S.over L m with
  | true =>
    obtain ⟨f, hf, hle⟩ := over_some hb
    exact .inl ⟨f, hf, hle, turn_some hf hle⟩
  | false =>
    rw [turn_fin hb]
    unfold PL.fin
    by_cases he : S.o.q.lg L m ≤ S.spot
    · rw [if_pos he]
      exact .inr (.inl ⟨rfl, he, rfl⟩)
    · rw [if_neg he]
      exact .inr (.inr ⟨rfl, rfl, by omega⟩)
theorem turn_tm (S : PL) (L : List (Str × Int)) (m : Int) : (S.turn L m).tm = S.tm := by
  rcases turn_three S L m with ⟨f, _, _, e⟩ | ⟨_, _, e⟩ | ⟨_, e, _⟩
  · rw [e]
    exact next_tm S false
  · rw [e] <;> rfl
  · rw [e]
theorem turn_rows (S : PL) (L : List (Str × Int)) (m : Int) : (S.turn L m).rows = S.rows ∨ ∃ f, (S.turn L m).rows = S.rows ++ [(S.tm, f)] := by
  rcases turn_three S L m with ⟨f, _, _, e⟩ | ⟨_, _, e⟩ | ⟨_, e, _⟩
  · refine .inr ⟨f, ?_⟩
    rw [e]
    show (S.next false).1.rows ++ [((S.next false).1.tm, f)] = _
    rw [next_rows, next_tm]
  · exact .inl (by rw [e] <;> rfl)
  · exact .inl (by rw [e])
theorem slept_tm (S : PL) : S.slept.tm = S.tm := by
  unfold PL.slept
  split
  · split <;> rfl
  · rfl
theorem slept_rows (S : PL) : S.slept.rows = S.rows := by
  unfold PL.slept
  split
  · split <;> rfl
  · rfl
theorem slept_none (h : S.sl = none) : S.slept = S := by
  unfold PL.slept
  rw [h]
theorem step_some {m : Int} (h : S.now = some m) : S.step L = ((S.ticked L).turn L m).slept := by
  unfold PL.step
  rw [h]
theorem step_tm (h : S.now ≠ none) : (S.step L).tm = S.tm + 1 := by
  obtain ⟨m, hm⟩ := Option.ne_none_iff_exists'.mp h
  rw [step_some hm, slept_tm, turn_tm] <;> rfl
theorem step_rows (h : S.now ≠ none) : (S.step L).rows = S.rows ∨ ∃ f, (S.step L).rows = S.rows ++ [(S.tm + 1, f)] := by
  obtain ⟨m, hm⟩ := Option.ne_none_iff_exists'.mp h
  rw [step_some hm, slept_rows]
  exact turn_rows (S.ticked L) L m
theorem turn_sl (S : PL) (L : List (Str × Int)) (m : Int) : (S.turn L m).sl = S.sl := by
  rcases turn_three S L m with ⟨f, _, _, e⟩ | ⟨_, _, e⟩ | ⟨_, e, _⟩
  · rw [e]
    exact next_sl S false
  · rw [e] <;> rfl
  · rw [e]
theorem step_sl (h : S.sl = none) : (S.step L).sl = none := by
  unfold PL.step
  split
  · next m hm =>
    have e : ((S.ticked L).turn L m).sl = none := (turn_sl _ L m).trans h
    rw [slept_none e, e]
  · exact h
theorem tick_sl (h : S.sl = none) : ∀ k, (S.tick L k).sl = none
  | 0 => h
  | k + 1 => by
    have ih := tick_sl h k
    show ((S.tick L k).tk L).sl = none
    unfold PL.tk
    split
    · exact step_sl ih
    · exact ih
/-- behind some ticks: the rows are those and some more, each told later than then, not later than now -/
theorem tick_more (hg : S.Pg) : ∀ d, ∃ ex, (S.tick L d).rows = S.rows ++ ex ∧ (∀ r ∈ ex, S.tm < r.1 ∧ r.1 ≤ (S.tick L d).tm) ∧ S.tm ≤ (S.tick L d).tm
  | 0 => ⟨[], (List.append_nil _).symm, fun _ h => (by cases h), Int.le_refl _⟩
  | d + 1 => by
    obtain ⟨ex, h1, h2, h3⟩ := tick_more hg d
    have hg2 := PL.Pg.tick (L := L) hg d
    show ∃ ex, ((S.tick L d).tk L).rows = S.rows ++ ex ∧ (∀ r ∈ ex, S.tm < r.1 ∧ r.1 ≤ ((S.tick L d).tk L).tm) ∧ S.tm ≤ ((S.tick L d).tk L).tm
    generalize S.tick L d = T at h1 h2 h3 hg2 ⊢
    cases hp : T.pl with
    | false =>
      rw [tk_off hp]
      exact ⟨ex, h1, h2, h3⟩
    | true =>
      rw [tk_on hp]
      have hn := hg2 hp
      have ht := step_tm (L := L) hn
      rcases step_rows (L := L) hn with e | ⟨f, e⟩
      · exact ⟨ex, by rw [e, h1], fun r hr => ⟨(h2 r hr).1, by have := (h2 r hr).2; omega⟩, by omega⟩
      · refine ⟨ex ++ [(T.tm + 1, f)], by rw [e, h1, List.append_assoc], fun r hr => ?_, by omega⟩
        rcases List.mem_append.mp hr with hr | hr
        · exact ⟨(h2 r hr).1, by have := (h2 r hr).2; omega⟩
        · rw [List.mem_singleton.mp hr]
          exact ⟨by show S.tm < T.tm + 1; omega, by rw [ht]; exact Int.le_refl _⟩
/-- so many ticks, where it plays on -/
theorem tick_tm (hg : S.Pg) : ∀ {k}, (∀ i, i < k → (S.tick L i).pl = true) → (S.tick L k).tm = S.tm + (k : Nat)
  | 0, _ => (Int.add_zero _).symm
  | k + 1, h => by
    have ih := tick_tm hg (k := k) fun i hi => h i (by omega)
    have hp := h k (Nat.lt_succ_self k)
    have e := step_tm (L := L) ((PL.Pg.tick (L := L) hg k) hp)
    show ((S.tick L k).tk L).tm = _
    rw [tk_on hp, e, ih]
    omega
/-- one tick adds one row at most -/
theorem tick_len (hg : S.Pg) (k : Nat) : (S.tick L k).rows.length ≤ (S.tick L (k + 1)).rows.length ∧ (S.tick L (k + 1)).rows.length ≤ (S.tick L k).rows.length + 1 := by
  have hg2 := PL.Pg.tick (L := L) hg k
  show _ ≤ ((S.tick L k).tk L).rows.length ∧ ((S.tick L k).tk L).rows.length ≤ _
  generalize S.tick L k = T at hg2 ⊢
  cases hp : T.pl with
  | false =>
    rw [tk_off hp]
    omega
  | true =>
    rw [tk_on hp]
    rcases step_rows (L := L) (hg2 hp) with e | ⟨f, e⟩
    · rw [e]
      omega
    · rw [e, List.length_append, List.length_singleton]
      omega
theorem tick_mono (hg : S.Pg) {a b : Nat} (h : a ≤ b) : (S.tick L a).rows.length ≤ (S.tick L b).rows.length := by
  obtain ⟨d, rfl⟩ : ∃ d, b = a + d := ⟨b - a, by omega⟩
  rw [tick_add]
  obtain ⟨ex, e, _⟩ := tick_more (L := L) (PL.Pg.tick (L := L) hg a) d
  rw [e, List.length_append]
  omega
/-! ahead, by ticks -/
theorem fore_tick (t : Nat) : ∀ k, ∃ j, j ≤ k ∧ S.fore L t k = S.tick L j ∧ (∀ i, i < j → (S.tick L i).pl = true ∧ (S.tick L i).rows.length < t) ∧ (j < k → ¬ ((S.tick L j).pl = true ∧ (S.tick L j).rows.length < t))
  | 0 => ⟨0, Nat.le_refl _, rfl, fun i h => absurd h (Nat.not_lt_zero i), fun h => absurd h (Nat.not_lt_zero 0)⟩
  | k + 1 => by
    obtain ⟨j, h1, h2, h3, h4⟩ := fore_tick t k
    by_cases hc : (S.tick L j).pl = true ∧ (S.tick L j).rows.length < t
    · have hj : j = k := by
        rcases Nat.lt_or_ge j k with z | z
        · exact absurd hc (h4 z)
        · omega
      subst hj
      have hc2 := hc
      rw [← h2] at hc2
      refine ⟨j + 1, Nat.le_refl _, ?_, fun i hi => ?_, fun h => absurd h (Nat.lt_irrefl _)⟩
      · rw [fore_go hc2, h2]
        show _ = (S.tick L j).tk L
        rw [tk_on hc.1]
      · rcases Nat.lt_or_ge i j with z | z
        · exact h3 i z
        · rw [show i = j by omega]
          exact hc
    · have hc2 := hc
      rw [← h2] at hc2
      refine ⟨j, by omega, ?_, h3, fun _ => hc⟩
      have := fore_stop hc2 1
      rw [this, h2]
theorem mu_pos (hp : S.pl = true) (t : Nat) : 0 < S.mu L t := by
  unfold PL.mu
  rw [if_pos hp]
  omega
/-- the measure goes down by each tick -/
theorem mu_tick (h : S.Ok L c n) (hs : S.Sp L) (hg : S.Pg) {t : Nat} : ∀ {j}, (∀ i, i < j → (S.tick L i).pl = true ∧ (S.tick L i).rows.length < t) → (S.tick L j).mu L t + j ≤ S.mu L t
  | 0, _ => Nat.le_refl _
  | j + 1, hi => by
    have ih := mu_tick h hs hg (j := j) fun i z => hi i (by omega)
    obtain ⟨hp, hr⟩ := hi j (Nat.lt_succ_self j)
    have hm := PL.mu_step (h.tick j) (PL.Sp.tick h hs j) (PL.Pg.tick (L := L) hg j) hp hr
    show ((S.tick L j).tk L).mu L t + (j + 1) ≤ _
    rw [tk_on hp]
    omega
theorem alike_on (hn : S.now ≠ none) : S.alike.pl = true := by
  show S.now.isSome = true
  cases h : S.now with
  | none => exact absurd h hn
  | some m => rfl
theorem ahead_none (hn : S.now = none) (k : Nat) : S.ahead L k = [] := by
  obtain ⟨j, _, h2, h3, _⟩ := fore_tick (S := S.alike) (L := L) (S.rows.length + k) 600
  have hp : S.alike.pl = false := by
    show S.now.isSome = false
    rw [hn] <;> rfl
  have hj : j = 0 := by
    rcases Nat.eq_zero_or_pos j with z | z
    · exact z
    · have := (h3 0 z).1
      rw [show S.alike.tick L 0 = S.alike from rfl, hp] at this
      cases this
  subst hj
  unfold PL.ahead
  rw [h2]
  show List.map _ (List.drop S.rows.length S.rows) = []
  rw [List.drop_of_length_le (Nat.le_refl _)] <;> rfl
/-- what is told ahead: behind j ticks it stops to look -/
structure AhD (S : PL) (L : List (Str × Int)) (k j : Nat) : Prop where
  le : j ≤ 600
  eq : S.ahead L k = ((S.alike.tick L j).rows.drop S.rows.length).map fun r => (r.1 - S.tm, r.2)
  lo : ∀ i, i < j → (S.alike.tick L i).pl = true ∧ (S.alike.tick L i).rows.length < S.rows.length + k
  hi : ¬ ((S.alike.tick L j).pl = true ∧ (S.alike.tick L j).rows.length < S.rows.length + k)
theorem ahead_ex (h : S.Ok L c n) (hs : S.Sp L) {k : Nat} (hk : k ≤ 12) : ∃ j, AhD S L k j := by
  obtain ⟨j, h1, h2, h3, h4⟩ := fore_tick (S := S.alike) (L := L) (S.rows.length + k) 600
  refine ⟨j, ⟨h1, by unfold PL.ahead; rw [h2], h3, ?_⟩⟩
  rcases Nat.lt_or_ge j 600 with z | z
  · exact h4 z
  · intro hc
    have hm := mu_tick h.alike (PL.Sp.alike hs) PL.Pg.alike h3
    have h0 := PL.mu_start h hs (k := k) hk
    have := mu_pos (L := L) hc.1 (S.rows.length + k)
    omega
/-- the ticks that matter: those up to the last beginning -/
structure AhJ (S : PL) (L : List (Str × Int)) (k j J : Nat) : Prop where
  le : J ≤ j
  rows : (S.alike.tick L J).rows = (S.alike.tick L j).rows
  lt : ∀ i, i < J → (S.alike.tick L i).rows.length < (S.alike.tick L J).rows.length
  pl : ∀ i, i ≤ J → (S.alike.tick L i).pl = true
end

end
end TR

set_option Elab.async false
set_option linter.all false
set_option maxRecDepth 100000
set_option maxHeartbeats 4000000
/-! .. -/

namespace TR
open PySem PySem.Spec PyProof.Rows L2
section
variable {P : Program} {w : World} {K : PySem.W.Frag} {mg : Str → Option Value} {base : Heap}
/-! ### what is told ahead comes -/
section
variable {L : List (Str × Int)} {c n : Nat} {S : PL}
theorem alike_self (hp : S.pl = true) (hn : S.now ≠ none) (hs : S.sl = none) : S.alike = S := by
  have e : S.now.isSome = S.pl := (alike_on hn).trans hp.symm
  unfold PL.alike
  rw [e, ← hs]
theorem resume_alike (hn : S.now ≠ none) (hs : S.sl = none) : S.resume L = S.alike := by
  obtain ⟨m, hm⟩ := Option.ne_none_iff_exists'.mp hn
  have e : S.resume0 L = S := by
    unfold PL.resume0
    rw [hm]
  unfold PL.resume PL.alike
  rw [e, ← hs]
/-- where one begins it plays on -/
theorem step_began (hn : S.now ≠ none) (hp : S.pl = true) (hs : S.sl = none) (hr : S.rows.length < (S.step L).rows.length) : (S.step L).pl = true := by
  obtain ⟨m, hm⟩ := Option.ne_none_iff_exists'.mp hn
  have e0 : ((S.ticked L).turn L m).sl = none := (turn_sl _ L m).trans hs
  rw [step_some hm, slept_none e0] at hr ⊢
  rcases turn_three (S.ticked L) L m with ⟨f, _, _, e⟩ | ⟨_, _, e⟩ | ⟨_, e, _⟩
  · rw [e]
    exact (next_pl (S.ticked L) false).trans hp
  · rw [e] at hr
    exact absurd hr (Nat.lt_irrefl _)
  · rw [e] at hr
    exact absurd hr (Nat.lt_irrefl _)
theorem first_at (f : Nat → Nat) (hf : ∀ i, f i ≤ f (i + 1)) (j : Nat) : ∀ j', j' ≤ j → f j' = f j → ∃ J, J ≤ j ∧ f J = f j ∧ ∀ i, i < J → f i < f j
  | 0, h, e => ⟨0, h, e, fun i z => absurd z (Nat.not_lt_zero i)⟩
  | j' + 1, h, e => by
    have mono : ∀ a d, f a ≤ f (a + d) := fun a d => by
      induction d with
      | zero => exact Nat.le_refl _
      | succ d ih => exact Nat.le_trans ih (hf (a + d))
    by_cases q : f j' = f j
    · exact first_at f hf j j' (by omega) q
    · refine ⟨j' + 1, h, e, fun i hi => ?_⟩
      have h1 := mono i (j' - i)
      rw [show i + (j' - i) = j' by omega] at h1
      have h2 := hf j'
      omega
theorem ahj_ex (hn : S.now ≠ none) {k j : Nat} (a : AhD S L k j) : ∃ J, AhJ S L k j J := by
  have hg : S.alike.Pg := PL.Pg.alike
  obtain ⟨J, h1, h2, h3⟩ := first_at (fun i => (S.alike.tick L i).rows.length) (fun i => (tick_len hg i).1) j j (Nat.le_refl _) rfl
  have hrows : (S.alike.tick L J).rows = (S.alike.tick L j).rows := by
    obtain ⟨d, rfl⟩ : ∃ d, j = J + d := ⟨j - J, by omega⟩
    obtain ⟨ex, e, _⟩ := tick_more (L := L) (PL.Pg.tick (L := L) hg J) d
    rw [← tick_add] at e
    rw [e] at h2 ⊢
    rw [List.length_append] at h2
    have : ex = [] := List.length_eq_zero_iff.mp (by omega)
    rw [this, List.append_nil]
  refine ⟨J, h1, hrows, fun i hi => by rw [h2]; exact h3 i hi, fun i hi => ?_⟩
  rcases Nat.lt_or_ge i j with z | z
  · exact (a.lo i z).1
  · have e1 : i = J := by omega
    have e2 : J = j := by omega
    rw [e1]
    rcases Nat.eq_zero_or_pos J with q | q
    · rw [q]
      exact alike_on hn
    · obtain ⟨J', rfl⟩ : ∃ J', J = J' + 1 := ⟨J - 1, by omega⟩
      have hp := (a.lo J' (by omega)).1
      have hlt := h3 J' (by omega)
      rw [← h2] at hlt
      have et : S.alike.tick L (J' + 1) = (S.alike.tick L J').step L := tk_on hp
      rw [et] at hlt ⊢
      exact step_began (PL.Pg.tick (L := L) hg J' hp) hp (tick_sl rfl J') hlt
/-- the rows told behind the time i, from then on -/
def leftD (D : List (Int × Int)) (i : Int) : List (Int × Int) := (D.filter fun r => decide (i < r.1)).map fun r => (r.1 - i, r.2)
section
variable {k j J : Nat}
theorem ahj_tm (b : AhJ S L k j J) {i : Nat} (hi : i ≤ J) : (S.alike.tick L i).tm = S.tm + (i : Nat) := tick_tm (S := S.alike) PL.Pg.alike fun x hx => b.pl x (by omega)
theorem ahj_len (a : AhD S L k j) (b : AhJ S L k j J) : (S.alike.tick L J).rows.length ≤ S.rows.length + k := by
  have hg : S.alike.Pg := PL.Pg.alike
  rcases Nat.eq_zero_or_pos J with z | z
  · rw [z]
    show S.rows.length ≤ _
    omega
  · obtain ⟨J', rfl⟩ : ∃ J', J = J' + 1 := ⟨J - 1, by omega⟩
    have := (a.lo J' (by have := b.le; omega)).2
    have := (tick_len (L := L) hg J').2
    omega
/-- rows behind i ticks, and those that come later -/
theorem ahj_split (a : AhD S L k j) (b : AhJ S L k j J) {i : Nat} (hi : i ≤ J) : ∃ ex1 ex2, (S.alike.tick L i).rows = S.rows ++ ex1 ∧ (S.alike.tick L J).rows = S.rows ++ ex1 ++ ex2 ∧ S.ahead L k = (ex1 ++ ex2).map (fun r => (r.1 - S.tm, r.2)) ∧ (∀ r ∈ ex1, r.1 ≤ S.tm + (i : Nat)) ∧ (∀ r ∈ ex2, S.tm + (i : Nat) < r.1) := by
  have hg : S.alike.Pg := PL.Pg.alike
  obtain ⟨ex1, e1, q1, _⟩ := tick_more (L := L) hg i
  obtain ⟨d, hd⟩ : ∃ d, J = i + d := ⟨J - i, by omega⟩
  obtain ⟨ex2, e2, q2, _⟩ := tick_more (L := L) (PL.Pg.tick (L := L) hg i) d
  rw [← tick_add, ← hd] at e2
  rw [ahj_tm b hi] at q1 q2
  refine ⟨ex1, ex2, e1, by rw [e2, e1] <;> rfl, ?_, fun r hr => (q1 r hr).2, fun r hr => (q2 r hr).1⟩
  rw [a.eq, ← b.rows, e2, e1]
  show List.map _ (List.drop S.rows.length (S.rows ++ ex1 ++ ex2)) = _
  rw [List.append_assoc, List.drop_append_of_le_length (Nat.le_refl _), List.drop_of_length_le (Nat.le_refl _), List.nil_append]
theorem left_of {ex1 ex2 : List (Int × Int)} {t : Int} {i : Nat} (h1 : ∀ r ∈ ex1, r.1 ≤ t + (i : Nat)) (h2 : ∀ r ∈ ex2, t + (i : Nat) < r.1) : leftD ((ex1 ++ ex2).map fun r => (r.1 - t, r.2)) (i : Nat) = ex2.map fun r => (r.1 - (t + (i : Nat)), r.2) := by
  unfold leftD
  rw [List.map_append, List.filter_append]
  have f1 : (ex1.map fun r => (r.1 - t, r.2)).filter (fun r => decide (((i : Nat) : Int) < r.1)) = [] := List.filter_eq_nil_iff.mpr fun r hr => by
    obtain ⟨q, hq, rfl⟩ := List.mem_map.mp hr
    have := h1 q hq
    simp only [decide_eq_true_eq]
    omega
  have f2 : (ex2.map fun r => (r.1 - t, r.2)).filter (fun r => decide (((i : Nat) : Int) < r.1)) = ex2.map fun r => (r.1 - t, r.2) := List.filter_eq_self.mpr fun r hr => by
    obtain ⟨q, hq, rfl⟩ := List.mem_map.mp hr
    have := h2 q hq
    simp only [decide_eq_true_eq]
    omega
  rw [f1, f2, List.nil_append, List.map_map]
  refine List.map_congr_left fun r _ => ?_
  show (r.1 - t - (i : Nat), r.2) = _
  rw [show r.1 - t - (i : Nat) = r.1 - (t + (i : Nat)) by omega]
/-- asked again on the way, the rest is told -/
theorem ahead_mid (h : S.Ok L c n) (hs : S.Sp L) (hk : k ≤ 12) (a : AhD S L k j) (b : AhJ S L k j J) {i : Nat} (hi : i ≤ J) : (S.alike.tick L i).ahead L (leftD (S.ahead L k) (i : Nat)).length = leftD (S.ahead L k) (i : Nat) := by
  have hg : S.alike.Pg := PL.Pg.alike
  obtain ⟨ex1, ex2, e1, e2, ea, q1, q2⟩ := ahj_split a b hi
  have el : leftD (S.ahead L k) (i : Nat) = ex2.map fun r => (r.1 - (S.tm + (i : Nat)), r.2) := by
    rw [ea]
    exact left_of q1 q2
  have hlen : (leftD (S.ahead L k) (i : Nat)).length = ex2.length := by rw [el, List.length_map]
  have hp := b.pl i hi
  have htm := ahj_tm b hi
  have hself : (S.alike.tick L i).alike = S.alike.tick L i := alike_self hp (PL.Pg.tick (L := L) hg i hp) (tick_sl rfl i)
  have hex : ex2.length ≤ 12 := by
    have hJ := ahj_len a b
    rw [e2, List.length_append, List.length_append] at hJ
    omega
  obtain ⟨j', a'⟩ := ahead_ex (S := S.alike.tick L i) (L := L) (h.alike.tick i) (PL.Sp.tick h.alike (PL.Sp.alike hs) i) (k := (leftD (S.ahead L k) (i : Nat)).length) (by rw [hlen]; exact hex)
  have ht : (S.alike.tick L i).rows.length + (leftD (S.ahead L k) (i : Nat)).length = (S.alike.tick L J).rows.length := by
    rw [hlen, e1, e2, List.length_append, List.length_append, List.length_append]
  have lo' := a'.lo
  have hi' := a'.hi
  have eq' := a'.eq
  rw [hself] at lo' hi' eq'
  have hj : i + j' = J := by
    rcases Nat.lt_trichotomy (i + j') J with z | z | z
    · refine absurd ⟨?_, ?_⟩ hi'
      · rw [← tick_add]
        exact b.pl _ (by omega)
      · rw [← tick_add, ht]
        exact b.lt _ z
    · exact z
    · have := (lo' (J - i) (by omega)).2
      rw [← tick_add, show i + (J - i) = J by omega, ht] at this
      exact absurd this (Nat.lt_irrefl _)
  rw [eq', ← tick_add, hj, e2, e1, htm, el, List.drop_append_of_le_length (Nat.le_refl _), List.drop_of_length_le (Nat.le_refl _), List.nil_append]
/-- the last one comes at the last tick -/
theorem ahead_last (a : AhD S L k j) (b : AhJ S L k j J) : (S.ahead L k = [] ∧ J = 0) ∨ ∃ (D : List (Int × Int)) (f : Int), S.ahead L k = D ++ [(((J : Nat) : Int), f)] := by
  have hg : S.alike.Pg := PL.Pg.alike
  rcases Nat.eq_zero_or_pos J with z | z
  · refine .inl ⟨?_, z⟩
    rw [a.eq, ← b.rows, z]
    show List.map _ (List.drop S.rows.length S.rows) = []
    rw [List.drop_of_length_le (Nat.le_refl _)] <;> rfl
  · obtain ⟨J', rfl⟩ : ∃ J', J = J' + 1 := ⟨J - 1, by omega⟩
    have hp := b.pl J' (Nat.le_succ _)
    have hn := PL.Pg.tick (L := L) hg J' hp
    have et : S.alike.tick L (J' + 1) = (S.alike.tick L J').step L := tk_on hp
    have hlt := b.lt J' (Nat.lt_succ_self _)
    obtain ⟨ex, e1, _⟩ := tick_more (L := L) hg J'
    rw [et] at hlt
    rcases step_rows (L := L) hn with e | ⟨f, e⟩
    · rw [e] at hlt
      exact absurd hlt (Nat.lt_irrefl _)
    · refine .inr ⟨ex.map fun r => (r.1 - S.tm, r.2), f, ?_⟩
      rw [a.eq, ← b.rows, et, e, e1, ahj_tm b (Nat.le_succ _), List.append_assoc]
      show List.map _ (List.drop S.rows.length (S.rows ++ (ex ++ _))) = _
      rw [List.drop_append_of_le_length (Nat.le_refl _), List.drop_of_length_le (Nat.le_refl _), List.nil_append, List.map_append]
      show _ ++ [(S.tm + (J' : Nat) + 1 - S.tm, f)] = _
      rw [show S.tm + (J' : Nat) + 1 - S.tm = ((J' + 1 : Nat) : Int) by omega]
/-- just these come -/
theorem ahead_rows (a : AhD S L k j) (b : AhJ S L k j J) : (S.alike.tick L J).rows = S.rows ++ (S.ahead L k).map fun r => (S.tm + r.1, r.2) := by
  obtain ⟨ex1, ex2, _, e2, ea, _, _⟩ := ahj_split a b (Nat.le_refl J)
  rw [ea, e2, List.map_map, List.append_assoc]
  congr 1
  have : ((ex1 ++ ex2).map ((fun r : Int × Int => (S.tm + r.1, r.2)) ∘ fun r => (r.1 - S.tm, r.2))) = (ex1 ++ ex2).map id := List.map_congr_left fun r _ => by
    show (S.tm + (r.1 - S.tm), r.2) = r
    rw [show S.tm + (r.1 - S.tm) = r.1 by omega]
  rw [this, List.map_id]
theorem ahead_len (a : AhD S L k j) (b : AhJ S L k j J) : (S.ahead L k).length ≤ k ∧ J ≤ 600 := by
  have hJ := ahj_len a b
  rw [ahead_rows a b, List.length_append, List.length_map] at hJ
  have := b.le
  have := a.le
  omega
/-- where fewer are told it ends then -/
theorem ahead_ends (h : S.Ok L c n) (hs : S.Sp L) (a : AhD S L k j) (b : AhJ S L k j J) (hl : (S.ahead L k).length < k) {d : Nat} (hd : 90 ≤ d) : (S.alike.tick L (J + d)).rows.length = (S.alike.tick L J).rows.length ∧ (S.alike.tick L (J + d)).pl = false := by
  have hg : S.alike.Pg := PL.Pg.alike
  have hr := ahead_rows a b
  have hlen : (S.alike.tick L j).rows.length < S.rows.length + k := by
    rw [← b.rows, hr, List.length_append, List.length_map]
    omega
  have hoff : (S.alike.tick L j).pl = false := by
    cases q : (S.alike.tick L j).pl with
    | false => rfl
    | true => exact absurd ⟨q, hlen⟩ a.hi
  have hj : j ≤ J + 90 := by
    have okJ := h.alike.tick (L := L) J
    have spJ := PL.Sp.tick h.alike (PL.Sp.alike hs) J
    have gJ := PL.Pg.tick (L := L) hg J
    have hm := mu_tick okJ spJ gJ (t := (S.alike.tick L J).rows.length + 1) (j := j - J) fun i hi => by
      rw [← tick_add]
      refine ⟨(a.lo (J + i) (by omega)).1, ?_⟩
      have := tick_mono (L := L) hg (a := J + i) (b := j) (by omega)
      rw [← b.rows] at this
      omega
    have hb : (S.alike.tick L J).mu L ((S.alike.tick L J).rows.length + 1) ≤ 82 := by
      unfold PL.mu
      split
      · rw [show (S.alike.tick L J).rows.length + 1 - (S.alike.tick L J).rows.length = 1 by omega]
        split
        · next m hm =>
          obtain ⟨_, _, _, _, h40⟩ := lg_ent okJ.t (okJ.now m hm)
          have h0 := (spJ m hm).1
          have : ((S.alike.tick L J).o.q.lg L m - (S.alike.tick L J).spot).toNat ≤ 40 := Int.toNat_le.mpr (by omega)
          omega
        · omega
      · exact Nat.zero_le _
    omega
  obtain ⟨e, he⟩ : ∃ e, J + d = j + e := ⟨J + d - j, by omega⟩
  rw [he, tick_add, tick_off hoff]
  exact ⟨by rw [b.rows], hoff⟩
end
end

end
end TR

set_option Elab.async false
set_option linter.all false
set_option maxRecDepth 100000
set_option maxHeartbeats 4000000
/-! .. -/

namespace TR
open PySem PySem.Spec PyProof.Rows L2
section
variable {P : Program} {w : World} {K : PySem.W.Frag} {mg : Str → Option Value} {base : Heap}
/-! ### rows: put together, gone through, compared -/
theorem TupA.app : ∀ {ps : List Addr} {rs : List (List Int)} {qs : List Addr} {ss : List (List Int)} {h : Hp}, TupA ps rs h → TupA qs ss h → TupA (ps ++ qs) (rs ++ ss) h
  | [], [], _, _, _, _, b => b
  | _ :: _, _ :: _, _, _, _, a, b => ⟨a.1, TupA.app a.2 b⟩
theorem Sep.appT {ps qs : List Addr} {rs ss : List (List Int)} {R : List As} {H : Hp} (h : Sep (TupA ps rs :: TupA qs ss :: R) H) : Sep (TupA (ps ++ qs) (rs ++ ss) :: R) H := Sep.join (fun _ _ _ s1 s2 a b => TupA.app (a.sb s1) (b.sb s2)) h
theorem Sep.appTA {u : Addr} (ps qs : List Addr) {rs ss : List (List Int)} {L R : List As} {H : Hp} (h : Sep L H) [q : Pks [pt u (.lst (ps.map V.ref ++ qs.map V.ref)), TupA ps rs, TupA qs ss] L R] : Sep (RowsR u (rs ++ ss) :: R) H := by
  have h := q.en H h
  rw [← List.map_append] at h
  exact Sep.clR _ (h.skip fun _ h => Sep.appT h)
theorem eqv_rows0 (rs : List (List Int)) : PyData.eqv (.list (rs.map tD)) (.list ([].map PyData.int)) = rs.isEmpty := by cases rs <;> rfl
theorem shaped_rows (rs : List (List Int)) : SeqAt.shaped (.list (rs.map tD)) = true := shaped_of (n := 2) (shd_list (n := 1) (shd_tD rs)) (by decide)
section
variable {K : PySem.W.Frag} {σ : L2.St} {H : Hp} {p q : Addr} {L R R' : List As} {Q : VK} {rs : List (List Int)}
theorem x_eqR0 (hS : Sep L H) [a : Pk (RowsR p rs) L R] [b : At q L (.lst []) R'] (k : Q (.bl rs.isEmpty) H) : rEqA K (.ref p) (.ref q) H Q :=
  x_eqD (dp_rows (rs := rs) hS) (dp_ints (ns := []) (sqL (a := b) hS)) (shaped_rows rs) (shaped_ints []) (by rw [eqv_rows0]; exact k)
theorem x_neR0 (hS : Sep L H) [a : Pk (RowsR p rs) L R] [b : At q L (.lst []) R'] (k : Q (.bl (!rs.isEmpty)) H) : rNeA K (.ref p) (.ref q) H Q :=
  x_neD (dp_rows (rs := rs) hS) (dp_ints (ns := []) (sqL (a := b) hS)) (shaped_rows rs) (shaped_ints []) (by rw [eqv_rows0]; exact k)
theorem x_neRR (rs : List (List Int)) (hS : Sep L H) [a : Pk (RowsR p rs) L R] [b : Pk (RowsR q rs) L R'] (k : Q (.bl false) H) : rNeA K (.ref p) (.ref q) H Q :=
  x_neD (dp_rows (rs := rs) hS) (dp_rows (rs := rs) (q := b) hS) (shaped_rows rs) (shaped_rows rs) (by rw [eqv_of (shaped_rows rs)]; exact k)
theorem x_eqRR (rs : List (List Int)) (hS : Sep L H) [a : Pk (RowsR p rs) L R] [b : Pk (RowsR q rs) L R'] (k : Q (.bl true) H) : rEqA K (.ref p) (.ref q) H Q :=
  x_eqD (dp_rows (rs := rs) hS) (dp_rows (rs := rs) (q := b) hS) (shaped_rows rs) (shaped_rows rs) (by rw [eqv_of (shaped_rows rs)]; exact k)
/-- how many rows -/
theorem x_lenR (hS : Sep L H) [a : Pk (RowsR p rs) L R] (k : Q (.int (rs.length : Nat)) H) : rLen K [.ref p] H Q := by
  obtain ⟨ps, hS⟩ := (a.en H hS).opR
  have hl := tupA_len (ro := p) (ps := ps) (rs := rs) hS
  refine x_lenL (sqL hS) ?_
  rw [List.length_map, hl]
  exact k
theorem atI_endV (xs : List V) (v : V) : atI (xs ++ [v]) (-1) = some v := by
  unfold atI ixN
  rw [if_neg (by decide), List.length_append, List.length_singleton, if_pos (by omega)]
  show (xs ++ [v])[_]? = _
  rw [show (-1 + ((xs.length + 1 : Nat) : Int)).toNat = xs.length by omega, List.getElem?_append_right (Nat.le_refl _), Nat.sub_self] <;> rfl
/-- the last row -/
theorem x_ixR1 {r : List Int} (hS : Sep L H) [a : Pk (RowsR p (rs ++ [r])) L R] (k : ∀ u, SqT K H u (r.map V.int) → Q (.ref u) H) : rIx K (.ref p) (.int (-1)) H Q := by
  obtain ⟨ps, hS⟩ := (a.en H hS).opR
  have hl := tupA_len (ro := p) (ps := ps) (rs := rs ++ [r]) hS
  rcases List.eq_nil_or_concat ps with z | ⟨qs, u, z⟩
  · rw [z, List.length_append] at hl
    cases hl
  · rw [List.concat_eq_append] at z
    subst z
    rw [List.length_append, List.length_append] at hl
    have hl : qs.length = rs.length := by simpa using hl
    obtain ⟨r', h1, h2⟩ := TupA.at_ (i := qs.length) (hS.tupsOf (ps := qs ++ [u]) (rs := rs ++ [r])) (p := u) (by rw [List.getElem?_append_right (Nat.le_refl _), Nat.sub_self] <;> rfl)
    rw [hl, List.getElem?_append_right (Nat.le_refl _), Nat.sub_self] at h1
    have h1 : r = r' := Option.some.inj h1
    subst h1
    refine x_ixL (v := .ref u) (sqL hS) ?_ (k u (.of h2))
    rw [List.map_append]
    show atI (qs.map V.ref ++ [V.ref u]) (-1) = _
    rw [atI_endV]
theorem y_lcRr {te : TE} {g : TG} {tt : TT} {vs : List Nat} {l : Addr} {qs : List Addr} {rows : List (Int × Int)} (f : Int × Int → Bool) (gg : Int × Int → Int × Int) (hS : Sep (pt l (.lst (qs.map V.ref)) :: TupA qs (rw2 rows) :: R) H) (hn : rows.length ≤ 100000)
    (hs : ∀ D us done r u H, r ∈ rows → (us.map V.ref).length ≤ 1000000 → SqT K H u [.int r.1, .int r.2] → Sep (pt D (.lst (us.map V.ref)) :: TupA us (rw2 done) :: pt l (.lst (qs.map V.ref)) :: TupA qs (rw2 rows) :: R) H →
      g (.ref u) (wipe σ vs) H (kLcb tt te D σ vs (fun H' => ∃ us' : List Addr, Sep (pt D (.lst (us'.map V.ref)) :: TupA us' (rw2 (if f r = true then done ++ [gg r] else done)) :: pt l (.lst (qs.map V.ref)) :: TupA qs (rw2 rows) :: R) H')))
    (hd : ∀ D H, Sep (RowsR D (rw2 ((rows.filter f).map gg)) :: RowsR l (rw2 rows) :: R) H → Q (.ref D) H) : kLcL K g tt te vs σ Q (.ref l) H := by
  have hql := tupA_len (ro := l) (ps := qs) (rs := rw2 rows) hS
  rw [rw2_len] at hql
  refine y_lcL (xs := qs.map V.ref) (sqL hS) hS (fun D i H => ∃ us : List Addr, Sep (pt D (.lst (us.map V.ref)) :: TupA us (rw2 (((rows.take i).filter f).map gg)) :: pt l (.lst (qs.map V.ref)) :: TupA qs (rw2 rows) :: R) H)
    (fun D H hS => ⟨[], ?_⟩) (fun D i H _ ⟨us, hS⟩ => sqL hS) (fun D i x H hx ⟨us, hS⟩ => ?_) (fun D H ⟨us, hS⟩ => ?_)
  · exact (Sep.tup0 hS).swap
  · rw [List.getElem?_map] at hx
    obtain ⟨q, hq, rfl⟩ := Option.map_eq_some_iff.mp hx
    obtain ⟨r0, hr0, hHq⟩ := TupA.at_ (hS.tupsOf (ps := qs) (rs := rw2 rows)) hq
    unfold rw2 at hr0
    rw [List.getElem?_map] at hr0
    obtain ⟨r, hr, rfl⟩ := Option.map_eq_some_iff.mp hr0
    have hul := tupA_len (ro := l) (ps := us) (rs := rw2 (((rows.take i).filter f).map gg)) hS
    rw [rw2_len, List.length_map] at hul
    have hb := List.length_filter_le f (rows.take i)
    have hb2 := List.length_take_le' i rows
    have e : ((rows.take (i + 1)).filter f).map gg = if f r = true then ((rows.take i).filter f).map gg ++ [gg r] else ((rows.take i).filter f).map gg := by
      rw [List.take_add_one, hr, List.filter_append]
      cases hf : f r
      · simp [hf]
      · simp [hf]
    rw [e]
    exact hs D us _ r q H (List.mem_of_getElem? hr) (by rw [List.length_map]; omega) (.of hHq) hS
  · rw [List.length_map, hql, List.take_length] at hS
    have hS := Sep.clRA (l := D) (rs := rw2 ((rows.filter f).map gg)) us hS
    have hS := Sep.clRA (l := l) (rs := rw2 rows) qs hS
    exact hd D H hS.swap
/-- entries of rows -/
theorem y_lcRe {te : TE} {g : TG} {tt : TT} {vs : List Nat} {l : Addr} {qs : List Addr} {rows : List (Int × Int)} (hS : Sep (pt l (.lst (qs.map V.ref)) :: TupA qs (rw2 rows) :: R) H) (hn : rows.length ≤ 100000)
    (hs : ∀ D (acc : List Int) r u H, r ∈ rows → (acc.map V.int).length ≤ 1000000 → SqT K H u [.int r.1, .int r.2] → Sep (pt D (.lst (acc.map V.int)) :: pt l (.lst (qs.map V.ref)) :: TupA qs (rw2 rows) :: R) H →
      g (.ref u) (wipe σ vs) H (kLcb tt te D σ vs (fun H' => Sep (pt D (.lst ((acc ++ [r.2]).map V.int)) :: pt l (.lst (qs.map V.ref)) :: TupA qs (rw2 rows) :: R) H')))
    (hd : ∀ D H, Sep (pt D (.lst ((rows.map (·.2)).map V.int)) :: RowsR l (rw2 rows) :: R) H → Q (.ref D) H) : kLcL K g tt te vs σ Q (.ref l) H := by
  have hql := tupA_len (ro := l) (ps := qs) (rs := rw2 rows) hS
  rw [rw2_len] at hql
  refine y_lcL (xs := qs.map V.ref) (sqL hS) hS (fun D i H => Sep (pt D (.lst (((rows.take i).map (·.2)).map V.int)) :: pt l (.lst (qs.map V.ref)) :: TupA qs (rw2 rows) :: R) H)
    (fun D H hS => hS) (fun D i H _ hS => sqL hS) (fun D i x H hx hS => ?_) (fun D H hS => ?_)
  · rw [List.getElem?_map] at hx
    obtain ⟨q, hq, rfl⟩ := Option.map_eq_some_iff.mp hx
    obtain ⟨r0, hr0, hHq⟩ := TupA.at_ (hS.tupsOf (ps := qs) (rs := rw2 rows)) hq
    unfold rw2 at hr0
    rw [List.getElem?_map] at hr0
    obtain ⟨r, hr, rfl⟩ := Option.map_eq_some_iff.mp hr0
    have hb2 := List.length_take_le' i rows
    have e : (rows.take (i + 1)).map (·.2) = (rows.take i).map (·.2) ++ [r.2] := by
      rw [List.take_add_one, hr, List.map_append] <;> rfl
    rw [e]
    exact hs D _ r q H (List.mem_of_getElem? hr) (by rw [List.length_map, List.length_map]; omega) (.of hHq) hS
  · rw [List.length_map, hql, List.take_length] at hS
    have hS := Sep.clRA (l := l) (rs := rw2 rows) qs hS
    exact hd D H hS.swap
end

end
end TR

set_option Elab.async false
set_option linter.all false
set_option maxRecDepth 100000
set_option maxHeartbeats 4000000
/-! .. -/

namespace TR
open PySem PySem.Spec PyProof.Rows L2
section
variable {P : Program} {w : World} {K : PySem.W.Frag} {mg : Str → Option Value} {base : Heap}
/-! ### one that goes on; sleep; a stop; what comes soon -/
section
variable {L : List (Str × Int)} {c n : Nat} {S : PL}
/-- at the tick at which one begins it is now, at its start -/
theorem step_now (hn : S.now ≠ none) (hs : S.sl = none) {f t : Int} (hr : (S.step L).rows = S.rows ++ [(t, f)]) : (S.step L).now = some f ∧ (S.step L).spot = 0 := by
  obtain ⟨m, hm⟩ := Option.ne_none_iff_exists'.mp hn
  have e0 : ((S.ticked L).turn L m).sl = none := (turn_sl _ L m).trans hs
  rw [step_some hm, slept_none e0] at hr ⊢
  have ne : ∀ {xs : List (Int × Int)} {x : Int × Int}, xs ≠ xs ++ [x] := fun {xs x} z => by
    have := congrArg List.length z
    rw [List.length_append, List.length_singleton] at this
    omega
  rcases turn_three (S.ticked L) L m with ⟨g, _, _, e⟩ | ⟨_, _, e⟩ | ⟨_, e, _⟩
  · rw [e] at hr ⊢
    have hr' : ((S.ticked L).next false).1.rows ++ [(((S.ticked L).next false).1.tm, g)] = S.rows ++ [(t, f)] := hr
    rw [next_rows] at hr'
    have hg : (S.rows ++ [(((S.ticked L).next false).1.tm, g)]) = S.rows ++ [(t, f)] := hr'
    have := List.append_cancel_left hg
    injection this with h1 _
    injection h1 with _ h2
    exact ⟨by rw [← h2] <;> rfl, rfl⟩
  · rw [e] at hr
    exact absurd hr ne
  · rw [e] at hr
    exact absurd hr ne
theorem ahead_now {k j J : Nat} (a : AhD S L k j) (b : AhJ S L k j J) {D : List (Int × Int)} {f : Int} (hD : S.ahead L k = D ++ [(((J : Nat) : Int), f)]) : (S.alike.tick L J).now = some f ∧ (S.alike.tick L J).spot = 0 ∧ 0 < J := by
  have hg : S.alike.Pg := PL.Pg.alike
  rcases Nat.eq_zero_or_pos J with z | z
  · rcases ahead_last a b with ⟨e, _⟩ | _
    · rw [e] at hD
      exact absurd hD.symm (by simp)
    · have hr := ahead_rows a b
      rw [z, hD, show (S.alike.tick L 0).rows = S.rows from rfl] at hr
      have := congrArg List.length hr
      rw [List.length_append, List.length_map, List.length_append, List.length_singleton] at this
      omega
  · obtain ⟨J', rfl⟩ : ∃ J', J = J' + 1 := ⟨J - 1, by omega⟩
    have hp := b.pl J' (Nat.le_succ _)
    have hn := PL.Pg.tick (L := L) hg J' hp
    have et : S.alike.tick L (J' + 1) = (S.alike.tick L J').step L := tk_on hp
    have hlt := b.lt J' (Nat.lt_succ_self _)
    have hr := ahead_rows a b
    rw [hD, List.map_append, ← List.append_assoc] at hr
    rw [et] at hlt hr ⊢
    rcases step_rows (L := L) hn with e | ⟨g, e⟩
    · rw [e] at hlt
      exact absurd hlt (Nat.lt_irrefl _)
    · have hgf : g = f := by
        rw [e] at hr
        have h1 := (List.append_inj' hr rfl).2
        injection h1 with h1 _
        injection h1 with _ h2
      rw [hgf] at e
      obtain ⟨q1, q2⟩ := step_now (L := L) hn (tick_sl rfl J') e
      exact ⟨q1, q2, z⟩
/-- rows that come are of the queue -/
theorem step_mem (h : S.Ok L c n) (hn : S.now ≠ none) (hr : S.rows.length < (S.step L).rows.length) : S.o.q.turn ≠ [] := by
  obtain ⟨m, hm⟩ := Option.ne_none_iff_exists'.mp hn
  rw [step_some hm, slept_rows] at hr
  rcases turn_three (S.ticked L) L m with ⟨g, hg, _, e⟩ | ⟨_, _, e⟩ | ⟨_, e, _⟩
  · have hf : ((S.ticked L).next false).2 = some g := by
      unfold PL.found at hg
      split at hg
      · exact hg
      · cases hg
    have := h.ticked.next_mem hf
    intro z
    rw [show (S.ticked L).o = S.o from rfl, z] at this
    cases this
  · rw [e] at hr
    exact absurd hr (Nat.lt_irrefl _)
  · rw [e] at hr
    exact absurd hr (Nat.lt_irrefl _)
theorem ahead_empty (h : S.Ok L c n) (hn : S.now ≠ none) {k j J : Nat} (a : AhD S L k j) (b : AhJ S L k j J) (ht : S.o.q.turn = []) : S.ahead L k = [] := by
  have hg : S.alike.Pg := PL.Pg.alike
  rcases ahead_last a b with ⟨e, _⟩ | ⟨D, f, hD⟩
  · exact e
  · obtain ⟨_, _, z⟩ := ahead_now a b hD
    obtain ⟨J', rfl⟩ : ∃ J', J = J' + 1 := ⟨J - 1, by omega⟩
    have hp := b.pl J' (Nat.le_succ _)
    have et : S.alike.tick L (J' + 1) = (S.alike.tick L J').step L := tk_on hp
    have hlt := b.lt J' (Nat.lt_succ_self _)
    rw [et] at hlt
    have := step_mem (h.alike.tick J') (PL.Pg.tick (L := L) hg J' hp) hlt
    rw [PL.tick_q S.alike L J'] at this
    exact absurd ht this
/-! one that goes on and on: the repeat is «all» -/
structure PL.Go (S : PL) : Prop where
  pl : S.pl = true
  st : S.st = false
  sl : S.sl = none
  now : S.now ≠ none
  ag : S.o.ag = "all"
  tn : S.o.q.turn ≠ []
theorem OS.pop_ag (S : OS) : S.pop.1.ag = S.ag := by
  unfold OS.pop
  split <;> rfl
theorem OS.skip_ag (S : OS) (e : Option Int) : (S.skip e).1.ag = S.ag := by
  unfold OS.skip OS.nextM
  split
  · split
    · exact OS.pop_ag _
    · exact OS.pop_ag _
  · rfl
theorem OS.after_ag (S : OS) (e : Option Int) : (S.after e).1.ag = S.ag := by
  unfold OS.after
  split
  · rfl
  · exact S.skip_ag e
theorem skip_all {S : OS} (h : S.ag = "all") (ht : S.q.turn ≠ []) (e : Option Int) : (S.skip e).2 ≠ none := by
  have hp : ∀ T : OS, T.deck ≠ [] → T.pop.2 ≠ none := fun T hT => by
    unfold OS.pop
    split
    · next hd => exact absurd hd hT
    · intro z; cases z
  unfold OS.skip
  split
  · unfold OS.nextM
    split
    · refine hp _ ?_
      have h1 := turnD_perm e (mixN S.d S.q.turn)
      have h2 := mixN_perm S.d S.q.turn
      intro z
      have z' : turnD e (mixN S.d S.q.turn) = [] := z
      rw [z'] at h1
      have := (h1.trans h2).length_eq
      exact ht (List.length_eq_zero_iff.mp this.symm)
    · next hh =>
      refine hp _ fun z => hh ⟨z, h⟩
  · show S.nextP e ≠ none
    obtain ⟨x, r, hx⟩ := List.exists_cons_of_ne_nil ht
    unfold OS.nextP
    split
    · next hlt =>
      rw [List.getElem?_eq_getElem hlt]
      intro z
      cases z
    · rw [hx]
      intro z
      cases z
theorem after_all {S : OS} (h : S.ag = "all") (ht : S.q.turn ≠ []) (e : Option Int) : (S.after e).2 ≠ none := by
  unfold OS.after
  split
  · next hh =>
    rw [h] at hh
    exact absurd hh.1 (by decide)
  · exact skip_all h ht e
theorem next_all (h : S.o.ag = "all") (ht : S.o.q.turn ≠ []) (l : Bool) : (S.next l).2 ≠ none := by
  unfold PL.next
  split
  · intro z; cases z
  · unfold PL.nx
    split
    · exact skip_all h ht S.now
    · exact after_all h ht S.now
theorem next_ag (S : PL) (l : Bool) : (S.next l).1.o.ag = S.o.ag := by
  unfold PL.next
  split
  · rfl
  · show (S.nx l).1.ag = S.o.ag
    unfold PL.nx
    split
    · exact S.o.skip_ag S.now
    · exact S.o.after_ag S.now
theorem begin_ag (S : PL) (L : List (Str × Int)) (e : Option Int) (j : Bool) : (S.begin L e j).o.ag = S.o.ag := by
  unfold PL.begin
  cases e <;> rfl
/-- where the next one is there it doesn't end -/
theorem no_end (h : S.Ok L c n) (hov : 0 ≤ S.ov) (hst : S.st = false) (hx : (S.next false).2 ≠ none) {m : Int} (hm : S.now = some m) (he : S.over L m = false) : S.spot < S.o.q.lg L m := by
  rcases Int.lt_or_le S.spot (S.o.q.lg L m) with z | z
  · exact z
  · obtain ⟨f, hf⟩ := Option.ne_none_iff_exists'.mp hx
    obtain ⟨_, _, _, h1, _⟩ := lg_ent h.t (h.now m hm)
    have e1 : S.found L m = some f := by
      unfold PL.found
      rw [if_pos ⟨hst, by omega⟩]
      exact hf
    obtain ⟨_, _, _, h2, _⟩ := lg_ent h.t (h.found_ent e1)
    unfold PL.over at he
    rw [e1] at he
    have := of_decide_eq_false he
    unfold PL.jl at this
    omega
theorem PL.Go.step (g : S.Go) (h : S.Ok L c n) (hov : 0 ≤ S.ov) : (S.step L).Go := by
  obtain ⟨m, hm⟩ := Option.ne_none_iff_exists'.mp g.now
  have e0 : ((S.ticked L).turn L m).sl = none := (turn_sl _ L m).trans g.sl
  rw [step_some hm, slept_none e0]
  have hx : ((S.ticked L).next false).2 ≠ none := next_all (S := S.ticked L) g.ag g.tn false
  rcases turn_three (S.ticked L) L m with ⟨f, _, _, e⟩ | ⟨hb, hle, e⟩ | ⟨_, e, _⟩
  · rw [e]
    refine ⟨(next_pl (S.ticked L) false).trans g.pl, (next_st (S.ticked L) false).trans g.st, (next_sl (S.ticked L) false).trans g.sl, fun z => (by cases z), ?_, ?_⟩
    · rw [begin_ag]
      exact (next_ag (S.ticked L) false).trans g.ag
    · rw [PL.begin_q]
      show ((S.ticked L).next false).1.o.q.turn ≠ []
      rw [PL.next_q]
      exact g.tn
  · have := no_end h.ticked hov g.st hx hm hb
    omega
  · rw [e]
    exact ⟨g.pl, g.st, g.sl, g.now, g.ag, g.tn⟩
theorem PL.Go.tick (g : S.Go) (h : S.Ok L c n) (hov : 0 ≤ S.ov) : ∀ k, (S.tick L k).Go
  | 0 => g
  | k + 1 => by
    have ih := PL.Go.tick g h hov k
    show ((S.tick L k).tk L).Go
    rw [tk_on ih.pl]
    exact ih.step (h.tick k) (by rw [PL.tick_ov]; exact hov)
theorem PL.Go.alike (g : S.Go) : S.alike = S := alike_self g.pl g.now g.sl
/-- as many are told as asked -/
theorem PL.Go.ahead (g : S.Go) (h : S.Ok L c n) (hs : S.Sp L) (hov : 0 ≤ S.ov) {k : Nat} (hk : k ≤ 12) : (S.ahead L k).length = k := by
  obtain ⟨j, a⟩ := ahead_ex h hs hk
  obtain ⟨J, b⟩ := ahj_ex g.now a
  rcases Nat.lt_or_ge (S.ahead L k).length k with z | z
  · have := (ahead_ends h hs a b z (Nat.le_refl 90)).2
    rw [g.alike, (g.tick h hov _).pl] at this
    cases this
  · have := (ahead_len a b).1
    omega
/-! sleep -/
theorem next_slp (S : PL) (k : Option Int) : ({ S with sl := k } : PL).next false = ({ (S.next false).1 with sl := k }, (S.next false).2) := by
  obtain ⟨ov, o, tm, now, spot, old, soon, past, rows, pl, st, sl⟩ := S
  cases soon <;> rfl
theorem found_sl (S : PL) (k : Option Int) (m : Int) : ({ S with sl := k } : PL).found L m = S.found L m := by
  unfold PL.found
  rw [next_slp]
theorem turn_slp (S : PL) (k : Option Int) (m : Int) : ({ S with sl := k } : PL).turn L m = { (S.turn L m) with sl := k } := by
  have hn : (({ S with sl := k } : PL).next false).1 = { (S.next false).1 with sl := k } := by rw [next_slp]
  unfold PL.turn
  rw [found_sl]
  split
  · next f _ =>
    by_cases hc : S.o.q.lg L m - S.jl L m f ≤ S.spot
    · rw [if_pos hc, if_pos (show ({ S with sl := k } : PL).o.q.lg L m - ({ S with sl := k } : PL).jl L m f ≤ ({ S with sl := k } : PL).spot from hc), hn]
      rfl
    · rw [if_neg hc, if_neg (show ¬ ({ S with sl := k } : PL).o.q.lg L m - ({ S with sl := k } : PL).jl L m f ≤ ({ S with sl := k } : PL).spot from hc)]
      unfold PL.fin
      by_cases hf : S.o.q.lg L m ≤ S.spot
      · rw [if_pos hf, if_pos (show ({ S with sl := k } : PL).o.q.lg L m ≤ ({ S with sl := k } : PL).spot from hf)] <;> rfl
      · rw [if_neg hf, if_neg (show ¬ ({ S with sl := k } : PL).o.q.lg L m ≤ ({ S with sl := k } : PL).spot from hf)]
  · unfold PL.fin
    by_cases hf : S.o.q.lg L m ≤ S.spot
    · rw [if_pos hf, if_pos (show ({ S with sl := k } : PL).o.q.lg L m ≤ ({ S with sl := k } : PL).spot from hf)] <;> rfl
    · rw [if_neg hf, if_neg (show ¬ ({ S with sl := k } : PL).o.q.lg L m ≤ ({ S with sl := k } : PL).spot from hf)]
theorem step_slp (hs : S.sl = none) (hn : S.now ≠ none) (k : Option Int) : ({ S with sl := k } : PL).step L = ({ (S.step L) with sl := k } : PL).slept := by
  obtain ⟨m, hm⟩ := Option.ne_none_iff_exists'.mp hn
  have e0 : ((S.ticked L).turn L m).sl = none := (turn_sl _ L m).trans hs
  rw [step_some hm, slept_none e0, step_some (S := { S with sl := k }) hm]
  show (({ (S.ticked L) with sl := k } : PL).turn L m).slept = _
  rw [turn_slp]
/-- asleep soon, it is as one that is not, till so many ticks were played -/
theorem sleep_till (hg : S.Pg) (hs : S.sl = none) (d : Nat) : ∀ k, k ≤ d → ∃ s, ({ S with sl := some (((d + 1 : Nat)) : Int) } : PL).tick L k = { (S.tick L k) with sl := s } ∧ ((S.tick L k).pl = true → s = some (((d + 1 - k : Nat)) : Int))
  | 0, _ => ⟨_, rfl, fun _ => rfl⟩
  | k + 1, hk => by
    obtain ⟨s, h1, h2⟩ := sleep_till hg hs d k (by omega)
    show ∃ s, (({ S with sl := some (((d + 1 : Nat)) : Int) } : PL).tick L k).tk L = { ((S.tick L k).tk L) with sl := s } ∧ (((S.tick L k).tk L).pl = true → _)
    rw [h1]
    have hsl := tick_sl (L := L) hs k
    have hg2 := PL.Pg.tick (L := L) hg k
    generalize S.tick L k = T at h2 hsl hg2 ⊢
    cases hp : T.pl with
    | false =>
      rw [tk_off hp, tk_off (S := { T with sl := s }) hp]
      exact ⟨s, rfl, fun z => by rw [hp] at z; cases z⟩
    | true =>
      rw [tk_on hp, tk_on (S := { T with sl := s }) hp, h2 hp, step_slp hsl (hg2 hp)]
      refine ⟨some (((d + 1 - (k + 1) : Nat)) : Int), ?_, fun _ => rfl⟩
      unfold PL.slept
      dsimp only
      rw [if_neg (by omega), show ((d + 1 - k : Nat) : Int) - 1 = ((d + 1 - (k + 1) : Nat) : Int) by omega]
theorem sleep_at (hg : S.Pg) (hs : S.sl = none) (d : Nat) : ∃ s, ({ S with sl := some (((d + 1 : Nat)) : Int) } : PL).tick L (d + 1) = { (S.tick L (d + 1)) with sl := s, pl := false } := by
  obtain ⟨s, h1, h2⟩ := sleep_till (L := L) hg hs d d (Nat.le_refl d)
  show ∃ s, (({ S with sl := some (((d + 1 : Nat)) : Int) } : PL).tick L d).tk L = { ((S.tick L d).tk L) with sl := s, pl := false }
  rw [h1]
  have hsl := tick_sl (L := L) hs d
  have hg2 := PL.Pg.tick (L := L) hg d
  generalize S.tick L d = T at h2 hsl hg2 ⊢
  cases hp : T.pl with
  | false =>
    rw [tk_off hp, tk_off (S := { T with sl := s }) hp]
    refine ⟨s, ?_⟩
    rw [← hp]
  | true =>
    rw [tk_on hp, tk_on (S := { T with sl := s }) hp, h2 hp, step_slp hsl (hg2 hp)]
    refine ⟨none, ?_⟩
    unfold PL.slept
    dsimp only
    rw [if_pos (by omega)]
theorem sleep_end (hg : S.Pg) (hs : S.sl = none) {d k : Nat} (hk : d + 1 ≤ k) : ∃ s, ({ S with sl := some (((d + 1 : Nat)) : Int) } : PL).tick L k = { (S.tick L (d + 1)) with sl := s, pl := false } := by
  obtain ⟨s, h⟩ := sleep_at (L := L) hg hs d
  obtain ⟨e, rfl⟩ : ∃ e, k = d + 1 + e := ⟨k - (d + 1), by omega⟩
  exact ⟨s, by rw [tick_add, h, tick_off rfl]⟩
/-! a stop -/
structure PL.Sto (S : PL) (m s : Int) : Prop where
  now : S.now = some m
  spot : S.spot = s
  pl : S.pl = true
  st : S.st = true
  sl : S.sl = none
theorem found_stop (h : S.st = true) (m : Int) : S.found L m = none := by
  unfold PL.found
  rw [if_neg (by rw [h]; intro z; cases z.1)]
theorem over_stop (h : S.st = true) (m : Int) : S.over L m = false := by
  unfold PL.over
  rw [found_stop h]
theorem sto_step {m s : Int} (h : S.Sto m s) (hs : s + 1 < S.o.q.lg L m) : (S.step L).Sto m (s + 1) ∧ (S.step L).o = S.o := by
  have e0 : ((S.ticked L).turn L m).sl = none := (turn_sl _ L m).trans h.sl
  rw [step_some h.now, slept_none e0, turn_fin (over_stop (S := S.ticked L) h.st m)]
  have hsp : (S.ticked L).spot = s + 1 := by
    show S.spot + 1 = s + 1
    rw [h.spot]
  unfold PL.fin
  rw [if_neg (by rw [hsp]; show ¬ S.o.q.lg L m ≤ s + 1; omega)]
  exact ⟨⟨h.now, hsp, h.pl, h.st, h.sl⟩, rfl⟩
theorem sto_tick {m s : Int} (h : S.Sto m s) : ∀ k : Nat, s + k < S.o.q.lg L m → (S.tick L k).Sto m (s + k) ∧ (S.tick L k).o = S.o
  | 0, _ => ⟨by rw [show s + ((0 : Nat) : Int) = s by omega]; exact h, rfl⟩
  | k + 1, hk => by
    obtain ⟨ih, io⟩ := sto_tick h k (by omega)
    show ((S.tick L k).tk L).Sto m _ ∧ ((S.tick L k).tk L).o = S.o
    rw [tk_on ih.pl]
    obtain ⟨q1, q2⟩ := sto_step (L := L) ih (by rw [io]; omega)
    rw [show s + ((k + 1 : Nat) : Int) = s + (k : Nat) + 1 by omega]
    exact ⟨q1, q2.trans io⟩
theorem sto_end {m s : Int} (h : S.Sto m s) (hs : S.o.q.lg L m ≤ s + 1) : (S.tick L 1).now = none ∧ (S.tick L 1).spot = 0 ∧ (S.tick L 1).pl = false ∧ (S.tick L 1).st = false ∧ (S.tick L 1).sl = none := by
  have e0 : ((S.ticked L).turn L m).sl = none := (turn_sl _ L m).trans h.sl
  have hsp : (S.ticked L).spot = s + 1 := by
    show S.spot + 1 = s + 1
    rw [h.spot]
  show (S.tk L).now = none ∧ _
  have e : S.tk L = (({ ({ (S.ticked L) with past := (S.ticked L).past ++ [m] } : PL).begin L none false with pl := false, st := false }) : PL) := by
    rw [tk_on h.pl, step_some h.now, slept_none e0, turn_fin (over_stop (S := S.ticked L) h.st m)]
    unfold PL.fin
    rw [if_pos (by rw [hsp]; exact hs)]
  show (S.tk L).now = none ∧ (S.tk L).spot = 0 ∧ (S.tk L).pl = false ∧ (S.tk L).st = false ∧ (S.tk L).sl = none
  rw [e]
  exact ⟨rfl, rfl, rfl, rfl, h.sl⟩
end

end
end TR

set_option Elab.async false
set_option linter.all false
set_option maxRecDepth 100000
set_option maxHeartbeats 4000000
/-! .. -/

namespace TR
open PySem PySem.Spec PyProof.Rows L2
section
variable {P : Program} {w : World} {K : PySem.W.Frag} {mg : Str → Option Value} {base : Heap}
/-! ### more for the ends of laws -/
section
variable {K : PySem.W.Frag} {H : Hp} {p q : Addr} {L R R' : List As} {Q : VK}
theorem dp_t3 {v : V} {d : PyData} {s : Int} {b : Bool} (hd : Dp K H v d) (hS : Sep L H) [a : At p L (.tup [v, .int s, .bl b]) R] : Dp K H (.ref p) (.tuple [d, .int s, .bool b]) := .tup (sqT hS) (.cons hd (.cons (.int _) (.cons (.bl _) .nil)))
theorem shaped_t3 (d : PyData) (s : Int) (b : Bool) (h : ShD 0 d) : SeqAt.shaped (.tuple [d, .int s, .bool b]) = true := shaped_of (n := 1) (shd_tup (n := 0) fun x hx => by
  simp only [List.mem_cons, List.not_mem_nil, or_false] at hx
  rcases hx with rfl | rfl | rfl
  · exact h
  · exact shd_int _
  · exact shd_bl _) (by decide)
/-- states told, the same -/
theorem x_neT3 (e : Option Int) {s : Int} {b : Bool} (hS : Sep L H) (a : At p L (.tup [oV e, .int s, .bl b]) R := by infer_instance) (c : At q L (.tup [oV e, .int s, .bl b]) R' := by infer_instance) (k : Q (.bl false) H) : rNeA K (.ref p) (.ref q) H Q :=
  x_neD (dp_t3 (dp_o e) hS (a := a)) (dp_t3 (dp_o e) hS (a := c)) (shaped_t3 _ _ _ (shd_o e)) (shaped_t3 _ _ _ (shd_o e)) (by rw [eqv_of (shaped_t3 _ _ _ (shd_o e))]; exact k)
theorem x_eqT3 (e : Option Int) {s : Int} {b : Bool} (hS : Sep L H) (a : At p L (.tup [oV e, .int s, .bl b]) R := by infer_instance) (c : At q L (.tup [oV e, .int s, .bl b]) R' := by infer_instance) (k : Q (.bl true) H) : rEqA K (.ref p) (.ref q) H Q :=
  x_eqD (dp_t3 (dp_o e) hS (a := a)) (dp_t3 (dp_o e) hS (a := c)) (shaped_t3 _ _ _ (shd_o e)) (shaped_t3 _ _ _ (shd_o e)) (by rw [eqv_of (shaped_t3 _ _ _ (shd_o e))]; exact k)
theorem dp_t2 {v : V} {d : PyData} {s : Int} (hd : Dp K H v d) (hS : Sep L H) [a : At p L (.tup [v, .int s]) R] : Dp K H (.ref p) (.tuple [d, .int s]) := .tup (sqT hS) (.cons hd (.cons (.int _) .nil))
theorem shaped_t2 (d : PyData) (s : Int) (h : ShD 0 d) : SeqAt.shaped (.tuple [d, .int s]) = true := shaped_of (n := 1) (shd_tup (n := 0) fun x hx => by
  simp only [List.mem_cons, List.not_mem_nil, or_false] at hx
  rcases hx with rfl | rfl
  · exact h
  · exact shd_int _) (by decide)
theorem x_neT2 (e : Option Int) {s : Int} (hS : Sep L H) (a : At p L (.tup [oV e, .int s]) R := by infer_instance) (c : At q L (.tup [oV e, .int s]) R' := by infer_instance) (k : Q (.bl false) H) : rNeA K (.ref p) (.ref q) H Q :=
  x_neD (dp_t2 (dp_o e) hS (a := a)) (dp_t2 (dp_o e) hS (a := c)) (shaped_t2 _ _ (shd_o e)) (shaped_t2 _ _ (shd_o e)) (by rw [eqv_of (shaped_t2 _ _ (shd_o e))]; exact k)
/-- a state's first two -/
theorem x_slT2 {v : V} {s : Int} {b : Bool} (hS : Sep L H) [a : At p L (.tup [v, .int s, .bl b]) R] (k : ∀ u H', Sep (pt u (.tup [v, .int s]) :: L) H' → Q (.ref u) H') : rSlT K (.ref p) none (some 2) H Q :=
  ⟨p, _, rfl, sqT hS, (by rintro ⟨_, h⟩; revert h; show ¬ (HT.sIx 3 3 (some 2) = 3); decide), fun l hl => k l _ (Sep.new (o := .tup [v, .int s]) hl hS)⟩
/-- the first row -/
theorem x_ixR0 {r : List Int} {rs : List (List Int)} (hS : Sep L H) [a : Pk (RowsR p (r :: rs)) L R] (k : ∀ u, SqT K H u (r.map V.int) → Q (.ref u) H) : rIx K (.ref p) (.int 0) H Q := by
  obtain ⟨ps, hS⟩ := (a.en H hS).opR
  have hl := tupA_len (ro := p) (ps := ps) (rs := r :: rs) hS
  cases ps with
  | nil => cases hl
  | cons u us =>
    obtain ⟨r', h1, h2⟩ := TupA.at_ (i := 0) (p := u) (hS.tupsOf (ps := u :: us) (rs := r :: rs)) rfl
    have h1 : r = r' := Option.some.inj h1
    subst h1
    exact x_ixL (v := .ref u) (sqL hS) (atI_nat (j := 0) rfl) (k u (.of h2))
end
section
variable {L : List (Str × Int)} {c n : Nat} {S : PL}
theorem resume_on {m : Int} (hm : S.now = some m) : S.resume L = { S with pl := true } := by
  have e : S.resume0 L = S := by
    unfold PL.resume0
    rw [hm]
  show ({ (S.resume0 L) with pl := (S.resume0 L).now.isSome } : PL) = _
  rw [e, show S.now.isSome = true by rw [hm] <;> rfl]
theorem resume_isSome (S : PL) (L : List (Str × Int)) : (S.resume L).pl = (S.resume L).now.isSome := rfl
theorem open_same (S : PL) : S.open.1.sl = S.sl ∧ S.open.1.st = S.st ∧ S.open.1.o.ag = S.o.ag := by
  unfold PL.open
  split
  · exact ⟨rfl, rfl, rfl⟩
  · refine ⟨rfl, rfl, ?_⟩
    show S.o.first.1.ag = S.o.ag
    unfold OS.first
    split
    · rfl
    · split
      · exact OS.pop_ag _
      · exact OS.pop_ag _
theorem resume_same (S : PL) (L : List (Str × Int)) : (S.resume L).sl = S.sl ∧ (S.resume L).st = S.st ∧ (S.resume L).o.ag = S.o.ag := by
  show (S.resume0 L).sl = S.sl ∧ (S.resume0 L).st = S.st ∧ (S.resume0 L).o.ag = S.o.ag
  obtain ⟨h1, h2, h3⟩ := open_same S
  unfold PL.resume0
  split
  · exact ⟨rfl, rfl, rfl⟩
  · split
    · exact ⟨h1, h2, (begin_ag _ _ _ _).trans h3⟩
    · exact ⟨h1, h2, h3⟩
theorem again_same (S : PL) (L : List (Str × Int)) : (S.again L).sl = S.sl ∧ (S.again L).st = S.st ∧ (S.again L).o.ag = S.o.ag := by
  unfold PL.again
  split
  · exact ⟨rfl, rfl, begin_ag _ _ _ _⟩
  · exact ⟨rfl, rfl, rfl⟩
theorem back_same (S : PL) (L : List (Str × Int)) : (S.back L).sl = S.sl ∧ (S.back L).st = S.st ∧ (S.back L).o.ag = S.o.ag := by
  unfold PL.back
  split
  · exact again_same _ L
  · split
    · exact again_same _ L
    · exact ⟨rfl, rfl, begin_ag _ _ _ _⟩
theorem ahead_bound (h : S.Ok L c n) (hs : S.Sp L) {k j : Nat} (a : AhD S L k j) : j ≤ 41 + k * 41 := by
  have hm := mu_tick h.alike (PL.Sp.alike hs) PL.Pg.alike a.lo
  have hb : S.alike.mu L (S.rows.length + k) ≤ 41 + k * 41 := by
    unfold PL.mu
    split
    · rw [show S.rows.length + k - S.alike.rows.length = k from Nat.add_sub_cancel_left S.rows.length k]
      split
      · next m hm =>
        have hm : S.now = some m := hm
        obtain ⟨_, _, _, _, h40⟩ := lg_ent h.t (h.now m hm)
        have h0 := (hs m hm).1
        have : (S.alike.o.q.lg L m - S.alike.spot).toNat ≤ 40 := Int.toNat_le.mpr (by show S.o.q.lg L m - S.spot ≤ _; omega)
        omega
      · omega
    · exact Nat.zero_le _
  omega
end

end
end TR

set_option Elab.async false
set_option linter.all false
set_option maxRecDepth 100000
set_option maxHeartbeats 4000000
/-! .. -/

namespace TR
open PySem PySem.Spec PyProof.Rows L2
section
variable {P : Program} {w : World} {K : PySem.W.Frag} {mg : Str → Option Value} {base : Heap}
/-! ### one that plays on; back and on; soon -/
structure PL.On (S : PL) : Prop where
  pl : S.pl = true
  st : S.st = false
  sl : S.sl = none
  now : S.now ≠ none
/-- what a tick does where the next one is there: it begins, or nothing -/
structure StB (S T : PL) (L : List (Str × Int)) (m f : Int) : Prop where
  nx : (S.next false).2 = some f
  at_ : S.o.q.lg L m - S.jl L m f ≤ S.spot + 1
  rows : T.rows = S.rows ++ [(S.tm + 1, f)]
  now : T.now = some f
  spot : T.spot = 0
  past : T.past = S.past ++ [m]
  soon : T.soon = (S.next false).1.soon
  o : T.o = (S.next false).1.o.began f
  on : T.On
structure StQ (S T : PL) (L : List (Str × Int)) (m : Int) : Prop where
  lt : S.spot + 1 < S.o.q.lg L m
  rows : T.rows = S.rows
  now : T.now = S.now
  spot : T.spot = S.spot + 1
  past : T.past = S.past
  soon : T.soon = S.soon
  o : T.o = S.o
  on : T.On
section
variable {L : List (Str × Int)} {c n : Nat} {S : PL}
theorem PL.On.alike (g : S.On) : S.alike = S := alike_self g.pl g.now g.sl
theorem PL.On.pg (g : S.On) : S.Pg := fun _ => g.now
theorem PL.Go.on (g : S.Go) : S.On := ⟨g.pl, g.st, g.sl, g.now⟩
theorem pl_same (h : S.pl = true) : ({ S with pl := true } : PL) = S := by
  obtain ⟨ov, o, tm, now, spot, old, soon, past, rows, pl, st, sl⟩ := S
  cases h
  rfl
theorem on_step (g : S.On) (h : S.Ok L c n) (hov : 0 ≤ S.ov) {m : Int} (hm : S.now = some m) (hx : (S.next false).2 ≠ none) : (∃ f, StB S (S.step L) L m f) ∨ StQ S (S.step L) L m := by
  have e0 : ((S.ticked L).turn L m).sl = none := (turn_sl _ L m).trans g.sl
  have hnx : (S.ticked L).next false = ({ (S.next false).1 with tm := S.tm + 1, spot := S.spot + 1, old := S.aged L }, (S.next false).2) := by
    obtain ⟨ov, o, tm, now, spot, old, soon, past, rows, pl, st, sl⟩ := S
    cases soon <;> rfl
  rw [step_some hm, slept_none e0]
  rcases turn_three (S.ticked L) L m with ⟨f, hf, hle, e⟩ | ⟨hb, hle, e⟩ | ⟨_, e, hl⟩
  · refine .inl ⟨f, ?_⟩
    have hf2 : (S.next false).2 = some f := by
      unfold PL.found at hf
      split at hf
      · rw [hnx] at hf
        exact hf
      · cases hf
    rw [e, hnx]
    refine ⟨hf2, hle, ?_, rfl, rfl, rfl, rfl, rfl, ⟨?_, ?_, ?_, fun z => (by cases z)⟩⟩
    · show (S.next false).1.rows ++ [(S.tm + 1, f)] = _
      rw [next_rows]
    · exact (next_pl S false).trans g.pl
    · exact (next_st S false).trans g.st
    · exact (next_sl S false).trans g.sl
  · have hx2 : ((S.ticked L).next false).2 ≠ none := by
      rw [hnx]
      exact hx
    have := no_end h.ticked hov g.st hx2 hm hb
    omega
  · refine .inr ?_
    rw [e]
    exact ⟨hl, rfl, rfl, rfl, rfl, rfl, rfl, ⟨g.pl, g.st, g.sl, g.now⟩⟩
theorem next_soon {x : Int} {r : List Int} (hs : S.soon = x :: r) (l : Bool) : (S.next l).2 = some x ∧ (S.next l).1.soon = r ∧ (S.next l).1.o = S.o := by
  rw [next_cons hs]
  exact ⟨rfl, rfl, rfl⟩
/-- on the way of what is told soon -/
structure SoI (S T : PL) (q : Nat) : Prop where
  on : T.On
  rows : ∃ ex : List (Int × Int), T.rows = S.rows ++ ex ∧ ex.map (·.2) = S.soon.take q
  soon : T.soon = S.soon.drop q
theorem so_ticks (g : S.On) (h : S.Ok L c n) (hov : 0 ≤ S.ov) {k : Nat} (hk : k ≤ S.soon.length) : ∀ j, (∀ i, i < j → (S.tick L i).rows.length < S.rows.length + k) → ∃ q, q ≤ k ∧ SoI S (S.tick L j) q
  | 0, _ => ⟨0, Nat.zero_le _, ⟨g, ⟨[], (List.append_nil _).symm, rfl⟩, rfl⟩⟩
  | j + 1, hj => by
    obtain ⟨q, hq, a, ⟨ex, e1, e2⟩, e3⟩ := so_ticks g h hov hk j fun i hi => hj i (by omega)
    have hlt := hj j (Nat.lt_succ_self j)
    rw [e1, List.length_append] at hlt
    have hl : ex.length = q := by
      have := congrArg List.length e2
      rw [List.length_map, List.length_take] at this
      omega
    have okj := h.tick (L := L) j
    have ovj : 0 ≤ (S.tick L j).ov := by rw [PL.tick_ov]; exact hov
    show ∃ q, q ≤ k ∧ SoI S ((S.tick L j).tk L) q
    rw [tk_on a.pl]
    generalize S.tick L j = T at a e1 e3 okj ovj ⊢
    obtain ⟨m, hm⟩ := Option.ne_none_iff_exists'.mp a.now
    have hq2 : q < S.soon.length := by omega
    have hs : T.soon = S.soon[q] :: S.soon.drop (q + 1) := by rw [e3, List.drop_eq_getElem_cons hq2]
    obtain ⟨n1, n2, _⟩ := next_soon hs false
    rcases on_step a okj ovj hm (by rw [n1]; intro z; cases z) with ⟨f, b⟩ | b
    · refine ⟨q + 1, by omega, b.on, ⟨ex ++ [(T.tm + 1, f)], by rw [b.rows, e1, List.append_assoc], ?_⟩, by rw [b.soon, n2]⟩
      have hf : f = S.soon[q] := by
        have := b.nx
        rw [n1] at this
        exact (Option.some.inj this).symm
      rw [List.map_append, e2, hf, List.take_add_one, List.getElem?_eq_getElem hq2] <;> rfl
    · exact ⟨q, hq, b.on, ⟨ex, b.rows.trans e1, e2⟩, b.soon.trans e3⟩
/-- what is told soon comes next -/
theorem so_ahead (g : S.On) (h : S.Ok L c n) (hs : S.Sp L) (hov : 0 ≤ S.ov) {k : Nat} (hk : k ≤ S.soon.length) (hk2 : k ≤ 12) : (S.ahead L k).map (·.2) = S.soon.take k := by
  obtain ⟨j, a⟩ := ahead_ex h hs hk2
  have lo := a.lo
  have hi := a.hi
  have eq := a.eq
  rw [g.alike] at lo hi eq
  obtain ⟨q, hq, b, ⟨ex, e1, e2⟩, _⟩ := so_ticks g h hov hk j fun i hi => (lo i hi).2
  have hq3 : q = k := by
    have hl : ex.length = q := by
      have := congrArg List.length e2
      rw [List.length_map, List.length_take] at this
      omega
    have : ¬ (S.tick L j).rows.length < S.rows.length + k := fun z => hi ⟨b.pl, z⟩
    rw [e1, List.length_append] at this
    omega
  rw [eq, e1, List.drop_append_of_le_length (Nat.le_refl _), List.drop_of_length_le (Nat.le_refl _), List.nil_append, List.map_map, ← hq3, ← e2]
  exact List.map_congr_left fun _ _ => rfl
theorem first_some {O : OS} (ht : O.q.turn ≠ []) : O.first.2 ≠ none := by
  have hp : ∀ T : OS, T.deck ≠ [] → T.pop.2 ≠ none := fun T hT => by
    unfold OS.pop
    split
    · next hd => exact absurd hd hT
    · intro z; cases z
  unfold OS.first
  split
  · obtain ⟨x, r, hx⟩ := List.exists_cons_of_ne_nil ht
    rw [hx]
    intro z
    cases z
  · split
    · refine hp _ fun z => ?_
      have z' : mixN O.d O.q.turn = [] := z
      have := (mixN_perm O.d O.q.turn).length_eq
      rw [z'] at this
      exact ht (List.length_eq_zero_iff.mp this.symm)
    · next hd => exact hp _ hd
theorem first_mx (O : OS) : O.first.1.mx = O.mx ∧ O.first.1.ag = O.ag := by
  have hp : ∀ T : OS, T.pop.1.mx = T.mx ∧ T.pop.1.ag = T.ag := fun T => by
    unfold OS.pop
    split <;> exact ⟨rfl, rfl⟩
  unfold OS.first
  split
  · exact ⟨rfl, rfl⟩
  · split
    · exact hp _
    · exact hp _
/-- resumed at first -/
theorem resume_first (hn : S.now = none) (hs : S.soon = []) (ht : S.o.q.turn ≠ []) : ∃ x, S.o.first.2 = some x ∧ S.resume L = { ({ S with o := S.o.first.1 } : PL).begin L (some x) false with pl := true } := by
  obtain ⟨x, hx⟩ := Option.ne_none_iff_exists'.mp (first_some ht)
  refine ⟨x, hx, ?_⟩
  have e : S.resume0 L = ({ S with o := S.o.first.1 } : PL).begin L (some x) false := by
    unfold PL.resume0
    split
    · next m hm =>
      rw [hn] at hm
      cases hm
    · rw [open_nil hs]
      dsimp only
      rw [hx]
  show ({ (S.resume0 L) with pl := (S.resume0 L).now.isSome } : PL) = _
  rw [e]
  rfl
/-! back and on -/
structure Bk (S : PL) (xs : List Int) (m : Int) (ys : List Int) : Prop where
  go : S.Go
  past : S.past = xs
  now : S.now = some m
  soon : S.soon = ys
  spot : S.spot = 0
  all : ∀ e ∈ xs ++ m :: ys, e ∈ S.o.q.turn
theorem bk_begin {o : OS} {p : PL} {xs ys : List Int} {x : Int} (hp : p.pl = true) (hst : p.st = false) (hsl : p.sl = none) (hag : p.o.ag = "all") (hpa : p.past = xs) (hso : p.soon = ys) (hall : ∀ e ∈ xs ++ x :: ys, e ∈ p.o.q.turn) : Bk (p.begin L (some x) false) xs x ys := by
  refine ⟨⟨hp, hst, hsl, fun z => (by cases z), (begin_ag p L (some x) false).trans hag, ?_⟩, hpa, rfl, hso, rfl, ?_⟩
  · rw [PL.begin_q]
    intro z
    have := hall x (by simp)
    rw [z] at this
    cases this
  · rw [PL.begin_q]
    exact hall
theorem bk_play {xs : List Int} {m e : Int} {ys : List Int} (b : Bk S xs m ys) (he : e ∈ S.o.q.turn) : Bk (S.play L e) (xs ++ [m]) e ys := by
  have hl : S.leave = { S with past := S.past ++ [m] } := leave_some b.now
  have q : Bk (S.leave.begin L (some e) false) (xs ++ [m]) e ys := by
    rw [hl]
    refine bk_begin (o := S.o) b.go.pl b.go.st b.go.sl b.go.ag (by show S.past ++ [m] = _; rw [b.past]) b.soon fun x hx => ?_
    have := b.all x
    simp only [List.mem_append, List.mem_cons, List.not_mem_nil, or_false] at hx this
    rcases hx with (hx | hx) | hx | hx
    · exact this (.inl hx)
    · exact this (.inr (.inl hx))
    · rw [hx]; exact he
    · exact this (.inr (.inr hx))
  exact ⟨⟨rfl, q.go.st, q.go.sl, q.go.now, q.go.ag, q.go.tn⟩, q.past, q.now, q.soon, q.spot, q.all⟩
theorem bk_skip (h : S.Ok L c n) {xs : List Int} {m : Int} {ys : List Int} (b : Bk S xs m ys) : ∃ x, (ys ≠ [] → ys = x :: ys.tail) ∧ Bk (S.skip L) (xs ++ [m]) x ys.tail := by
  obtain ⟨x, hx⟩ := Option.ne_none_iff_exists'.mp (next_all b.go.ag b.go.tn true)
  have hxt := h.next_mem hx
  have hsn : (S.next true).1.soon = ys.tail ∧ (ys ≠ [] → ys = x :: ys.tail) := by
    cases ys with
    | nil =>
      rw [next_nil b.soon]
      exact ⟨b.soon, fun z => absurd rfl z⟩
    | cons y r =>
      rw [next_cons b.soon] at hx ⊢
      exact ⟨rfl, fun _ => by rw [Option.some.inj hx] <;> rfl⟩
  refine ⟨x, hsn.2, ?_⟩
  have hn : (S.next true).1.now = some m := (PL.next_now S true).trans b.now
  have hl : (S.next true).1.leave = { (S.next true).1 with past := S.past ++ [m] } := by rw [leave_some hn, PL.next_past]
  have q : Bk ((S.next true).1.leave.begin L (some x) false) (xs ++ [m]) x ys.tail := by
    rw [hl]
    refine bk_begin (o := S.o) ((next_pl S true).trans b.go.pl) ((next_st S true).trans b.go.st) ((next_sl S true).trans b.go.sl) ((next_ag S true).trans b.go.ag) (by show S.past ++ [m] = _; rw [b.past]) hsn.1 fun e he => ?_
    show e ∈ (S.next true).1.o.q.turn
    rw [PL.next_q]
    have := b.all e
    simp only [List.mem_append, List.mem_cons, List.not_mem_nil, or_false] at he this
    rcases he with (he | he) | he | he
    · exact this (.inl he)
    · exact this (.inr (.inl he))
    · rw [he]; exact hxt
    · exact this (.inr (.inr (List.mem_of_mem_tail he)))
  have e : S.skip L = (S.next true).1.leave.begin L (some x) false := by
    show ({ (S.skip0 L) with pl := (S.skip0 L).pl && (S.next true).2.isSome } : PL) = _
    have e0 : S.skip0 L = (S.next true).1.leave.begin L (some x) false := by
      unfold PL.skip0
      rw [hx]
    rw [e0, hx, q.go.pl]
    exact pl_same q.go.pl
  rw [e]
  exact q
theorem bk_back {ys : List Int} {b' m : Int} {r : List Int} (b : Bk S (ys ++ [b']) m r) : Bk ((S.seek 0).back L) ys b' (m :: r) := by
  have hb : b' ∈ S.o.q.turn := b.all b' (by simp)
  have hm : m ∈ S.o.q.turn := b.all m (by simp)
  have hpi : pastIn (S.seek 0).o.q.turn (S.seek 0).past = ys ++ [b'] := by
    show pastIn S.o.q.turn S.past = _
    rw [b.past]
    exact pastIn_app_in hb ys
  rw [back_prev (S := S.seek 0) (by show ¬ (3 : Int) < 0; decide) hpi]
  refine bk_begin (o := S.o) b.go.pl b.go.st b.go.sl b.go.ag rfl ?_ fun e he => ?_
  · show (S.seek 0).lately = m :: r
    rw [lately_in (S := S.seek 0) b.now hm]
    show m :: S.soon = _
    rw [b.soon]
  · have := b.all e
    simp only [List.mem_append, List.mem_cons, List.not_mem_nil, or_false] at he this
    rcases he with he | he | he | he
    · exact this (.inl (.inl he))
    · exact this (.inl (.inr he))
    · exact this (.inr (.inl he))
    · exact this (.inr (.inr he))
theorem bk_ahead (h : S.Ok L c n) (hs : S.Sp L) (hov : 0 ≤ S.ov) {xs : List Int} {m : Int} {ys : List Int} (b : Bk S xs m ys) (hl : ys.length ≤ 12) : (S.ahead L ys.length).map (·.2) = ys := by
  rw [so_ahead b.go.on h hs hov (by rw [b.soon]; exact Nat.le_refl _) hl, b.soon, List.take_length]
/-- to the next one by ticks -/
theorem bk_tick (h : S.Ok L c n) (hs : S.Sp L) (hov : 0 ≤ S.ov) {xs : List Int} {m : Int} (b : Bk S xs m []) : ∃ (J : Nat) (f : Int), S.ahead L 1 = [(((J : Nat) : Int), f)] ∧ J ≤ 82 ∧ Bk (S.tick L J) (xs ++ [m]) f [] := by
  obtain ⟨j, aD⟩ := ahead_ex h hs (k := 1) (by decide)
  obtain ⟨J, bJ⟩ := ahj_ex b.go.now aD
  have hl := b.go.ahead h hs hov (k := 1) (by decide)
  obtain ⟨D, f, hD⟩ : ∃ (D : List (Int × Int)) (f : Int), S.ahead L 1 = D ++ [(((J : Nat) : Int), f)] := by
    rcases ahead_last aD bJ with ⟨z, _⟩ | z
    · rw [z] at hl
      cases hl
    · exact z
  have hD0 : D = [] := by
    rw [hD, List.length_append] at hl
    exact List.length_eq_zero_iff.mp (by simpa using hl)
  subst hD0
  obtain ⟨w1, w2, w3⟩ := ahead_now aD bJ hD
  have hJ := ahead_bound h hs aD
  have hJ2 := bJ.le
  have hrows := ahead_rows aD bJ
  have hlt := bJ.lt
  rw [b.go.alike] at w1 w2 hrows hlt
  have hlJ : (S.tick L J).rows.length = S.rows.length + 1 := by
    rw [hrows, List.length_append, List.length_map, hl]
  refine ⟨J, f, hD, by omega, ?_⟩
  have quiet : ∀ i, i < J → (S.tick L i).past = xs ∧ (S.tick L i).now = some m ∧ (S.tick L i).soon = [] ∧ (S.tick L i).rows = S.rows := by
    intro i
    induction i with
    | zero => exact fun _ => ⟨b.past, b.now, b.soon, rfl⟩
    | succ i ih =>
      intro hi
      obtain ⟨i1, i2, i3, i4⟩ := ih (by omega)
      have gi := b.go.tick h hov i
      have := hlt (i + 1) hi
      rw [hlJ] at this
      have et : S.tick L (i + 1) = (S.tick L i).step L := tk_on gi.pl
      rw [et] at this ⊢
      rcases on_step gi.on (h.tick i) (by rw [PL.tick_ov]; exact hov) i2 (next_all gi.ag gi.tn false) with ⟨g, q⟩ | q
      · rw [q.rows, i4, List.length_append, List.length_singleton] at this
        exact absurd this (Nat.lt_irrefl _)
      · exact ⟨q.past.trans i1, q.now.trans i2, q.soon.trans i3, q.rows.trans i4⟩
  obtain ⟨J', rfl⟩ : ∃ J', J = J' + 1 := ⟨J - 1, by omega⟩
  obtain ⟨i1, i2, i3, i4⟩ := quiet J' (Nat.lt_succ_self _)
  have gi := b.go.tick h hov J'
  have gJ := b.go.tick h hov (J' + 1)
  have et : S.tick L (J' + 1) = (S.tick L J').step L := tk_on gi.pl
  rw [et] at w1 w2 hlJ gJ ⊢
  rcases on_step gi.on (h.tick J') (by rw [PL.tick_ov]; exact hov) i2 (next_all gi.ag gi.tn false) with ⟨g, q⟩ | q
  · have hf : g = f := by
      rw [q.now] at w1
      exact Option.some.inj w1
    subst hf
    refine ⟨gJ, by rw [q.past, i1], w1, ?_, w2, ?_⟩
    · rw [q.soon, next_nil i3]
      exact i3
    · have hq : ((S.tick L J').step L).o.q = S.o.q := (PL.step_q _ L).trans (S.tick_q L J')
      rw [hq]
      intro e he
      have hg := (h.tick (L := L) J').next_mem q.nx
      rw [S.tick_q L J'] at hg
      have := b.all e
      simp only [List.mem_append, List.mem_cons, List.not_mem_nil, or_false] at he this
      rcases he with (he | he) | he
      · exact this (.inl he)
      · exact this (.inr he)
      · rw [he]; exact hg
  · rw [q.rows, i4] at hlJ
    omega
end

end
end TR

set_option Elab.async false
set_option linter.all false
set_option maxRecDepth 100000
set_option maxHeartbeats 4000000
/-! .. -/

namespace TR
open PySem PySem.Spec PyProof.Rows L2
section
variable {P : Program} {w : World} {K : PySem.W.Frag} {mg : Str → Option Value} {base : Heap}
/-! ### plain queues by sums of what is long -/
structure Sq where
  ls : List Int
  ov : Int
  ag : Bool
namespace Sq
def m (q : Sq) : Nat := q.ls.length
def lo (q : Sq) (k : Nat) : Int := q.ls.getD (k % q.m) 1
def en (q : Sq) (k : Nat) : Int := ((k % q.m : Nat) : Int) + 1
/-- the k-th goes over into a next one -/
def go (q : Sq) (k : Nat) : Prop := q.ag = true ∨ k + 1 < q.m
instance (q : Sq) (k : Nat) : Decidable (q.go k) := by unfold go; infer_instance
def jo (q : Sq) (k : Nat) : Int := if q.go k then min (min q.ov (q.lo k / 2)) (q.lo (k + 1) / 2) else 0
def at_ (q : Sq) : Nat → Int
  | 0 => 0
  | k + 1 => q.at_ k + q.lo k - q.jo k
structure Ok (q : Sq) : Prop where
  pos : 0 < q.m
  len : q.m ≤ 10
  ov : 0 ≤ q.ov ∧ q.ov ≤ 9
  ls : ∀ l ∈ q.ls, 1 ≤ l ∧ l ≤ 40
/-- there is a k-th -/
def has (q : Sq) (k : Nat) : Prop := q.ag = true ∨ k < q.m
section
variable {q : Sq}
theorem Ok.lo (h : q.Ok) (k : Nat) : 1 ≤ q.lo k ∧ q.lo k ≤ 40 := by
  have hp := h.pos
  have hl : k % q.m < q.ls.length := Nat.mod_lt _ hp
  unfold Sq.lo
  rw [List.getD_eq_getElem?_getD, List.getElem?_eq_getElem hl]
  exact h.ls _ (List.getElem_mem hl)
theorem Ok.jo (h : q.Ok) (k : Nat) : 0 ≤ q.jo k ∧ q.jo k ≤ q.ov ∧ q.jo k ≤ q.lo k / 2 ∧ q.jo k ≤ q.lo (k + 1) / 2 := by
  have h1 := h.lo k
  have h2 := h.lo (k + 1)
  have h3 := h.ov
  unfold Sq.jo
  split <;> omega
theorem at_succ (q : Sq) (k : Nat) : q.at_ (k + 1) = q.at_ k + q.lo k - q.jo k := rfl
theorem Ok.at_lt (h : q.Ok) (k : Nat) : q.at_ k + 1 ≤ q.at_ (k + 1) := by
  have h1 := h.lo k
  have h2 := h.jo k
  rw [at_succ]
  omega
theorem Ok.at_mono (h : q.Ok) (a : Nat) : ∀ d, q.at_ a + (d : Nat) ≤ q.at_ (a + d)
  | 0 => by
    show q.at_ a + ((0 : Nat) : Int) ≤ q.at_ a
    omega
  | d + 1 => by
    have ih := h.at_mono a d
    have := h.at_lt (a + d)
    show q.at_ a + ((d + 1 : Nat) : Int) ≤ q.at_ (a + d + 1)
    omega
theorem Ok.at_le (h : q.Ok) {a b : Nat} (hab : a ≤ b) : q.at_ a + ((b - a : Nat) : Int) ≤ q.at_ b := by
  have := h.at_mono a (b - a)
  rw [show a + (b - a) = b by omega] at this
  exact this
/-- what goes over ends by the time the one behind it begins -/
theorem Ok.over (h : q.Ok) (k : Nat) : q.at_ k + q.lo k ≤ q.at_ (k + 2) := by
  have h1 := h.lo (k + 1)
  have h2 := h.jo k
  have h3 := h.jo (k + 1)
  rw [at_succ q (k + 1), at_succ q k]
  omega
end
end Sq
/-- the queue is of these -/
structure SqQ (q : Sq) (L : List (Str × Int)) (Q : QS) : Prop where
  turn : Q.turn = (List.range q.m).map fun i => ((i : Nat) : Int) + 1
  lg : ∀ k, Q.lg L (q.en k) = q.lo k
/-- where the player is at the tick t: the k-th plays -/
structure Pos (q : Sq) (Q : QS) (S : PL) (k : Nat) (t : Int) : Prop where
  on : S.On
  ov : S.ov = q.ov
  ag : S.o.ag = (if q.ag = true then ("all" : Str) else "none")
  mx : S.o.mx = false
  oq : S.o.q = Q
  soon : S.soon = []
  has : q.has k
  lo : q.at_ k ≤ t
  hi : t < q.at_ (k + 1)
  now : S.now = some (q.en k)
  spot : S.spot = t - q.at_ k
  tm : S.tm = t
  rows : S.rows = (List.range (k + 1)).map fun i => (q.at_ i, q.en i)
  old : S.old = match k with
    | 0 => none
    | k' + 1 => if t < q.at_ k' + q.lo k' then some (q.en k', t - q.at_ k', q.jo k') else none
structure End (q : Sq) (Q : QS) (S : PL) (t : Int) : Prop where
  oq : S.o.q = Q
  ag : q.ag = false
  now : S.now = none
  pl : S.pl = false
  le : q.at_ q.m ≤ t
  rows : S.rows = (List.range q.m).map fun i => (q.at_ i, q.en i)
section
variable {L : List (Str × Int)} {c n : Nat} {S : PL} {q : Sq} {Q : QS}
theorem turn_ix {m : Nat} {i : Nat} (hi : i < m) : ((List.range m).map fun i => ((i : Nat) : Int) + 1).idxOf (((i : Nat) : Int) + 1) = i := by
  have h : ∀ (d : Nat) (a : Nat), i < d → (((List.range' a d).map fun i => ((i : Nat) : Int) + 1)).idxOf (((a + i : Nat) : Int) + 1) = i := by
    clear hi
    induction i with
    | zero =>
      intro d a hd
      obtain ⟨d', rfl⟩ : ∃ d', d = d' + 1 := ⟨d - 1, by omega⟩
      rw [List.range'_succ, List.map_cons]
      exact List.idxOf_cons_self
    | succ i ih =>
      intro d a hd
      obtain ⟨d', rfl⟩ : ∃ d', d = d' + 1 := ⟨d - 1, by omega⟩
      rw [List.range'_succ, List.map_cons, List.idxOf_cons, beq_eq_false_iff_ne.mpr (by omega)]
      have := ih d' (a + 1) (by omega)
      rw [show a + 1 + i = a + (i + 1) by omega] at this
      show _ + 1 = _
      rw [this]
  have := h m 0 hi
  rw [← List.range_eq_range', Nat.zero_add] at this
  exact this
/-- what comes behind the k-th -/
theorem pos_next {k : Nat} {t : Int} (hq : q.Ok) (hQ : SqQ q L Q) (b : Pos q Q S k t) : (S.next false).2 = if q.go k then some (q.en (k + 1)) else none := by
  have hp := hq.pos
  have hk : k % q.m < q.m := Nat.mod_lt _ hp
  have hmem : q.en k ∈ S.o.q.turn := by
    rw [b.oq, hQ.turn]
    exact List.mem_map.mpr ⟨k % q.m, List.mem_range.mpr hk, rfl⟩
  rw [next_nil b.soon]
  show (S.o.after S.now).2 = _
  rw [b.now]
  have hne : ¬ (S.o.ag = "one" ∧ hasO (some (q.en k)) S.o.q.turn = true) := fun z => by
    have z1 := z.1
    rw [b.ag] at z1
    split at z1 <;> exact absurd z1 (by decide)
  unfold OS.after
  rw [if_neg hne]
  unfold OS.skip
  rw [b.mx]
  show S.o.nextP (some (q.en k)) = _
  have hat : S.o.at_ (some (q.en k)) = k % q.m + 1 := by
    have hh : hasO (some (q.en k)) S.o.q.turn = true := decide_eq_true hmem
    unfold OS.at_
    rw [if_pos hh, b.oq, hQ.turn]
    show ((List.range q.m).map fun i => ((i : Nat) : Int) + 1).idxOf (q.en k) + 1 = _
    unfold Sq.en
    rw [turn_ix hk]
  have hlen : S.o.q.turn.length = q.m := by rw [b.oq, hQ.turn, List.length_map, List.length_range]
  have hget : ∀ i, i < q.m → S.o.q.turn[i]? = some (((i : Nat) : Int) + 1) := fun i hi => by
    rw [b.oq, hQ.turn, List.getElem?_map, List.getElem?_range hi] <;> rfl
  unfold OS.nextP
  rw [hat, hlen, b.ag]
  by_cases h1 : k % q.m + 1 < q.m
  · have e1 : (k + 1) % q.m = k % q.m + 1 := by
      rw [Nat.add_mod, Nat.mod_eq_of_lt (a := 1) (by omega), Nat.mod_eq_of_lt h1]
    have hg : q.go k := by
      rcases b.has with z | z
      · exact .inl z
      · rw [Nat.mod_eq_of_lt z] at h1
        exact .inr h1
    rw [if_pos h1, hget _ h1, if_pos hg]
    unfold Sq.en
    rw [e1]
  · rw [if_neg h1]
    have e1 : k % q.m + 1 = q.m := by omega
    cases ha : q.ag with
    | true =>
      rw [if_pos rfl, if_pos rfl, if_pos (.inl ha), hget 0 hp]
      unfold Sq.en
      have e2 : (k + 1) % q.m = 0 := by
        rw [Nat.add_mod]
        rcases Nat.lt_or_ge 1 q.m with z | z
        · rw [Nat.mod_eq_of_lt z, e1, Nat.mod_self]
        · have : q.m = 1 := by omega
          rw [this]
          omega
      rw [e2]
    | false =>
      have hg : ¬ q.go k := by
        rintro (z | z)
        · rw [ha] at z; cases z
        · have : k % q.m = k := Nat.mod_eq_of_lt (by omega)
          omega
      rw [if_neg Bool.false_ne_true, if_neg (by decide), if_neg hg]
theorem range_snoc {α : Type} (f : Nat → α) (k : Nat) : (List.range (k + 1)).map f = (List.range k).map f ++ [f k] := by
  rw [List.range_succ, List.map_append] <;> rfl
/-- a tick -/
theorem pos_step {k : Nat} {t : Int} (hq : q.Ok) (hQ : SqQ q L Q) (h : S.Ok L c n) (b : Pos q Q S k t) :
    (t + 1 < q.at_ (k + 1) ∧ Pos q Q (S.step L) k (t + 1)) ∨ (q.go k ∧ t + 1 = q.at_ (k + 1) ∧ Pos q Q (S.step L) (k + 1) (t + 1)) ∨ (¬ q.go k ∧ t + 1 = q.at_ (k + 1) ∧ End q Q (S.step L) (t + 1)) := by
  have hnext := pos_next hq hQ b
  have hlk : S.o.q.lg L (q.en k) = q.lo k := by rw [b.oq]; exact hQ.lg k
  have hlk1 : S.o.q.lg L (q.en (k + 1)) = q.lo (k + 1) := by rw [b.oq]; exact hQ.lg (k + 1)
  have h1 := hq.lo k
  have hj := hq.jo k
  have hat := Sq.at_succ q k
  have hlo := b.lo
  have hhi := b.hi
  have hsp : (S.ticked L).spot = t + 1 - q.at_ k := by
    show S.spot + 1 = _
    rw [b.spot]
    omega
  have hnx : (S.ticked L).next false = ({ S with o := (S.nx false).1, tm := S.tm + 1, spot := S.spot + 1, old := S.aged L }, (S.next false).2) := by
    have hs := b.soon
    obtain ⟨ov, o, tm, now, spot, old, soon, past, rows, pl, st, sl⟩ := S
    cases hs
    rfl
  have hnq : (S.nx false).1.q = S.o.q := S.nx_q false
  have hnag : (S.nx false).1.ag = S.o.ag ∧ (S.nx false).1.mx = S.o.mx := by
    show (S.o.after S.now).1.ag = S.o.ag ∧ (S.o.after S.now).1.mx = S.o.mx
    unfold OS.after
    split
    · exact ⟨rfl, rfl⟩
    · unfold OS.skip
      rw [b.mx]
      exact ⟨rfl, b.mx⟩
  have jl_eq : q.go k → (S.ticked L).jl L (q.en k) (q.en (k + 1)) = q.jo k := fun hg => by
    show min (min S.ov (S.o.q.lg L (q.en k) / 2)) (S.o.q.lg L (q.en (k + 1)) / 2) = q.jo k
    rw [hlk, hlk1, b.ov]
    unfold Sq.jo
    rw [if_pos hg]
  have hjn : ¬ q.go k → q.jo k = 0 := fun hg => by
    unfold Sq.jo
    rw [if_neg hg]
  have e0 : ((S.ticked L).turn L (q.en k)).sl = none := (turn_sl _ L _).trans b.on.sl
  rw [step_some b.now, slept_none e0]
  rcases turn_three (S.ticked L) L (q.en k) with ⟨f, hf, hle, e⟩ | ⟨hb, hle, e⟩ | ⟨hb, e, hl⟩
  · have hf2 : (S.next false).2 = some f := by
      unfold PL.found at hf
      split at hf
      · rw [hnx] at hf
        exact hf
      · cases hf
    rw [hnext] at hf2
    by_cases hg : q.go k
    · rw [if_pos hg] at hf2
      have hf3 := Option.some.inj hf2
      subst hf3
      rw [jl_eq hg, hsp] at hle
      have hle : S.o.q.lg L (q.en k) - q.jo k ≤ t + 1 - q.at_ k := hle
      rw [hlk] at hle
      have ht : t + 1 = q.at_ (k + 1) := by omega
      refine .inr (.inl ⟨hg, ht, ?_⟩)
      rw [e, hnx]
      have hat2 := hq.at_lt (k + 1)
      refine ⟨⟨b.on.pl, b.on.st, b.on.sl, fun z => (by cases z)⟩, b.ov, hnag.1.trans b.ag, hnag.2.trans b.mx, hnq.trans b.oq, b.soon, ?_, by omega, by omega, rfl, ?_, ?_, ?_, ?_⟩
      · rcases hg with z | z
        · exact .inl z
        · exact .inr z
      · show (0 : Int) = _
        omega
      · show S.tm + 1 = t + 1
        rw [b.tm]
      · show S.rows ++ [(S.tm + 1, q.en (k + 1))] = _
        rw [range_snoc, b.rows, b.tm, ht]
      · show (if decide ((S.ticked L).spot < S.o.q.lg L (q.en k)) = true then S.now.map (fun m => (m, S.spot + 1, (S.nx false).1.q.lg L m - (S.spot + 1))) else none) = if t + 1 < q.at_ k + q.lo k then some (q.en k, t + 1 - q.at_ k, q.jo k) else none
        rw [hsp, hlk, b.now, hnq]
        by_cases hc : t + 1 < q.at_ k + q.lo k
        · rw [if_pos (decide_eq_true (by omega)), if_pos hc]
          show some (q.en k, S.spot + 1, S.o.q.lg L (q.en k) - (S.spot + 1)) = _
          rw [hlk, b.spot, show t - q.at_ k + 1 = t + 1 - q.at_ k by omega, show q.lo k - (t + 1 - q.at_ k) = q.jo k by omega]
        · rw [if_neg (by rw [decide_eq_false (by omega)]; exact Bool.false_ne_true), if_neg hc]
    · rw [if_neg hg] at hf2
      cases hf2
  · have hg : ¬ q.go k := fun hg => by
      have := no_end h.ticked (by show 0 ≤ S.ov; rw [b.ov]; exact hq.ov.1) b.on.st (by rw [hnx, show (S.next false).2 = some (q.en (k + 1)) by rw [hnext, if_pos hg]]; intro z; cases z) b.now hb
      omega
    have hle : S.o.q.lg L (q.en k) ≤ (S.ticked L).spot := hle
    rw [hlk, hsp] at hle
    have hjz := hjn hg
    have ht : t + 1 = q.at_ (k + 1) := by omega
    have hag : q.ag = false := by
      cases ha : q.ag with
      | true => exact absurd (.inl ha) hg
      | false => rfl
    have hk : k + 1 = q.m := by
      have hk1 : k < q.m := b.has.resolve_left (by rw [hag]; exact Bool.false_ne_true)
      have : ¬ k + 1 < q.m := fun z => hg (.inr z)
      omega
    refine .inr (.inr ⟨hg, ht, ?_⟩)
    rw [e]
    refine ⟨b.oq, hag, rfl, rfl, by rw [← hk, ← ht]; exact Int.le_refl _, ?_⟩
    show S.rows = _
    rw [b.rows, hk]
  · have hl : (S.ticked L).spot < S.o.q.lg L (q.en k) := hl
    rw [hlk, hsp] at hl
    have ht : t + 1 < q.at_ (k + 1) := by
      by_cases hg : q.go k
      · have hnx2 : ((S.ticked L).next false).2 = some (q.en (k + 1)) := by
          rw [hnx]
          show (S.next false).2 = _
          rw [hnext, if_pos hg]
        unfold PL.over PL.found at hb
        by_cases hc : (S.ticked L).st = false ∧ (S.ticked L).o.q.lg L (q.en k) - min (S.ticked L).ov ((S.ticked L).o.q.lg L (q.en k) / 2) ≤ (S.ticked L).spot
        · rw [if_pos hc, hnx2] at hb
          have hb := of_decide_eq_false hb
          rw [jl_eq hg, hsp] at hb
          have hb : ¬ S.o.q.lg L (q.en k) - q.jo k ≤ t + 1 - q.at_ k := hb
          rw [hlk] at hb
          omega
        · have hc2 : ¬ S.o.q.lg L (q.en k) - min S.ov (S.o.q.lg L (q.en k) / 2) ≤ (S.ticked L).spot := fun z => hc ⟨b.on.st, z⟩
          rw [hlk, hsp, b.ov] at hc2
          omega
      · have := hjn hg
        omega
    refine .inl ⟨ht, ?_⟩
    rw [e]
    refine ⟨⟨b.on.pl, b.on.st, b.on.sl, b.on.now⟩, b.ov, b.ag, b.mx, b.oq, b.soon, b.has, by omega, ht, b.now, hsp, ?_, b.rows, ?_⟩
    · show S.tm + 1 = _
      rw [b.tm]
    · show S.aged L = _
      have ho := b.old
      cases k with
      | zero => exact aged_none ho
      | succ k' =>
        have hlk' : S.o.q.lg L (q.en k') = q.lo k' := by rw [b.oq]; exact hQ.lg k'
        dsimp only at ho ⊢
        by_cases hc : t < q.at_ k' + q.lo k'
        · rw [if_pos hc] at ho
          rw [aged_some ho, hlk']
          by_cases hc2 : t + 1 < q.at_ k' + q.lo k'
          · rw [if_pos (by omega), if_pos hc2, show t - q.at_ k' + 1 = t + 1 - q.at_ k' by omega]
          · rw [if_neg (by omega), if_neg hc2]
        · rw [if_neg hc] at ho
          rw [aged_none ho, if_neg (by omega)]
/-- at each tick -/
def PosT (q : Sq) (Q : QS) (S : PL) (t : Int) : Prop := (∃ k, Pos q Q S k t) ∨ End q Q S t
theorem at_tick {t : Int} (hq : q.Ok) (hQ : SqQ q L Q) (h : S.Ok L c n) (b : PosT q Q S t) : PosT q Q (S.tick L 1) (t + 1) := by
  show PosT q Q (S.tk L) (t + 1)
  rcases b with ⟨k, b⟩ | b
  · rw [tk_on b.on.pl]
    rcases pos_step hq hQ h b with ⟨_, z⟩ | ⟨_, _, z⟩ | ⟨_, _, z⟩
    · exact .inl ⟨k, z⟩
    · exact .inl ⟨k + 1, z⟩
    · exact .inr z
  · rw [tk_off b.pl]
    exact .inr ⟨b.oq, b.ag, b.now, b.pl, by have := b.le; omega, b.rows⟩
end

end
end TR

set_option Elab.async false
set_option linter.all false
set_option maxRecDepth 100000
set_option maxHeartbeats 4000000
/-! .. -/

namespace TR
open PySem PySem.Spec PyProof.Rows L2
section
variable {P : Program} {w : World} {K : PySem.W.Frag} {mg : Str → Option Value} {base : Heap}
/-! ### what is due, what was seen -/
section
variable {L : List (Str × Int)} {c n : Nat} {S : PL} {q : Sq} {Q : QS} {t : Int} {N : Nat} {last : Int}
/-- how many begin up to a tick -/
def Upto (q : Sq) (last : Int) (N : Nat) : Prop := (∀ i, i < N → q.at_ i ≤ last ∧ q.has i) ∧ ¬ (q.at_ N ≤ last ∧ q.has N)
theorem has_mono (q : Sq) {a b : Nat} (h : a ≤ b) (hb : q.has b) : q.has a := hb.imp id fun z => by omega
theorem upto_iff (hq : q.Ok) (hN : Upto q last N) (i : Nat) : i < N ↔ (q.at_ i ≤ last ∧ q.has i) := by
  refine ⟨hN.1 i, fun h => ?_⟩
  rcases Nat.lt_or_ge i N with z | z
  · exact z
  · refine absurd ⟨?_, has_mono q z h.2⟩ hN.2
    have := hq.at_le z
    omega
def dueL (q : Sq) (N : Nat) : List (Int × Int) := (List.range N).map fun i => (q.at_ i, q.en i)
def ovsL (q : Sq) (N : Nat) : List (Int × Int) := (List.range (N - 1)).map fun i => (q.at_ (i + 1), q.at_ i + q.lo i)
theorem PosT.rows_le (hq : q.Ok) (b : PosT q Q S t) : ∀ r ∈ S.rows, r.1 ≤ t := by
  intro r hr
  rcases b with ⟨k, b⟩ | b
  · rw [b.rows] at hr
    obtain ⟨i, hi, rfl⟩ := List.mem_map.mp hr
    have := hq.at_le (a := i) (b := k) (by have := List.mem_range.mp hi; omega)
    have := b.lo
    show q.at_ i ≤ t
    omega
  · rw [b.rows] at hr
    obtain ⟨i, hi, rfl⟩ := List.mem_map.mp hr
    have := hq.at_le (a := i) (b := q.m) (by have := List.mem_range.mp hi; omega)
    have := b.le
    show q.at_ i ≤ t
    omega
theorem PosT.pg (b : PosT q Q S t) : S.Pg := by
  rcases b with ⟨k, b⟩ | b
  · exact b.on.pg
  · intro h
    rw [b.pl] at h
    cases h
theorem PosT.more (hq : q.Ok) (b : PosT q Q S t) : ∃ ex, (S.tick L 1).rows = S.rows ++ ex ∧ ∀ r ∈ ex, r ∉ S.rows := by
  have hle := b.rows_le hq
  obtain ⟨ex, e1, e2, _⟩ := tick_more (L := L) b.pg 1
  rcases b with ⟨k, b⟩ | b
  · refine ⟨ex, e1, fun r hr hm => ?_⟩
    have h1 := (e2 r hr).1
    have h2 := hle r hm
    rw [b.tm] at h1
    omega
  · refine ⟨[], ?_, fun r hr => by cases hr⟩
    rw [tick_off b.pl, List.append_nil]
/-- in the end just these were seen -/
theorem PosT.due (hq : q.Ok) (hN : Upto q last N) (b : PosT q Q S last) : S.rows = dueL q N := by
  unfold dueL
  rcases b with ⟨k, b⟩ | b
  · rw [b.rows]
    have h1 := (upto_iff hq hN k).mpr ⟨b.lo, b.has⟩
    have h2 : ¬ k + 1 < N := fun z => by
      have := (hN.1 _ z).1
      have := b.hi
      omega
    rw [show N = k + 1 by omega]
  · rw [b.rows]
    have h1 : ∀ i, i < q.m → i < N := fun i hi => (upto_iff hq hN i).mpr ⟨by have := hq.at_le (a := i) (b := q.m) (by omega); have := b.le; omega, .inr hi⟩
    have h2 : ¬ q.m < N := fun z => by
      rcases (hN.1 _ z).2 with h | h
      · rw [b.ag] at h; cases h
      · omega
    have h3 := hq.pos
    have := h1 (q.m - 1) (by omega)
    rw [show N = q.m by omega]
def ovB (q : Sq) (N : Nat) (t : Int) : List Bool := (ovsL q N).map fun r => decide (r.1 ≤ t ∧ t < r.2)
theorem ovB_any : (ovB q N t).any id = decide (∃ i, i < N - 1 ∧ q.at_ (i + 1) ≤ t ∧ t < q.at_ i + q.lo i) := by
  unfold ovB ovsL
  rw [List.map_map, List.any_map]
  by_cases h : ∃ i, i < N - 1 ∧ q.at_ (i + 1) ≤ t ∧ t < q.at_ i + q.lo i
  · rw [decide_eq_true h]
    obtain ⟨i, h1, h2⟩ := h
    exact List.any_eq_true.mpr ⟨i, List.mem_range.mpr h1, decide_eq_true h2⟩
  · rw [decide_eq_false h]
    refine List.any_eq_false.mpr fun i hi z => h ⟨i, List.mem_range.mp hi, of_decide_eq_true z⟩
theorem pos_any {k : Nat} (hq : q.Ok) (hN : Upto q last N) (ht : t ≤ last) (b : Pos q Q S k t) : (ovB q N t).any id = S.old.isSome := by
  rw [ovB_any, b.old]
  have hk := (upto_iff hq hN k).mpr ⟨by have := b.lo; omega, b.has⟩
  have hno : ∀ i, i < N - 1 → q.at_ (i + 1) ≤ t → t < q.at_ i + q.lo i → i + 1 = k := fun i h1 h2 h3 => by
    have hi : i + 1 ≤ k := by
      rcases Nat.lt_or_ge k (i + 1) with z | z
      · have := hq.at_le (a := k + 1) (b := i + 1) (by omega)
        have := b.hi
        omega
      · exact z
    rcases Nat.lt_or_ge (i + 1) k with z | z
    · have h4 := hq.over i
      have h5 := hq.at_le (a := i + 2) (b := k) (by omega)
      have := b.lo
      omega
    · omega
  cases k with
  | zero =>
    rw [decide_eq_false (by rintro ⟨i, h1, h2, h3⟩; have := hno i h1 h2 h3; omega)] <;> rfl
  | succ k =>
    dsimp only
    by_cases hc : t < q.at_ k + q.lo k
    · rw [if_pos hc, decide_eq_true ⟨k, by omega, b.lo, hc⟩] <;> rfl
    · rw [if_neg hc, decide_eq_false (by
        rintro ⟨i, h1, h2, h3⟩
        have := hno i h1 h2 h3
        rw [show i = k by omega] at h3
        exact hc h3)] <;> rfl
theorem end_any (hq : q.Ok) (hN : Upto q last N) (b : End q Q S t) : (ovB q N t).any id = false := by
  rw [ovB_any]
  refine decide_eq_false ?_
  rintro ⟨i, h1, h2, h3⟩
  have hm : i + 1 < q.m := by
    rcases (hN.1 (i + 1) (by omega)).2 with h | h
    · rw [b.ag] at h; cases h
    · exact h
  have h4 := hq.over i
  have h5 := hq.at_le (a := i + 2) (b := q.m) (by omega)
  have := b.le
  omega
/-- loudness while one goes over -/
theorem pos_loud {k : Nat} (hq : q.Ok) (b : Pos q Q S (k + 1) t) (h : t < q.at_ k + q.lo k) : 0 < q.lo k - (t - q.at_ k) ∧ q.lo k - (t - q.at_ k) ≤ q.jo k ∧ q.jo k ≤ q.ov := by
  have := b.lo
  have h1 := hq.jo k
  rw [Sq.at_succ] at this
  omega
end
theorem eqv_row (a b c d : Int) : PyData.eqv (tD [a, b]) (tD [c, d]) = decide ((a, b) = (c, d)) := by
  have e : PyData.eqv (tD [a, b]) (tD [c, d]) = (decide (a = c) && decide (b = d)) := by
    show ((a == c) && ((b == d) && true)) = _
    rw [Bool.and_true]
    by_cases h1 : a = c <;> by_cases h2 : b = d <;> simp [h1, h2]
  rw [e]
  simp [Bool.decide_and]
theorem any_row (r : Int × Int) (rows : List (Int × Int)) : (((rw2 rows).map tD).any fun z => PyData.eqv z (tD [r.1, r.2])) = decide (r ∈ rows) := by
  unfold rw2
  rw [List.map_map, List.any_map]
  by_cases h : r ∈ rows
  · rw [decide_eq_true h]
    refine List.any_eq_true.mpr ⟨r, h, ?_⟩
    show PyData.eqv (tD [r.1, r.2]) (tD [r.1, r.2]) = true
    rw [eqv_row, decide_eq_true rfl]
  · rw [decide_eq_false h]
    refine List.any_eq_false.mpr fun x hx z => ?_
    have z : PyData.eqv (tD [x.1, x.2]) (tD [r.1, r.2]) = true := z
    rw [eqv_row] at z
    have this : x = r := of_decide_eq_true z
    exact h (by rw [← this]; exact hx)
theorem shaped_row (r : Int × Int) : SeqAt.shaped (tD [r.1, r.2]) = true := shaped_of (n := 1) (shd_tup (n := 0) (shd_ints [r.1, r.2])) (by decide)
section
variable {K : PySem.W.Frag} {σ : L2.St} {H : Hp} {R : List As} {Q : VK}
/-- rows themselves, those of a kind -/
theorem y_lcRs {te : TE} {g : TG} {tt : TT} {vs : List Nat} {l : Addr} {qs : List Addr} {rows : List (Int × Int)} (f : Int × Int → Bool) (hS : Sep (pt l (.lst (qs.map V.ref)) :: TupA qs (rw2 rows) :: R) H) (hn : rows.length ≤ 100000)
    (hs : ∀ D (us : List Addr) done r u H, r ∈ rows → (us.map V.ref).length ≤ 1000000 → SqT K H u [.int r.1, .int r.2] → Sep (pt D (.lst (us.map V.ref)) :: TupA us (rw2 done) :: pt l (.lst (qs.map V.ref)) :: TupA qs (rw2 rows) :: R) H →
      (∀ H', Sep (pt D (.lst (us.map V.ref)) :: TupA us (rw2 done) :: pt l (.lst (qs.map V.ref)) :: TupA qs (rw2 rows) :: R) H' → f r = false → ∃ us' : List Addr, Sep (pt D (.lst (us'.map V.ref)) :: TupA us' (rw2 (if f r = true then done ++ [r] else done)) :: pt l (.lst (qs.map V.ref)) :: TupA qs (rw2 rows) :: R) H') →
      (∀ H', Sep (pt D (.lst (us.map V.ref ++ [.ref u])) :: TupA us (rw2 done) :: pt l (.lst (qs.map V.ref)) :: TupA qs (rw2 rows) :: R) H' → f r = true → ∃ us' : List Addr, Sep (pt D (.lst (us'.map V.ref)) :: TupA us' (rw2 (if f r = true then done ++ [r] else done)) :: pt l (.lst (qs.map V.ref)) :: TupA qs (rw2 rows) :: R) H') →
      g (.ref u) (wipe σ vs) H (kLcb tt te D σ vs (fun H' => ∃ us' : List Addr, Sep (pt D (.lst (us'.map V.ref)) :: TupA us' (rw2 (if f r = true then done ++ [r] else done)) :: pt l (.lst (qs.map V.ref)) :: TupA qs (rw2 rows) :: R) H')))
    (hd : ∀ D H, Sep (RowsR D (rw2 (rows.filter f)) :: RowsR l (rw2 rows) :: R) H → Q (.ref D) H) : kLcL K g tt te vs σ Q (.ref l) H := by
  have hql := tupA_len (ro := l) (ps := qs) (rs := rw2 rows) hS
  rw [rw2_len] at hql
  refine y_lcL (xs := qs.map V.ref) (sqL hS) hS (fun D i H => ∃ us : List Addr, Sep (pt D (.lst (us.map V.ref)) :: TupA us (rw2 ((rows.take i).filter f)) :: pt l (.lst (qs.map V.ref)) :: TupA qs (rw2 rows) :: R) H)
    (fun D H hS => ⟨[], ?_⟩) (fun D i H _ ⟨us, hS⟩ => sqL hS) (fun D i x H hx ⟨us, hS⟩ => ?_) (fun D H ⟨us, hS⟩ => ?_)
  · exact (Sep.tup0 hS).swap
  · rw [List.getElem?_map] at hx
    obtain ⟨u, hu, rfl⟩ := Option.map_eq_some_iff.mp hx
    obtain ⟨r0, hr0, hHq⟩ := TupA.at_ (hS.tupsOf (ps := qs) (rs := rw2 rows)) hu
    unfold rw2 at hr0
    rw [List.getElem?_map] at hr0
    obtain ⟨r, hr, rfl⟩ := Option.map_eq_some_iff.mp hr0
    have hul := tupA_len (ro := l) (ps := us) (rs := rw2 ((rows.take i).filter f)) hS
    rw [rw2_len] at hul
    have hb := List.length_filter_le f (rows.take i)
    have hb2 := List.length_take_le' i rows
    have e : (rows.take (i + 1)).filter f = if f r = true then (rows.take i).filter f ++ [r] else (rows.take i).filter f := by
      rw [List.take_add_one, hr, List.filter_append]
      cases hf : f r
      · simp [hf]
      · simp [hf]
    rw [e]
    refine hs D us _ r u H (List.mem_of_getElem? hr) (by rw [List.length_map]; omega) (.of hHq) hS (fun H' hS hf => ?_) (fun H' hS hf => ?_)
    · rw [if_neg (by rw [hf]; exact Bool.false_ne_true)]
      exact ⟨us, hS⟩
    · rw [if_pos hf]
      refine ⟨us ++ [u], ?_⟩
      obtain ⟨r1, hr1, hH1⟩ := TupA.at_ (hS.tupsOf (ps := qs) (rs := rw2 rows)) hu
      unfold rw2 at hr1
      rw [List.getElem?_map, hr] at hr1
      have hr1 := Option.some.inj hr1
      subst hr1
      rw [show (us ++ [u]).map V.ref = us.map V.ref ++ [V.ref u] by rw [List.map_append] <;> rfl]
      have hS : Sep (TupA qs (rw2 rows) :: pt D (.lst (us.map V.ref ++ [.ref u])) :: TupA us (rw2 ((rows.take i).filter f)) :: pt l (.lst (qs.map V.ref)) :: R) H' := hS.of (by repeat (first | exact En.refl | exact En.nil | refine En.cons ?_ | refine En.drop ?_))
      have hS := Sep.dupA (A := TupA qs (rw2 rows)) (fun _ a => a.imm) hS
      have hS : Sep (TupA us (rw2 ((rows.take i).filter f)) :: TupA qs (rw2 rows) :: pt D (.lst (us.map V.ref ++ [.ref u])) :: pt l (.lst (qs.map V.ref)) :: TupA qs (rw2 rows) :: R) H' := hS.of (by repeat (first | exact En.refl | exact En.nil | refine En.cons ?_ | refine En.drop ?_))
      have hS : Sep (TupA (us ++ [u]) (rw2 ((rows.take i).filter f ++ [r])) :: pt D (.lst (us.map V.ref ++ [.ref u])) :: pt l (.lst (qs.map V.ref)) :: TupA qs (rw2 rows) :: R) H' := Sep.join (fun h1 h2 h s1 s2 a b => by
        unfold rw2
        rw [List.map_append]
        refine (a.sb s1).snoc ?_
        obtain ⟨r2, hr2, hH2⟩ := TupA.at_ (b.sb s2) hu
        unfold rw2 at hr2
        rw [List.getElem?_map, hr] at hr2
        have hr2 := Option.some.inj hr2
        subst hr2
        exact hH2) hS
      exact hS.of (by repeat (first | exact En.refl | exact En.nil | refine En.cons ?_ | refine En.drop ?_))
  · rw [List.length_map, hql, List.take_length] at hS
    have hS := Sep.clRA (l := D) (rs := rw2 (rows.filter f)) us hS
    have hS := Sep.clRA (l := l) (rs := rw2 rows) qs hS
    exact hd D H hS.swap
end

end
end TR

set_option Elab.async false
set_option linter.all false
set_option maxRecDepth 100000
set_option maxHeartbeats 4000000
/-! .. -/

namespace TR
open PySem PySem.Spec PyProof.Rows L2
section
variable {P : Program} {w : World} {K : PySem.W.Frag} {mg : Str → Option Value} {base : Heap}
/-! ### which begins when, by the law -/
section
variable {K : PySem.W.Frag} {H : Hp} {p : Addr} {L R : List As} {Q : VK} {rs : List (List Int)}
theorem x_ixRn {r : List Int} (i : Nat) (hr : rs[i]? = some r) (hS : Sep L H) [a : Pk (RowsR p rs) L R] (k : ∀ u, SqT K H u (r.map V.int) → Q (.ref u) H) : rIx K (.ref p) (.int (i : Nat)) H Q := by
  obtain ⟨ps, hS⟩ := (a.en H hS).opR
  have hl := tupA_len (ro := p) (ps := ps) (rs := rs) hS
  have hi := (List.getElem?_eq_some_iff.mp hr).1
  obtain ⟨r', h1, h2⟩ := TupA.at_ (i := i) (p := ps[i]'(by omega)) (hS.tupsOf (ps := ps) (rs := rs)) (List.getElem?_eq_getElem (by omega))
  rw [hr] at h1
  have h1 := Option.some.inj h1
  subst h1
  exact x_ixL (v := .ref (ps[i]'(by omega))) (sqL hS) (atI_nat (j := i) (by rw [List.getElem?_map, List.getElem?_eq_getElem (by omega)] <;> rfl)) (k _ (.of h2))
theorem sqR (hS : Sep L H) [a : Pk (RowsR p rs) L R] : ∃ xs, SqL K H p xs := by
  obtain ⟨ps, hS⟩ := (a.en H hS).opR
  exact ⟨_, sqL hS⟩
theorem x_appR {u : Addr} {a b : Int} (rows : List (Int × Int)) (hS : Sep L H) [q : Pks [RowsR p (rw2 rows), pt u (.tup [.int a, .int b])] L R] (hl : rows.length ≤ 100000) (k : ∀ H', Sep (RowsR p (rw2 (rows ++ [(a, b)])) :: R) H' → Q .non H') : rAppend (.ref p) [.ref u] H Q := by
  have hS : Sep (RowsR p (rw2 rows) :: pt u (.tup [.int a, .int b]) :: R) H := q.en H hS
  obtain ⟨ps, hS⟩ := hS.opR
  have hpl := tupA_len (ro := p) (ps := ps) (rs := rw2 rows) hS
  rw [rw2_len] at hpl
  refine x_append (p := p) hS (by rw [List.length_map, hpl]; exact sz (by omega)) fun H hS => ?_
  exact k H (Sep.rowsA (ro := p) (u := u) (ps := ps) (rows := rows) (a := a) (b := b) hS)
end
instance (q : Sq) (k : Nat) : Decidable (q.has k) := by unfold Sq.has; infer_instance
def entL (q : Sq) : List (Int × Int) := (List.range q.m).map fun i => (((i : Nat) : Int) + 1, q.lo i)
theorem entL_at {q : Sq} (hq : q.Ok) (k : Nat) : (rw2 (entL q))[k % q.m]? = some [q.en k, q.lo k] := by
  have hk : k % q.m < q.m := Nat.mod_lt _ hq.pos
  unfold rw2 entL
  rw [List.getElem?_map, List.getElem?_map, List.getElem?_range hk]
  show some [((k % q.m : Nat) : Int) + 1, q.lo (k % q.m)] = _
  unfold Sq.lo Sq.en
  rw [Nat.mod_mod]
theorem dueL_snoc (q : Sq) (k : Nat) : dueL q (k + 1) = dueL q k ++ [(q.at_ k, q.en k)] := range_snoc _ k
def sp_l_begins (K : PySem.W.Frag) : Sp := fun vs H Q E => ∃ (le : Addr) (q : Sq) (last : Nat) (R : List As), vs = [.ref le, .int q.ov, .bl q.ag, .int (last : Nat)] ∧ q.Ok ∧ last ≤ 200 ∧ Sep (RowsR le (rw2 (entL q)) :: R) H ∧
  ∀ l N H', Upto q (last : Nat) N → N ≤ 201 → Sep (RowsR l (rw2 (dueL q N)) :: RowsR le (rw2 (entL q)) :: R) H' → Q (.ref l) H'
theorem ln_l_begins : ∀ vs H Q E, sp_l_begins K vs H Q E → vs.length = (["_law_entries", "_law_overlap", "_law_is_again", "_law_last"] : List Str).length := by
  rintro _ _ _ _ ⟨le, q, last, R, rfl, _⟩
  rfl
theorem sc_l_begins : FnScope ["_law_entries", "_law_overlap", "_law_is_again", "_law_last", "_law_found", "_law_at", "_law_k", "_law_entry", "_law_long", "_law_other", "_law_is_end"] ["_law_entries", "_law_overlap", "_law_is_again", "_law_last"] (defScope s_l_begins) := ⟨rfl, rfl, rfl, by decide +kernel, rfl, by decide +kernel, by decide +kernel⟩
theorem ok_l_begins (T : Top K mg) : OkD P w K mg base d_l_begins 1 ["_law_entries", "_law_overlap", "_law_is_again", "_law_last"] (sp_l_begins K) := by
  refine okD (df_l_begins T) sc_l_begins (fun _ _ _ _ _ _ us hl => match us, hl with | [_, _, _, _], _ => rfl) ln_l_begins (fun cdv A outer s H vs Q E hr h => ⟨_,
      pss_cons (ps_set (i := 4) sc_l_begins.nd rfl (Or.inl rfl) (pe_lst pa_nil))
      (pss_cons (ps_set (i := 5) sc_l_begins.nd rfl (Or.inl rfl) pe_int)
      (pss_cons (ps_set (i := 6) sc_l_begins.nd rfl (Or.inl rfl) pe_int)
      (pss_cons (ps_while (passes_of rfl) (PW.pt (pw_and (pt_cmpR op_le (pv 5) (pv 3) (nomark _)) (pw_and1 (PW.pt (pw_or (px_truth (pv 2) (by intro _; rfl)) (pw_or1 (pt_cmpR op_lt (pv 6) (pe_callB call_lenA (by rfl) (fr_len T) (by decide +kernel) (pa_cons (pv 0) pa_nil)) (nomark _))))))))
       (pss_cons (ps_asg (pe_ix ix_seq (pv 0) (pe_op op_mod (pv 6) (pe_callB call_lenA (by rfl) (fr_len T) (by decide +kernel) (pa_cons (pv 0) pa_nil))) (fun _ _ => rfl)) (pg_tup (n := 2) rfl (pgs_cons (pg_name (i := 7) sc_l_begins.nd rfl (Or.inl rfl)) (pgs_cons (pg_name (i := 8) sc_l_begins.nd rfl (Or.inl rfl)) pgs_nil))))
        (pss_cons (ps_expr (pe_bm PySem.F.plainAttrs_list PySem.F.slot_list_append PySem.F.type_list_append mt_append (pv 4) (pa_cons (pe_tup (pa_cons (pv 5) (pa_cons (pv 7) pa_nil))) pa_nil)))
        (pss_cons (ps_set (i := 9) sc_l_begins.nd rfl (Or.inl rfl) (pe_ix ix_seq (pe_ix ix_seq (pv 0) (pe_op op_mod (pe_op op_addA (pv 6) pe_int) (pe_callB call_lenA (by rfl) (fr_len T) (by decide +kernel) (pa_cons (pv 0) pa_nil))) (fun _ _ => rfl)) pe_int (fun _ _ => rfl)))
        (pss_cons (ps_set (i := 10) sc_l_begins.nd rfl (Or.inl rfl) (pe_and (pe_not (pv 2)) (pe_one (pe_cmpR (op_eqA hr.units) (pe_op op_addA (pv 6) pe_int) (pe_callB call_lenA (by rfl) (fr_len T) (by decide +kernel) (pa_cons (pv 0) pa_nil)) (nomark _)))))
        (pss_cons (ps_set (i := 5) sc_l_begins.nd rfl (Or.inl rfl) (pe_op op_sub (pe_op op_addA (pv 5) (pv 8)) (pe_ifExp (px_truth (pv 10) (by intro _; rfl)) pe_int (pe_callB (call_min3Nu rfl) (by rfl) (fr_min T) (by decide +kernel) (pa_cons (pv 1) (pa_cons (pe_op op_fdiv (pv 8) pe_int) (pa_cons (pe_op op_fdiv (pv 9) pe_int) pa_nil)))))))
        (pss_one (ps_set (i := 6) sc_l_begins.nd rfl (Or.inl rfl) (pe_op op_addA (pv 6) pe_int)))))))))
      (pss_one (ps_ret (pv 4)))))), ?_⟩)
  obtain ⟨le, q, last, R, rfl, hq, hl, hS, h1⟩ := h
  have hlen : (rw2 (entL q)).length = q.m := by
    unfold rw2 entL
    rw [List.length_map, List.length_map, List.length_range]
  have hp := hq.pos
  walk_at "wo"
  rename Addr => f
  have hS := Sep.clR (l := f) (rs := rw2 (dueL q 0)) [] (hS.skip fun _ h => Sep.tup0 h)
  refine y_while (fun m σ H => ∃ (k : Nat) (b7 b8 b9 b10 : Option V), k + m = 202 ∧ k ≤ 201 ∧ (∀ i, i < k → q.at_ i ≤ (last : Nat) ∧ q.has i) ∧ σ = [some (.ref le), some (.int q.ov), some (.bl q.ag), some (.int (last : Nat)), some (.ref f), some (.int (q.at_ k)), some (.int (k : Nat)), b7, b8, b9, b10] ∧
    Sep (RowsR f (rw2 (dueL q k)) :: RowsR le (rw2 (entL q)) :: R) H) 202 ⟨0, _, _, _, _, rfl, by omega, fun i hi => absurd hi (Nat.not_lt_zero i), rfl, hS⟩ ?_
  clear hS
  rintro m σ H ⟨k, b7, b8, b9, b10, hkm, hk, hin, rfl, hS⟩
  have hatk := hq.at_le (a := 0) (b := k) (Nat.zero_le k)
  have hat0 : q.at_ 0 = 0 := rfl
  have stop : ∀ H, ¬ (q.at_ k ≤ (last : Nat) ∧ q.has k) → Sep (RowsR f (rw2 (dueL q k)) :: RowsR le (rw2 (entL q)) :: R) H → Q (.ref f) H := fun H hn hS => h1 f k H ⟨hin, hn⟩ hk hS
  walk_at "w"
  refine y_cutT (fun b H' => b = decide (q.at_ k ≤ (last : Nat) ∧ q.has k) ∧ H' = H) (fun N hN => ?_) ?_
  · walk_at "v"
    refine x_dec (fun ha1 => ?_) (fun ha1 => ?_)
    · walk_at "v"
      refine x_bool (fun ha => ?_) (fun ha => ?_)
      · exact hN _ _ ⟨by rw [decide_eq_true ⟨ha1, .inl ha⟩], rfl⟩
      · walk_at "v"
        refine x_lenR (rs := rw2 (entL q)) hS ?_
        rw [hlen]
        walk_at "v"
        refine hN _ _ ⟨decide_eq_decide.mpr ⟨fun h => ⟨ha1, .inr (by omega)⟩, fun h => ?_⟩, rfl⟩
        rcases h.2 with z | z
        · rw [ha] at z; cases z
        · omega
    · exact hN _ _ ⟨by rw [decide_eq_false fun z => ha1 z.1], rfl⟩
  rintro _ _ ⟨rfl, rfl⟩
  refine y_whd (fun hc => ?_) (fun hn => ?_)
  · obtain ⟨hle, hhas⟩ := hc
    have hjo := hq.jo k
    have hgo : (!q.ag && decide (k + 1 = q.m)) = decide (¬ q.go k) := by
      cases ha : q.ag with
      | true =>
        exact (decide_eq_false (fun z : ¬ q.go k => z (.inl ha))).symm
      | false =>
        have hkm : k < q.m := hhas.resolve_left (by rw [ha]; exact Bool.false_ne_true)
        show decide (k + 1 = q.m) = _
        refine decide_eq_decide.mpr ⟨fun h z => ?_, fun h => ?_⟩
        · rcases z with z | z
          · rw [ha] at z; cases z
          · omega
        · have : ¬ k + 1 < q.m := fun z => h (.inr z)
          omega
    walk_at "v"
    refine x_lenR (rs := rw2 (entL q)) hS ?_
    rw [hlen]
    walk_at "v"
    refine x_I (by omega) ?_
    rw [show ((k : Nat) : Int) % ((q.m : Nat) : Int) = ((k % q.m : Nat) : Int) from (Int.natCast_emod k q.m).symm]
    refine x_ixRn (k % q.m) (entL_at hq k) hS fun u hu => ?_
    walk_at "v"
    refine x_gtup (xs := [.int (q.en k), .int (q.lo k)]) hu rfl ?_
    obtain ⟨xs, hxs⟩ := sqR (p := f) (rs := rw2 (dueL q k)) hS
    walk_at "v"
    refine y_bml hxs ?_
    walk_at "v"
    refine x_appR (u := u) (a := q.at_ k) (b := q.en k) (dueL q k) hS (by unfold dueL; rw [List.length_map, List.length_range]; omega) fun H hS => ?_
    rw [← dueL_snoc] at hS
    walk_at "v"
    refine x_lenR (rs := rw2 (entL q)) hS ?_
    rw [hlen]
    walk_at "v"
    refine x_I (by omega) ?_
    rw [show (((k : Nat) : Int) + 1) % ((q.m : Nat) : Int) = (((k + 1) % q.m : Nat) : Int) from (Int.natCast_emod (k + 1) q.m).symm]
    refine x_ixRn ((k + 1) % q.m) (entL_at hq (k + 1)) hS fun u hu => ?_
    walk_at "v"
    refine x_ixT hu (atI_nat (j := 1) (v := .int (q.lo (k + 1))) rfl) ?_
    refine y_asg ?_
    refine x_name ?_
    with_reducible refine x_seq ?_
    with_reducible refine x_asg ?_
    have hS : Sep (RowsR f (rw2 (dueL q (k + 1))) :: RowsR le (rw2 (entL q)) :: R) H := (hS.of (by repeat (first | exact En.refl | exact En.nil | refine En.cons ?_ | refine En.drop ?_)))
    refine y_cutE (te := tAndV _ _) (fun v H' => v = .bl (decide (¬ q.go k)) ∧ H' = H) (fun N hN => ?_) ?_
    · walk_at "v"
      refine x_nbool (fun ha => ?_) (fun ha => ?_)
      · walk_at "v"
        refine x_lenR (rs := rw2 (entL q)) hS ?_
        rw [hlen]
        walk_at "v"
        rw [ha] at hgo
        refine hN _ _ ⟨?_, rfl⟩
        rw [← hgo]
        show V.bl _ = V.bl (decide (k + 1 = q.m))
        rw [decide_eq_decide.mpr (show ((k : Nat) : Int) + 1 = ((q.m : Nat) : Int) ↔ k + 1 = q.m by omega)]
      · rw [ha] at hgo
        exact hN _ _ ⟨by rw [← hgo] <;> rfl, rfl⟩
    rintro _ H1 ⟨rfl, hH⟩
    rw [hH]
    clear hH H1
    walk_at "w"
    refine y_cutE (fun v H' => v = .int (q.jo k) ∧ H' = H) (fun N hN => ?_) ?_
    · walk_at "v"
      refine x_dec (fun hg => ?_) (fun hg => ?_)
      · walk_at "v"
        exact hN _ _ ⟨by unfold Sq.jo; rw [if_neg hg], rfl⟩
      · walk_at "v"
        refine x_I ⟨by decide, by decide⟩ ?_
        walk_at "v"
        refine x_I ⟨by decide, by decide⟩ ?_
        walk_at "v"
        refine x_min3 ?_
        exact hN _ _ ⟨by unfold Sq.jo; rw [if_pos (Decidable.not_not.mp hg)], rfl⟩
    rintro _ H1 ⟨rfl, hH⟩
    rw [hH]
    clear hH H1
    walk_at "v"
    rw [← Sq.at_succ]
    exact ⟨m - 1, by omega, k + 1, _, _, _, _, by omega, by omega, fun i hi => by
      rcases Nat.lt_or_ge i k with z | z
      · exact hin i z
      · rw [show i = k by omega]
        exact ⟨hle, hhas⟩, rfl, hS⟩
  · walk_at "v"
    exact stop _ hn hS

end
end TR

set_option Elab.async false
set_option linter.all false
set_option maxRecDepth 100000
set_option maxHeartbeats 4000000
/-! .. -/

namespace TR
open PySem PySem.Spec PyProof.Rows L2
section
variable {P : Program} {w : World} {K : PySem.W.Frag} {mg : Str → Option Value} {base : Heap}
/-! ### more for queues by sums -/
theorem merge_at (m : Nat) (f : Nat → Int) (i : Nat) : valV (mergeK [] ((List.range m).map fun i => ((Sum.inl (((i : Nat) : Int) + 1) : Key), V.int (f i)))) (.inl (((i : Nat) : Int) + 1)) = if i < m then some (.int (f i)) else none := by
  induction m with
  | zero => rfl
  | succ m ih =>
    unfold mergeK at ih ⊢
    rw [List.range_succ, List.map_append, List.foldl_append]
    show valV (putK _ (Sum.inl (((m : Nat) : Int) + 1)) (V.int (f m))) _ = _
    rw [valV_put, ih]
    by_cases h : i = m
    · rw [if_pos (by rw [h]), if_pos (by omega), h]
    · rw [if_neg (fun z => h (by injection z with z; omega))]
      by_cases h2 : i < m
      · rw [if_pos h2, if_pos (by omega)]
      · rw [if_neg h2, if_neg (by omega)]
def entK (q : Sq) : List (Key × V) := (List.range q.m).map fun i => ((Sum.inl (((i : Nat) : Int) + 1) : Key), V.int (q.lo i))
theorem entK_at {q : Sq} (hq : q.Ok) (k : Nat) : valV (mergeK [] (entK q)) (.inl (q.en k)) = some (.int (q.lo k)) := by
  have hk : k % q.m < q.m := Nat.mod_lt _ hq.pos
  unfold entK Sq.en
  rw [merge_at, if_pos hk]
  unfold Sq.lo
  rw [Nat.mod_mod]
theorem paired_ent {K : PySem.W.Frag} {H : Hp} : ∀ {ps : List Addr} {rs : List (Int × Int)}, TupA ps (rw2 rs) H → Paired (fun p (kv : Key × V) => SqT K H p [kV kv.1, kv.2]) ps (rs.map fun r => ((Sum.inl r.1 : Key), V.int r.2))
  | [], [], _ => .nil
  | _ :: ps, r :: rs, ⟨a, b⟩ => .cons (.of a) (paired_ent (ps := ps) (rs := rs) b)
theorem entK_eq (q : Sq) : (entL q).map (fun r => ((Sum.inl r.1 : Key), V.int r.2)) = entK q := by
  unfold entL entK
  rw [List.map_map]
  rfl
theorem insAt_end (xs : List Int) (y : Int) : insAt xs xs.length y = xs ++ [y] := by
  unfold insAt
  rw [List.take_length, List.drop_length, List.append_nil]
/-- an entry more -/
theorem entL_snoc (ls : List Int) (ov l : Int) (ag : Bool) : entL ⟨ls ++ [l], ov, ag⟩ = entL ⟨ls, ov, ag⟩ ++ [(((ls.length : Nat) : Int) + 1, l)] := by
  unfold entL Sq.lo Sq.m
  dsimp only
  rw [List.length_append, List.length_singleton, List.range_succ, List.map_append]
  congr 1
  · refine List.map_congr_left fun i hi => ?_
    have hi := List.mem_range.mp hi
    rw [Nat.mod_eq_of_lt (by omega), Nat.mod_eq_of_lt hi, List.getD_eq_getElem?_getD, List.getD_eq_getElem?_getD, List.getElem?_append_left hi]
  · show [(((ls.length : Nat) : Int) + 1, (ls ++ [l]).getD (ls.length % (ls.length + 1)) 1)] = _
    rw [Nat.mod_eq_of_lt (Nat.lt_succ_self _), List.getD_eq_getElem?_getD, List.getElem?_append_right (Nat.le_refl _), Nat.sub_self] <;> rfl
section
variable {K : PySem.W.Frag} {σ : L2.St} {H : Hp} {p : Addr} {L R : List As} {Q : VK}
/-- a tuple's last two of four -/
theorem x_slT4 {a b c d : V} (hS : Sep L H) (h : SqT K H p [a, b, c, d]) (k : ∀ u H', Sep (pt u (.tup [c, d]) :: L) H' → Q (.ref u) H') : rSlT K (.ref p) (some 2) none H Q :=
  ⟨p, _, rfl, h, (by rintro ⟨h, _⟩; revert h; show ¬ (HT.sIx 4 0 (some 2) = 0); decide), fun l hl => k l _ (Sep.new (o := .tup [c, d]) hl hS)⟩
theorem x_ixR1e {rs' rs : List (List Int)} {r : List Int} (e : rs' = rs ++ [r]) (hS : Sep L H) [a : Pk (RowsR p rs') L R] (k : ∀ u, SqT K H u (r.map V.int) → Q (.ref u) H) : rIx K (.ref p) (.int (-1)) H Q := by
  subst e
  exact x_ixR1 (rs := rs) (r := r) hS k
/-- truths of rows -/
theorem y_lcRb {te : TE} {g : TG} {tt : TT} {vs : List Nat} {l : Addr} {qs : List Addr} {rows : List (Int × Int)} (f : Int × Int → Bool) (hS : Sep (pt l (.lst (qs.map V.ref)) :: TupA qs (rw2 rows) :: R) H) (hn : rows.length ≤ 100000)
    (hs : ∀ D (acc : List Bool) r u H, r ∈ rows → (acc.map V.bl).length ≤ 1000000 → SqT K H u [.int r.1, .int r.2] → Sep (pt D (.lst (acc.map V.bl)) :: pt l (.lst (qs.map V.ref)) :: TupA qs (rw2 rows) :: R) H →
      g (.ref u) (wipe σ vs) H (kLcb tt te D σ vs (fun H' => Sep (pt D (.lst ((acc ++ [f r]).map V.bl)) :: pt l (.lst (qs.map V.ref)) :: TupA qs (rw2 rows) :: R) H')))
    (hd : ∀ D H, Sep (pt D (.lst ((rows.map f).map V.bl)) :: RowsR l (rw2 rows) :: R) H → Q (.ref D) H) : kLcL K g tt te vs σ Q (.ref l) H := by
  have hql := tupA_len (ro := l) (ps := qs) (rs := rw2 rows) hS
  rw [rw2_len] at hql
  refine y_lcL (xs := qs.map V.ref) (sqL hS) hS (fun D i H => Sep (pt D (.lst (((rows.take i).map f).map V.bl)) :: pt l (.lst (qs.map V.ref)) :: TupA qs (rw2 rows) :: R) H)
    (fun D H hS => hS) (fun D i H _ hS => sqL hS) (fun D i x H hx hS => ?_) (fun D H hS => ?_)
  · rw [List.getElem?_map] at hx
    obtain ⟨q, hq, rfl⟩ := Option.map_eq_some_iff.mp hx
    obtain ⟨r0, hr0, hHq⟩ := TupA.at_ (hS.tupsOf (ps := qs) (rs := rw2 rows)) hq
    unfold rw2 at hr0
    rw [List.getElem?_map] at hr0
    obtain ⟨r, hr, rfl⟩ := Option.map_eq_some_iff.mp hr0
    have hb2 := List.length_take_le' i rows
    have e : (rows.take (i + 1)).map f = (rows.take i).map f ++ [f r] := by
      rw [List.take_add_one, hr, List.map_append] <;> rfl
    rw [e]
    exact hs D _ r q H (List.mem_of_getElem? hr) (by rw [List.length_map, List.length_map]; omega) (.of hHq) hS
  · rw [List.length_map, hql, List.take_length] at hS
    have hS := Sep.clRA (l := l) (rs := rw2 rows) qs hS
    exact hd D H hS.swap
end
/-- what sounds at a tick, one of three ways -/
inductive Snd (X : List (List Int)) (now : Option Int) (spot : Int) (pl any : Bool) (q : QS) (L : List (Str × Int)) (ov : Int) : Prop where
  | none (h1 : X = []) (h2 : now = .none) (h3 : pl = false) (h4 : any = false)
  | one (e : Int) (h1 : X = [[e, spot, 1, 1]]) (h2 : now = some e) (h3 : pl = true) (h4 : any = false)
  | two (e f s w j : Int) (h1 : X = [[f, s, w, j], [e, spot, j - w, j]]) (h2 : now = some e) (h3 : pl = true) (h4 : any = true) (h5 : 0 < w ∧ w ≤ j ∧ j ≤ ov) (h6 : w = q.lg L f - s) (h7 : q.ent f)
theorem posT_snd {L : List (Str × Int)} {c n : Nat} {S : PL} {q : Sq} {Q : QS} {t last : Int} {N : Nat} (hq : q.Ok) (hQ : SqQ q L Q) (h : S.Ok L c n) (hN : Upto q last N) (ht : t ≤ last) (b : PosT q Q S t) :
    Snd (S.sounds L) S.now S.spot S.pl ((ovB q N t).any id) S.o.q L q.ov := by
  rcases b with ⟨k, b⟩ | b
  · have hany := pos_any hq hN ht b
    have ho := b.old
    cases k with
    | zero =>
      have ho : S.old = none := ho
      refine .one (q.en 0) ?_ b.now b.on.pl (by rw [hany, ho] <;> rfl)
      unfold PL.sounds
      rw [b.now, ho]
    | succ k =>
      dsimp only at ho
      by_cases hc : t < q.at_ k + q.lo k
      · rw [if_pos hc] at ho
        have hl := pos_loud hq b hc
        have hlg : S.o.q.lg L (q.en k) = q.lo k := by rw [b.oq]; exact hQ.lg k
        have hent := h.old _ ho
        refine .two (q.en (k + 1)) (q.en k) (t - q.at_ k) (q.lo k - (t - q.at_ k)) (q.jo k) ?_ b.now b.on.pl (by rw [hany, ho] <;> rfl) hl (by rw [hlg]) hent
        unfold PL.sounds
        rw [b.now, ho]
        show [[q.en k, t - q.at_ k, S.o.q.lg L (q.en k) - (t - q.at_ k), q.jo k], [q.en (k + 1), S.spot, q.jo k - (S.o.q.lg L (q.en k) - (t - q.at_ k)), q.jo k]] = _
        rw [hlg]
      · rw [if_neg hc] at ho
        refine .one (q.en (k + 1)) ?_ b.now b.on.pl (by rw [hany, ho] <;> rfl)
        unfold PL.sounds
        rw [b.now, ho]
  · refine .none ?_ b.now b.pl (end_any hq hN b)
    unfold PL.sounds
    rw [b.now]

end
end TR

set_option Elab.async false
set_option linter.all false
set_option maxRecDepth 100000
set_option maxHeartbeats 4000000
/-! .. -/

namespace TR
open PySem PySem.Spec PyProof.Rows L2
section
variable {P : Program} {w : World} {K : PySem.W.Frag} {mg : Str → Option Value} {base : Heap}
/-! ### pauses change nothing -/
section
variable {L : List (Str × Int)} {S : PL}
theorem paused (hp : S.pl = true) (hn : S.now ≠ none) (k : Nat) : (({ S with pl := false } : PL).tick L k).resume L = S := by
  rw [tick_off rfl]
  obtain ⟨m, hm⟩ := Option.ne_none_iff_exists'.mp hn
  have e : ({ S with pl := false } : PL).resume0 L = { S with pl := false } := by
    unfold PL.resume0
    rw [show ({ S with pl := false } : PL).now = some m from hm]
  show ({ (({ S with pl := false } : PL).resume0 L) with pl := (({ S with pl := false } : PL).resume0 L).now.isSome } : PL) = S
  rw [e]
  show ({ S with pl := S.now.isSome } : PL) = S
  rw [show S.now.isSome = S.pl from (by rw [hm]; exact hp.symm)]
theorem PL.Pg.resume (S : PL) (L : List (Str × Int)) : (S.resume L).Pg := fun h z => by
  have h' : (S.resume0 L).now.isSome = true := h
  rw [show (S.resume0 L).now = none from z] at h'
  cases h'
theorem PL.resume_ov (S : PL) (L : List (Str × Int)) : (S.resume L).ov = S.ov := PL.op_ov S L .resume
end

end
end TR

set_option Elab.async false
set_option linter.all false
set_option maxRecDepth 100000
set_option maxHeartbeats 4000000
/-! .. -/

namespace TR
open PySem PySem.Spec PyProof.Rows L2
section
variable {P : Program} {w : World} {K : PySem.W.Frag} {mg : Str → Option Value} {base : Heap}
/-! ### the law -/
theorem sc_law : FnScope ["_law_script", "_law_town", "_law_longs", "_law_overlap", "_law_player", "_law_entries", "_law_k", "_law_name", "_law_is_again", "_law_last", "_law_due", "_law_seen", "_law_longs_of", "_law_overs", "_law_some", "_law_row", "_law_first", "_law_end"] ["_law_script"] (defScope s_law) := ⟨rfl, rfl, rfl, by decide +kernel, rfl, by decide +kernel, by decide +kernel⟩
theorem ok_law (T : Top K mg) : OkD P w K mg base d_law 11 ["_law_script"] (sp_law K) := by
  refine okD (df_law T) sc_law (fun _ _ _ _ _ _ us hl => match us, hl with | [_], _ => rfl) ln_law (fun cdv A outer s H vs Q E hr h => ⟨_,
      pss_cons (ps_set (i := 1) sc_law.nd rfl (Or.inl rfl) (pe_lst pa_nil))
      (pss_cons (ps_set (i := 2) sc_law.nd rfl (Or.inl rfl) (px_call (ok_l_shelf T) (hr.mono (by decide)) rfl (gl__law_shelf T) (fun σ => paD σ) (pa_cons (pv 0) (pa_cons (pv 1) pa_nil))))
      (pss_cons (ps_set (i := 3) sc_law.nd rfl (Or.inl rfl) (px_call (ok_l_draw T) (hr.mono (by decide)) rfl (gl__law_draw T) (fun σ => paD σ) (pa_cons (pv 0) (pa_cons (pv 1) (pa_cons pe_int pa_nil)))))
      (pss_cons (ps_set (i := 4) sc_law.nd rfl (Or.inl rfl) (px_make (ok_Player_init T) (hr.mono (by decide)) (mk_Player T) rfl (gl_Player T) (fun σ => paD σ) (pa_cons (px_call (ok_l_made T) (hr.mono (by decide)) rfl (gl__law_made T) (fun σ => paD σ) (pa_cons (pv 2) pa_nil)) (pa_cons (pv 3) (pa_cons pe_int pa_nil)))))
      (pss_cons (ps_set (i := 5) sc_law.nd rfl (Or.inl rfl) (pe_lst pa_nil))
      (pss_cons (ps_for (passes_of rfl) rfl (pi_range1 rfl (fr_range T) (pa_cons (pe_op op_addA pe_int (px_call (ok_l_draw T) (hr.mono (by decide)) rfl (gl__law_draw T) (fun σ => paD σ) (pa_cons (pv 0) (pa_cons (pv 1) (pa_cons pe_int pa_nil))))) pa_nil)) (pg_name (i := 6) sc_law.nd rfl (Or.inr rfl))
       (pss_cons (ps_set (i := 7) sc_law.nd rfl (Or.inl rfl) (px_call (ok_l_pick T) (hr.mono (by decide)) rfl (gl__law_pick T) (fun σ => paD σ) (pa_cons (pv 0) (pa_cons (pv 1) (pa_cons (pe_lst (pa_cons pe_str (pa_cons pe_str (pa_cons pe_str (pa_cons pe_str (pa_cons pe_str (pa_cons pe_str pa_nil))))))) pa_nil)))))
        (pss_one (ps_expr (pe_bm PySem.F.plainAttrs_list PySem.F.slot_list_append PySem.F.type_list_append mt_append (pv 5) (pa_cons (pe_tup (pa_cons (px_meth (ok_Player_add T) (hr.mono (by decide)) (pv 4) (cl_Player T) (me_Player_add T) (fun σ => paD σ) (pa_cons (pv 7) (pa_cons (pv 6) pa_nil))) (pa_cons (pe_dget (hu_of hr) (pv 2) (pv 7) (fun _ _ => rfl)) pa_nil))) pa_nil))))))
      (pss_cons (ps_set (i := 8) sc_law.nd rfl (Or.inl rfl) (pe_cmpR (op_eqA hr.units) (px_call (ok_l_draw T) (hr.mono (by decide)) rfl (gl__law_draw T) (fun σ => paD σ) (pa_cons (pv 0) (pa_cons (pv 1) (pa_cons pe_int pa_nil)))) pe_int (nomark _)))
      (pss_cons (ps_expr (px_meth (ok_Player_set_again T) (hr.mono (by decide)) (pv 4) (cl_Player T) (me_Player_set_again T) (fun σ => paD σ) (pa_cons (pe_ifExp (px_truth (pv 8) (by intro _; rfl)) pe_str pe_str) pa_nil)))
      (pss_cons (ps_expr (px_meth0 (ok_Player_resume T) (hr.mono (by decide)) (pv 4) (cl_Player T) (me_Player_resume T) (fun σ => paD σ)))
      (pss_cons (ps_set (i := 9) sc_law.nd rfl (Or.inl rfl) (px_call (ok_l_draw T) (hr.mono (by decide)) rfl (gl__law_draw T) (fun σ => paD σ) (pa_cons (pv 0) (pa_cons (pv 1) (pa_cons pe_int pa_nil)))))
      (pss_cons (ps_set (i := 10) sc_law.nd rfl (Or.inr rfl) (px_call (ok_l_begins T) (hr.mono (by decide)) rfl (gl__law_begins T) (fun σ => paD σ) (pa_cons (pv 5) (pa_cons (pv 3) (pa_cons (pv 8) (pa_cons (pv 9) pa_nil))))))
      (pss_cons (ps_set (i := 11) sc_law.nd rfl (Or.inr rfl) (pe_lst pa_nil))
      (pss_cons (ps_set (i := 12) sc_law.nd rfl (Or.inr rfl) (pe_callTy (call_dictA rfl) (by rfl) (fr_dict T) (by decide +kernel) (pa_cons (pv 5) pa_nil)))
      (pss_cons (ps_setLc (i := 13) (own := [("_law_k", 6)]) (g := gName 6) (by rfl) sc_law.nd rfl rfl (sw_true rfl rfl rfl (by decide +kernel)) (pi_range1 rfl (fr_range T) (pa_cons (pe_op op_sub (pe_callB call_lenA (by rfl) (fr_len T) (by decide +kernel) (pa_cons (pv 10) pa_nil)) pe_int) pa_nil)) (blkOk_by (own := [("_law_k", 6)]) (N := ["_law_script", "_law_town", "_law_longs", "_law_overlap", "_law_player", "_law_entries", "_law_k", "_law_name", "_law_is_again", "_law_last", "_law_due", "_law_seen", "_law_longs_of", "_law_overs", "_law_some", "_law_row", "_law_first", "_law_end"]) (sc := defScope s_law) (by decide +kernel)) (fun _ _ _ _ _ => pg_name (i := 6) sc_law.nd rfl (Or.inl rfl)) (fun _ _ _ _ _ => pts_nil) (fun _ _ _ _ _ => pe_tup (pa_cons (pe_ix (show IxR _ (rIx K) from ix_seq) (pe_ix (show IxR _ (rIx K) from ix_seq) (pv 10) (pe_op op_add (pv 6) pe_int) (fun _ _ => rfl)) pe_int (fun _ _ => rfl)) (pa_cons (pe_op op_add (pe_ix (show IxR _ (rIx K) from ix_seq) (pe_ix (show IxR _ (rIx K) from ix_seq) (pv 10) (pv 6) (fun _ _ => rfl)) pe_int (fun _ _ => rfl)) (pe_dget (hu_of hr) (pv 12) (pe_ix (show IxR _ (rIx K) from ix_seq) (pe_ix (show IxR _ (rIx K) from ix_seq) (pv 10) (pv 6) (fun _ _ => rfl)) pe_int (fun _ _ => rfl)) (fun _ _ => rfl))) pa_nil))))
      (pss_cons (ps_for (passes_of rfl) rfl (pi_range1 rfl (fr_range T) (pa_cons (pe_op op_addA (pv 9) pe_int) pa_nil)) (pg_name (i := 6) sc_law.nd rfl (Or.inr rfl))
       (pss_cons (ps_set (i := 14) sc_law.nd rfl (Or.inl rfl) (px_meth0 (ok_Player_sounds T) (hr.mono (by decide)) (pv 4) (cl_Player T) (me_Player_sounds T) (fun σ => paD σ)))
        (pss_cons (ps_if (pt_cmpR (op_neA hr.units) (pe_cmpR (op_eqA hr.units) (pe_callB call_lenA (by rfl) (fr_len T) (by decide +kernel) (pa_cons (pv 14) pa_nil)) pe_int (nomark _)) (pe_callB (cr_any rfl) (by rfl) (fr_any T) (by decide +kernel) (pa_cons (pe_lc (own := [("_law_first", 16), ("_law_end", 17)]) (g := gTup K 2 (gCons (gName 16) (gCons (gName 17) gNil))) (by rfl) sc_law.nd (pi_list (pv 13)) (blkOk_by (own := [("_law_first", 16), ("_law_end", 17)]) (N := ["_law_script", "_law_town", "_law_longs", "_law_overlap", "_law_player", "_law_entries", "_law_k", "_law_name", "_law_is_again", "_law_last", "_law_due", "_law_seen", "_law_longs_of", "_law_overs", "_law_some", "_law_row", "_law_first", "_law_end"]) (sc := defScope s_law) (by decide +kernel)) (fun _ _ _ _ _ => pg_tup (n := 2) rfl (pgs_cons (pg_name (i := 16) sc_law.nd rfl (Or.inl rfl)) (pgs_cons (pg_name (i := 17) sc_law.nd rfl (Or.inl rfl)) pgs_nil))) (fun _ _ _ _ _ => pts_nil) (fun _ _ _ _ _ => pe_chain op_le op_lt (pv 16) (pv 6) (pv 17))) pa_nil)) (nomark _))
         (pss_one (ps_ret pe_bl))
         (pss_nil))
        (pss_cons (ps_if (PW.pt (pw_and (pt_cmpR (op_eqA hr.units) (pe_callB call_lenA (by rfl) (fr_len T) (by decide +kernel) (pa_cons (pv 14) pa_nil)) pe_int (nomark _)) (pw_and1 (pt_cmpR (op_neA hr.units) (pe_tup (pa_cons (pe_op op_addA (pe_ix ix_seq (pe_ix ix_seq (pv 14) pe_int (fun _ _ => rfl)) pe_int (fun _ _ => rfl)) (pe_ix ix_seq (pe_ix ix_seq (pv 14) pe_int (fun _ _ => rfl)) pe_int (fun _ _ => rfl))) (pa_cons (pe_ix ix_seq (pe_ix ix_seq (pv 14) pe_int (fun _ _ => rfl)) pe_int (fun _ _ => rfl)) pa_nil))) (pe_tup (pa_cons (pe_ix ix_seq (pe_ix ix_seq (pv 14) pe_int (fun _ _ => rfl)) pe_int (fun _ _ => rfl)) (pa_cons (pe_ix ix_seq (pe_ix ix_seq (pv 14) pe_int (fun _ _ => rfl)) pe_int (fun _ _ => rfl)) pa_nil))) (nomark _)))))
         (pss_one (ps_ret pe_bl))
         (pss_nil))
        (pss_cons (ps_if (PW.pt (pw_and (pt_cmpR (op_eqA hr.units) (pe_callB call_lenA (by rfl) (fr_len T) (by decide +kernel) (pa_cons (pv 14) pa_nil)) pe_int (nomark _)) (pw_and1 (pt_not (pt_chain3 op_lt op_le op_le pe_int (pe_ix ix_seq (pe_ix ix_seq (pv 14) pe_int (fun _ _ => rfl)) pe_int (fun _ _ => rfl)) (pe_ix ix_seq (pe_ix ix_seq (pv 14) pe_int (fun _ _ => rfl)) pe_int (fun _ _ => rfl)) (pv 3))))))
         (pss_one (ps_ret pe_bl))
         (pss_nil))
        (pss_cons (ps_if (PW.pt (pw_and (pt_cmpR (op_eqA hr.units) (pe_callB call_lenA (by rfl) (fr_len T) (by decide +kernel) (pa_cons (pv 14) pa_nil)) pe_int (nomark _)) (pw_and1 (pt_cmpR (op_neA hr.units) (pe_ix ix_seq (pe_ix ix_seq (pv 14) pe_int (fun _ _ => rfl)) pe_int (fun _ _ => rfl)) (pe_op op_sub (pe_dget (hu_of hr) (pv 2) (px_meth (ok_Player_tune T) (hr.mono (by decide)) (pv 4) (cl_Player T) (me_Player_tune T) (fun σ => paD σ) (pa_cons (pe_ix ix_seq (pe_ix ix_seq (pv 14) pe_int (fun _ _ => rfl)) pe_int (fun _ _ => rfl)) pa_nil)) (fun _ _ => rfl)) (pe_ix ix_seq (pe_ix ix_seq (pv 14) pe_int (fun _ _ => rfl)) pe_int (fun _ _ => rfl))) (nomark _)))))
         (pss_one (ps_ret pe_bl))
         (pss_nil))
        (pss_cons (ps_if (PW.pt (pw_or (PW.pt (pw_and (pt_cmpR (op_eqA hr.units) (pe_callB call_lenA (by rfl) (fr_len T) (by decide +kernel) (pa_cons (pv 14) pa_nil)) pe_int (nomark _)) (pw_and1 (pt_cmpR (op_neA hr.units) (pe_slice sl_tup (pe_ix ix_seq (pv 14) pe_int (fun _ _ => rfl)) (po_some pe_int) po_none) (pe_tup (pa_cons pe_int (pa_cons pe_int pa_nil))) (nomark _))))) (pw_or1 (pt_cmpR (op_neA hr.units) (pe_ix ix_seq (px_meth0 (ok_Player_state T) (hr.mono (by decide)) (pv 4) (cl_Player T) (me_Player_state T) (fun σ => paD σ)) pe_int (fun _ _ => rfl)) (pe_cmpR (op_neA hr.units) (pv 14) (pe_lst pa_nil) (nomark _)) (nomark _)))))
         (pss_one (ps_ret pe_bl))
         (pss_nil))
        (pss_cons (ps_if (PW.pt (pw_and (pt_cmpR (op_neA hr.units) (pv 14) (pe_lst pa_nil) (nomark _)) (pw_and1 (pt_cmpR (op_neA hr.units) (pe_tup (pa_cons (pe_ix ix_seq (pe_ix ix_seq (pv 14) (pe_un un_neg pe_int) (fun _ _ => rfl)) pe_int (fun _ _ => rfl)) (pa_cons (pe_ix ix_seq (pe_ix ix_seq (pv 14) (pe_un un_neg pe_int) (fun _ _ => rfl)) pe_int (fun _ _ => rfl)) pa_nil))) (pe_slice sl_tup (px_meth0 (ok_Player_state T) (hr.mono (by decide)) (pv 4) (cl_Player T) (me_Player_state T) (fun σ => paD σ)) po_none (po_some pe_int)) (nomark _)))))
         (pss_one (ps_ret pe_bl))
         (pss_nil))
        (pss_cons (ps_set (i := 11) sc_law.nd rfl (Or.inr rfl) (pe_op op_addA (pv 11) (pe_lc (own := [("_law_row", 15)]) (g := gName 15) (by rfl) sc_law.nd (pi_list (px_meth0 (ok_Player_log T) (hr.mono (by decide)) (pv 4) (cl_Player T) (me_Player_log T) (fun σ => paD σ))) (blkOk_by (own := [("_law_row", 15)]) (N := ["_law_script", "_law_town", "_law_longs", "_law_overlap", "_law_player", "_law_entries", "_law_k", "_law_name", "_law_is_again", "_law_last", "_law_due", "_law_seen", "_law_longs_of", "_law_overs", "_law_some", "_law_row", "_law_first", "_law_end"]) (sc := defScope s_law) (by decide +kernel)) (fun _ _ _ _ _ => pg_name (i := 15) sc_law.nd rfl (Or.inl rfl)) (fun _ _ _ _ _ => pts_one (pt_cmpR (show OpR _ _ (rNotInD K) from op_notInD (un65 hr)) (pv 15) (pv 11) (by rfl))) (fun _ _ _ _ _ => pv 15))))
        (pss_one (ps_expr (px_meth (ok_Player_tick T) (hr.mono (by decide)) (pv 4) (cl_Player T) (me_Player_tick T) (fun σ => paD σ) (pa_cons pe_int pa_nil)))))))))))))
      (pss_one (ps_ret (pe_cmpR (op_eqA hr.units) (pv 11) (pv 10) (nomark _)))))))))))))))))), ?_⟩)
  obtain ⟨a, ns, rfl, hS, h1⟩ := h
  walk_at "wo"
  rename Addr => t0
  replace hS : Sep (TownA t0 0 :: [ScrA K a ns]) H := hS
  refine ⟨a, t0, ns, 0, [], rfl, by omega, (hS.of (by repeat (first | exact En.refl | exact En.nil | refine En.cons ?_ | refine En.drop ?_))), fun lg L H hL hok hS => ?_⟩
  walk_at "v"
  refine draw_is (by decide) (by omega) (hS.own2 a t0) fun H hS => ?_
  have hov : okOv ((dr ns (0 + 12) 10 : Nat) : Int) := by
    have := dr_lt (ns := ns) (n := 0 + 12) (m := 10) (by decide)
    exact ⟨by omega, by omega⟩
  obtain ⟨ov0, eov⟩ : ∃ ov0, ov0 = dr ns (0 + 12) 10 := ⟨_, rfl⟩
  rw [← eov] at hov ⊢
  clear eov
  walk_at "v"
  refine ⟨lg, L, _, rfl, hok, hS.own lg, fun sh H hS => ?_⟩
  walk_at "v"
  refine y_mk hS fun p dx H hS => ?_
  refine ⟨p, dx, sh, ov0, 0, _, rfl, hS.own p, fun _ _ H hS => ?_, fun no => absurd ⟨hov, by decide, by decide⟩ no⟩
  walk_at "v"
  rename Addr => le
  refine draw_is (by decide) (by omega) (hS.own2 a t0) fun H hS => ?_
  have hn1 := dr_lt (ns := ns) (n := 0 + 12 + 1) (m := 10) (by decide)
  obtain ⟨n1, en1⟩ : ∃ n1, n1 = dr ns (0 + 12 + 1) 10 := ⟨_, rfl⟩
  rw [← en1] at hn1 ⊢
  clear en1
  walk_at "v"
  rw [show (1 : Int) + ((n1 : Nat) : Int) = ((1 + n1 : Nat) : Int) by omega]
  have hS : Sep (pt le (.lst []) :: [ScrA K a ns, TownA t0 14, PlayerR K p sh (PL.new ov0 0), ShelfR K sh L, LongsA lg L]) H := (hS.of (by repeat (first | exact En.refl | exact En.nil | refine En.cons ?_ | refine En.drop ?_)))
  have hS := Sep.clR (l := le) (rs := rw2 (entL ⟨[], ov0, false⟩)) [] (hS.skip fun _ h => Sep.tup0 h)
  refine y_for1 (fun i σ H => ∃ (S : PL) (ls : List Int) (b6 b7 : Option V), σ = [some (.ref a), some (.ref t0), some (.ref lg), some (.int (ov0 : Nat)), some (.ref p), some (.ref le), b6, b7, none, none, none, none, none, none, none, none, none, none] ∧ S.Ok L i 0 ∧ S.now = none ∧ S.soon = [] ∧ S.rows = [] ∧ S.tm = 0 ∧ S.st = false ∧ S.sl = none ∧ S.ov = (ov0 : Nat) ∧ S.o.mx = false ∧
      S.o.q.turn = ((List.range i).map fun i => ((i : Nat) : Int) + 1) ∧ S.o.q.tunes.length = i ∧ ls.length = i ∧ (∀ l ∈ ls, 1 ≤ l ∧ l ≤ 40) ∧ (∀ j l, ls[j]? = some l → S.o.q.lg L (((j : Nat) : Int) + 1) = l) ∧
      Sep [RowsR le (rw2 (entL ⟨ls, ov0, false⟩)), ScrA K a ns, TownA t0 (14 + i), PlayerR K p sh S, ShelfR K sh L, LongsA lg L] H) (by omega)
    ⟨PL.new ov0 0, [], _, _, rfl, PL.new_ok0 L ov0 0 ⟨by decide, by decide⟩, rfl, rfl, rfl, rfl, rfl, rfl, rfl, rfl, rfl, rfl, rfl, (fun l hl => by cases hl), (fun j l h => by cases h), hS⟩ ?_ ?_
  · clear hS
    rintro i σ H hi ⟨S, ls, b6, b7, rfl, ok, q1, q2, q3, q4, q5, q6, q7, q8, q9, q10, q11, q12, q13, hS⟩
    have hz := ok.sz
    walk_at "v"
    refine pick_is (xs := nm6.map V.str) (by intro h; cases h) (by omega) (hS.own3 a t0 u) fun H hS => ?_
    have hd := dr_lt (ns := ns) (n := 14 + i) (m := 6) (by decide)
    rw [show (((nm6.map V.str).length : Nat) : Int) = 6 from rfl, nm6_get (by omega)]
    have hz2 : (lk L (nm6.getD (dr ns (14 + i) 6) "")).isSome = true := lk_isSome (by rw [hL]; exact getD_mem (by show _ < 6; omega))
    obtain ⟨z, ez⟩ : ∃ z, z = nm6.getD (dr ns (14 + i) 6) "" := ⟨_, rfl⟩
    rw [← ez] at hz2 ⊢
    obtain ⟨l, hlk, hl1, hl2⟩ := lk_okv hok.v hz2
    have htl : S.o.q.turn.length = i := by rw [q9, List.length_map, List.length_range]
    have hp : okPut S.o.q ((i : Nat) : Int) := ⟨by omega, by omega, by omega⟩
    obtain ⟨xs, hxs⟩ := sqR (p := le) (rs := rw2 (entL ⟨ls, ov0, false⟩)) hS
    walk_at "v"
    refine y_bml hxs ?_
    walk_at "v"
    refine ⟨p, sh, z, ((i : Nat) : Int), S, L, _, rfl, ok.o, hS.own2 p sh, fun _ _ H hS => ?_, (fun no => by rw [no] at hz2; cases hz2), fun _ no => absurd hp no⟩
    rw [Int.toNat_natCast] at hS
    rw [q10]
    walk_at "v"
    refine y_dgs (kvs := shD L) hS (v := .int l) (by rw [lk_val, hlk] <;> rfl) ?_
    walk_at "v"
    refine x_appR (u := u) (a := ((i : Nat) : Int) + 1) (b := l) (entL ⟨ls, ov0, false⟩) hS (by unfold entL Sq.m; rw [List.length_map, List.length_range]; dsimp only; omega) fun H hS => ?_
    rw [← q11, ← entL_snoc, q11] at hS
    walk_at "v"
    have hq : (S.o.put z i).q = S.o.q.put z i := put_turn S.o z i
    have htn : (S.o.put z i).q.tunes = S.o.q.tunes ++ [z] := OS.put_t S.o z i
    refine ⟨{ S with o := S.o.put z i }, ls ++ [l], _, _, rfl, ok.put hok.v (by omega) (pl := i) hz2 hp, q1, q2, q3, q4, q5, q6, q7, ?_, ?_, ?_, by rw [List.length_append, q11] <;> rfl, ?_, ?_, show Sep [RowsR le (rw2 (entL ⟨ls ++ [l], ov0, false⟩)), ScrA K a ns, TownA t0 (14 + i + 1), PlayerR K p sh { S with o := S.o.put z i }, ShelfR K sh L, LongsA lg L] H from (hS.of (by repeat (first | exact En.refl | exact En.nil | refine En.cons ?_ | refine En.drop ?_)))⟩
    · show (S.o.put z i).mx = false
      unfold OS.put
      rw [q8]
    · show (S.o.put z i).q.turn = _
      rw [hq]
      show insAt S.o.q.turn i _ = _
      conv => lhs; rw [← htl]
      rw [insAt_end, q9, q10, range_snoc]
    · show (S.o.put z i).q.tunes.length = i + 1
      rw [htn, List.length_append, q10] <;> rfl
    · intro x hx
      rcases List.mem_append.mp hx with hx | hx
      · exact q12 x hx
      · rw [List.mem_singleton.mp hx]
        exact ⟨hl1, hl2⟩
    · intro j x hx
      show (S.o.put z i).q.lg L _ = x
      rcases Nat.lt_or_ge j i with h | h
      · rw [List.getElem?_append_left (by omega)] at hx
        rw [lg_app htn ⟨by omega, by omega⟩]
        exact q13 j x hx
      · have hj : j = i := by
          have := (List.getElem?_eq_some_iff.mp hx).1
          rw [List.length_append, List.length_singleton] at this
          omega
        subst hj
        rw [List.getElem?_append_right (by omega), show j - ls.length = 0 by omega] at hx
        have hx : l = x := Option.some.inj hx
        subst hx
        unfold QS.lg QS.tune
        rw [if_pos (by omega), htn, show (((j : Nat) : Int) + 1 - 1).toNat = S.o.q.tunes.length by omega, List.getElem?_append_right (Nat.le_refl _), Nat.sub_self]
        show (lk L z).getD 1 = l
        rw [hlk] <;> rfl
  clear hS
  rintro σ H ⟨S, ls, b6, b7, rfl, ok, q1, q2, q3, q4, q5, q6, q7, q8, q9, q10, q11, q12, q13, hS⟩
  walk_at "v"
  refine draw_is (by decide) (by omega) (hS.own2 a t0) fun H hS => ?_
  obtain ⟨g2, eg2⟩ : ∃ g2, g2 = dr ns (14 + (1 + n1)) 2 := ⟨_, rfl⟩
  rw [← eg2]
  walk_at "w"
  obtain ⟨ag, eag⟩ : ∃ ag : Bool, ag = decide (((g2 : Nat) : Int) = 0) := ⟨_, rfl⟩
  rw [← eag]
  clear eg2 eag
  obtain ⟨q, eq⟩ : ∃ q : Sq, q = ⟨ls, ov0, ag⟩ := ⟨_, rfl⟩
  have eov : q.ov = (ov0 : Nat) := by rw [eq]
  have eqa : q.ag = ag := by rw [eq]
  have eqm : q.m = 1 + n1 := by rw [eq]; exact q11
  have hq : q.Ok := ⟨by rw [eqm]; omega, by rw [eqm]; omega, by rw [eov]; exact hov, by rw [eq]; exact q12⟩
  have eqe : entL ⟨ls, ov0, false⟩ = entL q := by rw [eq] <;> rfl
  have hQ : SqQ q L S.o.q := by
    refine ⟨by rw [eqm]; exact q9, fun k => ?_⟩
    have hk : k % q.m < q.m := Nat.mod_lt _ hq.pos
    have hk2 : k % q.m < ls.length := by rw [q11, ← eqm]; exact hk
    have e1 : q.lo k = ls[k % q.m] := by
      unfold Sq.lo
      rw [show q.ls = ls by rw [eq], List.getD_eq_getElem?_getD, List.getElem?_eq_getElem hk2] <;> rfl
    rw [e1]
    exact q13 (k % q.m) _ (List.getElem?_eq_getElem hk2)
  rw [eqe] at hS
  rw [← eqa]
  refine y_cutE (fun v H' => v = .str (if q.ag = true then "all" else "none") ∧ H' = H) (fun N hN => ?_) ?_
  · walk_at "v"
    refine x_bool (fun ha => ?_) (fun ha => ?_)
    · walk_at "v"
      exact hN _ _ ⟨by rw [if_pos ha], rfl⟩
    · walk_at "v"
      exact hN _ _ ⟨by rw [if_neg (by rw [ha]; exact Bool.false_ne_true)], rfl⟩
  rintro _ H1 ⟨rfl, hH⟩
  rw [hH]
  clear hH H1
  walk_at "v"
  refine ⟨p, sh, if q.ag = true then "all" else "none", S, _, rfl, hS.own p, fun _ H hS => ?_, fun no => absurd (by split <;> decide) no⟩
  obtain ⟨A, eA⟩ : ∃ A, A = ({ S with o := { S.o with ag := if q.ag = true then "all" else "none" } } : PL) := ⟨_, rfl⟩
  replace hS : Sep [PlayerR K p sh A, RowsR le (rw2 (entL q)), ScrA K a ns, TownA t0 (16 + n1), ShelfR K sh L, LongsA lg L] H := by
    rw [eA, show 16 + n1 = 14 + (1 + n1) + 1 by omega]
    exact (show Sep [PlayerR K p sh { S with o := { S.o with ag := if q.ag = true then "all" else "none" } }, RowsR le (rw2 (entL q)), ScrA K a ns, TownA t0 (14 + (1 + n1) + 1), ShelfR K sh L, LongsA lg L] H from (hS.of (by repeat (first | exact En.refl | exact En.nil | refine En.cons ?_ | refine En.drop ?_))))
  have okA : A.Ok L (1 + n1) 0 := by rw [eA]; exact ok.ord (ok.o.again _) rfl
  have a0 : A.o.ag = (if q.ag = true then ("all" : Str) else "none") ∧ A.o.mx = false ∧ A.o.q = S.o.q := ⟨by rw [eA], by rw [eA]; exact q8, by rw [eA]⟩
  have a1 : A.now = none := by rw [eA]; exact q1
  have a2 : A.soon = [] := by rw [eA]; exact q2
  have a3 : A.rows = [] := by rw [eA]; exact q3
  have a4 : A.tm = 0 := by rw [eA]; exact q4
  have a5 : A.st = false := by rw [eA]; exact q5
  have a6 : A.sl = none := by rw [eA]; exact q6
  have a7 : A.ov = q.ov := by rw [eA, eov]; exact q7
  have atn : A.o.q.turn ≠ [] := by
    rw [a0.2.2, hQ.turn]
    intro z
    have := congrArg List.length z
    rw [List.length_map, List.length_range] at this
    have hp := hq.pos
    have : q.m = 0 := this
    omega
  walk_at "v"
  refine ⟨p, sh, A, L, _, _, _, rfl, okA, by omega, hS.own2 p sh, fun H hS => ?_⟩
  obtain ⟨x, hx, hres⟩ := resume_first (L := L) a1 a2 atn
  have hfo : A.o.first = (A.o, A.o.q.turn[0]?) := by unfold OS.first; rw [a0.2.1]
  have hx1 : x = 1 := by
    rw [hfo, a0.2.2, hQ.turn] at hx
    have hx : ((List.range q.m).map fun i => ((i : Nat) : Int) + 1)[0]? = some x := hx
    rw [List.getElem?_map, List.getElem?_range hq.pos] at hx
    have := Option.some.inj hx
    rw [← this] <;> rfl
  have okB := okA.resume
  have spB : (A.resume L).Sp L := PL.Sp.op okA (fun e he => by rw [a1] at he; cases he) (x := .resume) trivial
  have posB : Pos q S.o.q (A.resume L) 0 0 := by
    rw [hres, hfo, hx1]
    have h1 := hq.at_lt 0
    have h0 : q.at_ 0 = 0 := rfl
    refine ⟨⟨rfl, a5, a6, fun z => (by cases z)⟩, a7, a0.1, a0.2.1, a0.2.2, a2, ?_, by rw [h0]; exact Int.le_refl _, by omega, ?_, rfl, a4, ?_, rfl⟩
    · cases ha : q.ag with
      | true => exact .inl ha
      | false => exact .inr hq.pos
    · show some (1 : Int) = some (q.en 0)
      unfold Sq.en
      rw [Nat.zero_mod] <;> rfl
    · show A.rows ++ [(A.tm, 1)] = [(q.at_ 0, q.en 0)]
      rw [a3, a4]
      unfold Sq.en
      rw [Nat.zero_mod] <;> rfl
  obtain ⟨B, eB⟩ : ∃ B, B = A.resume L := ⟨_, rfl⟩
  rw [← eB] at hS okB spB posB
  obtain ⟨Q0, eQ0⟩ : ∃ Q0, Q0 = S.o.q := ⟨_, rfl⟩
  rw [← eQ0] at hQ posB
  clear eB hres hx okA a1 a2 a3 a4 a5 a6 a7 a0 atn eA q1 q2 q3 q4 q5 q6 q7 q8 q9 q10 q11 q12 q13 eq eqe ok hL hfo hx1 eQ0
  walk_at "v"
  refine draw_is (by decide) (by omega) (hS.own2 a t0) fun H hS => ?_
  have hld := dr_lt (ns := ns) (n := 16 + n1) (m := 201) (by decide)
  obtain ⟨last, el⟩ : ∃ last, last = dr ns (16 + n1) 201 := ⟨_, rfl⟩
  rw [← el] at hld ⊢
  clear el
  rw [← eov]
  walk_at "v"
  refine ⟨le, q, last, _, rfl, hq, by omega, hS.own le, fun ld N H hN hN2 hS => ?_⟩
  replace hS : Sep [RowsR ld (rw2 (dueL q N)), RowsR le (rw2 (entL q)), PlayerR K p sh B, ShelfR K sh L, LongsA lg L] H := (hS.of (by repeat (first | exact En.refl | exact En.nil | refine En.cons ?_ | refine En.drop ?_)))
  have hN1 : 0 < N := (upto_iff hq hN 0).mpr ⟨by show (0 : Int) ≤ _; omega, by
    cases ha : q.ag with
    | true => exact .inl ha
    | false => exact .inr hq.pos⟩
  walk_at "v"
  rename Addr => l0
  have hS : Sep (pt l0 (.lst []) :: [RowsR ld (rw2 (dueL q N)), RowsR le (rw2 (entL q)), PlayerR K p sh B, ShelfR K sh L, LongsA lg L]) H := hS
  have hS := Sep.clR (l := l0) (rs := rw2 ([] : List (Int × Int))) [] (hS.skip fun _ h => Sep.tup0 h)
  obtain ⟨ps, hSe⟩ := (hS.own le).opR
  have hpair := paired_ent (K := K) (hSe.tupsOf (ps := ps) (rs := rw2 (entL q)))
  rw [entK_eq] at hpair
  refine ⟨le, ps, entK q, rfl, sqL (p := le) hSe, hpair, fun dd hdd => ?_⟩
  have hS : Sep [pt dd (.dK (mergeK [] (entK q))), RowsR l0 (rw2 []), RowsR ld (rw2 (dueL q N)), PlayerR K p sh B, ShelfR K sh L, LongsA lg L] (upd H dd (.dK (mergeK [] (entK q)))) := (Sep.new (o := .dK (mergeK [] (entK q))) hdd hS).of (by repeat (first | exact En.refl | exact En.nil | refine En.cons ?_ | refine En.drop ?_))
  clear hSe hpair
  generalize upd H dd (.dK (mergeK [] (entK q))) = H at hS ⊢
  have hdl : (rw2 (dueL q N)).length = N := by unfold dueL; rw [rw2_len, List.length_map, List.length_range]
  have hdat : ∀ i, i < N → (rw2 (dueL q N))[i]? = some [q.at_ i, q.en i] := fun i hi => by
    unfold rw2 dueL
    rw [List.getElem?_map, List.getElem?_map, List.getElem?_range hi] <;> rfl
  walk_at "v"
  refine x_lenR (p := ld) (rs := rw2 (dueL q N)) hS ?_
  rw [hdl]
  walk_at "v"
  rw [show ((N : Nat) : Int) - 1 = ((N - 1 : Nat) : Int) by omega]
  refine y_lcR (n := N - 1) (by omega) hS (fun D i H => ∃ us : List Addr, Sep [pt D (.lst (us.map V.ref)), TupA us (rw2 ((List.range i).map fun i => (q.at_ (i + 1), q.at_ i + q.lo i))), pt dd (.dK (mergeK [] (entK q))), RowsR l0 (rw2 []), RowsR ld (rw2 (dueL q N)), PlayerR K p sh B, ShelfR K sh L, LongsA lg L] H)
    (fun D H hS => ⟨[], (Sep.tup0 hS).swap⟩) (fun D i H hi ⟨us, hS⟩ => ?_) (fun lo H ⟨us, hS⟩ => ?_)
  · have hul := tupA_len (ro := D) (ps := us) (rs := rw2 ((List.range i).map fun i => (q.at_ (i + 1), q.at_ i + q.lo i))) hS
    rw [rw2_len, List.length_map, List.length_range] at hul
    walk_at "v"
    refine x_ixRn (p := ld) (i + 1) (hdat (i + 1) (by omega)) hS fun u1 hu1 => ?_
    walk_at "v"
    refine x_ixT hu1 (atI_nat (j := 0) (v := .int (q.at_ (i + 1))) rfl) ?_
    walk_at "v"
    refine x_ixRn (p := ld) i (hdat i (by omega)) hS fun u2 hu2 => ?_
    walk_at "v"
    refine x_ixT hu2 (atI_nat (j := 0) (v := .int (q.at_ i)) rfl) ?_
    walk_at "v"
    refine x_ixRn (p := ld) i (hdat i (by omega)) hS fun u3 hu3 => ?_
    walk_at "v"
    refine x_ixT hu3 (atI_nat (j := 1) (v := .int (q.en i)) rfl) ?_
    refine y_dgi (p := dd) hS (entK_at hq i) ?_
    walk_at "v"
    refine y_el (D := D) (acc := us.map V.ref) hS (by rw [List.length_map]; omega) fun H hS => ?_
    have hS := Sep.rowsA (ro := D) (u := u) (ps := us) (rows := (List.range i).map fun i => (q.at_ (i + 1), q.at_ i + q.lo i)) (a := q.at_ (i + 1)) (b := q.at_ i + q.lo i) hS
    rw [← range_snoc (fun i => (q.at_ (i + 1), q.at_ i + q.lo i))] at hS
    obtain ⟨us2, hS⟩ := hS.opR
    exact ⟨us2, (hS.of (by repeat (first | exact En.refl | exact En.nil | refine En.cons ?_ | refine En.drop ?_)))⟩
  rw [show (List.range (N - 1)).map (fun i => (q.at_ (i + 1), q.at_ i + q.lo i)) = ovsL q N from rfl] at hS
  have hS := Sep.clRA (l := lo) (rs := rw2 (ovsL q N)) us hS
  replace hS : Sep [RowsR lo (rw2 (ovsL q N)), RowsR l0 (rw2 []), RowsR ld (rw2 (dueL q N)), PlayerR K p sh B, ShelfR K sh L, LongsA lg L] H := (hS.of (by repeat (first | exact En.refl | exact En.nil | refine En.cons ?_ | refine En.drop ?_)))
  walk_at "v"
  rw [show ((last : Nat) : Int) + 1 = ((last + 1 : Nat) : Int) by omega]
  refine y_for1 (fun i σ H => ∃ (S : PL) (sn ex : List (Int × Int)) (ls : Addr) (b6 b14 b15 b16 b17 : Option V), σ = [some (.ref a), some (.ref t0), some (.ref lg), some (.int q.ov), some (.ref p), some (.ref le), b6, b7, some (.bl q.ag), some (.int (last : Nat)), some (.ref ld), some (.ref ls), some (.ref dd), some (.ref lo), b14, b15, b16, b17] ∧
      PosT q Q0 S (i : Nat) ∧ S.Ok L (1 + n1) (1 + 2 * i) ∧ S.Sp L ∧ okOv S.ov ∧ S.rows = sn ++ ex ∧ (∀ r ∈ ex, r ∉ sn) ∧ (i = last + 1 → sn = dueL q N) ∧ Sep [RowsR lo (rw2 (ovsL q N)), RowsR ls (rw2 sn), RowsR ld (rw2 (dueL q N)), PlayerR K p sh S, ShelfR K sh L, LongsA lg L] H) (by omega)
    ⟨B, [], B.rows, l0, _, _, _, _, _, rfl, .inl ⟨0, posB⟩, okB, spB, by rw [posB.ov, eov]; exact hov, rfl, (fun r _ h => by cases h), (fun h => by omega), (hS.of (by repeat (first | exact En.refl | exact En.nil | refine En.cons ?_ | refine En.drop ?_)))⟩ ?_ ?_
  · clear hS posB okB spB
    rintro i σ H hi ⟨S, sn, ex, ls, b6, b14, b15, b16, b17, rfl, pos, ok, sp, ov, hr, hex, hsn, hS⟩
    have snd := posT_snd hq hQ ok hN (by omega : ((i : Nat) : Int) ≤ (last : Nat)) pos
    have pg := pos.pg
    have hz := ok.sz
    walk_at "v"
    refine ⟨p, sh, S, L, _, _, _, rfl, ok, hS.own2 p sh, fun lx H hS => ?_⟩
    obtain ⟨X, eX⟩ : ∃ X, X = S.sounds L := ⟨_, rfl⟩
    obtain ⟨any, ea⟩ : ∃ any, any = (ovB q N ((i : Nat) : Int)).any id := ⟨_, rfl⟩
    rw [← eX] at hS
    rw [← eX, ← ea] at snd
    replace hS : Sep [RowsR lo (rw2 (ovsL q N)), RowsR lx X, RowsR ls (rw2 sn), RowsR ld (rw2 (dueL q N)), PlayerR K p sh S, ShelfR K sh L, LongsA lg L] H := (hS.of (by repeat (first | exact En.refl | exact En.nil | refine En.cons ?_ | refine En.drop ?_)))
    obtain ⟨P, hP⟩ : ∃ P : L2.St → Hp → Prop, P = fun σ H => σ = [some (.ref a), some (.ref t0), some (.ref lg), some (.int q.ov), some (.ref p), some (.ref le), some (.int (i : Nat)), b7, some (.bl q.ag), some (.int (last : Nat)), some (.ref ld), some (.ref ls), some (.ref dd), some (.ref lo), some (.ref lx), b15, b16, b17] ∧
      Sep [RowsR lo (rw2 (ovsL q N)), RowsR lx X, RowsR ls (rw2 sn), RowsR ld (rw2 (dueL q N)), PlayerR K p sh S, ShelfR K sh L, LongsA lg L] H := ⟨_, rfl⟩
    walk_at "w"
    refine y_cut P (fun N2 hN2 => ?_) ?_
    · have hb : decide (((X.length : Nat) : Int) = 2) = any := by
        cases snd with
        | none s1 s2 s3 s4 => rw [s1, s4] <;> rfl
        | one e s1 s2 s3 s4 => rw [s1, s4] <;> rfl
        | two e f s w j s1 s2 s3 s4 => rw [s1, s4] <;> rfl
      walk_at "v"
      refine x_lenR (p := lx) (rs := X) hS ?_
      obtain ⟨qs, hS⟩ := hS.opR
      walk_at "v"
      refine y_lcRb (fun r => decide (r.1 ≤ ((i : Nat) : Int) ∧ ((i : Nat) : Int) < r.2)) hS (by unfold ovsL; rw [List.length_map, List.length_range]; omega) (fun D acc r u H hr2 hacc hu hS => ?_) (fun D H hS => ?_)
      · refine x_gtup (xs := [.int r.1, .int r.2]) hu rfl ?_
        walk_at "v"
        refine x_dec (fun hA => ?_) (fun hA => ?_)
        · walk_at "v"
          refine y_el (D := D) (acc := acc.map V.bl) hS hacc fun H hS => ?_
          rw [show decide (r.1 ≤ ((i : Nat) : Int) ∧ ((i : Nat) : Int) < r.2) = decide (((i : Nat) : Int) < r.2) from decide_eq_decide.mpr ⟨fun z => z.2, fun z => ⟨hA, z⟩⟩, List.map_append]
          exact hS
        · walk_at "v"
          refine y_el (D := D) (acc := acc.map V.bl) hS hacc fun H hS => ?_
          rw [decide_eq_false (fun z : r.1 ≤ ((i : Nat) : Int) ∧ ((i : Nat) : Int) < r.2 => hA z.1), List.map_append]
          exact hS
      · have hS : Sep (pt D (.lst ((ovB q N ((i : Nat) : Int)).map V.bl)) :: _) H := hS
        walk_at "v"
        refine ⟨D, ovB q N ((i : Nat) : Int), rfl, sqL hS, ?_⟩
        rw [← ea]
        walk_at "v"
        rw [hb, decide_eq_true rfl]
        walk_at "v"
        exact hN2 _ _ (by rw [hP]; exact ⟨rfl, (hS.of (by repeat (first | exact En.refl | exact En.nil | refine En.cons ?_ | refine En.drop ?_)))⟩)
    clear hS
    rintro σ H hp
    rw [hP] at hp
    obtain ⟨rfl, hS⟩ := hp
    walk_at "w"
    refine y_cut P (fun N2 hN2 => ?_) ?_
    · cases snd with
      | none s1 s2 s3 s4 =>
        rw [s1] at hS
        walk_at "w"
        refine y_goT ?_
        walk_at "v"
        refine x_lenR (p := lx) (rs := []) hS ?_
        walk_at "v"
        exact hN2 _ _ (by rw [hP, s1]; exact ⟨rfl, (hS.of (by repeat (first | exact En.refl | exact En.nil | refine En.cons ?_ | refine En.drop ?_)))⟩)
      | one e s1 s2 s3 s4 =>
        rw [s1] at hS
        walk_at "w"
        refine y_goT ?_
        walk_at "v"
        refine x_lenR (p := lx) (rs := [[e, S.spot, 1, 1]]) hS ?_
        walk_at "v"
        exact hN2 _ _ (by rw [hP, s1]; exact ⟨rfl, (hS.of (by repeat (first | exact En.refl | exact En.nil | refine En.cons ?_ | refine En.drop ?_)))⟩)
      | two e f s w j s1 s2 s3 s4 s5 s6 s7 =>
        rw [s1] at hS
        walk_at "w"
        refine y_goT ?_
        walk_at "v"
        refine x_lenR (p := lx) (rs := [[f, s, w, j], [e, S.spot, j - w, j]]) hS ?_
        walk_at "v"
        refine x_ixRn (p := lx) (rs := [[f, s, w, j], [e, S.spot, j - w, j]]) (r := [f, s, w, j]) 0 rfl hS fun u1 h1' => ?_
        walk_at "v"
        refine x_ixT h1' (atI_nat (j := 2) (v := .int w) rfl) ?_
        walk_at "v"
        refine x_ixRn (p := lx) (rs := [[f, s, w, j], [e, S.spot, j - w, j]]) (r := [e, S.spot, j - w, j]) 1 rfl hS fun u2 h2' => ?_
        walk_at "v"
        refine x_ixT h2' (atI_nat (j := 2) (v := .int (j - w)) rfl) ?_
        walk_at "v"
        refine x_ixRn (p := lx) (rs := [[f, s, w, j], [e, S.spot, j - w, j]]) (r := [e, S.spot, j - w, j]) 1 rfl hS fun u2 h2' => ?_
        walk_at "v"
        refine x_ixT h2' (atI_nat (j := 3) (v := .int j) rfl) ?_
        walk_at "v"
        refine x_ixRn (p := lx) (rs := [[f, s, w, j], [e, S.spot, j - w, j]]) (r := [f, s, w, j]) 0 rfl hS fun u1 h1' => ?_
        walk_at "v"
        refine x_ixT h1' (atI_nat (j := 3) (v := .int j) rfl) ?_
        walk_at "v"
        refine x_ixRn (p := lx) (rs := [[f, s, w, j], [e, S.spot, j - w, j]]) (r := [f, s, w, j]) 0 rfl hS fun u1 h1' => ?_
        walk_at "v"
        refine x_ixT h1' (atI_nat (j := 3) (v := .int j) rfl) ?_
        walk_at "v"
        rw [show w + (j - w) = j by omega] at hS
        refine x_neT2 (some j) (s := j) hS (k := ?_)
        walk_at "v"
        exact hN2 _ _ (by rw [hP, s1]; exact ⟨rfl, (hS.of (by repeat (first | exact En.refl | exact En.nil | refine En.cons ?_ | refine En.drop ?_)))⟩)
    clear hS
    rintro σ H hp
    rw [hP] at hp
    obtain ⟨rfl, hS⟩ := hp
    walk_at "w"
    refine y_cut P (fun N2 hN2 => ?_) ?_
    · cases snd with
      | none s1 s2 s3 s4 =>
        rw [s1] at hS
        walk_at "w"
        refine y_goT ?_
        walk_at "v"
        refine x_lenR (p := lx) (rs := []) hS ?_
        walk_at "v"
        exact hN2 _ _ (by rw [hP, s1]; exact ⟨rfl, (hS.of (by repeat (first | exact En.refl | exact En.nil | refine En.cons ?_ | refine En.drop ?_)))⟩)
      | one e s1 s2 s3 s4 =>
        rw [s1] at hS
        walk_at "w"
        refine y_goT ?_
        walk_at "v"
        refine x_lenR (p := lx) (rs := [[e, S.spot, 1, 1]]) hS ?_
        walk_at "v"
        exact hN2 _ _ (by rw [hP, s1]; exact ⟨rfl, (hS.of (by repeat (first | exact En.refl | exact En.nil | refine En.cons ?_ | refine En.drop ?_)))⟩)
      | two e f s w j s1 s2 s3 s4 s5 s6 s7 =>
        rw [s1] at hS
        walk_at "w"
        refine y_goT ?_
        walk_at "v"
        refine x_lenR (p := lx) (rs := [[f, s, w, j], [e, S.spot, j - w, j]]) hS ?_
        walk_at "v"
        refine x_chain3 ?_
        walk_at "v"
        refine y_t3a ?_
        walk_at "v"
        refine x_ixRn (p := lx) (rs := [[f, s, w, j], [e, S.spot, j - w, j]]) (r := [f, s, w, j]) 0 rfl hS fun u1 h1' => ?_
        walk_at "v"
        refine x_ixT h1' (atI_nat (j := 2) (v := .int w) rfl) ?_
        refine y_t3b ?_
        walk_at "v"
        refine y_t3b' ?_
        refine x_yes (decide_eq_true s5.1) ?_
        walk_at "v"
        refine x_ixRn (p := lx) (rs := [[f, s, w, j], [e, S.spot, j - w, j]]) (r := [f, s, w, j]) 0 rfl hS fun u1 h1' => ?_
        walk_at "v"
        refine x_ixT h1' (atI_nat (j := 3) (v := .int j) rfl) ?_
        refine y_t3c ?_
        walk_at "v"
        refine y_t3d ?_
        refine x_yes (decide_eq_true s5.2.1) ?_
        walk_at "v"
        refine y_t3e ?_
        walk_at "v"
        refine y_t3f ?_
        rw [decide_eq_true s5.2.2]
        walk_at "v"
        exact hN2 _ _ (by rw [hP, s1]; exact ⟨rfl, (hS.of (by repeat (first | exact En.refl | exact En.nil | refine En.cons ?_ | refine En.drop ?_)))⟩)
    clear hS
    rintro σ H hp
    rw [hP] at hp
    obtain ⟨rfl, hS⟩ := hp
    walk_at "w"
    refine y_cut P (fun N2 hN2 => ?_) ?_
    · cases snd with
      | none s1 s2 s3 s4 =>
        rw [s1] at hS
        walk_at "w"
        refine y_goT ?_
        walk_at "v"
        refine x_lenR (p := lx) (rs := []) hS ?_
        walk_at "v"
        exact hN2 _ _ (by rw [hP, s1]; exact ⟨rfl, (hS.of (by repeat (first | exact En.refl | exact En.nil | refine En.cons ?_ | refine En.drop ?_)))⟩)
      | one e s1 s2 s3 s4 =>
        rw [s1] at hS
        walk_at "w"
        refine y_goT ?_
        walk_at "v"
        refine x_lenR (p := lx) (rs := [[e, S.spot, 1, 1]]) hS ?_
        walk_at "v"
        exact hN2 _ _ (by rw [hP, s1]; exact ⟨rfl, (hS.of (by repeat (first | exact En.refl | exact En.nil | refine En.cons ?_ | refine En.drop ?_)))⟩)
      | two e f s w j s1 s2 s3 s4 s5 s6 s7 =>
        rw [s1] at hS
        obtain ⟨z0, hz0, hlk, hl1, hl40⟩ := lg_ent ok.t s7
        walk_at "w"
        refine y_goT ?_
        walk_at "v"
        refine x_lenR (p := lx) (rs := [[f, s, w, j], [e, S.spot, j - w, j]]) hS ?_
        walk_at "v"
        refine x_ixRn (p := lx) (rs := [[f, s, w, j], [e, S.spot, j - w, j]]) (r := [f, s, w, j]) 0 rfl hS fun u1 h1' => ?_
        walk_at "v"
        refine x_ixT h1' (atI_nat (j := 2) (v := .int w) rfl) ?_
        walk_at "v"
        refine x_ixRn (p := lx) (rs := [[f, s, w, j], [e, S.spot, j - w, j]]) (r := [f, s, w, j]) 0 rfl hS fun u1 h1' => ?_
        walk_at "v"
        refine x_ixT h1' (atI_nat (j := 0) (v := .int f) rfl) ?_
        walk_at "v"
        refine ⟨p, sh, f, S, _, rfl, hS.own p, fun z hz H hS => ?_, fun no => by rw [hz0] at no; cases no⟩
        rw [hz0] at hz
        injection hz with hz
        subst hz
        walk_at "v"
        refine y_dgs (kvs := shD L) hS (v := .int (S.o.q.lg L f)) (by rw [lk_val, hlk] <;> rfl) ?_
        walk_at "v"
        refine x_ixRn (p := lx) (rs := [[f, s, w, j], [e, S.spot, j - w, j]]) (r := [f, s, w, j]) 0 rfl hS fun u1 h1' => ?_
        walk_at "v"
        refine x_ixT h1' (atI_nat (j := 1) (v := .int s) rfl) ?_
        walk_at "v"
        rw [s6, decide_eq_true rfl]
        walk_at "v"
        exact hN2 _ _ (by rw [hP, s1]; exact ⟨rfl, (hS.of (by repeat (first | exact En.refl | exact En.nil | refine En.cons ?_ | refine En.drop ?_)))⟩)
    clear hS
    rintro σ H hp
    rw [hP] at hp
    obtain ⟨rfl, hS⟩ := hp
    walk_at "w"
    refine y_cut P (fun N2 hN2 => ?_) ?_
    · walk_at "w"
      refine y_goT ?_
      walk_at "w"
      refine y_goT ?_
      cases snd with
      | none s1 s2 s3 s4 =>
        rw [s1] at hS
        walk_at "v"
        refine x_lenR (p := lx) (rs := []) hS ?_
        walk_at "v"
        refine ⟨p, sh, S, _, rfl, hS.own p, fun u1 H hS => ?_⟩
        rw [s3] at hS
        walk_at "v"
        refine x_ixT (sqT (p := u1) hS) (atI_nat (j := 2) (v := .bl false) rfl) ?_
        walk_at "v"
        refine x_neR0 (p := lx) (rs := []) hS ?_
        walk_at "v"
        exact hN2 _ _ (by rw [hP, s1]; exact ⟨rfl, (hS.of (by repeat (first | exact En.refl | exact En.nil | refine En.cons ?_ | refine En.drop ?_)))⟩)
      | one e s1 s2 s3 s4 =>
        rw [s1] at hS
        walk_at "v"
        refine x_lenR (p := lx) (rs := [[e, S.spot, 1, 1]]) hS ?_
        walk_at "v"
        refine x_ixRn (p := lx) (rs := [[e, S.spot, 1, 1]]) (r := [e, S.spot, 1, 1]) 0 rfl hS fun u1 h1' => ?_
        walk_at "v"
        refine x_slT4 (a := .int e) (b := .int S.spot) (c := .int 1) (d := .int 1) hS h1' fun u2 H hS => ?_
        walk_at "v"
        refine x_neT2 (some 1) (s := 1) hS (k := ?_)
        walk_at "v"
        refine ⟨p, sh, S, _, rfl, hS.own p, fun u1 H hS => ?_⟩
        rw [s3] at hS
        walk_at "v"
        refine x_ixT (sqT (p := u1) hS) (atI_nat (j := 2) (v := .bl true) rfl) ?_
        walk_at "v"
        refine x_neR0 (p := lx) (rs := [[e, S.spot, 1, 1]]) hS ?_
        walk_at "v"
        exact hN2 _ _ (by rw [hP, s1]; exact ⟨rfl, (hS.of (by repeat (first | exact En.refl | exact En.nil | refine En.cons ?_ | refine En.drop ?_)))⟩)
      | two e f s w j s1 s2 s3 s4 s5 s6 s7 =>
        rw [s1] at hS
        walk_at "v"
        refine x_lenR (p := lx) (rs := [[f, s, w, j], [e, S.spot, j - w, j]]) hS ?_
        walk_at "v"
        refine ⟨p, sh, S, _, rfl, hS.own p, fun u1 H hS => ?_⟩
        rw [s3] at hS
        walk_at "v"
        refine x_ixT (sqT (p := u1) hS) (atI_nat (j := 2) (v := .bl true) rfl) ?_
        walk_at "v"
        refine x_neR0 (p := lx) (rs := [[f, s, w, j], [e, S.spot, j - w, j]]) hS ?_
        walk_at "v"
        exact hN2 _ _ (by rw [hP, s1]; exact ⟨rfl, (hS.of (by repeat (first | exact En.refl | exact En.nil | refine En.cons ?_ | refine En.drop ?_)))⟩)
    clear hS
    rintro σ H hp
    rw [hP] at hp
    obtain ⟨rfl, hS⟩ := hp
    walk_at "w"
    refine y_cut P (fun N2 hN2 => ?_) ?_
    · walk_at "w"
      refine y_goT ?_
      cases snd with
      | none s1 s2 s3 s4 =>
        rw [s1] at hS
        walk_at "v"
        refine x_neR0 (p := lx) (rs := []) hS ?_
        walk_at "v"
        exact hN2 _ _ (by rw [hP, s1]; exact ⟨rfl, (hS.of (by repeat (first | exact En.refl | exact En.nil | refine En.cons ?_ | refine En.drop ?_)))⟩)
      | one e s1 s2 s3 s4 =>
        rw [s1] at hS
        walk_at "v"
        refine x_neR0 (p := lx) (rs := [[e, S.spot, 1, 1]]) hS ?_
        walk_at "v"
        refine x_ixR1e (p := lx) (rs' := [[e, S.spot, 1, 1]]) (rs := []) (r := [e, S.spot, 1, 1]) rfl hS fun u1 h1' => ?_
        walk_at "v"
        refine x_ixT h1' (atI_nat (j := 0) (v := .int e) rfl) ?_
        walk_at "v"
        refine x_ixR1e (p := lx) (rs' := [[e, S.spot, 1, 1]]) (rs := []) (r := [e, S.spot, 1, 1]) rfl hS fun u1 h1' => ?_
        walk_at "v"
        refine x_ixT h1' (atI_nat (j := 1) (v := .int S.spot) rfl) ?_
        walk_at "v"
        refine ⟨p, sh, S, _, rfl, hS.own p, fun u1 H hS => ?_⟩
        rw [s2] at hS
        walk_at "v"
        refine x_slT2 (p := u1) (v := .int e) hS fun u2 H hS => ?_
        walk_at "v"
        refine x_neT2 (some e) (s := S.spot) hS (k := ?_)
        walk_at "v"
        exact hN2 _ _ (by rw [hP, s1]; exact ⟨rfl, (hS.of (by repeat (first | exact En.refl | exact En.nil | refine En.cons ?_ | refine En.drop ?_)))⟩)
      | two e f s w j s1 s2 s3 s4 s5 s6 s7 =>
        rw [s1] at hS
        walk_at "v"
        refine x_neR0 (p := lx) (rs := [[f, s, w, j], [e, S.spot, j - w, j]]) hS ?_
        walk_at "v"
        refine x_ixR1e (p := lx) (rs' := [[f, s, w, j], [e, S.spot, j - w, j]]) (rs := [[f, s, w, j]]) (r := [e, S.spot, j - w, j]) rfl hS fun u1 h1' => ?_
        walk_at "v"
        refine x_ixT h1' (atI_nat (j := 0) (v := .int e) rfl) ?_
        walk_at "v"
        refine x_ixR1e (p := lx) (rs' := [[f, s, w, j], [e, S.spot, j - w, j]]) (rs := [[f, s, w, j]]) (r := [e, S.spot, j - w, j]) rfl hS fun u1 h1' => ?_
        walk_at "v"
        refine x_ixT h1' (atI_nat (j := 1) (v := .int S.spot) rfl) ?_
        walk_at "v"
        refine ⟨p, sh, S, _, rfl, hS.own p, fun u1 H hS => ?_⟩
        rw [s2] at hS
        walk_at "v"
        refine x_slT2 (p := u1) (v := .int e) hS fun u2 H hS => ?_
        walk_at "v"
        refine x_neT2 (some e) (s := S.spot) hS (k := ?_)
        walk_at "v"
        exact hN2 _ _ (by rw [hP, s1]; exact ⟨rfl, (hS.of (by repeat (first | exact En.refl | exact En.nil | refine En.cons ?_ | refine En.drop ?_)))⟩)
    clear hS
    rintro σ H hp
    rw [hP] at hp
    obtain ⟨rfl, hS⟩ := hp
    clear hP
    have hsl : sn.length + ex.length ≤ 1 + 2 * i := by
      have := congrArg List.length hr
      rw [List.length_append] at this
      omega
    walk_at "v"
    refine ⟨p, sh, S, _, rfl, hS.own p, fun l5 H hS => ?_⟩
    obtain ⟨qs, hS⟩ := hS.opR
    refine y_lcRs (fun r => decide (r ∉ sn)) hS (by rw [hr, List.length_append]; omega) (fun D us done r u H hr2 hus hu hS k1 k2 => ?_) (fun D H hS => ?_)
    · walk_at "v"
      refine ⟨tD [r.1, r.2], (rw2 sn).map tD, .tup hu (dpAll_ints [r.1, r.2]), dp_rows (l := ls) (rs := rw2 sn) hS, shaped_row r, shaped_rows _, ?_⟩
      rw [any_row]
      walk_at "v"
      refine x_ndec (fun hn => ?_) (fun hy => ?_)
      · walk_at "v"
        refine y_el (D := D) (acc := us.map V.ref) hS hus fun H hS => ?_
        exact k2 H hS (decide_eq_true hn)
      · exact k1 H hS (decide_eq_false (fun z => z hy))
    have hfil : S.rows.filter (fun r => decide (r ∉ sn)) = ex := by
      rw [hr, List.filter_append, List.filter_eq_nil_iff.mpr (fun r h => by rw [decide_eq_false (fun z => z h)]; exact Bool.false_ne_true), List.nil_append]
      exact List.filter_eq_self.mpr fun r h => decide_eq_true (hex r h)
    rw [hfil] at hS
    obtain ⟨p1, hS⟩ := hS.opR
    obtain ⟨p2, hS⟩ := (hS.own ls).opR
    have hl1 := tupA_len (ro := D) (ps := p1) (rs := rw2 ex) hS
    have hl2 := tupA_len (ro := D) (ps := p2) (rs := rw2 sn) hS
    rw [rw2_len] at hl1 hl2
    refine x_cat (p := ls) (q := D) hS (by rw [List.length_map, List.length_map]; exact sz' (by omega)) fun lc H hS => ?_
    have hS := Sep.appTA (u := lc) p2 p1 (rs := rw2 sn) (ss := rw2 ex) hS
    rw [show rw2 sn ++ rw2 ex = rw2 S.rows by rw [hr]; unfold rw2; rw [List.map_append]] at hS
    replace hS : Sep [RowsR lc (rw2 S.rows), RowsR lo (rw2 (ovsL q N)), RowsR ld (rw2 (dueL q N)), PlayerR K p sh S, ShelfR K sh L, LongsA lg L] H := (hS.of (by repeat (first | exact En.refl | exact En.nil | refine En.cons ?_ | refine En.drop ?_)))
    walk_at "v"
    refine ⟨p, sh, 1, S, L, _, _, _, rfl, ok, by omega, ov, pg, hS.own2 p sh, fun _ H hS => ?_, fun no => absurd ⟨by decide, by decide⟩ no⟩
    rw [show (1 : Int).toNat = 1 from rfl] at hS
    obtain ⟨ex2, e1, e2⟩ := pos.more (L := L) hq
    walk_at "v"
    refine ⟨S.tick L 1, S.rows, ex2, lc, _, _, _, _, _, rfl, ?_, (ok.tick 1).mono (Nat.le_refl _) (by omega), PL.Sp.tick ok sp 1, by rw [PL.tick_ov]; exact ov, e1, e2, fun h => ?_, (hS.of (by repeat (first | exact En.refl | exact En.nil | refine En.cons ?_ | refine En.drop ?_)))⟩
    · have := at_tick hq hQ ok pos
      rw [show ((i + 1 : Nat) : Int) = ((i : Nat) : Int) + 1 by omega]
      exact this
    · have : i = last := by omega
      subst this
      exact pos.due hq hN
  · rintro σ H ⟨S, sn, ex, ls, b6, b14, b15, b16, b17, rfl, _, _, _, _, _, _, hsn, hS⟩
    rw [hsn rfl] at hS
    walk_at "v"
    refine x_eqRR (rw2 (dueL q N)) hS ?_
    exact h1 _

end
end TR

set_option Elab.async false
set_option linter.all false
set_option maxRecDepth 100000
set_option maxHeartbeats 4000000
/-! .. -/

namespace TR
open PySem PySem.Spec PyProof.Rows L2
section
variable {P : Program} {w : World} {K : PySem.W.Frag} {mg : Str → Option Value} {base : Heap}
theorem endF {P : Program} {w : World} {K : PySem.W.Frag} {mg : Str → Option Value} {h : Heap} {f : Addr} (X : K.In h) (G : h.Ns mainGlobals mg) (hfa : mg ("law" : Str) = some (.ref f)) (c : Says fa fn exs K) :
    ∃ fd : FuncData, (∀ (s : Shared) (v : Value), BindsTo s fd ⟨[v], []⟩ [("_law_script", v)]) ∧ ∀ base : Heap, K.In base → base.Ns mainGlobals mg → FnOk P w K mg base CXall 11 f fd ["_law_script"] (sp_law K) := by
  have T : Top K mg := ⟨c, h, X, G⟩
  have e := hfa.symm.trans (gl_law T)
  cases e
  obtain ⟨fd, ⟨_, b⟩, ⟨_, oc, od, osl, lk⟩, F⟩ := ok_law (P := P) (w := w) (base := h) T
  refine ⟨fd, fun s v => b s [v] rfl, fun base _ _ => ?_⟩
  obtain ⟨fd2, _, ⟨_, oc2, od2, osl2, lk2⟩, F2⟩ := ok_law (P := P) (w := w) (base := base) T
  have e := lk.symm.trans lk2
  cases e
  exact fn_all F2
end
end TR
open PySem PySem.W PySem.Calls PyProof.Rows
set_option maxRecDepth 100000 in
set_option maxHeartbeats 0 in
theorem PySem.Challenge.cw_tuneroad_k33_whole_sounds_holds : PySem.Challenge.rw_tuneroad_k33_whole_sounds.Holds := by
  w_on; o_law
  refine HandSHeadRun.head_any (r := OpenLaw.row PySem.Challenge.rw_tuneroad_k33_whole_sounds) (q := TR.qV) (H := TR.hk) (ob := TR.ob) (M := TR.steps) (loose := TR.loose) (d := HandSHeadRun.topDef (OpenLaw.row PySem.Challenge.rw_tuneroad_k33_whole_sounds).prog TR.ilaw) (kwd := []) TR.ob_eq
    (by kernel_rfl) (fun s => by kernel_rfl) TR.run (by kernel_rfl) (by kernel_rfl) (by kernel_rfl) (by rfl) (by first | assumption | decide +kernel) (by decide +kernel) ⟨rfl, rfl, rfl, rfl, rfl, by decide +kernel⟩ ?hw ?hc
  case hw => w_witness2
  case hc =>
    refine L2.walk_ofE (l := PySem.Challenge.rw_tuneroad_k33_whole_sounds) (n := 63) (k := 11) (x := "_law_script") (CX := TR.CXall) rfl (by decide) (by kernel_rfl) ⟨rfl, by decide, by decide⟩ ?F TR.cxall_no
    intro w mg fa h Y G hmg0
    obtain ⟨K, KX, c⟩ := Y
    have hmg : mg ("law" : PySem.Str) = some (.ref fa) := by
      have e : (HandSHeadRun.topDef (OpenLaw.row PySem.Challenge.rw_tuneroad_k33_whole_sounds).prog TR.ilaw).name = ("law" : PySem.Str) := by kernel_rfl
      rw [← e]
      exact hmg0
    obtain ⟨fd, hb, hF⟩ := TR.endF (P := (PySem.Challenge.rw_tuneroad_k33_whole_sounds).prog) (w := w) KX G hmg c
    exact ⟨K, fd, TR.sp_law K, KX, hb, fun H a ns hl _ hS => TR.law_start hl hS, hF⟩
#print axioms PySem.Challenge.cw_tuneroad_k33_whole_sounds_holds


