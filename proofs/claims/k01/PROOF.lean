import PyProof.Rows.All
import Wide.All
import OpenK.AllK
import Wide.FinOn
import HandS.ForMost
import HandS.Exc
import HandS.TryOnly
import HandS.ExcOwn
import HandS.ExcIs
import HandS.ExcValue
import HandS.IsInst
import HandS.WordsExc
import HandS.Defaults
import HandS.Head0
import HandS.Head1
import HandS.Head2
import HandS.HeadEnd
import HandS.HeadHook1
import HandS.HeadHook2
import HandS.Style
import HandS.SetFor
import HandS.Iter
import HandS.Conv
import HandS.More
import HandS.Comp
import HandS.Dict
import HandS.Walk
import PySem.Challenge.RW_tuneroad_k01_whole_shelves
set_option Elab.async false
set_option linter.all false
set_option maxRecDepth 100000
set_option maxHeartbeats 4000000
/-! Assertions over the abstract heap, side by side: each owns its objects, tuples and known things are shared. -/
namespace TR
open PySem PySem.Spec PyProof.Rows L2

/-- what never changes -/
def Imm : HO → Prop
  | .tup _ => True
  | .frz _ _ => True
  | _ => False
def Sb (a b : Hp) : Prop := ∀ p o, a p = some o → b p = some o
def Dj (a b : Hp) : Prop := ∀ p o u, a p = some o → b p = some u → Imm o
theorem Sb.refl (a : Hp) : Sb a a := fun _ _ h => h
theorem Sb.trans {a b c : Hp} (h : Sb a b) (g : Sb b c) : Sb a c := fun p o e => g p o (h p o e)
abbrev As := Hp → Prop
def Sep : List As → Hp → Prop
  | [], _ => True
  | A :: R, H => ∃ h1 h2, Sb h1 H ∧ Sb h2 H ∧ Dj h1 h2 ∧ A h1 ∧ Sep R h2
theorem Sep.mono : ∀ {L : List As} {H H' : Hp}, Sb H H' → Sep L H → Sep L H'
  | [], _, _, _, _ => trivial
  | A :: R, H, H', s, ⟨h1, h2, s1, s2, d, a, r⟩ => ⟨h1, h2, s1.trans s, s2.trans s, d, a, r⟩
def uni (a b : Hp) : Hp := fun p => match a p with
  | some o => some o
  | none => b p
theorem uni_l {a b : Hp} : Sb a (uni a b) := fun p o e => by
  show (match a p with | some o => some o | none => b p) = some o
  rw [e]
theorem uni_or {a b : Hp} {p : Addr} {o : HO} (e : uni a b p = some o) : a p = some o ∨ b p = some o := by
  have e' : (match a p with | some o => some o | none => b p) = some o := e
  cases q : a p with
  | some u =>
    rw [q] at e'
    exact .inl e'
  | none =>
    rw [q] at e'
    exact .inr e'
theorem uni_sub {a b H : Hp} (ha : Sb a H) (hb : Sb b H) : Sb (uni a b) H := fun p o e => (uni_or e).elim (ha p o) (hb p o)
theorem uni_r {a b H : Hp} (ha : Sb a H) (hb : Sb b H) : Sb b (uni a b) := fun p o e => by
  show (match a p with | some o => some o | none => b p) = some o
  cases q : a p with
  | some u =>
    have h1 := ha p u q
    have h2 := hb p o e
    rw [h1] at h2
    exact h2
  | none => exact e
theorem Dj.symm {a b H : Hp} (ha : Sb a H) (hb : Sb b H) (d : Dj a b) : Dj b a := fun p o u e1 e2 => by
  have h1 := hb p o e1
  have h2 := ha p u e2
  rw [h1] at h2
  cases h2
  exact d p o o e2 e1
theorem Dj.sub {a b c : Hp} (d : Dj a b) (s : Sb c b) : Dj a c := fun p o u e1 e2 => d p o u e1 (s p u e2)
theorem Dj.subl {a b c : Hp} (d : Dj a b) (s : Sb c a) : Dj c b := fun p o u e1 e2 => d p o u (s p o e1) e2
theorem Sep.swap {A B : As} {R : List As} {H : Hp} : Sep (A :: B :: R) H → Sep (B :: A :: R) H
  | ⟨h1, h2, s1, s2, d, a, k1, k2, t1, t2, e, b, r⟩ => by
    have u1 : Sb k1 H := t1.trans s2
    have u2 : Sb k2 H := t2.trans s2
    have d1 : Dj h1 k1 := d.sub t1
    have d2 : Dj h1 k2 := d.sub t2
    refine ⟨k1, uni h1 k2, u1, uni_sub s1 u2, fun p o u e1 e2 => ?_, b, h1, k2, uni_l, uni_r s1 u2, d2, a, r⟩
    rcases uni_or e2 with z | z
    · exact d1.symm s1 u1 p o u e1 z
    · exact e p o u e1 z
theorem Sep.tail {A : As} {R : List As} {H : Hp} : Sep (A :: R) H → Sep R H := fun ⟨_, _, _, s2, _, _, r⟩ => Sep.mono s2 r
theorem Sep.skip {A : As} {R R' : List As} {H : Hp} (f : ∀ h, Sep R h → Sep R' h) : Sep (A :: R) H → Sep (A :: R') H := fun ⟨h1, h2, s1, s2, d, a, r⟩ => ⟨h1, h2, s1, s2, d, a, f h2 r⟩
theorem Sep.hd {A B : As} {R : List As} {H : Hp} (f : ∀ h, A h → B h) : Sep (A :: R) H → Sep (B :: R) H := fun ⟨h1, h2, s1, s2, d, a, r⟩ => ⟨h1, h2, s1, s2, d, f h1 a, r⟩

/-- points to -/
def pt (p : Addr) (o : HO) : As := fun h => h p = some o
theorem Sep.get {p : Addr} {o : HO} {R : List As} {H : Hp} (h : Sep (pt p o :: R) H) : H p = some o := by
  obtain ⟨h1, h2, s1, s2, d, a, r⟩ := h
  exact s1 p o a
theorem Sep.put {p : Addr} {o o' : HO} {R : List As} {H : Hp} (n : ¬ Imm o) (h : Sep (pt p o :: R) H) : Sep (pt p o' :: R) (upd H p o') := by
  obtain ⟨h1, h2, s1, s2, d, a, r⟩ := h
  have n2 : ∀ u, h2 p ≠ some u := fun u e => n (d p o u a e)
  refine ⟨fun b => if b = p then some o' else none, h2, fun b u e => ?_, fun b u e => ?_, fun b u v e1 e2 => ?_, if_pos rfl, r⟩
  · by_cases hb : b = p
    · have e1 : some o' = some u := by
        have e' : (if b = p then some o' else none) = some u := e
        rw [if_pos hb] at e'
        exact e'
      rw [hb]
      unfold upd
      rw [if_pos rfl]
      exact e1
    · have e' : (if b = p then some o' else none) = some u := e
      rw [if_neg hb] at e'
      cases e'
  · by_cases hb : b = p
    · rw [hb] at e
      exact absurd e (n2 u)
    · rw [upd_ne hb]
      exact s2 b u e
  · by_cases hb : b = p
    · rw [hb] at e2
      exact absurd e2 (n2 v)
    · have e' : (if b = p then some o' else none) = some u := e1
      rw [if_neg hb] at e'
      cases e'
theorem Sep.new {p : Addr} {o : HO} {R : List As} {H : Hp} (n : H p = none) (h : Sep R H) : Sep (pt p o :: R) (upd H p o) := by
  refine ⟨fun b => if b = p then some o else none, H, fun b u e => ?_, fun b u e => ?_, fun b u v e1 e2 => ?_, if_pos rfl, h⟩
  · by_cases hb : b = p
    · have e' : (if b = p then some o else none) = some u := e
      rw [if_pos hb] at e'
      rw [hb]
      unfold upd
      rw [if_pos rfl]
      exact e'
    · have e' : (if b = p then some o else none) = some u := e
      rw [if_neg hb] at e'
      cases e'
  · rw [upd_ne (ne_of_none e n)]
    exact e
  · by_cases hb : b = p
    · rw [hb, n] at e2
      cases e2
    · have e' : (if b = p then some o else none) = some u := e1
      rw [if_neg hb] at e'
      cases e'
/-- what is new beside: the own dict of a new instance -/
theorem Sep.newd {p : Addr} {o : HO} {R : List As} {H : Hp} (n : H p = none) (h : Sep R H) : Sep R (upd H p o) := (Sep.new n h).tail
/-- a shared thing once more -/
theorem Sep.dup {p : Addr} {o : HO} {R : List As} {H : Hp} (n : Imm o) (h : Sep (pt p o :: R) H) : Sep (pt p o :: pt p o :: R) H := by
  obtain ⟨h1, h2, s1, s2, d, a, r⟩ := h
  have one : Sb (fun b => if b = p then some o else none) h1 := fun b u e => by
    have e' : (if b = p then some o else none) = some u := e
    by_cases hb : b = p
    · rw [if_pos hb] at e'
      rw [hb, ← e']
      exact a
    · rw [if_neg hb] at e'
      cases e'
  have imm : ∀ b u, (if b = p then some o else none) = some u → Imm u := fun b u e => by
    by_cases hb : b = p
    · rw [if_pos hb] at e
      cases e
      exact n
    · rw [if_neg hb] at e
      cases e
  exact ⟨_, H, one.trans s1, Sb.refl H, fun b u v e1 e2 => imm b u e1, if_pos rfl, h1, h2, s1, s2, d, a, r⟩
/-- a fact -/
def pu (φ : Prop) : As := fun _ => φ
theorem Sep.pu {φ : Prop} {R : List As} {H : Hp} : Sep (pu φ :: R) H → φ ∧ Sep R H := fun ⟨_, _, _, s2, _, a, r⟩ => ⟨a, Sep.mono s2 r⟩
theorem Sep.fact {A : As} {φ : Prop} {R : List As} {H : Hp} (f : ∀ h, A h → φ) : Sep (A :: R) H → φ := fun ⟨h1, _, _, _, _, a, _⟩ => f h1 a
theorem empty_sb (H : Hp) : Sb (fun _ => none) H := fun _ _ e => nomatch e
theorem Sep.pui {φ : Prop} {R : List As} {H : Hp} (f : φ) (h : Sep R H) : Sep (TR.pu φ :: R) H := ⟨fun _ => none, H, empty_sb H, Sb.refl H, fun _ _ _ e => (nomatch e), f, h⟩
/-- there is one -/
def ex {α : Type} (A : α → As) : As := fun h => ∃ x, A x h
theorem Sep.ex {α : Type} {A : α → As} {R : List As} {H : Hp} : Sep (ex A :: R) H → ∃ x, Sep (A x :: R) H := fun ⟨h1, h2, s1, s2, d, ⟨x, a⟩, r⟩ => ⟨x, h1, h2, s1, s2, d, a, r⟩
theorem Sep.exi {α : Type} {A : α → As} {R : List As} {H : Hp} (x : α) (h : Sep (A x :: R) H) : Sep (TR.ex A :: R) H := Sep.hd (fun _ a => ⟨x, a⟩) h
/-- several as one -/
def all (L : List As) : As := fun h => Sep L h
theorem Sep.nil1 {R : List As} {H : Hp} (h : Sep R H) : Sep (all [] :: R) H := ⟨fun _ => none, H, empty_sb H, Sb.refl H, fun _ _ _ e => (nomatch e), trivial, h⟩
theorem Sep.flat : ∀ {L R : List As} {H : Hp}, Sep (all L :: R) H → Sep (L ++ R) H
  | [], R, H, h => h.tail
  | A :: L, R, H, ⟨h1, h2, s1, s2, d, ⟨k1, k2, t1, t2, e, a, l⟩, r⟩ => by
    have u1 : Sb k1 H := t1.trans s1
    have u2 : Sb k2 H := t2.trans s1
    have d2 : Dj k2 h2 := d.subl t2
    have q : Sep (L ++ R) (uni k2 h2) := Sep.flat ⟨k2, h2, uni_l, uni_r u2 s2, d2, l, r⟩
    refine ⟨k1, uni k2 h2, u1, uni_sub u2 s2, fun p o u e1 e2 => ?_, a, q⟩
    rcases uni_or e2 with z | z
    · exact e p o u e1 z
    · exact (d.subl t1) p o u e1 z
theorem Sep.wrap : ∀ {L R : List As} {H : Hp}, Sep (L ++ R) H → Sep (all L :: R) H
  | [], R, H, h => h.nil1
  | A :: L, R, H, ⟨h1, h2, s1, s2, d, a, q⟩ => by
    obtain ⟨k1, k2, t1, t2, e, l, r⟩ := Sep.wrap (L := L) (R := R) q
    have u1 : Sb k1 H := t1.trans s2
    have u2 : Sb k2 H := t2.trans s2
    refine ⟨uni h1 k1, k2, uni_sub s1 u1, u2, fun p o u e1 e2 => ?_, ⟨h1, k1, uni_l, uni_r s1 u1, d.sub t1, a, l⟩, r⟩
    rcases uni_or e1 with z | z
    · exact (d.sub t2) p o u z e2
    · exact e p o u z e2

/-- two as one -/
theorem Sep.join {A B C : As} {R : List As} {H : Hp} (f : ∀ h1 h2 h, Sb h1 h → Sb h2 h → A h1 → B h2 → C h) : Sep (A :: B :: R) H → Sep (C :: R) H := fun ⟨h1, h2, s1, s2, d, a, k1, k2, t1, t2, e, b, r⟩ => by
  refine ⟨uni h1 k1, k2, uni_sub s1 (t1.trans s2), t2.trans s2, fun p o u e1 e2 => ?_, f h1 k1 _ uni_l (uni_r s1 (t1.trans s2)) a b, r⟩
  rcases uni_or e1 with z | z
  · exact (d.sub t2) p o u z e2
  · exact e p o u z e2
/-- what is known of an assertion's part of the heap -/
theorem Sep.part {A : As} {R : List As} {H : Hp} : Sep (A :: R) H → ∃ h, Sb h H ∧ A h := fun ⟨h1, _, s1, _, _, a, _⟩ => ⟨h1, s1, a⟩
/-- entailment -/
def En (L L' : List As) : Prop := ∀ H, Sep L H → Sep L' H
theorem En.refl {L : List As} : En L L := fun _ h => h
theorem En.nil {L : List As} : En L [] := fun _ _ => trivial
theorem En.trans {L M N : List As} (a : En L M) (b : En M N) : En L N := fun H h => b H (a H h)
theorem En.skip {A : As} {L L' : List As} (e : En L L') : En (A :: L) (A :: L') := fun _ h => Sep.skip e h
theorem En.swap {A B : As} {R : List As} : En (A :: B :: R) (B :: A :: R) := fun _ h => Sep.swap h
/-- A stands in L, the rest is R -/
class Pk (A : As) (L : List As) (R : outParam (List As)) : Prop where
  en : En L (A :: R)
  ne : En (A :: R) L
instance Pk.here {A : As} {R : List As} : Pk A (A :: R) R := ⟨En.refl, En.refl⟩
instance (priority := low) Pk.there {A B : As} {L R : List As} [p : Pk A L R] : Pk A (B :: L) (B :: R) := ⟨(En.skip p.en).trans En.swap, En.swap.trans (En.skip p.ne)⟩
/-- o stands at p -/
class At (p : Addr) (L : List As) (o : outParam HO) (R : outParam (List As)) : Prop where
  en : En L (pt p o :: R)
instance At.here {p : Addr} {o : HO} {R : List As} : At p (pt p o :: R) o R := ⟨En.refl⟩
instance (priority := low) At.there {p : Addr} {B : As} {L R : List As} {o : HO} [q : At p L o R] : At p (B :: L) o (B :: R) := ⟨(En.skip q.en).trans En.swap⟩
theorem Sep.at_ {p : Addr} {L R : List As} {o : HO} {H : Hp} (h : Sep L H) [q : At p L o R] : H p = some o := (q.en H h).get
theorem Sep.to {A : As} {L R : List As} {H : Hp} (h : Sep L H) [q : Pk A L R] : Sep (A :: R) H := q.en H h
theorem En.cons {A : As} {L L0 R : List As} [q : Pk A L L0] (e : En L0 R) : En L (A :: R) := q.en.trans (En.skip e)
theorem En.drop {A : As} {L L' : List As} (e : En L L') : En (A :: L) L' := fun _ h => e _ h.tail
/-- the tail of L' is a letter -/
theorem Sep.of {L L' : List As} {H : Hp} (h : Sep L H) (e : En L L') : Sep L' H := e H h
/-- an assertion about what stands at p -/
class Kys (A : As) (p : outParam Addr) : Prop where
  k : True
instance {p : Addr} {o : HO} : Kys (pt p o) p := ⟨trivial⟩
class AtA (p : Addr) (L : List As) (A : outParam As) (R : outParam (List As)) : Prop where
  en : En L (A :: R)
instance AtA.here {p : Addr} {A : As} {R : List As} [Kys A p] : AtA p (A :: R) A R := ⟨En.refl⟩
instance (priority := low) AtA.there {p : Addr} {A B : As} {L R : List As} [q : AtA p L A R] : AtA p (B :: L) A (B :: R) := ⟨(En.skip q.en).trans En.swap⟩
theorem Sep.own {L R : List As} {A : As} {H : Hp} (h : Sep L H) (p : Addr) [q : AtA p L A R] : Sep (A :: R) H := q.en H h
theorem Sep.own2 {L R R2 : List As} {A B : As} {H : Hp} (h : Sep L H) (p q : Addr) [a : AtA p L A R] [b : AtA q R B R2] : Sep (A :: B :: R2) H := Sep.skip b.en (a.en H h)
theorem Sep.own3 {L R R2 R3 : List As} {A B C : As} {H : Hp} (h : Sep L H) (p q r : Addr) [a : AtA p L A R] [b : AtA q R B R2] [c : AtA r R2 C R3] : Sep (A :: B :: C :: R3) H := Sep.skip (fun _ z => Sep.skip c.en (b.en _ z)) (a.en H h)
end TR

set_option Elab.async false
set_option linter.all false
set_option maxRecDepth 100000
set_option maxHeartbeats 4000000
/-! The head's facts by names, with facts of one's own. -/
namespace TR
open PySem PySem.Spec PyProof.Rows L2
/-- what isinstance asks of an exception's class -/
def excB (K : PySem.W.Frag) (x : Str) : Bool :=
  decide (PySem.W.findIn K (.ref (He.ga K x)) "__getattribute__" = some (some (.builtin "BaseException.__getattribute__"))) && (decide (PySem.W.findIn K (.ref (He.ga K x)) "__getattr__" = some none) &&
  (decide (PySem.W.subIn K (.ref (He.ga K x)) (.type "BaseException") = some true) && (PySem.W.hasDictIn K (He.ga K x) &&
  (decide (PySem.W.findIn K (.ref (He.ga K x)) "__class__" = some (some (.builtin "object.__class__"))) && (decide (PySem.W.specialIn K (.builtin "object.__class__") "__get__" = some (some (.builtin "getset_descriptor.__get__"))) &&
  (decide (PySem.W.takesIn K (.builtin "object.__class__") = some true) && decide (PySem.W.mroIn K (He.ga K x) (.type "object") = some true)))))))
theorem excB_ok {K : PySem.W.Frag} {x : Str} (h : excB K x = true) : ExcC K (He.ga K x) := by
  obtain ⟨h1, h⟩ := He.ba h
  obtain ⟨h2, h⟩ := He.ba h
  obtain ⟨h3, h⟩ := He.ba h
  obtain ⟨h4, h⟩ := He.ba h
  obtain ⟨h5, h⟩ := He.ba h
  obtain ⟨h6, h⟩ := He.ba h
  obtain ⟨h7, h8⟩ := He.ba h
  exact ⟨of_decide_eq_true h1, of_decide_eq_true h2, of_decide_eq_true h3, h4, of_decide_eq_true h5, of_decide_eq_true h6, of_decide_eq_true h7, of_decide_eq_true h8⟩
def kitB2 (K : PySem.W.Frag) (x y : Str) (b : Bool) : Bool := decide (PySem.W.kitOne K (.ref (He.ga K x)) (.ref (He.ga K y)) = some b)
def kitV (K : PySem.W.Frag) (x : Str) (T : String) (b : Bool) : Bool := decide (PySem.W.kitOne K (.ref (He.ga K x)) (.type T) = some b)
theorem kitB2_ok {K : PySem.W.Frag} {x y : Str} {b : Bool} (h : kitB2 K x y b = true) : PySem.W.kitOne K (.ref (He.ga K x)) (.ref (He.ga K y)) = some b := of_decide_eq_true h
theorem kitV_ok {K : PySem.W.Frag} {x : Str} {T : String} {b : Bool} (h : kitV K x T b = true) : PySem.W.kitOne K (.ref (He.ga K x)) (.type T) = some b := of_decide_eq_true h

/-- what the head says -/
structure Says (fa : List He.Fa) (fn : List He.DefD) (ex : List (PySem.W.Frag → Bool)) (K : PySem.W.Frag) : Prop where
  d : He.SaysD fa fn K
  e : (ex.all fun f => f K) = true
abbrev AlY : Type := He.AlD × Bool
def obsY (fa : List He.Fa) (fn : List He.DefD) (ex : List (PySem.W.Frag → Bool)) (K : PySem.W.Frag) : AlY := (He.obsD fa fn K, ex.all fun f => f K)
/-- the last c objects, and the module's names -/
def lastK (c : Nat) (N : Nat) (g : Addr → Option Obj) : PySem.W.Frag := He.frG g (mainGlobals :: (List.range c).map fun i => N - 1 - i)
def obsYG (c : Nat) (fa : List He.Fa) (fn : List He.DefD) (ex : List (PySem.W.Frag → Bool)) (N : Nat) (g : Addr → Option Obj) : AlY := obsY fa fn ex (lastK c N g)
def valY (fn : List He.DefD) : AlY := (He.valD fn, true)
def hookY (c : Nat) (fa : List He.Fa) (fn : List He.DefD) (ex : List (PySem.W.Frag → Bool)) : PySem.W.Hook where
  α := AlY
  obs := fun s => obsYG c fa fn ex s.heap.objs.size s.heap.get?
  val := fun _ => valY fn
  says := fun _ h => ∃ K : PySem.W.Frag, K.In h ∧ Says fa fn ex K
  of := fun _ _ e => ⟨_, He.frG_in, ⟨congrArg (fun z : AlY => z.1) e, congrArg (fun z : AlY => z.2) e⟩⟩
  keeps := fun _ _ _ ⟨K, hK, c⟩ k => ⟨K, PySem.W.Frag.In.keeps hK k, c⟩
theorem obsYG_eq {c : Nat} {fa : List He.Fa} {fn : List He.DefD} {ex : List (PySem.W.Frag → Bool)} {N : Nat} {g : Addr → Option Obj} {s : Shared} (hN : N = s.heap.objs.size) (h : ∀ a, g a = s.heap.get? a) : obsYG c fa fn ex N g = (hookY c fa fn ex).obs s := by
  have e : g = s.heap.get? := funext h
  rw [e, hN] <;> rfl
theorem sizeT (s : PySem.W.SharedT) : s.n = s.abs.heap.objs.size := (PySem.W.absHeap_size s.tree s.n s.life).symm
theorem Says.fact {fa : List He.Fa} {fn : List He.DefD} {ex : List (PySem.W.Frag → Bool)} {K : PySem.W.Frag} (c : Says fa fn ex K) (i : Nat) {f : He.Fa} (h : fa[i]? = some f := by rfl) : f.ok K = true := c.d.fact i h
theorem Says.more {fa : List He.Fa} {fn : List He.DefD} {ex : List (PySem.W.Frag → Bool)} {K : PySem.W.Frag} (c : Says fa fn ex K) (i : Nat) {f : PySem.W.Frag → Bool} (h : ex[i]? = some f := by rfl) : f K = true :=
  List.all_eq_true.mp c.e f (List.mem_of_getElem? h)
/-! ### the run's equation in parts, each checked by itself -/
theorem run_pair {σ α β : Type} {o : Option σ} {g : σ → α × β} {b : α × β} (h1 : o.map (fun s => (g s).1) = some b.1) (h2 : o.map (fun s => (g s).2) = some b.2) : o.map g = some b := by
  cases o with
  | none => cases h1
  | some s =>
    have e1 : (g s).1 = b.1 := Option.some.inj h1
    have e2 : (g s).2 = b.2 := Option.some.inj h2
    exact congrArg some (Prod.ext e1 e2)
theorem run_parts {σ α β γ : Type} {o : Option σ} {f : σ → α} {g : σ → β} {h : σ → γ} {a : α} {b : β} {c : γ} (h1 : o.map f = some a) (h2 : o.map g = some b) (h3 : o.map h = some c) : o.map (fun s => (f s, g s, h s)) = some (a, b, c) := by
  cases o with
  | none => cases h1
  | some s =>
    have e1 : f s = a := Option.some.inj h1
    have e2 : g s = b := Option.some.inj h2
    have e3 : h s = c := Option.some.inj h3
    show some (f s, g s, h s) = some (a, b, c)
    rw [e1, e2, e3]
end TR

set_option Elab.async false
set_option linter.all false
set_option maxRecDepth 100000
set_option maxHeartbeats 0
/-! The text by places, the head. -/
namespace TR
open PySem PySem.Spec PyProof.Rows L2
def top (i : Nat) : Stmt := PySem.Challenge.pw_tuneroad_k01_whole_shelves.main.body.getD i (.Pass ⟨0, 0, 0, 0⟩)
abbrev s_look_name : Stmt := top 11
abbrev s_Shelf_init : Stmt := inClass (top 12) 0
abbrev s_Shelf_add : Stmt := inClass (top 12) 1
abbrev s_Shelf_need : Stmt := inClass (top 12) 2
abbrev s_Shelf_long : Stmt := inClass (top 12) 3
abbrev s_Shelf_names : Stmt := inClass (top 12) 4
abbrev s_l_cell : Stmt := top 14
abbrev s_l_mix : Stmt := top 15
abbrev s_l_draw : Stmt := top 16
abbrev s_l_pick : Stmt := top 17
abbrev s_l_refusal : Stmt := top 18
abbrev s_l_signs : Stmt := top 19
abbrev s_l_told : Stmt := top 20
abbrev s_law : Stmt := top 21
def d_look_name : He.DefD := ⟨("look_name", none), "look_name", "look_name", defArgs s_look_name, defBody s_look_name, defScope s_look_name, [], []⟩
def d_Shelf_init : He.DefD := ⟨("Shelf", some "__init__"), "__init__", "Shelf.__init__", defArgs s_Shelf_init, defBody s_Shelf_init, defScope s_Shelf_init, [], []⟩
def d_Shelf_add : He.DefD := ⟨("Shelf", some "add"), "add", "Shelf.add", defArgs s_Shelf_add, defBody s_Shelf_add, defScope s_Shelf_add, [], []⟩
def d_Shelf_need : He.DefD := ⟨("Shelf", some "need"), "need", "Shelf.need", defArgs s_Shelf_need, defBody s_Shelf_need, defScope s_Shelf_need, [], []⟩
def d_Shelf_long : He.DefD := ⟨("Shelf", some "long"), "long", "Shelf.long", defArgs s_Shelf_long, defBody s_Shelf_long, defScope s_Shelf_long, [], []⟩
def d_Shelf_names : He.DefD := ⟨("Shelf", some "names"), "names", "Shelf.names", defArgs s_Shelf_names, defBody s_Shelf_names, defScope s_Shelf_names, [], []⟩
def d_l_cell : He.DefD := ⟨("_law_cell", none), "_law_cell", "_law_cell", defArgs s_l_cell, defBody s_l_cell, defScope s_l_cell, [], []⟩
def d_l_mix : He.DefD := ⟨("_law_mix", none), "_law_mix", "_law_mix", defArgs s_l_mix, defBody s_l_mix, defScope s_l_mix, [], []⟩
def d_l_draw : He.DefD := ⟨("_law_draw", none), "_law_draw", "_law_draw", defArgs s_l_draw, defBody s_l_draw, defScope s_l_draw, [], []⟩
def d_l_pick : He.DefD := ⟨("_law_pick", none), "_law_pick", "_law_pick", defArgs s_l_pick, defBody s_l_pick, defScope s_l_pick, [], []⟩
def d_l_refusal : He.DefD := ⟨("_law_refusal", none), "_law_refusal", "_law_refusal", defArgs s_l_refusal, defBody s_l_refusal, defScope s_l_refusal, [], []⟩
def d_l_signs : He.DefD := ⟨("_law_signs", none), "_law_signs", "_law_signs", defArgs s_l_signs, defBody s_l_signs, defScope s_l_signs, [], []⟩
def d_l_told : He.DefD := ⟨("_law_told", none), "_law_told", "_law_told", defArgs s_l_told, defBody s_l_told, defScope s_l_told, [], []⟩
def d_law : He.DefD := ⟨("law", none), "law", "law", defArgs s_law, defBody s_law, defScope s_law, [], []⟩
def fn : List He.DefD := ([d_look_name, d_Shelf_init, d_Shelf_add, d_Shelf_need, d_Shelf_long, d_Shelf_names, d_l_cell, d_l_mix, d_l_draw, d_l_pick, d_l_refusal, d_l_signs, d_l_told, d_law] : List He.DefD)
def fa : List He.Fa := (([.glo "RoadError", .exc "RoadError", .glo "BadTune", .exc "BadTune", .glo "BadNumber", .exc "BadNumber", .glo "BadEntry", .exc "BadEntry", .glo "BadWord", .exc "BadWord", .glo "Shelf", .cls "Shelf", .mkr "Shelf", .noat "Shelf" "longs", .meth "Shelf" "add", .meth "Shelf" "need", .meth "Shelf" "long", .meth "Shelf" "names", .exm "RoadError" "RoadError" true, .exm "BadTune" "RoadError" true] : List He.Fa) ++ (([.exm "BadNumber" "RoadError" true, .exm "BadEntry" "RoadError" true, .exm "BadWord" "RoadError" true, .glo "look_name", .glo "_law_cell", .glo "_law_mix", .glo "_law_draw", .glo "_law_pick", .glo "_law_refusal", .glo "_law_signs", .glo "_law_told", .glo "law", .str "SMALL" "abcdefghijklmnopqrstuvwxyz", .int "MOST_NAME" 6, .int "MOST_TUNES" 6, .int "MOST_LONG" 40, .free "len", .free "range", .free "sorted", .free "isinstance"] : List He.Fa) ++ ([.free "all", .free "ValueError"] : List He.Fa)))
def exs : List (PySem.W.Frag → Bool) := (([fun K => true, fun K => excB K "RoadError", fun K => excB K "BadTune", fun K => excB K "BadNumber", fun K => excB K "BadEntry", fun K => excB K "BadWord", fun K => kitB2 K "BadTune" "BadTune" true, fun K => kitB2 K "BadTune" "BadNumber" false, fun K => kitB2 K "BadTune" "BadEntry" false, fun K => kitB2 K "BadTune" "BadWord" false, fun K => kitV K "BadTune" "ValueError" true, fun K => kitB2 K "BadNumber" "BadTune" false, fun K => kitB2 K "BadNumber" "BadNumber" true, fun K => kitB2 K "BadNumber" "BadEntry" false, fun K => kitB2 K "BadNumber" "BadWord" false, fun K => kitV K "BadNumber" "ValueError" true, fun K => kitB2 K "BadEntry" "BadTune" false, fun K => kitB2 K "BadEntry" "BadNumber" false, fun K => kitB2 K "BadEntry" "BadEntry" true, fun K => kitB2 K "BadEntry" "BadWord" false] : List (PySem.W.Frag → Bool)) ++ ([fun K => kitV K "BadEntry" "ValueError" true, fun K => kitB2 K "BadWord" "BadTune" false, fun K => kitB2 K "BadWord" "BadNumber" false, fun K => kitB2 K "BadWord" "BadEntry" false, fun K => kitB2 K "BadWord" "BadWord" true, fun K => kitV K "BadWord" "ValueError" true] : List (PySem.W.Frag → Bool)))
abbrev R : PySem.W.OpenRow := PySem.W.OpenLaw.row PySem.Challenge.rw_tuneroad_k01_whole_shelves
def loose : List Str := (["__name__", "RoadError", "BadTune", "BadNumber", "BadEntry", "BadWord", "SMALL", "MOST_NAME", "MOST_TUNES", "MOST_LONG", "look_name", "Shelf", "_law_cell", "_law_mix", "_law_draw", "_law_pick", "_law_refusal", "_law_signs", "_law_told"] : List Str)
def ilaw : Nat := 21
def steps : Nat := 5000
def objs : Nat := 300
abbrev hk : PySem.W.Hook := hookY objs fa fn exs
def ob (s : PySem.W.SharedT) : AlY := obsYG objs fa fn exs s.n (HandSHeadRun.getT s)
theorem ob_eq (s : PySem.W.SharedT) : ob s = hk.obs s.abs := obsYG_eq (sizeT s) (HandSHeadRun.getT_eq s)
noncomputable section
open HandSHeadRun PySem.W PySem.Calls
abbrev qV : Program := PySem.W.view R.prog [ilaw]
abbrev seenV (s : SharedT) := seenQ qV loose (importedModules R.prog.main.body) (fun s => xlAt qV [] s && recOk R.toRowW.records s) s.abs
abbrev endV (w : World) (os : OsState) : Option SharedT := endF (stepQ (denQ tabQ) R.prog w) steps R.prog w os
theorem run1 (w : World) (os : OsState) : (endV w os).map (fun s => looksF R.prog (boot_heap w.params) s.abs) = some true := by kernel_rfl
theorem run2 (w : World) (os : OsState) : (endV w os).map (fun s => (seenV s).1) = some (openGood qV loose).1 := by kernel_rfl
theorem run3 (w : World) (os : OsState) : (endV w os).map (fun s => (seenV s).2.1) = some (openGood qV loose).2.1 := by kernel_rfl
theorem run4 (w : World) (os : OsState) : (endV w os).map (fun s => (seenV s).2.2.1) = some (openGood qV loose).2.2.1 := by kernel_rfl
theorem run5 (w : World) (os : OsState) : (endV w os).map (fun s => (seenV s).2.2.2) = some (openGood qV loose).2.2.2 := by kernel_rfl
theorem run6 (w : World) (os : OsState) : (endV w os).map (fun s => (ob s).1.1) = some true := by kernel_rfl
theorem run7 (w : World) (os : OsState) : (endV w os).map (fun s => (ob s).1.2) = some (fn.map He.DefD.val) := by kernel_rfl
theorem run8 (w : World) (os : OsState) : (endV w os).map (fun s => (ob s).2) = some true := by kernel_rfl
theorem run (w : World) : RunEq R qV hk ob steps loose w := fun os =>
  run_parts (run1 w os) (run_pair (run2 w os) (run_pair (run3 w os) (run_pair (run4 w os) (run5 w os)))) (run_pair (b := hk.val w) (run_pair (b := (hk.val w).1) (run6 w os) (run7 w os)) (run8 w os))
end
end TR

set_option Elab.async false
set_option linter.all false
set_option maxRecDepth 100000
set_option maxHeartbeats 4000000
/-! An error that is caught and held by a name; isinstance of it; calls of own defs in short. -/
namespace TR
open PySem PySem.Spec PyProof.Rows L2

/-! ### an exception object that is held -/
def ExA (cls : Value) (a : Addr) : HO := .ext fun h => ∃ (oe : Obj) (vs : Array Value), h.get? a = some oe ∧ Zc cls none oe ∧ oe.data = .fields vs
theorem exA_ok {P : Program} {w : World} {H : Hp} {h : Heap} {a : Addr} {cls : Value} {oe : Obj} {vs : Array Value} (e : h.get? a = some oe) (z : Zc cls none oe) (d : oe.data = .fields vs) : ObjOk P w H h a (ExA cls a) :=
  ⟨⟨oe, vs, e, z, d⟩, ⟨oe, e⟩, fun _ _ ⟨o, v, q, r⟩ k => ⟨o, v, k o q, r⟩⟩
section
variable {X : Cx} {pins : List (Addr × Obj)} {σ : L2.St} {H : Hp} {s : Shared}
theorem Inv.track {a : Addr} {o : HO} (I : Inv X pins σ H s) (na : H a = none) (n0 : X.s_0.heap.get? a = none) (np : ∀ p ∈ X.pn ++ pins, p.1 ≠ a) (nL : a ≠ X.env.locals) (nc : ∀ x c, X.env.cells.lookup x = some c → c ≠ a)
    (new : ObjOk X.prog X.w (upd H a o) s.heap a o) : Inv X pins σ (upd H a o) s := by
  refine ⟨I.ok, I.os, I.bare, ⟨fun b ob e n hb hx => I.base.keep b ob e n hb hx, fun b ob e n hb hx => I.base.slot b ob e n hb hx, fun b ob e n hx => ?_, fun b ob e hx => I.base.there b ob e hx, fun b xs e => ?_, fun b ob xs e => ?_, fun b ps e => ?_⟩, I.loc, I.cell, ?_, fun x c e => ?_, fun p hp => ?_, fun b u e => ?_, I.len⟩
  · have hb : b ≠ a := fun z => by
      rw [z, n0] at e
      cases e
    rw [upd_ne hb]
    exact I.base.free b ob e n hx
  · have q := I.base.tups b xs e
    rw [upd_ne (ne_of_none q na)]
    exact q
  · have q := I.base.frzs b ob xs e
    rw [upd_ne (ne_of_none q na)]
    exact q
  · obtain ⟨m, q⟩ := I.base.tbls b ps e
    refine ⟨m, ?_⟩
    rw [upd_ne (ne_of_none q na)]
    exact q
  · rw [upd_ne (Ne.symm nL)]
    exact I.free
  · rw [upd_ne (nc x c e)]
    exact I.freeC x c e
  · obtain ⟨e, n, r⟩ := I.pin p hp
    refine ⟨e, ?_, r⟩
    rw [upd_ne (np p hp)]
    exact n
  · by_cases hb : b = a
    · rw [hb] at e ⊢
      rw [upd_same] at e
      cases e
      exact new
    · rw [upd_ne hb] at e
      exact (I.hok b u e).stay (fun _ _ _ q => q) (fun c q => by rw [upd_ne (ne_of_none q na)]; exact q) fun c xs q => by rw [upd_ne (ne_of_none q na)]; exact q
theorem Inv.unsuiteK {a : Addr} {q : Addr × Obj} (I : Inv (X.suite a (q :: (X.pn ++ pins))) [] σ H s) (ok : X.Ok) : Inv X (q :: pins) σ H s :=
  ⟨ok, I.os, I.bare, I.base, I.loc, I.cell, I.free, I.freeC, fun p hp => I.pin p (by
    rw [List.append_nil]
    show p ∈ q :: (X.pn ++ pins)
    rcases List.mem_append.mp hp with z | z
    · exact List.mem_cons_of_mem _ (List.mem_append_left _ z)
    · rcases List.mem_cons.mp z with z | z
      · rw [z]
        exact List.mem_cons_self
      · exact List.mem_cons_of_mem _ (List.mem_append_right _ z)), I.hok, I.len⟩
end

/-- what the clause «except x as n» wishes; behind the suite the error is known as an object -/
def wHold (K : PySem.W.Frag) (c : Value) (i : Nat) (ts : Addr → List (Addr × Obj) → TS) (Wout : WX) (D : Ends) : WX := fun cls d σ H =>
  ∃ b, PySem.W.exmOne K cls c = some b ∧ (b = true → d = none ∧ ∀ a pn, H a = none → ts a pn { nx := fun σ' H' => H' a = none ∧ D.nx (σ'.set i none) (upd H' a (ExA cls a)), rt := fun _ _ => False } (σ.set i (some (.ref a))) H) ∧
    (b = false → Wout cls d σ H)
section
variable {X : Cx} {x n : Str} {c : Value} {i : Nat} {body suite : List Stmt} {b₀ : Stmt} {np pos pos' : Pos} {ts : Addr → List (Addr × Obj) → TS} {Wout : WX}
  {tb : ∀ (W : WX) (pn : List (Addr × Obj)) (xe : Value → Shared → Prop), Takes (X.tr pn xe) W → PassesOwn (model X.prog X.w) X.A X.env xe → TS}
/-- a try's reading -/
def tTry (X : Cx) (c : Value) (i : Nat) (ts : Addr → List (Addr × Obj) → TS) (Wout : WX) (tb : ∀ (W : WX) (pn : List (Addr × Obj)) (xe : Value → Shared → Prop), Takes (X.tr pn xe) W → PassesOwn (model X.prog X.w) X.A X.env xe → TS) : TS :=
  fun D σ H => ∀ pn xe (tk : Takes (X.tr pn xe) (wHold X.K c i ts Wout D)) (po : PassesOwn (model X.prog X.w) X.A X.env xe), tb (wHold X.K c i ts Wout D) pn xe tk po D σ H
theorem ps_try_hold (hs : X.stack = X.env :: X.outer) (hf : X.env.frame = some X.env.locals) (hex : X.ex = []) (hN : X.N.Nodup) (hi : X.N[i]? = some n) (hln : X.env.kindOf n = some .local) (hc : Names X x c) (tk : Takes X Wout)
    (hb : ∀ (W : WX) (pn : List (Addr × Obj)) (xe : Value → Shared → Prop) (tk : Takes (X.tr pn xe) W) (po : PassesOwn (model X.prog X.w) X.A X.env xe), PSs (X.tr pn xe) body (tb W pn xe tk po))
    (hsu : ∀ (a : Addr) (pn : List (Addr × Obj)), PSs (X.suite a pn) (b₀ :: suite) (ts a pn)) :
    PS X (.Try body [.ExceptHandler (some (.Name x np)) (some n) (b₀ :: suite) pos'] [] [] pos) (tTry X c i ts Wout tb) := by
  refine ⟨fun pins s σ H D I h => ?_⟩
  have ok := I.ok
  have hfr : X.A.frames = some (X.env :: X.outer) := by rw [ok.frames, hs]
  have hloc : Loc X.env.scope n := .inl hln
  refine wpAny_Try_except ?_
  refine wpAny_mono ((hb (wHold X.K c i ts Wout D) (X.pn ++ pins) (fun e s₁ => wpAny (model X.prog X.w) X.A (noteFrame e X.env) (fun _ s₂ => wpAny (model X.prog X.w) X.A (setFlight e none) (fun _ s₃ =>
    wpAny (model X.prog X.w) X.A (handleBy e X.env [.ExceptHandler (some (.Name x np)) (some n) (b₀ :: suite) pos']) (SP X pins D) X.xe s₃) X.xe s₂) X.xe s₁) (fun u s' xx => ?_) PassesOwn.looking).run [] s σ H D (I.toTry _) (h _ _ _ _)) (fun f s1 hsp => ?_) (fun e s1 he => he)
  · obtain ⟨a, B, sI, pins', σ', H', cls, d, rfl, J', nb, up, sky, na, os, ag, b, hb1, hyes, hno⟩ := xx
    have J : Inv X pins σ' H' sI := J'.ofTry ok
    have sky' : Sky B (X.env :: X.outer) a (Zc cls d) X.env.locals s'.heap := by rw [← hs]; exact sky
    show wpAny (model X.prog X.w) X.A (noteFrame (.ref a) X.env) _ _ _
    refine Sky.land Zc.steady hfr hf sky' fun h3 fl3 up3 => ?_
    have J3 : Inv X pins σ' H' { s' with heap := h3 } := J.landed nb fl3.1 (up.trans up3) os ag
    obtain ⟨oe3, vs3, he3, hz3, hd3⟩ := fl3.there
    have notFr : ∀ {h : Heap} {o : Obj} {vs : Array Value}, h.FunFrames B (X.env :: X.outer) → h.get? a = some o → o.data = .fields vs → a ∉ frs (X.env :: X.outer) := fun {h o vs} ff e dd hm => by
      obtain ⟨_, o', e', hnf⟩ := ff.mem hm
      rw [e] at e'; cases e'
      exact hnf _ dd
    have nfr := notFr fl3.2.2.1 he3 hd3
    have nL : a ≠ X.env.locals := fun z => nfr (List.mem_filterMap.mpr ⟨X.env, List.mem_cons_self, by rw [hf, z]⟩)
    have nF : a ∉ X.fs := fun hm => by
      obtain ⟨e, he, q⟩ := List.mem_filterMap.mp hm
      exact nfr (List.mem_filterMap.mpr ⟨e, List.mem_cons_of_mem _ he, q⟩)
    have nB : B.get? a = none := fl3.2.1
    have nI : ∀ o, sI.heap.get? a ≠ some o := fun o e => by
      have q := nb a o e (by rw [hs]; exact nfr)
      rw [nB] at q
      cases q
    have n0 : X.s_0.heap.get? a = none := by
      cases q : X.s_0.heap.get? a with
      | none => rfl
      | some o =>
        obtain ⟨o', e'⟩ := J.base.there a o q (by rw [hex]; exact fun z => nomatch z)
        exact absurd e' (nI o')
    have npn : ∀ p ∈ X.pn ++ pins, p.1 ≠ a := fun p hp z => by
      have q := (J'.pin p (List.mem_append_left _ hp)).1
      rw [z] at q
      exact nI _ q
    have ncl : ∀ y k, X.env.cells.lookup y = some k → k ≠ a := fun y k e z => by
      obtain ⟨v, o, ho, hd⟩ := J.cell y k e
      rw [z] at ho
      exact nI _ ho
    have S3 := J3.suite he3 hd3 na nL nF
    refine wpAny_handleBy_cons (codeAny_handlers_test ?_) (by intro q; cases q)
    have LT : PySem.W.Looks (model X.prog X.w) h3 (typeOf (.ref a)) cls := fun A Q E s k q => wpAny_typeOf_ref (k _ _ he3) (by rw [hz3.1]; exact q)
    have LM := PySem.W.exm_one (M := model X.prog X.w) (J3.kIn) LT hb1
    have test : ∀ {Q : Value → Shared → Prop} {E : Value → Shared → Prop}, Q c { s' with heap := h3 } → wpAny (model X.prog X.w) (X.A.mark (some (.ref a))) (eval (.Name x np) X.env) Q E { s' with heap := h3 } := fun {Q E} q => by
      obtain ⟨hg, hdbg, hm | ⟨hm, hv, hnn⟩⟩ := hc
      · exact ld_glob (X := X.suite a ((a, oe3) :: (X.pn ++ pins))) S3 hg hm q hdbg
      · exact ld_blt (X := X.suite a ((a, oe3) :: (X.pn ++ pins))) S3 hg hm hv q hnn hdbg
    refine test (LM.here ?_)
    cases b with
    | true =>
      refine codeAny_handlers_suite_as ?_
      refine HandSPX.lands_againZ fl3 fun h4 fl4 up4 => ?_
      have J4 : Inv X pins σ' H' { s' with heap := h4 } := J.landed nb fl4.1 ((up.trans up3).trans up4) os ag
      obtain ⟨oe4, vs4, he4, hz4, hd4⟩ := fl4.there
      have S4 := J4.suite he4 hd4 na nL nF
      obtain ⟨hd0, hyes2⟩ := hyes rfl
      subst hd0
      refine store_ok (X := X.suite a ((a, oe4) :: (X.pn ++ pins))) (v := .ref a) S4 hN hi hloc rfl (fun s5 S5 => ?_) (.inr hln)
      refine wpAny_mono ((hsu a ((a, oe4) :: (X.pn ++ pins))).run [] s5 _ H' _ S5 (hyes2 a _ na)) (fun f s6 hsp => ?_) (fun _ _ z => False.elim z)
      cases f with
      | next =>
        obtain ⟨σ6, H6, S6, n6, q6⟩ := hsp
        have S6' : Inv X ((a, oe4) :: pins) σ6 H6 s6 := Inv.unsuiteK S6 ok
        show wpAny (model X.prog X.w) X.A (do bindName X.env n .none; unbindBehindTheSuite X.env n pos') _ X.xe s6
        refine gone_ok S6' hN hi hln fun s7 J7 => ?_
        have hp := J7.pin (a, oe4) (List.mem_append_right _ List.mem_cons_self)
        have J8 : Inv X pins (σ6.set i none) H6 s7 := J7.pins_of fun p hp => J7.pin p (List.mem_append_right _ (List.mem_cons_of_mem _ hp))
        exact ⟨_, _, Inv.track J8 n6 n0 npn nL ncl (exA_ok hp.1 hz4 hd4), q6⟩
      | brk =>
        obtain ⟨σ6, H6, S6, q6⟩ := hsp
        exact False.elim q6
      | cont =>
        obtain ⟨σ6, H6, S6, q6⟩ := hsp
        exact False.elim q6
      | ret u =>
        obtain ⟨v6, σ6, H6, S6, r6, q6⟩ := hsp
        exact False.elim q6
    | false =>
      show wpAny _ X.A (handleBy (.ref a) X.env []) _ _ _
      refine wpAny_handleBy_nil ?_
      obtain ⟨k1, k2, k3, oe, vs, T, oT, ts', he, hz, hd, h1, hr⟩ := id fl3
      unfold PySem.passOn
      refine wpAny_bind (wpAny_field he hd h1 ?_)
      rw [if_neg (show ¬ ((Value.ref T == Value.none) = true) from by simp)]
      have fin : wpAny (model X.prog X.w) X.A (setFlight (.ref a) X.env.frame) (fun _ s4 => wpAny (model X.prog X.w) X.A (throw (.ref a) : Sem Flow) (SP X pins D) X.xe s4) X.xe { s' with heap := h3 } := by
        rw [hf]
        refine HandSPX.setFlight_upZ fl3 fun h4 hh4 up4 => wpAny_throw (tk _ _ ?_)
        exact ⟨a, B, sI, pins, σ', H', cls, d, rfl, J, nb, (up.trans up3).trans up4, .inr (.inr (by rw [hs]; exact hh4)), na, os, ag, hno rfl⟩
      first
        | exact wpAny_bind (wpAny_pure (wpAny_bind fin))
        | exact wpAny_bind fin
  · cases f with
    | next =>
      obtain ⟨σ', H', J', q⟩ := hsp
      exact wpAny_execs_nil ⟨σ', H', J'.ofTry ok, q⟩
    | brk =>
      obtain ⟨σ', H', J', q⟩ := hsp
      exact ⟨σ', H', J'.ofTry ok, q⟩
    | cont =>
      obtain ⟨σ', H', J', q⟩ := hsp
      exact ⟨σ', H', J'.ofTry ok, q⟩
    | ret u =>
      obtain ⟨v, σ', H', J', r, q⟩ := hsp
      exact ⟨v, σ', H', J'.ofTry ok, r, q⟩
end

/-- isinstance(x, c), x an error that is held -/
def rIsX (K : PySem.W.Frag) : List V → Hp → VK → Prop := fun xs H Q => ∃ (a D : Addr) (c : V) (cv : Value) (b : Bool), xs = [.ref a, c] ∧ H a = some (ExA (.ref D) a) ∧ ExcC K D ∧ (∀ u, RelV c u → u = cv) ∧ PySem.W.kitOne K (.ref D) cv = some b ∧ Q (.bl b) H
theorem call_isX {X : Cx} : CallR X (.builtin "isinstance") (rIsX X.K) := by
  intro pins s σ H xs us Q I r h
  obtain ⟨a, D, c, cv, b, rfl, ha, C, hcv, e, q⟩ := h
  cases r with
  | cons rx rr =>
    cases rr with
    | cons rt rr =>
      cases rr
      cases rx
      have ec := hcv _ rt
      subst ec
      obtain ⟨⟨oe, vs, hget, hz, hv⟩, _, _⟩ := (show ObjOk X.prog X.w H s.heap a (ExA (.ref D) a) from I.hok a _ ha)
      have J : PySem.W.InstAt s.heap a oe D none := by
        obtain ⟨oc, od, oda, osl⟩ := oe
        obtain ⟨h1, h2⟩ := hz
        dsimp only at h1 h2 hv
        subst h1 h2 hv
        exact ⟨hget, rfl, rfl, trivial⟩
      exact PySem.W.kia_one (PySem.W.handS_kitx_exc C.hg C.hk C.hs C.hd C.ha C.hn C.ht C.hm) I.kIn J e (fun z => nomatch z) fun tk => ⟨.bl b, H, I.kept (t' := tk) fun _ _ z => z, rfl, q⟩

/-! ### a def of the text, its promise -/
def OkD (P : Program) (w : World) (K : PySem.W.Frag) (mg : Str → Option Value) (base : Heap) (d : He.DefD) (k : Nat) (ps : List Str) (sp : Sp) : Prop :=
  ∃ fd, (PySem.W.keepIn K (.ref (He.fAd K d.at_)) = true ∧ ∀ (s : Shared) (us : List Value), us.length = ps.length → BindsTo s fd ⟨us, []⟩ (ps.zip us)) ∧ (Binds K fd ps [] ∧ ∃ oc od osl, K.lookup (He.fAd K d.at_) = some ⟨oc, od, .func fd, osl⟩) ∧ FnOk P w K mg base (L2.CX P w) k (He.fAd K d.at_) fd ps sp
section
variable {P : Program} {w : World} {K : PySem.W.Frag} {mg : Str → Option Value} {base : Heap}
theorem okD {d : He.DefD} {N ps : List Str} {k : Nat} {sp : Sp} (F : ∃ fd, FunD K d.name d.qual d.params d.body d.scope [] [] (He.fAd K d.at_) fd) (S : FnScope N ps d.scope)
    (b : ∀ (kV doc pm : Value) (an : Option Addr) (cdv ct : Value) (us : List Value), us.length = ps.length → bindArgs (PySem.W.fnOf d.name d.qual d.params d.body d.scope .none kV doc pm an cdv ct) ⟨us, []⟩ = pure (ps.zip us))
    (len : ∀ vs H Q E, sp vs H Q E → vs.length = ps.length)
    (body : ∀ (cdv : Value) (A : Around) (outer : List Env) (s : Shared) (H : Hp) (vs : List V) (Q : VK) (E : XK), Room k (A.deeper (envOfC d.qual d.scope s.heap.objs.size (He.fAd K d.at_) cdv)) → sp vs H Q E →
      ∃ t, PSs (cxOf (L2.CX P w) P w K mg base N d.qual d.scope (He.fAd K d.at_) cdv A outer s H E) d.body t ∧ t { nx := fun _ H' => Q .non H', rt := Q } (start N vs) H) : OkD P w K mg base d (k + 1) ps sp := by
  obtain ⟨fd, F⟩ := F
  obtain ⟨oc, od, dV, kV, doc, pm, an, cdv, ct, osl, e, lk, _⟩ := F.ex
  exact ⟨fd, ⟨F.kp, F.bindsA b⟩, ⟨F.bindsN b, oc, od, osl, lk⟩, F.ok S len body⟩
theorem OkD.mono {d : He.DefD} {k j : Nat} {ps : List Str} {sp : Sp} (G : OkD P w K mg base d k ps sp) (h : k ≤ j) : OkD P w K mg base d j ps sp := by
  obtain ⟨fd, h1, h2, h3⟩ := G
  exact ⟨fd, h1, h2, h3.mono h⟩
/-- in a def's body: what is raised leaves the def -/
theorem tkD {N : List Str} {qual : Str} {scope : Scope} {f : Addr} {cd : Value} {A : Around} {outer : List Env} {s : Shared} {H : Hp} {E : XK} : Takes (cxOf (L2.CX P w) P w K mg base N qual scope f cd A outer s H E) (fun cls d _ H => E cls d H) :=
  takes_of rfl rfl rfl rfl
theorem paD {N : List Str} {qual : Str} {scope : Scope} {f : Addr} {cd : Value} {A : Around} {outer : List Env} {s : Shared} {H : Hp} {E : XK} (σ : L2.St) : PassesAt (L2.CX P w) (cxOf (L2.CX P w) P w K mg base N qual scope f cd A outer s H E) σ E :=
  fun pins H1 s1 e s' I c => passes_call tkD (fun _ _ _ _ h => h) pins σ H1 s1 e s' I c
end
/-- nothing is raised -/
theorem paN {X : Cx} (σ : L2.St) : PassesAt (L2.CX X.prog X.w) X σ E0 := fun pins H1 s1 e s' I c => passL pins σ H1 s1 e s' I c
/-- f(..), o.m(..), C(..): what is wanted of an exception hangs on the slots -/
def tMt (C : Addr) (m : Str) (sp : Sp) (E : L2.St → XK) (ta : TE) (t : TA) : TE := fun σ H Q => ta σ H fun x H1 => ∃ a dx fs, x = .ref a ∧ H1 a = some (.ins C dx fs) ∧ fs.lookup m = none ∧ t σ H1 fun vs H2 => sp (x :: vs) H2 Q (E σ)
def tMk (C : Addr) (sp : Sp) (E : L2.St → XK) (t : TA) : TE := fun σ H Q => t σ H fun vs H1 => ∀ x dx, H1 x = none → H1 dx = none → dx ≠ x →
  sp (.ref x :: vs) (upd (upd H1 dx (.own x)) x (.ins C dx [])) (fun v H2 => v = .non ∧ Q (.ref x) H2) (E σ)
section
variable {X : Cx} {d : He.DefD} {k : Nat} {ps : List Str} {sp : Sp} {E : L2.St → XK} {x m C : Str} {p pos apos : Pos} {e o : Expr} {es : List Expr} {ta : TE} {t : TA}
theorem px_call (G : OkD X.prog X.w X.K X.mg X.base d k ps sp) (hr : Room k X.A) (hg : Gl X x) (hm : X.mg x = some (.ref (He.fAd X.K d.at_))) (hx : ∀ σ, PassesAt (L2.CX X.prog X.w) X σ (E σ)) (ha : PA X (e :: es) t)
    (hdb : (x == ("__debug__" : Str)) = false := by decide) (he : starEach (e :: es) X.env = (false, eval e X.env) :: starEach es X.env := by rfl) (hpl : (backTo pos (starEach es X.env)).any (·.1) = false := by rfl) :
    PE X (.Call (.Name x p) (e :: es) [] pos) (tCallS sp E t) := by
  obtain ⟨fd, ⟨hk, _⟩, ⟨hb, _⟩, F⟩ := G
  exact pe_callS F hr hg hm hk hb hx ha hdb he hpl
theorem px_meth {pl : Sem Bool} (G : OkD X.prog X.w X.K X.mg X.base d k ps sp) (hr : Room k X.A) (he : PE X o ta) (c : Cls X.K (He.ga X.K C)) (hm : Meth X.K (He.ga X.K C) m (He.fAd X.K d.at_)) (hx : ∀ σ, PassesAt (L2.CX X.prog X.w) X σ (E σ)) (ha : PA X (e :: es) t)
    (hst : starEach (e :: es) X.env = (false, eval e X.env) :: starEach es X.env := by rfl) (hpl : (backTo pos (starEach es X.env)).any (·.1) = false := by rfl)
    (ht : eval (.Call (.Attribute o m apos) (e :: es) [] pos) X.env = (do
      let ov ← eval o X.env
      standAt apos.atName
      let (f, first) ← holding [ov] (getMethod ov m pl)
      callWith pos f first (backTo pos (starEach (e :: es) X.env)) (backToKw pos (keywordEach [] X.env))) := by rfl) :
    PE X (.Call (.Attribute o m apos) (e :: es) [] pos) (tMt (He.ga X.K C) m sp E ta t) := by
  obtain ⟨fd, ⟨hk, _⟩, ⟨hb, _⟩, F⟩ := G
  refine ⟨fun pins s σ H Q I h => ?_⟩
  refine PySem.W.methodCall_KW (pl := pl) (thn (he.run pins s σ H _ I h) fun u s1 ⟨x, H1, I1, rx, a, dx, fs, ex, ea, l, q⟩ => ?_) ht
  subst ex
  obtain rfl : u = Value.ref a := rx
  refine getmeth_ok I1 ea c hm l ?_
  refine PySem.W.callWith_K (first := [.ref a]) (h₀ := X.base) I.ok.mod.kin hm.kp (thn (ha.run pos pins s1 σ H1 _ I1 q) fun us s2 ⟨vs, H2, I2, r, q2⟩ => ⟨I2.kIn, ?_⟩) hst hpl
  exact run_fnS (us := .ref a :: us) (vs := .ref a :: vs) F hr hb (hx σ) I2 (.cons rfl r) q2
theorem px_meth0 {pl : Sem Bool} (G : OkD X.prog X.w X.K X.mg X.base d k ps sp) (hr : Room k X.A) (he : PE X o ta) (c : Cls X.K (He.ga X.K C)) (hm : Meth X.K (He.ga X.K C) m (He.fAd X.K d.at_)) (hx : ∀ σ, PassesAt (L2.CX X.prog X.w) X σ (E σ))
    (ht : eval (.Call (.Attribute o m apos) [] [] pos) X.env = (do
      let ov ← eval o X.env
      standAt apos.atName
      let (f, first) ← holding [ov] (getMethod ov m pl)
      callWith pos f first (backTo pos (starEach [] X.env)) (backToKw pos (keywordEach [] X.env))) := by rfl) :
    PE X (.Call (.Attribute o m apos) [] [] pos) (tMt (He.ga X.K C) m sp E ta tNil) := by
  obtain ⟨fd, ⟨hk, _⟩, ⟨hb, _⟩, F⟩ := G
  refine ⟨fun pins s σ H Q I h => ?_⟩
  refine PySem.W.methodCall_KW (pl := pl) (thn (he.run pins s σ H _ I h) fun u s1 ⟨x, H1, I1, rx, a, dx, fs, ex, ea, l, q⟩ => ?_) ht
  subst ex
  obtain rfl : u = Value.ref a := rx
  refine getmeth_ok I1 ea c hm l ?_
  exact PySem.W.callWith_K0 (first := [.ref a]) I1.kIn hm.kp (run_fnS (us := [.ref a]) (vs := [.ref a]) F hr hb (hx σ) I1 (.cons rfl .nil) q)
theorem run_makeS {C f : Addr} {fd : FuncData} {pins : List (Addr × Obj)} {σ : L2.St} {H : Hp} {s : Shared} {Q : VK} {us : List Value} {vs : List V} (M : Mk X.K C f) (F : FnOk X.prog X.w X.K X.mg X.base (L2.CX X.prog X.w) k f fd ps sp) (hr : Room (k + 1) X.A) (hb : Binds X.K fd ps [])
    (hx : PassesAt (L2.CX X.prog X.w) X σ (E σ)) (I : Inv X pins σ H s) (r : Vals vs us)
    (h : ∀ x dx, H x = none → H dx = none → dx ≠ x → sp (.ref x :: vs) (upd (upd H dx (.own x)) x (.ins C dx [])) (fun v H2 => v = .non ∧ Q (.ref x) H2) (E σ)) :
    wpAny (model X.prog X.w) X.A (call (.ref C) us) (EP X pins σ Q) X.xe s := by
  have hq := h (s.heap.objs.size + 1) s.heap.objs.size (I.hok.fresh (Nat.le_succ _)) (I.hok.fresh (Nat.le_refl _)) (Nat.ne_of_lt (Nat.lt_succ_self _))
  have I2 := Inv.made (C := C) I
  have r2 : Vals (V.ref (s.heap.objs.size + 1) :: vs) (Value.ref (s.heap.objs.size + 1) :: us) := .cons rfl r
  have hl : (Value.ref (s.heap.objs.size + 1) :: us).length = ps.length := by
    have e := r2.length
    rw [F.len _ _ _ _ hq] at e
    exact e.symm
  have b := hb _ (Value.ref (s.heap.objs.size + 1) :: us) I2.kIn (by rw [List.append_nil]; exact hl)
  rw [List.append_nil] at b
  refine wpAny_call (make_map (f := f) I.kIn M.makes M.init (beq_iff_eq.mp M.fn) (codeAny_mono (F.run _ X.stack _ _ ⟨Value.ref (s.heap.objs.size + 1) :: us, []⟩ (Value.ref (s.heap.objs.size + 1) :: us) _ _ (E σ) (hr.make C us [])
    (I2.env0.make C us []) b r2 hq) fun r s' hq' => ?_))
  cases r with
  | error e => exact hx pins _ _ e s' I2 hq'
  | ok fl =>
    cases fl with
    | ret u =>
      obtain ⟨v, H', I3, rv, ev, q3⟩ := I2.after hq'
      subst ev
      exact ⟨rv, ⟨V.ref (s.heap.objs.size + 1), H', I3, rfl, q3⟩⟩
    | next => exact False.elim hq'
    | brk => exact False.elim hq'
    | cont => exact False.elim hq'
theorem px_make {C : Addr} (G : OkD X.prog X.w X.K X.mg X.base d k ps sp) (hr : Room (k + 1) X.A) (M : Mk X.K C (He.fAd X.K d.at_)) (hg : Gl X x) (hm : X.mg x = some (.ref C)) (hx : ∀ σ, PassesAt (L2.CX X.prog X.w) X σ (E σ)) (ha : PA X (e :: es) t)
    (hdb : (x == ("__debug__" : Str)) = false := by decide) (he : starEach (e :: es) X.env = (false, eval e X.env) :: starEach es X.env := by rfl) (hpl : (backTo pos (starEach es X.env)).any (·.1) = false := by rfl) :
    PE X (.Call (.Name x p) (e :: es) [] pos) (tMk C sp E t) := by
  obtain ⟨fd, ⟨hk, _⟩, ⟨hb, _⟩, F⟩ := G
  refine ⟨fun pins s σ H Q I h => ?_⟩
  refine wpAny_Call_Name_kw (ld_glob I hg hm ?_ hdb)
  refine PySem.W.callWith_K (h₀ := X.base) I.ok.mod.kin M.kp (thn (ha.run pos pins s σ H _ I h) fun us s1 ⟨vs, H1, I1, r, q⟩ => ⟨I1.kIn, ?_⟩) he hpl
  exact run_makeS M F hr hb (hx σ) I1 r q
theorem px_make0 {C : Addr} (G : OkD X.prog X.w X.K X.mg X.base d k ps sp) (hr : Room (k + 1) X.A) (M : Mk X.K C (He.fAd X.K d.at_)) (hg : Gl X x) (hm : X.mg x = some (.ref C)) (hx : ∀ σ, PassesAt (L2.CX X.prog X.w) X σ (E σ))
    (hdb : (x == ("__debug__" : Str)) = false := by decide) :
    PE X (.Call (.Name x p) [] [] pos) (tMk C sp E tNil) := by
  obtain ⟨fd, ⟨hk, _⟩, ⟨hb, _⟩, F⟩ := G
  refine ⟨fun pins s σ H Q I h => ?_⟩
  refine wpAny_Call_Name_kw (ld_glob I hg hm ?_ hdb)
  exact PySem.W.callWith_K0 I.kIn M.kp (run_makeS (us := []) M F hr hb (hx σ) I .nil h)
/-- an int, a text of the module; a def, a class -/
theorem px_int {i : Int} (hg : Gl X x) (hm : ∃ t, X.mg x = some (.int i t)) (hd : (x == ("__debug__" : Str)) = false := by decide) : PE X (.Name x pos) (tC (.int i)) := by
  obtain ⟨t, hm⟩ := hm
  exact pe_glob hg hm ⟨t, rfl⟩ hd
theorem px_str {z : Str} (hg : Gl X x) (hm : ∃ t, X.mg x = some (.str z t)) (hd : (x == ("__debug__" : Str)) = false := by decide) : PE X (.Name x pos) (tC (.str z)) := by
  obtain ⟨t, hm⟩ := hm
  exact pe_glob hg hm ⟨t, rfl⟩ hd
theorem px_ref {a : Addr} (hg : Gl X x) (hm : X.mg x = some (.ref a)) (hd : (x == ("__debug__" : Str)) = false := by decide) : PE X (.Name x pos) (tC (.ref a)) := pe_glob hg hm rfl hd
/-- raise C('..') -/
def tRz (W : WX) (C : Addr) : TS := fun _ σ H => W (.ref C) none σ H
theorem px_raise {C : Addr} {W : WX} {ms : Str} {j : Nat} {p2 pos' : Pos} (hc : X.calm = true) (tk : Takes X W) (hg : Gl X x) (gC : X.mg x = some (.ref C))
    (xC : PySem.W.excIn X.K C He.veBase "ValueError.__new__" = true ∧ PySem.W.keepIn X.K (.ref C) = true ∧ PySem.W.subIn X.K (.ref C) (.type "BaseException") = some true ∧ PySem.W.typeIn X.K (.ref C) = some (.type "type"))
    (hdb : (x == ("__debug__" : Str)) = false := by decide) :
    PS X (.Raise (some (.Call (.Name x p) [.Constant (.str ms) j p2] [] pos)) none pos') (tRz W C) :=
  ps_raise hc tk (pmk_own PySem.F.excBase_ValueError xC.1 gC xC.2.1 (raises_own xC.2.2.1 xC.2.2.2) hg hdb)
end
end TR

set_option Elab.async false
set_option linter.all false
set_option maxRecDepth 100000
set_option maxHeartbeats 4000000
/-! The readings step by step, over assertions side by side. -/
namespace TR
open PySem PySem.Spec PyProof.Rows L2

/-! ### what is wanted behind a part, by names (so that it stays whole) -/
def kTest (QT : Bool → Hp → Prop) : VK := fun x H => ∃ k, x = .bl k ∧ QT k H
def kNot (QT : Bool → Hp → Prop) : Bool → Hp → Prop := fun c H => QT (!c) H
def kAnd (u : TT) (σ : L2.St) (QT : Bool → Hp → Prop) : Bool → Hp → Prop := fun c H => if c = true then u σ H QT else QT false H
def kOr (u : TT) (σ : L2.St) (QT : Bool → Hp → Prop) : Bool → Hp → Prop := fun c H => if c = true then QT true H else u σ H QT
def kOp2 (r : R2) (x : V) (Q : VK) : VK := fun y H => r x y H Q
def kOp1 (r : R2) (tb : TE) (σ : L2.St) (Q : VK) : VK := fun x H => tb σ H (kOp2 r x Q)
def kUn (r : V → Hp → VK → Prop) (Q : VK) : VK := fun x H => r x H Q
def kCh3 (r' : R2) (tc : TE) (σ : L2.St) (y : V) (Q : VK) : VK := fun z H => ∃ k, z = .bl k ∧ (if k = true then tc σ H (kOp2 r' y Q) else Q (.bl false) H)
def kCh2 (r r' : R2) (tc : TE) (σ : L2.St) (x : V) (Q : VK) : VK := fun y H => r x y H (kCh3 r' tc σ y Q)
def kCh1 (r r' : R2) (tb tc : TE) (σ : L2.St) (Q : VK) : VK := fun x H => tb σ H (kCh2 r r' tc σ x Q)
def kAndV (tb : TE) (σ : L2.St) (Q : VK) : VK := fun x H => ∃ c, x = .bl c ∧ if c = true then tb σ H Q else Q (.bl false) H
def kOrV (tb : TE) (σ : L2.St) (Q : VK) : VK := fun x H => ∃ c, x = .bl c ∧ if c = true then Q (.bl true) H else tb σ H Q
def kNotV (Q : VK) : VK := fun x H => ∃ c, x = .bl c ∧ Q (.bl (!c)) H
def kIfE (ta tb : TE) (σ : L2.St) (Q : VK) : Bool → Hp → Prop := fun c H => if c = true then ta σ H Q else tb σ H Q
def kIfS (t u : TS) (D : Ends) (σ : L2.St) : Bool → Hp → Prop := fun c H => if c = true then t D σ H else u D σ H
def kTru (K : PySem.W.Frag) (QT : Bool → Hp → Prop) : VK := fun x H => ∃ k, TruV K x H k ∧ QT k H
def kC2 (x : V) (QA : List V → Hp → Prop) : List V → Hp → Prop := fun xs H => QA (x :: xs) H
def kC1 (tr : TA) (σ : L2.St) (QA : List V → Hp → Prop) : VK := fun x H => tr σ H (kC2 x QA)
def kCb (r : List V → Hp → VK → Prop) (Q : VK) : List V → Hp → Prop := fun vs H => r vs H Q
def kSp (sp : Sp) (E : XK) (Q : VK) : List V → Hp → Prop := fun vs H => sp vs H Q E
def kMt2 (sp : Sp) (E : XK) (x : V) (Q : VK) : List V → Hp → Prop := fun vs H => sp (x :: vs) H Q E
def kMt (C : Addr) (m : Str) (sp : Sp) (E : XK) (tr : TA) (σ : L2.St) (Q : VK) : VK := fun x H => ∃ a dx fs, x = .ref a ∧ H a = some (.ins C dx fs) ∧ fs.lookup m = none ∧ tr σ H (kMt2 sp E x Q)
def kMq (x : Addr) (Q : VK) : VK := fun v H => v = .non ∧ Q (.ref x) H
def kMk (C : Addr) (sp : Sp) (E : XK) (Q : VK) : List V → Hp → Prop := fun vs H => ∀ x dx, H x = none → H dx = none → dx ≠ x → sp (.ref x :: vs) (upd (upd H dx (.own x)) x (.ins C dx [])) (kMq x Q) E
def kLst (Q : VK) : List V → Hp → Prop := fun xs H => xs.length ≤ sizeLine ∧ ∀ p, H p = none → Q (.ref p) (upd H p (.lst xs))
def kTup (Q : VK) : List V → Hp → Prop := fun xs H => xs.length ≤ sizeLine ∧ ∀ p, H p = none → Q (.ref p) (upd H p (.tup xs))
def kFld (K : PySem.W.Frag) (f : Str) (Q : VK) : VK := fun x H => ∃ a C dx fs v, x = .ref a ∧ H a = some (.ins C dx fs) ∧ Cls K C ∧ NoAttr K C f ∧ fs.lookup f = some v ∧ Q v H
def kPut (K : PySem.W.Frag) (f : Str) (y : V) (D : Ends) (σ : L2.St) : VK := fun x H => ∃ a C dx fs, x = .ref a ∧ H a = some (.ins C dx fs) ∧ Cls K C ∧ NoAttr K C f ∧ fs.length < 1000 ∧ D.nx σ (upd H a (.ins C dx (putF f y fs)))
def kSf (K : PySem.W.Frag) (ta : TE) (f : Str) (D : Ends) (σ : L2.St) : VK := fun y H => ta σ H (kPut K f y D σ)
def kAsg (g : TG) (D : Ends) (σ : L2.St) : VK := fun x H => g x σ H D.nx
def kDrop (D : Ends) (σ : L2.St) : VK := fun _ H => D.nx σ H
def kBM (K : PySem.W.Frag) (T : String) (r : V → List V → Hp → VK → Prop) (tr : TA) (σ : L2.St) (Q : VK) : VK := fun x H => tyV K T x H ∧ tr σ H fun xs H2 => r x xs H2 Q
def kBM0 (K : PySem.W.Frag) (T : String) (r : V → List V → Hp → VK → Prop) (Q : VK) : VK := fun x H => tyV K T x H ∧ r x [] H Q
def kBq (r : V → List V → Hp → VK → Prop) (x : V) (Q : VK) : List V → Hp → Prop := fun xs H => r x xs H Q
def kSb2 (g : TSet) (o v : V) (QS : L2.St → Hp → Prop) (σ : L2.St) : VK := fun i H => g o i v H (QS σ)
def kSb1 (ti : TE) (g : TSet) (v : V) (QS : L2.St → Hp → Prop) (σ : L2.St) : VK := fun o H => ti σ H (kSb2 g o v QS σ)
def kG (tg : TGs) (xs : List V) (QS : L2.St → Hp → Prop) : L2.St → Hp → Prop := fun σ H => tg xs σ H QS
def kRev (K : PySem.W.Frag) (Q : VK) : VK := fun x H => ∃ a xs, x = .ref a ∧ SqL K H a xs ∧ ∀ p, H p = none → Q (.ref p) (upd H p (.lst xs.reverse))
def kSl3 (r : V → Option Int → Option Int → Hp → VK → Prop) (x : V) (lo : Option Int) (Q : VK) : Option Int → Hp → Prop := fun u H => r x lo u H Q
def kSl2 (r : V → Option Int → Option Int → Hp → VK → Prop) (th : TO) (σ : L2.St) (x : V) (Q : VK) : Option Int → Hp → Prop := fun l H => th σ H (kSl3 r x l Q)
def kSl1 (r : V → Option Int → Option Int → Hp → VK → Prop) (tl th : TO) (σ : L2.St) (Q : VK) : VK := fun x H => tl σ H (kSl2 r th σ x Q)
def kPart (QO : Option Int → Hp → Prop) : VK := fun x H => ∃ i, x = .int i ∧ QO (some i) H
/-- a value's truth, as a test -/
def tTru (K : PySem.W.Frag) (ta : TE) : TT := fun σ H QT => ta σ H (kTru K QT)
theorem px_truth {X : Cx} {a : Expr} {ta : TE} (ha : PE X a ta) (he : ∀ whole, isTrue a X.env whole = (do let v ← whole; standAt a.pos; holding [v] (truthy v))) : PT X a (tTru X.K ta) := pt_truth ha he

section
variable {K : PySem.W.Frag} {σ : L2.St} {H : Hp} {i : Nat} {v x y z : V} {ta tb tc te tv to ti : TE} {tA tB' : TT} {t u : TS} {D : Ends} {Q : VK} {p : Addr} {L R : List As} {QT : Bool → Hp → Prop} {QA : List V → Hp → Prop} {QS : L2.St → Hp → Prop}

/-! ### expressions -/
theorem x_var (h : σ[i]? = some (some v)) (q : Q v H) : tVar i σ H Q := ⟨v, h, q⟩
theorem x_c (q : Q v H) : tC v σ H Q := q
theorem x_op {r : R2} (q : ta σ H (kOp1 r tb σ Q)) : tOp r ta tb σ H Q := q
theorem y_op1 {r : R2} (q : tb σ H (kOp2 r x Q)) : kOp1 r tb σ Q x H := q
theorem y_op2 {r : R2} (q : r x y H Q) : kOp2 r x Q y H := q
theorem x_un {r : V → Hp → VK → Prop} (q : ta σ H (kUn r Q)) : tUn r ta σ H Q := q
theorem y_neg {i : Int} (q : Q (.int (-i)) H) : kUn (rU fun i => .int (-i)) Q (.int i) H := ⟨i, rfl, q⟩
theorem x_I0 {g : Int → Int → V} {i j : Int} (q : Q (g i j) H) : rI0 g (.int i) (.int j) H Q := ⟨i, j, rfl, rfl, q⟩
theorem x_I {C : Int → Int → Prop} {g : Int → Int → V} {i j : Int} (c : C i j) (q : Q (g i j) H) : rI C g (.int i) (.int j) H Q := ⟨i, j, rfl, rfl, c, q⟩
theorem x_if (q : tA σ H (kIfE ta tb σ Q)) : tIf tA ta tb σ H Q := q
theorem y_ifE {c : Bool} (q : if c = true then ta σ H Q else tb σ H Q) : kIfE ta tb σ Q c H := q
theorem x_nil (q : QA [] H) : tNil σ H QA := q
theorem x_cons {tr : TA} (q : ta σ H (kC1 tr σ QA)) : tCons ta tr σ H QA := q
theorem y_c1 {tr : TA} (q : tr σ H (kC2 x QA)) : kC1 tr σ QA x H := q
theorem y_c2 {xs : List V} (q : QA (x :: xs) H) : kC2 x QA xs H := q
theorem x_cb {r : List V → Hp → VK → Prop} {tr : TA} (q : tr σ H (kCb r Q)) : tCB r tr σ H Q := q
theorem y_cb {r : List V → Hp → VK → Prop} {vs : List V} (q : r vs H Q) : kCb r Q vs H := q

/-! ### tests -/
theorem x_test (q : te σ H (kTest QT)) : tTest te σ H QT := q
theorem x_tB (q : te σ H (kTest QT)) : tB te σ H QT := q
theorem y_test {b : Bool} (q : QT b H) : kTest QT (.bl b) H := ⟨b, rfl, q⟩
theorem x_not (q : tA σ H (kNot QT)) : tNot tA σ H QT := q
theorem y_not {c : Bool} (q : QT (!c) H) : kNot QT c H := q
theorem x_and (q : tA σ H (kAnd tB' σ QT)) : tAnd tA tB' σ H QT := q
theorem y_and {c : Bool} (q : if c = true then tB' σ H QT else QT false H) : kAnd tB' σ QT c H := q
theorem x_or (q : tA σ H (kOr tB' σ QT)) : tOr tA tB' σ H QT := q
theorem y_or {c : Bool} (q : if c = true then QT true H else tB' σ H QT) : kOr tB' σ QT c H := q
theorem x_chain {r r' : R2} (q : ta σ H (kCh1 r r' tb tc σ Q)) : tChain r r' ta tb tc σ H Q := q
theorem y_ch1 {r r' : R2} (q : tb σ H (kCh2 r r' tc σ x Q)) : kCh1 r r' tb tc σ Q x H := q
theorem y_ch2 {r r' : R2} (q : r x y H (kCh3 r' tc σ y Q)) : kCh2 r r' tc σ x Q y H := q
theorem y_ch3 {r' : R2} {k : Bool} (q : if k = true then tc σ H (kOp2 r' y Q) else Q (.bl false) H) : kCh3 r' tc σ y Q (.bl k) H := ⟨k, rfl, q⟩
theorem x_andV (q : ta σ H (kAndV tb σ Q)) : tAndV ta tb σ H Q := q
theorem y_andV {c : Bool} (q : if c = true then tb σ H Q else Q (.bl false) H) : kAndV tb σ Q (.bl c) H := ⟨c, rfl, q⟩
theorem x_orV (q : ta σ H (kOrV tb σ Q)) : tOrV ta tb σ H Q := q
theorem y_orV {c : Bool} (q : if c = true then Q (.bl true) H else tb σ H Q) : kOrV tb σ Q (.bl c) H := ⟨c, rfl, q⟩
theorem x_notV (q : ta σ H (kNotV Q)) : tNotV ta σ H Q := q
theorem y_notV {c : Bool} (q : Q (.bl (!c)) H) : kNotV Q (.bl c) H := ⟨c, rfl, q⟩
theorem x_tt {A B : Prop} (a : A) : if true = true then A else B := by
  rw [if_pos rfl]
  exact a
theorem x_ff {A B : Prop} (b : B) : if false = true then A else B := by
  rw [if_neg Bool.false_ne_true]
  exact b
theorem x_dec {φ : Prop} [d : Decidable φ] {A B : Prop} (a : φ → A) (b : ¬ φ → B) : if decide φ = true then A else B := by
  by_cases h : φ
  · rw [if_pos (decide_eq_true h)]
    exact a h
  · rw [if_neg (by rw [decide_eq_false h]; exact Bool.false_ne_true)]
    exact b h
theorem x_ndec {φ : Prop} [d : Decidable φ] {A B : Prop} (a : ¬ φ → A) (b : φ → B) : if (!decide φ) = true then A else B := by
  by_cases h : φ
  · rw [decide_eq_true h, if_neg (by decide)]
    exact b h
  · rw [decide_eq_false h, if_pos (by decide)]
    exact a h
theorem x_bool {c : Bool} {A B : Prop} (a : c = true → A) (b : c = false → B) : if c = true then A else B := by
  cases c with
  | true => exact x_tt (a rfl)
  | false => exact x_ff (b rfl)
theorem x_nbool {c : Bool} {A B : Prop} (a : c = false → A) (b : c = true → B) : if (!c) = true then A else B := by
  cases c with
  | true => exact x_ff (b rfl)
  | false => exact x_tt (a rfl)
theorem x_yes {c : Bool} {A B : Prop} (h : c = true) (a : A) : if c = true then A else B := by
  rw [if_pos h]
  exact a
theorem x_no {c : Bool} {A B : Prop} (h : c = false) (b : B) : if c = true then A else B := by
  rw [if_neg (by rw [h]; exact Bool.false_ne_true)]
  exact b
theorem x_nt {A B : Prop} (a : A) : if (!false) = true then A else B := x_tt a
theorem x_nf {A B : Prop} (b : B) : if (!true) = true then A else B := x_ff b
/-- a value's truth -/
theorem x_tru (q : ta σ H (kTru K QT)) : tTru K ta σ H QT := q
theorem y_trub {b : Bool} (q : QT b H) : kTru K QT (.bl b) H := ⟨b, rfl, q⟩
theorem y_trui {i : Int} (q : QT (i != 0) H) : kTru K QT (.int i) H := ⟨_, rfl, q⟩
theorem y_trun (q : QT false H) : kTru K QT .non H := ⟨_, rfl, q⟩
theorem y_trul {xs : List V} (h : SqL K H p xs) (q : QT (!xs.isEmpty) H) : kTru K QT (.ref p) H := ⟨_, .inl ⟨xs, h, rfl⟩, q⟩

/-! ### statements -/
theorem x_seq (q : t { D with nx := u D } σ H) : tSeq t u D σ H := q
theorem x_next (q : D.nx σ H) : tNext D σ H := q
theorem x_asg {g : TG} (q : te σ H (kAsg g D σ)) : tAsg te g D σ H := q
theorem y_asg {g : TG} (q : g x σ H D.nx) : kAsg g D σ x H := q
theorem x_name (q : QS (σ.set i (some v)) H) : gName i v σ H QS := q
theorem x_drop (q : te σ H (kDrop D σ)) : tDrop te D σ H := q
theorem y_drop (q : D.nx σ H) : kDrop D σ x H := q
theorem x_ret (q : te σ H D.rt) : tRet te D σ H := q
theorem x_retN (q : D.rt .non H) : tRetN D σ H := q
theorem x_ifS {c : TT} (q : c σ H (kIfS t u D σ)) : tIfS c t u D σ H := q
theorem y_ifS {c : Bool} (q : if c = true then t D σ H else u D σ H) : kIfS t u D σ c H := q
theorem x_cont (q : D.ct σ H) : tCont D σ H := q
theorem x_brk (q : D.bk σ H) : tBreak D σ H := q

/-! ### objects -/
class Fd (fs : List (Str × V)) (f : Str) (v : outParam V) : Prop where
  look : fs.lookup f = some v
  len : fs.length < 1000
class Fp (fs : List (Str × V)) (f : Str) (v : V) (fs' : outParam (List (Str × V))) : Prop where
  put : putF f v fs = fs'
  len : fs.length < 1000
class Fn (fs : List (Str × V)) (m : Str) : Prop where
  none : fs.lookup m = none
class FldI (K : PySem.W.Frag) (C : Addr) (f : Str) : Prop where
  cl : Cls K C
  na : NoAttr K C f
theorem x_fld {f : Str} (q : ta σ H (kFld K f Q)) : tFld K ta f σ H Q := q
theorem y_fld {f : Str} {C dx : Addr} {fs : List (Str × V)} (hS : Sep L H) [a : At p L (.ins C dx fs) R] [i : FldI K C f] [w : Fd fs f v] (q : Q v H) : kFld K f Q (.ref p) H :=
  ⟨p, C, dx, fs, v, rfl, hS.at_, i.cl, i.na, w.look, q⟩
theorem x_sfld {f : Str} (q : tv σ H (kSf K ta f D σ)) : sFld K ta tv f D σ H := q
theorem y_sf {f : Str} (q : ta σ H (kPut K f y D σ)) : kSf K ta f D σ y H := q
theorem y_put {f : Str} {C dx : Addr} {fs fs' : List (Str × V)} (hS : Sep L H) [a : At p L (.ins C dx fs) R] [i : FldI K C f] [w : Fp fs f y fs'] (q : ∀ H', Sep (pt p (.ins C dx fs') :: R) H' → D.nx σ H') : kPut K f y D σ (.ref p) H :=
  ⟨p, C, dx, fs, rfl, hS.at_, i.cl, i.na, w.len, by rw [w.put]; exact q _ (Sep.put (o := .ins C dx fs) (fun z => z) (a.en H hS))⟩
theorem x_meth {C : Addr} {m : Str} {sp : Sp} {E : L2.St → XK} {tr : TA} (q : ta σ H (kMt C m sp (E σ) tr σ Q)) : tMt C m sp E ta tr σ H Q := q
/-- at p an instance of the class at C, of these fields -/
class IsOb (A : As) (p : Addr) (C : outParam Addr) (nm : outParam (List Str)) : Prop where
  ob : ∀ h, A h → ∃ dx vs, h p = some (.ins C dx (nm.zip vs))
instance {p C dx : Addr} {nm : List Str} {vs : List V} : IsOb (pt p (.ins C dx (nm.zip vs))) p C nm := ⟨fun h a => ⟨dx, vs, a⟩⟩
class NotF (nm : List Str) (m : Str) : Prop where
  no : m ∉ nm
theorem look_none : ∀ {nm : List Str} {vs : List V} {f : Str}, f ∉ nm → (nm.zip vs).lookup f = none
  | [], _, _, _ => by simp [List.lookup]
  | _ :: _, [], _, _ => by simp [List.lookup]
  | g :: nm, x :: vs, f, h => by
    have ne : (f == g) = false := beq_eq_false_iff_ne.mpr fun e => h (by rw [e]; exact List.mem_cons_self)
    show List.lookup f ((g, x) :: nm.zip vs) = none
    rw [List.lookup_cons, ne]
    exact look_none fun z => h (List.mem_cons_of_mem _ z)
theorem y_meth {C : Addr} {m : Str} {nm : List Str} {A : As} {sp : Sp} {E : XK} {tr : TA} (hS : Sep L H) [a : AtA p L A R] [o : IsOb A p C nm] [w : NotF nm m] (q : tr σ H (kMt2 sp E (.ref p) Q)) : kMt C m sp E tr σ Q (.ref p) H := by
  obtain ⟨h1, h2, s1, s2, d, ha, r⟩ := a.en H hS
  obtain ⟨dx, vs, e⟩ := o.ob h1 ha
  exact ⟨p, dx, _, rfl, s1 _ _ e, look_none w.no, q⟩
theorem y_mt2 {sp : Sp} {E : XK} {vs : List V} (q : sp (x :: vs) H Q E) : kMt2 sp E x Q vs H := q
theorem x_callS {sp : Sp} {E : L2.St → XK} {tr : TA} (q : tr σ H (kSp sp (E σ) Q)) : tCallS sp E tr σ H Q := q
theorem y_sp {sp : Sp} {E : XK} {vs : List V} (q : sp vs H Q E) : kSp sp E Q vs H := q
theorem x_make {C : Addr} {sp : Sp} {E : L2.St → XK} {tr : TA} (q : tr σ H (kMk C sp (E σ) Q)) : tMk C sp E tr σ H Q := q
theorem y_mk {C : Addr} {sp : Sp} {E : XK} {vs : List V} (hS : Sep L H) (q : ∀ x dx H', Sep (pt x (.ins C dx []) :: L) H' → sp (.ref x :: vs) H' (kMq x Q) E) : kMk C sp E Q vs H := fun x dx nx nd ne =>
  q x dx _ (Sep.new (by rw [upd_ne (Ne.symm ne)]; exact nx) (Sep.newd nd hS))
theorem y_mq (q : Q (.ref p) H) : kMq p Q .non H := ⟨rfl, q⟩
theorem x_rz {W : WX} {C : Addr} (q : W (.ref C) none σ H) : tRz W C D σ H := q

/-! ### lists, tuples -/
theorem x_lst {tr : TA} (q : tr σ H (kLst Q)) : tLst tr σ H Q := q
theorem y_lst {xs : List V} (hS : Sep L H) (h : xs.length ≤ sizeLine) (q : ∀ p H', Sep (pt p (.lst xs) :: L) H' → Q (.ref p) H') : kLst Q xs H := ⟨h, fun p hp => q p _ (Sep.new hp hS)⟩
theorem x_tup {tr : TA} (q : tr σ H (kTup Q)) : tTup tr σ H Q := q
theorem y_tup {xs : List V} (hS : Sep L H) (h : xs.length ≤ sizeLine) (q : ∀ p H', Sep (pt p (.tup xs) :: L) H' → Q (.ref p) H') : kTup Q xs H := ⟨h, fun p hp => q p _ (Sep.new hp hS)⟩
/-- a list that may be read: tracked, known, or of the module -/
theorem sqL {xs : List V} (hS : Sep L H) [a : At p L (.lst xs) R] : SqL K H p xs := .of hS.at_
theorem sqT {xs : List V} (hS : Sep L H) [a : At p L (.tup xs) R] : SqT K H p xs := .of hS.at_
/-- the list at p is to be read -/
def Li (K : PySem.W.Frag) (p : Addr) (xs : List V) : As := fun h => SqL K h p xs
theorem Rd.sb {H H' : Hp} {a : Addr} {u : HO} (s : Sb H H') (r : Rd H a u) : Rd H' a u := by
  rcases r with r | ⟨o, r⟩
  · exact .inl (s _ _ r)
  · exact .inr ⟨o, s _ _ r⟩
theorem SqL.sb {H H' : Hp} {a : Addr} {xs : List V} (s : Sb H H') (r : SqL K H a xs) : SqL K H' a xs := by
  rcases r with r | r
  · exact .inl (Rd.sb s r)
  · exact .inr r
theorem SqT.sb {H H' : Hp} {a : Addr} {xs : List V} (s : Sb H H') (r : SqT K H a xs) : SqT K H' a xs := by
  rcases r with r | r
  · exact .inl (Rd.sb s r)
  · exact .inr r
theorem Sep.li {xs : List V} (h : Sep (Li K p xs :: R) H) : SqL K H p xs := by
  obtain ⟨h1, h2, s1, s2, d, a, r⟩ := h
  exact SqL.sb s1 a
theorem Sep.liOf {xs : List V} (h : Sep L H) [a : Pk (Li K p xs) L R] : SqL K H p xs := (h.to (A := Li K p xs)).li
/-- xs[i] -/
theorem x_ixL {xs : List V} {i : Int} (h : SqL K H p xs) (e : atI xs i = some v) (q : Q v H) : rIx K (.ref p) (.int i) H Q := .inl ⟨p, xs, i, v, rfl, rfl, h, e, q⟩
theorem x_ixT {xs : List V} {i : Int} (h : SqT K H p xs) (e : atI xs i = some v) (q : Q v H) : rIx K (.ref p) (.int i) H Q := .inr (.inl ⟨p, xs, i, v, rfl, rfl, h, e, q⟩)
theorem atI_some {α : Type} {xs : List α} {i : Int} {v : α} (h0 : 0 ≤ i) (h : xs[i.toNat]? = some v) : atI xs i = some v := by
  have e : i = ((i.toNat : Nat) : Int) := by omega
  rw [e]
  exact atI_nat h
theorem ixN_some {n : Nat} {i : Int} (h0 : 0 ≤ i) (h1 : i < n) : ixN n i = some i.toNat := by
  unfold ixN
  rw [if_pos h0, if_pos h1]
/-- xs[i] = v -/
theorem x_sub {g : TSet} (q : to σ H (kSb1 ti g v QS σ)) : gSub to ti g v σ H QS := q
theorem y_sb1 {g : TSet} {o : V} (q : ti σ H (kSb2 g o v QS σ)) : kSb1 ti g v QS σ o H := q
theorem y_setL {xs : List V} {i : Int} {j : Nat} (hS : Sep L H) [a : At p L (.lst xs) R] (e : ixN xs.length i = some j) (q : ∀ H', Sep (pt p (.lst (xs.set j v)) :: R) H' → QS σ H') : kSb2 rSetL (.ref p) v QS σ (.int i) H :=
  ⟨p, xs, i, j, rfl, rfl, hS.at_, e, q _ (Sep.put (o := .lst xs) (fun z => z) (a.en H hS))⟩
/-- a built-in's method -/
theorem x_bm {T : String} {r : V → List V → Hp → VK → Prop} {tr : TA} (q : to σ H (kBM K T r tr σ Q)) : tBM K T r to tr σ H Q := q
theorem y_bm {T : String} {r : V → List V → Hp → VK → Prop} {tr : TA} (h : tyV K T x H) (q : tr σ H (kBq r x Q)) : kBM K T r tr σ Q x H := ⟨h, q⟩
theorem y_bml {xs : List V} {r : V → List V → Hp → VK → Prop} {tr : TA} (h : SqL K H p xs) (q : tr σ H (kBq r (.ref p) Q)) : kBM K "list" r tr σ Q (.ref p) H := ⟨.inl ⟨rfl, _, h⟩, q⟩
theorem y_bq {r : V → List V → Hp → VK → Prop} {xs : List V} (q : r x xs H Q) : kBq r x Q xs H := q
theorem x_bm0 {T : String} {r : V → List V → Hp → VK → Prop} (q : to σ H (kBM0 K T r Q)) : tBM0 K T r to σ H Q := q
theorem y_bml0 {xs : List V} {r : V → List V → Hp → VK → Prop} (h : SqL K H p xs) (q : r (.ref p) [] H Q) : kBM0 K "list" r Q (.ref p) H := ⟨.inl ⟨rfl, _, h⟩, q⟩
theorem x_append {xs : List V} (hS : Sep L H) [a : At p L (.lst xs) R] (e : xs.length < sizeLine) (q : ∀ H', Sep (pt p (.lst (xs ++ [v])) :: R) H' → Q .non H') : rAppend (.ref p) [v] H Q :=
  ⟨p, xs, v, rfl, rfl, hS.at_, e, q _ (Sep.put (o := .lst xs) (fun z => z) (a.en H hS))⟩
/-- list(xs) -/
def rListOf (K : PySem.W.Frag) : List V → Hp → VK → Prop := fun xs H Q => ∃ p ys, xs = [.ref p] ∧ (SqL K H p ys ∨ SqT K H p ys) ∧ ∀ l, H l = none → Q (.ref l) (upd H l (.lst ys))
theorem call_listOf {X : Cx} : CallR X (.type "list") (rListOf X.K) := call_list_of
theorem x_listOf {xs : List V} (hS : Sep L H) (h : SqL K H p xs) (q : ∀ l H', Sep (pt l (.lst xs) :: L) H' → Q (.ref l) H') : rListOf K [.ref p] H Q := ⟨p, xs, rfl, .inl h, fun l hl => q l _ (Sep.new hl hS)⟩
/-- len -/
def rLen (K : PySem.W.Frag) : List V → Hp → VK → Prop := fun xs H Q => ∃ x n, xs = [x] ∧ LenV K x H n ∧ Q (.int (n : Nat)) H
theorem call_lenA {X : Cx} : CallR X (.builtin "len") (rLen X.K) := call_len
theorem x_lenL {xs : List V} (h : SqL K H p xs) (q : Q (.int (xs.length : Nat)) H) : rLen K [.ref p] H Q := ⟨_, _, rfl, .inl ⟨xs, h, rfl⟩, q⟩
/-- ==, != : scalars, or data -/
def rEqA (K : PySem.W.Frag) : R2 := fun x y H Q => rEq x y H Q ∨ rEqD K x y H Q
def rNeA (K : PySem.W.Frag) : R2 := fun x y H Q => rNe x y H Q ∨ rNeD K x y H Q
theorem op_eqA {X : Cx} (hu : X.A.units + 64 < cLine) : OpR X (compareOp .Eq) (rEqA X.K) := op_eq.or (op_eqD hu)
theorem op_neA {X : Cx} (hu : X.A.units + 64 < cLine) : OpR X (compareOp .NotEq) (rNeA X.K) := op_ne.or (op_neD hu)
theorem dec_V {i j : Int} : decide (V.int i = V.int j) = decide (i = j) := by simp
theorem x_eqI {i j : Int} (q : Q (.bl (decide (i = j))) H) : rEqA K (.int i) (.int j) H Q := .inl ⟨rfl, by rw [dec_V]; exact q⟩
theorem x_neI {i j : Int} (q : Q (.bl (!decide (i = j))) H) : rNeA K (.int i) (.int j) H Q := .inl ⟨rfl, by rw [dec_V]; exact q⟩
theorem x_eqS (h : scal x y = true) (q : Q (.bl (decide (x = y))) H) : rEqA K x y H Q := .inl ⟨h, q⟩
theorem x_neS (h : scal x y = true) (q : Q (.bl (!decide (x = y))) H) : rNeA K x y H Q := .inl ⟨h, q⟩
theorem x_eqD {d e : PyData} (hd : Dp K H x d) (he : Dp K H y e) (sd : SeqAt.shaped d = true) (se : SeqAt.shaped e = true) (q : Q (.bl (PyData.eqv d e)) H) : rEqA K x y H Q := .inr ⟨d, e, hd, he, sd, se, q⟩
theorem x_neD {d e : PyData} (hd : Dp K H x d) (he : Dp K H y e) (sd : SeqAt.shaped d = true) (se : SeqAt.shaped e = true) (q : Q (.bl (!PyData.eqv d e)) H) : rNeA K x y H Q := .inr ⟨d, e, hd, he, sd, se, q⟩
/-- is None -/
def rIsN : R2 := fun x y H Q => y = .non ∧ Q (.bl (decide (x = .non))) H
def rNotN : R2 := fun x y H Q => y = .non ∧ Q (.bl (!decide (x = .non))) H
theorem op_isN1 {X : Cx} : OpR X (compareOp .Is) rIsN := op_isN
theorem op_notN1 {X : Cx} : OpR X (compareOp .IsNot) rNotN := op_notN
theorem x_isN (q : Q (.bl (decide (x = .non))) H) : rIsN x .non H Q := ⟨rfl, q⟩
theorem x_notN (q : Q (.bl (!decide (x = .non))) H) : rNotN x .non H Q := ⟨rfl, q⟩
/-- several targets -/
theorem x_gtup {n : Nat} {tg : TGs} {xs : List V} (h : SqT K H p xs) (e : xs.length = n) (q : tg xs σ H QS) : gTup K n tg (.ref p) σ H QS := ⟨p, xs, rfl, h, e, q⟩
theorem x_gcons {g : TG} {tg : TGs} {xs : List V} (q : g x σ H (kG tg xs QS)) : gCons g tg (x :: xs) σ H QS := ⟨x, xs, rfl, q⟩
theorem y_g {tg : TGs} {xs : List V} (q : tg xs σ H QS) : kG tg xs QS σ H := q
theorem x_gnil (q : QS σ H) : gNil [] σ H QS := ⟨rfl, q⟩
/-- xs[::-1], slices -/
theorem x_rev (q : te σ H (kRev K Q)) : tRevL K te σ H Q := q
theorem y_rev {xs : List V} (hS : Sep L H) (h : SqL K H p xs) (q : ∀ l H', Sep (pt l (.lst xs.reverse) :: L) H' → Q (.ref l) H') : kRev K Q (.ref p) H := ⟨p, xs, rfl, h, fun l hl => q l _ (Sep.new hl hS)⟩
theorem x_sl {r : V → Option Int → Option Int → Hp → VK → Prop} {tl th : TO} (q : te σ H (kSl1 r tl th σ Q)) : tSl r te tl th σ H Q := q
theorem y_sl1 {r : V → Option Int → Option Int → Hp → VK → Prop} {tl th : TO} (q : tl σ H (kSl2 r th σ x Q)) : kSl1 r tl th σ Q x H := q
theorem y_sl2 {r : V → Option Int → Option Int → Hp → VK → Prop} {th : TO} {l : Option Int} (q : th σ H (kSl3 r x l Q)) : kSl2 r th σ x Q l H := q
theorem y_sl3 {r : V → Option Int → Option Int → Hp → VK → Prop} {l u : Option Int} (q : r x l u H Q) : kSl3 r x l Q u H := q
theorem x_nop {QO : Option Int → Hp → Prop} (q : QO none H) : tNoPart σ H QO := q
theorem x_part {QO : Option Int → Hp → Prop} (q : te σ H (kPart QO)) : tPart te σ H QO := q
theorem y_part {QO : Option Int → Hp → Prop} {i : Int} (q : QO (some i) H) : kPart QO (.int i) H := ⟨i, rfl, q⟩
theorem x_slL {xs : List V} {lo hi : Option Int} (hS : Sep L H) (h : SqL K H p xs) (q : ∀ l H', Sep (pt l (.lst (cutV xs lo hi)) :: L) H' → Q (.ref l) H') : rSlL K (.ref p) lo hi H Q := ⟨p, xs, rfl, h, fun l hl => q l _ (Sep.new hl hS)⟩

/-! ### loops -/
/-- for k in range(n): P i, the state behind i turns -/
def kRg1 (g : TG) (t : TS) (D : Ends) (σ : L2.St) : List V → Hp → Prop := fun vs H => ∃ j : Int, vs = [.int j] ∧ -(2 ^ 62) ≤ j ∧ j < 2 ^ 62 ∧ ∃ W : Nat → Nat → L2.St → Hp → Prop, (∃ m, W 0 m σ H) ∧ ∀ i m σ H, W i m σ H →
  ((Itr 0 j.toNat).stop i H ∧ D.nx σ H) ∨ ((Itr 0 j.toNat).go i H ∧ ∃ N : L2.St → Hp → Prop, (∀ σ' H', N σ' H' → ∃ m', m' < m ∧ W (i + 1) m' σ' H') ∧ ∀ x H', (Itr 0 j.toNat).yld i H x H' → g x σ H' fun σ2 H2 => t { D with nx := N, ct := N, bk := D.nx } σ2 H2)
theorem x_for1 {ta : TA} {g : TG} (q : ta σ H (kRg1 g t D σ)) : tFor (iRng1 ta) g t D σ H := q
def kBody (t : TS) (D : Ends) (N : L2.St → Hp → Prop) : L2.St → Hp → Prop := fun σ H => t { D with nx := N, ct := N, bk := D.nx } σ H
theorem y_for1 {n : Nat} {g : TG} (P : Nat → L2.St → Hp → Prop) (hn : n ≤ 1000000) (h0 : P 0 σ H) (hs : ∀ i σ H, i < n → P i σ H → g (.int (i : Nat)) σ H (kBody t D (P (i + 1)))) (hd : ∀ σ H, P n σ H → D.nx σ H) : kRg1 g t D σ [.int (n : Nat)] H :=
  ⟨n, rfl, by omega, by omega, by
    rw [Int.toNat_natCast]
    exact for_range (lo := 0) P h0 (fun i σ H hi p => by rw [Int.zero_add]; exact hs i σ H hi p) hd⟩
theorem y_body {N : L2.St → Hp → Prop} (q : t { D with nx := N, ct := N, bk := D.nx } σ H) : kBody t D N σ H := q
/-- for x in a list -/
def kFl (K : PySem.W.Frag) (g : TG) (t : TS) (D : Ends) (σ : L2.St) : VK := fun x H => ∃ a, x = .ref a ∧ (∃ xs, SqL K H a xs) ∧ ∃ W : Nat → Nat → L2.St → Hp → Prop, (∃ m, W 0 m σ H) ∧ ∀ i m σ H, W i m σ H →
  ((Itl K a).stop i H ∧ D.nx σ H) ∨ ((Itl K a).go i H ∧ ∃ N : L2.St → Hp → Prop, (∀ σ' H', N σ' H' → ∃ m', m' < m ∧ W (i + 1) m' σ' H') ∧ ∀ x H', (Itl K a).yld i H x H' → g x σ H' fun σ2 H2 => t { D with nx := N, ct := N, bk := D.nx } σ2 H2)
theorem x_forL {g : TG} (q : te σ H (kFl K g t D σ)) : tFor (iList K te) g t D σ H := q
theorem y_forL {xs : List V} {g : TG} (P : Nat → L2.St → Hp → Prop) (hx : SqL K H p xs) (h0 : P 0 σ H) (hl : ∀ i σ H, i ≤ xs.length → P i σ H → SqL K H p xs) (hs : ∀ i x σ H, xs[i]? = some x → P i σ H → g x σ H (kBody t D (P (i + 1)))) (hd : ∀ σ H, P xs.length σ H → D.nx σ H) :
    kFl K g t D σ (.ref p) H := ⟨p, rfl, ⟨xs, hx⟩, for_list P h0 hl hs hd⟩
/-- for x in a tuple -/
def kFt (K : PySem.W.Frag) (g : TG) (t : TS) (D : Ends) (σ : L2.St) : VK := fun x H => ∃ a, x = .ref a ∧ (∃ xs, SqT K H a xs) ∧ ∃ W : Nat → Nat → L2.St → Hp → Prop, (∃ m, W 0 m σ H) ∧ ∀ i m σ H, W i m σ H →
  ((Itt K a).stop i H ∧ D.nx σ H) ∨ ((Itt K a).go i H ∧ ∃ N : L2.St → Hp → Prop, (∀ σ' H', N σ' H' → ∃ m', m' < m ∧ W (i + 1) m' σ' H') ∧ ∀ x H', (Itt K a).yld i H x H' → g x σ H' fun σ2 H2 => t { D with nx := N, ct := N, bk := D.nx } σ2 H2)
theorem x_forT {g : TG} (q : te σ H (kFt K g t D σ)) : tFor (iTup K te) g t D σ H := q
theorem y_forT {xs : List V} {g : TG} (P : Nat → L2.St → Hp → Prop) (hx : SqT K H p xs) (h0 : P 0 σ H) (hl : ∀ i σ H, i ≤ xs.length → P i σ H → SqT K H p xs) (hs : ∀ i x σ H, xs[i]? = some x → P i σ H → g x σ H (kBody t D (P (i + 1)))) (hd : ∀ σ H, P xs.length σ H → D.nx σ H) :
    kFt K g t D σ (.ref p) H := ⟨p, rfl, ⟨xs, hx⟩, for_tup P h0 hl hs hd⟩
/-- for k in range(a, b, -1) -/
def kRg3 (g : TG) (t : TS) (D : Ends) (σ : L2.St) : List V → Hp → Prop := fun vs H => ∃ (i j c : Int) (n : Nat), vs = [.int i, .int j, .int c] ∧ RgC i j c n ∧ ∃ W : Nat → Nat → L2.St → Hp → Prop, (∃ m, W 0 m σ H) ∧ ∀ i' m σ H, W i' m σ H →
  ((Itc i c n).stop i' H ∧ D.nx σ H) ∨ ((Itc i c n).go i' H ∧ ∃ N : L2.St → Hp → Prop, (∀ σ' H', N σ' H' → ∃ m', m' < m ∧ W (i' + 1) m' σ' H') ∧ ∀ x H', (Itc i c n).yld i' H x H' → g x σ H' fun σ2 H2 => t { D with nx := N, ct := N, bk := D.nx } σ2 H2)
theorem x_for3 {ta : TA} {g : TG} (q : ta σ H (kRg3 g t D σ)) : tFor (iRng3 ta) g t D σ H := q
theorem y_for3 {a b : Int} {g : TG} (P : Nat → L2.St → Hp → Prop) (ha : -1000000 ≤ a ∧ a ≤ 1000000) (hb : -1000000 ≤ b ∧ b ≤ 1000000) (h0 : P 0 σ H)
    (hs : ∀ i σ H, i < (a - b).toNat → P i σ H → g (.int (a - (i : Nat))) σ H (kBody t D (P (i + 1)))) (hd : ∀ σ H, P (a - b).toNat σ H → D.nx σ H) : kRg3 g t D σ [.int a, .int b, .int (-1)] H :=
  ⟨a, b, -1, _, rfl, RgC.neg (by omega) (by omega) (by omega) (by omega), for_rangeC P h0 (fun i σ H hi p => by
    have e : a + ((i : Nat) : Int) * (-1) = a - (i : Nat) := by omega
    rw [e]
    exact hs i σ H hi p) hd⟩
end
end TR

set_option Elab.async false
set_option linter.all false
set_option maxRecDepth 100000
set_option maxHeartbeats 4000000
/-! More rules (sums of any kind, list.count of truths), fields by places, data compared. -/
namespace TR
open PySem PySem.Spec PyProof.Rows L2

/-! ### fields by places -/
section
variable {nm : List Str} {vs : List V} {i : Nat} {f : Str} {v : V}
theorem look_zip : ∀ {nm : List Str} {vs : List V} {i : Nat} {f : Str} {v : V}, nm.Nodup → nm[i]? = some f → vs[i]? = some v → (nm.zip vs).lookup f = some v
  | [], _, _, _, _, _, h, _ => by simp at h
  | _ :: _, [], _, _, _, _, _, h => by simp at h
  | g :: nm, x :: vs, 0, f, v, nd, h1, h2 => by
    have e1 : g = f := Option.some.inj h1
    have e2 : x = v := Option.some.inj h2
    subst e1 e2
    show List.lookup g ((g, x) :: nm.zip vs) = some x
    rw [List.lookup_cons, beq_self_eq_true]
  | g :: nm, x :: vs, i + 1, f, v, nd, h1, h2 => by
    have ne : (f == g) = false := beq_eq_false_iff_ne.mpr fun e => (List.nodup_cons.mp nd).1 (by
      rw [← e]
      exact List.mem_of_getElem? (show nm[i]? = some f from by simpa using h1))
    show List.lookup f ((g, x) :: nm.zip vs) = some v
    rw [List.lookup_cons, ne]
    exact look_zip (i := i) (List.nodup_cons.mp nd).2 (by simpa using h1) (by simpa using h2)
theorem put_zip : ∀ {nm : List Str} {vs : List V} {i : Nat} {f : Str} {v : V}, nm.Nodup → nm[i]? = some f → i < vs.length → putF f v (nm.zip vs) = nm.zip (vs.set i v)
  | [], _, _, _, _, _, h, _ => by simp at h
  | _ :: _, [], _, _, _, _, _, h => by simp at h
  | g :: nm, x :: vs, 0, f, v, nd, h1, h2 => by
    have e1 : g = f := Option.some.inj h1
    subst e1
    show (if g = g then (g, v) :: nm.zip vs else _) = _
    rw [if_pos rfl] <;> rfl
  | g :: nm, x :: vs, i + 1, f, v, nd, h1, h2 => by
    have ne : ¬ g = f := fun e => (List.nodup_cons.mp nd).1 (by
      rw [e]
      exact List.mem_of_getElem? (show nm[i]? = some f from by simpa using h1))
    show (if g = f then (g, v) :: nm.zip vs else (g, x) :: putF f v (nm.zip vs)) = _
    rw [if_neg ne, put_zip (i := i) (List.nodup_cons.mp nd).2 (by simpa using h1) (by simpa using h2)] <;> rfl
theorem put_zip_new : ∀ {nm : List Str} {vs : List V} {f : Str} {v : V}, nm.Nodup → nm[vs.length]? = some f → putF f v (nm.zip vs) = nm.zip (vs ++ [v])
  | [], _, _, _, _, h => by simp at h
  | g :: nm, [], f, v, nd, h1 => by
    have e1 : g = f := Option.some.inj h1
    subst e1
    show [(g, v)] = _
    rw [List.nil_append, List.zip_cons_cons, List.zip_nil_right]
  | g :: nm, x :: vs, f, v, nd, h1 => by
    have h1' : nm[vs.length]? = some f := by simpa using h1
    have ne : ¬ g = f := fun e => (List.nodup_cons.mp nd).1 (by
      rw [e]
      exact List.mem_of_getElem? h1')
    show (if g = f then (g, v) :: nm.zip vs else (g, x) :: putF f v (nm.zip vs)) = _
    rw [if_neg ne, put_zip_new (List.nodup_cons.mp nd).2 h1'] <;> rfl
theorem len_zip (h : nm.length < 1000) : (nm.zip vs).length < 1000 := by
  rw [List.length_zip]
  omega
end

theorem getD_some {α : Type} {xs : List α} {i : Nat} {d : α} (h : i < xs.length) : xs[i]? = some (xs.getD i d) := by
  rw [List.getD_eq_getElem?_getD, List.getElem?_eq_getElem h] <;> rfl
/-! ### sums, products of any kind -/
section
variable {X : Cx} {K : PySem.W.Frag} {σ : L2.St} {H : Hp} {v x y : V} {Q : VK} {p q : Addr} {L R R' : List As}
def rAddS : R2 := fun x y H Q => ∃ i j, x = .str i ∧ y = .str j ∧ i.length + j.length ≤ sizeLine ∧ Q (.str (i ++ j)) H
theorem op_addS : OpR X (binaryOp .Add) rAddS := by
  intro pins s σ H x y v u Q I rx ry ⟨i, j, e1, e2, h, q⟩
  exact op_add_str pins s σ H x y v u Q I rx ry ⟨i, j, e1, e2, h, q⟩
def rAddA (K : PySem.W.Frag) : R2 := fun x y H Q => rI0 (fun i j => .int (i + j)) x y H Q ∨ (rCat x y H Q ∨ (rAddS x y H Q ∨ rCatT K x y H Q))
theorem op_addA : OpR X (binaryOp .Add) (rAddA X.K) := op_add.or (op_cat.or (op_addS.or op_catT))
theorem x_addI {i j : Int} (q : Q (.int (i + j)) H) : rAddA K (.int i) (.int j) H Q := .inl ⟨i, j, rfl, rfl, q⟩
theorem x_addS {i j : Str} (h : i.length + j.length ≤ sizeLine) (q : Q (.str (i ++ j)) H) : rAddA K (.str i) (.str j) H Q := .inr (.inr (.inl ⟨i, j, rfl, rfl, h, q⟩))
theorem x_cat {xs ys : List V} (hS : Sep L H) [a : At p L (.lst xs) R] [b : At q L (.lst ys) R'] (h : xs.length + ys.length ≤ sizeLine) (k : ∀ l H', Sep (pt l (.lst (xs ++ ys)) :: L) H' → Q (.ref l) H') : rAddA K (.ref p) (.ref q) H Q :=
  .inr (.inl ⟨p, q, xs, ys, rfl, rfl, hS.at_, Sep.at_ (q := b) hS, h, fun l hl => k l _ (Sep.new hl hS)⟩)
def rMulA : R2 := fun x y H Q => rI CMul (fun i j => .int (i * j)) x y H Q ∨ rRep x y H Q
theorem op_mulA : OpR X (binaryOp .Mult) rMulA := op_mul.or op_rep
theorem x_mulI {i j : Int} (c : CMul i j) (q : Q (.int (i * j)) H) : rMulA (.int i) (.int j) H Q := .inl ⟨i, j, rfl, rfl, c, q⟩
theorem x_mulL {xs : List V} {n : Nat} (hS : Sep L H) [a : At p L (.lst xs) R] (h0 : n ≤ 1000000) (h : xs.length * n ≤ sizeLine) (k : ∀ l H', Sep (pt l (.lst (List.replicate n xs).flatten) :: L) H' → Q (.ref l) H') : rMulA (.ref p) (.int (n : Nat)) H Q :=
  .inr ⟨p, (n : Nat), xs, rfl, rfl, hS.at_, by omega, by omega, by rw [Int.toNat_natCast]; exact h, fun l hl => by rw [Int.toNat_natCast]; exact k l _ (Sep.new hl hS)⟩
/-- a slice of a list, of a tuple -/
theorem sl_listA : SlR X (rSlL X.K) := sl_list
def kLr (Q : VK) : VK := fun x H => ∃ n, x = .int n ∧ (RgOk 0 n ∧ ∀ l, H l = none → Q (.ref l) (upd H l (.lst (rgV 0 n))))
theorem x_lrange1 {ta : TE} (q : ta σ H (kLr Q)) : tLstRg (tRg1 ta) σ H Q := q
theorem y_lrange1 {n : Int} (hS : Sep L H) (h0 : 0 ≤ n) (h1 : n ≤ 1000000) (q : ∀ l H', Sep (pt l (.lst (rgV 0 n)) :: L) H' → Q (.ref l) H') : kLr Q (.int n) H := ⟨n, rfl, .of_le (by omega) (by omega) (by omega) (by omega), fun l hl => q l _ (Sep.new hl hS)⟩
def kLr2b (i : V) (Q : VK) : VK := fun y H => ∃ a b, i = .int a ∧ y = .int b ∧ (RgOk a b ∧ ∀ l, H l = none → Q (.ref l) (upd H l (.lst (rgV a b))))
def kLr2 (tb : TE) (σ : L2.St) (Q : VK) : VK := fun x H => tb σ H (kLr2b x Q)
theorem x_lrange2 {ta tb : TE} (q : ta σ H (kLr2 tb σ Q)) : tLstRg (tRg2 ta tb) σ H Q := q
theorem y_lr2 {tb : TE} (q : tb σ H (kLr2b x Q)) : kLr2 tb σ Q x H := q
theorem y_lrange2 {a b : Int} (hS : Sep L H) (h : RgOk a b) (q : ∀ l H', Sep (pt l (.lst (rgV a b)) :: L) H' → Q (.ref l) H') : kLr2b (.int a) Q (.int b) H := ⟨a, b, rfl, rfl, h, fun l hl => q l _ (Sep.new hl hS)⟩
/-- how many truths -/
def eqb (k : Bool) (v : Value) : Bool := match v with
  | .bool b => b == k
  | _ => false
theorem vals_bl : ∀ {bs : List Bool} {us : List Value}, Vals (bs.map V.bl) us → (∀ y ∈ us, ∃ b, y = Value.bool b) ∧ ∀ k, us.countP (eqb k) = bs.count k
  | [], _, .nil => ⟨fun y hy => (by cases hy), fun k => rfl⟩
  | b :: bs, _, .cons r t => by
    obtain ⟨h1, h2⟩ := vals_bl (bs := bs) t
    cases r
    refine ⟨fun y hy => ?_, fun k => ?_⟩
    · rcases List.mem_cons.mp hy with e | e
      · exact ⟨b, e⟩
      · exact h1 y e
    · rw [List.countP_cons, List.count_cons, h2] <;> rfl
def rCntB (K : PySem.W.Frag) : V → List V → Hp → VK → Prop := fun x xs H Q => ∃ (p : Addr) (bs : List Bool) (k : Bool), x = .ref p ∧ xs = [.bl k] ∧ SqL K H p (bs.map V.bl) ∧ Q (.int (bs.count k : Nat)) H
theorem mt_countB : MtR X "list.count" (rCntB X.K) := by
  intro pins s σ H x xs v us Q I rx rxs h
  obtain ⟨p, bs, k, rfl, rfl, hs, q⟩ := h
  cases rx
  obtain ⟨u, rfl, ru⟩ := rxs.one
  cases ru
  obtain ⟨its, rv, ⟨⟨cls, dd, data, sl⟩, n, ho, hc, hdn, hd⟩, hlen⟩ := I.list hs
  simp only at hc hd
  subst hc hd
  obtain ⟨h1, h2⟩ := vals_bl rv
  refine call_meets PySem.F.slot_list_count ⟨_, ho, rfl⟩ PySem.F.entry_list_count (PySem.F.args_list_count_2 _ _)
    (SeqAt.list_countAt p its.toArray n dd sl (.bool k) (eqb k)) ⟨ho, fun y hy => ?_, ?_⟩
  · obtain ⟨b, rfl⟩ := h1 y (by simpa using hy)
    exact SeqAt.EqAt.bool_bool b k
  · have ec : its.toArray.toList.countP (eqb k) = bs.count k := h2 k
    refine ⟨.int (bs.count k : Nat), H, I.tok _, ⟨s.toks, ?_⟩, q⟩
    show Value.int ((its.toArray.toList.countP (eqb k) : Nat) : Int) s.toks = Value.int ((bs.count k : Nat) : Int) s.toks
    rw [ec]
end

/-! ### data -/
section
variable {K : PySem.W.Frag} {H : Hp} {a : Addr}
theorem dp_ints {ns : List Int} (h : SqL K H a (ns.map V.int)) : Dp K H (.ref a) (.list (ns.map PyData.int)) := .lst h (go ns)
where go : ∀ ns : List Int, DpAll K H (ns.map V.int) (ns.map PyData.int)
  | [] => .nil
  | n :: r => .cons (.int n) (go r)
theorem can_ints : ∀ ns : List Int, PyData.canLayAll0 (ns.map PyData.int) = true
  | [] => rfl
  | n :: r => by
    show (PyData.canLay0 (.int n) && PyData.canLayAll0 (r.map PyData.int)) = true
    rw [can_ints r] <;> rfl
theorem depth_ints : ∀ ns : List Int, PyData.depthAll (ns.map PyData.int) ≤ 1
  | [] => by decide
  | n :: r => by
    have h := depth_ints r
    show max (PyData.depth (.int n)) (PyData.depthAll (r.map PyData.int)) ≤ 1
    have e : PyData.depth (.int n) ≤ 1 := (by decide : (0 : Nat) ≤ 1)
    omega
end

/-! ### dicts, more of lists -/
def kDg2 (x : V) (Q : VK) : VK := fun y H => ∃ a v, x = .ref a ∧ DGet H a y (some v) ∧ Q v H
def kDg1 (ty : TE) (σ : L2.St) (Q : VK) : VK := fun x H => ty σ H (kDg2 x Q)
def kDi2 (y : V) (Q : VK) : VK := fun x H => ∃ a o, x = .ref a ∧ DGet H a y o ∧ Q (.bl o.isSome) H
def kDi1 (td : TE) (σ : L2.St) (Q : VK) : VK := fun y H => td σ H (kDi2 y Q)
def kDn2 (y : V) (Q : VK) : VK := fun x H => ∃ a o, x = .ref a ∧ DGet H a y o ∧ Q (.bl (!o.isSome)) H
def kDn1 (td : TE) (σ : L2.St) (Q : VK) : VK := fun y H => td σ H (kDn2 y Q)
def kDp3 (v x : V) (D : Ends) (σ : L2.St) : VK := fun y H => ∃ a H4, x = .ref a ∧ DPut H a y v H4 ∧ D.nx σ H4
def kDp2 (ty : TE) (v : V) (D : Ends) (σ : L2.St) : VK := fun x H => ty σ H (kDp3 v x D σ)
def kDp1 (td ty : TE) (D : Ends) (σ : L2.St) : VK := fun v H => td σ H (kDp2 ty v D σ)
section
variable {K : PySem.W.Frag} {σ : L2.St} {H : Hp} {v x y : V} {Q : VK} {p q : Addr} {L R R' : List As} {te td ty tv : TE} {t : TS} {D : Ends} {kvs : List (Key × V)} {k : Key}
theorem x_dnew (hS : Sep L H) (q : ∀ p H', Sep (pt p (.dK []) :: L) H' → Q (.ref p) H') : tDNewK σ H Q := fun p hp => q p _ (Sep.new hp hS)
theorem x_dget (q : td σ H (kDg1 ty σ Q)) : tDGet td ty σ H Q := q
theorem y_dg1 (q : ty σ H (kDg2 x Q)) : kDg1 ty σ Q x H := q
theorem y_dg2 (hS : Sep L H) [a : At p L (.dK kvs) R] (h : valV kvs k = some v) (q : Q v H) : kDg2 (.ref p) Q (kV k) H := ⟨p, v, rfl, h ▸ DGet.k hS.at_, q⟩
theorem y_dgi {i : Int} (hS : Sep L H) [a : At p L (.dK kvs) R] (h : valV kvs (.inl i) = some v) (q : Q v H) : kDg2 (.ref p) Q (.int i) H := y_dg2 (k := .inl i) hS h q
theorem y_dgs {s : Str} (hS : Sep L H) [a : At p L (.dK kvs) R] (h : valV kvs (.inr s) = some v) (q : Q v H) : kDg2 (.ref p) Q (.str s) H := y_dg2 (k := .inr s) hS h q
theorem x_din (q : ty σ H (kDi1 td σ Q)) : tDIn ty td σ H Q := q
theorem y_di1 (q : td σ H (kDi2 y Q)) : kDi1 td σ Q y H := q
theorem y_dii {i : Int} (hS : Sep L H) [a : At p L (.dK kvs) R] (q : Q (.bl (valV kvs (.inl i)).isSome) H) : kDi2 (.int i) Q (.ref p) H := ⟨p, _, rfl, DGet.k (k := .inl i) hS.at_, q⟩
theorem y_dis {s : Str} (hS : Sep L H) [a : At p L (.dK kvs) R] (q : Q (.bl (valV kvs (.inr s)).isSome) H) : kDi2 (.str s) Q (.ref p) H := ⟨p, _, rfl, DGet.k (k := .inr s) hS.at_, q⟩
theorem x_dnotin (q : ty σ H (kDn1 td σ Q)) : tDNotIn ty td σ H Q := q
theorem y_dn1 (q : td σ H (kDn2 y Q)) : kDn1 td σ Q y H := q
theorem y_dni {i : Int} (hS : Sep L H) [a : At p L (.dK kvs) R] (q : Q (.bl (!(valV kvs (.inl i)).isSome)) H) : kDn2 (.int i) Q (.ref p) H := ⟨p, _, rfl, DGet.k (k := .inl i) hS.at_, q⟩
theorem y_dns {s : Str} (hS : Sep L H) [a : At p L (.dK kvs) R] (q : Q (.bl (!(valV kvs (.inr s)).isSome)) H) : kDn2 (.str s) Q (.ref p) H := ⟨p, _, rfl, DGet.k (k := .inr s) hS.at_, q⟩
theorem x_dput (q : tv σ H (kDp1 td ty D σ)) : sDPut td ty tv D σ H := q
theorem y_dp1 (q : td σ H (kDp2 ty v D σ)) : kDp1 td ty D σ v H := q
theorem y_dp2 (q : ty σ H (kDp3 v x D σ)) : kDp2 ty v D σ x H := q
theorem y_dpi {i : Int} (hS : Sep L H) [a : At p L (.dK kvs) R] (hl : kvs.length ≤ 1000000) (q : ∀ H', Sep (pt p (.dK (putK kvs (.inl i) v)) :: R) H' → D.nx σ H') : kDp3 v (.ref p) D σ (.int i) H :=
  ⟨p, _, rfl, DPut.k (k := .inl i) hS.at_ (Nat.lt_of_le_of_lt hl (by decide)), q _ (Sep.put (o := .dK kvs) (fun z => z) (a.en H hS))⟩
theorem y_dps {s : Str} (hS : Sep L H) [a : At p L (.dK kvs) R] (hl : kvs.length ≤ 1000000) (q : ∀ H', Sep (pt p (.dK (putK kvs (.inr s) v)) :: R) H' → D.nx σ H') : kDp3 v (.ref p) D σ (.str s) H :=
  ⟨p, _, rfl, DPut.k (k := .inr s) hS.at_ (Nat.lt_of_le_of_lt hl (by decide)), q _ (Sep.put (o := .dK kvs) (fun z => z) (a.en H hS))⟩
/-- in, not in of a list -/
theorem x_in {xs : List V} (h : SqL K H p xs) (hx : flatV x = true) (hf : xs.all flatV = true) (q : Q (.bl (inV x xs)) H) : rIn K false x (.ref p) H Q := ⟨p, xs, rfl, .inl h, hx, hf, q⟩
theorem x_nin {xs : List V} (h : SqL K H p xs) (hx : flatV x = true) (hf : xs.all flatV = true) (q : Q (.bl (!inV x xs)) H) : rIn K true x (.ref p) H Q := ⟨p, xs, rfl, .inl h, hx, hf, q⟩
theorem flat_ints (ns : List Int) : (ns.map V.int).all flatV = true := by
  rw [List.all_map]
  exact List.all_eq_true.mpr fun _ _ => rfl
theorem in_ints (i : Int) (ns : List Int) : inV (.int i) (ns.map V.int) = decide (i ∈ ns) := by
  unfold inV
  rw [List.any_map]
  induction ns with
  | nil => rfl
  | cons n ns ih =>
    rw [List.any_cons, ih]
    show ((n == i) || decide (i ∈ ns)) = decide (i ∈ n :: ns)
    by_cases e : n = i
    · rw [e, beq_self_eq_true, decide_eq_true (List.mem_cons_self) ] <;> rfl
    · have e1 : (n == i) = false := beq_eq_false_iff_ne.mpr e
      rw [e1, Bool.false_or]
      by_cases h : i ∈ ns
      · rw [decide_eq_true h, decide_eq_true (List.mem_cons_of_mem _ h)]
      · rw [decide_eq_false h, decide_eq_false fun z => by
          rcases List.mem_cons.mp z with z | z
          · exact e z.symm
          · exact h z]
theorem x_inI {i : Int} {ns : List Int} (h : SqL K H p (ns.map V.int)) (q : Q (.bl (decide (i ∈ ns))) H) : rIn K false (.int i) (.ref p) H Q := x_in h rfl (flat_ints ns) (by rw [in_ints]; exact q)
theorem x_ninI {i : Int} {ns : List Int} (h : SqL K H p (ns.map V.int)) (q : Q (.bl (!decide (i ∈ ns))) H) : rIn K true (.int i) (.ref p) H Q := x_nin h rfl (flat_ints ns) (by rw [in_ints]; exact q)
/-- insert, remove, index of ints -/
def rIns : V → List V → Hp → VK → Prop := fun x vs H Q => ∃ (l : Addr) (xs : List V) (i : Int) (y : V), x = .ref l ∧ vs = [.int i, y] ∧ H l = some (.lst xs) ∧ xs.length < sizeLine ∧ 0 ≤ i ∧ i < 2 ^ 63 ∧ Q .non (upd H l (.lst (xs.take i.toNat ++ [y] ++ xs.drop i.toNat)))
theorem mt_ins {X : Cx} : MtR X "list.insert" rIns := mt_insert
theorem x_ins {xs : List V} {i : Int} (hS : Sep L H) [a : At p L (.lst xs) R] (hl : xs.length ≤ 1000000) (h0 : 0 ≤ i ∧ i ≤ 1000000) (q : ∀ H', Sep (pt p (.lst (xs.take i.toNat ++ [y] ++ xs.drop i.toNat)) :: R) H' → Q .non H') : rIns (.ref p) [.int i, y] H Q :=
  ⟨p, xs, i, y, rfl, rfl, hS.at_, Nat.lt_of_le_of_lt hl (by decide), by omega, by omega, q _ (Sep.put (o := .lst xs) (fun z => z) (a.en H hS))⟩
theorem insI (ns : List Int) (i : Nat) (y : Int) : (ns.map V.int).take i ++ [V.int y] ++ (ns.map V.int).drop i = (ns.take i ++ [y] ++ ns.drop i).map V.int := by
  rw [List.map_append, List.map_append, List.map_take, List.map_drop] <;> rfl
theorem x_insI {ns : List Int} {i y : Int} (hS : Sep L H) [a : At p L (.lst (ns.map V.int)) R] (hl : ns.length ≤ 1000000) (h0 : 0 ≤ i ∧ i ≤ 1000000) (q : ∀ H', Sep (pt p (.lst ((ns.take i.toNat ++ [y] ++ ns.drop i.toNat).map V.int)) :: R) H' → Q .non H') : rIns (.ref p) [.int i, .int y] H Q :=
  x_ins hS (by rw [List.length_map]; exact hl) h0 (by rw [insI]; exact q)
theorem first_ix {ns : List Int} {i : Int} (h : i ∈ ns) : ns[ns.idxOf i]? = some i ∧ ∀ m, m < ns.idxOf i → ns[m]? ≠ some i := by
  refine ⟨?_, fun m hm e => ?_⟩
  · rw [List.getElem?_eq_getElem (List.idxOf_lt_length_of_mem h), List.getElem_idxOf]
  · have h1 := (List.getElem?_eq_some_iff.mp e)
    obtain ⟨hlt, e2⟩ := h1
    have h3 := List.not_of_lt_findIdx (p := (· == i)) (xs := ns) (i := m) hm
    rw [e2] at h3
    simp at h3
theorem x_remI {ns : List Int} {i : Int} (hS : Sep L H) [a : At p L (.lst (ns.map V.int)) R] (hi : i ∈ ns) (q : ∀ H', Sep (pt p (.lst ((ns.eraseIdx (ns.idxOf i)).map V.int)) :: R) H' → Q .non H') : rRemI (.ref p) [.int i] H Q :=
  ⟨p, ns, i, ns.idxOf i, rfl, rfl, hS.at_, (first_ix hi).1, (first_ix hi).2, q _ (Sep.put (o := .lst (ns.map V.int)) (fun z => z) (a.en H hS))⟩
theorem x_ixI {ns : List Int} {i : Int} (h : SqL K H p (ns.map V.int)) (hi : i ∈ ns) (q : Q (.int (ns.idxOf i : Nat)) H) : rIndex K (.ref p) [.int i] H Q := by
  refine ⟨p, _, .int i, ns.idxOf i, .int i, rfl, rfl, h, rfl, flat_ints ns, ?_, (by show (i == i) = true; simp), fun m z' hm e => ?_, q⟩
  · rw [List.getElem?_map, (first_ix hi).1] <;> rfl
  · rw [List.getElem?_map] at e
    cases e3 : ns[m]? with
    | none =>
      rw [e3] at e
      cases e
    | some z =>
      rw [e3] at e
      cases e
      show (z == i) = false
      refine beq_eq_false_iff_ne.mpr fun z2 => (first_ix hi).2 m hm ?_
      rw [e3, z2]
end
/-! ### isinstance of a held error; list.count, list.index; sorted; comprehensions -/
section
variable {K : PySem.W.Frag} {σ : L2.St} {H : Hp} {v x y : V} {Q : VK} {p q : Addr} {L R R' : List As} {te : TE} {t : TS}
theorem x_isX {D C : Addr} {b : Bool} (hS : Sep L H) [a : At p L (ExA (.ref D) p) R] (hc : ExcC K D) (hk : PySem.W.kitOne K (.ref D) (.ref C) = some b) (q : Q (.bl b) H) : rIsX K [.ref p, .ref C] H Q :=
  ⟨p, D, .ref C, .ref C, b, rfl, hS.at_, hc, fun u r => r, hk, q⟩
theorem x_isXT {D : Addr} {C : String} {b : Bool} (hS : Sep L H) [a : At p L (ExA (.ref D) p) R] (hc : ExcC K D) (hk : PySem.W.kitOne K (.ref D) (.type C) = some b) (q : Q (.bl b) H) : rIsX K [.ref p, .ty C] H Q :=
  ⟨p, D, .ty C, .type C, b, rfl, hS.at_, hc, fun u r => r, hk, q⟩
theorem x_cntB {bs : List Bool} {k : Bool} (h : SqL K H p (bs.map V.bl)) (q : Q (.int (bs.count k : Nat)) H) : rCntB K (.ref p) [.bl k] H Q := ⟨p, bs, k, rfl, rfl, h, q⟩
theorem x_index {ys : List V} {j : Nat} {z : V} (h : SqL K H p ys) (hy : flatV y = true) (hf : ys.all flatV = true) (hj : ys[j]? = some z) (he : eqV z y = true) (hn : ∀ (m : Nat) (z' : V), m < j → ys[m]? = some z' → eqV z' y = false) (q : Q (.int (j : Nat)) H) : rIndex K (.ref p) [y] H Q :=
  ⟨p, ys, y, j, z, rfl, rfl, h, hy, hf, hj, he, hn, q⟩
theorem x_sorted {ns : List Int} (hS : Sep L H) (h : SqL K H p (ns.map V.int)) (hl : ns.length < 64) (q : ∀ (ns' : List Int) (l : Addr) (H' : Hp), ns'.Perm ns → ns'.Pairwise (· ≤ ·) → Sep (pt l (.lst (ns'.map V.int)) :: L) H' → Q (.ref l) H') : rSorted K [.ref p] H Q :=
  ⟨p, ns, rfl, h, hl, fun ns' l hp hs hl => q ns' l _ hp hs (Sep.new hl hS)⟩
/-- [e for x in a tuple]: P what holds behind i turns, the new list in it -/
def kLcT (K : PySem.W.Frag) (g : TG) (tt : TT) (te : TE) (vs : List Nat) (σ : L2.St) (Q : VK) : VK := fun x H => ∃ a, x = .ref a ∧ (∃ xs, SqT K H a xs) ∧ ∀ D, H D = none → ∃ W : Nat → Nat → Hp → Prop, (∃ m, W 0 m (upd H D (.lst []))) ∧ ∀ i m H, W i m H →
  ((Itt K a).stop i H ∧ Q (.ref D) H) ∨ ((Itt K a).go i H ∧ ∃ Nx : Hp → Prop, (∀ H', Nx H' → ∃ m', m' < m ∧ W (i + 1) m' H') ∧ ∀ x H', (Itt K a).yld i H x H' → g x (wipe σ vs) H' fun σ2 H2 => wipe σ2 vs = wipe σ vs ∧ tt σ2 H2 fun b H3 =>
    if b = true then te σ2 H3 fun y H4 => ∃ acc, H4 D = some (.lst acc) ∧ acc.length < sizeLine ∧ Nx (upd H4 D (.lst (acc ++ [y]))) else Nx H3)
def kLcL (K : PySem.W.Frag) (g : TG) (tt : TT) (te : TE) (vs : List Nat) (σ : L2.St) (Q : VK) : VK := fun x H => ∃ a, x = .ref a ∧ (∃ xs, SqL K H a xs) ∧ ∀ D, H D = none → ∃ W : Nat → Nat → Hp → Prop, (∃ m, W 0 m (upd H D (.lst []))) ∧ ∀ i m H, W i m H →
  ((Itl K a).stop i H ∧ Q (.ref D) H) ∨ ((Itl K a).go i H ∧ ∃ Nx : Hp → Prop, (∀ H', Nx H' → ∃ m', m' < m ∧ W (i + 1) m' H') ∧ ∀ x H', (Itl K a).yld i H x H' → g x (wipe σ vs) H' fun σ2 H2 => wipe σ2 vs = wipe σ vs ∧ tt σ2 H2 fun b H3 =>
    if b = true then te σ2 H3 fun y H4 => ∃ acc, H4 D = some (.lst acc) ∧ acc.length < sizeLine ∧ Nx (upd H4 D (.lst (acc ++ [y]))) else Nx H3)
theorem x_lcT {tl : TE} {g : TG} {tt : TT} {vs : List Nat} (q : tl σ H (kLcT K g tt te vs σ Q)) : tLc (iTup K tl) g tt te vs σ H Q := q
theorem x_lcL {tl : TE} {g : TG} {tt : TT} {vs : List Nat} (q : tl σ H (kLcL K g tt te vs σ Q)) : tLc (iList K tl) g tt te vs σ H Q := q
/-- the element's value y goes behind the list so far -/
def kEl (D : Addr) (N : Hp → Prop) : VK := fun y H => ∃ acc, H D = some (.lst acc) ∧ acc.length < sizeLine ∧ N (upd H D (.lst (acc ++ [y])))
def kTt (te : TE) (σ : L2.St) (D : Addr) (N : Hp → Prop) : Bool → Hp → Prop := fun b H => if b = true then te σ H (kEl D N) else N H
def kLcb (tt : TT) (te : TE) (D : Addr) (σ : L2.St) (vs : List Nat) (N : Hp → Prop) : L2.St → Hp → Prop := fun σ2 H => wipe σ2 vs = wipe σ vs ∧ tt σ2 H (kTt te σ2 D N)
theorem y_el {D : Addr} {acc : List V} {N : Hp → Prop} (hS : Sep L H) [a : At D L (.lst acc) R] (hl : acc.length ≤ 1000000) (q : ∀ H', Sep (pt D (.lst (acc ++ [y])) :: R) H' → N H') : kEl D N y H :=
  ⟨acc, hS.at_, Nat.lt_of_le_of_lt hl (by decide), q _ (Sep.put (o := .lst acc) (fun z => z) (a.en H hS))⟩
theorem y_tt {D : Addr} {N : Hp → Prop} {b : Bool} (q : if b = true then te σ H (kEl D N) else N H) : kTt te σ D N b H := q
theorem y_lcb {tt : TT} {D : Addr} {σ2 : L2.St} {vs : List Nat} {N : Hp → Prop} (hw : wipe σ2 vs = wipe σ vs) (q : tt σ2 H (kTt te σ2 D N)) : kLcb tt te D σ vs N σ2 H := ⟨hw, q⟩
theorem x_yes' {QT : Bool → Hp → Prop} (q : QT true H) : tYes σ H QT := q
theorem y_lcT {g : TG} {tt : TT} {vs : List Nat} {xs : List V} (hx : SqT K H p xs) (hS : Sep L H) (P : Addr → Nat → Hp → Prop) (h0 : ∀ D H', Sep (pt D (.lst []) :: L) H' → P D 0 H') (hl : ∀ D i H, i ≤ xs.length → P D i H → SqT K H p xs)
    (hs : ∀ D i x H, xs[i]? = some x → P D i H → g x (wipe σ vs) H (kLcb tt te D σ vs (P D (i + 1)))) (hd : ∀ D H, P D xs.length H → Q (.ref D) H) : kLcT K g tt te vs σ Q (.ref p) H :=
  ⟨p, rfl, ⟨xs, hx⟩, fun D hD => lc_tup (P D) (h0 D _ (Sep.new hD hS)) (hl D) (hs D) (hd D)⟩
theorem y_lcL {g : TG} {tt : TT} {vs : List Nat} {xs : List V} (hx : SqL K H p xs) (hS : Sep L H) (P : Addr → Nat → Hp → Prop) (h0 : ∀ D H', Sep (pt D (.lst []) :: L) H' → P D 0 H') (hl : ∀ D i H, i ≤ xs.length → P D i H → SqL K H p xs)
    (hs : ∀ D i x H, xs[i]? = some x → P D i H → g x (wipe σ vs) H (kLcb tt te D σ vs (P D (i + 1)))) (hd : ∀ D H, P D xs.length H → Q (.ref D) H) : kLcL K g tt te vs σ Q (.ref p) H :=
  ⟨p, rfl, ⟨xs, hx⟩, fun D hD => lc_list (P D) (h0 D _ (Sep.new hD hS)) (hl D) (hs D) (hd D)⟩
theorem x_try {X : Cx} {c : Value} {i : Nat} {ts : Addr → List (Addr × Obj) → TS} {Wout : WX} {tb : ∀ (W : WX) (pn : List (Addr × Obj)) (xe : Value → Shared → Prop), Takes (X.tr pn xe) W → PassesOwn (model X.prog X.w) X.A X.env xe → TS} {D : Ends}
    (q : ∀ pn xe (tk : Takes (X.tr pn xe) (wHold X.K c i ts Wout D)) (po : PassesOwn (model X.prog X.w) X.A X.env xe), tb (wHold X.K c i ts Wout D) pn xe tk po D σ H) : tTry X c i ts Wout tb D σ H := q
/-- the error is caught, and held by a name -/
theorem y_hold {c cls : Value} {i j : Nat} {D : Ends} {Wout : WX} (hx : PySem.W.exmOne K cls c = some true) (hi : ∀ a, (σ.set i (some (.ref a)))[i]? = some (some (.ref a))) (hS : Sep L H)
    (q : ∀ a H', Sep (pt a (ExA cls a) :: L) H' → D.nx (((σ.set i (some (.ref a))).set j (some (.ref a))).set i none) H') : WE (wHold K c i (fun a pn => tAsg (tVar i) (gName j)) Wout D) σ cls none H :=
  ⟨true, hx, fun _ => ⟨rfl, fun a pn na => ⟨.ref a, hi a, na, q a _ (Sep.new na hS)⟩⟩, fun z => Bool.noConfusion z⟩
end

/-! ### more of data -/
section
variable {K : PySem.W.Frag} {H : Hp} {a : Addr}
theorem shaped_ints (ns : List Int) : SeqAt.shaped (.list (ns.map PyData.int)) = true := by
  have h := depth_ints ns
  have e : PyData.depth (.list (ns.map PyData.int)) ≤ 64 := by
    show PyData.depthAll (ns.map PyData.int) + 1 ≤ 64
    omega
  show (PyData.canLayAll0 (ns.map PyData.int) && decide (PyData.depth (.list (ns.map PyData.int)) ≤ 64)) = true
  rw [can_ints, decide_eq_true e] <;> rfl
theorem eqv_of {d : PyData} (h : SeqAt.shaped d = true) : PyData.eqv d d = true := SeqAt.eqv_refl d (SeqAt.canLay_of_shaped h)
theorem pick_int {P : Int → Prop} {is : List Int} (h : ∀ z ∈ is, P z) {i : Nat} (hi : i < is.length) : ∃ z, P z ∧ z ∈ is ∧ (is.map V.int).getD i .non = .int z := by
  refine ⟨is[i], h _ (List.getElem_mem hi), List.getElem_mem hi, ?_⟩
  rw [List.getD_eq_getElem?_getD, List.getElem?_map, List.getElem?_eq_getElem hi] <;> rfl
/-- an arrangement of ints is a list of ints -/
def unint : V → Int
  | .int i => i
  | _ => 0
theorem perm_ints {xs : List V} {is : List Int} (h : xs.Perm (is.map V.int)) : ∃ js : List Int, xs = js.map V.int ∧ js.Perm is := by
  refine ⟨xs.map unint, ?_, ?_⟩
  · rw [List.map_map]
    have e : ∀ v ∈ xs, (V.int ∘ unint) v = v := fun v hv => by
      obtain ⟨i, _, rfl⟩ := List.mem_map.mp (h.mem_iff.mp hv)
      rfl
    exact (List.map_id' xs).symm.trans (List.map_congr_left fun v hv => (e v hv).symm)
  · have h2 := h.map unint
    rw [List.map_map] at h2
    have e : (unint ∘ V.int) = id := rfl
    rw [e, List.map_id] at h2
    exact h2
end
end TR

set_option Elab.async false
set_option linter.all false
set_option maxRecDepth 100000
set_option maxHeartbeats 4000000
/-! The end: from a def's promise to the row. -/
namespace TR
open PySem PySem.Spec PyProof.Rows L2
def CXall : CXT := fun outer H s E u s' => ∃ P w, L2.CX P w outer H s E u s'
theorem fn_all {P : Program} {w : World} {K : PySem.W.Frag} {mg : Str → Option Value} {base : Heap} {k : Nat} {f : Addr} {fd : FuncData} {ps : List Str} {sp : Sp} (F : FnOk P w K mg base (L2.CX P w) k f fd ps sp) : FnOk P w K mg base CXall k f fd ps sp :=
  ⟨F.len, fun A outer s H args us vs Q E hr e0 hb r hsp => codeAny_mono (F.run A outer s H args us vs Q E hr e0 hb r hsp) fun r s' hq => by
    cases r with
    | ok fl =>
      cases fl with
      | ret u => exact hq
      | next => exact False.elim hq
      | brk => exact False.elim hq
      | cont => exact False.elim hq
    | error e => exact ⟨P, w, hq⟩⟩
theorem cxall_no : ∀ (H : Hp) (s : Shared) (e : Value) (s' : Shared), CXall [] H s (fun _ _ _ => False) e s' → False := fun _ _ _ _ ⟨_, _, _, _, _, _, _, _, _, _, _, _, _, _, h⟩ => h
end TR

set_option Elab.async false
set_option linter.all false
set_option maxRecDepth 100000
set_option maxHeartbeats 4000000
/-! The facts, the fields. -/
namespace TR
open PySem PySem.Spec PyProof.Rows L2
class Top (K : PySem.W.Frag) (mg : outParam (Str → Option Value)) : Prop where
  s : Says fa fn exs K
  g : ∃ h : Heap, K.In h ∧ h.Ns mainGlobals mg
section
variable {K : PySem.W.Frag} {mg : Str → Option Value}
theorem gl_RoadError (T : Top K mg) : mg "RoadError" = some (.ref (He.ga K "RoadError")) := let ⟨_, X, G⟩ := T.g; He.glo_ok X G (T.s.fact 0 (f := .glo "RoadError"))
theorem xc_RoadError (T : Top K mg) : PySem.W.excIn K (He.ga K "RoadError") He.veBase "ValueError.__new__" = true ∧ PySem.W.keepIn K (.ref (He.ga K "RoadError")) = true ∧ PySem.W.subIn K (.ref (He.ga K "RoadError")) (.type "BaseException") = some true ∧ PySem.W.typeIn K (.ref (He.ga K "RoadError")) = some (.type "type") := He.exc_ok (T.s.fact 1 (f := .exc "RoadError"))
theorem gl_BadTune (T : Top K mg) : mg "BadTune" = some (.ref (He.ga K "BadTune")) := let ⟨_, X, G⟩ := T.g; He.glo_ok X G (T.s.fact 2 (f := .glo "BadTune"))
theorem xc_BadTune (T : Top K mg) : PySem.W.excIn K (He.ga K "BadTune") He.veBase "ValueError.__new__" = true ∧ PySem.W.keepIn K (.ref (He.ga K "BadTune")) = true ∧ PySem.W.subIn K (.ref (He.ga K "BadTune")) (.type "BaseException") = some true ∧ PySem.W.typeIn K (.ref (He.ga K "BadTune")) = some (.type "type") := He.exc_ok (T.s.fact 3 (f := .exc "BadTune"))
theorem gl_BadNumber (T : Top K mg) : mg "BadNumber" = some (.ref (He.ga K "BadNumber")) := let ⟨_, X, G⟩ := T.g; He.glo_ok X G (T.s.fact 4 (f := .glo "BadNumber"))
theorem xc_BadNumber (T : Top K mg) : PySem.W.excIn K (He.ga K "BadNumber") He.veBase "ValueError.__new__" = true ∧ PySem.W.keepIn K (.ref (He.ga K "BadNumber")) = true ∧ PySem.W.subIn K (.ref (He.ga K "BadNumber")) (.type "BaseException") = some true ∧ PySem.W.typeIn K (.ref (He.ga K "BadNumber")) = some (.type "type") := He.exc_ok (T.s.fact 5 (f := .exc "BadNumber"))
theorem gl_BadEntry (T : Top K mg) : mg "BadEntry" = some (.ref (He.ga K "BadEntry")) := let ⟨_, X, G⟩ := T.g; He.glo_ok X G (T.s.fact 6 (f := .glo "BadEntry"))
theorem xc_BadEntry (T : Top K mg) : PySem.W.excIn K (He.ga K "BadEntry") He.veBase "ValueError.__new__" = true ∧ PySem.W.keepIn K (.ref (He.ga K "BadEntry")) = true ∧ PySem.W.subIn K (.ref (He.ga K "BadEntry")) (.type "BaseException") = some true ∧ PySem.W.typeIn K (.ref (He.ga K "BadEntry")) = some (.type "type") := He.exc_ok (T.s.fact 7 (f := .exc "BadEntry"))
theorem gl_BadWord (T : Top K mg) : mg "BadWord" = some (.ref (He.ga K "BadWord")) := let ⟨_, X, G⟩ := T.g; He.glo_ok X G (T.s.fact 8 (f := .glo "BadWord"))
theorem xc_BadWord (T : Top K mg) : PySem.W.excIn K (He.ga K "BadWord") He.veBase "ValueError.__new__" = true ∧ PySem.W.keepIn K (.ref (He.ga K "BadWord")) = true ∧ PySem.W.subIn K (.ref (He.ga K "BadWord")) (.type "BaseException") = some true ∧ PySem.W.typeIn K (.ref (He.ga K "BadWord")) = some (.type "type") := He.exc_ok (T.s.fact 9 (f := .exc "BadWord"))
theorem gl_Shelf (T : Top K mg) : mg "Shelf" = some (.ref (He.ga K "Shelf")) := let ⟨_, X, G⟩ := T.g; He.glo_ok X G (T.s.fact 10 (f := .glo "Shelf"))
theorem cl_Shelf (T : Top K mg) : Cls K (He.ga K "Shelf") := He.cls_ok (T.s.fact 11 (f := .cls "Shelf"))
theorem mk_Shelf (T : Top K mg) : Mk K (He.ga K "Shelf") (He.ma K (He.ga K "Shelf") "__init__") := He.mkr_ok (T.s.fact 12 (f := .mkr "Shelf"))
theorem na_Shelf_longs (T : Top K mg) : NoAttr K (He.ga K "Shelf") "longs" := He.noat_ok (T.s.fact 13 (f := .noat "Shelf" "longs"))
theorem me_Shelf_add (T : Top K mg) : Meth K (He.ga K "Shelf") "add" (He.ma K (He.ga K "Shelf") "add") := He.meth_ok (T.s.fact 14 (f := .meth "Shelf" "add"))
theorem me_Shelf_need (T : Top K mg) : Meth K (He.ga K "Shelf") "need" (He.ma K (He.ga K "Shelf") "need") := He.meth_ok (T.s.fact 15 (f := .meth "Shelf" "need"))
theorem me_Shelf_long (T : Top K mg) : Meth K (He.ga K "Shelf") "long" (He.ma K (He.ga K "Shelf") "long") := He.meth_ok (T.s.fact 16 (f := .meth "Shelf" "long"))
theorem me_Shelf_names (T : Top K mg) : Meth K (He.ga K "Shelf") "names" (He.ma K (He.ga K "Shelf") "names") := He.meth_ok (T.s.fact 17 (f := .meth "Shelf" "names"))
theorem xm_RoadError_RoadError (T : Top K mg) : PySem.W.exmOne K (.ref (He.ga K "RoadError")) (.ref (He.ga K "RoadError")) = some true := He.exm_ok (T.s.fact 18 (f := .exm "RoadError" "RoadError" true))
theorem xm_BadTune_RoadError (T : Top K mg) : PySem.W.exmOne K (.ref (He.ga K "BadTune")) (.ref (He.ga K "RoadError")) = some true := He.exm_ok (T.s.fact 19 (f := .exm "BadTune" "RoadError" true))
theorem xm_BadNumber_RoadError (T : Top K mg) : PySem.W.exmOne K (.ref (He.ga K "BadNumber")) (.ref (He.ga K "RoadError")) = some true := He.exm_ok (T.s.fact 20 (f := .exm "BadNumber" "RoadError" true))
theorem xm_BadEntry_RoadError (T : Top K mg) : PySem.W.exmOne K (.ref (He.ga K "BadEntry")) (.ref (He.ga K "RoadError")) = some true := He.exm_ok (T.s.fact 21 (f := .exm "BadEntry" "RoadError" true))
theorem xm_BadWord_RoadError (T : Top K mg) : PySem.W.exmOne K (.ref (He.ga K "BadWord")) (.ref (He.ga K "RoadError")) = some true := He.exm_ok (T.s.fact 22 (f := .exm "BadWord" "RoadError" true))
theorem gl_look_name (T : Top K mg) : mg "look_name" = some (.ref (He.ga K "look_name")) := let ⟨_, X, G⟩ := T.g; He.glo_ok X G (T.s.fact 23 (f := .glo "look_name"))
theorem gl__law_cell (T : Top K mg) : mg "_law_cell" = some (.ref (He.ga K "_law_cell")) := let ⟨_, X, G⟩ := T.g; He.glo_ok X G (T.s.fact 24 (f := .glo "_law_cell"))
theorem gl__law_mix (T : Top K mg) : mg "_law_mix" = some (.ref (He.ga K "_law_mix")) := let ⟨_, X, G⟩ := T.g; He.glo_ok X G (T.s.fact 25 (f := .glo "_law_mix"))
theorem gl__law_draw (T : Top K mg) : mg "_law_draw" = some (.ref (He.ga K "_law_draw")) := let ⟨_, X, G⟩ := T.g; He.glo_ok X G (T.s.fact 26 (f := .glo "_law_draw"))
theorem gl__law_pick (T : Top K mg) : mg "_law_pick" = some (.ref (He.ga K "_law_pick")) := let ⟨_, X, G⟩ := T.g; He.glo_ok X G (T.s.fact 27 (f := .glo "_law_pick"))
theorem gl__law_refusal (T : Top K mg) : mg "_law_refusal" = some (.ref (He.ga K "_law_refusal")) := let ⟨_, X, G⟩ := T.g; He.glo_ok X G (T.s.fact 28 (f := .glo "_law_refusal"))
theorem gl__law_signs (T : Top K mg) : mg "_law_signs" = some (.ref (He.ga K "_law_signs")) := let ⟨_, X, G⟩ := T.g; He.glo_ok X G (T.s.fact 29 (f := .glo "_law_signs"))
theorem gl__law_told (T : Top K mg) : mg "_law_told" = some (.ref (He.ga K "_law_told")) := let ⟨_, X, G⟩ := T.g; He.glo_ok X G (T.s.fact 30 (f := .glo "_law_told"))
theorem gl_law (T : Top K mg) : mg "law" = some (.ref (He.ga K "law")) := let ⟨_, X, G⟩ := T.g; He.glo_ok X G (T.s.fact 31 (f := .glo "law"))
theorem gs_SMALL (T : Top K mg) : ∃ t, mg "SMALL" = some (.str "abcdefghijklmnopqrstuvwxyz" t) := let ⟨_, X, G⟩ := T.g; He.str_ok X G (T.s.fact 32 (f := .str "SMALL" "abcdefghijklmnopqrstuvwxyz"))
theorem gi_MOST_NAME (T : Top K mg) : ∃ t, mg "MOST_NAME" = some (.int 6 t) := let ⟨_, X, G⟩ := T.g; He.int_ok X G (T.s.fact 33 (f := .int "MOST_NAME" 6))
theorem gi_MOST_TUNES (T : Top K mg) : ∃ t, mg "MOST_TUNES" = some (.int 6 t) := let ⟨_, X, G⟩ := T.g; He.int_ok X G (T.s.fact 34 (f := .int "MOST_TUNES" 6))
theorem gi_MOST_LONG (T : Top K mg) : ∃ t, mg "MOST_LONG" = some (.int 40 t) := let ⟨_, X, G⟩ := T.g; He.int_ok X G (T.s.fact 35 (f := .int "MOST_LONG" 40))
theorem fr_len (T : Top K mg) : mg "len" = none := let ⟨_, X, G⟩ := T.g; He.free_ok X G (T.s.fact 36 (f := .free "len"))
theorem fr_range (T : Top K mg) : mg "range" = none := let ⟨_, X, G⟩ := T.g; He.free_ok X G (T.s.fact 37 (f := .free "range"))
theorem fr_sorted (T : Top K mg) : mg "sorted" = none := let ⟨_, X, G⟩ := T.g; He.free_ok X G (T.s.fact 38 (f := .free "sorted"))
theorem fr_isinstance (T : Top K mg) : mg "isinstance" = none := let ⟨_, X, G⟩ := T.g; He.free_ok X G (T.s.fact 39 (f := .free "isinstance"))
theorem fr_all (T : Top K mg) : mg "all" = none := let ⟨_, X, G⟩ := T.g; He.free_ok X G (T.s.fact 40 (f := .free "all"))
theorem fr_ValueError (T : Top K mg) : mg "ValueError" = none := let ⟨_, X, G⟩ := T.g; He.free_ok X G (T.s.fact 41 (f := .free "ValueError"))
theorem xb_RoadError (T : Top K mg) : ExcC K (He.ga K "RoadError") := excB_ok (T.s.more 1 (f := fun K => excB K "RoadError"))
theorem xb_BadTune (T : Top K mg) : ExcC K (He.ga K "BadTune") := excB_ok (T.s.more 2 (f := fun K => excB K "BadTune"))
theorem xb_BadNumber (T : Top K mg) : ExcC K (He.ga K "BadNumber") := excB_ok (T.s.more 3 (f := fun K => excB K "BadNumber"))
theorem xb_BadEntry (T : Top K mg) : ExcC K (He.ga K "BadEntry") := excB_ok (T.s.more 4 (f := fun K => excB K "BadEntry"))
theorem xb_BadWord (T : Top K mg) : ExcC K (He.ga K "BadWord") := excB_ok (T.s.more 5 (f := fun K => excB K "BadWord"))
theorem ki_BadTune_BadTune (T : Top K mg) : PySem.W.kitOne K (.ref (He.ga K "BadTune")) (.ref (He.ga K "BadTune")) = some true := kitB2_ok (T.s.more 6 (f := fun K => kitB2 K "BadTune" "BadTune" true))
theorem ki_BadTune_BadNumber (T : Top K mg) : PySem.W.kitOne K (.ref (He.ga K "BadTune")) (.ref (He.ga K "BadNumber")) = some false := kitB2_ok (T.s.more 7 (f := fun K => kitB2 K "BadTune" "BadNumber" false))
theorem ki_BadTune_BadEntry (T : Top K mg) : PySem.W.kitOne K (.ref (He.ga K "BadTune")) (.ref (He.ga K "BadEntry")) = some false := kitB2_ok (T.s.more 8 (f := fun K => kitB2 K "BadTune" "BadEntry" false))
theorem ki_BadTune_BadWord (T : Top K mg) : PySem.W.kitOne K (.ref (He.ga K "BadTune")) (.ref (He.ga K "BadWord")) = some false := kitB2_ok (T.s.more 9 (f := fun K => kitB2 K "BadTune" "BadWord" false))
theorem ki_BadTune_ValueError (T : Top K mg) : PySem.W.kitOne K (.ref (He.ga K "BadTune")) (.type "ValueError") = some true := kitV_ok (T.s.more 10 (f := fun K => kitV K "BadTune" "ValueError" true))
theorem ki_BadNumber_BadTune (T : Top K mg) : PySem.W.kitOne K (.ref (He.ga K "BadNumber")) (.ref (He.ga K "BadTune")) = some false := kitB2_ok (T.s.more 11 (f := fun K => kitB2 K "BadNumber" "BadTune" false))
theorem ki_BadNumber_BadNumber (T : Top K mg) : PySem.W.kitOne K (.ref (He.ga K "BadNumber")) (.ref (He.ga K "BadNumber")) = some true := kitB2_ok (T.s.more 12 (f := fun K => kitB2 K "BadNumber" "BadNumber" true))
theorem ki_BadNumber_BadEntry (T : Top K mg) : PySem.W.kitOne K (.ref (He.ga K "BadNumber")) (.ref (He.ga K "BadEntry")) = some false := kitB2_ok (T.s.more 13 (f := fun K => kitB2 K "BadNumber" "BadEntry" false))
theorem ki_BadNumber_BadWord (T : Top K mg) : PySem.W.kitOne K (.ref (He.ga K "BadNumber")) (.ref (He.ga K "BadWord")) = some false := kitB2_ok (T.s.more 14 (f := fun K => kitB2 K "BadNumber" "BadWord" false))
theorem ki_BadNumber_ValueError (T : Top K mg) : PySem.W.kitOne K (.ref (He.ga K "BadNumber")) (.type "ValueError") = some true := kitV_ok (T.s.more 15 (f := fun K => kitV K "BadNumber" "ValueError" true))
theorem ki_BadEntry_BadTune (T : Top K mg) : PySem.W.kitOne K (.ref (He.ga K "BadEntry")) (.ref (He.ga K "BadTune")) = some false := kitB2_ok (T.s.more 16 (f := fun K => kitB2 K "BadEntry" "BadTune" false))
theorem ki_BadEntry_BadNumber (T : Top K mg) : PySem.W.kitOne K (.ref (He.ga K "BadEntry")) (.ref (He.ga K "BadNumber")) = some false := kitB2_ok (T.s.more 17 (f := fun K => kitB2 K "BadEntry" "BadNumber" false))
theorem ki_BadEntry_BadEntry (T : Top K mg) : PySem.W.kitOne K (.ref (He.ga K "BadEntry")) (.ref (He.ga K "BadEntry")) = some true := kitB2_ok (T.s.more 18 (f := fun K => kitB2 K "BadEntry" "BadEntry" true))
theorem ki_BadEntry_BadWord (T : Top K mg) : PySem.W.kitOne K (.ref (He.ga K "BadEntry")) (.ref (He.ga K "BadWord")) = some false := kitB2_ok (T.s.more 19 (f := fun K => kitB2 K "BadEntry" "BadWord" false))
theorem ki_BadEntry_ValueError (T : Top K mg) : PySem.W.kitOne K (.ref (He.ga K "BadEntry")) (.type "ValueError") = some true := kitV_ok (T.s.more 20 (f := fun K => kitV K "BadEntry" "ValueError" true))
theorem ki_BadWord_BadTune (T : Top K mg) : PySem.W.kitOne K (.ref (He.ga K "BadWord")) (.ref (He.ga K "BadTune")) = some false := kitB2_ok (T.s.more 21 (f := fun K => kitB2 K "BadWord" "BadTune" false))
theorem ki_BadWord_BadNumber (T : Top K mg) : PySem.W.kitOne K (.ref (He.ga K "BadWord")) (.ref (He.ga K "BadNumber")) = some false := kitB2_ok (T.s.more 22 (f := fun K => kitB2 K "BadWord" "BadNumber" false))
theorem ki_BadWord_BadEntry (T : Top K mg) : PySem.W.kitOne K (.ref (He.ga K "BadWord")) (.ref (He.ga K "BadEntry")) = some false := kitB2_ok (T.s.more 23 (f := fun K => kitB2 K "BadWord" "BadEntry" false))
theorem ki_BadWord_BadWord (T : Top K mg) : PySem.W.kitOne K (.ref (He.ga K "BadWord")) (.ref (He.ga K "BadWord")) = some true := kitB2_ok (T.s.more 24 (f := fun K => kitB2 K "BadWord" "BadWord" true))
theorem ki_BadWord_ValueError (T : Top K mg) : PySem.W.kitOne K (.ref (He.ga K "BadWord")) (.type "ValueError") = some true := kitV_ok (T.s.more 25 (f := fun K => kitV K "BadWord" "ValueError" true))
instance [T : Top K mg] : FldI K (He.ga K "Shelf") "longs" := ⟨cl_Shelf T, na_Shelf_longs T⟩
theorem df_look_name (T : Top K mg) : ∃ fd, FunD K "look_name" "look_name" (defArgs s_look_name) (defBody s_look_name) (defScope s_look_name) [] [] (He.fAd K ("look_name", none)) fd := T.s.d.def_ 0 (d := d_look_name)
theorem df_Shelf_init (T : Top K mg) : ∃ fd, FunD K "__init__" "Shelf.__init__" (defArgs s_Shelf_init) (defBody s_Shelf_init) (defScope s_Shelf_init) [] [] (He.fAd K ("Shelf", some "__init__")) fd := T.s.d.def_ 1 (d := d_Shelf_init)
theorem df_Shelf_add (T : Top K mg) : ∃ fd, FunD K "add" "Shelf.add" (defArgs s_Shelf_add) (defBody s_Shelf_add) (defScope s_Shelf_add) [] [] (He.fAd K ("Shelf", some "add")) fd := T.s.d.def_ 2 (d := d_Shelf_add)
theorem df_Shelf_need (T : Top K mg) : ∃ fd, FunD K "need" "Shelf.need" (defArgs s_Shelf_need) (defBody s_Shelf_need) (defScope s_Shelf_need) [] [] (He.fAd K ("Shelf", some "need")) fd := T.s.d.def_ 3 (d := d_Shelf_need)
theorem df_Shelf_long (T : Top K mg) : ∃ fd, FunD K "long" "Shelf.long" (defArgs s_Shelf_long) (defBody s_Shelf_long) (defScope s_Shelf_long) [] [] (He.fAd K ("Shelf", some "long")) fd := T.s.d.def_ 4 (d := d_Shelf_long)
theorem df_Shelf_names (T : Top K mg) : ∃ fd, FunD K "names" "Shelf.names" (defArgs s_Shelf_names) (defBody s_Shelf_names) (defScope s_Shelf_names) [] [] (He.fAd K ("Shelf", some "names")) fd := T.s.d.def_ 5 (d := d_Shelf_names)
theorem df_l_cell (T : Top K mg) : ∃ fd, FunD K "_law_cell" "_law_cell" (defArgs s_l_cell) (defBody s_l_cell) (defScope s_l_cell) [] [] (He.fAd K ("_law_cell", none)) fd := T.s.d.def_ 6 (d := d_l_cell)
theorem df_l_mix (T : Top K mg) : ∃ fd, FunD K "_law_mix" "_law_mix" (defArgs s_l_mix) (defBody s_l_mix) (defScope s_l_mix) [] [] (He.fAd K ("_law_mix", none)) fd := T.s.d.def_ 7 (d := d_l_mix)
theorem df_l_draw (T : Top K mg) : ∃ fd, FunD K "_law_draw" "_law_draw" (defArgs s_l_draw) (defBody s_l_draw) (defScope s_l_draw) [] [] (He.fAd K ("_law_draw", none)) fd := T.s.d.def_ 8 (d := d_l_draw)
theorem df_l_pick (T : Top K mg) : ∃ fd, FunD K "_law_pick" "_law_pick" (defArgs s_l_pick) (defBody s_l_pick) (defScope s_l_pick) [] [] (He.fAd K ("_law_pick", none)) fd := T.s.d.def_ 9 (d := d_l_pick)
theorem df_l_refusal (T : Top K mg) : ∃ fd, FunD K "_law_refusal" "_law_refusal" (defArgs s_l_refusal) (defBody s_l_refusal) (defScope s_l_refusal) [] [] (He.fAd K ("_law_refusal", none)) fd := T.s.d.def_ 10 (d := d_l_refusal)
theorem df_l_signs (T : Top K mg) : ∃ fd, FunD K "_law_signs" "_law_signs" (defArgs s_l_signs) (defBody s_l_signs) (defScope s_l_signs) [] [] (He.fAd K ("_law_signs", none)) fd := T.s.d.def_ 11 (d := d_l_signs)
theorem df_l_told (T : Top K mg) : ∃ fd, FunD K "_law_told" "_law_told" (defArgs s_l_told) (defBody s_l_told) (defScope s_l_told) [] [] (He.fAd K ("_law_told", none)) fd := T.s.d.def_ 12 (d := d_l_told)
theorem df_law (T : Top K mg) : ∃ fd, FunD K "law" "law" (defArgs s_law) (defBody s_law) (defScope s_law) [] [] (He.fAd K ("law", none)) fd := T.s.d.def_ 13 (d := d_law)
end
def nmShelf : List Str := ["longs"]
theorem ndShelf : nmShelf.Nodup := by decide +kernel
instance : ∀ {a0 : V}, Fd (nmShelf.zip [a0]) "longs" a0 := fun {a0} => ⟨look_zip ndShelf (i := 0) rfl rfl, len_zip (by decide)⟩
instance : ∀ {a0 y : V}, Fp (nmShelf.zip [a0]) "longs" y (nmShelf.zip [y]) := fun {a0 y} => ⟨put_zip ndShelf (i := 0) rfl (by show 0 < 1; decide), len_zip (by decide)⟩
instance : ∀ {y : V}, Fp ([]) "longs" y (nmShelf.zip [y]) := fun {y} => ⟨put_zip_new (vs := []) ndShelf rfl, (by show 0 < 1000; decide)⟩
instance : NotF nmShelf "add" := ⟨by decide +kernel⟩
instance : NotF nmShelf "need" := ⟨by decide +kernel⟩
instance : NotF nmShelf "long" := ⟨by decide +kernel⟩
instance : NotF nmShelf "names" := ⟨by decide +kernel⟩
end TR

set_option Elab.async false
set_option linter.all false
set_option maxRecDepth 100000
set_option maxHeartbeats 4000000
/-! .. -/
set_option hygiene false
local macro_rules | `(tactic| walk_at "s1") => `(tactic| first
  | (with_reducible refine x_seq ?_)
  | (with_reducible refine x_asg ?_)
  | (with_reducible refine y_asg ?_)
  | (with_reducible refine x_name ?_)
  | (with_reducible refine x_ifS ?_)
  | (with_reducible refine y_ifS ?_)
  | (with_reducible refine x_ret ?_)
  | (with_reducible refine x_retN ?_)
  | (with_reducible refine x_drop ?_)
  | (with_reducible refine y_drop ?_)
  | (with_reducible refine x_next ?_)
  | (with_reducible refine x_cont ?_)
  | (with_reducible refine x_test ?_)
  | (with_reducible refine x_tB ?_)
  | (with_reducible refine y_test ?_)
  | (with_reducible refine x_not ?_)
  | (with_reducible refine y_not ?_)
  | (with_reducible refine x_and ?_)
  | (with_reducible refine y_and ?_)
  | (with_reducible refine x_or ?_)
  | (with_reducible refine y_or ?_)
  | (with_reducible refine x_chain ?_)
  | (with_reducible refine y_ch1 ?_)
  | (with_reducible refine y_ch2 ?_)
  | (with_reducible refine y_ch3 ?_)
  | (with_reducible refine x_andV ?_)
  | (with_reducible refine y_andV ?_)
  | (with_reducible refine x_orV ?_)
  | (with_reducible refine y_orV ?_)
  | (with_reducible refine x_notV ?_)
  | (with_reducible refine y_notV ?_)
  | (with_reducible refine x_if ?_)
  | (with_reducible refine y_ifE ?_)
  | (with_reducible refine x_op ?_)
  | (with_reducible refine y_op1 ?_)
  | (with_reducible refine y_op2 ?_)
  | (with_reducible refine x_un ?_)
  | (with_reducible refine y_neg ?_)
  | (with_reducible refine x_c ?_)
  | (with_reducible refine x_fld ?_)
  | (with_reducible refine x_sfld ?_)
  | (with_reducible refine y_sf ?_)
  | (with_reducible refine x_nil ?_)
  | (with_reducible refine x_cons ?_)
  | (with_reducible refine y_c1 ?_)
  | (with_reducible refine y_c2 ?_)
  | (with_reducible refine x_callS ?_)
  | (with_reducible refine y_sp ?_)
  | (with_reducible refine x_meth ?_)
  | (with_reducible refine y_mt2 ?_)
  | (with_reducible refine x_make ?_)
  | (with_reducible refine y_mq ?_)
  | (with_reducible refine x_cb ?_)
  | (with_reducible refine y_cb ?_)
  | (with_reducible refine x_bm ?_)
  | (with_reducible refine y_bq ?_)
  | (with_reducible refine x_bm0 ?_)
  | (with_reducible refine x_rz ?_)
  | (with_reducible refine x_lst ?_)
  | (with_reducible refine x_tup ?_)
  | (with_reducible refine x_sub ?_)
  | (with_reducible refine y_sb1 ?_)
  | (with_reducible refine x_for1 ?_)
  | (with_reducible refine x_forL ?_)
  | (with_reducible refine x_for3 ?_)
  | (with_reducible refine x_forT ?_)
  | (with_reducible refine y_body ?_)
  | (with_reducible refine x_tru ?_)
  | (with_reducible refine y_trub ?_)
  | (with_reducible refine y_trui ?_)
  | (with_reducible refine y_trun ?_)
  | (with_reducible refine x_gcons ?_)
  | (with_reducible refine y_g ?_)
  | (with_reducible refine x_gnil ?_)
  | (with_reducible refine x_rev ?_)
  | (with_reducible refine x_sl ?_)
  | (with_reducible refine y_sl1 ?_)
  | (with_reducible refine y_sl2 ?_)
  | (with_reducible refine y_sl3 ?_)
  | (with_reducible refine x_nop ?_)
  | (with_reducible refine x_part ?_)
  | (with_reducible refine y_part ?_)
  | (with_reducible refine x_lrange1 ?_)
  | (with_reducible refine x_lrange2 ?_)
  | (with_reducible refine y_lr2 ?_)
  | (with_reducible refine x_addI ?_)
  | (with_reducible refine x_dget ?_)
  | (with_reducible refine y_dg1 ?_)
  | (with_reducible refine x_din ?_)
  | (with_reducible refine y_di1 ?_)
  | (with_reducible refine x_dnotin ?_)
  | (with_reducible refine y_dn1 ?_)
  | (with_reducible refine x_dput ?_)
  | (with_reducible refine y_dp1 ?_)
  | (with_reducible refine y_dp2 ?_)
  | (with_reducible refine x_dnew hS (fun u H hS => ?_))
  | (with_reducible refine x_disp hS (fun u H hS => ?_))
  | (with_reducible refine x_prs ?_)
  | (with_reducible refine y_pa ?_)
  | (with_reducible refine y_pb ?_)
  | (with_reducible refine x_prn ?_)
  | (with_reducible refine y_pc ?_)
  | (with_reducible refine x_m1 ?_)
  | (with_reducible refine y_m1a ?_)
  | (with_reducible refine y_m1b ?_)
  | (with_reducible refine x_lcS ?_)
  | (with_reducible refine x_get2 ?_)
  | (with_reducible refine y_gt2 ?_)
  | (with_reducible refine x_forK ?_)
  | (with_reducible refine y_bmd hS ?_)
  | (with_reducible refine y_bmd0 hS ?_)
  | (with_reducible refine x_keys hS (fun u H hS => ?_))
  | (with_reducible refine x_dcopy hS (fun u H hS => ?_))
  | (with_reducible refine y_gt1 hS ?_)
  | (with_reducible refine y_gt3s hS ?_)
  | (with_reducible refine y_dgo hS ?_)
  | (with_reducible refine y_dpo hS (fun H hS => ?_))
  | ((with_reducible refine x_try (fun pn xe tk po => ?_)); (try dsimp only [cxOf]))
  | (with_reducible refine x_lcT ?_)
  | (with_reducible refine x_lcL ?_)
  | (with_reducible refine x_lcR ?_)
  | (with_reducible refine y_tt ?_)
  | (with_reducible refine x_yes' ?_)
  | ((with_reducible refine' y_lcb ?h1 ?_); (case h1 => exact rfl))
  | (with_reducible refine x_I0 ?_)
  | (with_reducible refine x_eqI ?_)
  | (with_reducible refine x_neI ?_)
  | (with_reducible refine x_isN ?_)
  | (with_reducible refine x_notN ?_)
  | (with_reducible refine x_tt ?_)
  | (with_reducible refine x_ff ?_)
  | (with_reducible refine x_nt ?_)
  | (with_reducible refine x_nf ?_)
  | (with_reducible refine y_fld hS ?_)
  | (with_reducible refine y_meth hS ?_)
  | (with_reducible refine y_put hS (fun H hS => ?_))
  | ((with_reducible refine' x_var ?h1 ?_); (case h1 => exact rfl))
  | (with_reducible refine y_lst hS (by first | decide | (show _ ≤ sizeLine; simp only [List.length_cons, List.length_nil]; decide)) (fun u H hS => ?_))
  | (with_reducible refine y_tup hS (by first | decide | (show _ ≤ sizeLine; simp only [List.length_cons, List.length_nil]; decide)) (fun u H hS => ?_)))
local macro_rules | `(tactic| walk_at "s") => `(tactic| repeat walk_at "s1")
local macro_rules | `(tactic| walk_at "go") => `(tactic| (dsimp only [cxOf]; repeat walk_at "s1"))
local macro_rules | `(tactic| walk_at "w1") => `(tactic| first
  | (with_reducible refine x_stop ?_)
  | (with_reducible refine x_stopE ?_)
  | (with_reducible refine x_stopA ?_)
  | (with_reducible refine x_stopO ?_)
  | walk_at "s1"
  | walk_at "k1")
local macro_rules | `(tactic| walk_at "k1") => `(tactic| first
  | ((with_reducible refine' x_eqS ?h1 ?_); (case h1 => exact rfl))
  | ((with_reducible refine' x_neS ?h1 ?_); (case h1 => exact rfl))
  | ((with_reducible refine' x_yes ?h1 ?_); (case h1 => exact rfl))
  | ((with_reducible refine' x_no ?h1 ?_); (case h1 => exact rfl)))
local macro_rules | `(tactic| walk_at "w") => `(tactic| repeat walk_at "w1")
local macro_rules | `(tactic| walk_at "wo") => `(tactic| (dsimp only [cxOf]; repeat walk_at "w1"))
local macro_rules | `(tactic| walk_at "v") => `(tactic| repeat (first | walk_at "s1" | walk_at "k1"))

namespace TR
open PySem PySem.Spec PyProof.Rows L2
section
variable {P : Program} {w : World} {K : PySem.W.Frag} {mg : Str → Option Value} {base : Heap}
/-! ### the law's draws -/
/-- the script -/
def ScrA (K : PySem.W.Frag) (a : Addr) (ns : List Int) : As := fun h => SqL K h a (ns.map V.int)
instance {K : PySem.W.Frag} {a : Addr} {ns : List Int} : Kys (ScrA K a ns) a := ⟨trivial⟩
theorem Sep.scr {a : Addr} {ns : List Int} {L R : List As} {H : Hp} (h : Sep L H) [q : AtA a L (ScrA K a ns) R] : SqL K H a (ns.map V.int) := by
  obtain ⟨h1, h2, s1, s2, d, x, r⟩ := q.en H h
  exact SqL.sb s1 x
/-- how many draws -/
def TownA (t : Addr) (n : Nat) : As := pt t (.lst (List.replicate n (V.int 0)))
instance {t : Addr} {n : Nat} : Kys (TownA t n) t := ⟨trivial⟩
def lcell (ns : List Int) (k : Nat) : Int := if ns = [] then 0 else ns.getD (k % ns.length) 0
def lmix (ns : List Int) (k : Nat) : Int :=
  let a := (lcell ns k + 104729 * ((k : Int) + 1)) % 4294967291
  let b := a ^ 5 % 4294967279
  (b / 64 * 69621 + b) % 4294967231
def draw (ns : List Int) (n : Nat) (m : Int) : Int := lmix ns n / 8 % m
theorem draw_ok (ns : List Int) (n : Nat) {m : Int} (h : 0 < m) : 0 ≤ draw ns n m ∧ draw ns n m < m := ⟨Int.emod_nonneg _ (by omega), Int.emod_lt_of_pos _ h⟩
def sp_l_cell (K : PySem.W.Frag) : Sp := fun vs H Q E => ∃ (a : Addr) (ns : List Int) (k : Nat) (R : List As), vs = [.ref a, .int (k : Nat)] ∧ Sep (ScrA K a ns :: R) H ∧ Q (.int (lcell ns k)) H
theorem ln_l_cell : ∀ vs H Q E, sp_l_cell K vs H Q E → vs.length = (["_law_script", "_law_k"] : List Str).length := by
  rintro _ _ _ _ ⟨a, ns, k, R, rfl, _⟩
  rfl
theorem sc_l_cell : FnScope ["_law_script", "_law_k"] ["_law_script", "_law_k"] (defScope s_l_cell) := ⟨rfl, rfl, rfl, by decide +kernel, rfl, by decide +kernel, by decide +kernel⟩
theorem ok_l_cell (T : Top K mg) : OkD P w K mg base d_l_cell 1 ["_law_script", "_law_k"] (sp_l_cell K) := by
  refine okD (df_l_cell T) sc_l_cell (fun _ _ _ _ _ _ us hl => match us, hl with | [_, _], _ => rfl) ln_l_cell (fun cdv A outer s H vs Q E hr h => ⟨_,
      pss_cons (ps_if (px_truth (pv 0) (by intro _; rfl))
       (pss_one (ps_ret (pe_ix ix_seq (pv 0) (pe_op op_mod (pv 1) (pe_callB call_lenA (by rfl) (fr_len T) (by decide +kernel) (pa_cons (pv 0) pa_nil))) (fun _ _ => rfl))))
       (pss_nil))
      (pss_one (ps_ret pe_int)), ?_⟩)
  obtain ⟨a, ns, k, R, rfl, hS, h1⟩ := h
  have hL : SqL K H a (ns.map V.int) := hS.scr
  walk_at "go"
  refine y_trul hL ?_
  walk_at "s"
  cases ns with
  | nil =>
    walk_at "s"
    exact h1
  | cons z r =>
    walk_at "s"
    refine x_yes rfl ?_
    walk_at "s"
    refine x_lenL hL ?_
    walk_at "s"
    have hp : (0 : Int) < (((z :: r).map V.int).length : Nat) := by
      rw [List.length_map, List.length_cons]
      omega
    refine x_I hp ?_
    have e : (k : Int) % ((((z :: r).map V.int).length : Nat) : Int) = ((k % (z :: r).length : Nat) : Int) := by
      rw [List.length_map] <;> rfl
    rw [e]
    have hlt : k % (z :: r).length < (z :: r).length := Nat.mod_lt _ (by rw [List.length_cons]; omega)
    refine x_ixL hL (atI_nat (v := V.int ((z :: r).getD (k % (z :: r).length) 0)) (by rw [List.getElem?_map, getD_some (d := 0) hlt] <;> rfl)) ?_
    walk_at "s"
    have e2 : lcell (z :: r) k = (z :: r).getD (k % (z :: r).length) 0 := by
      unfold lcell
      rw [if_neg (by intro q; cases q)]
    rw [e2] at h1
    exact h1
def sp_l_mix (K : PySem.W.Frag) : Sp := fun vs H Q E => ∃ (a : Addr) (ns : List Int) (k : Nat) (R : List As), vs = [.ref a, .int (k : Nat)] ∧ Sep (ScrA K a ns :: R) H ∧ Q (.int (lmix ns k)) H
theorem ln_l_mix : ∀ vs H Q E, sp_l_mix K vs H Q E → vs.length = (["_law_script", "_law_k"] : List Str).length := by
  rintro _ _ _ _ ⟨a, ns, k, R, rfl, _⟩
  rfl
theorem sc_l_mix : FnScope ["_law_script", "_law_k", "_law_number"] ["_law_script", "_law_k"] (defScope s_l_mix) := ⟨rfl, rfl, rfl, by decide +kernel, rfl, by decide +kernel, by decide +kernel⟩
theorem ok_l_mix (T : Top K mg) : OkD P w K mg base d_l_mix 2 ["_law_script", "_law_k"] (sp_l_mix K) := by
  refine okD (df_l_mix T) sc_l_mix (fun _ _ _ _ _ _ us hl => match us, hl with | [_, _], _ => rfl) ln_l_mix (fun cdv A outer s H vs Q E hr h => ⟨_,
      pss_cons (ps_set (i := 2) sc_l_mix.nd rfl (Or.inl rfl) (pe_op op_mod (pe_op op_addA (px_call (ok_l_cell T) (hr.mono (by decide)) rfl (gl__law_cell T) (fun σ => paD σ) (pa_cons (pv 0) (pa_cons (pv 1) pa_nil))) (pe_op op_mulA pe_int (pe_op op_addA (pv 1) pe_int))) pe_int))
      (pss_cons (ps_set (i := 2) sc_l_mix.nd rfl (Or.inl rfl) (pe_op op_mod (pe_op op_pow (pv 2) pe_int) pe_int))
      (pss_one (ps_ret (pe_op op_mod (pe_op op_addA (pe_op op_mulA (pe_op op_fdiv (pv 2) pe_int) pe_int) (pv 2)) pe_int)))), ?_⟩)
  obtain ⟨a, ns, k, R, rfl, hS, h1⟩ := h
  walk_at "go"
  refine ⟨a, ns, k, R, rfl, hS, ?_⟩
  walk_at "s"
  refine x_mulI (.inl ⟨by decide, by decide⟩) ?_
  walk_at "s"
  refine x_I (by decide) ?_
  walk_at "s"
  have b1 := Int.emod_nonneg (lcell ns k + 104729 * ((k : Int) + 1)) (b := 4294967291) (by decide)
  have b2 := Int.emod_lt_of_pos (lcell ns k + 104729 * ((k : Int) + 1)) (b := 4294967291) (by decide)
  refine x_I ⟨by decide, by decide, by omega⟩ ?_
  walk_at "s"
  refine x_I (by decide) ?_
  walk_at "s"
  refine x_I ⟨by decide, by decide⟩ ?_
  walk_at "s"
  refine x_mulI (.inr ⟨by decide, by decide⟩) ?_
  walk_at "s"
  refine x_I (by decide) ?_
  walk_at "s"
  exact h1
theorem sz {n : Nat} (h : n ≤ 1000000) : n < sizeLine := Nat.lt_of_le_of_lt h (by decide)
theorem sz' {n : Nat} (h : n ≤ 1000000) : n ≤ sizeLine := Nat.le_of_lt (sz h)
def sp_l_draw (K : PySem.W.Frag) : Sp := fun vs H Q E => ∃ (a t : Addr) (ns : List Int) (n : Nat) (m : Int) (R : List As), vs = [.ref a, .ref t, .int m] ∧ 0 < m ∧ n ≤ 1000000 ∧ Sep (ScrA K a ns :: TownA t n :: R) H ∧
  ∀ H', Sep (ScrA K a ns :: TownA t (n + 1) :: R) H' → Q (.int (draw ns (n + 1) m)) H'
theorem ln_l_draw : ∀ vs H Q E, sp_l_draw K vs H Q E → vs.length = (["_law_script", "_law_town", "_law_many"] : List Str).length := by
  rintro _ _ _ _ ⟨a, t, ns, n, m, R, rfl, _⟩
  rfl
theorem sc_l_draw : FnScope ["_law_script", "_law_town", "_law_many"] ["_law_script", "_law_town", "_law_many"] (defScope s_l_draw) := ⟨rfl, rfl, rfl, by decide +kernel, rfl, by decide +kernel, by decide +kernel⟩
theorem ok_l_draw (T : Top K mg) : OkD P w K mg base d_l_draw 3 ["_law_script", "_law_town", "_law_many"] (sp_l_draw K) := by
  refine okD (df_l_draw T) sc_l_draw (fun _ _ _ _ _ _ us hl => match us, hl with | [_, _, _], _ => rfl) ln_l_draw (fun cdv A outer s H vs Q E hr h => ⟨_,
      pss_cons (ps_expr (pe_bm PySem.F.plainAttrs_list PySem.F.slot_list_append PySem.F.type_list_append mt_append (pv 1) (pa_cons pe_int pa_nil)))
      (pss_one (ps_ret (pe_op op_mod (pe_op op_fdiv (px_call (ok_l_mix T) (hr.mono (by decide)) rfl (gl__law_mix T) (fun σ => paD σ) (pa_cons (pv 0) (pa_cons (pe_callB call_lenA (by rfl) (fr_len T) (by decide +kernel) (pa_cons (pv 1) pa_nil)) pa_nil))) pe_int) (pv 2)))), ?_⟩)
  obtain ⟨a, t, ns, n, m, R, rfl, hm, hn, hS, h1⟩ := h
  replace hS : Sep (ScrA K a ns :: pt t (.lst (List.replicate n (V.int 0))) :: R) H := hS
  walk_at "go"
  refine y_bml (sqL hS) ?_
  walk_at "s"
  refine x_append hS (by rw [List.length_replicate]; exact sz hn) (fun H hS => ?_)
  have e : List.replicate n (V.int 0) ++ [V.int 0] = List.replicate (n + 1) (V.int 0) := List.replicate_succ'.symm
  rw [e] at hS
  walk_at "s"
  refine x_lenL (sqL hS) ?_
  walk_at "s"
  rw [List.length_replicate]
  refine ⟨a, ns, n + 1, _, rfl, hS.own a, ?_⟩
  walk_at "s"
  refine x_I ⟨by decide, by decide⟩ ?_
  walk_at "s"
  refine x_I hm ?_
  exact h1 _ (hS.of En.swap)
/-! ### a draw, a pick, by what is known of it -/
section
variable {a t q : Addr} {ns : List Int} {n : Nat} {m : Int} {xs : List V} {R : List As} {H : Hp} {Q : VK} {E : XK}
theorem draw_use (hm : 0 < m) (hn : n ≤ 1000000) (hS : Sep (ScrA K a ns :: TownA t n :: R) H) (k : ∀ (j : Nat) H', (j : Int) < m → Sep (ScrA K a ns :: TownA t (n + 1) :: R) H' → Q (.int (j : Nat)) H') : sp_l_draw K [.ref a, .ref t, .int m] H Q E := by
  refine ⟨a, t, ns, n, m, R, rfl, hm, hn, hS, fun H' hS' => ?_⟩
  have d := draw_ok ns (n + 1) hm
  have e : draw ns (n + 1) m = ((draw ns (n + 1) m).toNat : Nat) := by omega
  rw [e]
  exact k _ H' (by omega) hS'
end

theorem scr_sep {a : Addr} {ns : List Int} {H : Hp} (h : SqL K H a (ns.map V.int)) : Sep [ScrA K a ns] H := ⟨H, fun _ => none, Sb.refl H, empty_sb H, fun _ _ _ _ e => (nomatch e), h, trivial⟩
/-! ### the law's promise -/
def sp_law (K : PySem.W.Frag) : Sp := fun vs H Q E => ∃ (a : Addr) (ns : List Int), vs = [.ref a] ∧ Sep [ScrA K a ns] H ∧ ∀ H', Q (.bl true) H'
theorem ln_law : ∀ vs H Q E, sp_law K vs H Q E → vs.length = (["_law_script"] : List Str).length := by
  rintro _ _ _ _ ⟨a, ns, rfl, _⟩
  rfl
theorem law_start {a : Addr} {ns : List Int} {H : Hp} (hl : ns.length ≤ 63) (h : SqL K H a (ns.map V.int)) : sp_law K [.ref a] H (fun v _ => v = .bl true) (fun _ _ _ => False) := ⟨a, ns, rfl, scr_sep h, fun _ => rfl⟩

end
end TR

set_option Elab.async false
set_option linter.all false
set_option maxRecDepth 100000
set_option maxHeartbeats 4000000
/-! .. -/
set_option hygiene false
local macro_rules | `(tactic| walk_at "s1") => `(tactic| first
  | (with_reducible refine x_seq ?_)
  | (with_reducible refine x_asg ?_)
  | (with_reducible refine y_asg ?_)
  | (with_reducible refine x_name ?_)
  | (with_reducible refine x_ifS ?_)
  | (with_reducible refine y_ifS ?_)
  | (with_reducible refine x_ret ?_)
  | (with_reducible refine x_retN ?_)
  | (with_reducible refine x_drop ?_)
  | (with_reducible refine y_drop ?_)
  | (with_reducible refine x_next ?_)
  | (with_reducible refine x_cont ?_)
  | (with_reducible refine x_test ?_)
  | (with_reducible refine x_tB ?_)
  | (with_reducible refine y_test ?_)
  | (with_reducible refine x_not ?_)
  | (with_reducible refine y_not ?_)
  | (with_reducible refine x_and ?_)
  | (with_reducible refine y_and ?_)
  | (with_reducible refine x_or ?_)
  | (with_reducible refine y_or ?_)
  | (with_reducible refine x_chain ?_)
  | (with_reducible refine y_ch1 ?_)
  | (with_reducible refine y_ch2 ?_)
  | (with_reducible refine y_ch3 ?_)
  | (with_reducible refine x_andV ?_)
  | (with_reducible refine y_andV ?_)
  | (with_reducible refine x_orV ?_)
  | (with_reducible refine y_orV ?_)
  | (with_reducible refine x_notV ?_)
  | (with_reducible refine y_notV ?_)
  | (with_reducible refine x_if ?_)
  | (with_reducible refine y_ifE ?_)
  | (with_reducible refine x_op ?_)
  | (with_reducible refine y_op1 ?_)
  | (with_reducible refine y_op2 ?_)
  | (with_reducible refine x_un ?_)
  | (with_reducible refine y_neg ?_)
  | (with_reducible refine x_c ?_)
  | (with_reducible refine x_fld ?_)
  | (with_reducible refine x_sfld ?_)
  | (with_reducible refine y_sf ?_)
  | (with_reducible refine x_nil ?_)
  | (with_reducible refine x_cons ?_)
  | (with_reducible refine y_c1 ?_)
  | (with_reducible refine y_c2 ?_)
  | (with_reducible refine x_callS ?_)
  | (with_reducible refine y_sp ?_)
  | (with_reducible refine x_meth ?_)
  | (with_reducible refine y_mt2 ?_)
  | (with_reducible refine x_make ?_)
  | (with_reducible refine y_mq ?_)
  | (with_reducible refine x_cb ?_)
  | (with_reducible refine y_cb ?_)
  | (with_reducible refine x_bm ?_)
  | (with_reducible refine y_bq ?_)
  | (with_reducible refine x_bm0 ?_)
  | (with_reducible refine x_rz ?_)
  | (with_reducible refine x_lst ?_)
  | (with_reducible refine x_tup ?_)
  | (with_reducible refine x_sub ?_)
  | (with_reducible refine y_sb1 ?_)
  | (with_reducible refine x_for1 ?_)
  | (with_reducible refine x_forL ?_)
  | (with_reducible refine x_for3 ?_)
  | (with_reducible refine x_forT ?_)
  | (with_reducible refine y_body ?_)
  | (with_reducible refine x_tru ?_)
  | (with_reducible refine y_trub ?_)
  | (with_reducible refine y_trui ?_)
  | (with_reducible refine y_trun ?_)
  | (with_reducible refine x_gcons ?_)
  | (with_reducible refine y_g ?_)
  | (with_reducible refine x_gnil ?_)
  | (with_reducible refine x_rev ?_)
  | (with_reducible refine x_sl ?_)
  | (with_reducible refine y_sl1 ?_)
  | (with_reducible refine y_sl2 ?_)
  | (with_reducible refine y_sl3 ?_)
  | (with_reducible refine x_nop ?_)
  | (with_reducible refine x_part ?_)
  | (with_reducible refine y_part ?_)
  | (with_reducible refine x_lrange1 ?_)
  | (with_reducible refine x_lrange2 ?_)
  | (with_reducible refine y_lr2 ?_)
  | (with_reducible refine x_addI ?_)
  | (with_reducible refine x_dget ?_)
  | (with_reducible refine y_dg1 ?_)
  | (with_reducible refine x_din ?_)
  | (with_reducible refine y_di1 ?_)
  | (with_reducible refine x_dnotin ?_)
  | (with_reducible refine y_dn1 ?_)
  | (with_reducible refine x_dput ?_)
  | (with_reducible refine y_dp1 ?_)
  | (with_reducible refine y_dp2 ?_)
  | (with_reducible refine x_dnew hS (fun u H hS => ?_))
  | (with_reducible refine x_disp hS (fun u H hS => ?_))
  | (with_reducible refine x_prs ?_)
  | (with_reducible refine y_pa ?_)
  | (with_reducible refine y_pb ?_)
  | (with_reducible refine x_prn ?_)
  | (with_reducible refine y_pc ?_)
  | (with_reducible refine x_m1 ?_)
  | (with_reducible refine y_m1a ?_)
  | (with_reducible refine y_m1b ?_)
  | (with_reducible refine x_lcS ?_)
  | (with_reducible refine x_get2 ?_)
  | (with_reducible refine y_gt2 ?_)
  | (with_reducible refine x_forK ?_)
  | (with_reducible refine y_bmd hS ?_)
  | (with_reducible refine y_bmd0 hS ?_)
  | (with_reducible refine x_keys hS (fun u H hS => ?_))
  | (with_reducible refine x_dcopy hS (fun u H hS => ?_))
  | (with_reducible refine y_gt1 hS ?_)
  | (with_reducible refine y_gt3s hS ?_)
  | (with_reducible refine y_dgo hS ?_)
  | (with_reducible refine y_dpo hS (fun H hS => ?_))
  | ((with_reducible refine x_try (fun pn xe tk po => ?_)); (try dsimp only [cxOf]))
  | (with_reducible refine x_lcT ?_)
  | (with_reducible refine x_lcL ?_)
  | (with_reducible refine x_lcR ?_)
  | (with_reducible refine y_tt ?_)
  | (with_reducible refine x_yes' ?_)
  | ((with_reducible refine' y_lcb ?h1 ?_); (case h1 => exact rfl))
  | (with_reducible refine x_I0 ?_)
  | (with_reducible refine x_eqI ?_)
  | (with_reducible refine x_neI ?_)
  | (with_reducible refine x_isN ?_)
  | (with_reducible refine x_notN ?_)
  | (with_reducible refine x_tt ?_)
  | (with_reducible refine x_ff ?_)
  | (with_reducible refine x_nt ?_)
  | (with_reducible refine x_nf ?_)
  | (with_reducible refine y_fld hS ?_)
  | (with_reducible refine y_meth hS ?_)
  | (with_reducible refine y_put hS (fun H hS => ?_))
  | ((with_reducible refine' x_var ?h1 ?_); (case h1 => exact rfl))
  | (with_reducible refine y_lst hS (by first | decide | (show _ ≤ sizeLine; simp only [List.length_cons, List.length_nil]; decide)) (fun u H hS => ?_))
  | (with_reducible refine y_tup hS (by first | decide | (show _ ≤ sizeLine; simp only [List.length_cons, List.length_nil]; decide)) (fun u H hS => ?_)))
local macro_rules | `(tactic| walk_at "s") => `(tactic| repeat walk_at "s1")
local macro_rules | `(tactic| walk_at "go") => `(tactic| (dsimp only [cxOf]; repeat walk_at "s1"))
local macro_rules | `(tactic| walk_at "w1") => `(tactic| first
  | (with_reducible refine x_stop ?_)
  | (with_reducible refine x_stopE ?_)
  | (with_reducible refine x_stopA ?_)
  | (with_reducible refine x_stopO ?_)
  | walk_at "s1"
  | walk_at "k1")
local macro_rules | `(tactic| walk_at "k1") => `(tactic| first
  | ((with_reducible refine' x_eqS ?h1 ?_); (case h1 => exact rfl))
  | ((with_reducible refine' x_neS ?h1 ?_); (case h1 => exact rfl))
  | ((with_reducible refine' x_yes ?h1 ?_); (case h1 => exact rfl))
  | ((with_reducible refine' x_no ?h1 ?_); (case h1 => exact rfl)))
local macro_rules | `(tactic| walk_at "w") => `(tactic| repeat walk_at "w1")
local macro_rules | `(tactic| walk_at "wo") => `(tactic| (dsimp only [cxOf]; repeat walk_at "w1"))
local macro_rules | `(tactic| walk_at "v") => `(tactic| repeat (first | walk_at "s1" | walk_at "k1"))

namespace TR
open PySem PySem.Spec PyProof.Rows L2
section
variable {P : Program} {w : World} {K : PySem.W.Frag} {mg : Str → Option Value} {base : Heap}
def sp_l_pick (K : PySem.W.Frag) : Sp := fun vs H Q E => ∃ (a t q : Addr) (ns : List Int) (n : Nat) (xs : List V) (R : List As), vs = [.ref a, .ref t, .ref q] ∧ xs ≠ [] ∧ n ≤ 1000000 ∧ Sep (ScrA K a ns :: TownA t n :: pt q (.lst xs) :: R) H ∧
  ∀ H', Sep (ScrA K a ns :: TownA t (n + 1) :: pt q (.lst xs) :: R) H' → Q (xs.getD (draw ns (n + 1) (xs.length : Nat)).toNat .non) H'
theorem ln_l_pick : ∀ vs H Q E, sp_l_pick K vs H Q E → vs.length = (["_law_script", "_law_town", "_law_some"] : List Str).length := by
  rintro _ _ _ _ ⟨a, t, q, ns, n, xs, R, rfl, _⟩
  rfl
theorem sc_l_pick : FnScope ["_law_script", "_law_town", "_law_some"] ["_law_script", "_law_town", "_law_some"] (defScope s_l_pick) := ⟨rfl, rfl, rfl, by decide +kernel, rfl, by decide +kernel, by decide +kernel⟩
theorem ok_l_pick (T : Top K mg) : OkD P w K mg base d_l_pick 4 ["_law_script", "_law_town", "_law_some"] (sp_l_pick K) := by
  refine okD (df_l_pick T) sc_l_pick (fun _ _ _ _ _ _ us hl => match us, hl with | [_, _, _], _ => rfl) ln_l_pick (fun cdv A outer s H vs Q E hr h => ⟨_,
      pss_one (ps_ret (pe_ix ix_seq (pv 2) (px_call (ok_l_draw T) (hr.mono (by decide)) rfl (gl__law_draw T) (fun σ => paD σ) (pa_cons (pv 0) (pa_cons (pv 1) (pa_cons (pe_callB call_lenA (by rfl) (fr_len T) (by decide +kernel) (pa_cons (pv 2) pa_nil)) pa_nil)))) (fun _ _ => rfl))), ?_⟩)
  obtain ⟨a, t, q, ns, n, xs, R, rfl, hx, hn, hS, h1⟩ := h
  have hl : 0 < xs.length := List.length_pos_iff.mpr hx
  walk_at "go"
  refine x_lenL (sqL hS) ?_
  walk_at "s"
  refine ⟨a, t, ns, n, _, _, rfl, by omega, hn, hS.own2 a t, fun H hS => ?_⟩
  walk_at "s"
  have d := draw_ok ns (n + 1) (m := (xs.length : Nat)) (by omega)
  refine x_ixL (sqL hS) (atI_some d.1 (getD_some (d := .non) (by omega))) ?_
  exact h1 _ hS
section
variable {a t q : Addr} {ns : List Int} {n : Nat} {m : Int} {xs : List V} {R : List As} {H : Hp} {Q : VK} {E : XK}
theorem pick_use (hx : xs ≠ []) (hn : n ≤ 1000000) (hS : Sep (ScrA K a ns :: TownA t n :: pt q (.lst xs) :: R) H) (k : ∀ v H', v ∈ xs → Sep (ScrA K a ns :: TownA t (n + 1) :: pt q (.lst xs) :: R) H' → Q v H') : sp_l_pick K [.ref a, .ref t, .ref q] H Q E := by
  refine ⟨a, t, q, ns, n, xs, R, rfl, hx, hn, hS, fun H' hS' => k _ H' ?_ hS'⟩
  have hl : 0 < xs.length := List.length_pos_iff.mpr hx
  have d := draw_ok ns (n + 1) (m := (xs.length : Nat)) (by omega)
  rw [List.getD_eq_getElem?_getD, List.getElem?_eq_getElem (by omega)]
  exact List.getElem_mem _
end
/-! ### refusals -/
inductive Kd where
  | tune | number | entry | word
  deriving DecidableEq
def Kd.cls : Kd → Str
  | .tune => "BadTune" | .number => "BadNumber" | .entry => "BadEntry" | .word => "BadWord"
def Kd.txt : Kd → Str
  | .tune => "tune" | .number => "number" | .entry => "entry" | .word => "word"
def Kd.ix : Kd → Nat
  | .tune => 0 | .number => 1 | .entry => 2 | .word => 3
/-- the tuple ("refused", k) -/
abbrev RefR (p : Addr) (k : Kd) : As := pt p (.tup [.str "refused", .str k.txt])
theorem xb_kd (T : Top K mg) (k : Kd) : ExcC K (He.ga K k.cls) := match k with
  | .tune => xb_BadTune T | .number => xb_BadNumber T | .entry => xb_BadEntry T | .word => xb_BadWord T
theorem kiT (T : Top K mg) (k : Kd) : PySem.W.kitOne K (.ref (He.ga K k.cls)) (.ref (He.ga K "BadTune")) = some (decide (k = .tune)) := match k with
  | .tune => ki_BadTune_BadTune T | .number => ki_BadNumber_BadTune T | .entry => ki_BadEntry_BadTune T | .word => ki_BadWord_BadTune T
theorem kiN (T : Top K mg) (k : Kd) : PySem.W.kitOne K (.ref (He.ga K k.cls)) (.ref (He.ga K "BadNumber")) = some (decide (k = .number)) := match k with
  | .tune => ki_BadTune_BadNumber T | .number => ki_BadNumber_BadNumber T | .entry => ki_BadEntry_BadNumber T | .word => ki_BadWord_BadNumber T
theorem kiE (T : Top K mg) (k : Kd) : PySem.W.kitOne K (.ref (He.ga K k.cls)) (.ref (He.ga K "BadEntry")) = some (decide (k = .entry)) := match k with
  | .tune => ki_BadTune_BadEntry T | .number => ki_BadNumber_BadEntry T | .entry => ki_BadEntry_BadEntry T | .word => ki_BadWord_BadEntry T
theorem kiW (T : Top K mg) (k : Kd) : PySem.W.kitOne K (.ref (He.ga K k.cls)) (.ref (He.ga K "BadWord")) = some (decide (k = .word)) := match k with
  | .tune => ki_BadTune_BadWord T | .number => ki_BadNumber_BadWord T | .entry => ki_BadEntry_BadWord T | .word => ki_BadWord_BadWord T
theorem kiV (T : Top K mg) (k : Kd) : PySem.W.kitOne K (.ref (He.ga K k.cls)) (.type "ValueError") = some true := match k with
  | .tune => ki_BadTune_ValueError T | .number => ki_BadNumber_ValueError T | .entry => ki_BadEntry_ValueError T | .word => ki_BadWord_ValueError T
def Kd.bl (k : Kd) : List Bool := [decide (k = .tune), decide (k = .number), decide (k = .entry), decide (k = .word)]
theorem bl_count (k : Kd) : k.bl.count true = 1 := by cases k <;> rfl
theorem bl_at (k : Kd) : (k.bl.map V.bl)[k.ix]? = some (.bl true) := by cases k <;> rfl
theorem bl_ahead (k : Kd) : ∀ (m : Nat) (z' : V), m < k.ix → (k.bl.map V.bl)[m]? = some z' → eqV z' (.bl true) = false := by
  intro m z' h1 h2
  cases k with
  | tune => exact absurd h1 (Nat.not_lt_zero _)
  | number =>
    have e : m = 0 := by
      have : m < 1 := h1
      omega
    subst e
    cases h2
    rfl
  | entry =>
    have e : m = 0 ∨ m = 1 := by
      have : m < 2 := h1
      omega
    rcases e with rfl | rfl <;> (cases h2; rfl)
  | word =>
    have e : m = 0 ∨ m = 1 ∨ m = 2 := by
      have : m < 3 := h1
      omega
    rcases e with rfl | rfl | rfl <;> (cases h2; rfl)
theorem bl_flat (k : Kd) : (k.bl.map V.bl).all flatV = true := by cases k <;> rfl
theorem kd_word (k : Kd) : ([.str "tune", .str "number", .str "entry", .str "word"] : List V)[k.ix]? = some (.str k.txt) := by cases k <;> rfl
def sp_l_refusal (K : PySem.W.Frag) : Sp := fun vs H Q E => ∃ (p : Addr) (k : Kd) (R : List As), vs = [.ref p] ∧ Sep (pt p (ExA (.ref (He.ga K k.cls)) p) :: R) H ∧ ∀ u H', Sep (RefR u k :: R) H' → Q (.ref u) H'
theorem ln_l_refusal : ∀ vs H Q E, sp_l_refusal K vs H Q E → vs.length = (["_law_held"] : List Str).length := by
  rintro _ _ _ _ ⟨p, k, R, rfl, _⟩
  rfl
theorem sc_l_refusal : FnScope ["_law_held", "_law_kinds"] ["_law_held"] (defScope s_l_refusal) := ⟨rfl, rfl, rfl, by decide +kernel, rfl, by decide +kernel, by decide +kernel⟩
theorem ok_l_refusal (T : Top K mg) : OkD P w K mg base d_l_refusal 1 ["_law_held"] (sp_l_refusal K) := by
  refine okD (df_l_refusal T) sc_l_refusal (fun _ _ _ _ _ _ us hl => match us, hl with | [_], _ => rfl) ln_l_refusal (fun cdv A outer s H vs Q E hr h => ⟨_,
      pss_cons (ps_if (pt_cmpR op_isN1 (pv 0) pe_non (nomark _))
       (pss_one (ps_ret (pe_tup (pa_cons pe_str pa_nil))))
       (pss_nil))
      (pss_cons (ps_set (i := 1) sc_l_refusal.nd rfl (Or.inl rfl) (pe_lst (pa_cons (pe_callB call_isX (by rfl) (fr_isinstance T) (by decide +kernel) (pa_cons (pv 0) (pa_cons (px_ref rfl (gl_BadTune T)) pa_nil))) (pa_cons (pe_callB call_isX (by rfl) (fr_isinstance T) (by decide +kernel) (pa_cons (pv 0) (pa_cons (px_ref rfl (gl_BadNumber T)) pa_nil))) (pa_cons (pe_callB call_isX (by rfl) (fr_isinstance T) (by decide +kernel) (pa_cons (pv 0) (pa_cons (px_ref rfl (gl_BadEntry T)) pa_nil))) pa_nil)))))
      (pss_cons (ps_expr (pe_bm PySem.F.plainAttrs_list PySem.F.slot_list_append PySem.F.type_list_append mt_append (pv 1) (pa_cons (pe_callB call_isX (by rfl) (fr_isinstance T) (by decide +kernel) (pa_cons (pv 0) (pa_cons (px_ref rfl (gl_BadWord T)) pa_nil))) pa_nil)))
      (pss_cons (ps_if (PW.pt (pw_or (pt_cmpR (op_neA hr.units) (pe_bm PySem.F.plainAttrs_list PySem.F.slot_list_count PySem.F.type_list_count mt_countB (pv 1) (pa_cons pe_bl pa_nil)) pe_int (nomark _)) (pw_or1 (pt_not (px_truth (pe_callB call_isX (by rfl) (fr_isinstance T) (by decide +kernel) (pa_cons (pv 0) (pa_cons (pe_bltn (v := .ty "ValueError") (u := .type "ValueError") rfl (fr_ValueError T) (by decide +kernel) rfl) pa_nil))) (by intro _; rfl))))))
       (pss_one (ps_ret (pe_tup (pa_cons pe_str pa_nil))))
       (pss_nil))
      (pss_one (ps_ret (pe_tup (pa_cons pe_str (pa_cons (pe_ix ix_seq (pe_lst (pa_cons pe_str (pa_cons pe_str (pa_cons pe_str (pa_cons pe_str pa_nil))))) (pe_bm PySem.F.plainAttrs_list PySem.F.slot_list_index PySem.F.type_list_index mt_index (pv 1) (pa_cons pe_bl pa_nil)) (fun _ _ => rfl)) pa_nil)))))))), ?_⟩)
  obtain ⟨p, k, R, rfl, hS, h1⟩ := h
  walk_at "go"
  refine x_no rfl ?_
  walk_at "s"
  refine x_isX hS (xb_kd T k) (kiT T k) ?_
  walk_at "s"
  refine x_isX hS (xb_kd T k) (kiN T k) ?_
  walk_at "s"
  refine x_isX hS (xb_kd T k) (kiE T k) ?_
  walk_at "s"
  refine y_bml (sqL hS) ?_
  walk_at "s"
  refine x_isX hS (xb_kd T k) (kiW T k) ?_
  walk_at "s"
  refine x_append hS (by show 3 < sizeLine; decide) (fun H hS => ?_)
  walk_at "s"
  replace hS : Sep (pt u (.lst (k.bl.map V.bl)) :: pt p (ExA (.ref (He.ga K k.cls)) p) :: R) H := hS
  refine y_bml (sqL hS) ?_
  walk_at "s"
  refine x_cntB (bs := k.bl) (sqL hS) ?_
  walk_at "s"
  rw [bl_count]
  refine x_ndec (fun h => absurd rfl h) (fun _ => ?_)
  walk_at "s"
  refine x_isXT hS (xb_kd T k) (kiV T k) ?_
  walk_at "s"
  refine y_bml (sqL hS) ?_
  walk_at "s"
  refine x_index (j := k.ix) (z := .bl true) (sqL hS) rfl (bl_flat k) (bl_at k) rfl (bl_ahead k) ?_
  walk_at "s"
  refine x_ixL (sqL hS) (atI_nat (kd_word k)) ?_
  walk_at "s"
  exact h1 _ _ (hS.of (En.cons (En.drop (En.drop (En.drop En.refl)))))
abbrev refD (k : Kd) : PyData := .tuple [.str "refused", .str k.txt]
theorem refD_dp {p : Addr} {k : Kd} {L R : List As} {H : Hp} (h : Sep L H) [q : At p L (.tup [.str "refused", .str k.txt]) R] : Dp K H (.ref p) (refD k) := .tup (SqT.of h.at_) (.cons (.str _) (.cons (.str _) .nil))
theorem refD_sh (k : Kd) : SeqAt.shaped (refD k) = true := by cases k <;> decide +kernel

end
end TR

set_option Elab.async false
set_option linter.all false
set_option maxRecDepth 100000
set_option maxHeartbeats 4000000
/-! More steps: dicts with named things in them, dict displays, optional numbers, filters. -/
namespace TR
open PySem PySem.Spec PyProof.Rows L2
/-- what stands at a name in a dict -/
class DGs (kvs : List (Key × V)) (k : Str) (v : outParam V) : Prop where
  h : valV kvs (.inr k) = some v
class DPs (kvs : List (Key × V)) (k : Str) (v : V) (kvs' : outParam (List (Key × V))) : Prop where
  h : putK kvs (.inr k) v = kvs'
  hl : kvs.length ≤ 1000000
def oV : Option Int → V
  | none => .non
  | some i => .int i
def hasO (e : Option Int) (ns : List Int) : Bool := match e with
  | none => false
  | some i => decide (i ∈ ns)
def kPa (tv : TE) (trs : List (TE × TE)) (σ : L2.St) (Q : List (V × V) → Hp → Prop) : VK := fun x H => tv σ H fun y H2 => tPairs trs σ H2 fun ps H3 => Q ((x, y) :: ps) H3
def kPb (x : V) (trs : List (TE × TE)) (σ : L2.St) (Q : List (V × V) → Hp → Prop) : VK := fun y H2 => tPairs trs σ H2 fun ps H3 => Q ((x, y) :: ps) H3
def kPc (x y : V) (Q : List (V × V) → Hp → Prop) : List (V × V) → Hp → Prop := fun ps H3 => Q ((x, y) :: ps) H3
def kDsp (p : Addr) (Q : VK) : List (V × V) → Hp → Prop := fun ps H2 => H2 p = some (.dK []) ∧ ∃ kvs : List (Key × V), ps = kvs.map (fun kv => (kV kv.1, kv.2)) ∧ kvs.length ≤ 15 ∧ Q (.ref p) (upd H2 p (.dK (mergeK [] kvs)))
section
variable {K : PySem.W.Frag} {σ : L2.St} {H : Hp} {v x y : V} {Q : VK} {p q : Addr} {L R R' : List As} {te td ty tv tk : TE} {t : TS} {D : Ends} {kvs kvs' : List (Key × V)} {k : Str}
theorem y_dgo {s : Str} (hS : Sep L H) [a : At p L (.dK kvs) R] [d : DGs kvs s v] (q : Q v H) : kDg2 (.ref p) Q (.str s) H := y_dgs hS d.h q
theorem y_dpo {s : Str} (hS : Sep L H) [a : At p L (.dK kvs) R] [d : DPs kvs s v kvs'] (q : ∀ H', Sep (pt p (.dK kvs') :: R) H' → D.nx σ H') : kDp3 v (.ref p) D σ (.str s) H := y_dps hS d.hl fun H' h => q H' (d.h ▸ h)
theorem x_disp {trs : List (TE × TE)} (hS : Sep L H) (q : ∀ p H', Sep (pt p (.dK []) :: L) H' → tPairs trs σ H' (kDsp p Q)) : tDisp trs σ H Q := fun p hp => q p _ (Sep.new hp hS)
theorem x_prs {trs : List (TE × TE)} {Q : List (V × V) → Hp → Prop} (q : tk σ H (kPa tv trs σ Q)) : tPairs ((tk, tv) :: trs) σ H Q := q
theorem y_pa {trs : List (TE × TE)} {Q : List (V × V) → Hp → Prop} (q : tv σ H (kPb x trs σ Q)) : kPa tv trs σ Q x H := q
theorem y_pb {trs : List (TE × TE)} {Q : List (V × V) → Hp → Prop} (q : tPairs trs σ H (kPc x y Q)) : kPb x trs σ Q y H := q
theorem y_pc {ps : List (V × V)} {Q : List (V × V) → Hp → Prop} (q : Q ((x, y) :: ps) H) : kPc x y Q ps H := q
theorem x_prn {Q : List (V × V) → Hp → Prop} (q : Q [] H) : tPairs [] σ H Q := q
theorem y_dsp {ps : List (V × V)} (hS : Sep L H) [a : At p L (.dK []) R] (kvs : List (Key × V)) (e : ps = kvs.map (fun kv => (kV kv.1, kv.2))) (hl : kvs.length ≤ 15) (hm : mergeK [] kvs = kvs') (q : ∀ H', Sep (pt p (.dK kvs') :: R) H' → Q (.ref p) H') : kDsp p Q ps H :=
  ⟨hS.at_, kvs, e, hl, hm ▸ q _ (hm ▸ Sep.put (o := .dK []) (fun z => z) (a.en H hS))⟩
theorem in_oV (e : Option Int) (ns : List Int) : inV (oV e) (ns.map V.int) = hasO e ns := by
  cases e with
  | some i => exact in_ints i ns
  | none =>
    unfold inV
    rw [List.any_map]
    exact List.any_eq_false.mpr fun n _ => (by intro z; cases z)
theorem flat_oV (e : Option Int) : flatV (oV e) = true := by cases e <;> rfl
theorem x_inO {e : Option Int} {ns : List Int} (h : SqL K H p (ns.map V.int)) (q : Q (.bl (hasO e ns)) H) : rIn K false (oV e) (.ref p) H Q := x_in h (flat_oV e) (flat_ints ns) (by rw [in_oV]; exact q)
theorem x_ninO {e : Option Int} {ns : List Int} (h : SqL K H p (ns.map V.int)) (q : Q (.bl (!hasO e ns)) H) : rIn K true (oV e) (.ref p) H Q := x_nin h (flat_oV e) (flat_ints ns) (by rw [in_oV]; exact q)
theorem oV_inj {a b : Option Int} : oV a = oV b ↔ a = b := by
  constructor
  · intro h
    cases a <;> cases b
    · rfl
    · cases h
    · cases h
    · cases h; rfl
  · rintro rfl; rfl
theorem scal_o (a b : Option Int) : scal (oV a) (oV b) = true := by cases a <;> cases b <;> rfl
theorem x_eqO {a b : Option Int} (q : Q (.bl (decide (a = b))) H) : rEqA K (oV a) (oV b) H Q := x_eqS (scal_o a b) (by rw [show decide (oV a = oV b) = decide (a = b) from decide_eq_decide.mpr oV_inj]; exact q)
theorem x_neO {a b : Option Int} (q : Q (.bl (!decide (a = b))) H) : rNeA K (oV a) (oV b) H Q := x_neS (scal_o a b) (by rw [show decide (oV a = oV b) = decide (a = b) from decide_eq_decide.mpr oV_inj]; exact q)
theorem x_eqI1 {i : Int} {b : Option Int} (q : Q (.bl (decide (some i = b))) H) : rEqA K (.int i) (oV b) H Q := x_eqO (a := some i) q
theorem x_neI1 {i : Int} {b : Option Int} (q : Q (.bl (!decide (some i = b))) H) : rNeA K (.int i) (oV b) H Q := x_neO (a := some i) q
theorem x_neJ {i : Int} {b : Option Int} (q : Q (.bl (!decide (some i = b))) H) : rNe (.int i) (oV b) H Q := ⟨scal_o (some i) b, by rw [show decide (V.int i = oV b) = decide (some i = b) from decide_eq_decide.mpr (oV_inj (a := some i))]; exact q⟩
theorem x_isO {e : Option Int} (q : Q (.bl (decide (e = none))) H) : rIsN (oV e) .non H Q := x_isN (by rw [show decide (oV e = V.non) = decide (e = none) from decide_eq_decide.mpr (oV_inj (b := none))]; exact q)
/-- a list against an empty one -/
theorem eqv_nil (ns : List Int) : PyData.eqv (.list (ns.map PyData.int)) (.list ([].map PyData.int)) = ns.isEmpty := by cases ns <;> rfl
theorem x_eqLn {ns : List Int} (h : SqL K H p (ns.map V.int)) (h2 : SqL K H q []) (k : Q (.bl ns.isEmpty) H) : rEqA K (.ref p) (.ref q) H Q :=
  x_eqD (dp_ints (ns := ns) h) (dp_ints (ns := []) h2) (shaped_ints ns) (shaped_ints []) (by rw [eqv_nil]; exact k)
theorem x_neLn {ns : List Int} (h : SqL K H p (ns.map V.int)) (h2 : SqL K H q []) (k : Q (.bl (!ns.isEmpty)) H) : rNeA K (.ref p) (.ref q) H Q :=
  x_neD (dp_ints (ns := ns) h) (dp_ints (ns := []) h2) (shaped_ints ns) (shaped_ints []) (by rw [eqv_nil]; exact k)
theorem x_pop0 {n : Int} {r : List Int} (hS : Sep L H) [a : At p L (.lst ((n :: r).map V.int)) R] (q : ∀ H', Sep (pt p (.lst (r.map V.int)) :: R) H' → Q (.int n) H') : rPopAt (.ref p) [.int 0] H Q :=
  ⟨p, (n :: r).map V.int, 0, 0, .int n, rfl, rfl, hS.at_, by decide, by decide, by
    rw [List.length_map, List.length_cons]
    simp [seqIndex?], rfl, q _ (Sep.put (o := .lst ((n :: r).map V.int)) (fun z => z) (a.en H hS))⟩
/-- [x for x in a list of numbers if ..] -/
theorem y_lcF {g : TG} {tt : TT} {vs : List Nat} {ns : List Int} (f : Int → Bool) (hS : Sep L H) [a : At p L (.lst (ns.map V.int)) R] (hn : ns.length ≤ 100000)
    (hs : ∀ D (acc : List Int) x H, acc.length ≤ 100000 → Sep (pt D (.lst (acc.map V.int)) :: L) H → g (.int x) (wipe σ vs) H (kLcb tt te D σ vs (fun H' => Sep (pt D (.lst ((if f x then acc ++ [x] else acc).map V.int)) :: L) H')))
    (hd : ∀ D H, Sep (pt D (.lst ((ns.filter f).map V.int)) :: L) H → Q (.ref D) H) : kLcL K g tt te vs σ Q (.ref p) H := by
  refine y_lcL (xs := ns.map V.int) (sqL hS) hS (fun D i H => Sep (pt D (.lst (((ns.take i).filter f).map V.int)) :: L) H) (fun D H h => h) (fun D i H _ h => sqL h) ?_ ?_
  · intro D i x H hx hS
    rw [List.getElem?_map] at hx
    obtain ⟨n, hn', rfl⟩ := Option.map_eq_some_iff.mp hx
    have hl := (List.getElem?_eq_some_iff.mp hn').1
    have e : (ns.take (i + 1)).filter f = if f n then (ns.take i).filter f ++ [n] else (ns.take i).filter f := by
      rw [List.take_add_one, hn', List.filter_append]
      cases hf : f n
      · simp [hf]
      · simp [hf]
    rw [e]
    refine hs D _ n H ?_ hS
    exact Nat.le_trans (List.length_filter_le _ _) (Nat.le_trans (List.length_take_le' _ _) hn)
  · intro D H h
    rw [List.length_map, List.take_length] at h
    exact hd D H h
end
/-- [e for k in range(n)] -/
def kLcR (g : TG) (tt : TT) (te : TE) (vs : List Nat) (σ : L2.St) (Q : VK) : List V → Hp → Prop := fun xs H1 => ∃ j : Int, xs = [.int j] ∧ -(2 ^ 62) ≤ j ∧ j < 2 ^ 62 ∧ ∀ D, H1 D = none → ∃ W : Nat → Nat → Hp → Prop, (∃ m, W 0 m (upd H1 D (.lst []))) ∧ ∀ i m H, W i m H →
  ((Itr 0 j.toNat).stop i H ∧ Q (.ref D) H) ∨ ((Itr 0 j.toNat).go i H ∧ ∃ Nx : Hp → Prop, (∀ H', Nx H' → ∃ m', m' < m ∧ W (i + 1) m' H') ∧ ∀ x H', (Itr 0 j.toNat).yld i H x H' → g x (wipe σ vs) H' fun σ2 H2 => wipe σ2 vs = wipe σ vs ∧ tt σ2 H2 fun b H3 =>
    if b = true then te σ2 H3 fun y H4 => ∃ acc, H4 D = some (.lst acc) ∧ acc.length < sizeLine ∧ Nx (upd H4 D (.lst (acc ++ [y]))) else Nx H3)
theorem x_lcR {ta : TA} {g : TG} {tt : TT} {te : TE} {vs : List Nat} {σ : L2.St} {H : Hp} {Q : VK} (q : ta σ H (kLcR g tt te vs σ Q)) : tLc (iRng1 ta) g tt te vs σ H Q := q
theorem y_lcR {g : TG} {tt : TT} {te : TE} {vs : List Nat} {σ : L2.St} {H : Hp} {Q : VK} {L : List As} {n : Nat} (hn : n ≤ 1000000) (hS : Sep L H) (P : Addr → Nat → Hp → Prop) (h0 : ∀ D H', Sep (pt D (.lst []) :: L) H' → P D 0 H')
    (hs : ∀ D i H, i < n → P D i H → g (.int (i : Nat)) (wipe σ vs) H (kLcb tt te D σ vs (P D (i + 1)))) (hd : ∀ D H, P D n H → Q (.ref D) H) : kLcR g tt te vs σ Q [.int (n : Nat)] H :=
  ⟨n, rfl, by omega, by omega, by
    rw [Int.toNat_natCast]
    exact fun D hD => lc_range (lo := 0) (P D) (h0 D _ (Sep.new hD hS)) (fun i H hi p => by rw [Int.zero_add]; exact hs D i H hi p) (hd D)⟩
end TR

set_option Elab.async false
set_option linter.all false
set_option maxRecDepth 100000
set_option maxHeartbeats 4000000
/-! Ways joined: what stands behind an if is walked once. -/
namespace TR
open PySem PySem.Spec PyProof.Rows L2
def tStop (t u : TS) : TS := tSeq t u
def tStopE (t : TE) : TE := t
def tStopT (t : TT) : TT := t
section
variable {σ : L2.St} {H : Hp} {t u v : TS} {D : Ends} {c c2 : TT} {ta tb : TE} {Q : VK} {QT : Bool → Hp → Prop}
theorem x_stop (q : tStop (tIfS c t u) v D σ H) : tSeq (tIfS c t u) v D σ H := q
theorem y_go (q : t { D with nx := u D } σ H) : tStop t u D σ H := q
/-- behind it P holds -/
theorem y_cut (P : L2.St → Hp → Prop) (h : ∀ N, (∀ σ H, P σ H → N σ H) → t { D with nx := N } σ H) (k : ∀ σ H, P σ H → u D σ H) : tStop t u D σ H := h (u D) k
theorem x_stopE (q : tStopE (tIf c ta tb) σ H Q) : tIf c ta tb σ H Q := q
theorem y_goE {te : TE} (q : te σ H Q) : tStopE te σ H Q := q
theorem y_cutE {te : TE} (P : V → Hp → Prop) (h : ∀ N : VK, (∀ v H, P v H → N v H) → te σ H N) (k : ∀ v H, P v H → Q v H) : tStopE te σ H Q := h Q k
theorem x_stopA (q : tStopT (tAnd c c2) σ H QT) : tAnd c c2 σ H QT := q
theorem x_stopO (q : tStopT (tOr c c2) σ H QT) : tOr c c2 σ H QT := q
theorem y_goT {te : TT} (q : te σ H QT) : tStopT te σ H QT := q
theorem y_cutT {te : TT} (P : Bool → Hp → Prop) (h : ∀ N : Bool → Hp → Prop, (∀ v H, P v H → N v H) → te σ H N) (k : ∀ v H, P v H → QT v H) : tStopT te σ H QT := h QT k
end
end TR

set_option Elab.async false
set_option linter.all false
set_option maxRecDepth 100000
set_option maxHeartbeats 4000000
/-! Rules of one's own: d.copy(), d.update(e), d.keys() as a value, sorted of it. -/
namespace TR
open PySem PySem.Spec PyProof.Rows L2
section
variable {X : Cx} {pn : List (Addr × Obj)} {σ : L2.St} {H : Hp} {s : Shared}
/-- a new object behind the last one is no module's dict -/
theorem big_ne (I : Inv X pn σ H s) : (s.heap.objs.size == sysModules) = false := by
  rw [beq_eq_false_iff_ne]
  exact Nat.ne_of_gt I.big
/-- d.copy() -/
def rDcopy : V → List V → Hp → VK → Prop := fun x vs H Q => ∃ (d : Addr) (m : List (Key × V)), x = .ref d ∧ vs = [] ∧ H d = some (.dK m) ∧ ∀ c, H c = none → Q (.ref c) (upd H c (.dK m))
theorem mt_dcopy : MtR X "dict.copy" rDcopy := fun pn s σ H x vs v us Q I rx rv ⟨d, m, e1, e2, hd, q⟩ => by
  subst e1 e2
  cases rx
  cases rv
  have k := dk_of I.hok hd
  obtain ⟨z, lo, ws, rel, dd⟩ := k
  have hz : ws.length ≤ sizeLine := rel.length ▸ z
  have T := PySem.F.args_dict_copy_1 (Value.ref d)
  refine call_meetsIn PySem.F.slot_dict_copy dd.typeIs PySem.F.entry_dict_copy T (meets_dict_copy _ d lo) ⟨ws, dd, hz, fun g d1 _ old => ⟨.ref _, upd H s.heap.objs.size (.dK m), ?_, rfl, q _ (I.hok.fresh (Nat.le_refl _))⟩⟩
  exact I.laid (t' := s.toks) old (Nat.le_refl _) (dk_new z (big_ne I) rel d1)
/-- d.update(e) -/
def rDupd : V → List V → Hp → VK → Prop := fun x vs H Q => ∃ (d e : Addr) (m more : List (Key × V)), x = .ref d ∧ vs = [.ref e] ∧ d ≠ e ∧ H d = some (.dK m) ∧ H e = some (.dK more) ∧ m.length + more.length ≤ 1000000 ∧ Q .non (upd H d (.dK (mergeK m more)))
theorem mt_dupd : MtR X "dict.update" rDupd := fun pn s σ H x vs v us Q I rx rv ⟨d, e, m, more, e1, e2, ne, hd, he, hl, q⟩ => by
  subst e1 e2
  cases rx
  obtain ⟨u, rfl, ru⟩ := rv.one
  cases ru
  obtain ⟨z1, lo1, w1, r1, o1⟩ := dk_of I.hok hd
  obtain ⟨z2, lo2, w2, r2, o2⟩ := dk_of I.hok he
  have big : m.length + more.length ≤ sizeLine := Nat.le_trans hl (by decide)
  have T := PySem.F.args_dict_update_2 (Value.ref d) (Value.ref e)
  refine call_meetsIn PySem.F.slot_dict_update o1.typeIs PySem.F.entry_dict_update T (meets_dict_update _ d e ne lo2) ⟨w1, w2, o1, o2, by rw [← r1.length, ← r2.length]; exact big, fun g d1 _ sb => ?_⟩
  have there : ∃ q, g.get? d = some q := by
    obtain ⟨q, _, _, hq, _⟩ := d1
    exact ⟨q, hq⟩
  have fit : (mergeK m more).length ≤ sizeLine := Nat.le_trans (length_mergeK more m) big
  refine ⟨.non, _, d_write I ?_ sb there (dk_new fit lo1 (r2.merge r1) d1), rfl, q⟩
  rw [hd]
  exact True.intro
/-- d.keys() as a value -/
def kvO (d : Addr) : Obj := { cls := .type "dict_keys", data := .fields #[.ref d] }
def keysO (p d : Addr) : HO := .ext fun h => h.get? p = some (kvO d)
def rKeys : V → List V → Hp → VK → Prop := fun x xs H Q => ∃ (d : Addr) (m : List (Key × V)), x = .ref d ∧ xs = [] ∧ H d = some (.dK m) ∧ ∀ p, H p = none → Q (.ref p) (upd H p (keysO p d))
theorem mt_keys : MtR X "dict.keys" rKeys := fun pn s σ H x vs v us Q I rx rv ⟨d, m, e1, e2, hd, q⟩ => by
  subst e1 e2
  cases rx
  cases rv
  obtain ⟨_, lo, ws, _, dd⟩ := dk_of I.hok hd
  have T := PySem.F.args_dict_keys_1 (Value.ref d)
  have at_ : (s.heap.push (kvO d)).get? s.heap.objs.size = some (kvO d) := Heap.get?_push_size _ rfl
  refine call_meetsIn PySem.F.slot_dict_keys dd.typeIs PySem.F.entry_dict_keys T (PySem.W.kdl_meets_keys _ d lo) ⟨⟨ws, dd⟩, .ref _, upd H s.heap.objs.size (keysO s.heap.objs.size d), ?_, rfl, q _ (I.hok.fresh (Nat.le_refl _))⟩
  exact I.laid (t' := s.toks) (fun b u e => Heap.get?_push_of_some _ e) (Nat.le_refl _) ⟨at_, ⟨_, at_⟩, fun _ _ y k => k _ y⟩
/-! ### within a built-in's body -/
abbrev inX (X : Cx) (E : Value → Shared → Prop) : Cx := { X with A := X.A.in1, xe := E }
theorem ok_in {X : Cx} {E : Value → Shared → Prop} (k : X.Ok) : (inX X E).Ok := { mod := k.mod, kind := k.kind, glob := k.glob, blt := k.blt, above := k.above, inj := k.inj, has := k.has, cab := k.cab, hd := k.hd, frames := k.frames, stk := k.stk, exf := k.exf, bs := k.bs, bsz := k.bsz, noex := k.noex, exfs := k.exfs, funs := k.funs, frf := k.frf }
theorem inv_in {E : Value → Shared → Prop} (I : Inv X pn σ H s) : Inv (inX X E) pn σ H s := { ok := ok_in I.ok, os := I.os, bare := I.bare, base := I.base, loc := I.loc, cell := I.cell, free := I.free, freeC := I.freeC, pin := I.pin, hok := I.hok, len := I.len }
theorem ok_out {X Y : Cx} (k : X.Ok) (a : Y.Ok) : X.Ok := k
theorem inv_out {E : Value → Shared → Prop} (o : X.Ok) (I : Inv (inX X E) pn σ H s) : Inv X pn σ H s := { ok := o, os := I.os, bare := I.bare, base := I.base, loc := I.loc, cell := I.cell, free := I.free, freeC := I.freeC, pin := I.pin, hok := I.hok, len := I.len }
/-- what a view's walk found are the keys -/
theorem keys_found {m : List (Key × V)} {ws : List (Key × Value)} (rel : KV m ws) {acc : Array Value} (hn : acc.size = ws.length) (h : ∀ (j : Nat) (v : Value), acc[j]? = some v → ∃ k x, ws[j]? = some (k, x) ∧ keyIs k v = true) : Vals (m.map fun p => kV p.1) acc.toList := by
  have e : (m.map fun p => kV p.1) = ws.map fun p => kV p.1 := by
    have := congrArg (List.map kV) rel.keys
    rw [List.map_map, List.map_map] at this
    exact this
  rw [e]
  exact keys_at (by rw [Array.length_toList, hn]) fun j v z => h j v (by rw [← Array.getElem?_toList]; exact z)
/-- sorted(d.keys()): the keys in a new list l, which is sorted in its place as T says -/
def rSortK (T : List V → List V → Prop) : List V → Hp → VK → Prop := fun xs H Q => ∃ (p d : Addr) (m : List (Key × V)), xs = [.ref p] ∧ H p = some (keysO p d) ∧ H d = some (.dK m) ∧ m.length ≤ 60 ∧
  ∀ l, H l = none → ∀ ys, T (m.map fun q => kV q.1) ys → Q (.ref l) (upd (upd H l (.lst (m.map fun q => kV q.1))) l (.lst ys))
theorem call_sortK {T : List V → List V → Prop} (ok : List V → Prop)
    (srt : ∀ (Y : Cx) (pn : List (Addr × Obj)) (s : Shared) (σ : L2.St) (H : Hp) (l : Addr) (xs : List V) (Q : VK), Inv Y pn σ H s → H l = some (.lst xs) → xs.length ≤ 60 → ok xs → (∀ ys, T xs ys → Q .non (upd H l (.lst ys))) →
      wpAny (model Y.prog Y.w) Y.A (call (.builtin "list.sort") [.ref l]) (EP Y pn σ Q) Y.xe s) (calm : X.calm = true) : CallR X (.builtin "sorted") fun xs H Q => rSortK T xs H Q ∧ ∀ (p d : Addr) (m : List (Key × V)), xs = [.ref p] → H p = some (keysO p d) → H d = some (.dK m) → ok (m.map fun q => kV q.1) := by
  intro pn s σ H xs us Q I r ⟨⟨p, d, m, e, hp, hd, hl, q⟩, hok⟩
  subst e
  have hok := hok p d m rfl hp hd
  obtain ⟨u, eu, ru⟩ := vals1 r
  subst eu
  cases ru
  have view := (show ObjOk X.prog X.w H s.heap p (keysO p d) from I.hok p _ hp).1
  obtain ⟨z, lo, ws, rel, dd⟩ := dk_of I.hok hd
  obtain ⟨ep, at_⟩ := dd.dictAt
  have few : ws.length ≤ sizeLine := rel.length ▸ z
  have A1 := PyProof.Rows.args_sorted1 (Value.ref p)
  refine Calls.call_function_entry PyProof.Rows.kind_sorted PyProof.Rows.plain_sorted PyProof.Rows.entry_sorted A1 ?_
  unfold Builtin.«sorted»
  refine wpAny_bind (m := checkCount "sorted" 1 1 _) (wpAny_pure ?_)
  have src := PySem.W.kdl_keys (prog := X.prog) (w := X.w) (knd := mixKind X.prog X.w) (r := p) (d := d) (kvs := ws) (ep := ep)
  refine wpAny_bind (PySem.W.kdu_collect src (I.ok.hd calm) ⟨⟨_, view, rfl, rfl⟩, at_⟩ few fun g tk acc old found => ?_)
  have vv := keys_found rel found.1 found.2
  have I1 : Inv X pn σ H { s with heap := g, toks := tk } := I.kept old
  have ml : (m.map fun q => kV q.1).length = m.length := List.length_map _
  have short : (m.map fun q => kV q.1).length ≤ sizeLine := by rw [ml]; exact z
  refine wpAny_bind (wpAny_newList ?_ (by rw [← vv.length]; exact short))
  have new := I1.fresh
  have I2 := Inv.lnew (t' := tk) I1 vv short
  refine wpAny_bind (wpAny_holding (wpAny_mono (srt (inX X _) pn _ σ _ _ _ (fun v H' => v = .non ∧ Q (.ref g.objs.size) H') (inv_in I2) upd_same (by rw [ml]; exact hl) hok fun ys hy => ⟨rfl, q _ new ys hy⟩) (fun v s2 ⟨w, H2, I3, rw', e, q2⟩ => ?_) (fun _ _ x => x)))
  exact wpAny_pure ⟨_, rfl, .ref g.objs.size, H2, inv_out I.ok I3, rfl, q2⟩
/-- texts -/
def rSortKS : List V → Hp → VK → Prop := fun xs H Q => ∃ (p d : Addr) (m : List (Key × V)) (zs : List Str), xs = [.ref p] ∧ H p = some (keysO p d) ∧ H d = some (.dK m) ∧ m.map (·.1) = zs.map Sum.inr ∧ zs.length ≤ 60 ∧
  ∀ l, H l = none → ∀ ws : List Str, ws.Perm zs → sortedS ws = true → Q (.ref l) (upd (upd H l (.lst (zs.map V.str))) l (.lst (ws.map V.str)))
theorem keysS {m : List (Key × V)} {zs : List Str} (h : m.map (·.1) = zs.map Sum.inr) : m.map (fun q => kV q.1) = zs.map V.str := by
  have := congrArg (List.map kV) h
  rw [List.map_map, List.map_map] at this
  exact this
theorem call_sortKS (calm : X.calm = true) : CallR X (.builtin "sorted") rSortKS := fun pn s σ H xs us Q I r ⟨p, d, m, zs, e, hp, hd, hz, hl, q⟩ =>
  call_sortK (T := fun xs ys => ∀ zs : List Str, xs = zs.map V.str → ∃ ws : List Str, ws.Perm zs ∧ sortedS ws = true ∧ ys = ws.map V.str) (fun xs => ∃ zs : List Str, xs = zs.map V.str)
    (fun Y pn s σ H l xs Q I hl h60 ⟨zs, e⟩ q => by
      subst e
      refine mt_sortS pn s σ H (.ref l) [] (.ref l) [] Q I rfl .nil ⟨l, zs, rfl, rfl, hl, ?_, fun ws h1 h2 => q _ fun z2 e2 => ?_⟩
      · rw [List.length_map] at h60
        omega
      · have : zs = z2 := by
          have inj : Function.Injective V.str := fun a b h => by injection h
          exact List.map_inj_right (fun a b h => inj h) |>.mp e2
        exact ⟨ws, this ▸ h1, h2, rfl⟩) calm pn s σ H xs us Q I r
    ⟨⟨p, d, m, e, hp, hd, by have := congrArg List.length hz; rw [List.length_map, List.length_map] at this; omega, fun l hn ys hy => by
      obtain ⟨ws, h1, h2, h3⟩ := hy zs (keysS hz)
      rw [keysS hz, h3]
      exact q l hn ws h1 h2⟩, fun p' d' m' e' hp' hd' => by
      rw [e] at e'
      injection e' with e'
      injection e' with e'
      subst e'
      rw [hp] at hp'
      have same : H d = H d' → m = m' := fun hh => by
        rw [hh, hd'] at hd
        injection hd with hd
        injection hd with hd
        exact hd.symm
      obtain ⟨o1, w1⟩ := (show ObjOk X.prog X.w H s.heap p (keysO p d) from I.hok p _ hp)
      obtain ⟨o2, w2⟩ := (show ObjOk X.prog X.w H s.heap p (keysO p d') from I.hok p _ (hp.trans hp'))
      have ed : d = d' := by
        have := o1.symm.trans o2
        unfold kvO at this
        simp at this
        exact this
      rw [← same (by rw [ed])]
      exact ⟨zs, keysS hz⟩⟩
end
end TR

set_option Elab.async false
set_option linter.all false
set_option maxRecDepth 100000
set_option maxHeartbeats 4000000
/-! More steps: texts, dicts' methods, walks over keys. -/
namespace TR
open PySem PySem.Spec PyProof.Rows L2
def kM1b (r : V → List V → Hp → VK → Prop) (x : V) (Q : VK) : VK := fun y H2 => r x [y] H2 Q
def kM1a (r : V → List V → Hp → VK → Prop) (te : TE) (σ : L2.St) (Q : VK) : VK := fun x H1 => (∃ a, x = .str a) ∧ te σ H1 (kM1b r x Q)
def kLcS (g : TG) (tt : TT) (te : TE) (vs : List Nat) (σ : L2.St) (Q : VK) : VK := fun v H1 => ∃ z, v = .str z ∧ ∀ D, H1 D = none → ∃ W : Nat → Nat → Hp → Prop, (∃ m, W 0 m (upd H1 D (.lst []))) ∧ ∀ i m H, W i m H →
  ((Its z).stop i H ∧ Q (.ref D) H) ∨ ((Its z).go i H ∧ ∃ Nx : Hp → Prop, (∀ H', Nx H' → ∃ m', m' < m ∧ W (i + 1) m' H') ∧ ∀ x H', (Its z).yld i H x H' → g x (wipe σ vs) H' fun σ2 H2 => wipe σ2 vs = wipe σ vs ∧ tt σ2 H2 fun b H3 =>
    if b = true then te σ2 H3 fun y H4 => ∃ acc, H4 D = some (.lst acc) ∧ acc.length < sizeLine ∧ Nx (upd H4 D (.lst (acc ++ [y]))) else Nx H3)
/-- what is wanted behind a loop over the keys of a dict, which is locked within -/
def lockD (d : Addr) (od : Obj) (u : HO) (D : Ends) : Ends := ⟨fun σ' H' => H' d = some (.frz od u) ∧ D.nx σ' (upd H' d u), fun v H' => H' d = some (.frz od u) ∧ D.rt v (upd H' d u), fun σ' H' => H' d = some (.frz od u) ∧ D.bk σ' (upd H' d u), fun σ' H' => H' d = some (.frz od u) ∧ D.ct σ' (upd H' d u)⟩
def kFk (g : TG) (t : TS) (D : Ends) (σ : L2.St) : VK := fun x H => ∃ d o kvs, x = .ref d ∧ H d = some (.frz o (.dK kvs)) ∧ ∃ W : Nat → Nat → L2.St → Hp → Prop, (∃ m, W 0 m σ H) ∧ ∀ i m σ H, W i m σ H →
  ((Itk d o kvs).stop i H ∧ D.nx σ H) ∨ ((Itk d o kvs).go i H ∧ ∃ N : L2.St → Hp → Prop, (∀ σ' H', N σ' H' → ∃ m', m' < m ∧ W (i + 1) m' σ' H') ∧ ∀ x H', (Itk d o kvs).yld i H x H' → g x σ H' fun σ2 H2 => t { D with nx := N, ct := N, bk := D.nx } σ2 H2)
section
variable {K : PySem.W.Frag} {σ : L2.St} {H : Hp} {v x y : V} {Q : VK} {p q : Addr} {L R R' : List As} {te td ty tv tk : TE} {t : TS} {D : Ends} {m more : List (Key × V)} {z : Str}
/-! texts -/
theorem x_m1 {r : V → List V → Hp → VK → Prop} (q : td σ H (kM1a r te σ Q)) : tM1 r td te σ H Q := q
theorem y_m1a {r : V → List V → Hp → VK → Prop} (q : te σ H (kM1b r (.str z) Q)) : kM1a r te σ Q (.str z) H := ⟨⟨z, rfl⟩, q⟩
theorem y_m1b {r : V → List V → Hp → VK → Prop} (q : r x [y] H Q) : kM1b r x Q y H := q
theorem x_slS {lo hi : Option Int} (h : z.length ≤ sizeLine) (q : Q (.str (cutS z lo hi)) H) : rSlS (.str z) lo hi H Q := ⟨z, rfl, h, q⟩
theorem x_ixS {i : Int} {c : Nat} (h : z.length ≤ sizeLine) (e : atI z.cps.toList i = some c) (q : Q (.str ⟨#[c]⟩) H) : rIx K (.str z) (.int i) H Q := .inr (.inr ⟨z, i, c, rfl, rfl, h, e, q⟩)
theorem x_lenS (h : z.length ≤ sizeLine) (q : Q (.int (z.length : Nat)) H) : rLen K [.str z] H Q := ⟨_, z.length, rfl, ⟨h, rfl⟩, q⟩
theorem x_lcS {g : TG} {tt : TT} {vs : List Nat} (q : td σ H (kLcS g tt te vs σ Q)) : tLc (iStr td) g tt te vs σ H Q := q
theorem y_lcS {g : TG} {tt : TT} {vs : List Nat} (hS : Sep L H) (P : Addr → Nat → Hp → Prop) (h0 : ∀ D H', Sep (pt D (.lst []) :: L) H' → P D 0 H')
    (hs : ∀ D i c H, z.cps[i]? = some c → P D i H → g (.str ⟨#[c]⟩) (wipe σ vs) H (kLcb tt te D σ vs (P D (i + 1)))) (hd : ∀ D H, P D z.cps.size H → Q (.ref D) H) : kLcS g tt te vs σ Q (.str z) H :=
  ⟨z, rfl, fun D hD => lc_it walk_str (P D) (h0 D _ (Sep.new hD hS)) (fun _ _ _ _ => trivial) (fun i x H H' _ hp ⟨e1, c, e2, e3⟩ => by subst e1 e3; exact hs D i c H' e2 hp) (hd D)⟩
/-! dicts' methods -/
theorem y_bmd {r : V → List V → Hp → VK → Prop} {tr : TA} (hS : Sep L H) [a : At p L (.dK m) R] (k : tr σ H (kBq r (.ref p) Q)) : kBM K "dict" r tr σ Q (.ref p) H := ⟨.inr (.inr (.inl ⟨rfl, .inl ⟨m, hS.at_⟩⟩)), k⟩
theorem y_bmd0 {r : V → List V → Hp → VK → Prop} (hS : Sep L H) [a : At p L (.dK m) R] (k : r (.ref p) [] H Q) : kBM0 K "dict" r Q (.ref p) H := ⟨.inr (.inr (.inl ⟨rfl, .inl ⟨m, hS.at_⟩⟩)), k⟩
theorem x_keys (hS : Sep L H) [a : At p L (.dK m) R] (k : ∀ c H', Sep (pt c (keysO c p) :: L) H' → Q (.ref c) H') : rKeys (.ref p) [] H Q := ⟨p, m, rfl, rfl, hS.at_, fun c hc => k c _ (Sep.new hc hS)⟩
theorem x_dcopy (hS : Sep L H) [a : At p L (.dK m) R] (k : ∀ c H', Sep (pt c (.dK m) :: L) H' → Q (.ref c) H') : rDcopy (.ref p) [] H Q := ⟨p, m, rfl, rfl, hS.at_, fun c hc => k c _ (Sep.new hc hS)⟩
theorem Sep.ne {o u : HO} (n : ¬ Imm o) (hS : Sep (pt p o :: L) H) [b : At q L u R] : p ≠ q := fun e => by
  obtain ⟨h1, h2, s1, s2, d, a, r⟩ := hS
  have b2 : h2 q = some u := Sep.at_ r
  rw [← e] at b2
  exact n (d p o u a b2)
theorem x_dupd (hS : Sep L H) [a : At p L (.dK m) R] [b : At q R (.dK more) R'] (hl : m.length + more.length ≤ 1000000) (k : ∀ H', Sep (pt p (.dK (mergeK m more)) :: R) H' → Q .non H') : rDupd (.ref p) [.ref q] H Q :=
  have hp := a.en H hS
  ⟨p, q, m, more, rfl, rfl, Sep.ne (o := .dK m) (fun z => z) hp, hS.at_, Sep.at_ (q := b) hp.tail, hl, k _ (Sep.put (o := .dK m) (fun z => z) hp)⟩
theorem x_sortKS {zs : List Str} (hS : Sep L H) [a : At q L (keysO q p) R] [b : At p L (.dK m) R'] (hz : m.map (·.1) = zs.map Sum.inr) (hl : zs.length ≤ 60)
    (k : ∀ (ws : List Str) (l : Addr) H', ws.Perm zs → sortedS ws = true → Sep (pt l (.lst (ws.map V.str)) :: L) H' → Q (.ref l) H') : rSortKS [.ref q] H Q :=
  ⟨q, p, m, zs, rfl, Sep.at_ (q := a) hS, Sep.at_ (q := b) hS, hz, hl, fun l hl ws h1 h2 => k ws l _ h1 h2 (Sep.put (o := .lst (zs.map V.str)) (fun z => z) (Sep.new hl hS))⟩
theorem x_sortS {zs : List Str} (hS : Sep L H) (h : SqL K H p (zs.map V.str)) (hl : zs.length < 64) (k : ∀ (ws : List Str) (l : Addr) H', ws.Perm zs → sortedS ws = true → Sep (pt l (.lst (ws.map V.str)) :: L) H' → Q (.ref l) H') : rSortedS K [.ref p] H Q :=
  ⟨p, zs, rfl, h, hl, fun ws l h1 h2 hn => k ws l _ h1 h2 (Sep.new hn hS)⟩
/-! d.get(k, e) -/
def kGt3 (a : Addr) (y : V) (Q : VK) : VK := fun z H => ∃ o, DGet H a y o ∧ Q (o.getD z) H
def kGt2 (a : Addr) (tx : TE) (σ : L2.St) (Q : VK) : VK := fun y H => tx σ H (kGt3 a y Q)
def kGt1 (ty tx : TE) (σ : L2.St) (Q : VK) : VK := fun x H => ∃ a, x = .ref a ∧ IsD H a ∧ ty σ H (kGt2 a tx σ Q)
theorem x_get2 {tx : TE} (q : td σ H (kGt1 ty tx σ Q)) : tDGet2 td ty tx σ H Q := q
theorem y_gt1 {tx : TE} (hS : Sep L H) [a : At p L (.dK m) R] (q : ty σ H (kGt2 p tx σ Q)) : kGt1 ty tx σ Q (.ref p) H := ⟨p, rfl, .inl ⟨m, .inl hS.at_⟩, q⟩
theorem y_gt2 {tx : TE} (q : tx σ H (kGt3 p y Q)) : kGt2 p tx σ Q y H := q
theorem y_gt3s {k : Str} (hS : Sep L H) [a : At p L (.dK m) R] (q : Q ((valV m (.inr k)).getD x) H) : kGt3 p (.str k) Q x H := ⟨_, DGet.k (k := .inr k) hS.at_, q⟩
/-! for k in d.keys() -/
theorem x_lock {u : HO} (hS : Sep L H) [a : At p L u R] (mu : Mut (some u)) (k : ∀ od H', Sep (pt p (.frz od u) :: R) H' → t (lockD p od u D) σ H') (ni : ¬ Imm u) : tLock t D σ H :=
  ⟨p, u, hS.at_, mu, fun od => k od _ (Sep.put (o := u) ni (a.en H hS))⟩
theorem y_unlock {u : HO} {od : Obj} (hS : Sep L H) [a : At p L (.frz od u) R] (ni : ¬ Imm (.frz od u) := by exact fun z => z) (k : ∀ H', Sep (pt p u :: R) H' → D.nx σ H') : (lockD p od u D).nx σ H :=
  ⟨hS.at_, k _ (Sep.put (o := .frz od u) ni (a.en H hS))⟩
theorem x_forK {g : TG} (q : te σ H (kFk g t D σ)) : tFor (iKeysM te) g t D σ H := q
end
section
variable {X : Cx} {d : He.DefD} {k : Nat} {sp : Sp} {E : L2.St → XK} {x : Str} {p pos : Pos}
/-- f() -/
theorem px_call0 (G : OkD X.prog X.w X.K X.mg X.base d k [] sp) (hr : Room k X.A) (hg : Gl X x) (hm : X.mg x = some (.ref (He.fAd X.K d.at_))) (hx : ∀ σ, PassesAt (L2.CX X.prog X.w) X σ (E σ))
    (hdb : (x == ("__debug__" : Str)) = false := by decide) : PE X (.Call (.Name x p) [] [] pos) (tCallS sp E tNil) := by
  obtain ⟨fd, ⟨hk, _⟩, ⟨hb, _⟩, F⟩ := G
  exact ⟨fun pn s σ H Q I h => wpAny_Call_Name_kw (ld_glob I hg hm (PySem.W.callWith_K0 I.kIn hk (run_fnS (us := []) F hr hb (hx σ) I .nil h)) hdb)⟩
end
end TR

set_option Elab.async false
set_option linter.all false
set_option maxRecDepth 100000
set_option maxHeartbeats 4000000
/-! More of data: what can be compared; texts in order; an unrolled loop. -/
namespace TR
open PySem PySem.Spec PyProof.Rows L2
/-- of depth n at most, and to be compared -/
def ShD (n : Nat) (d : PyData) : Prop := PyData.canLay0 d = true ∧ PyData.depth d ≤ n
theorem shaped_of {n : Nat} {d : PyData} (h : ShD n d) (hn : n ≤ 64) : SeqAt.shaped d = true := by
  show (PyData.canLay0 d && decide (PyData.depth d ≤ 64)) = true
  rw [h.1, decide_eq_true (Nat.le_trans h.2 hn)] <;> rfl
theorem ShD.mono {n m : Nat} {d : PyData} (h : ShD n d) (hn : n ≤ m) : ShD m d := ⟨h.1, Nat.le_trans h.2 hn⟩
theorem shd_all {n : Nat} : ∀ {ds : List PyData}, (∀ d ∈ ds, ShD n d) → PyData.canLayAll0 ds = true ∧ PyData.depthAll ds ≤ n
  | [], _ => ⟨rfl, Nat.zero_le _⟩
  | d :: r, h => by
    obtain ⟨a, b⟩ := h d List.mem_cons_self
    obtain ⟨c, e⟩ := shd_all (ds := r) fun x hx => h x (List.mem_cons_of_mem _ hx)
    refine ⟨?_, ?_⟩
    · show (PyData.canLay0 d && PyData.canLayAll0 r) = true
      rw [a, c] <;> rfl
    · show max (PyData.depth d) (PyData.depthAll r) ≤ n
      exact Nat.max_le.mpr ⟨b, e⟩
theorem shd_list {n : Nat} {ds : List PyData} (h : ∀ d ∈ ds, ShD n d) : ShD (n + 1) (.list ds) := ⟨(shd_all h).1, Nat.succ_le_succ (shd_all h).2⟩
theorem shd_tup {n : Nat} {ds : List PyData} (h : ∀ d ∈ ds, ShD n d) : ShD (n + 1) (.tuple ds) := ⟨(shd_all h).1, Nat.succ_le_succ (shd_all h).2⟩
theorem shd_int {n : Nat} (i : Int) : ShD n (.int i) := ⟨rfl, Nat.zero_le _⟩
theorem shd_non {n : Nat} : ShD n .none := ⟨rfl, Nat.zero_le _⟩
theorem shd_bl {n : Nat} (b : Bool) : ShD n (.bool b) := ⟨rfl, Nat.zero_le _⟩
theorem shd_str {n : Nat} {z : Str} (h : PyData.strOk z = true) : ShD n (.str z) := ⟨h, Nat.zero_le _⟩
section
variable {K : PySem.W.Frag} {H : Hp} {a : Addr}
theorem dp_strs {zs : List Str} (h : SqL K H a (zs.map V.str)) : Dp K H (.ref a) (.list (zs.map PyData.str)) := .lst h (go zs)
where go : ∀ zs : List Str, DpAll K H (zs.map V.str) (zs.map PyData.str)
  | [] => .nil
  | z :: r => .cons (.str z) (go r)
theorem shaped_strs {zs : List Str} (h : ∀ z ∈ zs, PyData.strOk z = true) : SeqAt.shaped (.list (zs.map PyData.str)) = true :=
  shaped_of (n := 1) (shd_list fun d hd => by
    obtain ⟨z, hz, rfl⟩ := List.mem_map.mp hd
    exact shd_str (h z hz)) (by decide)
end
/-! sorted texts -/
theorem risingS_pw : ∀ (xs : List Str) (p : Str), risingS p xs = true → (p :: xs).Pairwise fun a b => a.cps.toList ≤ b.cps.toList
  | [], p, _ => List.pairwise_singleton _ _
  | x :: r, p, h => by
    have h : (!ltCps x.cps.toList p.cps.toList && risingS x r) = true := h
    rw [Bool.and_eq_true] at h
    have ih := risingS_pw r x h.2
    have h1 : p.cps.toList ≤ x.cps.toList := by
      have := h.1
      rw [ltCps_eq] at this
      intro z
      rw [decide_eq_true z] at this
      cases this
    refine List.pairwise_cons.mpr ⟨fun b hb => ?_, ih⟩
    rcases List.mem_cons.mp hb with rfl | hb
    · exact h1
    · exact List.le_trans h1 ((List.pairwise_cons.mp ih).1 b hb)
theorem sortedS_eq {xs ys zs : List Str} (p : xs.Perm zs) (q : ys.Perm zs) (hx : sortedS xs = true) (hy : sortedS ys = true) : xs = ys := by
  have pw : ∀ {xs : List Str}, sortedS xs = true → xs.Pairwise fun a b => a.cps.toList ≤ b.cps.toList := fun {xs} h => match xs, h with
    | [], _ => List.Pairwise.nil
    | x :: r, h => risingS_pw r x h
  refine (p.trans q.symm).eq_of_pairwise (fun a b _ _ h1 h2 => ?_) (pw hx) (pw hy)
  have : a.cps.toList = b.cps.toList := List.le_antisymm h1 h2
  cases a; cases b
  simp at this
  rw [this]
/-- signs joined -/
def one (c : Nat) : Str := ⟨#[c]⟩
theorem join_ones (cs : List Nat) : (Txt.join "" (cs.map one)).cps.toList = cs := by
  have h : TL.tl (Txt.join "" (cs.map one)) = TL.joinL [] ((cs.map one).map TL.tl) := by
    rw [TL.join_eq, TL.tl_join]
    rfl
  have g : ∀ cs : List Nat, TL.joinL [] ((cs.map one).map TL.tl) = cs := by
    intro cs
    induction cs with
    | nil => rfl
    | cons c r ih =>
      cases r with
      | nil => rfl
      | cons d r =>
        show [c] ++ ([] ++ TL.joinL [] (((d :: r).map one).map TL.tl)) = _
        rw [ih]
        rfl
  rw [g] at h
  exact h
theorem sum_ones : ∀ cs : List Nat, ((cs.map one).map fun x => x.length).sum = cs.length
  | [] => rfl
  | c :: r => by
    show 1 + ((r.map one).map fun x => x.length).sum = r.length + 1
    rw [sum_ones r]
    omega
theorem len_cut {z : Str} {lo hi : Option Int} : (cutS z lo hi).length ≤ z.length := by
  show ((z.cps.toList.drop _).take _).toArray.size ≤ z.cps.size
  rw [List.size_toArray, List.length_take, List.length_drop, Array.length_toList]
  omega
/-! loops over a few, unrolled -/
section
variable {K : PySem.W.Frag} {σ : L2.St} {H : Hp} {p : Addr} {t : TS} {D : Ends}
def kUn_ (K : PySem.W.Frag) (p : Addr) (g : TG) (t : TS) (D : Ends) (all : List V) : List V → L2.St → Hp → Prop
  | [] => fun σ H => SqL K H p all ∧ D.nx σ H
  | x :: r => fun σ H => SqL K H p all ∧ g x σ H (kBody t D (kUn_ K p g t D all r))
theorem y_un {g : TG} {all r : List V} {x : V} (h : SqL K H p all) (q : g x σ H (kBody t D (kUn_ K p g t D all r))) : kUn_ K p g t D all (x :: r) σ H := ⟨h, q⟩
theorem y_un0 {g : TG} {all : List V} (h : SqL K H p all) (q : D.nx σ H) : kUn_ K p g t D all [] σ H := ⟨h, q⟩
theorem y_forU {xs : List V} {g : TG} (h : kUn_ K p g t D xs xs σ H) : kFl K g t D σ (.ref p) H := by
  have sq : ∀ (ys : List V) σ H, kUn_ K p g t D xs ys σ H → SqL K H p xs := fun ys σ H q => match ys, q with
    | [], q => q.1
    | _ :: _, q => q.1
  refine y_forL (xs := xs) (fun i σ H => kUn_ K p g t D xs (xs.drop i) σ H) (sq _ _ _ h) (by rw [List.drop_zero]; exact h) (fun i σ H _ q => sq _ _ _ q) (fun i x σ H hi q => ?_) (fun σ H q => ?_)
  · have hlt := (List.getElem?_eq_some_iff.mp hi).1
    have he : xs.drop i = x :: xs.drop (i + 1) := by
      rw [List.drop_eq_getElem_cons hlt, (List.getElem?_eq_some_iff.mp hi).2]
    rw [he] at q
    exact q.2
  · rw [List.drop_length] at q
    exact q.2
end
end TR

set_option Elab.async false
set_option linter.all false
set_option maxRecDepth 100000
set_option maxHeartbeats 4000000
/-! .. -/
set_option hygiene false
local macro_rules | `(tactic| walk_at "s1") => `(tactic| first
  | (with_reducible refine x_seq ?_)
  | (with_reducible refine x_asg ?_)
  | (with_reducible refine y_asg ?_)
  | (with_reducible refine x_name ?_)
  | (with_reducible refine x_ifS ?_)
  | (with_reducible refine y_ifS ?_)
  | (with_reducible refine x_ret ?_)
  | (with_reducible refine x_retN ?_)
  | (with_reducible refine x_drop ?_)
  | (with_reducible refine y_drop ?_)
  | (with_reducible refine x_next ?_)
  | (with_reducible refine x_cont ?_)
  | (with_reducible refine x_test ?_)
  | (with_reducible refine x_tB ?_)
  | (with_reducible refine y_test ?_)
  | (with_reducible refine x_not ?_)
  | (with_reducible refine y_not ?_)
  | (with_reducible refine x_and ?_)
  | (with_reducible refine y_and ?_)
  | (with_reducible refine x_or ?_)
  | (with_reducible refine y_or ?_)
  | (with_reducible refine x_chain ?_)
  | (with_reducible refine y_ch1 ?_)
  | (with_reducible refine y_ch2 ?_)
  | (with_reducible refine y_ch3 ?_)
  | (with_reducible refine x_andV ?_)
  | (with_reducible refine y_andV ?_)
  | (with_reducible refine x_orV ?_)
  | (with_reducible refine y_orV ?_)
  | (with_reducible refine x_notV ?_)
  | (with_reducible refine y_notV ?_)
  | (with_reducible refine x_if ?_)
  | (with_reducible refine y_ifE ?_)
  | (with_reducible refine x_op ?_)
  | (with_reducible refine y_op1 ?_)
  | (with_reducible refine y_op2 ?_)
  | (with_reducible refine x_un ?_)
  | (with_reducible refine y_neg ?_)
  | (with_reducible refine x_c ?_)
  | (with_reducible refine x_fld ?_)
  | (with_reducible refine x_sfld ?_)
  | (with_reducible refine y_sf ?_)
  | (with_reducible refine x_nil ?_)
  | (with_reducible refine x_cons ?_)
  | (with_reducible refine y_c1 ?_)
  | (with_reducible refine y_c2 ?_)
  | (with_reducible refine x_callS ?_)
  | (with_reducible refine y_sp ?_)
  | (with_reducible refine x_meth ?_)
  | (with_reducible refine y_mt2 ?_)
  | (with_reducible refine x_make ?_)
  | (with_reducible refine y_mq ?_)
  | (with_reducible refine x_cb ?_)
  | (with_reducible refine y_cb ?_)
  | (with_reducible refine x_bm ?_)
  | (with_reducible refine y_bq ?_)
  | (with_reducible refine x_bm0 ?_)
  | (with_reducible refine x_rz ?_)
  | (with_reducible refine x_lst ?_)
  | (with_reducible refine x_tup ?_)
  | (with_reducible refine x_sub ?_)
  | (with_reducible refine y_sb1 ?_)
  | (with_reducible refine x_for1 ?_)
  | (with_reducible refine x_forL ?_)
  | (with_reducible refine x_for3 ?_)
  | (with_reducible refine x_forT ?_)
  | (with_reducible refine y_body ?_)
  | (with_reducible refine x_tru ?_)
  | (with_reducible refine y_trub ?_)
  | (with_reducible refine y_trui ?_)
  | (with_reducible refine y_trun ?_)
  | (with_reducible refine x_gcons ?_)
  | (with_reducible refine y_g ?_)
  | (with_reducible refine x_gnil ?_)
  | (with_reducible refine x_rev ?_)
  | (with_reducible refine x_sl ?_)
  | (with_reducible refine y_sl1 ?_)
  | (with_reducible refine y_sl2 ?_)
  | (with_reducible refine y_sl3 ?_)
  | (with_reducible refine x_nop ?_)
  | (with_reducible refine x_part ?_)
  | (with_reducible refine y_part ?_)
  | (with_reducible refine x_lrange1 ?_)
  | (with_reducible refine x_lrange2 ?_)
  | (with_reducible refine y_lr2 ?_)
  | (with_reducible refine x_addI ?_)
  | (with_reducible refine x_dget ?_)
  | (with_reducible refine y_dg1 ?_)
  | (with_reducible refine x_din ?_)
  | (with_reducible refine y_di1 ?_)
  | (with_reducible refine x_dnotin ?_)
  | (with_reducible refine y_dn1 ?_)
  | (with_reducible refine x_dput ?_)
  | (with_reducible refine y_dp1 ?_)
  | (with_reducible refine y_dp2 ?_)
  | (with_reducible refine x_dnew hS (fun u H hS => ?_))
  | (with_reducible refine x_disp hS (fun u H hS => ?_))
  | (with_reducible refine x_prs ?_)
  | (with_reducible refine y_pa ?_)
  | (with_reducible refine y_pb ?_)
  | (with_reducible refine x_prn ?_)
  | (with_reducible refine y_pc ?_)
  | (with_reducible refine x_m1 ?_)
  | (with_reducible refine y_m1a ?_)
  | (with_reducible refine y_m1b ?_)
  | (with_reducible refine x_lcS ?_)
  | (with_reducible refine x_get2 ?_)
  | (with_reducible refine y_gt2 ?_)
  | (with_reducible refine x_forK ?_)
  | (with_reducible refine y_bmd hS ?_)
  | (with_reducible refine y_bmd0 hS ?_)
  | (with_reducible refine x_keys hS (fun u H hS => ?_))
  | (with_reducible refine x_dcopy hS (fun u H hS => ?_))
  | (with_reducible refine y_gt1 hS ?_)
  | (with_reducible refine y_gt3s hS ?_)
  | (with_reducible refine y_dgo hS ?_)
  | (with_reducible refine y_dpo hS (fun H hS => ?_))
  | ((with_reducible refine x_try (fun pn xe tk po => ?_)); (try dsimp only [cxOf]))
  | (with_reducible refine x_lcT ?_)
  | (with_reducible refine x_lcL ?_)
  | (with_reducible refine x_lcR ?_)
  | (with_reducible refine y_tt ?_)
  | (with_reducible refine x_yes' ?_)
  | ((with_reducible refine' y_lcb ?h1 ?_); (case h1 => exact rfl))
  | (with_reducible refine x_I0 ?_)
  | (with_reducible refine x_eqI ?_)
  | (with_reducible refine x_neI ?_)
  | (with_reducible refine x_isN ?_)
  | (with_reducible refine x_notN ?_)
  | (with_reducible refine x_tt ?_)
  | (with_reducible refine x_ff ?_)
  | (with_reducible refine x_nt ?_)
  | (with_reducible refine x_nf ?_)
  | (with_reducible refine y_fld hS ?_)
  | (with_reducible refine y_meth hS ?_)
  | (with_reducible refine y_put hS (fun H hS => ?_))
  | ((with_reducible refine' x_var ?h1 ?_); (case h1 => exact rfl))
  | (with_reducible refine y_lst hS (by first | decide | (show _ ≤ sizeLine; simp only [List.length_cons, List.length_nil]; decide)) (fun u H hS => ?_))
  | (with_reducible refine y_tup hS (by first | decide | (show _ ≤ sizeLine; simp only [List.length_cons, List.length_nil]; decide)) (fun u H hS => ?_)))
local macro_rules | `(tactic| walk_at "s") => `(tactic| repeat walk_at "s1")
local macro_rules | `(tactic| walk_at "go") => `(tactic| (dsimp only [cxOf]; repeat walk_at "s1"))
local macro_rules | `(tactic| walk_at "w1") => `(tactic| first
  | (with_reducible refine x_stop ?_)
  | (with_reducible refine x_stopE ?_)
  | (with_reducible refine x_stopA ?_)
  | (with_reducible refine x_stopO ?_)
  | walk_at "s1"
  | walk_at "k1")
local macro_rules | `(tactic| walk_at "k1") => `(tactic| first
  | ((with_reducible refine' x_eqS ?h1 ?_); (case h1 => exact rfl))
  | ((with_reducible refine' x_neS ?h1 ?_); (case h1 => exact rfl))
  | ((with_reducible refine' x_yes ?h1 ?_); (case h1 => exact rfl))
  | ((with_reducible refine' x_no ?h1 ?_); (case h1 => exact rfl)))
local macro_rules | `(tactic| walk_at "w") => `(tactic| repeat walk_at "w1")
local macro_rules | `(tactic| walk_at "wo") => `(tactic| (dsimp only [cxOf]; repeat walk_at "w1"))
local macro_rules | `(tactic| walk_at "v") => `(tactic| repeat (first | walk_at "s1" | walk_at "k1"))

namespace TR
open PySem PySem.Spec PyProof.Rows L2
section
variable {P : Program} {w : World} {K : PySem.W.Frag} {mg : Str → Option Value} {base : Heap}
/-! ### shelves -/
def smallZ : Str := "abcdefghijklmnopqrstuvwxyz"
def okName (z : Str) : Prop := ((1 : Int) ≤ (z.length : Nat) ∧ ((z.length : Nat) : Int) ≤ 6) ∧ ∀ c ∈ z.cps.toList, c ∈ smallZ.cps.toList
instance (z : Str) : Decidable (okName z) := by unfold okName; infer_instance
def inSm (c : Nat) : Bool := decide (c ∈ smallZ.cps.toList)
theorem all_sm {z : Str} (h : (1 : Int) ≤ (z.length : Nat) ∧ ((z.length : Nat) : Int) ≤ 6) : (z.cps.toList.map inSm).all id = decide (okName z) := by
  rw [List.all_map, Bool.eq_iff_iff, List.all_eq_true, decide_eq_true_iff]
  constructor
  · intro a
    exact ⟨⟨by omega, by omega⟩, fun c hc => of_decide_eq_true (a c hc)⟩
  · intro a c hc
    exact decide_eq_true (a.2 c hc)
def sp_look_name (K : PySem.W.Frag) : Sp := fun vs H Q E => ∃ (z : Str) (R : List As), vs = [.str z] ∧ z.length ≤ 1000 ∧ Sep R H ∧ (okName z → ∀ H', Sep R H' → Q .non H') ∧ (¬ okName z → ∀ H', Sep R H' → E (.ref (He.ga K "BadTune")) none H')
theorem ln_look_name : ∀ vs H Q E, sp_look_name K vs H Q E → vs.length = (["name"] : List Str).length := by
  rintro _ _ _ _ ⟨z, R, rfl, _⟩
  rfl
theorem sc_look_name : FnScope ["name", "sign"] ["name"] (defScope s_look_name) := ⟨rfl, rfl, rfl, by decide +kernel, rfl, by decide +kernel, by decide +kernel⟩
theorem ok_look_name (T : Top K mg) : OkD P w K mg base d_look_name 1 ["name"] (sp_look_name K) := by
  refine okD (df_look_name T) sc_look_name (fun _ _ _ _ _ _ us hl => match us, hl with | [_], _ => rfl) ln_look_name (fun cdv A outer s H vs Q E hr h => ⟨_,
      pss_one (ps_if (PW.pt (pw_or (pt_not (pt_chain op_le op_le pe_int (pe_callB call_lenA (by rfl) (fr_len T) (by decide +kernel) (pa_cons (pv 0) pa_nil)) (px_int rfl (gi_MOST_NAME T)))) (pw_or1 (pt_not (px_truth (pe_callB (cr_all rfl) (by rfl) (fr_all T) (by decide +kernel) (pa_cons (pe_lc (own := [("sign", 1)]) (g := gName 1) (by rfl) sc_look_name.nd (pi_str (pv 0)) (blkOk_by (own := [("sign", 1)]) (N := ["name", "sign"]) (sc := defScope s_look_name) (by decide +kernel)) (fun _ _ _ _ _ => pg_name (i := 1) sc_look_name.nd rfl (Or.inl rfl)) (fun _ _ _ _ _ => pts_nil) (fun _ _ _ _ _ => pe_cmpR op_in_sign (pv 1) (px_str rfl (gs_SMALL T)) (by rfl))) pa_nil)) (by intro _; rfl))))))
       (pss_one (px_raise rfl tkD rfl (gl_BadTune T) (xc_BadTune T)))
       (pss_nil)), ?_⟩)
  obtain ⟨z, R, rfl, hz, hS, h1, h2⟩ := h
  walk_at "wo"
  refine y_cutT (fun b H => b = (!decide (okName z)) ∧ Sep R H) (fun N hN => ?_) ?_
  · walk_at "v"
    refine x_lenS (sz' (by omega)) ?_
    walk_at "v"
    refine x_dec (fun hA => ?_) (fun hA => ?_)
    · walk_at "v"
      refine x_ndec (fun hB => ?_) (fun hB => ?_)
      · exact hN _ _ ⟨by rw [decide_eq_false (fun h => hB h.1.2)] <;> rfl, hS⟩
      · walk_at "v"
        refine y_lcS hS (fun D i H => Sep (pt D (.lst (((z.cps.toList.take i).map inSm).map V.bl)) :: R) H) (fun D H h => h) (fun D i c H hc hS => ?_) (fun D H hS => ?_)
        · have hc' : z.cps.toList[i]? = some c := by rw [Array.getElem?_toList]; exact hc
          have hi := (List.getElem?_eq_some_iff.mp hc').1
          have hL : z.cps.toList.length ≤ 1000 := by rw [Array.length_toList]; exact hz
          walk_at "v"
          refine ⟨c, smallZ, rfl, rfl, ?_⟩
          refine y_el hS (by rw [List.length_map, List.length_map, List.length_take]; omega) fun H hS => ?_
          rw [List.take_add_one, hc', List.map_append, List.map_append]
          exact hS
        · have hS : Sep (pt D (.lst ((z.cps.toList.map inSm).map V.bl)) :: R) H := by
            rw [show z.cps.size = z.cps.toList.length from Array.length_toList.symm, List.take_length] at hS
            exact hS
          walk_at "v"
          refine ⟨D, _, rfl, sqL hS, ?_⟩
          walk_at "v"
          exact hN _ _ ⟨by rw [all_sm ⟨hA, hB⟩], hS.tail⟩
    · walk_at "v"
      exact hN _ _ ⟨by rw [decide_eq_false (fun h => hA (by have := h.1.1; omega))] <;> rfl, hS⟩
  · rintro _ H ⟨rfl, hS⟩
    refine x_ndec (fun hn => ?_) (fun hy => ?_)
    · walk_at "v"
      exact h2 hn _ hS
    · walk_at "v"
      exact h1 hy _ hS

def shD (L : List (Str × Int)) : List (Key × V) := L.map fun q => (.inr q.1, .int q.2)
def lk (L : List (Str × Int)) (z : Str) : Option Int := (L.find? fun q => q.1 = z).map (·.2)
theorem lk_val : ∀ (L : List (Str × Int)) (z : Str), valV (shD L) (.inr z) = (lk L z).map V.int
  | [], _ => rfl
  | q :: r, z => by
    by_cases h : q.1 = z
    · subst h
      unfold lk valV shD
      simp
    · have ih := lk_val r z
      have h2 : ¬ ((Sum.inr q.1 : Key) = .inr z) := fun e => h (by injection e)
      unfold lk valV shD at ih ⊢
      rw [List.map_cons, List.find?_cons_of_neg (by simpa using h2), List.find?_cons_of_neg (by simpa using h)]
      exact ih
theorem putK_new (L : List (Str × Int)) (z : Str) (l : Int) (h : lk L z = none) : putK (shD L) (.inr z) (.int l) = shD (L ++ [(z, l)]) := by
  have hn : ((shD L).any fun kv => decide (kv.1 = (.inr z : Key))) = false := by
    rw [List.any_eq_false]
    intro kv hkv
    obtain ⟨q, hq, rfl⟩ := List.mem_map.mp hkv
    have h1 : L.find? (fun q => q.1 = z) = none := by
      unfold lk at h
      exact Option.map_eq_none_iff.mp h
    have h2 := List.find?_eq_none.mp h1 q hq
    intro e
    have e' : (Sum.inr q.1 : Key) = .inr z := of_decide_eq_true e
    injection e' with e'
    exact h2 (decide_eq_true e')
  unfold putK
  rw [hn, if_neg (by decide)]
  show _ = shD (L ++ [(z, l)])
  unfold shD
  rw [List.map_append]
  rfl
theorem shD_len (L : List (Str × Int)) : (shD L).length = L.length := List.length_map _
theorem shD_keys (L : List (Str × Int)) : (shD L).map (·.1) = (L.map (·.1)).map Sum.inr := by
  unfold shD
  rw [List.map_map, List.map_map]
  rfl
/-- a shelf -/
def ShelfR (K : PySem.W.Frag) (p : Addr) (L : List (Str × Int)) : As := ex fun dx => ex fun d => all [pt p (.ins (He.ga K "Shelf") dx (nmShelf.zip [.ref d])), pt d (.dK (shD L))]
instance {K : PySem.W.Frag} {p : Addr} {L : List (Str × Int)} : Kys (ShelfR K p L) p := ⟨trivial⟩
instance {K : PySem.W.Frag} {p : Addr} {L : List (Str × Int)} : IsOb (ShelfR K p L) p (He.ga K "Shelf") nmShelf := ⟨fun h ⟨dx, d, a⟩ => ⟨dx, _, Sep.get a⟩⟩
theorem Sep.opS {p : Addr} {L : List (Str × Int)} {R : List As} {H : Hp} (h : Sep (ShelfR K p L :: R) H) : ∃ dx d, Sep (pt p (.ins (He.ga K "Shelf") dx (nmShelf.zip [.ref d])) :: pt d (.dK (shD L)) :: R) H := by
  obtain ⟨dx, h⟩ := h.ex
  obtain ⟨d, h⟩ := h.ex
  exact ⟨dx, d, h.flat⟩
theorem Sep.clS' (L : List (Str × Int)) (dx d : Addr) {p : Addr} {R M : List As} {H : Hp} (h : Sep M H) (e : En M (pt p (.ins (He.ga K "Shelf") dx (nmShelf.zip [.ref d])) :: pt d (.dK (shD L)) :: R)) : Sep (ShelfR K p L :: R) H := Sep.exi dx (Sep.exi d (Sep.wrap (h.of e)))
def sp_Shelf_init (K : PySem.W.Frag) : Sp := fun vs H Q E => ∃ (p dx : Addr) (R : List As), vs = [.ref p] ∧ Sep (pt p (.ins (He.ga K "Shelf") dx []) :: R) H ∧ ∀ H', Sep (ShelfR K p [] :: R) H' → Q .non H'
theorem ln_Shelf_init : ∀ vs H Q E, sp_Shelf_init K vs H Q E → vs.length = (["self"] : List Str).length := by
  rintro _ _ _ _ ⟨p, dx, R, rfl, _⟩
  rfl
theorem sc_Shelf_init : FnScope ["self"] ["self"] (defScope s_Shelf_init) := ⟨rfl, rfl, rfl, by decide +kernel, rfl, by decide +kernel, by decide +kernel⟩
theorem ok_Shelf_init (T : Top K mg) : OkD P w K mg base d_Shelf_init 1 ["self"] (sp_Shelf_init K) := by
  refine okD (df_Shelf_init T) sc_Shelf_init (fun _ _ _ _ _ _ us hl => match us, hl with | [_], _ => rfl) ln_Shelf_init (fun cdv A outer s H vs Q E hr h => ⟨_,
      pss_one (ps_fld (pv 0) pe_dnewK rfl), ?_⟩)
  obtain ⟨p, dx, R, rfl, hS, h1⟩ := h
  walk_at "wo"
  exact h1 _ (Sep.clS' ([]) dx u hS (by (try simp only [List.map_nil]); repeat (first | exact En.refl | exact En.nil | refine En.cons ?_ | refine En.drop ?_)))
def addK (L : List (Str × Int)) (z : Str) (l : Int) : Option Kd := if ¬ okName z ∨ (lk L z).isSome = true ∨ L.length = 6 then some .tune else if 1 ≤ l ∧ l ≤ 40 then none else some .number
def sp_Shelf_add (K : PySem.W.Frag) : Sp := fun vs H Q E => ∃ (p : Addr) (z : Str) (l : Int) (L : List (Str × Int)) (R : List As), vs = [.ref p, .str z, .int l] ∧ z.length ≤ 1000 ∧ L.length ≤ 1000 ∧ Sep (ShelfR K p L :: R) H ∧
  (addK L z l = none → ∀ H', Sep (ShelfR K p (L ++ [(z, l)]) :: R) H' → Q .non H') ∧ (∀ k, addK L z l = some k → ∀ H', Sep (ShelfR K p L :: R) H' → E (.ref (He.ga K k.cls)) none H')
theorem ln_Shelf_add : ∀ vs H Q E, sp_Shelf_add K vs H Q E → vs.length = (["self", "name", "long"] : List Str).length := by
  rintro _ _ _ _ ⟨p, z, l, L, R, rfl, _⟩
  rfl
theorem sc_Shelf_add : FnScope ["self", "name", "long"] ["self", "name", "long"] (defScope s_Shelf_add) := ⟨rfl, rfl, rfl, by decide +kernel, rfl, by decide +kernel, by decide +kernel⟩
theorem ok_Shelf_add (T : Top K mg) : OkD P w K mg base d_Shelf_add 2 ["self", "name", "long"] (sp_Shelf_add K) := by
  refine okD (df_Shelf_add T) sc_Shelf_add (fun _ _ _ _ _ _ us hl => match us, hl with | [_, _, _], _ => rfl) ln_Shelf_add (fun cdv A outer s H vs Q E hr h => ⟨_,
      pss_cons (ps_expr (px_call (ok_look_name T) (hr.mono (by decide)) rfl (gl_look_name T) (fun σ => paD σ) (pa_cons (pv 1) pa_nil)))
      (pss_cons (ps_if (PW.pt (pw_or (pt_cmp (pc_din (hu_of hr) (pv 1) (pe_fld (pv 0) rfl))) (pw_or1 (pt_cmpR (op_eqA hr.units) (pe_callB call_lenD (by rfl) (fr_len T) (by decide +kernel) (pa_cons (pe_fld (pv 0) rfl) pa_nil)) (px_int rfl (gi_MOST_TUNES T)) (nomark _)))))
       (pss_one (px_raise rfl tkD rfl (gl_BadTune T) (xc_BadTune T)))
       (pss_nil))
      (pss_cons (ps_if (pt_not (pt_chain op_le op_le pe_int (pv 2) (px_int rfl (gi_MOST_LONG T))))
       (pss_one (px_raise rfl tkD rfl (gl_BadNumber T) (xc_BadNumber T)))
       (pss_nil))
      (pss_one (ps_dput (hu_of hr) (pe_fld (pv 0) rfl) (pv 1) (pv 2) rfl)))), ?_⟩)
  obtain ⟨p, z, l, L, R, rfl, hz, hL, hS, h1, h2⟩ := h
  obtain ⟨dx, d, hS⟩ := hS.opS
  walk_at "wo"
  refine ⟨z, _, rfl, hz, hS, fun hk H hS => ?_, fun hk H hS => h2 .tune (if_pos (.inl hk)) _ (Sep.clS' (L) dx d hS (by (try simp only [List.map_nil]); repeat (first | exact En.refl | exact En.nil | refine En.cons ?_ | refine En.drop ?_)))⟩
  walk_at "w"
  refine y_cut (fun σ H' => (lk L z = none ∧ L.length ≠ 6) ∧ σ = [some (.ref p), some (.str z), some (.int l)] ∧ Sep (pt p (.ins (He.ga K "Shelf") dx (nmShelf.zip [.ref d])) :: pt d (.dK (shD L)) :: R) H') (fun N hN => ?_) ?_
  · walk_at "v"
    refine y_dis hS ?_
    rw [lk_val, Option.isSome_map]
    walk_at "v"
    refine x_bool (fun hk => ?_) (fun hk2 => ?_)
    · walk_at "v"
      exact h2 .tune (if_pos (.inr (.inl hk))) _ (Sep.clS' (L) dx d hS (by (try simp only [List.map_nil]); repeat (first | exact En.refl | exact En.nil | refine En.cons ?_ | refine En.drop ?_)))
    · walk_at "v"
      refine ⟨d, _, rfl, hS.at_, ?_⟩
      walk_at "v"
      rw [shD_len]
      refine x_dec (fun h6 => ?_) (fun h6 => ?_)
      · walk_at "v"
        exact h2 .tune (if_pos (.inr (.inr (by omega)))) _ (Sep.clS' (L) dx d hS (by (try simp only [List.map_nil]); repeat (first | exact En.refl | exact En.nil | refine En.cons ?_ | refine En.drop ?_)))
      · walk_at "v"
        exact hN _ _ ⟨⟨Option.isSome_eq_false_iff.mp hk2 |> Option.isNone_iff_eq_none.mp, by omega⟩, rfl, hS⟩
  · rintro σ H ⟨⟨hn, h6⟩, rfl, hS⟩
    have hnt : ¬ (¬ okName z ∨ (lk L z).isSome = true ∨ L.length = 6) := by
      rintro (h | h | h)
      · exact h hk
      · rw [hn] at h; cases h
      · exact h6 h
    walk_at "v"
    refine x_dec (fun hA => ?_) (fun hA => ?_)
    · walk_at "v"
      refine x_ndec (fun hB => ?_) (fun hB => ?_)
      · walk_at "v"
        exact h2 .number ((if_neg hnt).trans (if_neg (fun q => hB q.2))) _ (Sep.clS' (L) dx d hS (by (try simp only [List.map_nil]); repeat (first | exact En.refl | exact En.nil | refine En.cons ?_ | refine En.drop ?_)))
      · walk_at "v"
        refine y_dps hS (by rw [shD_len]; omega) fun H hS => ?_
        rw [putK_new L z l hn] at hS
        exact h1 ((if_neg hnt).trans (if_pos ⟨hA, hB⟩)) _ (Sep.clS' (L ++ [(z, l)]) dx d hS (by (try simp only [List.map_nil]); repeat (first | exact En.refl | exact En.nil | refine En.cons ?_ | refine En.drop ?_)))
    · walk_at "v"
      exact h2 .number ((if_neg hnt).trans (if_neg (fun q => hA q.1))) _ (Sep.clS' (L) dx d hS (by (try simp only [List.map_nil]); repeat (first | exact En.refl | exact En.nil | refine En.cons ?_ | refine En.drop ?_)))
def sp_Shelf_need (K : PySem.W.Frag) : Sp := fun vs H Q E => ∃ (p : Addr) (z : Str) (L : List (Str × Int)) (R : List As), vs = [.ref p, .str z] ∧ Sep (ShelfR K p L :: R) H ∧
  ((lk L z).isSome = true → ∀ H', Sep (ShelfR K p L :: R) H' → Q .non H') ∧ (lk L z = none → ∀ H', Sep (ShelfR K p L :: R) H' → E (.ref (He.ga K "BadTune")) none H')
theorem ln_Shelf_need : ∀ vs H Q E, sp_Shelf_need K vs H Q E → vs.length = (["self", "name"] : List Str).length := by
  rintro _ _ _ _ ⟨p, z, L, R, rfl, _⟩
  rfl
theorem sc_Shelf_need : FnScope ["self", "name"] ["self", "name"] (defScope s_Shelf_need) := ⟨rfl, rfl, rfl, by decide +kernel, rfl, by decide +kernel, by decide +kernel⟩
theorem ok_Shelf_need (T : Top K mg) : OkD P w K mg base d_Shelf_need 1 ["self", "name"] (sp_Shelf_need K) := by
  refine okD (df_Shelf_need T) sc_Shelf_need (fun _ _ _ _ _ _ us hl => match us, hl with | [_, _], _ => rfl) ln_Shelf_need (fun cdv A outer s H vs Q E hr h => ⟨_,
      pss_one (ps_if (pt_cmp (pc_dnotin (hu_of hr) (pv 1) (pe_fld (pv 0) rfl)))
       (pss_one (px_raise rfl tkD rfl (gl_BadTune T) (xc_BadTune T)))
       (pss_nil)), ?_⟩)
  obtain ⟨p, z, L, R, rfl, hS, h1, h2⟩ := h
  obtain ⟨dx, d, hS⟩ := hS.opS
  walk_at "wo"
  refine y_dns hS ?_
  rw [lk_val, Option.isSome_map]
  walk_at "v"
  refine x_nbool (fun hk => ?_) (fun hk => ?_)
  · walk_at "v"
    exact h2 (Option.isNone_iff_eq_none.mp (Option.isSome_eq_false_iff.mp hk)) _ (Sep.clS' (L) dx d hS (by (try simp only [List.map_nil]); repeat (first | exact En.refl | exact En.nil | refine En.cons ?_ | refine En.drop ?_)))
  · walk_at "v"
    exact h1 hk _ (Sep.clS' (L) dx d hS (by (try simp only [List.map_nil]); repeat (first | exact En.refl | exact En.nil | refine En.cons ?_ | refine En.drop ?_)))
def sp_Shelf_long (K : PySem.W.Frag) : Sp := fun vs H Q E => ∃ (p : Addr) (z : Str) (L : List (Str × Int)) (R : List As), vs = [.ref p, .str z] ∧ Sep (ShelfR K p L :: R) H ∧
  (∀ l, lk L z = some l → ∀ H', Sep (ShelfR K p L :: R) H' → Q (.int l) H') ∧ (lk L z = none → ∀ H', Sep (ShelfR K p L :: R) H' → E (.ref (He.ga K "BadTune")) none H')
theorem ln_Shelf_long : ∀ vs H Q E, sp_Shelf_long K vs H Q E → vs.length = (["self", "name"] : List Str).length := by
  rintro _ _ _ _ ⟨p, z, L, R, rfl, _⟩
  rfl
theorem sc_Shelf_long : FnScope ["self", "name"] ["self", "name"] (defScope s_Shelf_long) := ⟨rfl, rfl, rfl, by decide +kernel, rfl, by decide +kernel, by decide +kernel⟩
theorem ok_Shelf_long (T : Top K mg) : OkD P w K mg base d_Shelf_long 2 ["self", "name"] (sp_Shelf_long K) := by
  refine okD (df_Shelf_long T) sc_Shelf_long (fun _ _ _ _ _ _ us hl => match us, hl with | [_, _], _ => rfl) ln_Shelf_long (fun cdv A outer s H vs Q E hr h => ⟨_,
      pss_cons (ps_expr (px_meth (ok_Shelf_need T) (hr.mono (by decide)) (pv 0) (cl_Shelf T) (me_Shelf_need T) (fun σ => paD σ) (pa_cons (pv 1) pa_nil)))
      (pss_one (ps_ret (pe_dget (hu_of hr) (pe_fld (pv 0) rfl) (pv 1) (fun _ _ => rfl)))), ?_⟩)
  obtain ⟨p, z, L, R, rfl, hS, h1, h2⟩ := h
  walk_at "wo"
  refine ⟨p, z, L, _, rfl, hS, fun hk H hS => ?_, h2⟩
  obtain ⟨l, hl⟩ := Option.isSome_iff_exists.mp hk
  obtain ⟨dx, d, hS⟩ := hS.opS
  walk_at "v"
  refine y_dgs hS (v := .int l) (by rw [lk_val, hl] <;> rfl) ?_
  exact h1 l hl _ (Sep.clS' (L) dx d hS (by (try simp only [List.map_nil]); repeat (first | exact En.refl | exact En.nil | refine En.cons ?_ | refine En.drop ?_)))
def sp_Shelf_names (K : PySem.W.Frag) : Sp := fun vs H Q E => ∃ (p : Addr) (L : List (Str × Int)) (R : List As), vs = [.ref p] ∧ L.length ≤ 60 ∧ Sep (ShelfR K p L :: R) H ∧
  ∀ (ws : List Str) (l : Addr) H', ws.Perm (L.map (·.1)) → sortedS ws = true → Sep (pt l (.lst (ws.map V.str)) :: ShelfR K p L :: R) H' → Q (.ref l) H'
theorem ln_Shelf_names : ∀ vs H Q E, sp_Shelf_names K vs H Q E → vs.length = (["self"] : List Str).length := by
  rintro _ _ _ _ ⟨p, L, R, rfl, _⟩
  rfl
theorem sc_Shelf_names : FnScope ["self"] ["self"] (defScope s_Shelf_names) := ⟨rfl, rfl, rfl, by decide +kernel, rfl, by decide +kernel, by decide +kernel⟩
theorem ok_Shelf_names (T : Top K mg) : OkD P w K mg base d_Shelf_names 1 ["self"] (sp_Shelf_names K) := by
  refine okD (df_Shelf_names T) sc_Shelf_names (fun _ _ _ _ _ _ us hl => match us, hl with | [_], _ => rfl) ln_Shelf_names (fun cdv A outer s H vs Q E hr h => ⟨_,
      pss_one (ps_ret (pe_callB (call_sortKS rfl) (by rfl) (fr_sorted T) (by decide +kernel) (pa_cons (pe_bm0 PySem.F.plainAttrs_dict PySem.F.slot_dict_keys PySem.F.type_dict_keys mt_keys (pe_fld (pv 0) rfl)) pa_nil))), ?_⟩)
  obtain ⟨p, L, R, rfl, hL, hS, h1⟩ := h
  obtain ⟨dx, d, hS⟩ := hS.opS
  walk_at "wo"
  refine x_sortKS hS (shD_keys L) (by rw [List.length_map]; exact hL) fun ws l H hp hs hS => ?_
  have hS : Sep (ShelfR K p L :: pt l (.lst (ws.map V.str)) :: R) H := (Sep.clS' (L) dx d hS (by (try simp only [List.map_nil]); repeat (first | exact En.refl | exact En.nil | refine En.cons ?_ | refine En.drop ?_)))
  exact h1 ws l _ hp hs (hS.of (by repeat (first | exact En.refl | exact En.nil | refine En.cons ?_ | refine En.drop ?_)))

end
end TR

set_option Elab.async false
set_option linter.all false
set_option maxRecDepth 100000
set_option maxHeartbeats 4000000
/-! .. -/
set_option hygiene false
local macro_rules | `(tactic| walk_at "s1") => `(tactic| first
  | (with_reducible refine x_seq ?_)
  | (with_reducible refine x_asg ?_)
  | (with_reducible refine y_asg ?_)
  | (with_reducible refine x_name ?_)
  | (with_reducible refine x_ifS ?_)
  | (with_reducible refine y_ifS ?_)
  | (with_reducible refine x_ret ?_)
  | (with_reducible refine x_retN ?_)
  | (with_reducible refine x_drop ?_)
  | (with_reducible refine y_drop ?_)
  | (with_reducible refine x_next ?_)
  | (with_reducible refine x_cont ?_)
  | (with_reducible refine x_test ?_)
  | (with_reducible refine x_tB ?_)
  | (with_reducible refine y_test ?_)
  | (with_reducible refine x_not ?_)
  | (with_reducible refine y_not ?_)
  | (with_reducible refine x_and ?_)
  | (with_reducible refine y_and ?_)
  | (with_reducible refine x_or ?_)
  | (with_reducible refine y_or ?_)
  | (with_reducible refine x_chain ?_)
  | (with_reducible refine y_ch1 ?_)
  | (with_reducible refine y_ch2 ?_)
  | (with_reducible refine y_ch3 ?_)
  | (with_reducible refine x_andV ?_)
  | (with_reducible refine y_andV ?_)
  | (with_reducible refine x_orV ?_)
  | (with_reducible refine y_orV ?_)
  | (with_reducible refine x_notV ?_)
  | (with_reducible refine y_notV ?_)
  | (with_reducible refine x_if ?_)
  | (with_reducible refine y_ifE ?_)
  | (with_reducible refine x_op ?_)
  | (with_reducible refine y_op1 ?_)
  | (with_reducible refine y_op2 ?_)
  | (with_reducible refine x_un ?_)
  | (with_reducible refine y_neg ?_)
  | (with_reducible refine x_c ?_)
  | (with_reducible refine x_fld ?_)
  | (with_reducible refine x_sfld ?_)
  | (with_reducible refine y_sf ?_)
  | (with_reducible refine x_nil ?_)
  | (with_reducible refine x_cons ?_)
  | (with_reducible refine y_c1 ?_)
  | (with_reducible refine y_c2 ?_)
  | (with_reducible refine x_callS ?_)
  | (with_reducible refine y_sp ?_)
  | (with_reducible refine x_meth ?_)
  | (with_reducible refine y_mt2 ?_)
  | (with_reducible refine x_make ?_)
  | (with_reducible refine y_mq ?_)
  | (with_reducible refine x_cb ?_)
  | (with_reducible refine y_cb ?_)
  | (with_reducible refine x_bm ?_)
  | (with_reducible refine y_bq ?_)
  | (with_reducible refine x_bm0 ?_)
  | (with_reducible refine x_rz ?_)
  | (with_reducible refine x_lst ?_)
  | (with_reducible refine x_tup ?_)
  | (with_reducible refine x_sub ?_)
  | (with_reducible refine y_sb1 ?_)
  | (with_reducible refine x_for1 ?_)
  | (with_reducible refine x_forL ?_)
  | (with_reducible refine x_for3 ?_)
  | (with_reducible refine x_forT ?_)
  | (with_reducible refine y_body ?_)
  | (with_reducible refine x_tru ?_)
  | (with_reducible refine y_trub ?_)
  | (with_reducible refine y_trui ?_)
  | (with_reducible refine y_trun ?_)
  | (with_reducible refine x_gcons ?_)
  | (with_reducible refine y_g ?_)
  | (with_reducible refine x_gnil ?_)
  | (with_reducible refine x_rev ?_)
  | (with_reducible refine x_sl ?_)
  | (with_reducible refine y_sl1 ?_)
  | (with_reducible refine y_sl2 ?_)
  | (with_reducible refine y_sl3 ?_)
  | (with_reducible refine x_nop ?_)
  | (with_reducible refine x_part ?_)
  | (with_reducible refine y_part ?_)
  | (with_reducible refine x_lrange1 ?_)
  | (with_reducible refine x_lrange2 ?_)
  | (with_reducible refine y_lr2 ?_)
  | (with_reducible refine x_addI ?_)
  | (with_reducible refine x_dget ?_)
  | (with_reducible refine y_dg1 ?_)
  | (with_reducible refine x_din ?_)
  | (with_reducible refine y_di1 ?_)
  | (with_reducible refine x_dnotin ?_)
  | (with_reducible refine y_dn1 ?_)
  | (with_reducible refine x_dput ?_)
  | (with_reducible refine y_dp1 ?_)
  | (with_reducible refine y_dp2 ?_)
  | (with_reducible refine x_dnew hS (fun u H hS => ?_))
  | (with_reducible refine x_disp hS (fun u H hS => ?_))
  | (with_reducible refine x_prs ?_)
  | (with_reducible refine y_pa ?_)
  | (with_reducible refine y_pb ?_)
  | (with_reducible refine x_prn ?_)
  | (with_reducible refine y_pc ?_)
  | (with_reducible refine x_m1 ?_)
  | (with_reducible refine y_m1a ?_)
  | (with_reducible refine y_m1b ?_)
  | (with_reducible refine x_lcS ?_)
  | (with_reducible refine x_get2 ?_)
  | (with_reducible refine y_gt2 ?_)
  | (with_reducible refine x_forK ?_)
  | (with_reducible refine y_un (sqL hS) ?_)
  | (with_reducible refine y_un0 (sqL hS) ?_)
  | (with_reducible refine y_bmd hS ?_)
  | (with_reducible refine y_bmd0 hS ?_)
  | (with_reducible refine x_keys hS (fun u H hS => ?_))
  | (with_reducible refine x_dcopy hS (fun u H hS => ?_))
  | (with_reducible refine y_gt1 hS ?_)
  | (with_reducible refine y_gt3s hS ?_)
  | (with_reducible refine y_dgo hS ?_)
  | (with_reducible refine y_dpo hS (fun H hS => ?_))
  | ((with_reducible refine x_try (fun pn xe tk po => ?_)); (try dsimp only [cxOf]))
  | (with_reducible refine x_lcT ?_)
  | (with_reducible refine x_lcL ?_)
  | (with_reducible refine x_lcR ?_)
  | (with_reducible refine y_tt ?_)
  | (with_reducible refine x_yes' ?_)
  | ((with_reducible refine' y_lcb ?h1 ?_); (case h1 => exact rfl))
  | (with_reducible refine x_I0 ?_)
  | (with_reducible refine x_eqI ?_)
  | (with_reducible refine x_neI ?_)
  | (with_reducible refine x_isN ?_)
  | (with_reducible refine x_notN ?_)
  | (with_reducible refine x_tt ?_)
  | (with_reducible refine x_ff ?_)
  | (with_reducible refine x_nt ?_)
  | (with_reducible refine x_nf ?_)
  | (with_reducible refine y_fld hS ?_)
  | (with_reducible refine y_meth hS ?_)
  | (with_reducible refine y_put hS (fun H hS => ?_))
  | ((with_reducible refine' x_var ?h1 ?_); (case h1 => exact rfl))
  | (with_reducible refine y_lst hS (by first | decide | (show _ ≤ sizeLine; simp only [List.length_cons, List.length_nil]; decide)) (fun u H hS => ?_))
  | (with_reducible refine y_tup hS (by first | decide | (show _ ≤ sizeLine; simp only [List.length_cons, List.length_nil]; decide)) (fun u H hS => ?_)))
local macro_rules | `(tactic| walk_at "s") => `(tactic| repeat walk_at "s1")
local macro_rules | `(tactic| walk_at "go") => `(tactic| (dsimp only [cxOf]; repeat walk_at "s1"))
local macro_rules | `(tactic| walk_at "w1") => `(tactic| first
  | (with_reducible refine x_stop ?_)
  | (with_reducible refine x_stopE ?_)
  | (with_reducible refine x_stopA ?_)
  | (with_reducible refine x_stopO ?_)
  | walk_at "s1"
  | walk_at "k1")
local macro_rules | `(tactic| walk_at "k1") => `(tactic| first
  | ((with_reducible refine' x_eqS ?h1 ?_); (case h1 => exact rfl))
  | ((with_reducible refine' x_neS ?h1 ?_); (case h1 => exact rfl))
  | ((with_reducible refine' x_yes ?h1 ?_); (case h1 => exact rfl))
  | ((with_reducible refine' x_no ?h1 ?_); (case h1 => exact rfl)))
local macro_rules | `(tactic| walk_at "w") => `(tactic| repeat walk_at "w1")
local macro_rules | `(tactic| walk_at "wo") => `(tactic| (dsimp only [cxOf]; repeat walk_at "w1"))
local macro_rules | `(tactic| walk_at "v") => `(tactic| repeat (first | walk_at "s1" | walk_at "k1"))

namespace TR
open PySem PySem.Spec PyProof.Rows L2
section
variable {P : Program} {w : World} {K : PySem.W.Frag} {mg : Str → Option Value} {base : Heap}
/-! ### the law's own -/
def signsZ : Str := (" !\"#$&'()*+,-./0123456789:;<=>?@ABCDEFGHIJKLMNOPQRSTUVWXYZ" : Str) ++ ("[\\]^_`abcdefghijklmnopqrstuvwxyz{|}~" : Str)
def sp_l_signs (K : PySem.W.Frag) : Sp := fun vs H Q E => vs = [] ∧ Q (.str signsZ) H
theorem ln_l_signs : ∀ vs H Q E, sp_l_signs K vs H Q E → vs.length = ([] : List Str).length := by
  rintro _ _ _ _ ⟨rfl, _⟩
  rfl
theorem sc_l_signs : FnScope ["_law_found"] [] (defScope s_l_signs) := ⟨rfl, rfl, rfl, by decide +kernel, rfl, by decide +kernel, by decide +kernel⟩
theorem ok_l_signs (T : Top K mg) : OkD P w K mg base d_l_signs 1 [] (sp_l_signs K) := by
  refine okD (df_l_signs T) sc_l_signs (fun _ _ _ _ _ _ us hl => match us, hl with | [], _ => rfl) ln_l_signs (fun cdv A outer s H vs Q E hr h => ⟨_,
      pss_cons (ps_set (i := 0) sc_l_signs.nd rfl (Or.inl rfl) pe_str)
      (pss_one (ps_ret (pe_op op_addA (pv 0) pe_str))), ?_⟩)
  obtain ⟨rfl, h1⟩ := h
  walk_at "wo"
  refine x_addS (by decide) ?_
  exact h1
def sp_l_told (K : PySem.W.Frag) : Sp := fun vs H Q E => ∃ (p : Addr) (z : Str) (lo : Option Int) (L : List (Str × Int)) (R : List As), vs = [.ref p, .str z, oV lo] ∧ z.length ≤ 1000 ∧ L.length ≤ 1000 ∧ Sep (ShelfR K p L :: R) H ∧
  (lo = none → (∀ l, lk L z = some l → ∀ H', Sep (ShelfR K p L :: R) H' → Q (.int l) H') ∧ (lk L z = none → ∀ u H', Sep (RefR u .tune :: ShelfR K p L :: R) H' → Q (.ref u) H')) ∧
  (∀ l, lo = some l → (addK L z l = none → ∀ H', Sep (ShelfR K p (L ++ [(z, l)]) :: R) H' → Q .non H') ∧ (∀ k, addK L z l = some k → ∀ u H', Sep (RefR u k :: ShelfR K p L :: R) H' → Q (.ref u) H'))
theorem ln_l_told : ∀ vs H Q E, sp_l_told K vs H Q E → vs.length = (["_law_shelf", "_law_name", "_law_long"] : List Str).length := by
  rintro _ _ _ _ ⟨p, z, lo, L, R, rfl, _⟩
  rfl
theorem xm_kd (T : Top K mg) (k : Kd) : PySem.W.exmOne K (.ref (He.ga K k.cls)) (.ref (He.ga K "RoadError")) = some true := match k with
  | .tune => xm_BadTune_RoadError T | .number => xm_BadNumber_RoadError T | .entry => xm_BadEntry_RoadError T | .word => xm_BadWord_RoadError T
theorem sc_l_told : FnScope ["_law_shelf", "_law_name", "_law_long", "_law_held", "_law_found", "e"] ["_law_shelf", "_law_name", "_law_long"] (defScope s_l_told) := ⟨rfl, rfl, rfl, by decide +kernel, rfl, by decide +kernel, by decide +kernel⟩
theorem ok_l_told (T : Top K mg) : OkD P w K mg base d_l_told 3 ["_law_shelf", "_law_name", "_law_long"] (sp_l_told K) := by
  refine okD (df_l_told T) sc_l_told (fun _ _ _ _ _ _ us hl => match us, hl with | [_, _, _], _ => rfl) ln_l_told (fun cdv A outer s H vs Q E hr h => ⟨_,
      pss_cons (ps_set (i := 3) sc_l_told.nd rfl (Or.inl rfl) pe_non)
      (pss_cons (ps_set (i := 4) sc_l_told.nd rfl (Or.inl rfl) pe_non)
      (pss_cons (ps_try_hold (i := 5) (Wout := fun _ _ _ _ => False) rfl rfl rfl sc_l_told.nd rfl rfl ⟨rfl, by decide, .inl (gl_RoadError T)⟩ takes0
       (fun W pn xe tk po => (by exact pss_one (ps_set (i := 4) sc_l_told.nd rfl (Or.inl rfl) (pe_ifExp (pt_cmpR op_isN1 (pv 2) pe_non (nomark _)) (px_meth (E := WE W) (ok_Shelf_long T) (hr.mono (by decide)) (pv 0) (cl_Shelf T) (me_Shelf_long T) (fun σ => passAt tk σ) (pa_cons (pv 1) pa_nil)) (px_meth (E := WE W) (ok_Shelf_add T) (hr.mono (by decide)) (pv 0) (cl_Shelf T) (me_Shelf_add T) (fun σ => passAt tk σ) (pa_cons (pv 1) (pa_cons (pv 2) pa_nil)))))))
       (fun a pn => (by exact pss_one (ps_set (i := 3) sc_l_told.nd rfl (Or.inl rfl) (pv 5)))))
      (pss_one (ps_ret (pe_ifExp (pt_cmpR op_isN1 (pv 3) pe_non (nomark _)) (pv 4) (px_call (ok_l_refusal T) (hr.mono (by decide)) rfl (gl__law_refusal T) (fun σ => paD σ) (pa_cons (pv 3) pa_nil))))))), ?_⟩)
  obtain ⟨p, z, lo, L, R, rfl, hz, hL, hS, h1, h2⟩ := h
  cases lo with
  | none =>
    obtain ⟨h1, h3⟩ := h1 rfl
    walk_at "go"
    walk_at "v"
    refine ⟨p, z, L, R, rfl, hS, fun l hl H hS => ?_, fun hk H hS => ?_⟩
    · walk_at "v"
      exact h1 l hl _ hS
    · refine y_hold (xm_kd T .tune) (fun _ => rfl) hS fun e H hS => ?_
      walk_at "v"
      exact ⟨e, .tune, _, rfl, hS, h3 hk⟩
  | some l =>
    obtain ⟨h1, h3⟩ := h2 l rfl
    walk_at "go"
    walk_at "v"
    refine ⟨p, z, l, L, R, rfl, hz, hL, hS, fun hk H hS => ?_, fun k hk H hS => ?_⟩
    · walk_at "v"
      exact h1 hk _ hS
    · refine y_hold (xm_kd T k) (fun _ => rfl) hS fun e H hS => ?_
      walk_at "v"
      exact ⟨e, k, _, rfl, hS, h3 k hk⟩
def four : List Str := ["sevenab", "", "A", "a b"]
/-- a name of the menu -/
def mN (z : Str) : Prop := z.length ≤ 7 ∧ (okName z ∨ z ∈ four) ∧ PyData.strOk z = true
instance (z : Str) : Decidable (mN z) := by unfold mN; infer_instance
def menuZ : List Str := ["a", "b", "sixabc", "sevenab", "", "A", "a b", "c", "d", "e", "f", "g", "h", "i"]
theorem menu_ok : ∀ z ∈ menuZ, mN z := by decide +kernel
theorem four_bad : ∀ z ∈ four, ¬ okName z := by decide
theorem ok_four {z : Str} (h : mN z) : (¬ okName z) ↔ z ∈ four := ⟨fun n => h.2.1.resolve_left n, four_bad z⟩
theorem strOk_small {z : Str} (h : ∀ c ∈ z.cps.toList, c ∈ smallZ.cps.toList) : PyData.strOk z = true := by
  have hs : ∀ c ∈ smallZ.cps.toList, c < 1114112 := by decide
  show z.cps.all _ = true
  rw [← Array.all_toList, List.all_eq_true]
  exact fun c hc => decide_eq_true (hs c (h c hc))
theorem in_txt (z : Str) (zs : List Str) : inV (.str z) (zs.map V.str) = decide (z ∈ zs) := by
  unfold inV
  rw [List.any_map]
  induction zs with
  | nil => rfl
  | cons y r ih =>
    rw [List.any_cons, ih]
    show ((y == z) || decide (z ∈ r)) = _
    by_cases e : y = z
    · rw [e, beq_self_eq_true, decide_eq_true (List.mem_cons_self)] <;> rfl
    · rw [beq_eq_false_iff_ne.mpr e, Bool.false_or]
      exact decide_eq_decide.mpr ⟨fun h => List.mem_cons_of_mem _ h, fun h => (List.mem_cons.mp h).resolve_left (fun q => e q.symm)⟩
/-- what is due, as told -/
def DueA (o : Option Kd) (v : V) : As := match o with
  | none => pu (v = .non)
  | some k => ex fun u => all [pu (v = .ref u), RefR u k]
theorem due_none {v : V} {R : List As} {H : Hp} (h : Sep (DueA none v :: R) H) : v = .non ∧ Sep R H := Sep.pu h
theorem due_some {k : Kd} {v : V} {R : List As} {H : Hp} (h : Sep (DueA (some k) v :: R) H) : ∃ u, v = .ref u ∧ Sep (RefR u k :: R) H := by
  obtain ⟨u, h⟩ := Sep.ex h
  have h := Sep.flat h
  exact ⟨u, (Sep.pu h).1, (Sep.pu h).2⟩
theorem due_mk {k : Kd} {u : Addr} {R : List As} {H : Hp} (h : Sep (RefR u k :: R) H) : Sep (DueA (some k) (.ref u) :: R) H := Sep.exi u (Sep.wrap (Sep.pui rfl h))
def addS (L : List (Str × Int)) (z : Str) (l : Int) : List (Str × Int) := if addK L z l = none then L ++ [(z, l)] else L
theorem addS_len {L : List (Str × Int)} {z : Str} {l : Int} (h : L.length ≤ 6) : (addS L z l).length ≤ 6 := by
  unfold addS
  split
  · next hk =>
    unfold addK at hk
    split at hk
    · cases hk
    · next hh =>
      rw [List.length_append, List.length_singleton]
      have : L.length ≠ 6 := fun e => hh (.inr (.inr e))
      omega
  · exact h
theorem addK_ok {L : List (Str × Int)} {z : Str} {l : Int} (h : addK L z l = none) : okName z ∧ lk L z = none := by
  unfold addK at h
  split at h
  · cases h
  · next hh =>
    refine ⟨Classical.byContradiction fun n => hh (.inl n), ?_⟩
    cases q : lk L z with
    | none => rfl
    | some x => exact absurd (by rw [q] <;> rfl) fun n => hh (.inr (.inl n))
/-- names that can be told -/
def okL (L : List (Str × Int)) : Prop := ∀ z ∈ L.map (·.1), PyData.strOk z = true
theorem addS_ok {L : List (Str × Int)} {z : Str} {l : Int} (h : okL L) (hz : PyData.strOk z = true) : okL (addS L z l) := by
  unfold addS
  split
  · intro y hy
    rw [List.map_append] at hy
    rcases List.mem_append.mp hy with hy | hy
    · exact h y hy
    · rw [List.mem_singleton.mp hy]
      exact hz
  · exact h
def sixZ : List Str := ["a", "b", "c", "d", "e", "f"]
theorem six_len : ∀ z ∈ sixZ, z.length ≤ 1000 := by decide +kernel
theorem six_add : ∀ i, i < 6 → ∀ z, sixZ[i]? = some z → addK ((sixZ.take i).map fun z => (z, 5)) z 5 = none := by
  have h : ∀ i : Fin 6, addK ((sixZ.take i).map fun z => (z, 5)) (sixZ.getD i "") 5 = none := by decide +kernel
  intro i hi z hz
  have := h ⟨i, hi⟩
  rw [List.getD_eq_getElem?_getD, hz] at this
  exact this
theorem sc_law : FnScope ["_law_script", "_law_town", "_law_shelf", "_law_longs", "_law_menu", "_law_letters", "_law_k", "_law_name", "_law_odd", "_law_long", "_law_due", "_law_full", "_law_some", "_law_sign", "_law_j"] ["_law_script"] (defScope s_law) := ⟨rfl, rfl, rfl, by decide +kernel, rfl, by decide +kernel, by decide +kernel⟩
theorem ok_law (T : Top K mg) : OkD P w K mg base d_law 5 ["_law_script"] (sp_law K) := by
  refine okD (df_law T) sc_law (fun _ _ _ _ _ _ us hl => match us, hl with | [_], _ => rfl) ln_law (fun cdv A outer s H vs Q E hr h => ⟨_,
      pss_cons (ps_set (i := 1) sc_law.nd rfl (Or.inr rfl) (pe_lst pa_nil))
      (pss_cons (ps_set (i := 2) sc_law.nd rfl (Or.inl rfl) (px_make0 (ok_Shelf_init T) (hr.mono (by decide)) (mk_Shelf T) rfl (gl_Shelf T) (fun σ => paD σ)))
      (pss_cons (ps_set (i := 3) sc_law.nd rfl (Or.inl rfl) pe_dnewK)
      (pss_cons (ps_set (i := 4) sc_law.nd rfl (Or.inl rfl) (pe_lst (pa_cons pe_str (pa_cons pe_str (pa_cons pe_str (pa_cons pe_str (pa_cons pe_str (pa_cons pe_str (pa_cons pe_str (pa_cons pe_str (pa_cons pe_str (pa_cons pe_str (pa_cons pe_str (pa_cons pe_str (pa_cons pe_str (pa_cons pe_str pa_nil))))))))))))))))
      (pss_cons (ps_set (i := 5) sc_law.nd rfl (Or.inr rfl) pe_str)
      (pss_cons (ps_for (passes_of rfl) rfl (pi_range1 rfl (fr_range T) (pa_cons (px_call (ok_l_draw T) (hr.mono (by decide)) rfl (gl__law_draw T) (fun σ => paD σ) (pa_cons (pv 0) (pa_cons (pv 1) (pa_cons pe_int pa_nil)))) pa_nil)) (pg_name (i := 6) sc_law.nd rfl (Or.inl rfl))
       (pss_cons (ps_expr (pe_bm PySem.F.plainAttrs_list PySem.F.slot_list_append PySem.F.type_list_append mt_append (pv 4) (pa_cons (pe_join pe_str (pe_lc (own := [("_law_j", 14)]) (g := gName 14) (by rfl) sc_law.nd (pi_range1 rfl (fr_range T) (pa_cons (pe_op op_addA pe_int (px_call (ok_l_draw T) (hr.mono (by decide)) rfl (gl__law_draw T) (fun σ => paD σ) (pa_cons (pv 0) (pa_cons (pv 1) (pa_cons pe_int pa_nil))))) pa_nil)) (blkOk_by (own := [("_law_j", 14)]) (N := ["_law_script", "_law_town", "_law_shelf", "_law_longs", "_law_menu", "_law_letters", "_law_k", "_law_name", "_law_odd", "_law_long", "_law_due", "_law_full", "_law_some", "_law_sign", "_law_j"]) (sc := defScope s_law) (by decide +kernel)) (fun _ _ _ _ _ => pg_name (i := 14) sc_law.nd rfl (Or.inl rfl)) (fun _ _ _ _ _ => pts_nil) (fun _ _ _ _ _ => pe_ix (show IxR _ (rIx K) from ix_seq) (pv 5) (px_call (E := (fun _ => E0)) (ok_l_draw T) (hr.mono (by decide)) rfl (gl__law_draw T) (fun σ => paN σ) (pa_cons (pv 0) (pa_cons (pv 1) (pa_cons pe_int pa_nil)))) (fun _ _ => rfl)))) pa_nil)))
        (pss_cons (ps_set (i := 7) sc_law.nd rfl (Or.inl rfl) (px_call (ok_l_pick T) (hr.mono (by decide)) rfl (gl__law_pick T) (fun σ => paD σ) (pa_cons (pv 0) (pa_cons (pv 1) (pa_cons (pv 4) pa_nil)))))
        (pss_cons (ps_set (i := 8) sc_law.nd rfl (Or.inl rfl) (px_call (ok_l_pick T) (hr.mono (by decide)) rfl (gl__law_pick T) (fun σ => paD σ) (pa_cons (pv 0) (pa_cons (pv 1) (pa_cons (pe_lc (own := [("_law_sign", 13)]) (g := gName 13) (by rfl) sc_law.nd (pi_str (px_call0 (ok_l_signs T) (hr.mono (by decide)) rfl (gl__law_signs T) (fun σ => paD σ))) (blkOk_by (own := [("_law_sign", 13)]) (N := ["_law_script", "_law_town", "_law_shelf", "_law_longs", "_law_menu", "_law_letters", "_law_k", "_law_name", "_law_odd", "_law_long", "_law_due", "_law_full", "_law_some", "_law_sign", "_law_j"]) (sc := defScope s_law) (by decide +kernel)) (fun _ _ _ _ _ => pg_name (i := 13) sc_law.nd rfl (Or.inl rfl)) (fun _ _ _ _ _ => pts_one (pt_cmpR op_notIn_sign (pv 13) (pv 5) (by rfl))) (fun _ _ _ _ _ => pv 13)) pa_nil)))))
        (pss_cons (ps_if (pt_cmpR (op_neA hr.units) (px_call (ok_l_told T) (hr.mono (by decide)) rfl (gl__law_told T) (fun σ => paD σ) (pa_cons (pv 2) (pa_cons (pe_op op_addA (pv 8) (pe_slice sl_str (pv 7) po_none (po_some pe_int))) (pa_cons pe_int pa_nil)))) (pe_tup (pa_cons pe_str (pa_cons pe_str pa_nil))) (nomark _))
         (pss_one (ps_ret pe_bl))
         (pss_nil))
        (pss_cons (ps_set (i := 9) sc_law.nd rfl (Or.inl rfl) (px_call (ok_l_pick T) (hr.mono (by decide)) rfl (gl__law_pick T) (fun σ => paD σ) (pa_cons (pv 0) (pa_cons (pv 1) (pa_cons (pe_lst (pa_cons pe_int (pa_cons pe_int (pa_cons pe_int (pa_cons pe_int (pa_cons pe_int (pa_cons (pe_un un_neg pe_int) (pa_cons pe_int pa_nil)))))))) pa_nil)))))
        (pss_cons (ps_set (i := 10) sc_law.nd rfl (Or.inl rfl) pe_non)
        (pss_cons (ps_if (PW.pt (pw_or (pt_cmpR op_in_seq (pv 7) (pe_tup (pa_cons pe_str (pa_cons pe_str (pa_cons pe_str (pa_cons pe_str pa_nil))))) (by rfl)) (pw_or (pt_cmp (pc_din (hu_of hr) (pv 7) (pv 3))) (pw_or1 (pt_cmpR (op_eqA hr.units) (pe_callB call_lenD (by rfl) (fr_len T) (by decide +kernel) (pa_cons (pv 3) pa_nil)) pe_int (nomark _))))))
         (pss_one (ps_set (i := 10) sc_law.nd rfl (Or.inl rfl) (pe_tup (pa_cons pe_str (pa_cons pe_str pa_nil)))))
         (pss_one (ps_if (pt_not (pt_chain op_le op_le pe_int (pv 9) pe_int))
           (pss_one (ps_set (i := 10) sc_law.nd rfl (Or.inl rfl) (pe_tup (pa_cons pe_str (pa_cons pe_str pa_nil)))))
           (pss_one (ps_dput (hu_of hr) (pv 3) (pv 7) (pv 9) rfl)))))
        (pss_cons (ps_if (PW.pt (pw_or (pt_cmpR (op_neA hr.units) (px_call (ok_l_told T) (hr.mono (by decide)) rfl (gl__law_told T) (fun σ => paD σ) (pa_cons (pv 2) (pa_cons (pv 7) (pa_cons (pv 9) pa_nil)))) (pv 10) (nomark _)) (pw_or1 (pt_cmpR (op_neA hr.units) (px_meth0 (ok_Shelf_names T) (hr.mono (by decide)) (pv 2) (cl_Shelf T) (me_Shelf_names T) (fun σ => paD σ)) (pe_callB (call_sortKS rfl) (by rfl) (fr_sorted T) (by decide +kernel) (pa_cons (pe_bm0 PySem.F.plainAttrs_dict PySem.F.slot_dict_keys PySem.F.type_dict_keys mt_keys (pv 3)) pa_nil)) (nomark _)))))
         (pss_one (ps_ret pe_bl))
         (pss_nil))
        (pss_one (ps_expr (pe_bm PySem.F.plainAttrs_list PySem.F.slot_list_append PySem.F.type_list_append mt_append (px_meth0 (ok_Shelf_names T) (hr.mono (by decide)) (pv 2) (cl_Shelf T) (me_Shelf_names T) (fun σ => paD σ)) (pa_cons pe_str pa_nil)))))))))))))
      (pss_cons (ps_for (passes_of rfl) rfl (pi_list (pv 4)) (pg_name (i := 7) sc_law.nd rfl (Or.inl rfl))
       (pss_one (ps_if (pt_cmpR (op_neA hr.units) (px_call (ok_l_told T) (hr.mono (by decide)) rfl (gl__law_told T) (fun σ => paD σ) (pa_cons (pv 2) (pa_cons (pv 7) (pa_cons pe_non pa_nil)))) (pe_dget2 (hu_of hr) (pv 3) (pv 7) (pe_tup (pa_cons pe_str (pa_cons pe_str pa_nil))) ⟨by rfl, by rfl, by rfl, by rfl⟩) (nomark _))
         (pss_one (ps_ret pe_bl))
         (pss_nil))))
      (pss_cons (ps_set (i := 11) sc_law.nd rfl (Or.inl rfl) (px_make0 (ok_Shelf_init T) (hr.mono (by decide)) (mk_Shelf T) rfl (gl_Shelf T) (fun σ => paD σ)))
      (pss_cons (ps_set (i := 12) sc_law.nd rfl (Or.inl rfl) (pe_lst (pa_cons pe_str (pa_cons pe_str (pa_cons pe_str (pa_cons pe_str (pa_cons pe_str (pa_cons pe_str pa_nil))))))))
      (pss_cons (ps_for (passes_of rfl) rfl (pi_list (pv 12)) (pg_name (i := 7) sc_law.nd rfl (Or.inl rfl))
       (pss_one (ps_expr (px_meth (ok_Shelf_add T) (hr.mono (by decide)) (pv 11) (cl_Shelf T) (me_Shelf_add T) (fun σ => paD σ) (pa_cons (pv 7) (pa_cons pe_int pa_nil))))))
      (pss_one (ps_ret (pe_and (pe_cmpR (op_eqA hr.units) (px_call (ok_l_told T) (hr.mono (by decide)) rfl (gl__law_told T) (fun σ => paD σ) (pa_cons (pv 11) (pa_cons pe_str (pa_cons pe_int pa_nil)))) (pe_tup (pa_cons pe_str (pa_cons pe_str pa_nil))) (nomark _)) (pe_one (pe_cmpR (op_eqA hr.units) (px_meth0 (ok_Shelf_names T) (hr.mono (by decide)) (pv 11) (cl_Shelf T) (me_Shelf_names T) (fun σ => paD σ)) (pv 12) (nomark _))))))))))))))), ?_⟩)
  obtain ⟨a, ns, rfl, hS, h1⟩ := h
  walk_at "go"
  rename Addr => t
  replace hS : Sep (TownA t 0 :: [ScrA K a ns]) H := hS
  walk_at "v"
  refine y_mk hS fun q dx H hS => ?_
  refine ⟨q, dx, _, rfl, hS.own q, fun H hS => ?_⟩
  walk_at "v"
  rename Addr => m
  obtain ⟨g, rfl⟩ : ∃ g, g = u := ⟨_, rfl⟩
  replace hS : Sep (pt m (.lst (menuZ.map V.str)) :: _) H := hS
  refine draw_use (by decide) (by omega) (hS.own2 a t) fun d0 H hd0 hS => ?_
  walk_at "v"
  refine y_for1 (fun i σ H => ∃ (n : Nat) (L : List (Str × Int)) (Z : List Str) (b6 b7 b8 b9 b10 : Option V), σ = [some (.ref a), some (.ref t), some (.ref q), some (.ref g), some (.ref m), some (.str smallZ), b6, b7, b8, b9, b10, none, none, none, none] ∧ n ≤ 1 + 20 * i ∧
      L.length ≤ 6 ∧ okL L ∧ Z.length = 14 + i ∧ (∀ z ∈ Z, mN z) ∧ Sep [ScrA K a ns, TownA t n, ShelfR K q L, pt g (.dK (shD L)), pt m (.lst (Z.map V.str))] H)
    (by omega) ⟨0 + 1, [], menuZ, _, _, _, _, _, rfl, by omega, by decide, (fun z hz => by cases hz), rfl, menu_ok, show Sep [ScrA K a ns, TownA t (0 + 1), ShelfR K q [], pt g (.dK []), pt m (.lst (menuZ.map V.str))] H from (hS.of (by repeat (first | exact En.refl | exact En.nil | refine En.cons ?_ | refine En.drop ?_)))⟩ ?_ ?_
  · rintro i σ H hi ⟨n, L, Z, b6, b7, b8, b9, b10, rfl, hn, hL, hLo, hZ, hZm, hS⟩
    walk_at "v"
    refine y_bml (sqL hS) ?_
    walk_at "v"
    refine draw_use (by decide) (by omega) (hS.own2 a t) fun d1 H hd1 hS => ?_
    walk_at "v"
    rw [show (1 : Int) + (d1 : Int) = ((1 + d1 : Nat) : Int) by omega]
    refine y_lcR (by omega) hS (fun D j H => ∃ (cs : List Nat) (n' : Nat), cs.length = j ∧ (∀ c ∈ cs, c ∈ smallZ.cps.toList) ∧ n' = n + 1 + j ∧ Sep [pt D (.lst ((cs.map one).map V.str)), ScrA K a ns, TownA t n', ShelfR K q L, pt g (.dK (shD L)), pt m (.lst (Z.map V.str))] H)
      (fun D H hS => ⟨[], _, rfl, (fun c hc => by cases hc), rfl, show Sep [pt D (.lst []), ScrA K a ns, TownA t (n + 1), ShelfR K q L, pt g (.dK (shD L)), pt m (.lst (Z.map V.str))] H from (hS.of (by repeat (first | exact En.refl | exact En.nil | refine En.cons ?_ | refine En.drop ?_)))⟩) (fun D j H hj hP => ?_) (fun D H hP => ?_)
    · obtain ⟨cs, n', hcl, hcs, hn', hS⟩ := hP
      walk_at "v"
      refine draw_use (by decide) (by omega) (hS.own2 a t) fun d2 H hd2 hS => ?_
      have hlen : smallZ.cps.toList.length = 26 := by decide +kernel
      obtain ⟨c, hc⟩ : ∃ c, smallZ.cps.toList[d2]? = some c := ⟨_, List.getElem?_eq_getElem (by omega)⟩
      walk_at "v"
      refine x_ixS (by decide) (atI_nat hc) ?_
      walk_at "v"
      refine y_el hS (by simp only [List.length_map]; omega) fun H hS => ?_
      refine ⟨cs ++ [c], n' + 1, by rw [List.length_append, hcl] <;> rfl, fun x hx => ?_, by omega, ?_⟩
      · rcases List.mem_append.mp hx with hx | hx
        · exact hcs x hx
        · rw [List.mem_singleton.mp hx]
          exact List.mem_of_getElem? hc
      · rw [List.map_append, List.map_append]
        exact (hS.of (by repeat (first | exact En.refl | exact En.nil | refine En.cons ?_ | refine En.drop ?_)))
    · obtain ⟨cs, n', hcl, hcs, rfl, hS⟩ := hP
      walk_at "v"
      have hjl := join_ones cs
      refine ⟨_, _, cs.map one, rfl, rfl, .inl (sqL hS), ?_, ?_⟩
      · rw [sum_ones]
        show cs.length + _ * 0 ≤ _
        omega
      obtain ⟨nw, hnw⟩ : ∃ nw, nw = Txt.join "" (cs.map one) := ⟨_, rfl⟩
      rw [← hnw] at hjl ⊢
      have hnl : nw.length = cs.length := by
        rw [← hjl]
        exact Array.length_toList.symm
      have hnm : mN nw := ⟨by omega, .inl ⟨⟨by omega, by omega⟩, by rw [hjl]; exact hcs⟩, strOk_small (by rw [hjl]; exact hcs)⟩
      walk_at "v"
      refine x_append hS (by rw [List.length_map]; exact sz (by omega)) fun H hS => ?_
      rw [show Z.map V.str ++ [V.str nw] = (Z ++ [nw]).map V.str by rw [List.map_append] <;> rfl] at hS
      have hZm' : ∀ z ∈ Z ++ [nw], mN z := fun z hz => by
        rcases List.mem_append.mp hz with hz | hz
        · exact hZm z hz
        · rw [List.mem_singleton.mp hz]
          exact hnm
      have hZ' : (Z ++ [nw]).length = 14 + (i + 1) := by rw [List.length_append, hZ] <;> rfl
      generalize Z ++ [nw] = Z' at hS hZm' hZ'
      walk_at "v"
      refine pick_use (fun q => by have := congrArg List.length q; rw [List.length_map, hZ'] at this; cases this) (by omega) (hS.own3 a t m) fun v H hv hS => ?_
      obtain ⟨z, hz, rfl⟩ := List.mem_map.mp hv
      have hzm := hZm' z hz
      walk_at "v"
      refine ⟨rfl, ?_⟩
      refine y_lcS hS (fun D i H => Sep [pt D (.lst (((signsZ.cps.toList.take i).filter fun c => !inSm c).map fun c => V.str (one c))), ScrA K a ns, TownA t (n + 1 + (1 + d1) + 1), ShelfR K q L, pt g (.dK (shD L)), pt m (.lst (Z'.map V.str))] H)
        (fun D H hS => show Sep [pt D (.lst []), ScrA K a ns, TownA t (n + 1 + (1 + d1) + 1), ShelfR K q L, pt g (.dK (shD L)), pt m (.lst (Z'.map V.str))] H from (hS.of (by repeat (first | exact En.refl | exact En.nil | refine En.cons ?_ | refine En.drop ?_)))) (fun D j c H hc hS => ?_) (fun D H hS => ?_)
      · have hc' : signsZ.cps.toList[j]? = some c := by rw [Array.getElem?_toList]; exact hc
        have hL : signsZ.cps.toList.length = 94 := by decide +kernel
        walk_at "v"
        refine ⟨c, smallZ, rfl, rfl, ?_⟩
        rw [List.take_add_one, hc', List.filter_append, List.map_append]
        walk_at "v"
        refine x_nbool (fun hh => ?_) (fun hh => ?_)
        · have hi : inSm c = false := hh
          walk_at "v"
          refine y_el hS (by rw [List.length_map]; have := List.length_filter_le (fun c => !inSm c) (signsZ.cps.toList.take j); rw [List.length_take] at this; omega) fun H hS => ?_
          rw [show (Option.some c).toList.filter (fun c => !inSm c) = [c] by simp [hi]]
          exact hS
        · have hi : inSm c = true := hh
          rw [show (Option.some c).toList.filter (fun c => !inSm c) = [] by simp [hi], List.map_nil, List.append_nil]
          exact hS
      · rw [show signsZ.cps.size = signsZ.cps.toList.length from Array.length_toList.symm, List.take_length] at hS
        walk_at "v"
        refine pick_use (by decide +kernel) (by omega) (hS.own3 a t D) fun v H hv hS => ?_
        obtain ⟨c, hc, rfl⟩ := List.mem_map.mp hv
        have hodd := (List.mem_filter.mp hc).2
        have hzl := hzm.1
        have hcl2 : (cutS z none (some 4)).length ≤ z.length := len_cut
        walk_at "v"
        refine x_slS (sz' (by omega)) ?_
        walk_at "v"
        refine x_addS (sz' (by show 1 + _ ≤ _; omega)) ?_
        obtain ⟨z2, hz2⟩ : ∃ z2, z2 = one c ++ cutS z none (some 4) := ⟨_, rfl⟩
        have hz2l : z2.length ≤ 1000 := by
          rw [hz2]
          show (#[c] ++ (cutS z none (some 4)).cps).size ≤ 1000
          rw [Array.size_append]
          show 1 + (cutS z none (some 4)).length ≤ 1000
          omega
        have hz2c : c ∈ z2.cps.toList := by
          rw [hz2]
          show c ∈ (#[c] ++ (cutS z none (some 4)).cps).toList
          simp
        rw [← hz2]
        have hbad : ∀ l, addK L z2 l = some .tune := fun l => if_pos (.inl fun h => by
          have h2 : inSm c = true := decide_eq_true (h.2 c hz2c)
          rw [h2] at hodd
          cases hodd)
        walk_at "v"
        refine ⟨q, z2, some 5, L, _, rfl, hz2l, by omega, hS.own q, (fun h => by cases h), fun l hl => ⟨(fun hk => by rw [hbad] at hk; cases hk), fun k hk u H hS => ?_⟩⟩
        rw [hbad] at hk
        injection hk with hk
        subst hk
        walk_at "v"
        refine x_neD (refD_dp (k := .tune) hS) (refD_dp (k := .tune) hS) (refD_sh _) (refD_sh _) ?_
        rw [eqv_of (refD_sh _)]
        walk_at "v"
        refine pick_use (by intro h; cases h) (by omega) (hS.own3 a t u) fun v H hv hS => ?_
        obtain ⟨l, rfl⟩ : ∃ l, v = V.int l := by
          simp only [List.mem_cons, List.not_mem_nil, or_false] at hv
          rcases hv with h | h | h | h | h | h | h <;> exact ⟨_, h⟩
        clear hv
        walk_at "w"
        refine y_cut (fun σ H => ∃ dv, σ = [some (.ref a), some (.ref t), some (.ref q), some (.ref g), some (.ref m), some (.str smallZ), some (.int (i : Nat)), some (.str z), some (.str (one c)), some (.int l), some dv, none, none, none, none] ∧
            Sep [ScrA K a ns, TownA t (n + 1 + (1 + d1) + 1 + 1 + 1), ShelfR K q L, pt g (.dK (shD (addS L z l))), pt m (.lst (Z'.map V.str)), DueA (addK L z l) dv] H) (fun N hN => ?_) ?_
        · walk_at "w"
          refine y_cutT (fun b H => b = decide (¬ okName z ∨ (lk L z).isSome = true ∨ L.length = 6) ∧ Sep [ScrA K a ns, TownA t (n + 1 + (1 + d1) + 1 + 1 + 1), ShelfR K q L, pt g (.dK (shD L)), pt m (.lst (Z'.map V.str))] H) (fun N2 hN2 => ?_) ?_
          · walk_at "v"
            refine ⟨u, four.map V.str, rfl, .inr (sqT hS), rfl, rfl, ?_⟩
            rw [in_txt]
            walk_at "v"
            refine x_dec (fun h4 => ?_) (fun h4 => ?_)
            · exact hN2 _ _ ⟨(decide_eq_true (.inl (four_bad z h4))).symm, (hS.of (by repeat (first | exact En.refl | exact En.nil | refine En.cons ?_ | refine En.drop ?_)))⟩
            · have hok : okName z := Classical.byContradiction fun h => h4 ((ok_four hzm).mp h)
              walk_at "v"
              refine y_dis hS ?_
              rw [lk_val, Option.isSome_map]
              walk_at "v"
              refine x_bool (fun hk => ?_) (fun hk => ?_)
              · exact hN2 _ _ ⟨(decide_eq_true (.inr (.inl hk))).symm, (hS.of (by repeat (first | exact En.refl | exact En.nil | refine En.cons ?_ | refine En.drop ?_)))⟩
              · walk_at "v"
                refine ⟨g, _, rfl, hS.at_, ?_⟩
                walk_at "v"
                rw [shD_len]
                refine hN2 _ _ ⟨decide_eq_decide.mpr ⟨fun h => .inr (.inr (by omega)), fun h => ?_⟩, (hS.of (by repeat (first | exact En.refl | exact En.nil | refine En.cons ?_ | refine En.drop ?_)))⟩
                rcases h with h | h | h
                · exact absurd hok h
                · rw [hk] at h; cases h
                · omega
          · rintro _ H ⟨rfl, hS⟩
            walk_at "v"
            refine x_dec (fun hb => ?_) (fun hb => ?_)
            · have hk : addK L z l = some .tune := if_pos hb
              have hs : addS L z l = L := if_neg (by rw [hk]; intro h; cases h)
              walk_at "v"
              replace hS : Sep (RefR u .tune :: _) H := hS
              have hS := due_mk hS
              exact hN _ _ ⟨_, rfl, by rw [hk, hs]; exact (hS.of (by repeat (first | exact En.refl | exact En.nil | refine En.cons ?_ | refine En.drop ?_)))⟩
            · walk_at "v"
              refine x_dec (fun hA => ?_) (fun hA => ?_)
              · walk_at "v"
                refine x_ndec (fun hB => ?_) (fun hB => ?_)
                · have hk : addK L z l = some .number := (if_neg hb).trans (if_neg fun h => hB h.2)
                  have hs : addS L z l = L := if_neg (by rw [hk]; intro h; cases h)
                  walk_at "v"
                  replace hS : Sep (RefR u .number :: _) H := hS
                  have hS := due_mk hS
                  exact hN _ _ ⟨_, rfl, by rw [hk, hs]; exact (hS.of (by repeat (first | exact En.refl | exact En.nil | refine En.cons ?_ | refine En.drop ?_)))⟩
                · have hk : addK L z l = none := (if_neg hb).trans (if_pos ⟨hA, hB⟩)
                  have hs : addS L z l = L ++ [(z, l)] := if_pos hk
                  walk_at "v"
                  refine y_dps hS (by rw [shD_len]; omega) fun H hS => ?_
                  rw [putK_new L z l (addK_ok hk).2] at hS
                  have hS : Sep (DueA none .non :: _) H := Sep.pui rfl hS
                  exact hN _ _ ⟨_, rfl, by rw [hk, hs]; exact (hS.of (by repeat (first | exact En.refl | exact En.nil | refine En.cons ?_ | refine En.drop ?_)))⟩
              · have hk : addK L z l = some .number := (if_neg hb).trans (if_neg fun h => hA h.1)
                have hs : addS L z l = L := if_neg (by rw [hk]; intro h; cases h)
                walk_at "v"
                replace hS : Sep (RefR u .number :: _) H := hS
                have hS := due_mk hS
                exact hN _ _ ⟨_, rfl, by rw [hk, hs]; exact (hS.of (by repeat (first | exact En.refl | exact En.nil | refine En.cons ?_ | refine En.drop ?_)))⟩
        · rintro σ H ⟨dv, rfl, hS⟩
          walk_at "w"
          have hL2 : (addS L z l).length ≤ 6 := addS_len hL
          have hLo2 : okL (addS L z l) := addS_ok hLo hzm.2.2
          refine y_cut (fun σ H => σ = [some (.ref a), some (.ref t), some (.ref q), some (.ref g), some (.ref m), some (.str smallZ), some (.int (i : Nat)), some (.str z), some (.str (one c)), some (.int l), some dv, none, none, none, none] ∧
              Sep [ScrA K a ns, TownA t (n + 1 + (1 + d1) + 1 + 1 + 1), ShelfR K q (addS L z l), pt g (.dK (shD (addS L z l))), pt m (.lst (Z'.map V.str))] H) (fun N hN => ?_) ?_
          · walk_at "v"
            cases hk : addK L z l with
            | none =>
              refine ⟨q, z, some l, L, _, rfl, by omega, by omega, hS.own q, (fun h => by cases h), fun l' hl => ?_⟩
              injection hl with hl
              subst hl
              refine ⟨fun _ H hS => ?_, (fun k hk2 => by rw [hk] at hk2; cases hk2)⟩
              have e : addS L z l = L ++ [(z, l)] := if_pos hk
              rw [← e, hk] at hS
              obtain ⟨e2, hS2⟩ := due_none (hS.to (A := DueA none dv))
              subst e2
              replace hS := hS2
              walk_at "v"
              walk_at "v"
              refine ⟨q, addS L z l, _, rfl, by omega, hS.own q, fun ws1 s1 H hp1 hs1 hS => ?_⟩
              walk_at "v"
              refine x_sortKS hS (shD_keys (addS L z l)) (by rw [List.length_map]; omega) fun ws2 s2 H hp2 hs2 hS => ?_
              have es : ws1 = ws2 := sortedS_eq hp1 hp2 hs1 hs2
              subst es
              have hsh := shaped_strs (zs := ws1) fun y hy => hLo2 y (hp1.mem_iff.mp hy)
              walk_at "v"
              refine x_neD (dp_strs (zs := ws1) (sqL hS)) (dp_strs (zs := ws1) (sqL hS)) hsh hsh ?_
              rw [eqv_of hsh]
              walk_at "v"
              exact hN _ _ ⟨rfl, (hS.of (by repeat (first | exact En.refl | exact En.nil | refine En.cons ?_ | refine En.drop ?_)))⟩
            | some k =>
              refine ⟨q, z, some l, L, _, rfl, by omega, by omega, hS.own q, (fun h => by cases h), fun l' hl => ?_⟩
              injection hl with hl
              subst hl
              refine ⟨(fun hk2 => by rw [hk] at hk2; cases hk2), fun k2 hk2 u H hS => ?_⟩
              rw [hk] at hk2
              injection hk2 with hk2
              subst hk2
              have e : addS L z l = L := if_neg (by rw [hk]; intro h; cases h)
              rw [hk] at hS
              obtain ⟨u2, e2, hS2⟩ := due_some (hS.to (A := DueA (some k) dv))
              subst e2
              replace hS := hS2
              walk_at "v"
              refine x_neD (refD_dp (k := k) hS) (refD_dp (k := k) hS) (refD_sh _) (refD_sh _) ?_
              rw [eqv_of (refD_sh _)]
              rw [show ShelfR K q L = ShelfR K q (addS L z l) by rw [e]] at hS
              walk_at "v"
              walk_at "v"
              refine ⟨q, addS L z l, _, rfl, by omega, hS.own q, fun ws1 s1 H hp1 hs1 hS => ?_⟩
              walk_at "v"
              refine x_sortKS hS (shD_keys (addS L z l)) (by rw [List.length_map]; omega) fun ws2 s2 H hp2 hs2 hS => ?_
              have es : ws1 = ws2 := sortedS_eq hp1 hp2 hs1 hs2
              subst es
              have hsh := shaped_strs (zs := ws1) fun y hy => hLo2 y (hp1.mem_iff.mp hy)
              walk_at "v"
              refine x_neD (dp_strs (zs := ws1) (sqL hS)) (dp_strs (zs := ws1) (sqL hS)) hsh hsh ?_
              rw [eqv_of hsh]
              walk_at "v"
              exact hN _ _ ⟨rfl, (hS.of (by repeat (first | exact En.refl | exact En.nil | refine En.cons ?_ | refine En.drop ?_)))⟩
          · rintro σ H ⟨rfl, hS⟩
            walk_at "v"
            refine ⟨q, addS L z l, _, rfl, by omega, hS.own q, fun ws1 s1 H hp1 hs1 hS => ?_⟩
            refine y_bml (sqL hS) ?_
            walk_at "v"
            have hwl := hp1.length_eq
            rw [List.length_map] at hwl
            refine x_append hS (by rw [List.length_map]; exact sz (by omega)) fun H hS => ?_
            walk_at "v"
            exact ⟨_, addS L z l, Z', _, _, _, _, _, rfl, by omega, hL2, hLo2, hZ', hZm', show Sep [ScrA K a ns, TownA t (n + 1 + (1 + d1) + 1 + 1 + 1), ShelfR K q (addS L z l), pt g (.dK (shD (addS L z l))), pt m (.lst (Z'.map V.str))] H from (hS.of (by repeat (first | exact En.refl | exact En.nil | refine En.cons ?_ | refine En.drop ?_)))⟩
  · rintro σ H ⟨n, L, Z, b6, b7, b8, b9, b10, rfl, hn, hL, hLo, hZ, hZm, hS⟩
    walk_at "v"
    refine y_forL (xs := Z.map V.str) (fun i σ H => ∃ b7 : Option V, σ = [some (.ref a), some (.ref t), some (.ref q), some (.ref g), some (.ref m), some (.str smallZ), b6, b7, b8, b9, b10, none, none, none, none] ∧ Sep [ShelfR K q L, pt g (.dK (shD L)), pt m (.lst (Z.map V.str))] H)
      (sqL hS) ⟨_, rfl, (hS.of (by repeat (first | exact En.refl | exact En.nil | refine En.cons ?_ | refine En.drop ?_)))⟩ (fun i σ H _ ⟨_, _, hS⟩ => sqL hS) ?_ ?_
    · rintro i x σ H hx ⟨b7, rfl, hS⟩
      obtain ⟨z, hz, rfl⟩ := List.mem_map.mp (List.mem_of_getElem? hx)
      have hzm := hZm z hz
      walk_at "v"
      refine ⟨q, z, none, L, _, rfl, by have := hzm.1; omega, by omega, hS.own q, fun _ => ⟨fun l hl H hS => ?_, fun hl u' H hS => ?_⟩, (fun l h => by cases h)⟩
      · walk_at "v"
        rw [lk_val, hl]
        walk_at "v"
        refine x_ndec (fun h => absurd rfl h) (fun _ => ?_)
        walk_at "v"
        exact ⟨_, rfl, (hS.of (by repeat (first | exact En.refl | exact En.nil | refine En.cons ?_ | refine En.drop ?_)))⟩
      · walk_at "v"
        rw [lk_val, hl]
        walk_at "v"
        refine x_neD (refD_dp (k := .tune) hS) (refD_dp (k := .tune) hS) (refD_sh _) (refD_sh _) ?_
        rw [eqv_of (refD_sh _)]
        walk_at "v"
        exact ⟨_, rfl, (hS.of (by repeat (first | exact En.refl | exact En.nil | refine En.cons ?_ | refine En.drop ?_)))⟩
    · rintro σ H ⟨b7, rfl, hS⟩
      walk_at "v"
      refine y_mk hS fun q2 dx2 H hS => ?_
      refine ⟨q2, dx2, _, rfl, hS.own q2, fun H hS => ?_⟩
      walk_at "v"
      rename Addr => s6
      replace hS : Sep (pt s6 (.lst (sixZ.map V.str)) :: _) H := hS
      refine y_forL (xs := sixZ.map V.str) (fun i σ H => ∃ b7 : Option V, σ = [some (.ref a), some (.ref t), some (.ref q), some (.ref g), some (.ref m), some (.str smallZ), b6, b7, b8, b9, b10, some (.ref q2), some (.ref s6), none, none] ∧ Sep [ShelfR K q2 ((sixZ.take i).map fun z => (z, 5)), pt s6 (.lst (sixZ.map V.str))] H)
        (sqL hS) ⟨_, rfl, show Sep [ShelfR K q2 [], pt s6 (.lst (sixZ.map V.str))] H from (hS.of (by repeat (first | exact En.refl | exact En.nil | refine En.cons ?_ | refine En.drop ?_)))⟩ (fun i σ H _ ⟨_, _, hS⟩ => sqL hS) ?_ ?_
      · rintro i x σ H hx ⟨b7, rfl, hS⟩
        rw [List.getElem?_map] at hx
        obtain ⟨z, hz, rfl⟩ := Option.map_eq_some_iff.mp hx
        have hi : i < 6 := (List.getElem?_eq_some_iff.mp hz).1
        have hk := six_add i hi z hz
        have hzl := six_len z (List.mem_of_getElem? hz)
        walk_at "v"
        refine ⟨q2, z, 5, _, _, rfl, hzl, by rw [List.length_map, List.length_take]; show min i 6 ≤ _; omega, hS.own q2, fun _ H hS => ?_, fun k hk2 => by rw [hk] at hk2; cases hk2⟩
        walk_at "v"
        refine ⟨_, rfl, ?_⟩
        rw [show (sixZ.take (i + 1)).map (fun z => (z, (5 : Int))) = (sixZ.take i).map (fun z => (z, 5)) ++ [(z, 5)] by rw [List.take_add_one, hz, List.map_append] <;> rfl]
        exact (hS.of (by repeat (first | exact En.refl | exact En.nil | refine En.cons ?_ | refine En.drop ?_)))
      · rintro σ H ⟨b7, rfl, hS⟩
        replace hS : Sep [ShelfR K q2 (sixZ.map fun z => (z, 5)), pt s6 (.lst (sixZ.map V.str))] H := hS
        have hk : addK (sixZ.map fun z => (z, 5)) "g" 0 = some .tune := by decide +kernel
        walk_at "v"
        refine ⟨q2, "g", some 0, _, _, rfl, by decide, by decide, hS.own q2, (fun h => by cases h), fun l hl => ?_⟩
        injection hl with hl
        subst hl
        refine ⟨(fun hk2 => by rw [hk] at hk2; cases hk2), fun k hk2 u2 H hS => ?_⟩
        rw [hk] at hk2
        injection hk2 with hk2
        subst hk2
        walk_at "v"
        refine x_eqD (refD_dp (k := .tune) hS) (refD_dp (k := .tune) hS) (refD_sh _) (refD_sh _) ?_
        rw [eqv_of (refD_sh _)]
        walk_at "v"
        refine ⟨q2, _, _, rfl, by decide, hS.own q2, fun ws s7 H hp hs hS => ?_⟩
        have hws : ws = sixZ := by
          have h2 : (sixZ.map fun z => (z, (5 : Int))).map (·.1) = sixZ := by decide +kernel
          rw [h2] at hp
          exact sortedS_eq hp (List.Perm.refl sixZ) hs (by decide +kernel)
        subst hws
        have hsh : SeqAt.shaped (.list (sixZ.map PyData.str)) = true := by decide +kernel
        walk_at "v"
        refine x_eqD (dp_strs (zs := sixZ) (sqL hS)) (dp_strs (zs := sixZ) (sqL hS)) hsh hsh ?_
        rw [eqv_of hsh]
        exact h1 _
theorem endF {P : Program} {w : World} {K : PySem.W.Frag} {mg : Str → Option Value} {h : Heap} {f : Addr} (X : K.In h) (G : h.Ns mainGlobals mg) (hfa : mg ("law" : Str) = some (.ref f)) (c : Says fa fn exs K) :
    ∃ fd : FuncData, (∀ (s : Shared) (v : Value), BindsTo s fd ⟨[v], []⟩ [("_law_script", v)]) ∧ ∀ base : Heap, K.In base → base.Ns mainGlobals mg → FnOk P w K mg base CXall 5 f fd ["_law_script"] (sp_law K) := by
  have T : Top K mg := ⟨c, h, X, G⟩
  have e := hfa.symm.trans (gl_law T)
  cases e
  obtain ⟨fd, ⟨_, b⟩, ⟨_, oc, od, osl, lk⟩, F⟩ := ok_law (P := P) (w := w) (base := h) T
  refine ⟨fd, fun s v => b s [v] rfl, fun base _ _ => ?_⟩
  obtain ⟨fd2, _, ⟨_, oc2, od2, osl2, lk2⟩, F2⟩ := ok_law (P := P) (w := w) (base := base) T
  have e := lk.symm.trans lk2
  cases e
  exact fn_all F2
end
end TR
open PySem PySem.W PySem.Calls PyProof.Rows
set_option maxRecDepth 100000 in
set_option maxHeartbeats 0 in
theorem PySem.Challenge.cw_tuneroad_k01_whole_shelves_holds : PySem.Challenge.rw_tuneroad_k01_whole_shelves.Holds := by
  w_on; o_law
  refine HandSHeadRun.head_any (r := OpenLaw.row PySem.Challenge.rw_tuneroad_k01_whole_shelves) (q := TR.qV) (H := TR.hk) (ob := TR.ob) (M := TR.steps) (loose := TR.loose) (d := HandSHeadRun.topDef (OpenLaw.row PySem.Challenge.rw_tuneroad_k01_whole_shelves).prog TR.ilaw) (kwd := []) TR.ob_eq
    (by kernel_rfl) (fun s => by kernel_rfl) TR.run (by kernel_rfl) (by kernel_rfl) (by kernel_rfl) (by rfl) (by first | assumption | decide +kernel) (by decide +kernel) ⟨rfl, rfl, rfl, rfl, rfl, by decide +kernel⟩ ?hw ?hc
  case hw => w_witness2
  case hc =>
    refine L2.walk_ofE (l := PySem.Challenge.rw_tuneroad_k01_whole_shelves) (n := 63) (k := 5) (x := "_law_script") (CX := TR.CXall) rfl (by decide) (by kernel_rfl) ⟨rfl, by decide, by decide⟩ ?F TR.cxall_no
    intro w mg fa h Y G hmg0
    obtain ⟨K, KX, c⟩ := Y
    have hmg : mg ("law" : PySem.Str) = some (.ref fa) := by
      have e : (HandSHeadRun.topDef (OpenLaw.row PySem.Challenge.rw_tuneroad_k01_whole_shelves).prog TR.ilaw).name = ("law" : PySem.Str) := by kernel_rfl
      rw [← e]
      exact hmg0
    obtain ⟨fd, hb, hF⟩ := TR.endF (P := (PySem.Challenge.rw_tuneroad_k01_whole_shelves).prog) (w := w) KX G hmg c
    exact ⟨K, fd, TR.sp_law K, KX, hb, fun H a ns hl _ hS => TR.law_start hl hS, hF⟩
#print axioms PySem.Challenge.cw_tuneroad_k01_whole_shelves_holds


