import PyProof.Rows.All
import Wide.All
import OpenK.AllK
import Wide.FinOn
import HandS.ForMost
import HandS.Exc
import HandS.TryOnly
import HandS.ExcOwn
import HandS.ExcIs
import HandS.ExcValue
import HandS.IsInst
import HandS.WordsExc
import HandS.Defaults
import HandS.Head0
import HandS.Head1
import HandS.Head2
import HandS.HeadEnd
import HandS.HeadHook1
import HandS.HeadHook2
import HandS.Style
import HandS.SetFor
import HandS.Iter
import HandS.Conv
import HandS.More
import HandS.Comp
import PySem.Challenge.RW_tuneroad_k02_whole_dice
set_option Elab.async false
set_option linter.all false
set_option maxRecDepth 100000
set_option maxHeartbeats 4000000
/-! Assertions over the abstract heap, side by side: each owns its objects, tuples and known things are shared. -/
namespace TR
open PySem PySem.Spec PyProof.Rows L2

/-- what never changes -/
def Imm : HO → Prop
  | .tup _ => True
  | .frz _ _ => True
  | _ => False
def Sb (a b : Hp) : Prop := ∀ p o, a p = some o → b p = some o
def Dj (a b : Hp) : Prop := ∀ p o u, a p = some o → b p = some u → Imm o
theorem Sb.refl (a : Hp) : Sb a a := fun _ _ h => h
theorem Sb.trans {a b c : Hp} (h : Sb a b) (g : Sb b c) : Sb a c := fun p o e => g p o (h p o e)
abbrev As := Hp → Prop
def Sep : List As → Hp → Prop
  | [], _ => True
  | A :: R, H => ∃ h1 h2, Sb h1 H ∧ Sb h2 H ∧ Dj h1 h2 ∧ A h1 ∧ Sep R h2
theorem Sep.mono : ∀ {L : List As} {H H' : Hp}, Sb H H' → Sep L H → Sep L H'
  | [], _, _, _, _ => trivial
  | A :: R, H, H', s, ⟨h1, h2, s1, s2, d, a, r⟩ => ⟨h1, h2, s1.trans s, s2.trans s, d, a, r⟩
def uni (a b : Hp) : Hp := fun p => match a p with
  | some o => some o
  | none => b p
theorem uni_l {a b : Hp} : Sb a (uni a b) := fun p o e => by
  show (match a p with | some o => some o | none => b p) = some o
  rw [e]
theorem uni_or {a b : Hp} {p : Addr} {o : HO} (e : uni a b p = some o) : a p = some o ∨ b p = some o := by
  have e' : (match a p with | some o => some o | none => b p) = some o := e
  cases q : a p with
  | some u =>
    rw [q] at e'
    exact .inl e'
  | none =>
    rw [q] at e'
    exact .inr e'
theorem uni_sub {a b H : Hp} (ha : Sb a H) (hb : Sb b H) : Sb (uni a b) H := fun p o e => (uni_or e).elim (ha p o) (hb p o)
theorem uni_r {a b H : Hp} (ha : Sb a H) (hb : Sb b H) : Sb b (uni a b) := fun p o e => by
  show (match a p with | some o => some o | none => b p) = some o
  cases q : a p with
  | some u =>
    have h1 := ha p u q
    have h2 := hb p o e
    rw [h1] at h2
    exact h2
  | none => exact e
theorem Dj.symm {a b H : Hp} (ha : Sb a H) (hb : Sb b H) (d : Dj a b) : Dj b a := fun p o u e1 e2 => by
  have h1 := hb p o e1
  have h2 := ha p u e2
  rw [h1] at h2
  cases h2
  exact d p o o e2 e1
theorem Dj.sub {a b c : Hp} (d : Dj a b) (s : Sb c b) : Dj a c := fun p o u e1 e2 => d p o u e1 (s p u e2)
theorem Dj.subl {a b c : Hp} (d : Dj a b) (s : Sb c a) : Dj c b := fun p o u e1 e2 => d p o u (s p o e1) e2
theorem Sep.swap {A B : As} {R : List As} {H : Hp} : Sep (A :: B :: R) H → Sep (B :: A :: R) H
  | ⟨h1, h2, s1, s2, d, a, k1, k2, t1, t2, e, b, r⟩ => by
    have u1 : Sb k1 H := t1.trans s2
    have u2 : Sb k2 H := t2.trans s2
    have d1 : Dj h1 k1 := d.sub t1
    have d2 : Dj h1 k2 := d.sub t2
    refine ⟨k1, uni h1 k2, u1, uni_sub s1 u2, fun p o u e1 e2 => ?_, b, h1, k2, uni_l, uni_r s1 u2, d2, a, r⟩
    rcases uni_or e2 with z | z
    · exact d1.symm s1 u1 p o u e1 z
    · exact e p o u e1 z
theorem Sep.tail {A : As} {R : List As} {H : Hp} : Sep (A :: R) H → Sep R H := fun ⟨_, _, _, s2, _, _, r⟩ => Sep.mono s2 r
theorem Sep.skip {A : As} {R R' : List As} {H : Hp} (f : ∀ h, Sep R h → Sep R' h) : Sep (A :: R) H → Sep (A :: R') H := fun ⟨h1, h2, s1, s2, d, a, r⟩ => ⟨h1, h2, s1, s2, d, a, f h2 r⟩
theorem Sep.hd {A B : As} {R : List As} {H : Hp} (f : ∀ h, A h → B h) : Sep (A :: R) H → Sep (B :: R) H := fun ⟨h1, h2, s1, s2, d, a, r⟩ => ⟨h1, h2, s1, s2, d, f h1 a, r⟩

/-- points to -/
def pt (p : Addr) (o : HO) : As := fun h => h p = some o
theorem Sep.get {p : Addr} {o : HO} {R : List As} {H : Hp} (h : Sep (pt p o :: R) H) : H p = some o := by
  obtain ⟨h1, h2, s1, s2, d, a, r⟩ := h
  exact s1 p o a
theorem Sep.put {p : Addr} {o o' : HO} {R : List As} {H : Hp} (n : ¬ Imm o) (h : Sep (pt p o :: R) H) : Sep (pt p o' :: R) (upd H p o') := by
  obtain ⟨h1, h2, s1, s2, d, a, r⟩ := h
  have n2 : ∀ u, h2 p ≠ some u := fun u e => n (d p o u a e)
  refine ⟨fun b => if b = p then some o' else none, h2, fun b u e => ?_, fun b u e => ?_, fun b u v e1 e2 => ?_, if_pos rfl, r⟩
  · by_cases hb : b = p
    · have e1 : some o' = some u := by
        have e' : (if b = p then some o' else none) = some u := e
        rw [if_pos hb] at e'
        exact e'
      rw [hb]
      unfold upd
      rw [if_pos rfl]
      exact e1
    · have e' : (if b = p then some o' else none) = some u := e
      rw [if_neg hb] at e'
      cases e'
  · by_cases hb : b = p
    · rw [hb] at e
      exact absurd e (n2 u)
    · rw [upd_ne hb]
      exact s2 b u e
  · by_cases hb : b = p
    · rw [hb] at e2
      exact absurd e2 (n2 v)
    · have e' : (if b = p then some o' else none) = some u := e1
      rw [if_neg hb] at e'
      cases e'
theorem Sep.new {p : Addr} {o : HO} {R : List As} {H : Hp} (n : H p = none) (h : Sep R H) : Sep (pt p o :: R) (upd H p o) := by
  refine ⟨fun b => if b = p then some o else none, H, fun b u e => ?_, fun b u e => ?_, fun b u v e1 e2 => ?_, if_pos rfl, h⟩
  · by_cases hb : b = p
    · have e' : (if b = p then some o else none) = some u := e
      rw [if_pos hb] at e'
      rw [hb]
      unfold upd
      rw [if_pos rfl]
      exact e'
    · have e' : (if b = p then some o else none) = some u := e
      rw [if_neg hb] at e'
      cases e'
  · rw [upd_ne (ne_of_none e n)]
    exact e
  · by_cases hb : b = p
    · rw [hb, n] at e2
      cases e2
    · have e' : (if b = p then some o else none) = some u := e1
      rw [if_neg hb] at e'
      cases e'
/-- what is new beside: the own dict of a new instance -/
theorem Sep.newd {p : Addr} {o : HO} {R : List As} {H : Hp} (n : H p = none) (h : Sep R H) : Sep R (upd H p o) := (Sep.new n h).tail
/-- a shared thing once more -/
theorem Sep.dup {p : Addr} {o : HO} {R : List As} {H : Hp} (n : Imm o) (h : Sep (pt p o :: R) H) : Sep (pt p o :: pt p o :: R) H := by
  obtain ⟨h1, h2, s1, s2, d, a, r⟩ := h
  have one : Sb (fun b => if b = p then some o else none) h1 := fun b u e => by
    have e' : (if b = p then some o else none) = some u := e
    by_cases hb : b = p
    · rw [if_pos hb] at e'
      rw [hb, ← e']
      exact a
    · rw [if_neg hb] at e'
      cases e'
  have imm : ∀ b u, (if b = p then some o else none) = some u → Imm u := fun b u e => by
    by_cases hb : b = p
    · rw [if_pos hb] at e
      cases e
      exact n
    · rw [if_neg hb] at e
      cases e
  exact ⟨_, H, one.trans s1, Sb.refl H, fun b u v e1 e2 => imm b u e1, if_pos rfl, h1, h2, s1, s2, d, a, r⟩
/-- a fact -/
def pu (φ : Prop) : As := fun _ => φ
theorem Sep.pu {φ : Prop} {R : List As} {H : Hp} : Sep (pu φ :: R) H → φ ∧ Sep R H := fun ⟨_, _, _, s2, _, a, r⟩ => ⟨a, Sep.mono s2 r⟩
theorem Sep.fact {A : As} {φ : Prop} {R : List As} {H : Hp} (f : ∀ h, A h → φ) : Sep (A :: R) H → φ := fun ⟨h1, _, _, _, _, a, _⟩ => f h1 a
theorem empty_sb (H : Hp) : Sb (fun _ => none) H := fun _ _ e => nomatch e
theorem Sep.pui {φ : Prop} {R : List As} {H : Hp} (f : φ) (h : Sep R H) : Sep (TR.pu φ :: R) H := ⟨fun _ => none, H, empty_sb H, Sb.refl H, fun _ _ _ e => (nomatch e), f, h⟩
/-- there is one -/
def ex {α : Type} (A : α → As) : As := fun h => ∃ x, A x h
theorem Sep.ex {α : Type} {A : α → As} {R : List As} {H : Hp} : Sep (ex A :: R) H → ∃ x, Sep (A x :: R) H := fun ⟨h1, h2, s1, s2, d, ⟨x, a⟩, r⟩ => ⟨x, h1, h2, s1, s2, d, a, r⟩
theorem Sep.exi {α : Type} {A : α → As} {R : List As} {H : Hp} (x : α) (h : Sep (A x :: R) H) : Sep (TR.ex A :: R) H := Sep.hd (fun _ a => ⟨x, a⟩) h
/-- several as one -/
def all (L : List As) : As := fun h => Sep L h
theorem Sep.nil1 {R : List As} {H : Hp} (h : Sep R H) : Sep (all [] :: R) H := ⟨fun _ => none, H, empty_sb H, Sb.refl H, fun _ _ _ e => (nomatch e), trivial, h⟩
theorem Sep.flat : ∀ {L R : List As} {H : Hp}, Sep (all L :: R) H → Sep (L ++ R) H
  | [], R, H, h => h.tail
  | A :: L, R, H, ⟨h1, h2, s1, s2, d, ⟨k1, k2, t1, t2, e, a, l⟩, r⟩ => by
    have u1 : Sb k1 H := t1.trans s1
    have u2 : Sb k2 H := t2.trans s1
    have d2 : Dj k2 h2 := d.subl t2
    have q : Sep (L ++ R) (uni k2 h2) := Sep.flat ⟨k2, h2, uni_l, uni_r u2 s2, d2, l, r⟩
    refine ⟨k1, uni k2 h2, u1, uni_sub u2 s2, fun p o u e1 e2 => ?_, a, q⟩
    rcases uni_or e2 with z | z
    · exact e p o u e1 z
    · exact (d.subl t1) p o u e1 z
theorem Sep.wrap : ∀ {L R : List As} {H : Hp}, Sep (L ++ R) H → Sep (all L :: R) H
  | [], R, H, h => h.nil1
  | A :: L, R, H, ⟨h1, h2, s1, s2, d, a, q⟩ => by
    obtain ⟨k1, k2, t1, t2, e, l, r⟩ := Sep.wrap (L := L) (R := R) q
    have u1 : Sb k1 H := t1.trans s2
    have u2 : Sb k2 H := t2.trans s2
    refine ⟨uni h1 k1, k2, uni_sub s1 u1, u2, fun p o u e1 e2 => ?_, ⟨h1, k1, uni_l, uni_r s1 u1, d.sub t1, a, l⟩, r⟩
    rcases uni_or e1 with z | z
    · exact (d.sub t2) p o u z e2
    · exact e p o u z e2

/-- two as one -/
theorem Sep.join {A B C : As} {R : List As} {H : Hp} (f : ∀ h1 h2 h, Sb h1 h → Sb h2 h → A h1 → B h2 → C h) : Sep (A :: B :: R) H → Sep (C :: R) H := fun ⟨h1, h2, s1, s2, d, a, k1, k2, t1, t2, e, b, r⟩ => by
  refine ⟨uni h1 k1, k2, uni_sub s1 (t1.trans s2), t2.trans s2, fun p o u e1 e2 => ?_, f h1 k1 _ uni_l (uni_r s1 (t1.trans s2)) a b, r⟩
  rcases uni_or e1 with z | z
  · exact (d.sub t2) p o u z e2
  · exact e p o u z e2
/-- what is known of an assertion's part of the heap -/
theorem Sep.part {A : As} {R : List As} {H : Hp} : Sep (A :: R) H → ∃ h, Sb h H ∧ A h := fun ⟨h1, _, s1, _, _, a, _⟩ => ⟨h1, s1, a⟩
/-- entailment -/
def En (L L' : List As) : Prop := ∀ H, Sep L H → Sep L' H
theorem En.refl {L : List As} : En L L := fun _ h => h
theorem En.nil {L : List As} : En L [] := fun _ _ => trivial
theorem En.trans {L M N : List As} (a : En L M) (b : En M N) : En L N := fun H h => b H (a H h)
theorem En.skip {A : As} {L L' : List As} (e : En L L') : En (A :: L) (A :: L') := fun _ h => Sep.skip e h
theorem En.swap {A B : As} {R : List As} : En (A :: B :: R) (B :: A :: R) := fun _ h => Sep.swap h
/-- A stands in L, the rest is R -/
class Pk (A : As) (L : List As) (R : outParam (List As)) : Prop where
  en : En L (A :: R)
  ne : En (A :: R) L
instance Pk.here {A : As} {R : List As} : Pk A (A :: R) R := ⟨En.refl, En.refl⟩
instance (priority := low) Pk.there {A B : As} {L R : List As} [p : Pk A L R] : Pk A (B :: L) (B :: R) := ⟨(En.skip p.en).trans En.swap, En.swap.trans (En.skip p.ne)⟩
/-- o stands at p -/
class At (p : Addr) (L : List As) (o : outParam HO) (R : outParam (List As)) : Prop where
  en : En L (pt p o :: R)
instance At.here {p : Addr} {o : HO} {R : List As} : At p (pt p o :: R) o R := ⟨En.refl⟩
instance (priority := low) At.there {p : Addr} {B : As} {L R : List As} {o : HO} [q : At p L o R] : At p (B :: L) o (B :: R) := ⟨(En.skip q.en).trans En.swap⟩
theorem Sep.at_ {p : Addr} {L R : List As} {o : HO} {H : Hp} (h : Sep L H) [q : At p L o R] : H p = some o := (q.en H h).get
theorem Sep.to {A : As} {L R : List As} {H : Hp} (h : Sep L H) [q : Pk A L R] : Sep (A :: R) H := q.en H h
theorem En.cons {A : As} {L L0 R : List As} [q : Pk A L L0] (e : En L0 R) : En L (A :: R) := q.en.trans (En.skip e)
theorem En.drop {A : As} {L L' : List As} (e : En L L') : En (A :: L) L' := fun _ h => e _ h.tail
/-- the tail of L' is a letter -/
theorem Sep.of {L L' : List As} {H : Hp} (h : Sep L H) (e : En L L') : Sep L' H := e H h
/-- an assertion about what stands at p -/
class Key (A : As) (p : outParam Addr) : Prop where
  k : True
instance {p : Addr} {o : HO} : Key (pt p o) p := ⟨trivial⟩
class AtA (p : Addr) (L : List As) (A : outParam As) (R : outParam (List As)) : Prop where
  en : En L (A :: R)
instance AtA.here {p : Addr} {A : As} {R : List As} [Key A p] : AtA p (A :: R) A R := ⟨En.refl⟩
instance (priority := low) AtA.there {p : Addr} {A B : As} {L R : List As} [q : AtA p L A R] : AtA p (B :: L) A (B :: R) := ⟨(En.skip q.en).trans En.swap⟩
theorem Sep.own {L R : List As} {A : As} {H : Hp} (h : Sep L H) (p : Addr) [q : AtA p L A R] : Sep (A :: R) H := q.en H h
theorem Sep.own2 {L R R2 : List As} {A B : As} {H : Hp} (h : Sep L H) (p q : Addr) [a : AtA p L A R] [b : AtA q R B R2] : Sep (A :: B :: R2) H := Sep.skip b.en (a.en H h)
theorem Sep.own3 {L R R2 R3 : List As} {A B C : As} {H : Hp} (h : Sep L H) (p q r : Addr) [a : AtA p L A R] [b : AtA q R B R2] [c : AtA r R2 C R3] : Sep (A :: B :: C :: R3) H := Sep.skip (fun _ z => Sep.skip c.en (b.en _ z)) (a.en H h)
end TR

set_option Elab.async false
set_option linter.all false
set_option maxRecDepth 100000
set_option maxHeartbeats 4000000
/-! The head's facts by names, with facts of one's own. -/
namespace TR
open PySem PySem.Spec PyProof.Rows L2
/-- what isinstance asks of an exception's class -/
def excB (K : PySem.W.Frag) (x : Str) : Bool :=
  decide (PySem.W.findIn K (.ref (He.ga K x)) "__getattribute__" = some (some (.builtin "BaseException.__getattribute__"))) && (decide (PySem.W.findIn K (.ref (He.ga K x)) "__getattr__" = some none) &&
  (decide (PySem.W.subIn K (.ref (He.ga K x)) (.type "BaseException") = some true) && (PySem.W.hasDictIn K (He.ga K x) &&
  (decide (PySem.W.findIn K (.ref (He.ga K x)) "__class__" = some (some (.builtin "object.__class__"))) && (decide (PySem.W.specialIn K (.builtin "object.__class__") "__get__" = some (some (.builtin "getset_descriptor.__get__"))) &&
  (decide (PySem.W.takesIn K (.builtin "object.__class__") = some true) && decide (PySem.W.mroIn K (He.ga K x) (.type "object") = some true)))))))
theorem excB_ok {K : PySem.W.Frag} {x : Str} (h : excB K x = true) : ExcC K (He.ga K x) := by
  obtain ⟨h1, h⟩ := He.ba h
  obtain ⟨h2, h⟩ := He.ba h
  obtain ⟨h3, h⟩ := He.ba h
  obtain ⟨h4, h⟩ := He.ba h
  obtain ⟨h5, h⟩ := He.ba h
  obtain ⟨h6, h⟩ := He.ba h
  obtain ⟨h7, h8⟩ := He.ba h
  exact ⟨of_decide_eq_true h1, of_decide_eq_true h2, of_decide_eq_true h3, h4, of_decide_eq_true h5, of_decide_eq_true h6, of_decide_eq_true h7, of_decide_eq_true h8⟩
def kitB2 (K : PySem.W.Frag) (x y : Str) (b : Bool) : Bool := decide (PySem.W.kitOne K (.ref (He.ga K x)) (.ref (He.ga K y)) = some b)
def kitV (K : PySem.W.Frag) (x : Str) (T : String) (b : Bool) : Bool := decide (PySem.W.kitOne K (.ref (He.ga K x)) (.type T) = some b)
theorem kitB2_ok {K : PySem.W.Frag} {x y : Str} {b : Bool} (h : kitB2 K x y b = true) : PySem.W.kitOne K (.ref (He.ga K x)) (.ref (He.ga K y)) = some b := of_decide_eq_true h
theorem kitV_ok {K : PySem.W.Frag} {x : Str} {T : String} {b : Bool} (h : kitV K x T b = true) : PySem.W.kitOne K (.ref (He.ga K x)) (.type T) = some b := of_decide_eq_true h

/-- what the head says -/
structure Says (fa : List He.Fa) (fn : List He.DefD) (ex : List (PySem.W.Frag → Bool)) (K : PySem.W.Frag) : Prop where
  d : He.SaysD fa fn K
  e : (ex.all fun f => f K) = true
abbrev AlY : Type := He.AlD × Bool
def obsY (fa : List He.Fa) (fn : List He.DefD) (ex : List (PySem.W.Frag → Bool)) (K : PySem.W.Frag) : AlY := (He.obsD fa fn K, ex.all fun f => f K)
/-- the last c objects, and the module's names -/
def lastK (c : Nat) (N : Nat) (g : Addr → Option Obj) : PySem.W.Frag := He.frG g (mainGlobals :: (List.range c).map fun i => N - 1 - i)
def obsYG (c : Nat) (fa : List He.Fa) (fn : List He.DefD) (ex : List (PySem.W.Frag → Bool)) (N : Nat) (g : Addr → Option Obj) : AlY := obsY fa fn ex (lastK c N g)
def valY (fn : List He.DefD) : AlY := (He.valD fn, true)
def hookY (c : Nat) (fa : List He.Fa) (fn : List He.DefD) (ex : List (PySem.W.Frag → Bool)) : PySem.W.Hook where
  α := AlY
  obs := fun s => obsYG c fa fn ex s.heap.objs.size s.heap.get?
  val := fun _ => valY fn
  says := fun _ h => ∃ K : PySem.W.Frag, K.In h ∧ Says fa fn ex K
  of := fun _ _ e => ⟨_, He.frG_in, ⟨congrArg (fun z : AlY => z.1) e, congrArg (fun z : AlY => z.2) e⟩⟩
  keeps := fun _ _ _ ⟨K, hK, c⟩ k => ⟨K, PySem.W.Frag.In.keeps hK k, c⟩
theorem obsYG_eq {c : Nat} {fa : List He.Fa} {fn : List He.DefD} {ex : List (PySem.W.Frag → Bool)} {N : Nat} {g : Addr → Option Obj} {s : Shared} (hN : N = s.heap.objs.size) (h : ∀ a, g a = s.heap.get? a) : obsYG c fa fn ex N g = (hookY c fa fn ex).obs s := by
  have e : g = s.heap.get? := funext h
  rw [e, hN] <;> rfl
theorem sizeT (s : PySem.W.SharedT) : s.n = s.abs.heap.objs.size := (PySem.W.absHeap_size s.tree s.n s.life).symm
theorem Says.fact {fa : List He.Fa} {fn : List He.DefD} {ex : List (PySem.W.Frag → Bool)} {K : PySem.W.Frag} (c : Says fa fn ex K) (i : Nat) {f : He.Fa} (h : fa[i]? = some f := by rfl) : f.ok K = true := c.d.fact i h
theorem Says.more {fa : List He.Fa} {fn : List He.DefD} {ex : List (PySem.W.Frag → Bool)} {K : PySem.W.Frag} (c : Says fa fn ex K) (i : Nat) {f : PySem.W.Frag → Bool} (h : ex[i]? = some f := by rfl) : f K = true :=
  List.all_eq_true.mp c.e f (List.mem_of_getElem? h)
/-! ### the run's equation in parts, each checked by itself -/
theorem run_pair {σ α β : Type} {o : Option σ} {g : σ → α × β} {b : α × β} (h1 : o.map (fun s => (g s).1) = some b.1) (h2 : o.map (fun s => (g s).2) = some b.2) : o.map g = some b := by
  cases o with
  | none => cases h1
  | some s =>
    have e1 : (g s).1 = b.1 := Option.some.inj h1
    have e2 : (g s).2 = b.2 := Option.some.inj h2
    exact congrArg some (Prod.ext e1 e2)
theorem run_parts {σ α β γ : Type} {o : Option σ} {f : σ → α} {g : σ → β} {h : σ → γ} {a : α} {b : β} {c : γ} (h1 : o.map f = some a) (h2 : o.map g = some b) (h3 : o.map h = some c) : o.map (fun s => (f s, g s, h s)) = some (a, b, c) := by
  cases o with
  | none => cases h1
  | some s =>
    have e1 : f s = a := Option.some.inj h1
    have e2 : g s = b := Option.some.inj h2
    have e3 : h s = c := Option.some.inj h3
    show some (f s, g s, h s) = some (a, b, c)
    rw [e1, e2, e3]
end TR

set_option Elab.async false
set_option linter.all false
set_option maxRecDepth 100000
set_option maxHeartbeats 4000000
/-! An error that is caught and held by a name; isinstance of it; calls of own defs in short. -/
namespace TR
open PySem PySem.Spec PyProof.Rows L2

/-! ### an exception object that is held -/
def ExA (cls : Value) (a : Addr) : HO := .ext fun h => ∃ (oe : Obj) (vs : Array Value), h.get? a = some oe ∧ Zc cls none oe ∧ oe.data = .fields vs
theorem exA_ok {P : Program} {w : World} {H : Hp} {h : Heap} {a : Addr} {cls : Value} {oe : Obj} {vs : Array Value} (e : h.get? a = some oe) (z : Zc cls none oe) (d : oe.data = .fields vs) : ObjOk P w H h a (ExA cls a) :=
  ⟨⟨oe, vs, e, z, d⟩, ⟨oe, e⟩, fun _ _ ⟨o, v, q, r⟩ k => ⟨o, v, k o q, r⟩⟩
section
variable {X : Cx} {pins : List (Addr × Obj)} {σ : L2.St} {H : Hp} {s : Shared}
theorem Inv.track {a : Addr} {o : HO} (I : Inv X pins σ H s) (na : H a = none) (n0 : X.s_0.heap.get? a = none) (np : ∀ p ∈ X.pn ++ pins, p.1 ≠ a) (nL : a ≠ X.env.locals) (nc : ∀ x c, X.env.cells.lookup x = some c → c ≠ a)
    (new : ObjOk X.prog X.w (upd H a o) s.heap a o) : Inv X pins σ (upd H a o) s := by
  refine ⟨I.ok, I.os, I.bare, ⟨fun b ob e n hb hx => I.base.keep b ob e n hb hx, fun b ob e n hb hx => I.base.slot b ob e n hb hx, fun b ob e n hx => ?_, fun b ob e hx => I.base.there b ob e hx, fun b xs e => ?_, fun b ob xs e => ?_, fun b ps e => ?_⟩, I.loc, I.cell, ?_, fun x c e => ?_, fun p hp => ?_, fun b u e => ?_, I.len⟩
  · have hb : b ≠ a := fun z => by
      rw [z, n0] at e
      cases e
    rw [upd_ne hb]
    exact I.base.free b ob e n hx
  · have q := I.base.tups b xs e
    rw [upd_ne (ne_of_none q na)]
    exact q
  · have q := I.base.frzs b ob xs e
    rw [upd_ne (ne_of_none q na)]
    exact q
  · obtain ⟨m, q⟩ := I.base.tbls b ps e
    refine ⟨m, ?_⟩
    rw [upd_ne (ne_of_none q na)]
    exact q
  · rw [upd_ne (Ne.symm nL)]
    exact I.free
  · rw [upd_ne (nc x c e)]
    exact I.freeC x c e
  · obtain ⟨e, n, r⟩ := I.pin p hp
    refine ⟨e, ?_, r⟩
    rw [upd_ne (np p hp)]
    exact n
  · by_cases hb : b = a
    · rw [hb] at e ⊢
      rw [upd_same] at e
      cases e
      exact new
    · rw [upd_ne hb] at e
      exact (I.hok b u e).stay (fun _ _ _ q => q) (fun c q => by rw [upd_ne (ne_of_none q na)]; exact q) fun c xs q => by rw [upd_ne (ne_of_none q na)]; exact q
theorem Inv.unsuiteK {a : Addr} {q : Addr × Obj} (I : Inv (X.suite a (q :: (X.pn ++ pins))) [] σ H s) (ok : X.Ok) : Inv X (q :: pins) σ H s :=
  ⟨ok, I.os, I.bare, I.base, I.loc, I.cell, I.free, I.freeC, fun p hp => I.pin p (by
    rw [List.append_nil]
    show p ∈ q :: (X.pn ++ pins)
    rcases List.mem_append.mp hp with z | z
    · exact List.mem_cons_of_mem _ (List.mem_append_left _ z)
    · rcases List.mem_cons.mp z with z | z
      · rw [z]
        exact List.mem_cons_self
      · exact List.mem_cons_of_mem _ (List.mem_append_right _ z)), I.hok, I.len⟩
end

/-- what the clause «except x as n» wishes; behind the suite the error is known as an object -/
def wHold (K : PySem.W.Frag) (c : Value) (i : Nat) (ts : Addr → List (Addr × Obj) → TS) (Wout : WX) (D : Ends) : WX := fun cls d σ H =>
  ∃ b, PySem.W.exmOne K cls c = some b ∧ (b = true → d = none ∧ ∀ a pn, H a = none → ts a pn { nx := fun σ' H' => H' a = none ∧ D.nx (σ'.set i none) (upd H' a (ExA cls a)), rt := fun _ _ => False } (σ.set i (some (.ref a))) H) ∧
    (b = false → Wout cls d σ H)
section
variable {X : Cx} {x n : Str} {c : Value} {i : Nat} {body suite : List Stmt} {b₀ : Stmt} {np pos pos' : Pos} {ts : Addr → List (Addr × Obj) → TS} {Wout : WX}
  {tb : ∀ (W : WX) (pn : List (Addr × Obj)) (xe : Value → Shared → Prop), Takes (X.tr pn xe) W → PassesOwn (model X.prog X.w) X.A X.env xe → TS}
/-- a try's reading -/
def tTry (X : Cx) (c : Value) (i : Nat) (ts : Addr → List (Addr × Obj) → TS) (Wout : WX) (tb : ∀ (W : WX) (pn : List (Addr × Obj)) (xe : Value → Shared → Prop), Takes (X.tr pn xe) W → PassesOwn (model X.prog X.w) X.A X.env xe → TS) : TS :=
  fun D σ H => ∀ pn xe (tk : Takes (X.tr pn xe) (wHold X.K c i ts Wout D)) (po : PassesOwn (model X.prog X.w) X.A X.env xe), tb (wHold X.K c i ts Wout D) pn xe tk po D σ H
theorem ps_try_hold (hs : X.stack = X.env :: X.outer) (hf : X.env.frame = some X.env.locals) (hex : X.ex = []) (hN : X.N.Nodup) (hi : X.N[i]? = some n) (hln : X.env.kindOf n = some .local) (hc : Names X x c) (tk : Takes X Wout)
    (hb : ∀ (W : WX) (pn : List (Addr × Obj)) (xe : Value → Shared → Prop) (tk : Takes (X.tr pn xe) W) (po : PassesOwn (model X.prog X.w) X.A X.env xe), PSs (X.tr pn xe) body (tb W pn xe tk po))
    (hsu : ∀ (a : Addr) (pn : List (Addr × Obj)), PSs (X.suite a pn) (b₀ :: suite) (ts a pn)) :
    PS X (.Try body [.ExceptHandler (some (.Name x np)) (some n) (b₀ :: suite) pos'] [] [] pos) (tTry X c i ts Wout tb) := by
  refine ⟨fun pins s σ H D I h => ?_⟩
  have ok := I.ok
  have hfr : X.A.frames = some (X.env :: X.outer) := by rw [ok.frames, hs]
  have hloc : Loc X.env.scope n := .inl hln
  refine wpAny_Try_except ?_
  refine wpAny_mono ((hb (wHold X.K c i ts Wout D) (X.pn ++ pins) (fun e s₁ => wpAny (model X.prog X.w) X.A (noteFrame e X.env) (fun _ s₂ => wpAny (model X.prog X.w) X.A (setFlight e none) (fun _ s₃ =>
    wpAny (model X.prog X.w) X.A (handleBy e X.env [.ExceptHandler (some (.Name x np)) (some n) (b₀ :: suite) pos']) (SP X pins D) X.xe s₃) X.xe s₂) X.xe s₁) (fun u s' xx => ?_) PassesOwn.looking).run [] s σ H D (I.toTry _) (h _ _ _ _)) (fun f s1 hsp => ?_) (fun e s1 he => he)
  · obtain ⟨a, B, sI, pins', σ', H', cls, d, rfl, J', nb, up, sky, na, os, ag, b, hb1, hyes, hno⟩ := xx
    have J : Inv X pins σ' H' sI := J'.ofTry ok
    have sky' : Sky B (X.env :: X.outer) a (Zc cls d) X.env.locals s'.heap := by rw [← hs]; exact sky
    show wpAny (model X.prog X.w) X.A (noteFrame (.ref a) X.env) _ _ _
    refine Sky.land Zc.steady hfr hf sky' fun h3 fl3 up3 => ?_
    have J3 : Inv X pins σ' H' { s' with heap := h3 } := J.landed nb fl3.1 (up.trans up3) os ag
    obtain ⟨oe3, vs3, he3, hz3, hd3⟩ := fl3.there
    have notFr : ∀ {h : Heap} {o : Obj} {vs : Array Value}, h.FunFrames B (X.env :: X.outer) → h.get? a = some o → o.data = .fields vs → a ∉ frs (X.env :: X.outer) := fun {h o vs} ff e dd hm => by
      obtain ⟨_, o', e', hnf⟩ := ff.mem hm
      rw [e] at e'; cases e'
      exact hnf _ dd
    have nfr := notFr fl3.2.2.1 he3 hd3
    have nL : a ≠ X.env.locals := fun z => nfr (List.mem_filterMap.mpr ⟨X.env, List.mem_cons_self, by rw [hf, z]⟩)
    have nF : a ∉ X.fs := fun hm => by
      obtain ⟨e, he, q⟩ := List.mem_filterMap.mp hm
      exact nfr (List.mem_filterMap.mpr ⟨e, List.mem_cons_of_mem _ he, q⟩)
    have nB : B.get? a = none := fl3.2.1
    have nI : ∀ o, sI.heap.get? a ≠ some o := fun o e => by
      have q := nb a o e (by rw [hs]; exact nfr)
      rw [nB] at q
      cases q
    have n0 : X.s_0.heap.get? a = none := by
      cases q : X.s_0.heap.get? a with
      | none => rfl
      | some o =>
        obtain ⟨o', e'⟩ := J.base.there a o q (by rw [hex]; exact fun z => nomatch z)
        exact absurd e' (nI o')
    have npn : ∀ p ∈ X.pn ++ pins, p.1 ≠ a := fun p hp z => by
      have q := (J'.pin p (List.mem_append_left _ hp)).1
      rw [z] at q
      exact nI _ q
    have ncl : ∀ y k, X.env.cells.lookup y = some k → k ≠ a := fun y k e z => by
      obtain ⟨v, o, ho, hd⟩ := J.cell y k e
      rw [z] at ho
      exact nI _ ho
    have S3 := J3.suite he3 hd3 na nL nF
    refine wpAny_handleBy_cons (codeAny_handlers_test ?_) (by intro q; cases q)
    have LT : PySem.W.Looks (model X.prog X.w) h3 (typeOf (.ref a)) cls := fun A Q E s k q => wpAny_typeOf_ref (k _ _ he3) (by rw [hz3.1]; exact q)
    have LM := PySem.W.exm_one (M := model X.prog X.w) (J3.kIn) LT hb1
    have test : ∀ {Q : Value → Shared → Prop} {E : Value → Shared → Prop}, Q c { s' with heap := h3 } → wpAny (model X.prog X.w) (X.A.mark (some (.ref a))) (eval (.Name x np) X.env) Q E { s' with heap := h3 } := fun {Q E} q => by
      obtain ⟨hg, hdbg, hm | ⟨hm, hv, hnn⟩⟩ := hc
      · exact ld_glob (X := X.suite a ((a, oe3) :: (X.pn ++ pins))) S3 hg hm q hdbg
      · exact ld_blt (X := X.suite a ((a, oe3) :: (X.pn ++ pins))) S3 hg hm hv q hnn hdbg
    refine test (LM.here ?_)
    cases b with
    | true =>
      refine codeAny_handlers_suite_as ?_
      refine HandSPX.lands_againZ fl3 fun h4 fl4 up4 => ?_
      have J4 : Inv X pins σ' H' { s' with heap := h4 } := J.landed nb fl4.1 ((up.trans up3).trans up4) os ag
      obtain ⟨oe4, vs4, he4, hz4, hd4⟩ := fl4.there
      have S4 := J4.suite he4 hd4 na nL nF
      obtain ⟨hd0, hyes2⟩ := hyes rfl
      subst hd0
      refine store_ok (X := X.suite a ((a, oe4) :: (X.pn ++ pins))) (v := .ref a) S4 hN hi hloc rfl (fun s5 S5 => ?_) (.inr hln)
      refine wpAny_mono ((hsu a ((a, oe4) :: (X.pn ++ pins))).run [] s5 _ H' _ S5 (hyes2 a _ na)) (fun f s6 hsp => ?_) (fun _ _ z => False.elim z)
      cases f with
      | next =>
        obtain ⟨σ6, H6, S6, n6, q6⟩ := hsp
        have S6' : Inv X ((a, oe4) :: pins) σ6 H6 s6 := Inv.unsuiteK S6 ok
        show wpAny (model X.prog X.w) X.A (do bindName X.env n .none; unbindBehindTheSuite X.env n pos') _ X.xe s6
        refine gone_ok S6' hN hi hln fun s7 J7 => ?_
        have hp := J7.pin (a, oe4) (List.mem_append_right _ List.mem_cons_self)
        have J8 : Inv X pins (σ6.set i none) H6 s7 := J7.pins_of fun p hp => J7.pin p (List.mem_append_right _ (List.mem_cons_of_mem _ hp))
        exact ⟨_, _, Inv.track J8 n6 n0 npn nL ncl (exA_ok hp.1 hz4 hd4), q6⟩
      | brk =>
        obtain ⟨σ6, H6, S6, q6⟩ := hsp
        exact False.elim q6
      | cont =>
        obtain ⟨σ6, H6, S6, q6⟩ := hsp
        exact False.elim q6
      | ret u =>
        obtain ⟨v6, σ6, H6, S6, r6, q6⟩ := hsp
        exact False.elim q6
    | false =>
      show wpAny _ X.A (handleBy (.ref a) X.env []) _ _ _
      refine wpAny_handleBy_nil ?_
      obtain ⟨k1, k2, k3, oe, vs, T, oT, ts', he, hz, hd, h1, hr⟩ := id fl3
      unfold PySem.passOn
      refine wpAny_bind (wpAny_field he hd h1 ?_)
      rw [if_neg (show ¬ ((Value.ref T == Value.none) = true) from by simp)]
      have fin : wpAny (model X.prog X.w) X.A (setFlight (.ref a) X.env.frame) (fun _ s4 => wpAny (model X.prog X.w) X.A (throw (.ref a) : Sem Flow) (SP X pins D) X.xe s4) X.xe { s' with heap := h3 } := by
        rw [hf]
        refine HandSPX.setFlight_upZ fl3 fun h4 hh4 up4 => wpAny_throw (tk _ _ ?_)
        exact ⟨a, B, sI, pins, σ', H', cls, d, rfl, J, nb, (up.trans up3).trans up4, .inr (.inr (by rw [hs]; exact hh4)), na, os, ag, hno rfl⟩
      first
        | exact wpAny_bind (wpAny_pure (wpAny_bind fin))
        | exact wpAny_bind fin
  · cases f with
    | next =>
      obtain ⟨σ', H', J', q⟩ := hsp
      exact wpAny_execs_nil ⟨σ', H', J'.ofTry ok, q⟩
    | brk =>
      obtain ⟨σ', H', J', q⟩ := hsp
      exact ⟨σ', H', J'.ofTry ok, q⟩
    | cont =>
      obtain ⟨σ', H', J', q⟩ := hsp
      exact ⟨σ', H', J'.ofTry ok, q⟩
    | ret u =>
      obtain ⟨v, σ', H', J', r, q⟩ := hsp
      exact ⟨v, σ', H', J'.ofTry ok, r, q⟩
end

/-- isinstance(x, c), x an error that is held -/
def rIsX (K : PySem.W.Frag) : List V → Hp → VK → Prop := fun xs H Q => ∃ (a D : Addr) (c : V) (cv : Value) (b : Bool), xs = [.ref a, c] ∧ H a = some (ExA (.ref D) a) ∧ ExcC K D ∧ (∀ u, RelV c u → u = cv) ∧ PySem.W.kitOne K (.ref D) cv = some b ∧ Q (.bl b) H
theorem call_isX {X : Cx} : CallR X (.builtin "isinstance") (rIsX X.K) := by
  intro pins s σ H xs us Q I r h
  obtain ⟨a, D, c, cv, b, rfl, ha, C, hcv, e, q⟩ := h
  cases r with
  | cons rx rr =>
    cases rr with
    | cons rt rr =>
      cases rr
      cases rx
      have ec := hcv _ rt
      subst ec
      obtain ⟨⟨oe, vs, hget, hz, hv⟩, _, _⟩ := (show ObjOk X.prog X.w H s.heap a (ExA (.ref D) a) from I.hok a _ ha)
      have J : PySem.W.InstAt s.heap a oe D none := by
        obtain ⟨oc, od, oda, osl⟩ := oe
        obtain ⟨h1, h2⟩ := hz
        dsimp only at h1 h2 hv
        subst h1 h2 hv
        exact ⟨hget, rfl, rfl, trivial⟩
      exact PySem.W.kia_one (PySem.W.handS_kitx_exc C.hg C.hk C.hs C.hd C.ha C.hn C.ht C.hm) I.kIn J e (fun z => nomatch z) fun tk => ⟨.bl b, H, I.kept (t' := tk) fun _ _ z => z, rfl, q⟩

/-! ### a def of the text, its promise -/
def OkD (P : Program) (w : World) (K : PySem.W.Frag) (mg : Str → Option Value) (base : Heap) (d : He.DefD) (k : Nat) (ps : List Str) (sp : Sp) : Prop :=
  ∃ fd, (PySem.W.keepIn K (.ref (He.fAd K d.at_)) = true ∧ ∀ (s : Shared) (us : List Value), us.length = ps.length → BindsTo s fd ⟨us, []⟩ (ps.zip us)) ∧ (Binds K fd ps [] ∧ ∃ oc od osl, K.lookup (He.fAd K d.at_) = some ⟨oc, od, .func fd, osl⟩) ∧ FnOk P w K mg base (L2.CX P w) k (He.fAd K d.at_) fd ps sp
section
variable {P : Program} {w : World} {K : PySem.W.Frag} {mg : Str → Option Value} {base : Heap}
theorem okD {d : He.DefD} {N ps : List Str} {k : Nat} {sp : Sp} (F : ∃ fd, FunD K d.name d.qual d.params d.body d.scope [] [] (He.fAd K d.at_) fd) (S : FnScope N ps d.scope)
    (b : ∀ (kV doc pm : Value) (an : Option Addr) (cdv ct : Value) (us : List Value), us.length = ps.length → bindArgs (PySem.W.fnOf d.name d.qual d.params d.body d.scope .none kV doc pm an cdv ct) ⟨us, []⟩ = pure (ps.zip us))
    (len : ∀ vs H Q E, sp vs H Q E → vs.length = ps.length)
    (body : ∀ (cdv : Value) (A : Around) (outer : List Env) (s : Shared) (H : Hp) (vs : List V) (Q : VK) (E : XK), Room k (A.deeper (envOfC d.qual d.scope s.heap.objs.size (He.fAd K d.at_) cdv)) → sp vs H Q E →
      ∃ t, PSs (cxOf (L2.CX P w) P w K mg base N d.qual d.scope (He.fAd K d.at_) cdv A outer s H E) d.body t ∧ t { nx := fun _ H' => Q .non H', rt := Q } (start N vs) H) : OkD P w K mg base d (k + 1) ps sp := by
  obtain ⟨fd, F⟩ := F
  obtain ⟨oc, od, dV, kV, doc, pm, an, cdv, ct, osl, e, lk, _⟩ := F.ex
  exact ⟨fd, ⟨F.kp, F.bindsA b⟩, ⟨F.bindsN b, oc, od, osl, lk⟩, F.ok S len body⟩
theorem OkD.mono {d : He.DefD} {k j : Nat} {ps : List Str} {sp : Sp} (G : OkD P w K mg base d k ps sp) (h : k ≤ j) : OkD P w K mg base d j ps sp := by
  obtain ⟨fd, h1, h2, h3⟩ := G
  exact ⟨fd, h1, h2, h3.mono h⟩
/-- in a def's body: what is raised leaves the def -/
theorem tkD {N : List Str} {qual : Str} {scope : Scope} {f : Addr} {cd : Value} {A : Around} {outer : List Env} {s : Shared} {H : Hp} {E : XK} : Takes (cxOf (L2.CX P w) P w K mg base N qual scope f cd A outer s H E) (fun cls d _ H => E cls d H) :=
  takes_of rfl rfl rfl rfl
theorem paD {N : List Str} {qual : Str} {scope : Scope} {f : Addr} {cd : Value} {A : Around} {outer : List Env} {s : Shared} {H : Hp} {E : XK} (σ : L2.St) : PassesAt (L2.CX P w) (cxOf (L2.CX P w) P w K mg base N qual scope f cd A outer s H E) σ E :=
  fun pins H1 s1 e s' I c => passes_call tkD (fun _ _ _ _ h => h) pins σ H1 s1 e s' I c
end
/-- nothing is raised -/
theorem paN {X : Cx} (σ : L2.St) : PassesAt (L2.CX X.prog X.w) X σ E0 := fun pins H1 s1 e s' I c => passL pins σ H1 s1 e s' I c
/-- f(..), o.m(..), C(..): what is wanted of an exception hangs on the slots -/
def tMt (C : Addr) (m : Str) (sp : Sp) (E : L2.St → XK) (ta : TE) (t : TA) : TE := fun σ H Q => ta σ H fun x H1 => ∃ a dx fs, x = .ref a ∧ H1 a = some (.ins C dx fs) ∧ fs.lookup m = none ∧ t σ H1 fun vs H2 => sp (x :: vs) H2 Q (E σ)
def tMk (C : Addr) (sp : Sp) (E : L2.St → XK) (t : TA) : TE := fun σ H Q => t σ H fun vs H1 => ∀ x dx, H1 x = none → H1 dx = none → dx ≠ x →
  sp (.ref x :: vs) (upd (upd H1 dx (.own x)) x (.ins C dx [])) (fun v H2 => v = .non ∧ Q (.ref x) H2) (E σ)
section
variable {X : Cx} {d : He.DefD} {k : Nat} {ps : List Str} {sp : Sp} {E : L2.St → XK} {x m C : Str} {p pos apos : Pos} {e o : Expr} {es : List Expr} {ta : TE} {t : TA}
theorem px_call (G : OkD X.prog X.w X.K X.mg X.base d k ps sp) (hr : Room k X.A) (hg : Gl X x) (hm : X.mg x = some (.ref (He.fAd X.K d.at_))) (hx : ∀ σ, PassesAt (L2.CX X.prog X.w) X σ (E σ)) (ha : PA X (e :: es) t)
    (hdb : (x == ("__debug__" : Str)) = false := by decide) (he : starEach (e :: es) X.env = (false, eval e X.env) :: starEach es X.env := by rfl) (hpl : (backTo pos (starEach es X.env)).any (·.1) = false := by rfl) :
    PE X (.Call (.Name x p) (e :: es) [] pos) (tCallS sp E t) := by
  obtain ⟨fd, ⟨hk, _⟩, ⟨hb, _⟩, F⟩ := G
  exact pe_callS F hr hg hm hk hb hx ha hdb he hpl
theorem px_meth {pl : Sem Bool} (G : OkD X.prog X.w X.K X.mg X.base d k ps sp) (hr : Room k X.A) (he : PE X o ta) (c : Cls X.K (He.ga X.K C)) (hm : Meth X.K (He.ga X.K C) m (He.fAd X.K d.at_)) (hx : ∀ σ, PassesAt (L2.CX X.prog X.w) X σ (E σ)) (ha : PA X (e :: es) t)
    (hst : starEach (e :: es) X.env = (false, eval e X.env) :: starEach es X.env := by rfl) (hpl : (backTo pos (starEach es X.env)).any (·.1) = false := by rfl)
    (ht : eval (.Call (.Attribute o m apos) (e :: es) [] pos) X.env = (do
      let ov ← eval o X.env
      standAt apos.atName
      let (f, first) ← holding [ov] (getMethod ov m pl)
      callWith pos f first (backTo pos (starEach (e :: es) X.env)) (backToKw pos (keywordEach [] X.env))) := by rfl) :
    PE X (.Call (.Attribute o m apos) (e :: es) [] pos) (tMt (He.ga X.K C) m sp E ta t) := by
  obtain ⟨fd, ⟨hk, _⟩, ⟨hb, _⟩, F⟩ := G
  refine ⟨fun pins s σ H Q I h => ?_⟩
  refine PySem.W.methodCall_KW (pl := pl) (thn (he.run pins s σ H _ I h) fun u s1 ⟨x, H1, I1, rx, a, dx, fs, ex, ea, l, q⟩ => ?_) ht
  subst ex
  obtain rfl : u = Value.ref a := rx
  refine getmeth_ok I1 ea c hm l ?_
  refine PySem.W.callWith_K (first := [.ref a]) (h₀ := X.base) I.ok.mod.kin hm.kp (thn (ha.run pos pins s1 σ H1 _ I1 q) fun us s2 ⟨vs, H2, I2, r, q2⟩ => ⟨I2.kIn, ?_⟩) hst hpl
  exact run_fnS (us := .ref a :: us) (vs := .ref a :: vs) F hr hb (hx σ) I2 (.cons rfl r) q2
theorem px_meth0 {pl : Sem Bool} (G : OkD X.prog X.w X.K X.mg X.base d k ps sp) (hr : Room k X.A) (he : PE X o ta) (c : Cls X.K (He.ga X.K C)) (hm : Meth X.K (He.ga X.K C) m (He.fAd X.K d.at_)) (hx : ∀ σ, PassesAt (L2.CX X.prog X.w) X σ (E σ))
    (ht : eval (.Call (.Attribute o m apos) [] [] pos) X.env = (do
      let ov ← eval o X.env
      standAt apos.atName
      let (f, first) ← holding [ov] (getMethod ov m pl)
      callWith pos f first (backTo pos (starEach [] X.env)) (backToKw pos (keywordEach [] X.env))) := by rfl) :
    PE X (.Call (.Attribute o m apos) [] [] pos) (tMt (He.ga X.K C) m sp E ta tNil) := by
  obtain ⟨fd, ⟨hk, _⟩, ⟨hb, _⟩, F⟩ := G
  refine ⟨fun pins s σ H Q I h => ?_⟩
  refine PySem.W.methodCall_KW (pl := pl) (thn (he.run pins s σ H _ I h) fun u s1 ⟨x, H1, I1, rx, a, dx, fs, ex, ea, l, q⟩ => ?_) ht
  subst ex
  obtain rfl : u = Value.ref a := rx
  refine getmeth_ok I1 ea c hm l ?_
  exact PySem.W.callWith_K0 (first := [.ref a]) I1.kIn hm.kp (run_fnS (us := [.ref a]) (vs := [.ref a]) F hr hb (hx σ) I1 (.cons rfl .nil) q)
theorem run_makeS {C f : Addr} {fd : FuncData} {pins : List (Addr × Obj)} {σ : L2.St} {H : Hp} {s : Shared} {Q : VK} {us : List Value} {vs : List V} (M : Mk X.K C f) (F : FnOk X.prog X.w X.K X.mg X.base (L2.CX X.prog X.w) k f fd ps sp) (hr : Room (k + 1) X.A) (hb : Binds X.K fd ps [])
    (hx : PassesAt (L2.CX X.prog X.w) X σ (E σ)) (I : Inv X pins σ H s) (r : Vals vs us)
    (h : ∀ x dx, H x = none → H dx = none → dx ≠ x → sp (.ref x :: vs) (upd (upd H dx (.own x)) x (.ins C dx [])) (fun v H2 => v = .non ∧ Q (.ref x) H2) (E σ)) :
    wpAny (model X.prog X.w) X.A (call (.ref C) us) (EP X pins σ Q) X.xe s := by
  have hq := h (s.heap.objs.size + 1) s.heap.objs.size (I.hok.fresh (Nat.le_succ _)) (I.hok.fresh (Nat.le_refl _)) (Nat.ne_of_lt (Nat.lt_succ_self _))
  have I2 := Inv.made (C := C) I
  have r2 : Vals (V.ref (s.heap.objs.size + 1) :: vs) (Value.ref (s.heap.objs.size + 1) :: us) := .cons rfl r
  have hl : (Value.ref (s.heap.objs.size + 1) :: us).length = ps.length := by
    have e := r2.length
    rw [F.len _ _ _ _ hq] at e
    exact e.symm
  have b := hb _ (Value.ref (s.heap.objs.size + 1) :: us) I2.kIn (by rw [List.append_nil]; exact hl)
  rw [List.append_nil] at b
  refine wpAny_call (make_map (f := f) I.kIn M.makes M.init (beq_iff_eq.mp M.fn) (codeAny_mono (F.run _ X.stack _ _ ⟨Value.ref (s.heap.objs.size + 1) :: us, []⟩ (Value.ref (s.heap.objs.size + 1) :: us) _ _ (E σ) (hr.make C us [])
    (I2.env0.make C us []) b r2 hq) fun r s' hq' => ?_))
  cases r with
  | error e => exact hx pins _ _ e s' I2 hq'
  | ok fl =>
    cases fl with
    | ret u =>
      obtain ⟨v, H', I3, rv, ev, q3⟩ := I2.after hq'
      subst ev
      exact ⟨rv, ⟨V.ref (s.heap.objs.size + 1), H', I3, rfl, q3⟩⟩
    | next => exact False.elim hq'
    | brk => exact False.elim hq'
    | cont => exact False.elim hq'
theorem px_make {C : Addr} (G : OkD X.prog X.w X.K X.mg X.base d k ps sp) (hr : Room (k + 1) X.A) (M : Mk X.K C (He.fAd X.K d.at_)) (hg : Gl X x) (hm : X.mg x = some (.ref C)) (hx : ∀ σ, PassesAt (L2.CX X.prog X.w) X σ (E σ)) (ha : PA X (e :: es) t)
    (hdb : (x == ("__debug__" : Str)) = false := by decide) (he : starEach (e :: es) X.env = (false, eval e X.env) :: starEach es X.env := by rfl) (hpl : (backTo pos (starEach es X.env)).any (·.1) = false := by rfl) :
    PE X (.Call (.Name x p) (e :: es) [] pos) (tMk C sp E t) := by
  obtain ⟨fd, ⟨hk, _⟩, ⟨hb, _⟩, F⟩ := G
  refine ⟨fun pins s σ H Q I h => ?_⟩
  refine wpAny_Call_Name_kw (ld_glob I hg hm ?_ hdb)
  refine PySem.W.callWith_K (h₀ := X.base) I.ok.mod.kin M.kp (thn (ha.run pos pins s σ H _ I h) fun us s1 ⟨vs, H1, I1, r, q⟩ => ⟨I1.kIn, ?_⟩) he hpl
  exact run_makeS M F hr hb (hx σ) I1 r q
theorem px_make0 {C : Addr} (G : OkD X.prog X.w X.K X.mg X.base d k ps sp) (hr : Room (k + 1) X.A) (M : Mk X.K C (He.fAd X.K d.at_)) (hg : Gl X x) (hm : X.mg x = some (.ref C)) (hx : ∀ σ, PassesAt (L2.CX X.prog X.w) X σ (E σ))
    (hdb : (x == ("__debug__" : Str)) = false := by decide) :
    PE X (.Call (.Name x p) [] [] pos) (tMk C sp E tNil) := by
  obtain ⟨fd, ⟨hk, _⟩, ⟨hb, _⟩, F⟩ := G
  refine ⟨fun pins s σ H Q I h => ?_⟩
  refine wpAny_Call_Name_kw (ld_glob I hg hm ?_ hdb)
  exact PySem.W.callWith_K0 I.kIn M.kp (run_makeS (us := []) M F hr hb (hx σ) I .nil h)
/-- an int, a text of the module; a def, a class -/
theorem px_int {i : Int} (hg : Gl X x) (hm : ∃ t, X.mg x = some (.int i t)) (hd : (x == ("__debug__" : Str)) = false := by decide) : PE X (.Name x pos) (tC (.int i)) := by
  obtain ⟨t, hm⟩ := hm
  exact pe_glob hg hm ⟨t, rfl⟩ hd
theorem px_str {z : Str} (hg : Gl X x) (hm : ∃ t, X.mg x = some (.str z t)) (hd : (x == ("__debug__" : Str)) = false := by decide) : PE X (.Name x pos) (tC (.str z)) := by
  obtain ⟨t, hm⟩ := hm
  exact pe_glob hg hm ⟨t, rfl⟩ hd
theorem px_ref {a : Addr} (hg : Gl X x) (hm : X.mg x = some (.ref a)) (hd : (x == ("__debug__" : Str)) = false := by decide) : PE X (.Name x pos) (tC (.ref a)) := pe_glob hg hm rfl hd
/-- raise C('..') -/
def tRz (W : WX) (C : Addr) : TS := fun _ σ H => W (.ref C) none σ H
theorem px_raise {C : Addr} {W : WX} {ms : Str} {j : Nat} {p2 pos' : Pos} (hc : X.calm = true) (tk : Takes X W) (hg : Gl X x) (gC : X.mg x = some (.ref C))
    (xC : PySem.W.excIn X.K C He.veBase "ValueError.__new__" = true ∧ PySem.W.keepIn X.K (.ref C) = true ∧ PySem.W.subIn X.K (.ref C) (.type "BaseException") = some true ∧ PySem.W.typeIn X.K (.ref C) = some (.type "type"))
    (hdb : (x == ("__debug__" : Str)) = false := by decide) :
    PS X (.Raise (some (.Call (.Name x p) [.Constant (.str ms) j p2] [] pos)) none pos') (tRz W C) :=
  ps_raise hc tk (pmk_own PySem.F.excBase_ValueError xC.1 gC xC.2.1 (raises_own xC.2.2.1 xC.2.2.2) hg hdb)
end
end TR

set_option Elab.async false
set_option linter.all false
set_option maxRecDepth 100000
set_option maxHeartbeats 4000000
/-! The readings step by step, over assertions side by side. -/
namespace TR
open PySem PySem.Spec PyProof.Rows L2

/-! ### what is wanted behind a part, by names (so that it stays whole) -/
def kTest (QT : Bool → Hp → Prop) : VK := fun x H => ∃ k, x = .bl k ∧ QT k H
def kNot (QT : Bool → Hp → Prop) : Bool → Hp → Prop := fun c H => QT (!c) H
def kAnd (u : TT) (σ : L2.St) (QT : Bool → Hp → Prop) : Bool → Hp → Prop := fun c H => if c = true then u σ H QT else QT false H
def kOr (u : TT) (σ : L2.St) (QT : Bool → Hp → Prop) : Bool → Hp → Prop := fun c H => if c = true then QT true H else u σ H QT
def kOp2 (r : R2) (x : V) (Q : VK) : VK := fun y H => r x y H Q
def kOp1 (r : R2) (tb : TE) (σ : L2.St) (Q : VK) : VK := fun x H => tb σ H (kOp2 r x Q)
def kUn (r : V → Hp → VK → Prop) (Q : VK) : VK := fun x H => r x H Q
def kCh3 (r' : R2) (tc : TE) (σ : L2.St) (y : V) (Q : VK) : VK := fun z H => ∃ k, z = .bl k ∧ (if k = true then tc σ H (kOp2 r' y Q) else Q (.bl false) H)
def kCh2 (r r' : R2) (tc : TE) (σ : L2.St) (x : V) (Q : VK) : VK := fun y H => r x y H (kCh3 r' tc σ y Q)
def kCh1 (r r' : R2) (tb tc : TE) (σ : L2.St) (Q : VK) : VK := fun x H => tb σ H (kCh2 r r' tc σ x Q)
def kAndV (tb : TE) (σ : L2.St) (Q : VK) : VK := fun x H => ∃ c, x = .bl c ∧ if c = true then tb σ H Q else Q (.bl false) H
def kOrV (tb : TE) (σ : L2.St) (Q : VK) : VK := fun x H => ∃ c, x = .bl c ∧ if c = true then Q (.bl true) H else tb σ H Q
def kNotV (Q : VK) : VK := fun x H => ∃ c, x = .bl c ∧ Q (.bl (!c)) H
def kIfE (ta tb : TE) (σ : L2.St) (Q : VK) : Bool → Hp → Prop := fun c H => if c = true then ta σ H Q else tb σ H Q
def kIfS (t u : TS) (D : Ends) (σ : L2.St) : Bool → Hp → Prop := fun c H => if c = true then t D σ H else u D σ H
def kTru (K : PySem.W.Frag) (QT : Bool → Hp → Prop) : VK := fun x H => ∃ k, TruV K x H k ∧ QT k H
def kC2 (x : V) (QA : List V → Hp → Prop) : List V → Hp → Prop := fun xs H => QA (x :: xs) H
def kC1 (tr : TA) (σ : L2.St) (QA : List V → Hp → Prop) : VK := fun x H => tr σ H (kC2 x QA)
def kCb (r : List V → Hp → VK → Prop) (Q : VK) : List V → Hp → Prop := fun vs H => r vs H Q
def kSp (sp : Sp) (E : XK) (Q : VK) : List V → Hp → Prop := fun vs H => sp vs H Q E
def kMt2 (sp : Sp) (E : XK) (x : V) (Q : VK) : List V → Hp → Prop := fun vs H => sp (x :: vs) H Q E
def kMt (C : Addr) (m : Str) (sp : Sp) (E : XK) (tr : TA) (σ : L2.St) (Q : VK) : VK := fun x H => ∃ a dx fs, x = .ref a ∧ H a = some (.ins C dx fs) ∧ fs.lookup m = none ∧ tr σ H (kMt2 sp E x Q)
def kMq (x : Addr) (Q : VK) : VK := fun v H => v = .non ∧ Q (.ref x) H
def kMk (C : Addr) (sp : Sp) (E : XK) (Q : VK) : List V → Hp → Prop := fun vs H => ∀ x dx, H x = none → H dx = none → dx ≠ x → sp (.ref x :: vs) (upd (upd H dx (.own x)) x (.ins C dx [])) (kMq x Q) E
def kLst (Q : VK) : List V → Hp → Prop := fun xs H => xs.length ≤ sizeLine ∧ ∀ p, H p = none → Q (.ref p) (upd H p (.lst xs))
def kTup (Q : VK) : List V → Hp → Prop := fun xs H => xs.length ≤ sizeLine ∧ ∀ p, H p = none → Q (.ref p) (upd H p (.tup xs))
def kFld (K : PySem.W.Frag) (f : Str) (Q : VK) : VK := fun x H => ∃ a C dx fs v, x = .ref a ∧ H a = some (.ins C dx fs) ∧ Cls K C ∧ NoAttr K C f ∧ fs.lookup f = some v ∧ Q v H
def kPut (K : PySem.W.Frag) (f : Str) (y : V) (D : Ends) (σ : L2.St) : VK := fun x H => ∃ a C dx fs, x = .ref a ∧ H a = some (.ins C dx fs) ∧ Cls K C ∧ NoAttr K C f ∧ fs.length < 1000 ∧ D.nx σ (upd H a (.ins C dx (putF f y fs)))
def kSf (K : PySem.W.Frag) (ta : TE) (f : Str) (D : Ends) (σ : L2.St) : VK := fun y H => ta σ H (kPut K f y D σ)
def kAsg (g : TG) (D : Ends) (σ : L2.St) : VK := fun x H => g x σ H D.nx
def kDrop (D : Ends) (σ : L2.St) : VK := fun _ H => D.nx σ H
def kBM (K : PySem.W.Frag) (T : String) (r : V → List V → Hp → VK → Prop) (tr : TA) (σ : L2.St) (Q : VK) : VK := fun x H => tyV K T x H ∧ tr σ H fun xs H2 => r x xs H2 Q
def kBM0 (K : PySem.W.Frag) (T : String) (r : V → List V → Hp → VK → Prop) (Q : VK) : VK := fun x H => tyV K T x H ∧ r x [] H Q
def kBq (r : V → List V → Hp → VK → Prop) (x : V) (Q : VK) : List V → Hp → Prop := fun xs H => r x xs H Q
def kSb2 (g : TSet) (o v : V) (QS : L2.St → Hp → Prop) (σ : L2.St) : VK := fun i H => g o i v H (QS σ)
def kSb1 (ti : TE) (g : TSet) (v : V) (QS : L2.St → Hp → Prop) (σ : L2.St) : VK := fun o H => ti σ H (kSb2 g o v QS σ)
def kG (tg : TGs) (xs : List V) (QS : L2.St → Hp → Prop) : L2.St → Hp → Prop := fun σ H => tg xs σ H QS
def kRev (K : PySem.W.Frag) (Q : VK) : VK := fun x H => ∃ a xs, x = .ref a ∧ SqL K H a xs ∧ ∀ p, H p = none → Q (.ref p) (upd H p (.lst xs.reverse))
def kSl3 (r : V → Option Int → Option Int → Hp → VK → Prop) (x : V) (lo : Option Int) (Q : VK) : Option Int → Hp → Prop := fun u H => r x lo u H Q
def kSl2 (r : V → Option Int → Option Int → Hp → VK → Prop) (th : TO) (σ : L2.St) (x : V) (Q : VK) : Option Int → Hp → Prop := fun l H => th σ H (kSl3 r x l Q)
def kSl1 (r : V → Option Int → Option Int → Hp → VK → Prop) (tl th : TO) (σ : L2.St) (Q : VK) : VK := fun x H => tl σ H (kSl2 r th σ x Q)
def kPart (QO : Option Int → Hp → Prop) : VK := fun x H => ∃ i, x = .int i ∧ QO (some i) H
/-- a value's truth, as a test -/
def tTru (K : PySem.W.Frag) (ta : TE) : TT := fun σ H QT => ta σ H (kTru K QT)
theorem px_truth {X : Cx} {a : Expr} {ta : TE} (ha : PE X a ta) (he : ∀ whole, isTrue a X.env whole = (do let v ← whole; standAt a.pos; holding [v] (truthy v))) : PT X a (tTru X.K ta) := pt_truth ha he

section
variable {K : PySem.W.Frag} {σ : L2.St} {H : Hp} {i : Nat} {v x y z : V} {ta tb tc te tv to ti : TE} {tA tB' : TT} {t u : TS} {D : Ends} {Q : VK} {p : Addr} {L R : List As} {QT : Bool → Hp → Prop} {QA : List V → Hp → Prop} {QS : L2.St → Hp → Prop}

/-! ### expressions -/
theorem x_var (h : σ[i]? = some (some v)) (q : Q v H) : tVar i σ H Q := ⟨v, h, q⟩
theorem x_c (q : Q v H) : tC v σ H Q := q
theorem x_op {r : R2} (q : ta σ H (kOp1 r tb σ Q)) : tOp r ta tb σ H Q := q
theorem y_op1 {r : R2} (q : tb σ H (kOp2 r x Q)) : kOp1 r tb σ Q x H := q
theorem y_op2 {r : R2} (q : r x y H Q) : kOp2 r x Q y H := q
theorem x_un {r : V → Hp → VK → Prop} (q : ta σ H (kUn r Q)) : tUn r ta σ H Q := q
theorem y_neg {i : Int} (q : Q (.int (-i)) H) : kUn (rU fun i => .int (-i)) Q (.int i) H := ⟨i, rfl, q⟩
theorem x_I0 {g : Int → Int → V} {i j : Int} (q : Q (g i j) H) : rI0 g (.int i) (.int j) H Q := ⟨i, j, rfl, rfl, q⟩
theorem x_I {C : Int → Int → Prop} {g : Int → Int → V} {i j : Int} (c : C i j) (q : Q (g i j) H) : rI C g (.int i) (.int j) H Q := ⟨i, j, rfl, rfl, c, q⟩
theorem x_if (q : tA σ H (kIfE ta tb σ Q)) : tIf tA ta tb σ H Q := q
theorem y_ifE {c : Bool} (q : if c = true then ta σ H Q else tb σ H Q) : kIfE ta tb σ Q c H := q
theorem x_nil (q : QA [] H) : tNil σ H QA := q
theorem x_cons {tr : TA} (q : ta σ H (kC1 tr σ QA)) : tCons ta tr σ H QA := q
theorem y_c1 {tr : TA} (q : tr σ H (kC2 x QA)) : kC1 tr σ QA x H := q
theorem y_c2 {xs : List V} (q : QA (x :: xs) H) : kC2 x QA xs H := q
theorem x_cb {r : List V → Hp → VK → Prop} {tr : TA} (q : tr σ H (kCb r Q)) : tCB r tr σ H Q := q
theorem y_cb {r : List V → Hp → VK → Prop} {vs : List V} (q : r vs H Q) : kCb r Q vs H := q

/-! ### tests -/
theorem x_test (q : te σ H (kTest QT)) : tTest te σ H QT := q
theorem x_tB (q : te σ H (kTest QT)) : tB te σ H QT := q
theorem y_test {b : Bool} (q : QT b H) : kTest QT (.bl b) H := ⟨b, rfl, q⟩
theorem x_not (q : tA σ H (kNot QT)) : tNot tA σ H QT := q
theorem y_not {c : Bool} (q : QT (!c) H) : kNot QT c H := q
theorem x_and (q : tA σ H (kAnd tB' σ QT)) : tAnd tA tB' σ H QT := q
theorem y_and {c : Bool} (q : if c = true then tB' σ H QT else QT false H) : kAnd tB' σ QT c H := q
theorem x_or (q : tA σ H (kOr tB' σ QT)) : tOr tA tB' σ H QT := q
theorem y_or {c : Bool} (q : if c = true then QT true H else tB' σ H QT) : kOr tB' σ QT c H := q
theorem x_chain {r r' : R2} (q : ta σ H (kCh1 r r' tb tc σ Q)) : tChain r r' ta tb tc σ H Q := q
theorem y_ch1 {r r' : R2} (q : tb σ H (kCh2 r r' tc σ x Q)) : kCh1 r r' tb tc σ Q x H := q
theorem y_ch2 {r r' : R2} (q : r x y H (kCh3 r' tc σ y Q)) : kCh2 r r' tc σ x Q y H := q
theorem y_ch3 {r' : R2} {k : Bool} (q : if k = true then tc σ H (kOp2 r' y Q) else Q (.bl false) H) : kCh3 r' tc σ y Q (.bl k) H := ⟨k, rfl, q⟩
theorem x_andV (q : ta σ H (kAndV tb σ Q)) : tAndV ta tb σ H Q := q
theorem y_andV {c : Bool} (q : if c = true then tb σ H Q else Q (.bl false) H) : kAndV tb σ Q (.bl c) H := ⟨c, rfl, q⟩
theorem x_orV (q : ta σ H (kOrV tb σ Q)) : tOrV ta tb σ H Q := q
theorem y_orV {c : Bool} (q : if c = true then Q (.bl true) H else tb σ H Q) : kOrV tb σ Q (.bl c) H := ⟨c, rfl, q⟩
theorem x_notV (q : ta σ H (kNotV Q)) : tNotV ta σ H Q := q
theorem y_notV {c : Bool} (q : Q (.bl (!c)) H) : kNotV Q (.bl c) H := ⟨c, rfl, q⟩
theorem x_tt {A B : Prop} (a : A) : if true = true then A else B := by
  rw [if_pos rfl]
  exact a
theorem x_ff {A B : Prop} (b : B) : if false = true then A else B := by
  rw [if_neg Bool.false_ne_true]
  exact b
theorem x_dec {φ : Prop} [d : Decidable φ] {A B : Prop} (a : φ → A) (b : ¬ φ → B) : if decide φ = true then A else B := by
  by_cases h : φ
  · rw [if_pos (decide_eq_true h)]
    exact a h
  · rw [if_neg (by rw [decide_eq_false h]; exact Bool.false_ne_true)]
    exact b h
theorem x_ndec {φ : Prop} [d : Decidable φ] {A B : Prop} (a : ¬ φ → A) (b : φ → B) : if (!decide φ) = true then A else B := by
  by_cases h : φ
  · rw [decide_eq_true h, if_neg (by decide)]
    exact b h
  · rw [decide_eq_false h, if_pos (by decide)]
    exact a h
theorem x_bool {c : Bool} {A B : Prop} (a : c = true → A) (b : c = false → B) : if c = true then A else B := by
  cases c with
  | true => exact x_tt (a rfl)
  | false => exact x_ff (b rfl)
theorem x_nbool {c : Bool} {A B : Prop} (a : c = false → A) (b : c = true → B) : if (!c) = true then A else B := by
  cases c with
  | true => exact x_ff (b rfl)
  | false => exact x_tt (a rfl)
theorem x_yes {c : Bool} {A B : Prop} (h : c = true) (a : A) : if c = true then A else B := by
  rw [if_pos h]
  exact a
theorem x_no {c : Bool} {A B : Prop} (h : c = false) (b : B) : if c = true then A else B := by
  rw [if_neg (by rw [h]; exact Bool.false_ne_true)]
  exact b
theorem x_nt {A B : Prop} (a : A) : if (!false) = true then A else B := x_tt a
theorem x_nf {A B : Prop} (b : B) : if (!true) = true then A else B := x_ff b
/-- a value's truth -/
theorem x_tru (q : ta σ H (kTru K QT)) : tTru K ta σ H QT := q
theorem y_trub {b : Bool} (q : QT b H) : kTru K QT (.bl b) H := ⟨b, rfl, q⟩
theorem y_trui {i : Int} (q : QT (i != 0) H) : kTru K QT (.int i) H := ⟨_, rfl, q⟩
theorem y_trun (q : QT false H) : kTru K QT .non H := ⟨_, rfl, q⟩
theorem y_trul {xs : List V} (h : SqL K H p xs) (q : QT (!xs.isEmpty) H) : kTru K QT (.ref p) H := ⟨_, .inl ⟨xs, h, rfl⟩, q⟩

/-! ### statements -/
theorem x_seq (q : t { D with nx := u D } σ H) : tSeq t u D σ H := q
theorem x_next (q : D.nx σ H) : tNext D σ H := q
theorem x_asg {g : TG} (q : te σ H (kAsg g D σ)) : tAsg te g D σ H := q
theorem y_asg {g : TG} (q : g x σ H D.nx) : kAsg g D σ x H := q
theorem x_name (q : QS (σ.set i (some v)) H) : gName i v σ H QS := q
theorem x_drop (q : te σ H (kDrop D σ)) : tDrop te D σ H := q
theorem y_drop (q : D.nx σ H) : kDrop D σ x H := q
theorem x_ret (q : te σ H D.rt) : tRet te D σ H := q
theorem x_retN (q : D.rt .non H) : tRetN D σ H := q
theorem x_ifS {c : TT} (q : c σ H (kIfS t u D σ)) : tIfS c t u D σ H := q
theorem y_ifS {c : Bool} (q : if c = true then t D σ H else u D σ H) : kIfS t u D σ c H := q
theorem x_cont (q : D.ct σ H) : tCont D σ H := q
theorem x_brk (q : D.bk σ H) : tBreak D σ H := q

/-! ### objects -/
class Fd (fs : List (Str × V)) (f : Str) (v : outParam V) : Prop where
  look : fs.lookup f = some v
  len : fs.length < 1000
class Fp (fs : List (Str × V)) (f : Str) (v : V) (fs' : outParam (List (Str × V))) : Prop where
  put : putF f v fs = fs'
  len : fs.length < 1000
class Fn (fs : List (Str × V)) (m : Str) : Prop where
  none : fs.lookup m = none
class FldI (K : PySem.W.Frag) (C : Addr) (f : Str) : Prop where
  cl : Cls K C
  na : NoAttr K C f
theorem x_fld {f : Str} (q : ta σ H (kFld K f Q)) : tFld K ta f σ H Q := q
theorem y_fld {f : Str} {C dx : Addr} {fs : List (Str × V)} (hS : Sep L H) [a : At p L (.ins C dx fs) R] [i : FldI K C f] [w : Fd fs f v] (q : Q v H) : kFld K f Q (.ref p) H :=
  ⟨p, C, dx, fs, v, rfl, hS.at_, i.cl, i.na, w.look, q⟩
theorem x_sfld {f : Str} (q : tv σ H (kSf K ta f D σ)) : sFld K ta tv f D σ H := q
theorem y_sf {f : Str} (q : ta σ H (kPut K f y D σ)) : kSf K ta f D σ y H := q
theorem y_put {f : Str} {C dx : Addr} {fs fs' : List (Str × V)} (hS : Sep L H) [a : At p L (.ins C dx fs) R] [i : FldI K C f] [w : Fp fs f y fs'] (q : ∀ H', Sep (pt p (.ins C dx fs') :: R) H' → D.nx σ H') : kPut K f y D σ (.ref p) H :=
  ⟨p, C, dx, fs, rfl, hS.at_, i.cl, i.na, w.len, by rw [w.put]; exact q _ (Sep.put (o := .ins C dx fs) (fun z => z) (a.en H hS))⟩
theorem x_meth {C : Addr} {m : Str} {sp : Sp} {E : L2.St → XK} {tr : TA} (q : ta σ H (kMt C m sp (E σ) tr σ Q)) : tMt C m sp E ta tr σ H Q := q
/-- at p an instance of the class at C, of these fields -/
class IsOb (A : As) (p : Addr) (C : outParam Addr) (nm : outParam (List Str)) : Prop where
  ob : ∀ h, A h → ∃ dx vs, h p = some (.ins C dx (nm.zip vs))
instance {p C dx : Addr} {nm : List Str} {vs : List V} : IsOb (pt p (.ins C dx (nm.zip vs))) p C nm := ⟨fun h a => ⟨dx, vs, a⟩⟩
class NotF (nm : List Str) (m : Str) : Prop where
  no : m ∉ nm
theorem look_none : ∀ {nm : List Str} {vs : List V} {f : Str}, f ∉ nm → (nm.zip vs).lookup f = none
  | [], _, _, _ => by simp [List.lookup]
  | _ :: _, [], _, _ => by simp [List.lookup]
  | g :: nm, x :: vs, f, h => by
    have ne : (f == g) = false := beq_eq_false_iff_ne.mpr fun e => h (by rw [e]; exact List.mem_cons_self)
    show List.lookup f ((g, x) :: nm.zip vs) = none
    rw [List.lookup_cons, ne]
    exact look_none fun z => h (List.mem_cons_of_mem _ z)
theorem y_meth {C : Addr} {m : Str} {nm : List Str} {A : As} {sp : Sp} {E : XK} {tr : TA} (hS : Sep L H) [a : AtA p L A R] [o : IsOb A p C nm] [w : NotF nm m] (q : tr σ H (kMt2 sp E (.ref p) Q)) : kMt C m sp E tr σ Q (.ref p) H := by
  obtain ⟨h1, h2, s1, s2, d, ha, r⟩ := a.en H hS
  obtain ⟨dx, vs, e⟩ := o.ob h1 ha
  exact ⟨p, dx, _, rfl, s1 _ _ e, look_none w.no, q⟩
theorem y_mt2 {sp : Sp} {E : XK} {vs : List V} (q : sp (x :: vs) H Q E) : kMt2 sp E x Q vs H := q
theorem x_callS {sp : Sp} {E : L2.St → XK} {tr : TA} (q : tr σ H (kSp sp (E σ) Q)) : tCallS sp E tr σ H Q := q
theorem y_sp {sp : Sp} {E : XK} {vs : List V} (q : sp vs H Q E) : kSp sp E Q vs H := q
theorem x_make {C : Addr} {sp : Sp} {E : L2.St → XK} {tr : TA} (q : tr σ H (kMk C sp (E σ) Q)) : tMk C sp E tr σ H Q := q
theorem y_mk {C : Addr} {sp : Sp} {E : XK} {vs : List V} (hS : Sep L H) (q : ∀ x dx H', Sep (pt x (.ins C dx []) :: L) H' → sp (.ref x :: vs) H' (kMq x Q) E) : kMk C sp E Q vs H := fun x dx nx nd ne =>
  q x dx _ (Sep.new (by rw [upd_ne (Ne.symm ne)]; exact nx) (Sep.newd nd hS))
theorem y_mq (q : Q (.ref p) H) : kMq p Q .non H := ⟨rfl, q⟩
theorem x_rz {W : WX} {C : Addr} (q : W (.ref C) none σ H) : tRz W C D σ H := q

/-! ### lists, tuples -/
theorem x_lst {tr : TA} (q : tr σ H (kLst Q)) : tLst tr σ H Q := q
theorem y_lst {xs : List V} (hS : Sep L H) (h : xs.length ≤ sizeLine) (q : ∀ p H', Sep (pt p (.lst xs) :: L) H' → Q (.ref p) H') : kLst Q xs H := ⟨h, fun p hp => q p _ (Sep.new hp hS)⟩
theorem x_tup {tr : TA} (q : tr σ H (kTup Q)) : tTup tr σ H Q := q
theorem y_tup {xs : List V} (hS : Sep L H) (h : xs.length ≤ sizeLine) (q : ∀ p H', Sep (pt p (.tup xs) :: L) H' → Q (.ref p) H') : kTup Q xs H := ⟨h, fun p hp => q p _ (Sep.new hp hS)⟩
/-- a list that may be read: tracked, known, or of the module -/
theorem sqL {xs : List V} (hS : Sep L H) [a : At p L (.lst xs) R] : SqL K H p xs := .of hS.at_
theorem sqT {xs : List V} (hS : Sep L H) [a : At p L (.tup xs) R] : SqT K H p xs := .of hS.at_
/-- the list at p is to be read -/
def Li (K : PySem.W.Frag) (p : Addr) (xs : List V) : As := fun h => SqL K h p xs
theorem Rd.sb {H H' : Hp} {a : Addr} {u : HO} (s : Sb H H') (r : Rd H a u) : Rd H' a u := by
  rcases r with r | ⟨o, r⟩
  · exact .inl (s _ _ r)
  · exact .inr ⟨o, s _ _ r⟩
theorem SqL.sb {H H' : Hp} {a : Addr} {xs : List V} (s : Sb H H') (r : SqL K H a xs) : SqL K H' a xs := by
  rcases r with r | r
  · exact .inl (Rd.sb s r)
  · exact .inr r
theorem SqT.sb {H H' : Hp} {a : Addr} {xs : List V} (s : Sb H H') (r : SqT K H a xs) : SqT K H' a xs := by
  rcases r with r | r
  · exact .inl (Rd.sb s r)
  · exact .inr r
theorem Sep.li {xs : List V} (h : Sep (Li K p xs :: R) H) : SqL K H p xs := by
  obtain ⟨h1, h2, s1, s2, d, a, r⟩ := h
  exact SqL.sb s1 a
theorem Sep.liOf {xs : List V} (h : Sep L H) [a : Pk (Li K p xs) L R] : SqL K H p xs := (h.to (A := Li K p xs)).li
/-- xs[i] -/
theorem x_ixL {xs : List V} {i : Int} (h : SqL K H p xs) (e : atI xs i = some v) (q : Q v H) : rIx K (.ref p) (.int i) H Q := .inl ⟨p, xs, i, v, rfl, rfl, h, e, q⟩
theorem x_ixT {xs : List V} {i : Int} (h : SqT K H p xs) (e : atI xs i = some v) (q : Q v H) : rIx K (.ref p) (.int i) H Q := .inr (.inl ⟨p, xs, i, v, rfl, rfl, h, e, q⟩)
theorem atI_some {α : Type} {xs : List α} {i : Int} {v : α} (h0 : 0 ≤ i) (h : xs[i.toNat]? = some v) : atI xs i = some v := by
  have e : i = ((i.toNat : Nat) : Int) := by omega
  rw [e]
  exact atI_nat h
theorem ixN_some {n : Nat} {i : Int} (h0 : 0 ≤ i) (h1 : i < n) : ixN n i = some i.toNat := by
  unfold ixN
  rw [if_pos h0, if_pos h1]
/-- xs[i] = v -/
theorem x_sub {g : TSet} (q : to σ H (kSb1 ti g v QS σ)) : gSub to ti g v σ H QS := q
theorem y_sb1 {g : TSet} {o : V} (q : ti σ H (kSb2 g o v QS σ)) : kSb1 ti g v QS σ o H := q
theorem y_setL {xs : List V} {i : Int} {j : Nat} (hS : Sep L H) [a : At p L (.lst xs) R] (e : ixN xs.length i = some j) (q : ∀ H', Sep (pt p (.lst (xs.set j v)) :: R) H' → QS σ H') : kSb2 rSetL (.ref p) v QS σ (.int i) H :=
  ⟨p, xs, i, j, rfl, rfl, hS.at_, e, q _ (Sep.put (o := .lst xs) (fun z => z) (a.en H hS))⟩
/-- a built-in's method -/
theorem x_bm {T : String} {r : V → List V → Hp → VK → Prop} {tr : TA} (q : to σ H (kBM K T r tr σ Q)) : tBM K T r to tr σ H Q := q
theorem y_bm {T : String} {r : V → List V → Hp → VK → Prop} {tr : TA} (h : tyV K T x H) (q : tr σ H (kBq r x Q)) : kBM K T r tr σ Q x H := ⟨h, q⟩
theorem y_bml {xs : List V} {r : V → List V → Hp → VK → Prop} {tr : TA} (h : SqL K H p xs) (q : tr σ H (kBq r (.ref p) Q)) : kBM K "list" r tr σ Q (.ref p) H := ⟨.inl ⟨rfl, _, h⟩, q⟩
theorem y_bq {r : V → List V → Hp → VK → Prop} {xs : List V} (q : r x xs H Q) : kBq r x Q xs H := q
theorem x_bm0 {T : String} {r : V → List V → Hp → VK → Prop} (q : to σ H (kBM0 K T r Q)) : tBM0 K T r to σ H Q := q
theorem y_bml0 {xs : List V} {r : V → List V → Hp → VK → Prop} (h : SqL K H p xs) (q : r (.ref p) [] H Q) : kBM0 K "list" r Q (.ref p) H := ⟨.inl ⟨rfl, _, h⟩, q⟩
theorem x_append {xs : List V} (hS : Sep L H) [a : At p L (.lst xs) R] (e : xs.length < sizeLine) (q : ∀ H', Sep (pt p (.lst (xs ++ [v])) :: R) H' → Q .non H') : rAppend (.ref p) [v] H Q :=
  ⟨p, xs, v, rfl, rfl, hS.at_, e, q _ (Sep.put (o := .lst xs) (fun z => z) (a.en H hS))⟩
/-- list(xs) -/
def rListOf (K : PySem.W.Frag) : List V → Hp → VK → Prop := fun xs H Q => ∃ p ys, xs = [.ref p] ∧ (SqL K H p ys ∨ SqT K H p ys) ∧ ∀ l, H l = none → Q (.ref l) (upd H l (.lst ys))
theorem call_listOf {X : Cx} : CallR X (.type "list") (rListOf X.K) := call_list_of
theorem x_listOf {xs : List V} (hS : Sep L H) (h : SqL K H p xs) (q : ∀ l H', Sep (pt l (.lst xs) :: L) H' → Q (.ref l) H') : rListOf K [.ref p] H Q := ⟨p, xs, rfl, .inl h, fun l hl => q l _ (Sep.new hl hS)⟩
/-- len -/
def rLen (K : PySem.W.Frag) : List V → Hp → VK → Prop := fun xs H Q => ∃ x n, xs = [x] ∧ LenV K x H n ∧ Q (.int (n : Nat)) H
theorem call_lenA {X : Cx} : CallR X (.builtin "len") (rLen X.K) := call_len
theorem x_lenL {xs : List V} (h : SqL K H p xs) (q : Q (.int (xs.length : Nat)) H) : rLen K [.ref p] H Q := ⟨_, _, rfl, .inl ⟨xs, h, rfl⟩, q⟩
/-- ==, != : scalars, or data -/
def rEqA (K : PySem.W.Frag) : R2 := fun x y H Q => rEq x y H Q ∨ rEqD K x y H Q
def rNeA (K : PySem.W.Frag) : R2 := fun x y H Q => rNe x y H Q ∨ rNeD K x y H Q
theorem op_eqA {X : Cx} (hu : X.A.units + 64 < cLine) : OpR X (compareOp .Eq) (rEqA X.K) := op_eq.or (op_eqD hu)
theorem op_neA {X : Cx} (hu : X.A.units + 64 < cLine) : OpR X (compareOp .NotEq) (rNeA X.K) := op_ne.or (op_neD hu)
theorem dec_V {i j : Int} : decide (V.int i = V.int j) = decide (i = j) := by simp
theorem x_eqI {i j : Int} (q : Q (.bl (decide (i = j))) H) : rEqA K (.int i) (.int j) H Q := .inl ⟨rfl, by rw [dec_V]; exact q⟩
theorem x_neI {i j : Int} (q : Q (.bl (!decide (i = j))) H) : rNeA K (.int i) (.int j) H Q := .inl ⟨rfl, by rw [dec_V]; exact q⟩
theorem x_eqS (h : scal x y = true) (q : Q (.bl (decide (x = y))) H) : rEqA K x y H Q := .inl ⟨h, q⟩
theorem x_neS (h : scal x y = true) (q : Q (.bl (!decide (x = y))) H) : rNeA K x y H Q := .inl ⟨h, q⟩
theorem x_eqD {d e : PyData} (hd : Dp K H x d) (he : Dp K H y e) (sd : SeqAt.shaped d = true) (se : SeqAt.shaped e = true) (q : Q (.bl (PyData.eqv d e)) H) : rEqA K x y H Q := .inr ⟨d, e, hd, he, sd, se, q⟩
theorem x_neD {d e : PyData} (hd : Dp K H x d) (he : Dp K H y e) (sd : SeqAt.shaped d = true) (se : SeqAt.shaped e = true) (q : Q (.bl (!PyData.eqv d e)) H) : rNeA K x y H Q := .inr ⟨d, e, hd, he, sd, se, q⟩
/-- is None -/
def rIsN : R2 := fun x y H Q => y = .non ∧ Q (.bl (decide (x = .non))) H
def rNotN : R2 := fun x y H Q => y = .non ∧ Q (.bl (!decide (x = .non))) H
theorem op_isN1 {X : Cx} : OpR X (compareOp .Is) rIsN := op_isN
theorem op_notN1 {X : Cx} : OpR X (compareOp .IsNot) rNotN := op_notN
theorem x_isN (q : Q (.bl (decide (x = .non))) H) : rIsN x .non H Q := ⟨rfl, q⟩
theorem x_notN (q : Q (.bl (!decide (x = .non))) H) : rNotN x .non H Q := ⟨rfl, q⟩
/-- several targets -/
theorem x_gtup {n : Nat} {tg : TGs} {xs : List V} (h : SqT K H p xs) (e : xs.length = n) (q : tg xs σ H QS) : gTup K n tg (.ref p) σ H QS := ⟨p, xs, rfl, h, e, q⟩
theorem x_gcons {g : TG} {tg : TGs} {xs : List V} (q : g x σ H (kG tg xs QS)) : gCons g tg (x :: xs) σ H QS := ⟨x, xs, rfl, q⟩
theorem y_g {tg : TGs} {xs : List V} (q : tg xs σ H QS) : kG tg xs QS σ H := q
theorem x_gnil (q : QS σ H) : gNil [] σ H QS := ⟨rfl, q⟩
/-- xs[::-1], slices -/
theorem x_rev (q : te σ H (kRev K Q)) : tRevL K te σ H Q := q
theorem y_rev {xs : List V} (hS : Sep L H) (h : SqL K H p xs) (q : ∀ l H', Sep (pt l (.lst xs.reverse) :: L) H' → Q (.ref l) H') : kRev K Q (.ref p) H := ⟨p, xs, rfl, h, fun l hl => q l _ (Sep.new hl hS)⟩
theorem x_sl {r : V → Option Int → Option Int → Hp → VK → Prop} {tl th : TO} (q : te σ H (kSl1 r tl th σ Q)) : tSl r te tl th σ H Q := q
theorem y_sl1 {r : V → Option Int → Option Int → Hp → VK → Prop} {tl th : TO} (q : tl σ H (kSl2 r th σ x Q)) : kSl1 r tl th σ Q x H := q
theorem y_sl2 {r : V → Option Int → Option Int → Hp → VK → Prop} {th : TO} {l : Option Int} (q : th σ H (kSl3 r x l Q)) : kSl2 r th σ x Q l H := q
theorem y_sl3 {r : V → Option Int → Option Int → Hp → VK → Prop} {l u : Option Int} (q : r x l u H Q) : kSl3 r x l Q u H := q
theorem x_nop {QO : Option Int → Hp → Prop} (q : QO none H) : tNoPart σ H QO := q
theorem x_part {QO : Option Int → Hp → Prop} (q : te σ H (kPart QO)) : tPart te σ H QO := q
theorem y_part {QO : Option Int → Hp → Prop} {i : Int} (q : QO (some i) H) : kPart QO (.int i) H := ⟨i, rfl, q⟩
theorem x_slL {xs : List V} {lo hi : Option Int} (hS : Sep L H) (h : SqL K H p xs) (q : ∀ l H', Sep (pt l (.lst (cutV xs lo hi)) :: L) H' → Q (.ref l) H') : rSlL K (.ref p) lo hi H Q := ⟨p, xs, rfl, h, fun l hl => q l _ (Sep.new hl hS)⟩

/-! ### loops -/
/-- for k in range(n): P i, the state behind i turns -/
def kRg1 (g : TG) (t : TS) (D : Ends) (σ : L2.St) : List V → Hp → Prop := fun vs H => ∃ j : Int, vs = [.int j] ∧ -(2 ^ 62) ≤ j ∧ j < 2 ^ 62 ∧ ∃ W : Nat → Nat → L2.St → Hp → Prop, (∃ m, W 0 m σ H) ∧ ∀ i m σ H, W i m σ H →
  ((Itr 0 j.toNat).stop i H ∧ D.nx σ H) ∨ ((Itr 0 j.toNat).go i H ∧ ∃ N : L2.St → Hp → Prop, (∀ σ' H', N σ' H' → ∃ m', m' < m ∧ W (i + 1) m' σ' H') ∧ ∀ x H', (Itr 0 j.toNat).yld i H x H' → g x σ H' fun σ2 H2 => t { D with nx := N, ct := N, bk := D.nx } σ2 H2)
theorem x_for1 {ta : TA} {g : TG} (q : ta σ H (kRg1 g t D σ)) : tFor (iRng1 ta) g t D σ H := q
def kBody (t : TS) (D : Ends) (N : L2.St → Hp → Prop) : L2.St → Hp → Prop := fun σ H => t { D with nx := N, ct := N, bk := D.nx } σ H
theorem y_for1 {n : Nat} {g : TG} (P : Nat → L2.St → Hp → Prop) (hn : n ≤ 1000000) (h0 : P 0 σ H) (hs : ∀ i σ H, i < n → P i σ H → g (.int (i : Nat)) σ H (kBody t D (P (i + 1)))) (hd : ∀ σ H, P n σ H → D.nx σ H) : kRg1 g t D σ [.int (n : Nat)] H :=
  ⟨n, rfl, by omega, by omega, by
    rw [Int.toNat_natCast]
    exact for_range (lo := 0) P h0 (fun i σ H hi p => by rw [Int.zero_add]; exact hs i σ H hi p) hd⟩
theorem y_body {N : L2.St → Hp → Prop} (q : t { D with nx := N, ct := N, bk := D.nx } σ H) : kBody t D N σ H := q
/-- for x in a list -/
def kFl (K : PySem.W.Frag) (g : TG) (t : TS) (D : Ends) (σ : L2.St) : VK := fun x H => ∃ a, x = .ref a ∧ (∃ xs, SqL K H a xs) ∧ ∃ W : Nat → Nat → L2.St → Hp → Prop, (∃ m, W 0 m σ H) ∧ ∀ i m σ H, W i m σ H →
  ((Itl K a).stop i H ∧ D.nx σ H) ∨ ((Itl K a).go i H ∧ ∃ N : L2.St → Hp → Prop, (∀ σ' H', N σ' H' → ∃ m', m' < m ∧ W (i + 1) m' σ' H') ∧ ∀ x H', (Itl K a).yld i H x H' → g x σ H' fun σ2 H2 => t { D with nx := N, ct := N, bk := D.nx } σ2 H2)
theorem x_forL {g : TG} (q : te σ H (kFl K g t D σ)) : tFor (iList K te) g t D σ H := q
theorem y_forL {xs : List V} {g : TG} (P : Nat → L2.St → Hp → Prop) (hx : SqL K H p xs) (h0 : P 0 σ H) (hl : ∀ i σ H, i ≤ xs.length → P i σ H → SqL K H p xs) (hs : ∀ i x σ H, xs[i]? = some x → P i σ H → g x σ H (kBody t D (P (i + 1)))) (hd : ∀ σ H, P xs.length σ H → D.nx σ H) :
    kFl K g t D σ (.ref p) H := ⟨p, rfl, ⟨xs, hx⟩, for_list P h0 hl hs hd⟩
/-- for x in a tuple -/
def kFt (K : PySem.W.Frag) (g : TG) (t : TS) (D : Ends) (σ : L2.St) : VK := fun x H => ∃ a, x = .ref a ∧ (∃ xs, SqT K H a xs) ∧ ∃ W : Nat → Nat → L2.St → Hp → Prop, (∃ m, W 0 m σ H) ∧ ∀ i m σ H, W i m σ H →
  ((Itt K a).stop i H ∧ D.nx σ H) ∨ ((Itt K a).go i H ∧ ∃ N : L2.St → Hp → Prop, (∀ σ' H', N σ' H' → ∃ m', m' < m ∧ W (i + 1) m' σ' H') ∧ ∀ x H', (Itt K a).yld i H x H' → g x σ H' fun σ2 H2 => t { D with nx := N, ct := N, bk := D.nx } σ2 H2)
theorem x_forT {g : TG} (q : te σ H (kFt K g t D σ)) : tFor (iTup K te) g t D σ H := q
theorem y_forT {xs : List V} {g : TG} (P : Nat → L2.St → Hp → Prop) (hx : SqT K H p xs) (h0 : P 0 σ H) (hl : ∀ i σ H, i ≤ xs.length → P i σ H → SqT K H p xs) (hs : ∀ i x σ H, xs[i]? = some x → P i σ H → g x σ H (kBody t D (P (i + 1)))) (hd : ∀ σ H, P xs.length σ H → D.nx σ H) :
    kFt K g t D σ (.ref p) H := ⟨p, rfl, ⟨xs, hx⟩, for_tup P h0 hl hs hd⟩
/-- for k in range(a, b, -1) -/
def kRg3 (g : TG) (t : TS) (D : Ends) (σ : L2.St) : List V → Hp → Prop := fun vs H => ∃ (i j c : Int) (n : Nat), vs = [.int i, .int j, .int c] ∧ RgC i j c n ∧ ∃ W : Nat → Nat → L2.St → Hp → Prop, (∃ m, W 0 m σ H) ∧ ∀ i' m σ H, W i' m σ H →
  ((Itc i c n).stop i' H ∧ D.nx σ H) ∨ ((Itc i c n).go i' H ∧ ∃ N : L2.St → Hp → Prop, (∀ σ' H', N σ' H' → ∃ m', m' < m ∧ W (i' + 1) m' σ' H') ∧ ∀ x H', (Itc i c n).yld i' H x H' → g x σ H' fun σ2 H2 => t { D with nx := N, ct := N, bk := D.nx } σ2 H2)
theorem x_for3 {ta : TA} {g : TG} (q : ta σ H (kRg3 g t D σ)) : tFor (iRng3 ta) g t D σ H := q
theorem y_for3 {a b : Int} {g : TG} (P : Nat → L2.St → Hp → Prop) (ha : -1000000 ≤ a ∧ a ≤ 1000000) (hb : -1000000 ≤ b ∧ b ≤ 1000000) (h0 : P 0 σ H)
    (hs : ∀ i σ H, i < (a - b).toNat → P i σ H → g (.int (a - (i : Nat))) σ H (kBody t D (P (i + 1)))) (hd : ∀ σ H, P (a - b).toNat σ H → D.nx σ H) : kRg3 g t D σ [.int a, .int b, .int (-1)] H :=
  ⟨a, b, -1, _, rfl, RgC.neg (by omega) (by omega) (by omega) (by omega), for_rangeC P h0 (fun i σ H hi p => by
    have e : a + ((i : Nat) : Int) * (-1) = a - (i : Nat) := by omega
    rw [e]
    exact hs i σ H hi p) hd⟩
end
end TR

set_option Elab.async false
set_option linter.all false
set_option maxRecDepth 100000
set_option maxHeartbeats 4000000
/-! More rules (sums of any kind, list.count of truths), fields by places, data compared. -/
namespace TR
open PySem PySem.Spec PyProof.Rows L2

/-! ### fields by places -/
section
variable {nm : List Str} {vs : List V} {i : Nat} {f : Str} {v : V}
theorem look_zip : ∀ {nm : List Str} {vs : List V} {i : Nat} {f : Str} {v : V}, nm.Nodup → nm[i]? = some f → vs[i]? = some v → (nm.zip vs).lookup f = some v
  | [], _, _, _, _, _, h, _ => by simp at h
  | _ :: _, [], _, _, _, _, _, h => by simp at h
  | g :: nm, x :: vs, 0, f, v, nd, h1, h2 => by
    have e1 : g = f := Option.some.inj h1
    have e2 : x = v := Option.some.inj h2
    subst e1 e2
    show List.lookup g ((g, x) :: nm.zip vs) = some x
    rw [List.lookup_cons, beq_self_eq_true]
  | g :: nm, x :: vs, i + 1, f, v, nd, h1, h2 => by
    have ne : (f == g) = false := beq_eq_false_iff_ne.mpr fun e => (List.nodup_cons.mp nd).1 (by
      rw [← e]
      exact List.mem_of_getElem? (show nm[i]? = some f from by simpa using h1))
    show List.lookup f ((g, x) :: nm.zip vs) = some v
    rw [List.lookup_cons, ne]
    exact look_zip (i := i) (List.nodup_cons.mp nd).2 (by simpa using h1) (by simpa using h2)
theorem put_zip : ∀ {nm : List Str} {vs : List V} {i : Nat} {f : Str} {v : V}, nm.Nodup → nm[i]? = some f → i < vs.length → putF f v (nm.zip vs) = nm.zip (vs.set i v)
  | [], _, _, _, _, _, h, _ => by simp at h
  | _ :: _, [], _, _, _, _, _, h => by simp at h
  | g :: nm, x :: vs, 0, f, v, nd, h1, h2 => by
    have e1 : g = f := Option.some.inj h1
    subst e1
    show (if g = g then (g, v) :: nm.zip vs else _) = _
    rw [if_pos rfl] <;> rfl
  | g :: nm, x :: vs, i + 1, f, v, nd, h1, h2 => by
    have ne : ¬ g = f := fun e => (List.nodup_cons.mp nd).1 (by
      rw [e]
      exact List.mem_of_getElem? (show nm[i]? = some f from by simpa using h1))
    show (if g = f then (g, v) :: nm.zip vs else (g, x) :: putF f v (nm.zip vs)) = _
    rw [if_neg ne, put_zip (i := i) (List.nodup_cons.mp nd).2 (by simpa using h1) (by simpa using h2)] <;> rfl
theorem put_zip_new : ∀ {nm : List Str} {vs : List V} {f : Str} {v : V}, nm.Nodup → nm[vs.length]? = some f → putF f v (nm.zip vs) = nm.zip (vs ++ [v])
  | [], _, _, _, _, h => by simp at h
  | g :: nm, [], f, v, nd, h1 => by
    have e1 : g = f := Option.some.inj h1
    subst e1
    show [(g, v)] = _
    rw [List.nil_append, List.zip_cons_cons, List.zip_nil_right]
  | g :: nm, x :: vs, f, v, nd, h1 => by
    have h1' : nm[vs.length]? = some f := by simpa using h1
    have ne : ¬ g = f := fun e => (List.nodup_cons.mp nd).1 (by
      rw [e]
      exact List.mem_of_getElem? h1')
    show (if g = f then (g, v) :: nm.zip vs else (g, x) :: putF f v (nm.zip vs)) = _
    rw [if_neg ne, put_zip_new (List.nodup_cons.mp nd).2 h1'] <;> rfl
theorem len_zip (h : nm.length < 1000) : (nm.zip vs).length < 1000 := by
  rw [List.length_zip]
  omega
end

theorem getD_some {α : Type} {xs : List α} {i : Nat} {d : α} (h : i < xs.length) : xs[i]? = some (xs.getD i d) := by
  rw [List.getD_eq_getElem?_getD, List.getElem?_eq_getElem h] <;> rfl
/-! ### sums, products of any kind -/
section
variable {X : Cx} {K : PySem.W.Frag} {σ : L2.St} {H : Hp} {v x y : V} {Q : VK} {p q : Addr} {L R R' : List As}
def rAddS : R2 := fun x y H Q => ∃ i j, x = .str i ∧ y = .str j ∧ i.length + j.length ≤ sizeLine ∧ Q (.str (i ++ j)) H
theorem op_addS : OpR X (binaryOp .Add) rAddS := by
  intro pins s σ H x y v u Q I rx ry ⟨i, j, e1, e2, h, q⟩
  exact op_add_str pins s σ H x y v u Q I rx ry ⟨i, j, e1, e2, h, q⟩
def rAddA (K : PySem.W.Frag) : R2 := fun x y H Q => rI0 (fun i j => .int (i + j)) x y H Q ∨ (rCat x y H Q ∨ (rAddS x y H Q ∨ rCatT K x y H Q))
theorem op_addA : OpR X (binaryOp .Add) (rAddA X.K) := op_add.or (op_cat.or (op_addS.or op_catT))
theorem x_addI {i j : Int} (q : Q (.int (i + j)) H) : rAddA K (.int i) (.int j) H Q := .inl ⟨i, j, rfl, rfl, q⟩
theorem x_addS {i j : Str} (h : i.length + j.length ≤ sizeLine) (q : Q (.str (i ++ j)) H) : rAddA K (.str i) (.str j) H Q := .inr (.inr (.inl ⟨i, j, rfl, rfl, h, q⟩))
theorem x_cat {xs ys : List V} (hS : Sep L H) [a : At p L (.lst xs) R] [b : At q L (.lst ys) R'] (h : xs.length + ys.length ≤ sizeLine) (k : ∀ l H', Sep (pt l (.lst (xs ++ ys)) :: L) H' → Q (.ref l) H') : rAddA K (.ref p) (.ref q) H Q :=
  .inr (.inl ⟨p, q, xs, ys, rfl, rfl, hS.at_, Sep.at_ (q := b) hS, h, fun l hl => k l _ (Sep.new hl hS)⟩)
def rMulA : R2 := fun x y H Q => rI CMul (fun i j => .int (i * j)) x y H Q ∨ rRep x y H Q
theorem op_mulA : OpR X (binaryOp .Mult) rMulA := op_mul.or op_rep
theorem x_mulI {i j : Int} (c : CMul i j) (q : Q (.int (i * j)) H) : rMulA (.int i) (.int j) H Q := .inl ⟨i, j, rfl, rfl, c, q⟩
theorem x_mulL {xs : List V} {n : Nat} (hS : Sep L H) [a : At p L (.lst xs) R] (h0 : n ≤ 1000000) (h : xs.length * n ≤ sizeLine) (k : ∀ l H', Sep (pt l (.lst (List.replicate n xs).flatten) :: L) H' → Q (.ref l) H') : rMulA (.ref p) (.int (n : Nat)) H Q :=
  .inr ⟨p, (n : Nat), xs, rfl, rfl, hS.at_, by omega, by omega, by rw [Int.toNat_natCast]; exact h, fun l hl => by rw [Int.toNat_natCast]; exact k l _ (Sep.new hl hS)⟩
/-- a slice of a list, of a tuple -/
theorem sl_listA : SlR X (rSlL X.K) := sl_list
def kLr (Q : VK) : VK := fun x H => ∃ n, x = .int n ∧ (RgOk 0 n ∧ ∀ l, H l = none → Q (.ref l) (upd H l (.lst (rgV 0 n))))
theorem x_lrange1 {ta : TE} (q : ta σ H (kLr Q)) : tLstRg (tRg1 ta) σ H Q := q
theorem y_lrange1 {n : Int} (hS : Sep L H) (h0 : 0 ≤ n) (h1 : n ≤ 1000000) (q : ∀ l H', Sep (pt l (.lst (rgV 0 n)) :: L) H' → Q (.ref l) H') : kLr Q (.int n) H := ⟨n, rfl, .of_le (by omega) (by omega) (by omega) (by omega), fun l hl => q l _ (Sep.new hl hS)⟩
def kLr2b (i : V) (Q : VK) : VK := fun y H => ∃ a b, i = .int a ∧ y = .int b ∧ (RgOk a b ∧ ∀ l, H l = none → Q (.ref l) (upd H l (.lst (rgV a b))))
def kLr2 (tb : TE) (σ : L2.St) (Q : VK) : VK := fun x H => tb σ H (kLr2b x Q)
theorem x_lrange2 {ta tb : TE} (q : ta σ H (kLr2 tb σ Q)) : tLstRg (tRg2 ta tb) σ H Q := q
theorem y_lr2 {tb : TE} (q : tb σ H (kLr2b x Q)) : kLr2 tb σ Q x H := q
theorem y_lrange2 {a b : Int} (hS : Sep L H) (h : RgOk a b) (q : ∀ l H', Sep (pt l (.lst (rgV a b)) :: L) H' → Q (.ref l) H') : kLr2b (.int a) Q (.int b) H := ⟨a, b, rfl, rfl, h, fun l hl => q l _ (Sep.new hl hS)⟩
/-- how many truths -/
def eqb (k : Bool) (v : Value) : Bool := match v with
  | .bool b => b == k
  | _ => false
theorem vals_bl : ∀ {bs : List Bool} {us : List Value}, Vals (bs.map V.bl) us → (∀ y ∈ us, ∃ b, y = Value.bool b) ∧ ∀ k, us.countP (eqb k) = bs.count k
  | [], _, .nil => ⟨fun y hy => (by cases hy), fun k => rfl⟩
  | b :: bs, _, .cons r t => by
    obtain ⟨h1, h2⟩ := vals_bl (bs := bs) t
    cases r
    refine ⟨fun y hy => ?_, fun k => ?_⟩
    · rcases List.mem_cons.mp hy with e | e
      · exact ⟨b, e⟩
      · exact h1 y e
    · rw [List.countP_cons, List.count_cons, h2] <;> rfl
def rCntB (K : PySem.W.Frag) : V → List V → Hp → VK → Prop := fun x xs H Q => ∃ (p : Addr) (bs : List Bool) (k : Bool), x = .ref p ∧ xs = [.bl k] ∧ SqL K H p (bs.map V.bl) ∧ Q (.int (bs.count k : Nat)) H
theorem mt_countB : MtR X "list.count" (rCntB X.K) := by
  intro pins s σ H x xs v us Q I rx rxs h
  obtain ⟨p, bs, k, rfl, rfl, hs, q⟩ := h
  cases rx
  obtain ⟨u, rfl, ru⟩ := rxs.one
  cases ru
  obtain ⟨its, rv, ⟨⟨cls, dd, data, sl⟩, n, ho, hc, hdn, hd⟩, hlen⟩ := I.list hs
  simp only at hc hd
  subst hc hd
  obtain ⟨h1, h2⟩ := vals_bl rv
  refine call_meets PySem.F.slot_list_count ⟨_, ho, rfl⟩ PySem.F.entry_list_count (PySem.F.args_list_count_2 _ _)
    (SeqAt.list_countAt p its.toArray n dd sl (.bool k) (eqb k)) ⟨ho, fun y hy => ?_, ?_⟩
  · obtain ⟨b, rfl⟩ := h1 y (by simpa using hy)
    exact SeqAt.EqAt.bool_bool b k
  · have ec : its.toArray.toList.countP (eqb k) = bs.count k := h2 k
    refine ⟨.int (bs.count k : Nat), H, I.tok _, ⟨s.toks, ?_⟩, q⟩
    show Value.int ((its.toArray.toList.countP (eqb k) : Nat) : Int) s.toks = Value.int ((bs.count k : Nat) : Int) s.toks
    rw [ec]
end

/-! ### data -/
section
variable {K : PySem.W.Frag} {H : Hp} {a : Addr}
theorem dp_ints {ns : List Int} (h : SqL K H a (ns.map V.int)) : Dp K H (.ref a) (.list (ns.map PyData.int)) := .lst h (go ns)
where go : ∀ ns : List Int, DpAll K H (ns.map V.int) (ns.map PyData.int)
  | [] => .nil
  | n :: r => .cons (.int n) (go r)
theorem can_ints : ∀ ns : List Int, PyData.canLayAll0 (ns.map PyData.int) = true
  | [] => rfl
  | n :: r => by
    show (PyData.canLay0 (.int n) && PyData.canLayAll0 (r.map PyData.int)) = true
    rw [can_ints r] <;> rfl
theorem depth_ints : ∀ ns : List Int, PyData.depthAll (ns.map PyData.int) ≤ 1
  | [] => by decide
  | n :: r => by
    have h := depth_ints r
    show max (PyData.depth (.int n)) (PyData.depthAll (r.map PyData.int)) ≤ 1
    have e : PyData.depth (.int n) ≤ 1 := (by decide : (0 : Nat) ≤ 1)
    omega
end

/-! ### isinstance of a held error; list.count, list.index; sorted; comprehensions -/
section
variable {K : PySem.W.Frag} {σ : L2.St} {H : Hp} {v x y : V} {Q : VK} {p q : Addr} {L R R' : List As} {te : TE} {t : TS}
theorem x_isX {D C : Addr} {b : Bool} (hS : Sep L H) [a : At p L (ExA (.ref D) p) R] (hc : ExcC K D) (hk : PySem.W.kitOne K (.ref D) (.ref C) = some b) (q : Q (.bl b) H) : rIsX K [.ref p, .ref C] H Q :=
  ⟨p, D, .ref C, .ref C, b, rfl, hS.at_, hc, fun u r => r, hk, q⟩
theorem x_isXT {D : Addr} {C : String} {b : Bool} (hS : Sep L H) [a : At p L (ExA (.ref D) p) R] (hc : ExcC K D) (hk : PySem.W.kitOne K (.ref D) (.type C) = some b) (q : Q (.bl b) H) : rIsX K [.ref p, .ty C] H Q :=
  ⟨p, D, .ty C, .type C, b, rfl, hS.at_, hc, fun u r => r, hk, q⟩
theorem x_cntB {bs : List Bool} {k : Bool} (h : SqL K H p (bs.map V.bl)) (q : Q (.int (bs.count k : Nat)) H) : rCntB K (.ref p) [.bl k] H Q := ⟨p, bs, k, rfl, rfl, h, q⟩
theorem x_index {ys : List V} {j : Nat} {z : V} (h : SqL K H p ys) (hy : flatV y = true) (hf : ys.all flatV = true) (hj : ys[j]? = some z) (he : eqV z y = true) (hn : ∀ (m : Nat) (z' : V), m < j → ys[m]? = some z' → eqV z' y = false) (q : Q (.int (j : Nat)) H) : rIndex K (.ref p) [y] H Q :=
  ⟨p, ys, y, j, z, rfl, rfl, h, hy, hf, hj, he, hn, q⟩
theorem x_sorted {ns : List Int} (hS : Sep L H) (h : SqL K H p (ns.map V.int)) (hl : ns.length < 64) (q : ∀ (ns' : List Int) (l : Addr) (H' : Hp), ns'.Perm ns → ns'.Pairwise (· ≤ ·) → Sep (pt l (.lst (ns'.map V.int)) :: L) H' → Q (.ref l) H') : rSorted K [.ref p] H Q :=
  ⟨p, ns, rfl, h, hl, fun ns' l hp hs hl => q ns' l _ hp hs (Sep.new hl hS)⟩
/-- [e for x in a tuple]: P what holds behind i turns, the new list in it -/
def kLcT (K : PySem.W.Frag) (g : TG) (tt : TT) (te : TE) (vs : List Nat) (σ : L2.St) (Q : VK) : VK := fun x H => ∃ a, x = .ref a ∧ (∃ xs, SqT K H a xs) ∧ ∀ D, H D = none → ∃ W : Nat → Nat → Hp → Prop, (∃ m, W 0 m (upd H D (.lst []))) ∧ ∀ i m H, W i m H →
  ((Itt K a).stop i H ∧ Q (.ref D) H) ∨ ((Itt K a).go i H ∧ ∃ Nx : Hp → Prop, (∀ H', Nx H' → ∃ m', m' < m ∧ W (i + 1) m' H') ∧ ∀ x H', (Itt K a).yld i H x H' → g x (wipe σ vs) H' fun σ2 H2 => wipe σ2 vs = wipe σ vs ∧ tt σ2 H2 fun b H3 =>
    if b = true then te σ2 H3 fun y H4 => ∃ acc, H4 D = some (.lst acc) ∧ acc.length < sizeLine ∧ Nx (upd H4 D (.lst (acc ++ [y]))) else Nx H3)
def kLcL (K : PySem.W.Frag) (g : TG) (tt : TT) (te : TE) (vs : List Nat) (σ : L2.St) (Q : VK) : VK := fun x H => ∃ a, x = .ref a ∧ (∃ xs, SqL K H a xs) ∧ ∀ D, H D = none → ∃ W : Nat → Nat → Hp → Prop, (∃ m, W 0 m (upd H D (.lst []))) ∧ ∀ i m H, W i m H →
  ((Itl K a).stop i H ∧ Q (.ref D) H) ∨ ((Itl K a).go i H ∧ ∃ Nx : Hp → Prop, (∀ H', Nx H' → ∃ m', m' < m ∧ W (i + 1) m' H') ∧ ∀ x H', (Itl K a).yld i H x H' → g x (wipe σ vs) H' fun σ2 H2 => wipe σ2 vs = wipe σ vs ∧ tt σ2 H2 fun b H3 =>
    if b = true then te σ2 H3 fun y H4 => ∃ acc, H4 D = some (.lst acc) ∧ acc.length < sizeLine ∧ Nx (upd H4 D (.lst (acc ++ [y]))) else Nx H3)
theorem x_lcT {tl : TE} {g : TG} {tt : TT} {vs : List Nat} (q : tl σ H (kLcT K g tt te vs σ Q)) : tLc (iTup K tl) g tt te vs σ H Q := q
theorem x_lcL {tl : TE} {g : TG} {tt : TT} {vs : List Nat} (q : tl σ H (kLcL K g tt te vs σ Q)) : tLc (iList K tl) g tt te vs σ H Q := q
/-- the element's value y goes behind the list so far -/
def kEl (D : Addr) (N : Hp → Prop) : VK := fun y H => ∃ acc, H D = some (.lst acc) ∧ acc.length < sizeLine ∧ N (upd H D (.lst (acc ++ [y])))
def kTt (te : TE) (σ : L2.St) (D : Addr) (N : Hp → Prop) : Bool → Hp → Prop := fun b H => if b = true then te σ H (kEl D N) else N H
def kLcb (tt : TT) (te : TE) (D : Addr) (σ : L2.St) (vs : List Nat) (N : Hp → Prop) : L2.St → Hp → Prop := fun σ2 H => wipe σ2 vs = wipe σ vs ∧ tt σ2 H (kTt te σ2 D N)
theorem y_el {D : Addr} {acc : List V} {N : Hp → Prop} (hS : Sep L H) [a : At D L (.lst acc) R] (hl : acc.length ≤ 1000000) (q : ∀ H', Sep (pt D (.lst (acc ++ [y])) :: R) H' → N H') : kEl D N y H :=
  ⟨acc, hS.at_, Nat.lt_of_le_of_lt hl (by decide), q _ (Sep.put (o := .lst acc) (fun z => z) (a.en H hS))⟩
theorem y_tt {D : Addr} {N : Hp → Prop} {b : Bool} (q : if b = true then te σ H (kEl D N) else N H) : kTt te σ D N b H := q
theorem y_lcb {tt : TT} {D : Addr} {σ2 : L2.St} {vs : List Nat} {N : Hp → Prop} (hw : wipe σ2 vs = wipe σ vs) (q : tt σ2 H (kTt te σ2 D N)) : kLcb tt te D σ vs N σ2 H := ⟨hw, q⟩
theorem x_yes' {QT : Bool → Hp → Prop} (q : QT true H) : tYes σ H QT := q
theorem y_lcT {g : TG} {tt : TT} {vs : List Nat} {xs : List V} (hx : SqT K H p xs) (hS : Sep L H) (P : Addr → Nat → Hp → Prop) (h0 : ∀ D H', Sep (pt D (.lst []) :: L) H' → P D 0 H') (hl : ∀ D i H, i ≤ xs.length → P D i H → SqT K H p xs)
    (hs : ∀ D i x H, xs[i]? = some x → P D i H → g x (wipe σ vs) H (kLcb tt te D σ vs (P D (i + 1)))) (hd : ∀ D H, P D xs.length H → Q (.ref D) H) : kLcT K g tt te vs σ Q (.ref p) H :=
  ⟨p, rfl, ⟨xs, hx⟩, fun D hD => lc_tup (P D) (h0 D _ (Sep.new hD hS)) (hl D) (hs D) (hd D)⟩
theorem y_lcL {g : TG} {tt : TT} {vs : List Nat} {xs : List V} (hx : SqL K H p xs) (hS : Sep L H) (P : Addr → Nat → Hp → Prop) (h0 : ∀ D H', Sep (pt D (.lst []) :: L) H' → P D 0 H') (hl : ∀ D i H, i ≤ xs.length → P D i H → SqL K H p xs)
    (hs : ∀ D i x H, xs[i]? = some x → P D i H → g x (wipe σ vs) H (kLcb tt te D σ vs (P D (i + 1)))) (hd : ∀ D H, P D xs.length H → Q (.ref D) H) : kLcL K g tt te vs σ Q (.ref p) H :=
  ⟨p, rfl, ⟨xs, hx⟩, fun D hD => lc_list (P D) (h0 D _ (Sep.new hD hS)) (hl D) (hs D) (hd D)⟩
theorem x_try {X : Cx} {c : Value} {i : Nat} {ts : Addr → List (Addr × Obj) → TS} {Wout : WX} {tb : ∀ (W : WX) (pn : List (Addr × Obj)) (xe : Value → Shared → Prop), Takes (X.tr pn xe) W → PassesOwn (model X.prog X.w) X.A X.env xe → TS} {D : Ends}
    (q : ∀ pn xe (tk : Takes (X.tr pn xe) (wHold X.K c i ts Wout D)) (po : PassesOwn (model X.prog X.w) X.A X.env xe), tb (wHold X.K c i ts Wout D) pn xe tk po D σ H) : tTry X c i ts Wout tb D σ H := q
/-- the error is caught, and held by a name -/
theorem y_hold {c cls : Value} {i j : Nat} {D : Ends} {Wout : WX} (hx : PySem.W.exmOne K cls c = some true) (hi : ∀ a, (σ.set i (some (.ref a)))[i]? = some (some (.ref a))) (hS : Sep L H)
    (q : ∀ a H', Sep (pt a (ExA cls a) :: L) H' → D.nx (((σ.set i (some (.ref a))).set j (some (.ref a))).set i none) H') : WE (wHold K c i (fun a pn => tAsg (tVar i) (gName j)) Wout D) σ cls none H :=
  ⟨true, hx, fun _ => ⟨rfl, fun a pn na => ⟨.ref a, hi a, na, q a _ (Sep.new na hS)⟩⟩, fun z => Bool.noConfusion z⟩
end

/-! ### more of data -/
section
variable {K : PySem.W.Frag} {H : Hp} {a : Addr}
theorem shaped_ints (ns : List Int) : SeqAt.shaped (.list (ns.map PyData.int)) = true := by
  have h := depth_ints ns
  have e : PyData.depth (.list (ns.map PyData.int)) ≤ 64 := by
    show PyData.depthAll (ns.map PyData.int) + 1 ≤ 64
    omega
  show (PyData.canLayAll0 (ns.map PyData.int) && decide (PyData.depth (.list (ns.map PyData.int)) ≤ 64)) = true
  rw [can_ints, decide_eq_true e] <;> rfl
theorem eqv_of {d : PyData} (h : SeqAt.shaped d = true) : PyData.eqv d d = true := SeqAt.eqv_refl d (SeqAt.canLay_of_shaped h)
theorem pick_int {P : Int → Prop} {is : List Int} (h : ∀ z ∈ is, P z) {i : Nat} (hi : i < is.length) : ∃ z, P z ∧ z ∈ is ∧ (is.map V.int).getD i .non = .int z := by
  refine ⟨is[i], h _ (List.getElem_mem hi), List.getElem_mem hi, ?_⟩
  rw [List.getD_eq_getElem?_getD, List.getElem?_map, List.getElem?_eq_getElem hi] <;> rfl
/-- an arrangement of ints is a list of ints -/
def unint : V → Int
  | .int i => i
  | _ => 0
theorem perm_ints {xs : List V} {is : List Int} (h : xs.Perm (is.map V.int)) : ∃ js : List Int, xs = js.map V.int ∧ js.Perm is := by
  refine ⟨xs.map unint, ?_, ?_⟩
  · rw [List.map_map]
    have e : ∀ v ∈ xs, (V.int ∘ unint) v = v := fun v hv => by
      obtain ⟨i, _, rfl⟩ := List.mem_map.mp (h.mem_iff.mp hv)
      rfl
    exact (List.map_id' xs).symm.trans (List.map_congr_left fun v hv => (e v hv).symm)
  · have h2 := h.map unint
    rw [List.map_map] at h2
    have e : (unint ∘ V.int) = id := rfl
    rw [e, List.map_id] at h2
    exact h2
end
end TR

set_option Elab.async false
set_option linter.all false
set_option maxRecDepth 100000
set_option maxHeartbeats 4000000
/-! The end: from a def's promise to the row. -/
namespace TR
open PySem PySem.Spec PyProof.Rows L2
def CXall : CXT := fun outer H s E u s' => ∃ P w, L2.CX P w outer H s E u s'
theorem fn_all {P : Program} {w : World} {K : PySem.W.Frag} {mg : Str → Option Value} {base : Heap} {k : Nat} {f : Addr} {fd : FuncData} {ps : List Str} {sp : Sp} (F : FnOk P w K mg base (L2.CX P w) k f fd ps sp) : FnOk P w K mg base CXall k f fd ps sp :=
  ⟨F.len, fun A outer s H args us vs Q E hr e0 hb r hsp => codeAny_mono (F.run A outer s H args us vs Q E hr e0 hb r hsp) fun r s' hq => by
    cases r with
    | ok fl =>
      cases fl with
      | ret u => exact hq
      | next => exact False.elim hq
      | brk => exact False.elim hq
      | cont => exact False.elim hq
    | error e => exact ⟨P, w, hq⟩⟩
theorem cxall_no : ∀ (H : Hp) (s : Shared) (e : Value) (s' : Shared), CXall [] H s (fun _ _ _ => False) e s' → False := fun _ _ _ _ ⟨_, _, _, _, _, _, _, _, _, _, _, _, _, _, h⟩ => h
end TR

set_option Elab.async false
set_option linter.all false
set_option maxRecDepth 100000
set_option maxHeartbeats 0
/-! The text by places, the head. -/
namespace TR
open PySem PySem.Spec PyProof.Rows L2
def top (i : Nat) : Stmt := PySem.Challenge.pw_tuneroad_k02_whole_dice.main.body.getD i (.Pass ⟨0, 0, 0, 0⟩)
abbrev s_Dice_init : Stmt := inClass (top 12) 0
abbrev s_Dice_below : Stmt := inClass (top 12) 1
abbrev s_mixed : Stmt := top 13
abbrev s_l_cell : Stmt := top 15
abbrev s_l_mix : Stmt := top 16
abbrev s_l_draw : Stmt := top 17
abbrev s_l_pick : Stmt := top 18
abbrev s_l_refusal : Stmt := top 19
abbrev s_l_below : Stmt := top 20
abbrev s_l_mixed : Stmt := top 21
abbrev s_l_told : Stmt := top 22
abbrev s_law : Stmt := top 23
def d_Dice_init : He.DefD := ⟨("Dice", some "__init__"), "__init__", "Dice.__init__", defArgs s_Dice_init, defBody s_Dice_init, defScope s_Dice_init, [], []⟩
def d_Dice_below : He.DefD := ⟨("Dice", some "below"), "below", "Dice.below", defArgs s_Dice_below, defBody s_Dice_below, defScope s_Dice_below, [], []⟩
def d_mixed : He.DefD := ⟨("mixed", none), "mixed", "mixed", defArgs s_mixed, defBody s_mixed, defScope s_mixed, [], []⟩
def d_l_cell : He.DefD := ⟨("_law_cell", none), "_law_cell", "_law_cell", defArgs s_l_cell, defBody s_l_cell, defScope s_l_cell, [], []⟩
def d_l_mix : He.DefD := ⟨("_law_mix", none), "_law_mix", "_law_mix", defArgs s_l_mix, defBody s_l_mix, defScope s_l_mix, [], []⟩
def d_l_draw : He.DefD := ⟨("_law_draw", none), "_law_draw", "_law_draw", defArgs s_l_draw, defBody s_l_draw, defScope s_l_draw, [], []⟩
def d_l_pick : He.DefD := ⟨("_law_pick", none), "_law_pick", "_law_pick", defArgs s_l_pick, defBody s_l_pick, defScope s_l_pick, [], []⟩
def d_l_refusal : He.DefD := ⟨("_law_refusal", none), "_law_refusal", "_law_refusal", defArgs s_l_refusal, defBody s_l_refusal, defScope s_l_refusal, [], []⟩
def d_l_below : He.DefD := ⟨("_law_below", none), "_law_below", "_law_below", defArgs s_l_below, defBody s_l_below, defScope s_l_below, [], []⟩
def d_l_mixed : He.DefD := ⟨("_law_mixed", none), "_law_mixed", "_law_mixed", defArgs s_l_mixed, defBody s_l_mixed, defScope s_l_mixed, [], []⟩
def d_l_told : He.DefD := ⟨("_law_told", none), "_law_told", "_law_told", defArgs s_l_told, defBody s_l_told, defScope s_l_told, [], []⟩
def d_law : He.DefD := ⟨("law", none), "law", "law", defArgs s_law, defBody s_law, defScope s_law, [], []⟩
def fn : List He.DefD := ([d_Dice_init, d_Dice_below, d_mixed, d_l_cell, d_l_mix, d_l_draw, d_l_pick, d_l_refusal, d_l_below, d_l_mixed, d_l_told, d_law] : List He.DefD)
def fa : List He.Fa := (([.glo "RoadError", .exc "RoadError", .glo "BadTune", .exc "BadTune", .glo "BadNumber", .exc "BadNumber", .glo "BadEntry", .exc "BadEntry", .glo "BadWord", .exc "BadWord", .glo "Dice", .cls "Dice", .mkr "Dice", .noat "Dice" "number", .meth "Dice" "below", .exm "RoadError" "RoadError" true, .exm "BadTune" "RoadError" true, .exm "BadNumber" "RoadError" true, .exm "BadEntry" "RoadError" true, .exm "BadWord" "RoadError" true] : List He.Fa) ++ ([.glo "mixed", .glo "_law_cell", .glo "_law_mix", .glo "_law_draw", .glo "_law_pick", .glo "_law_refusal", .glo "_law_below", .glo "_law_mixed", .glo "_law_told", .glo "law", .int "WHEEL" 6075, .int "TIMES" 106, .int "MORE" 1283, .int "MOST" 60, .free "len", .free "range", .free "list", .free "sorted", .free "isinstance", .free "ValueError"] : List He.Fa))
def exs : List (PySem.W.Frag → Bool) := (([fun K => true, fun K => excB K "RoadError", fun K => excB K "BadTune", fun K => excB K "BadNumber", fun K => excB K "BadEntry", fun K => excB K "BadWord", fun K => kitB2 K "BadTune" "BadTune" true, fun K => kitB2 K "BadTune" "BadNumber" false, fun K => kitB2 K "BadTune" "BadEntry" false, fun K => kitB2 K "BadTune" "BadWord" false, fun K => kitV K "BadTune" "ValueError" true, fun K => kitB2 K "BadNumber" "BadTune" false, fun K => kitB2 K "BadNumber" "BadNumber" true, fun K => kitB2 K "BadNumber" "BadEntry" false, fun K => kitB2 K "BadNumber" "BadWord" false, fun K => kitV K "BadNumber" "ValueError" true, fun K => kitB2 K "BadEntry" "BadTune" false, fun K => kitB2 K "BadEntry" "BadNumber" false, fun K => kitB2 K "BadEntry" "BadEntry" true, fun K => kitB2 K "BadEntry" "BadWord" false] : List (PySem.W.Frag → Bool)) ++ ([fun K => kitV K "BadEntry" "ValueError" true, fun K => kitB2 K "BadWord" "BadTune" false, fun K => kitB2 K "BadWord" "BadNumber" false, fun K => kitB2 K "BadWord" "BadEntry" false, fun K => kitB2 K "BadWord" "BadWord" true, fun K => kitV K "BadWord" "ValueError" true] : List (PySem.W.Frag → Bool)))
abbrev R : PySem.W.OpenRow := PySem.W.OpenLaw.row PySem.Challenge.rw_tuneroad_k02_whole_dice
def loose : List Str := ((["_wall", "__name__", "RoadError", "BadTune", "BadNumber", "BadEntry", "BadWord", "WHEEL", "TIMES", "MORE", "MOST", "Dice", "mixed", "_law_cell", "_law_mix", "_law_draw", "_law_pick", "_law_refusal", "_law_below", "_law_mixed"] : List Str) ++ (["_law_told"] : List Str))
def ilaw : Nat := 23
def steps : Nat := 2000
def objs : Nat := 200
abbrev hk : PySem.W.Hook := hookY objs fa fn exs
def ob (s : PySem.W.SharedT) : AlY := obsYG objs fa fn exs s.n (HandSHeadRun.getT s)
theorem ob_eq (s : PySem.W.SharedT) : ob s = hk.obs s.abs := obsYG_eq (sizeT s) (HandSHeadRun.getT_eq s)
noncomputable section
open HandSHeadRun PySem.W PySem.Calls
abbrev qV : Program := PySem.W.view R.prog [ilaw]
abbrev seenV (s : SharedT) := seenQ qV loose (importedModules R.prog.main.body) (fun s => xlAt qV [] s && recOk R.toRowW.records s) s.abs
abbrev endV (w : World) (os : OsState) : Option SharedT := endF (stepQ (denQ tabQ) R.prog w) steps R.prog w os
theorem run1 (w : World) (os : OsState) : (endV w os).map (fun s => looksF R.prog (boot_heap w.params) s.abs) = some true := by kernel_rfl
theorem run2 (w : World) (os : OsState) : (endV w os).map (fun s => (seenV s).1) = some (openGood qV loose).1 := by kernel_rfl
theorem run3 (w : World) (os : OsState) : (endV w os).map (fun s => (seenV s).2.1) = some (openGood qV loose).2.1 := by kernel_rfl
theorem run4 (w : World) (os : OsState) : (endV w os).map (fun s => (seenV s).2.2.1) = some (openGood qV loose).2.2.1 := by kernel_rfl
theorem run5 (w : World) (os : OsState) : (endV w os).map (fun s => (seenV s).2.2.2) = some (openGood qV loose).2.2.2 := by kernel_rfl
theorem run6 (w : World) (os : OsState) : (endV w os).map (fun s => (ob s).1.1) = some true := by kernel_rfl
theorem run7 (w : World) (os : OsState) : (endV w os).map (fun s => (ob s).1.2) = some (fn.map He.DefD.val) := by kernel_rfl
theorem run8 (w : World) (os : OsState) : (endV w os).map (fun s => (ob s).2) = some true := by kernel_rfl
theorem run (w : World) : RunEq R qV hk ob steps loose w := fun os =>
  run_parts (run1 w os) (run_pair (run2 w os) (run_pair (run3 w os) (run_pair (run4 w os) (run5 w os)))) (run_pair (b := hk.val w) (run_pair (b := (hk.val w).1) (run6 w os) (run7 w os)) (run8 w os))
end
end TR

set_option Elab.async false
set_option linter.all false
set_option maxRecDepth 100000
set_option maxHeartbeats 4000000
/-! The facts, the fields. -/
namespace TR
open PySem PySem.Spec PyProof.Rows L2
class Top (K : PySem.W.Frag) (mg : outParam (Str → Option Value)) : Prop where
  s : Says fa fn exs K
  g : ∃ h : Heap, K.In h ∧ h.Ns mainGlobals mg
section
variable {K : PySem.W.Frag} {mg : Str → Option Value}
theorem gl_RoadError (T : Top K mg) : mg "RoadError" = some (.ref (He.ga K "RoadError")) := let ⟨_, X, G⟩ := T.g; He.glo_ok X G (T.s.fact 0 (f := .glo "RoadError"))
theorem xc_RoadError (T : Top K mg) : PySem.W.excIn K (He.ga K "RoadError") He.veBase "ValueError.__new__" = true ∧ PySem.W.keepIn K (.ref (He.ga K "RoadError")) = true ∧ PySem.W.subIn K (.ref (He.ga K "RoadError")) (.type "BaseException") = some true ∧ PySem.W.typeIn K (.ref (He.ga K "RoadError")) = some (.type "type") := He.exc_ok (T.s.fact 1 (f := .exc "RoadError"))
theorem gl_BadTune (T : Top K mg) : mg "BadTune" = some (.ref (He.ga K "BadTune")) := let ⟨_, X, G⟩ := T.g; He.glo_ok X G (T.s.fact 2 (f := .glo "BadTune"))
theorem xc_BadTune (T : Top K mg) : PySem.W.excIn K (He.ga K "BadTune") He.veBase "ValueError.__new__" = true ∧ PySem.W.keepIn K (.ref (He.ga K "BadTune")) = true ∧ PySem.W.subIn K (.ref (He.ga K "BadTune")) (.type "BaseException") = some true ∧ PySem.W.typeIn K (.ref (He.ga K "BadTune")) = some (.type "type") := He.exc_ok (T.s.fact 3 (f := .exc "BadTune"))
theorem gl_BadNumber (T : Top K mg) : mg "BadNumber" = some (.ref (He.ga K "BadNumber")) := let ⟨_, X, G⟩ := T.g; He.glo_ok X G (T.s.fact 4 (f := .glo "BadNumber"))
theorem xc_BadNumber (T : Top K mg) : PySem.W.excIn K (He.ga K "BadNumber") He.veBase "ValueError.__new__" = true ∧ PySem.W.keepIn K (.ref (He.ga K "BadNumber")) = true ∧ PySem.W.subIn K (.ref (He.ga K "BadNumber")) (.type "BaseException") = some true ∧ PySem.W.typeIn K (.ref (He.ga K "BadNumber")) = some (.type "type") := He.exc_ok (T.s.fact 5 (f := .exc "BadNumber"))
theorem gl_BadEntry (T : Top K mg) : mg "BadEntry" = some (.ref (He.ga K "BadEntry")) := let ⟨_, X, G⟩ := T.g; He.glo_ok X G (T.s.fact 6 (f := .glo "BadEntry"))
theorem xc_BadEntry (T : Top K mg) : PySem.W.excIn K (He.ga K "BadEntry") He.veBase "ValueError.__new__" = true ∧ PySem.W.keepIn K (.ref (He.ga K "BadEntry")) = true ∧ PySem.W.subIn K (.ref (He.ga K "BadEntry")) (.type "BaseException") = some true ∧ PySem.W.typeIn K (.ref (He.ga K "BadEntry")) = some (.type "type") := He.exc_ok (T.s.fact 7 (f := .exc "BadEntry"))
theorem gl_BadWord (T : Top K mg) : mg "BadWord" = some (.ref (He.ga K "BadWord")) := let ⟨_, X, G⟩ := T.g; He.glo_ok X G (T.s.fact 8 (f := .glo "BadWord"))
theorem xc_BadWord (T : Top K mg) : PySem.W.excIn K (He.ga K "BadWord") He.veBase "ValueError.__new__" = true ∧ PySem.W.keepIn K (.ref (He.ga K "BadWord")) = true ∧ PySem.W.subIn K (.ref (He.ga K "BadWord")) (.type "BaseException") = some true ∧ PySem.W.typeIn K (.ref (He.ga K "BadWord")) = some (.type "type") := He.exc_ok (T.s.fact 9 (f := .exc "BadWord"))
theorem gl_Dice (T : Top K mg) : mg "Dice" = some (.ref (He.ga K "Dice")) := let ⟨_, X, G⟩ := T.g; He.glo_ok X G (T.s.fact 10 (f := .glo "Dice"))
theorem cl_Dice (T : Top K mg) : Cls K (He.ga K "Dice") := He.cls_ok (T.s.fact 11 (f := .cls "Dice"))
theorem mk_Dice (T : Top K mg) : Mk K (He.ga K "Dice") (He.ma K (He.ga K "Dice") "__init__") := He.mkr_ok (T.s.fact 12 (f := .mkr "Dice"))
theorem na_Dice_number (T : Top K mg) : NoAttr K (He.ga K "Dice") "number" := He.noat_ok (T.s.fact 13 (f := .noat "Dice" "number"))
theorem me_Dice_below (T : Top K mg) : Meth K (He.ga K "Dice") "below" (He.ma K (He.ga K "Dice") "below") := He.meth_ok (T.s.fact 14 (f := .meth "Dice" "below"))
theorem xm_RoadError_RoadError (T : Top K mg) : PySem.W.exmOne K (.ref (He.ga K "RoadError")) (.ref (He.ga K "RoadError")) = some true := He.exm_ok (T.s.fact 15 (f := .exm "RoadError" "RoadError" true))
theorem xm_BadTune_RoadError (T : Top K mg) : PySem.W.exmOne K (.ref (He.ga K "BadTune")) (.ref (He.ga K "RoadError")) = some true := He.exm_ok (T.s.fact 16 (f := .exm "BadTune" "RoadError" true))
theorem xm_BadNumber_RoadError (T : Top K mg) : PySem.W.exmOne K (.ref (He.ga K "BadNumber")) (.ref (He.ga K "RoadError")) = some true := He.exm_ok (T.s.fact 17 (f := .exm "BadNumber" "RoadError" true))
theorem xm_BadEntry_RoadError (T : Top K mg) : PySem.W.exmOne K (.ref (He.ga K "BadEntry")) (.ref (He.ga K "RoadError")) = some true := He.exm_ok (T.s.fact 18 (f := .exm "BadEntry" "RoadError" true))
theorem xm_BadWord_RoadError (T : Top K mg) : PySem.W.exmOne K (.ref (He.ga K "BadWord")) (.ref (He.ga K "RoadError")) = some true := He.exm_ok (T.s.fact 19 (f := .exm "BadWord" "RoadError" true))
theorem gl_mixed (T : Top K mg) : mg "mixed" = some (.ref (He.ga K "mixed")) := let ⟨_, X, G⟩ := T.g; He.glo_ok X G (T.s.fact 20 (f := .glo "mixed"))
theorem gl__law_cell (T : Top K mg) : mg "_law_cell" = some (.ref (He.ga K "_law_cell")) := let ⟨_, X, G⟩ := T.g; He.glo_ok X G (T.s.fact 21 (f := .glo "_law_cell"))
theorem gl__law_mix (T : Top K mg) : mg "_law_mix" = some (.ref (He.ga K "_law_mix")) := let ⟨_, X, G⟩ := T.g; He.glo_ok X G (T.s.fact 22 (f := .glo "_law_mix"))
theorem gl__law_draw (T : Top K mg) : mg "_law_draw" = some (.ref (He.ga K "_law_draw")) := let ⟨_, X, G⟩ := T.g; He.glo_ok X G (T.s.fact 23 (f := .glo "_law_draw"))
theorem gl__law_pick (T : Top K mg) : mg "_law_pick" = some (.ref (He.ga K "_law_pick")) := let ⟨_, X, G⟩ := T.g; He.glo_ok X G (T.s.fact 24 (f := .glo "_law_pick"))
theorem gl__law_refusal (T : Top K mg) : mg "_law_refusal" = some (.ref (He.ga K "_law_refusal")) := let ⟨_, X, G⟩ := T.g; He.glo_ok X G (T.s.fact 25 (f := .glo "_law_refusal"))
theorem gl__law_below (T : Top K mg) : mg "_law_below" = some (.ref (He.ga K "_law_below")) := let ⟨_, X, G⟩ := T.g; He.glo_ok X G (T.s.fact 26 (f := .glo "_law_below"))
theorem gl__law_mixed (T : Top K mg) : mg "_law_mixed" = some (.ref (He.ga K "_law_mixed")) := let ⟨_, X, G⟩ := T.g; He.glo_ok X G (T.s.fact 27 (f := .glo "_law_mixed"))
theorem gl__law_told (T : Top K mg) : mg "_law_told" = some (.ref (He.ga K "_law_told")) := let ⟨_, X, G⟩ := T.g; He.glo_ok X G (T.s.fact 28 (f := .glo "_law_told"))
theorem gl_law (T : Top K mg) : mg "law" = some (.ref (He.ga K "law")) := let ⟨_, X, G⟩ := T.g; He.glo_ok X G (T.s.fact 29 (f := .glo "law"))
theorem gi_WHEEL (T : Top K mg) : ∃ t, mg "WHEEL" = some (.int 6075 t) := let ⟨_, X, G⟩ := T.g; He.int_ok X G (T.s.fact 30 (f := .int "WHEEL" 6075))
theorem gi_TIMES (T : Top K mg) : ∃ t, mg "TIMES" = some (.int 106 t) := let ⟨_, X, G⟩ := T.g; He.int_ok X G (T.s.fact 31 (f := .int "TIMES" 106))
theorem gi_MORE (T : Top K mg) : ∃ t, mg "MORE" = some (.int 1283 t) := let ⟨_, X, G⟩ := T.g; He.int_ok X G (T.s.fact 32 (f := .int "MORE" 1283))
theorem gi_MOST (T : Top K mg) : ∃ t, mg "MOST" = some (.int 60 t) := let ⟨_, X, G⟩ := T.g; He.int_ok X G (T.s.fact 33 (f := .int "MOST" 60))
theorem fr_len (T : Top K mg) : mg "len" = none := let ⟨_, X, G⟩ := T.g; He.free_ok X G (T.s.fact 34 (f := .free "len"))
theorem fr_range (T : Top K mg) : mg "range" = none := let ⟨_, X, G⟩ := T.g; He.free_ok X G (T.s.fact 35 (f := .free "range"))
theorem fr_list (T : Top K mg) : mg "list" = none := let ⟨_, X, G⟩ := T.g; He.free_ok X G (T.s.fact 36 (f := .free "list"))
theorem fr_sorted (T : Top K mg) : mg "sorted" = none := let ⟨_, X, G⟩ := T.g; He.free_ok X G (T.s.fact 37 (f := .free "sorted"))
theorem fr_isinstance (T : Top K mg) : mg "isinstance" = none := let ⟨_, X, G⟩ := T.g; He.free_ok X G (T.s.fact 38 (f := .free "isinstance"))
theorem fr_ValueError (T : Top K mg) : mg "ValueError" = none := let ⟨_, X, G⟩ := T.g; He.free_ok X G (T.s.fact 39 (f := .free "ValueError"))
theorem xb_RoadError (T : Top K mg) : ExcC K (He.ga K "RoadError") := excB_ok (T.s.more 1 (f := fun K => excB K "RoadError"))
theorem xb_BadTune (T : Top K mg) : ExcC K (He.ga K "BadTune") := excB_ok (T.s.more 2 (f := fun K => excB K "BadTune"))
theorem xb_BadNumber (T : Top K mg) : ExcC K (He.ga K "BadNumber") := excB_ok (T.s.more 3 (f := fun K => excB K "BadNumber"))
theorem xb_BadEntry (T : Top K mg) : ExcC K (He.ga K "BadEntry") := excB_ok (T.s.more 4 (f := fun K => excB K "BadEntry"))
theorem xb_BadWord (T : Top K mg) : ExcC K (He.ga K "BadWord") := excB_ok (T.s.more 5 (f := fun K => excB K "BadWord"))
theorem ki_BadTune_BadTune (T : Top K mg) : PySem.W.kitOne K (.ref (He.ga K "BadTune")) (.ref (He.ga K "BadTune")) = some true := kitB2_ok (T.s.more 6 (f := fun K => kitB2 K "BadTune" "BadTune" true))
theorem ki_BadTune_BadNumber (T : Top K mg) : PySem.W.kitOne K (.ref (He.ga K "BadTune")) (.ref (He.ga K "BadNumber")) = some false := kitB2_ok (T.s.more 7 (f := fun K => kitB2 K "BadTune" "BadNumber" false))
theorem ki_BadTune_BadEntry (T : Top K mg) : PySem.W.kitOne K (.ref (He.ga K "BadTune")) (.ref (He.ga K "BadEntry")) = some false := kitB2_ok (T.s.more 8 (f := fun K => kitB2 K "BadTune" "BadEntry" false))
theorem ki_BadTune_BadWord (T : Top K mg) : PySem.W.kitOne K (.ref (He.ga K "BadTune")) (.ref (He.ga K "BadWord")) = some false := kitB2_ok (T.s.more 9 (f := fun K => kitB2 K "BadTune" "BadWord" false))
theorem ki_BadTune_ValueError (T : Top K mg) : PySem.W.kitOne K (.ref (He.ga K "BadTune")) (.type "ValueError") = some true := kitV_ok (T.s.more 10 (f := fun K => kitV K "BadTune" "ValueError" true))
theorem ki_BadNumber_BadTune (T : Top K mg) : PySem.W.kitOne K (.ref (He.ga K "BadNumber")) (.ref (He.ga K "BadTune")) = some false := kitB2_ok (T.s.more 11 (f := fun K => kitB2 K "BadNumber" "BadTune" false))
theorem ki_BadNumber_BadNumber (T : Top K mg) : PySem.W.kitOne K (.ref (He.ga K "BadNumber")) (.ref (He.ga K "BadNumber")) = some true := kitB2_ok (T.s.more 12 (f := fun K => kitB2 K "BadNumber" "BadNumber" true))
theorem ki_BadNumber_BadEntry (T : Top K mg) : PySem.W.kitOne K (.ref (He.ga K "BadNumber")) (.ref (He.ga K "BadEntry")) = some false := kitB2_ok (T.s.more 13 (f := fun K => kitB2 K "BadNumber" "BadEntry" false))
theorem ki_BadNumber_BadWord (T : Top K mg) : PySem.W.kitOne K (.ref (He.ga K "BadNumber")) (.ref (He.ga K "BadWord")) = some false := kitB2_ok (T.s.more 14 (f := fun K => kitB2 K "BadNumber" "BadWord" false))
theorem ki_BadNumber_ValueError (T : Top K mg) : PySem.W.kitOne K (.ref (He.ga K "BadNumber")) (.type "ValueError") = some true := kitV_ok (T.s.more 15 (f := fun K => kitV K "BadNumber" "ValueError" true))
theorem ki_BadEntry_BadTune (T : Top K mg) : PySem.W.kitOne K (.ref (He.ga K "BadEntry")) (.ref (He.ga K "BadTune")) = some false := kitB2_ok (T.s.more 16 (f := fun K => kitB2 K "BadEntry" "BadTune" false))
theorem ki_BadEntry_BadNumber (T : Top K mg) : PySem.W.kitOne K (.ref (He.ga K "BadEntry")) (.ref (He.ga K "BadNumber")) = some false := kitB2_ok (T.s.more 17 (f := fun K => kitB2 K "BadEntry" "BadNumber" false))
theorem ki_BadEntry_BadEntry (T : Top K mg) : PySem.W.kitOne K (.ref (He.ga K "BadEntry")) (.ref (He.ga K "BadEntry")) = some true := kitB2_ok (T.s.more 18 (f := fun K => kitB2 K "BadEntry" "BadEntry" true))
theorem ki_BadEntry_BadWord (T : Top K mg) : PySem.W.kitOne K (.ref (He.ga K "BadEntry")) (.ref (He.ga K "BadWord")) = some false := kitB2_ok (T.s.more 19 (f := fun K => kitB2 K "BadEntry" "BadWord" false))
theorem ki_BadEntry_ValueError (T : Top K mg) : PySem.W.kitOne K (.ref (He.ga K "BadEntry")) (.type "ValueError") = some true := kitV_ok (T.s.more 20 (f := fun K => kitV K "BadEntry" "ValueError" true))
theorem ki_BadWord_BadTune (T : Top K mg) : PySem.W.kitOne K (.ref (He.ga K "BadWord")) (.ref (He.ga K "BadTune")) = some false := kitB2_ok (T.s.more 21 (f := fun K => kitB2 K "BadWord" "BadTune" false))
theorem ki_BadWord_BadNumber (T : Top K mg) : PySem.W.kitOne K (.ref (He.ga K "BadWord")) (.ref (He.ga K "BadNumber")) = some false := kitB2_ok (T.s.more 22 (f := fun K => kitB2 K "BadWord" "BadNumber" false))
theorem ki_BadWord_BadEntry (T : Top K mg) : PySem.W.kitOne K (.ref (He.ga K "BadWord")) (.ref (He.ga K "BadEntry")) = some false := kitB2_ok (T.s.more 23 (f := fun K => kitB2 K "BadWord" "BadEntry" false))
theorem ki_BadWord_BadWord (T : Top K mg) : PySem.W.kitOne K (.ref (He.ga K "BadWord")) (.ref (He.ga K "BadWord")) = some true := kitB2_ok (T.s.more 24 (f := fun K => kitB2 K "BadWord" "BadWord" true))
theorem ki_BadWord_ValueError (T : Top K mg) : PySem.W.kitOne K (.ref (He.ga K "BadWord")) (.type "ValueError") = some true := kitV_ok (T.s.more 25 (f := fun K => kitV K "BadWord" "ValueError" true))
instance [T : Top K mg] : FldI K (He.ga K "Dice") "number" := ⟨cl_Dice T, na_Dice_number T⟩
theorem df_Dice_init (T : Top K mg) : ∃ fd, FunD K "__init__" "Dice.__init__" (defArgs s_Dice_init) (defBody s_Dice_init) (defScope s_Dice_init) [] [] (He.fAd K ("Dice", some "__init__")) fd := T.s.d.def_ 0 (d := d_Dice_init)
theorem df_Dice_below (T : Top K mg) : ∃ fd, FunD K "below" "Dice.below" (defArgs s_Dice_below) (defBody s_Dice_below) (defScope s_Dice_below) [] [] (He.fAd K ("Dice", some "below")) fd := T.s.d.def_ 1 (d := d_Dice_below)
theorem df_mixed (T : Top K mg) : ∃ fd, FunD K "mixed" "mixed" (defArgs s_mixed) (defBody s_mixed) (defScope s_mixed) [] [] (He.fAd K ("mixed", none)) fd := T.s.d.def_ 2 (d := d_mixed)
theorem df_l_cell (T : Top K mg) : ∃ fd, FunD K "_law_cell" "_law_cell" (defArgs s_l_cell) (defBody s_l_cell) (defScope s_l_cell) [] [] (He.fAd K ("_law_cell", none)) fd := T.s.d.def_ 3 (d := d_l_cell)
theorem df_l_mix (T : Top K mg) : ∃ fd, FunD K "_law_mix" "_law_mix" (defArgs s_l_mix) (defBody s_l_mix) (defScope s_l_mix) [] [] (He.fAd K ("_law_mix", none)) fd := T.s.d.def_ 4 (d := d_l_mix)
theorem df_l_draw (T : Top K mg) : ∃ fd, FunD K "_law_draw" "_law_draw" (defArgs s_l_draw) (defBody s_l_draw) (defScope s_l_draw) [] [] (He.fAd K ("_law_draw", none)) fd := T.s.d.def_ 5 (d := d_l_draw)
theorem df_l_pick (T : Top K mg) : ∃ fd, FunD K "_law_pick" "_law_pick" (defArgs s_l_pick) (defBody s_l_pick) (defScope s_l_pick) [] [] (He.fAd K ("_law_pick", none)) fd := T.s.d.def_ 6 (d := d_l_pick)
theorem df_l_refusal (T : Top K mg) : ∃ fd, FunD K "_law_refusal" "_law_refusal" (defArgs s_l_refusal) (defBody s_l_refusal) (defScope s_l_refusal) [] [] (He.fAd K ("_law_refusal", none)) fd := T.s.d.def_ 7 (d := d_l_refusal)
theorem df_l_below (T : Top K mg) : ∃ fd, FunD K "_law_below" "_law_below" (defArgs s_l_below) (defBody s_l_below) (defScope s_l_below) [] [] (He.fAd K ("_law_below", none)) fd := T.s.d.def_ 8 (d := d_l_below)
theorem df_l_mixed (T : Top K mg) : ∃ fd, FunD K "_law_mixed" "_law_mixed" (defArgs s_l_mixed) (defBody s_l_mixed) (defScope s_l_mixed) [] [] (He.fAd K ("_law_mixed", none)) fd := T.s.d.def_ 9 (d := d_l_mixed)
theorem df_l_told (T : Top K mg) : ∃ fd, FunD K "_law_told" "_law_told" (defArgs s_l_told) (defBody s_l_told) (defScope s_l_told) [] [] (He.fAd K ("_law_told", none)) fd := T.s.d.def_ 10 (d := d_l_told)
theorem df_law (T : Top K mg) : ∃ fd, FunD K "law" "law" (defArgs s_law) (defBody s_law) (defScope s_law) [] [] (He.fAd K ("law", none)) fd := T.s.d.def_ 11 (d := d_law)
end
def nmDice : List Str := ["number"]
theorem ndDice : nmDice.Nodup := by decide +kernel
instance : ∀ {a0 : V}, Fd (nmDice.zip [a0]) "number" a0 := fun {a0} => ⟨look_zip ndDice (i := 0) rfl rfl, len_zip (by decide)⟩
instance : ∀ {a0 y : V}, Fp (nmDice.zip [a0]) "number" y (nmDice.zip [y]) := fun {a0 y} => ⟨put_zip ndDice (i := 0) rfl (by show 0 < 1; decide), len_zip (by decide)⟩
instance : ∀ {y : V}, Fp ([]) "number" y (nmDice.zip [y]) := fun {y} => ⟨put_zip_new (vs := []) ndDice rfl, (by show 0 < 1000; decide)⟩
instance : NotF nmDice "below" := ⟨by decide +kernel⟩
end TR

set_option Elab.async false
set_option linter.all false
set_option maxRecDepth 100000
set_option maxHeartbeats 4000000
/-! .. -/
set_option hygiene false
local macro_rules | `(tactic| walk_at "s1") => `(tactic| first
  | (with_reducible refine x_seq ?_)
  | (with_reducible refine x_asg ?_)
  | (with_reducible refine y_asg ?_)
  | (with_reducible refine x_name ?_)
  | (with_reducible refine x_ifS ?_)
  | (with_reducible refine y_ifS ?_)
  | (with_reducible refine x_ret ?_)
  | (with_reducible refine x_retN ?_)
  | (with_reducible refine x_drop ?_)
  | (with_reducible refine y_drop ?_)
  | (with_reducible refine x_next ?_)
  | (with_reducible refine x_cont ?_)
  | (with_reducible refine x_test ?_)
  | (with_reducible refine x_tB ?_)
  | (with_reducible refine y_test ?_)
  | (with_reducible refine x_not ?_)
  | (with_reducible refine y_not ?_)
  | (with_reducible refine x_and ?_)
  | (with_reducible refine y_and ?_)
  | (with_reducible refine x_or ?_)
  | (with_reducible refine y_or ?_)
  | (with_reducible refine x_chain ?_)
  | (with_reducible refine y_ch1 ?_)
  | (with_reducible refine y_ch2 ?_)
  | (with_reducible refine y_ch3 ?_)
  | (with_reducible refine x_andV ?_)
  | (with_reducible refine y_andV ?_)
  | (with_reducible refine x_orV ?_)
  | (with_reducible refine y_orV ?_)
  | (with_reducible refine x_notV ?_)
  | (with_reducible refine y_notV ?_)
  | (with_reducible refine x_if ?_)
  | (with_reducible refine y_ifE ?_)
  | (with_reducible refine x_op ?_)
  | (with_reducible refine y_op1 ?_)
  | (with_reducible refine y_op2 ?_)
  | (with_reducible refine x_un ?_)
  | (with_reducible refine y_neg ?_)
  | (with_reducible refine x_c ?_)
  | (with_reducible refine x_fld ?_)
  | (with_reducible refine x_sfld ?_)
  | (with_reducible refine y_sf ?_)
  | (with_reducible refine x_nil ?_)
  | (with_reducible refine x_cons ?_)
  | (with_reducible refine y_c1 ?_)
  | (with_reducible refine y_c2 ?_)
  | (with_reducible refine x_callS ?_)
  | (with_reducible refine y_sp ?_)
  | (with_reducible refine x_meth ?_)
  | (with_reducible refine y_mt2 ?_)
  | (with_reducible refine x_make ?_)
  | (with_reducible refine y_mq ?_)
  | (with_reducible refine x_cb ?_)
  | (with_reducible refine y_cb ?_)
  | (with_reducible refine x_bm ?_)
  | (with_reducible refine y_bq ?_)
  | (with_reducible refine x_bm0 ?_)
  | (with_reducible refine x_rz ?_)
  | (with_reducible refine x_lst ?_)
  | (with_reducible refine x_tup ?_)
  | (with_reducible refine x_sub ?_)
  | (with_reducible refine y_sb1 ?_)
  | (with_reducible refine x_for1 ?_)
  | (with_reducible refine x_forL ?_)
  | (with_reducible refine x_for3 ?_)
  | (with_reducible refine x_forT ?_)
  | (with_reducible refine y_body ?_)
  | (with_reducible refine x_tru ?_)
  | (with_reducible refine y_trub ?_)
  | (with_reducible refine y_trui ?_)
  | (with_reducible refine y_trun ?_)
  | (with_reducible refine x_gcons ?_)
  | (with_reducible refine y_g ?_)
  | (with_reducible refine x_gnil ?_)
  | (with_reducible refine x_rev ?_)
  | (with_reducible refine x_sl ?_)
  | (with_reducible refine y_sl1 ?_)
  | (with_reducible refine y_sl2 ?_)
  | (with_reducible refine y_sl3 ?_)
  | (with_reducible refine x_nop ?_)
  | (with_reducible refine x_part ?_)
  | (with_reducible refine y_part ?_)
  | (with_reducible refine x_lrange1 ?_)
  | (with_reducible refine x_lrange2 ?_)
  | (with_reducible refine y_lr2 ?_)
  | (with_reducible refine x_addI ?_)
  | ((with_reducible refine x_try (fun pn xe tk po => ?_)); (try dsimp only [cxOf]))
  | (with_reducible refine x_lcT ?_)
  | (with_reducible refine x_lcL ?_)
  | (with_reducible refine y_tt ?_)
  | (with_reducible refine x_yes' ?_)
  | ((with_reducible refine' y_lcb ?h1 ?_); (case h1 => exact rfl))
  | (with_reducible refine x_I0 ?_)
  | (with_reducible refine x_eqI ?_)
  | (with_reducible refine x_neI ?_)
  | (with_reducible refine x_isN ?_)
  | (with_reducible refine x_notN ?_)
  | (with_reducible refine x_tt ?_)
  | (with_reducible refine x_ff ?_)
  | (with_reducible refine x_nt ?_)
  | (with_reducible refine x_nf ?_)
  | (with_reducible refine y_fld hS ?_)
  | (with_reducible refine y_meth hS ?_)
  | (with_reducible refine y_put hS (fun H hS => ?_))
  | ((with_reducible refine' x_var ?h1 ?_); (case h1 => exact rfl))
  | (with_reducible refine y_lst hS (by first | decide | (show _ ≤ sizeLine; simp only [List.length_cons, List.length_nil]; decide)) (fun u H hS => ?_))
  | (with_reducible refine y_tup hS (by first | decide | (show _ ≤ sizeLine; simp only [List.length_cons, List.length_nil]; decide)) (fun u H hS => ?_)))
local macro_rules | `(tactic| walk_at "s") => `(tactic| repeat walk_at "s1")
local macro_rules | `(tactic| walk_at "go") => `(tactic| (dsimp only [cxOf]; repeat walk_at "s1"))

namespace TR
open PySem PySem.Spec PyProof.Rows L2
section
variable {P : Program} {w : World} {K : PySem.W.Frag} {mg : Str → Option Value} {base : Heap}
/-! ### dice -/
def DiceR (K : PySem.W.Frag) (p : Addr) (n : Int) : As := ex fun dx => pt p (.ins (He.ga K "Dice") dx (nmDice.zip [.int n]))
instance {K : PySem.W.Frag} {p : Addr} {n : Int} : Key (DiceR K p n) p := ⟨trivial⟩
instance {K : PySem.W.Frag} {p : Addr} {n : Int} : IsOb (DiceR K p n) p (He.ga K "Dice") nmDice := ⟨fun h ⟨dx, a⟩ => ⟨dx, _, a⟩⟩
def okSeed (s : Int) : Prop := 0 ≤ s ∧ s < 6075
def dnext (n : Int) : Int := (106 * n + 1283) % 6075
theorem dnext_ok (n : Int) : okSeed (dnext n) := ⟨Int.emod_nonneg _ (by decide), Int.emod_lt_of_pos _ (by decide)⟩
def sp_Dice_init (K : PySem.W.Frag) : Sp := fun vs H Q E => ∃ (p dx : Addr) (s : Int) (R : List As), vs = [.ref p, .int s] ∧ Sep (pt p (.ins (He.ga K "Dice") dx []) :: R) H ∧
  (okSeed s → ∀ H', Sep (DiceR K p s :: R) H' → Q .non H') ∧ (¬ okSeed s → ∀ H', Sep R H' → E (.ref (He.ga K "BadNumber")) none H')
theorem ln_Dice_init : ∀ vs H Q E, sp_Dice_init K vs H Q E → vs.length = (["self", "seed"] : List Str).length := by
  rintro _ _ _ _ ⟨p, dx, s, R, rfl, _⟩
  rfl
theorem sc_Dice_init : FnScope ["self", "seed"] ["self", "seed"] (defScope s_Dice_init) := ⟨rfl, rfl, rfl, by decide +kernel, rfl, by decide +kernel, by decide +kernel⟩
theorem ok_Dice_init (T : Top K mg) : OkD P w K mg base d_Dice_init 1 ["self", "seed"] (sp_Dice_init K) := by
  refine okD (df_Dice_init T) sc_Dice_init (fun _ _ _ _ _ _ us hl => match us, hl with | [_, _], _ => rfl) ln_Dice_init (fun cdv A outer s H vs Q E hr h => ⟨_,
      pss_cons (ps_if (pt_not (pt_chain op_le op_lt pe_int (pv 1) (px_int rfl (gi_WHEEL T))))
       (pss_one (px_raise rfl tkD rfl (gl_BadNumber T) (xc_BadNumber T)))
       (pss_nil))
      (pss_one (ps_fld (pv 0) (pv 1) rfl)), ?_⟩)
  obtain ⟨p, dx, s, R, rfl, hS, h1, h2⟩ := h
  walk_at "go"
  refine x_dec (fun ha => ?_) (fun ha => ?_)
  · walk_at "s"
    refine x_ndec (fun hb => ?_) (fun hb => ?_)
    · walk_at "s"
      exact h2 (fun z => hb z.2) _ hS.tail
    · walk_at "s"
      exact h1 ⟨ha, hb⟩ _ (hS.exi dx)
  · walk_at "s"
    exact h2 (fun z => ha z.1) _ hS.tail
def okMany (m : Int) : Prop := 1 ≤ m ∧ m ≤ 60
def dval (n m : Int) : Int := dnext n * m / 6075
theorem dval_ok (n : Int) {m : Int} (h : 1 ≤ m) : 0 ≤ dval n m ∧ dval n m < m := by
  obtain ⟨h1, h2⟩ := dnext_ok n
  refine ⟨Int.ediv_nonneg (Int.mul_nonneg h1 (by omega)) (by decide), Int.ediv_lt_of_lt_mul (by decide) ?_⟩
  rw [Int.mul_comm m]
  exact Int.mul_lt_mul_of_pos_right h2 (by omega)
def sp_Dice_below (K : PySem.W.Frag) : Sp := fun vs H Q E => ∃ (p : Addr) (n m : Int) (R : List As), vs = [.ref p, .int m] ∧ okSeed n ∧ Sep (DiceR K p n :: R) H ∧
  (okMany m → ∀ H', Sep (DiceR K p (dnext n) :: R) H' → Q (.int (dval n m)) H') ∧ (¬ okMany m → ∀ H', Sep (DiceR K p n :: R) H' → E (.ref (He.ga K "BadNumber")) none H')
theorem ln_Dice_below : ∀ vs H Q E, sp_Dice_below K vs H Q E → vs.length = (["self", "many"] : List Str).length := by
  rintro _ _ _ _ ⟨p, n, m, R, rfl, _⟩
  rfl
theorem sc_Dice_below : FnScope ["self", "many"] ["self", "many"] (defScope s_Dice_below) := ⟨rfl, rfl, rfl, by decide +kernel, rfl, by decide +kernel, by decide +kernel⟩
theorem ok_Dice_below (T : Top K mg) : OkD P w K mg base d_Dice_below 1 ["self", "many"] (sp_Dice_below K) := by
  refine okD (df_Dice_below T) sc_Dice_below (fun _ _ _ _ _ _ us hl => match us, hl with | [_, _], _ => rfl) ln_Dice_below (fun cdv A outer s H vs Q E hr h => ⟨_,
      pss_cons (ps_if (pt_not (pt_chain op_le op_le pe_int (pv 1) (px_int rfl (gi_MOST T))))
       (pss_one (px_raise rfl tkD rfl (gl_BadNumber T) (xc_BadNumber T)))
       (pss_nil))
      (pss_cons (ps_fld (pv 0) (pe_op op_mod (pe_op op_addA (pe_op op_mulA (px_int rfl (gi_TIMES T)) (pe_fld (pv 0) rfl)) (px_int rfl (gi_MORE T))) (px_int rfl (gi_WHEEL T))) rfl)
      (pss_one (ps_ret (pe_op op_fdiv (pe_op op_mulA (pe_fld (pv 0) rfl) (pv 1)) (px_int rfl (gi_WHEEL T)))))), ?_⟩)
  obtain ⟨p, n, m, R, rfl, hn, hS, h1, h2⟩ := h
  obtain ⟨dx, hS⟩ := hS.ex
  have hd := dnext_ok n
  walk_at "go"
  refine x_dec (fun ha => ?_) (fun ha => ?_)
  · walk_at "s"
    refine x_ndec (fun hb => ?_) (fun hb => ?_)
    · walk_at "s"
      exact h2 (fun z => hb z.2) _ (hS.exi dx)
    · walk_at "s"
      refine x_mulI (.inl ⟨by decide, by decide⟩) ?_
      walk_at "s"
      refine x_I (by decide) ?_
      walk_at "s"
      refine x_mulI (.inl ⟨by have := hd.1; omega, by have := hd.2; omega⟩) ?_
      walk_at "s"
      refine x_I ⟨by decide, by decide⟩ ?_
      exact h1 ⟨ha, hb⟩ _ (hS.exi dx)
  · walk_at "s"
    exact h2 (fun z => ha z.1) _ (hS.exi dx)
/-! ### mixed -/
def swp (xs : List V) (i j : Nat) : List V := (xs.set i (xs.getD j .non)).set j (xs.getD i .non)
theorem swp_length (xs : List V) (i j : Nat) : (swp xs i j).length = xs.length := by
  unfold swp
  rw [List.length_set, List.length_set]
/-- the thing at place k goes to a drawn place -/
def mixS (k : Nat) (s : Int × List V) : Int × List V := (dnext s.1, swp s.2 k (dval s.1 (k + 1)).toNat)
def mixI (L : Nat) : Nat → Int × List V → Int × List V
  | 0, s => s
  | i + 1, s => mixS (L - 1 - i) (mixI L i s)
theorem mixI_length (L : Nat) (s : Int × List V) : ∀ i, (mixI L i s).2.length = s.2.length
  | 0 => rfl
  | i + 1 => by
    show (swp _ _ _).length = _
    rw [swp_length, mixI_length L s i]
theorem mixI_ok (L : Nat) {s : Int × List V} (h : okSeed s.1) : ∀ i, okSeed (mixI L i s).1
  | 0 => h
  | i + 1 => dnext_ok _
def mixd (n : Int) (xs : List V) : Int × List V := mixI xs.length (xs.length - 1) (n, xs)
def sp_mixed (K : PySem.W.Frag) : Sp := fun vs H Q E => ∃ (p q : Addr) (n : Int) (xs : List V) (R : List As), vs = [.ref p, .ref q] ∧ okSeed n ∧ xs.length ≤ 60 ∧ Sep (DiceR K p n :: pt q (.lst xs) :: R) H ∧
  (∀ l H', Sep (pt l (.lst (mixd n xs).2) :: DiceR K p (mixd n xs).1 :: pt q (.lst xs) :: R) H' → Q (.ref l) H')
theorem ln_mixed : ∀ vs H Q E, sp_mixed K vs H Q E → vs.length = (["dice", "some"] : List Str).length := by
  rintro _ _ _ _ ⟨p, q, n, xs, R, rfl, _⟩
  rfl
theorem sc_mixed : FnScope ["dice", "some", "found", "k", "other"] ["dice", "some"] (defScope s_mixed) := ⟨rfl, rfl, rfl, by decide +kernel, rfl, by decide +kernel, by decide +kernel⟩
theorem ok_mixed (T : Top K mg) : OkD P w K mg base d_mixed 2 ["dice", "some"] (sp_mixed K) := by
  refine okD (df_mixed T) sc_mixed (fun _ _ _ _ _ _ us hl => match us, hl with | [_, _], _ => rfl) ln_mixed (fun cdv A outer s H vs Q E hr h => ⟨_,
      pss_cons (ps_set (i := 2) sc_mixed.nd rfl (Or.inl rfl) (pe_callTy call_listOf (by rfl) (fr_list T) (by decide +kernel) (pa_cons (pv 1) pa_nil)))
      (pss_cons (ps_for (passes_of rfl) rfl (pi_range3 rfl (fr_range T) (pa_cons (pe_op op_sub (pe_callB call_lenA (by rfl) (fr_len T) (by decide +kernel) (pa_cons (pv 2) pa_nil)) pe_int) (pa_cons pe_int (pa_cons (pe_un un_neg pe_int) pa_nil)))) (pg_name (i := 3) sc_mixed.nd rfl (Or.inl rfl))
       (pss_cons (ps_set (i := 4) sc_mixed.nd rfl (Or.inl rfl) (px_meth (ok_Dice_below T) (hr.mono (by decide)) (pv 0) (cl_Dice T) (me_Dice_below T) (fun σ => paD σ) (pa_cons (pe_op op_addA (pv 3) pe_int) pa_nil)))
        (pss_one (ps_asg (pe_tup (pa_cons (pe_ix ix_seq (pv 2) (pv 4) (fun _ _ => rfl)) (pa_cons (pe_ix ix_seq (pv 2) (pv 3) (fun _ _ => rfl)) pa_nil))) (pg_tup (n := 2) rfl (pgs_cons (pg_sub (pv 2) (pv 3) set_list) (pgs_cons (pg_sub (pv 2) (pv 4) set_list) pgs_nil)))))))
      (pss_one (ps_ret (pv 2)))), ?_⟩)
  obtain ⟨p, q, n, xs, R, rfl, hn, hx, hS, h1⟩ := h
  walk_at "go"
  refine x_listOf hS (sqL hS) fun l H hS => ?_
  walk_at "s"
  refine x_lenL (sqL hS) ?_
  walk_at "s"
  refine y_for3 (fun i σ H => ∃ a b : Option V, σ = [some (.ref p), some (.ref q), some (.ref l), a, b] ∧ Sep (pt l (.lst (mixI xs.length i (n, xs)).2) :: DiceR K p (mixI xs.length i (n, xs)).1 :: pt q (.lst xs) :: R) H)
    (by omega) (by omega) ⟨none, none, rfl, hS⟩ ?_ ?_
  · rintro i σ H hi ⟨a, b, rfl, hS⟩
    have hL : (mixI xs.length i (n, xs)).2.length = xs.length := mixI_length xs.length (n, xs) i
    have hok := mixI_ok xs.length (s := (n, xs)) hn i
    obtain ⟨k, hk, hk2⟩ : ∃ k : Nat, ((xs.length : Int) - 1 - (i : Nat)) = (k : Nat) ∧ xs.length - 1 - i = k := ⟨xs.length - 1 - i, by omega, rfl⟩
    have e2 : (mixI xs.length (i + 1) (n, xs)) = mixS k (mixI xs.length i (n, xs)) := by
      rw [← hk2] <;> rfl
    have dv := dval_ok (mixI xs.length i (n, xs)).1 (m := (k : Int) + 1) (by omega)
    rw [hk, e2]
    obtain ⟨s, hs⟩ : ∃ s, s = mixI xs.length i (n, xs) := ⟨_, rfl⟩
    rw [← hs] at hL hok dv hS ⊢
    walk_at "s"
    refine ⟨p, _, _, _, rfl, hok, hS.own p, fun _ H hS => ?_, fun hn => absurd (show okMany _ from ⟨by omega, by omega⟩) hn⟩
    walk_at "s"
    refine x_ixL (sqL hS) (atI_some (v := s.2.getD (dval s.1 (k + 1)).toNat .non) dv.1 (getD_some (by omega))) ?_
    walk_at "s"
    refine x_ixL (sqL hS) (atI_nat (v := s.2.getD k .non) (getD_some (by omega))) ?_
    walk_at "s"
    refine x_gtup (sqT hS) rfl ?_
    walk_at "s"
    refine y_setL hS (ixN_some (by omega) (by omega)) (fun H hS => ?_)
    walk_at "s"
    refine y_setL hS (ixN_some (by omega) (by rw [List.length_set]; omega)) (fun H hS => ?_)
    walk_at "s"
    refine ⟨_, _, rfl, ?_⟩
    rw [Int.toNat_natCast] at hS
    exact (show Sep (pt l (.lst (mixS k s).2) :: pt u _ :: DiceR K p (mixS k s).1 :: pt q (.lst xs) :: R) H from hS).of (En.cons (En.drop (En.cons (En.cons En.refl))))
  · rintro σ H ⟨a, b, rfl, hS⟩
    walk_at "s"
    refine h1 l _ ?_
    have e : ((xs.length : Int) - 1 - 0).toNat = xs.length - 1 := by omega
    rw [e] at hS
    exact hS

theorem swp_perm {xs : List V} {i j : Nat} (hi : i < xs.length) (hj : j < xs.length) : (swp xs i j).Perm xs := by
  unfold swp
  rw [List.getD_eq_getElem?_getD, List.getElem?_eq_getElem hj, List.getD_eq_getElem?_getD, List.getElem?_eq_getElem hi]
  show ((xs.set i xs[j]).set j xs[i]).Perm xs
  exact List.set_set_perm hi hj
theorem mixI_perm {L : Nat} {s : Int × List V} (hs : s.2.length = L) : ∀ i, i < L → (mixI L i s).2.Perm s.2
  | 0, _ => .refl _
  | i + 1, h => by
    have ih := mixI_perm hs i (by omega)
    have hl := mixI_length L s i
    have dv := dval_ok (mixI L i s).1 (m := ((L - 1 - i : Nat) : Int) + 1) (by omega)
    exact (swp_perm (by omega) (by omega)).trans ih
theorem mixd_perm (n : Int) (xs : List V) : (mixd n xs).2.Perm xs := by
  unfold mixd
  by_cases h : xs.length = 0
  · rw [h]
    exact .refl _
  · exact mixI_perm (L := xs.length) (s := (n, xs)) rfl (xs.length - 1) (by omega)
theorem mixd_ok {n : Int} (h : okSeed n) (xs : List V) : okSeed (mixd n xs).1 := mixI_ok _ (s := (n, xs)) h _
/-! ### the law's draws -/
/-- the script -/
def ScrA (K : PySem.W.Frag) (a : Addr) (ns : List Int) : As := fun h => SqL K h a (ns.map V.int)
instance {K : PySem.W.Frag} {a : Addr} {ns : List Int} : Key (ScrA K a ns) a := ⟨trivial⟩
theorem Sep.scr {a : Addr} {ns : List Int} {L R : List As} {H : Hp} (h : Sep L H) [q : AtA a L (ScrA K a ns) R] : SqL K H a (ns.map V.int) := by
  obtain ⟨h1, h2, s1, s2, d, x, r⟩ := q.en H h
  exact SqL.sb s1 x
/-- how many draws -/
def TownA (t : Addr) (n : Nat) : As := pt t (.lst (List.replicate n (V.int 0)))
instance {t : Addr} {n : Nat} : Key (TownA t n) t := ⟨trivial⟩
def lcell (ns : List Int) (k : Nat) : Int := if ns = [] then 0 else ns.getD (k % ns.length) 0
def lmix (ns : List Int) (k : Nat) : Int :=
  let a := (lcell ns k + 104729 * ((k : Int) + 1)) % 4294967291
  let b := a ^ 5 % 4294967279
  (b / 64 * 69621 + b) % 4294967231
def draw (ns : List Int) (n : Nat) (m : Int) : Int := lmix ns n / 8 % m
theorem draw_ok (ns : List Int) (n : Nat) {m : Int} (h : 0 < m) : 0 ≤ draw ns n m ∧ draw ns n m < m := ⟨Int.emod_nonneg _ (by omega), Int.emod_lt_of_pos _ h⟩
def sp_l_cell (K : PySem.W.Frag) : Sp := fun vs H Q E => ∃ (a : Addr) (ns : List Int) (k : Nat) (R : List As), vs = [.ref a, .int (k : Nat)] ∧ Sep (ScrA K a ns :: R) H ∧ Q (.int (lcell ns k)) H
theorem ln_l_cell : ∀ vs H Q E, sp_l_cell K vs H Q E → vs.length = (["_law_script", "_law_k"] : List Str).length := by
  rintro _ _ _ _ ⟨a, ns, k, R, rfl, _⟩
  rfl
theorem sc_l_cell : FnScope ["_law_script", "_law_k"] ["_law_script", "_law_k"] (defScope s_l_cell) := ⟨rfl, rfl, rfl, by decide +kernel, rfl, by decide +kernel, by decide +kernel⟩
theorem ok_l_cell (T : Top K mg) : OkD P w K mg base d_l_cell 1 ["_law_script", "_law_k"] (sp_l_cell K) := by
  refine okD (df_l_cell T) sc_l_cell (fun _ _ _ _ _ _ us hl => match us, hl with | [_, _], _ => rfl) ln_l_cell (fun cdv A outer s H vs Q E hr h => ⟨_,
      pss_cons (ps_if (px_truth (pv 0) (by intro _; rfl))
       (pss_one (ps_ret (pe_ix ix_seq (pv 0) (pe_op op_mod (pv 1) (pe_callB call_lenA (by rfl) (fr_len T) (by decide +kernel) (pa_cons (pv 0) pa_nil))) (fun _ _ => rfl))))
       (pss_nil))
      (pss_one (ps_ret pe_int)), ?_⟩)
  obtain ⟨a, ns, k, R, rfl, hS, h1⟩ := h
  have hL : SqL K H a (ns.map V.int) := hS.scr
  walk_at "go"
  refine y_trul hL ?_
  walk_at "s"
  cases ns with
  | nil =>
    walk_at "s"
    exact h1
  | cons z r =>
    walk_at "s"
    refine x_yes rfl ?_
    walk_at "s"
    refine x_lenL hL ?_
    walk_at "s"
    have hp : (0 : Int) < (((z :: r).map V.int).length : Nat) := by
      rw [List.length_map, List.length_cons]
      omega
    refine x_I hp ?_
    have e : (k : Int) % ((((z :: r).map V.int).length : Nat) : Int) = ((k % (z :: r).length : Nat) : Int) := by
      rw [List.length_map] <;> rfl
    rw [e]
    have hlt : k % (z :: r).length < (z :: r).length := Nat.mod_lt _ (by rw [List.length_cons]; omega)
    refine x_ixL hL (atI_nat (v := V.int ((z :: r).getD (k % (z :: r).length) 0)) (by rw [List.getElem?_map, getD_some (d := 0) hlt] <;> rfl)) ?_
    walk_at "s"
    have e2 : lcell (z :: r) k = (z :: r).getD (k % (z :: r).length) 0 := by
      unfold lcell
      rw [if_neg (by intro q; cases q)]
    rw [e2] at h1
    exact h1
def sp_l_mix (K : PySem.W.Frag) : Sp := fun vs H Q E => ∃ (a : Addr) (ns : List Int) (k : Nat) (R : List As), vs = [.ref a, .int (k : Nat)] ∧ Sep (ScrA K a ns :: R) H ∧ Q (.int (lmix ns k)) H
theorem ln_l_mix : ∀ vs H Q E, sp_l_mix K vs H Q E → vs.length = (["_law_script", "_law_k"] : List Str).length := by
  rintro _ _ _ _ ⟨a, ns, k, R, rfl, _⟩
  rfl
theorem sc_l_mix : FnScope ["_law_script", "_law_k", "_law_number"] ["_law_script", "_law_k"] (defScope s_l_mix) := ⟨rfl, rfl, rfl, by decide +kernel, rfl, by decide +kernel, by decide +kernel⟩
theorem ok_l_mix (T : Top K mg) : OkD P w K mg base d_l_mix 2 ["_law_script", "_law_k"] (sp_l_mix K) := by
  refine okD (df_l_mix T) sc_l_mix (fun _ _ _ _ _ _ us hl => match us, hl with | [_, _], _ => rfl) ln_l_mix (fun cdv A outer s H vs Q E hr h => ⟨_,
      pss_cons (ps_set (i := 2) sc_l_mix.nd rfl (Or.inl rfl) (pe_op op_mod (pe_op op_addA (px_call (ok_l_cell T) (hr.mono (by decide)) rfl (gl__law_cell T) (fun σ => paD σ) (pa_cons (pv 0) (pa_cons (pv 1) pa_nil))) (pe_op op_mulA pe_int (pe_op op_addA (pv 1) pe_int))) pe_int))
      (pss_cons (ps_set (i := 2) sc_l_mix.nd rfl (Or.inl rfl) (pe_op op_mod (pe_op op_pow (pv 2) pe_int) pe_int))
      (pss_one (ps_ret (pe_op op_mod (pe_op op_addA (pe_op op_mulA (pe_op op_fdiv (pv 2) pe_int) pe_int) (pv 2)) pe_int)))), ?_⟩)
  obtain ⟨a, ns, k, R, rfl, hS, h1⟩ := h
  walk_at "go"
  refine ⟨a, ns, k, R, rfl, hS, ?_⟩
  walk_at "s"
  refine x_mulI (.inl ⟨by decide, by decide⟩) ?_
  walk_at "s"
  refine x_I (by decide) ?_
  walk_at "s"
  have b1 := Int.emod_nonneg (lcell ns k + 104729 * ((k : Int) + 1)) (b := 4294967291) (by decide)
  have b2 := Int.emod_lt_of_pos (lcell ns k + 104729 * ((k : Int) + 1)) (b := 4294967291) (by decide)
  refine x_I ⟨by decide, by decide, by omega⟩ ?_
  walk_at "s"
  refine x_I (by decide) ?_
  walk_at "s"
  refine x_I ⟨by decide, by decide⟩ ?_
  walk_at "s"
  refine x_mulI (.inr ⟨by decide, by decide⟩) ?_
  walk_at "s"
  refine x_I (by decide) ?_
  walk_at "s"
  exact h1
theorem sz {n : Nat} (h : n ≤ 1000000) : n < sizeLine := Nat.lt_of_le_of_lt h (by decide)
theorem sz' {n : Nat} (h : n ≤ 1000000) : n ≤ sizeLine := Nat.le_of_lt (sz h)
def sp_l_draw (K : PySem.W.Frag) : Sp := fun vs H Q E => ∃ (a t : Addr) (ns : List Int) (n : Nat) (m : Int) (R : List As), vs = [.ref a, .ref t, .int m] ∧ 0 < m ∧ n ≤ 1000000 ∧ Sep (ScrA K a ns :: TownA t n :: R) H ∧
  ∀ H', Sep (ScrA K a ns :: TownA t (n + 1) :: R) H' → Q (.int (draw ns (n + 1) m)) H'
theorem ln_l_draw : ∀ vs H Q E, sp_l_draw K vs H Q E → vs.length = (["_law_script", "_law_town", "_law_many"] : List Str).length := by
  rintro _ _ _ _ ⟨a, t, ns, n, m, R, rfl, _⟩
  rfl
theorem sc_l_draw : FnScope ["_law_script", "_law_town", "_law_many"] ["_law_script", "_law_town", "_law_many"] (defScope s_l_draw) := ⟨rfl, rfl, rfl, by decide +kernel, rfl, by decide +kernel, by decide +kernel⟩
theorem ok_l_draw (T : Top K mg) : OkD P w K mg base d_l_draw 3 ["_law_script", "_law_town", "_law_many"] (sp_l_draw K) := by
  refine okD (df_l_draw T) sc_l_draw (fun _ _ _ _ _ _ us hl => match us, hl with | [_, _, _], _ => rfl) ln_l_draw (fun cdv A outer s H vs Q E hr h => ⟨_,
      pss_cons (ps_expr (pe_bm PySem.F.plainAttrs_list PySem.F.slot_list_append PySem.F.type_list_append mt_append (pv 1) (pa_cons pe_int pa_nil)))
      (pss_one (ps_ret (pe_op op_mod (pe_op op_fdiv (px_call (ok_l_mix T) (hr.mono (by decide)) rfl (gl__law_mix T) (fun σ => paD σ) (pa_cons (pv 0) (pa_cons (pe_callB call_lenA (by rfl) (fr_len T) (by decide +kernel) (pa_cons (pv 1) pa_nil)) pa_nil))) pe_int) (pv 2)))), ?_⟩)
  obtain ⟨a, t, ns, n, m, R, rfl, hm, hn, hS, h1⟩ := h
  replace hS : Sep (ScrA K a ns :: pt t (.lst (List.replicate n (V.int 0))) :: R) H := hS
  walk_at "go"
  refine y_bml (sqL hS) ?_
  walk_at "s"
  refine x_append hS (by rw [List.length_replicate]; exact sz hn) (fun H hS => ?_)
  have e : List.replicate n (V.int 0) ++ [V.int 0] = List.replicate (n + 1) (V.int 0) := List.replicate_succ'.symm
  rw [e] at hS
  walk_at "s"
  refine x_lenL (sqL hS) ?_
  walk_at "s"
  rw [List.length_replicate]
  refine ⟨a, ns, n + 1, _, rfl, hS.own a, ?_⟩
  walk_at "s"
  refine x_I ⟨by decide, by decide⟩ ?_
  walk_at "s"
  refine x_I hm ?_
  exact h1 _ (hS.of En.swap)
def sp_l_pick (K : PySem.W.Frag) : Sp := fun vs H Q E => ∃ (a t q : Addr) (ns : List Int) (n : Nat) (xs : List V) (R : List As), vs = [.ref a, .ref t, .ref q] ∧ xs ≠ [] ∧ n ≤ 1000000 ∧ Sep (ScrA K a ns :: TownA t n :: pt q (.lst xs) :: R) H ∧
  ∀ H', Sep (ScrA K a ns :: TownA t (n + 1) :: pt q (.lst xs) :: R) H' → Q (xs.getD (draw ns (n + 1) (xs.length : Nat)).toNat .non) H'
theorem ln_l_pick : ∀ vs H Q E, sp_l_pick K vs H Q E → vs.length = (["_law_script", "_law_town", "_law_some"] : List Str).length := by
  rintro _ _ _ _ ⟨a, t, q, ns, n, xs, R, rfl, _⟩
  rfl
theorem sc_l_pick : FnScope ["_law_script", "_law_town", "_law_some"] ["_law_script", "_law_town", "_law_some"] (defScope s_l_pick) := ⟨rfl, rfl, rfl, by decide +kernel, rfl, by decide +kernel, by decide +kernel⟩
theorem ok_l_pick (T : Top K mg) : OkD P w K mg base d_l_pick 4 ["_law_script", "_law_town", "_law_some"] (sp_l_pick K) := by
  refine okD (df_l_pick T) sc_l_pick (fun _ _ _ _ _ _ us hl => match us, hl with | [_, _, _], _ => rfl) ln_l_pick (fun cdv A outer s H vs Q E hr h => ⟨_,
      pss_one (ps_ret (pe_ix ix_seq (pv 2) (px_call (ok_l_draw T) (hr.mono (by decide)) rfl (gl__law_draw T) (fun σ => paD σ) (pa_cons (pv 0) (pa_cons (pv 1) (pa_cons (pe_callB call_lenA (by rfl) (fr_len T) (by decide +kernel) (pa_cons (pv 2) pa_nil)) pa_nil)))) (fun _ _ => rfl))), ?_⟩)
  obtain ⟨a, t, q, ns, n, xs, R, rfl, hx, hn, hS, h1⟩ := h
  have hl : 0 < xs.length := List.length_pos_iff.mpr hx
  walk_at "go"
  refine x_lenL (sqL hS) ?_
  walk_at "s"
  refine ⟨a, t, ns, n, _, _, rfl, by omega, hn, hS.own2 a t, fun H hS => ?_⟩
  walk_at "s"
  have d := draw_ok ns (n + 1) (m := (xs.length : Nat)) (by omega)
  refine x_ixL (sqL hS) (atI_some d.1 (getD_some (d := .non) (by omega))) ?_
  exact h1 _ hS
/-! ### a draw, a pick, by what is known of it -/
section
variable {a t q : Addr} {ns : List Int} {n : Nat} {m : Int} {xs : List V} {R : List As} {H : Hp} {Q : VK} {E : XK}
theorem draw_use (hm : 0 < m) (hn : n ≤ 1000000) (hS : Sep (ScrA K a ns :: TownA t n :: R) H) (k : ∀ (j : Nat) H', (j : Int) < m → Sep (ScrA K a ns :: TownA t (n + 1) :: R) H' → Q (.int (j : Nat)) H') : sp_l_draw K [.ref a, .ref t, .int m] H Q E := by
  refine ⟨a, t, ns, n, m, R, rfl, hm, hn, hS, fun H' hS' => ?_⟩
  have d := draw_ok ns (n + 1) hm
  have e : draw ns (n + 1) m = ((draw ns (n + 1) m).toNat : Nat) := by omega
  rw [e]
  exact k _ H' (by omega) hS'
theorem pick_use (hx : xs ≠ []) (hn : n ≤ 1000000) (hS : Sep (ScrA K a ns :: TownA t n :: pt q (.lst xs) :: R) H) (k : ∀ v H', v ∈ xs → Sep (ScrA K a ns :: TownA t (n + 1) :: pt q (.lst xs) :: R) H' → Q v H') : sp_l_pick K [.ref a, .ref t, .ref q] H Q E := by
  refine ⟨a, t, q, ns, n, xs, R, rfl, hx, hn, hS, fun H' hS' => k _ H' ?_ hS'⟩
  have hl : 0 < xs.length := List.length_pos_iff.mpr hx
  have d := draw_ok ns (n + 1) (m := (xs.length : Nat)) (by omega)
  rw [List.getD_eq_getElem?_getD, List.getElem?_eq_getElem (by omega)]
  exact List.getElem_mem _
end

theorem scr_sep {a : Addr} {ns : List Int} {H : Hp} (h : SqL K H a (ns.map V.int)) : Sep [ScrA K a ns] H := ⟨H, fun _ => none, Sb.refl H, empty_sb H, fun _ _ _ _ e => (nomatch e), h, trivial⟩

end
end TR

set_option Elab.async false
set_option linter.all false
set_option maxRecDepth 100000
set_option maxHeartbeats 4000000
/-! .. -/

namespace TR
open PySem PySem.Spec PyProof.Rows L2
section
variable {P : Program} {w : World} {K : PySem.W.Frag} {mg : Str → Option Value} {base : Heap}
/-! ### refusals -/
inductive Kd where
  | tune | number | entry | word
  deriving DecidableEq
def Kd.cls : Kd → Str
  | .tune => "BadTune" | .number => "BadNumber" | .entry => "BadEntry" | .word => "BadWord"
def Kd.txt : Kd → Str
  | .tune => "tune" | .number => "number" | .entry => "entry" | .word => "word"
def Kd.ix : Kd → Nat
  | .tune => 0 | .number => 1 | .entry => 2 | .word => 3
/-- the tuple ("refused", k) -/
abbrev RefR (p : Addr) (k : Kd) : As := pt p (.tup [.str "refused", .str k.txt])
theorem xb_kd (T : Top K mg) (k : Kd) : ExcC K (He.ga K k.cls) := match k with
  | .tune => xb_BadTune T | .number => xb_BadNumber T | .entry => xb_BadEntry T | .word => xb_BadWord T
theorem kiT (T : Top K mg) (k : Kd) : PySem.W.kitOne K (.ref (He.ga K k.cls)) (.ref (He.ga K "BadTune")) = some (decide (k = .tune)) := match k with
  | .tune => ki_BadTune_BadTune T | .number => ki_BadNumber_BadTune T | .entry => ki_BadEntry_BadTune T | .word => ki_BadWord_BadTune T
theorem kiN (T : Top K mg) (k : Kd) : PySem.W.kitOne K (.ref (He.ga K k.cls)) (.ref (He.ga K "BadNumber")) = some (decide (k = .number)) := match k with
  | .tune => ki_BadTune_BadNumber T | .number => ki_BadNumber_BadNumber T | .entry => ki_BadEntry_BadNumber T | .word => ki_BadWord_BadNumber T
theorem kiE (T : Top K mg) (k : Kd) : PySem.W.kitOne K (.ref (He.ga K k.cls)) (.ref (He.ga K "BadEntry")) = some (decide (k = .entry)) := match k with
  | .tune => ki_BadTune_BadEntry T | .number => ki_BadNumber_BadEntry T | .entry => ki_BadEntry_BadEntry T | .word => ki_BadWord_BadEntry T
theorem kiW (T : Top K mg) (k : Kd) : PySem.W.kitOne K (.ref (He.ga K k.cls)) (.ref (He.ga K "BadWord")) = some (decide (k = .word)) := match k with
  | .tune => ki_BadTune_BadWord T | .number => ki_BadNumber_BadWord T | .entry => ki_BadEntry_BadWord T | .word => ki_BadWord_BadWord T
theorem kiV (T : Top K mg) (k : Kd) : PySem.W.kitOne K (.ref (He.ga K k.cls)) (.type "ValueError") = some true := match k with
  | .tune => ki_BadTune_ValueError T | .number => ki_BadNumber_ValueError T | .entry => ki_BadEntry_ValueError T | .word => ki_BadWord_ValueError T
def Kd.bl (k : Kd) : List Bool := [decide (k = .tune), decide (k = .number), decide (k = .entry), decide (k = .word)]
theorem bl_count (k : Kd) : k.bl.count true = 1 := by cases k <;> rfl
theorem bl_at (k : Kd) : (k.bl.map V.bl)[k.ix]? = some (.bl true) := by cases k <;> rfl
theorem bl_ahead (k : Kd) : ∀ (m : Nat) (z' : V), m < k.ix → (k.bl.map V.bl)[m]? = some z' → eqV z' (.bl true) = false := by
  intro m z' h1 h2
  cases k with
  | tune => exact absurd h1 (Nat.not_lt_zero _)
  | number =>
    have e : m = 0 := by
      have : m < 1 := h1
      omega
    subst e
    cases h2
    rfl
  | entry =>
    have e : m = 0 ∨ m = 1 := by
      have : m < 2 := h1
      omega
    rcases e with rfl | rfl <;> (cases h2; rfl)
  | word =>
    have e : m = 0 ∨ m = 1 ∨ m = 2 := by
      have : m < 3 := h1
      omega
    rcases e with rfl | rfl | rfl <;> (cases h2; rfl)
theorem bl_flat (k : Kd) : (k.bl.map V.bl).all flatV = true := by cases k <;> rfl
theorem kd_word (k : Kd) : ([.str "tune", .str "number", .str "entry", .str "word"] : List V)[k.ix]? = some (.str k.txt) := by cases k <;> rfl
def sp_l_refusal (K : PySem.W.Frag) : Sp := fun vs H Q E => ∃ (p : Addr) (k : Kd) (R : List As), vs = [.ref p] ∧ Sep (pt p (ExA (.ref (He.ga K k.cls)) p) :: R) H ∧ ∀ u H', Sep (RefR u k :: R) H' → Q (.ref u) H'
theorem ln_l_refusal : ∀ vs H Q E, sp_l_refusal K vs H Q E → vs.length = (["_law_held"] : List Str).length := by
  rintro _ _ _ _ ⟨p, k, R, rfl, _⟩
  rfl
theorem sc_l_refusal : FnScope ["_law_held", "_law_kinds"] ["_law_held"] (defScope s_l_refusal) := ⟨rfl, rfl, rfl, by decide +kernel, rfl, by decide +kernel, by decide +kernel⟩
theorem ok_l_refusal (T : Top K mg) : OkD P w K mg base d_l_refusal 1 ["_law_held"] (sp_l_refusal K) := by
  refine okD (df_l_refusal T) sc_l_refusal (fun _ _ _ _ _ _ us hl => match us, hl with | [_], _ => rfl) ln_l_refusal (fun cdv A outer s H vs Q E hr h => ⟨_,
      pss_cons (ps_if (pt_cmpR op_isN1 (pv 0) pe_non (nomark _))
       (pss_one (ps_ret (pe_tup (pa_cons pe_str pa_nil))))
       (pss_nil))
      (pss_cons (ps_set (i := 1) sc_l_refusal.nd rfl (Or.inl rfl) (pe_lst (pa_cons (pe_callB call_isX (by rfl) (fr_isinstance T) (by decide +kernel) (pa_cons (pv 0) (pa_cons (px_ref rfl (gl_BadTune T)) pa_nil))) (pa_cons (pe_callB call_isX (by rfl) (fr_isinstance T) (by decide +kernel) (pa_cons (pv 0) (pa_cons (px_ref rfl (gl_BadNumber T)) pa_nil))) (pa_cons (pe_callB call_isX (by rfl) (fr_isinstance T) (by decide +kernel) (pa_cons (pv 0) (pa_cons (px_ref rfl (gl_BadEntry T)) pa_nil))) pa_nil)))))
      (pss_cons (ps_expr (pe_bm PySem.F.plainAttrs_list PySem.F.slot_list_append PySem.F.type_list_append mt_append (pv 1) (pa_cons (pe_callB call_isX (by rfl) (fr_isinstance T) (by decide +kernel) (pa_cons (pv 0) (pa_cons (px_ref rfl (gl_BadWord T)) pa_nil))) pa_nil)))
      (pss_cons (ps_if (PW.pt (pw_or (pt_cmpR (op_neA hr.units) (pe_bm PySem.F.plainAttrs_list PySem.F.slot_list_count PySem.F.type_list_count mt_countB (pv 1) (pa_cons pe_bl pa_nil)) pe_int (nomark _)) (pw_or1 (pt_not (px_truth (pe_callB call_isX (by rfl) (fr_isinstance T) (by decide +kernel) (pa_cons (pv 0) (pa_cons (pe_bltn (v := .ty "ValueError") (u := .type "ValueError") rfl (fr_ValueError T) (by decide +kernel) rfl) pa_nil))) (by intro _; rfl))))))
       (pss_one (ps_ret (pe_tup (pa_cons pe_str pa_nil))))
       (pss_nil))
      (pss_one (ps_ret (pe_tup (pa_cons pe_str (pa_cons (pe_ix ix_seq (pe_lst (pa_cons pe_str (pa_cons pe_str (pa_cons pe_str (pa_cons pe_str pa_nil))))) (pe_bm PySem.F.plainAttrs_list PySem.F.slot_list_index PySem.F.type_list_index mt_index (pv 1) (pa_cons pe_bl pa_nil)) (fun _ _ => rfl)) pa_nil)))))))), ?_⟩)
  obtain ⟨p, k, R, rfl, hS, h1⟩ := h
  walk_at "go"
  refine x_no rfl ?_
  walk_at "s"
  refine x_isX hS (xb_kd T k) (kiT T k) ?_
  walk_at "s"
  refine x_isX hS (xb_kd T k) (kiN T k) ?_
  walk_at "s"
  refine x_isX hS (xb_kd T k) (kiE T k) ?_
  walk_at "s"
  refine y_bml (sqL hS) ?_
  walk_at "s"
  refine x_isX hS (xb_kd T k) (kiW T k) ?_
  walk_at "s"
  refine x_append hS (by show 3 < sizeLine; decide) (fun H hS => ?_)
  walk_at "s"
  replace hS : Sep (pt u (.lst (k.bl.map V.bl)) :: pt p (ExA (.ref (He.ga K k.cls)) p) :: R) H := hS
  refine y_bml (sqL hS) ?_
  walk_at "s"
  refine x_cntB (bs := k.bl) (sqL hS) ?_
  walk_at "s"
  rw [bl_count]
  refine x_ndec (fun h => absurd rfl h) (fun _ => ?_)
  walk_at "s"
  refine x_isXT hS (xb_kd T k) (kiV T k) ?_
  walk_at "s"
  refine y_bml (sqL hS) ?_
  walk_at "s"
  refine x_index (j := k.ix) (z := .bl true) (sqL hS) rfl (bl_flat k) (bl_at k) rfl (bl_ahead k) ?_
  walk_at "s"
  refine x_ixL (sqL hS) (atI_nat (kd_word k)) ?_
  walk_at "s"
  exact h1 _ _ (hS.of (En.cons (En.drop (En.drop (En.drop En.refl)))))
/-! ### the law's own dice -/
def sp_l_below (K : PySem.W.Frag) : Sp := fun vs H Q E => ∃ (p : Addr) (n m : Int) (R : List As), vs = [.ref p, .int m] ∧ Sep (pt p (.lst [.int n]) :: R) H ∧ ∀ H', Sep (pt p (.lst [.int (dnext n)]) :: R) H' → Q (.int (dval n m)) H'
theorem ln_l_below : ∀ vs H Q E, sp_l_below K vs H Q E → vs.length = (["_law_dice", "_law_many"] : List Str).length := by
  rintro _ _ _ _ ⟨p, n, m, R, rfl, _⟩
  rfl
theorem sc_l_below : FnScope ["_law_dice", "_law_many"] ["_law_dice", "_law_many"] (defScope s_l_below) := ⟨rfl, rfl, rfl, by decide +kernel, rfl, by decide +kernel, by decide +kernel⟩
theorem ok_l_below (T : Top K mg) : OkD P w K mg base d_l_below 1 ["_law_dice", "_law_many"] (sp_l_below K) := by
  refine okD (df_l_below T) sc_l_below (fun _ _ _ _ _ _ us hl => match us, hl with | [_, _], _ => rfl) ln_l_below (fun cdv A outer s H vs Q E hr h => ⟨_,
      pss_cons (ps_asg (pe_op op_mod (pe_op op_addA (pe_op op_mulA pe_int (pe_ix ix_seq (pv 0) pe_int (fun _ _ => rfl))) pe_int) pe_int) (pg_sub (pv 0) pe_int set_list))
      (pss_one (ps_ret (pe_op op_fdiv (pe_op op_mulA (pe_ix ix_seq (pv 0) pe_int (fun _ _ => rfl)) (pv 1)) pe_int))), ?_⟩)
  obtain ⟨p, n, m, R, rfl, hS, h1⟩ := h
  have hd := dnext_ok n
  walk_at "go"
  refine x_ixL (sqL hS) (atI_nat (j := 0) rfl) ?_
  walk_at "s"
  refine x_mulI (.inl ⟨by decide, by decide⟩) ?_
  walk_at "s"
  refine x_I (by decide) ?_
  walk_at "s"
  refine y_setL hS (j := 0) rfl (fun H hS => ?_)
  walk_at "s"
  refine x_ixL (sqL hS) (atI_nat (j := 0) rfl) ?_
  walk_at "s"
  refine x_mulI (.inl ⟨by have := hd.1; unfold dnext at this; omega, by have := hd.2; unfold dnext at this; omega⟩) ?_
  walk_at "s"
  refine x_I ⟨by decide, by decide⟩ ?_
  exact h1 _ hS
def sp_l_mixed (K : PySem.W.Frag) : Sp := fun vs H Q E => ∃ (p q : Addr) (n : Int) (xs : List V) (R : List As), vs = [.ref p, .ref q] ∧ xs.length ≤ 60 ∧ Sep (pt p (.lst [.int n]) :: pt q (.lst xs) :: R) H ∧
  (∀ l H', Sep (pt l (.lst (mixd n xs).2) :: pt p (.lst [.int (mixd n xs).1]) :: pt q (.lst xs) :: R) H' → Q (.ref l) H')
theorem ln_l_mixed : ∀ vs H Q E, sp_l_mixed K vs H Q E → vs.length = (["_law_dice", "_law_some"] : List Str).length := by
  rintro _ _ _ _ ⟨p, q, n, xs, R, rfl, _⟩
  rfl
theorem rgV_rev {n i : Nat} {x : V} (h : (rgV 1 (n : Nat)).reverse[i]? = some x) : i < n - 1 ∧ x = .int ((n - 1 - i : Nat) : Int) := by
  have hl : (rgV 1 (n : Nat)).length = n - 1 := by
    rw [rgV_length]
    omega
  have hi : i < n - 1 := by
    have := (List.getElem?_eq_some_iff.mp h).1
    rw [List.length_reverse, hl] at this
    exact this
  refine ⟨hi, ?_⟩
  rw [List.getElem?_reverse (by rw [hl]; exact hi), hl] at h
  unfold rgV at h
  rw [List.getElem?_map, List.getElem?_range (by omega)] at h
  have e := Option.some.inj h
  rw [← e]
  have e3 : (1 : Int) + ((n - 1 - 1 - i : Nat) : Int) = ((n - 1 - i : Nat) : Int) := by omega
  show V.int ((1 : Int) + ((n - 1 - 1 - i : Nat) : Int)) = _
  rw [e3]
theorem sc_l_mixed : FnScope ["_law_dice", "_law_some", "_law_found", "_law_k", "_law_other", "_law_one"] ["_law_dice", "_law_some"] (defScope s_l_mixed) := ⟨rfl, rfl, rfl, by decide +kernel, rfl, by decide +kernel, by decide +kernel⟩
theorem ok_l_mixed (T : Top K mg) : OkD P w K mg base d_l_mixed 2 ["_law_dice", "_law_some"] (sp_l_mixed K) := by
  refine okD (df_l_mixed T) sc_l_mixed (fun _ _ _ _ _ _ us hl => match us, hl with | [_, _], _ => rfl) ln_l_mixed (fun cdv A outer s H vs Q E hr h => ⟨_,
      pss_cons (ps_set (i := 2) sc_l_mixed.nd rfl (Or.inl rfl) (pe_callTy call_listOf (by rfl) (fr_list T) (by decide +kernel) (pa_cons (pv 1) pa_nil)))
      (pss_cons (ps_for (passes_of rfl) rfl (pi_list (pe_revL (pe_listRg rfl rfl (fr_list T) (prg_2 rfl (fr_range T) pe_int (pe_callB call_lenA (by rfl) (fr_len T) (by decide +kernel) (pa_cons (pv 2) pa_nil)))))) (pg_name (i := 3) sc_l_mixed.nd rfl (Or.inl rfl))
       (pss_cons (ps_set (i := 4) sc_l_mixed.nd rfl (Or.inl rfl) (px_call (ok_l_below T) (hr.mono (by decide)) rfl (gl__law_below T) (fun σ => paD σ) (pa_cons (pv 0) (pa_cons (pe_op op_addA (pv 3) pe_int) pa_nil))))
        (pss_cons (ps_set (i := 5) sc_l_mixed.nd rfl (Or.inl rfl) (pe_ix ix_seq (pv 2) (pv 3) (fun _ _ => rfl)))
        (pss_cons (ps_asg (pe_ix ix_seq (pv 2) (pv 4) (fun _ _ => rfl)) (pg_sub (pv 2) (pv 3) set_list))
        (pss_one (ps_asg (pv 5) (pg_sub (pv 2) (pv 4) set_list)))))))
      (pss_one (ps_ret (pv 2)))), ?_⟩)
  obtain ⟨p, q, n, xs, R, rfl, hx, hS, h1⟩ := h
  walk_at "go"
  refine x_listOf hS (sqL hS) fun l H hS => ?_
  walk_at "s"
  refine x_lenL (sqL hS) ?_
  walk_at "s"
  refine y_lrange2 hS (.of_le (by decide) (by omega) (by decide) (by omega)) fun l2 H hS => ?_
  walk_at "s"
  refine y_rev hS (sqL hS) fun l3 H hS => ?_
  have hle : (rgV 1 (xs.length : Nat)).reverse.length = xs.length - 1 := by
    rw [List.length_reverse, rgV_length]
    omega
  refine y_forL (fun i σ H => ∃ a b c : Option V, σ = [some (.ref p), some (.ref q), some (.ref l), a, b, c] ∧ Sep (pt l (.lst (mixI xs.length i (n, xs)).2) :: pt p (.lst [.int (mixI xs.length i (n, xs)).1]) :: pt l3 (.lst (rgV 1 (xs.length : Nat)).reverse) :: pt q (.lst xs) :: R) H)
    (sqL hS) ⟨none, none, none, rfl, (show Sep (pt l3 _ :: pt l2 _ :: pt l (.lst (mixI xs.length 0 (n, xs)).2) :: pt p (.lst [.int (mixI xs.length 0 (n, xs)).1]) :: pt q _ :: R) H from hS).of (En.cons (En.cons (En.cons (En.drop En.refl))))⟩ (fun i σ H hi ⟨_, _, _, _, hS⟩ => sqL hS) ?_ ?_
  · rintro i x σ H hi ⟨a, b, c, rfl, hS⟩
    obtain ⟨hi, rfl⟩ := rgV_rev hi
    have hL : (mixI xs.length i (n, xs)).2.length = xs.length := mixI_length xs.length (n, xs) i
    have e2 : (mixI xs.length (i + 1) (n, xs)) = mixS (xs.length - 1 - i) (mixI xs.length i (n, xs)) := rfl
    obtain ⟨k, hk⟩ : ∃ k : Nat, xs.length - 1 - i = k := ⟨_, rfl⟩
    have dv := dval_ok (mixI xs.length i (n, xs)).1 (m := (k : Int) + 1) (by omega)
    rw [e2, hk]
    obtain ⟨s, hs⟩ : ∃ s, s = mixI xs.length i (n, xs) := ⟨_, rfl⟩
    rw [← hs] at hL dv hS ⊢
    walk_at "s"
    refine ⟨p, _, _, _, rfl, hS.own p, fun H hS => ?_⟩
    walk_at "s"
    refine x_ixL (sqL hS) (atI_nat (v := s.2.getD k .non) (getD_some (by omega))) ?_
    walk_at "s"
    refine x_ixL (sqL hS) (atI_some (v := s.2.getD (dval s.1 (k + 1)).toNat .non) dv.1 (getD_some (by omega))) ?_
    walk_at "s"
    refine y_setL hS (ixN_some (by omega) (by omega)) (fun H hS => ?_)
    walk_at "s"
    refine y_setL hS (ixN_some (by omega) (by rw [List.length_set]; omega)) (fun H hS => ?_)
    walk_at "s"
    refine ⟨_, _, _, rfl, ?_⟩
    rw [Int.toNat_natCast] at hS
    exact (show Sep (pt l (.lst (mixS k s).2) :: pt p (.lst [.int (mixS k s).1]) :: pt l3 _ :: pt q (.lst xs) :: R) H from hS)
  · rintro σ H ⟨a, b, c, rfl, hS⟩
    walk_at "s"
    rw [hle] at hS
    exact h1 l _ ((show Sep (pt l (.lst (mixd n xs).2) :: pt p (.lst [.int (mixd n xs).1]) :: pt l3 _ :: pt q (.lst xs) :: R) H from hS).of (En.cons (En.cons (En.drop En.refl))))
/-! ### a call, its refusal told -/
def sp_l_told (K : PySem.W.Frag) : Sp := fun vs H Q E =>
  (∃ (p : Addr) (n m : Int) (R : List As), vs = [.ref p, .int m] ∧ okSeed n ∧ Sep (DiceR K p n :: R) H ∧ (okMany m → ∀ H', Sep (DiceR K p (dnext n) :: R) H' → Q (.int (dval n m)) H') ∧
    (¬ okMany m → ∀ u H', Sep (RefR u .number :: DiceR K p n :: R) H' → Q (.ref u) H')) ∨
  ∃ (m : Int) (R : List As), vs = [.non, .int m] ∧ ¬ okSeed m ∧ Sep R H ∧ ∀ u H', Sep (RefR u .number :: R) H' → Q (.ref u) H'
theorem ln_l_told : ∀ vs H Q E, sp_l_told K vs H Q E → vs.length = (["_law_dice", "_law_many"] : List Str).length := by
  rintro _ _ _ _ (⟨p, n, m, R, rfl, _⟩ | ⟨m, R, rfl, _⟩) <;> rfl
theorem sc_l_told : FnScope ["_law_dice", "_law_many", "_law_held", "_law_found", "e"] ["_law_dice", "_law_many"] (defScope s_l_told) := ⟨rfl, rfl, rfl, by decide +kernel, rfl, by decide +kernel, by decide +kernel⟩
theorem ok_l_told (T : Top K mg) : OkD P w K mg base d_l_told 3 ["_law_dice", "_law_many"] (sp_l_told K) := by
  refine okD (df_l_told T) sc_l_told (fun _ _ _ _ _ _ us hl => match us, hl with | [_, _], _ => rfl) ln_l_told (fun cdv A outer s H vs Q E hr h => ⟨_,
      pss_cons (ps_set (i := 2) sc_l_told.nd rfl (Or.inl rfl) pe_non)
      (pss_cons (ps_set (i := 3) sc_l_told.nd rfl (Or.inl rfl) pe_non)
      (pss_cons (ps_try_hold (i := 4) (Wout := fun _ _ _ _ => False) rfl rfl rfl sc_l_told.nd rfl rfl ⟨rfl, by decide, .inl (gl_RoadError T)⟩ takes0
       (fun W pn xe tk po => (by exact pss_one (ps_set (i := 3) sc_l_told.nd rfl (Or.inl rfl) (pe_ifExp (pt_cmpR op_isN1 (pv 0) pe_non (nomark _)) (pe_cmpR op_isN1 (px_make (E := WE W) (ok_Dice_init T) (hr.mono (by decide)) (mk_Dice T) rfl (gl_Dice T) (fun σ => passAt tk σ) (pa_cons (pv 1) pa_nil)) pe_non (nomark _)) (px_meth (E := WE W) (ok_Dice_below T) (hr.mono (by decide)) (pv 0) (cl_Dice T) (me_Dice_below T) (fun σ => passAt tk σ) (pa_cons (pv 1) pa_nil))))))
       (fun a pn => (by exact pss_one (ps_set (i := 2) sc_l_told.nd rfl (Or.inl rfl) (pv 4)))))
      (pss_one (ps_ret (pe_ifExp (pt_cmpR op_isN1 (pv 2) pe_non (nomark _)) (pv 3) (px_call (ok_l_refusal T) (hr.mono (by decide)) rfl (gl__law_refusal T) (fun σ => paD σ) (pa_cons (pv 2) pa_nil))))))), ?_⟩)
  rcases h with ⟨p, n, m, R, rfl, hn, hS, h1, h2⟩ | ⟨m, R, rfl, hm, hS, h1⟩
  · walk_at "go"
    refine x_no rfl ?_
    walk_at "s"
    refine ⟨p, n, m, R, rfl, hn, hS, fun ho H hS => ?_, fun ho H hS => ?_⟩
    · walk_at "s"
      refine x_yes rfl ?_
      walk_at "s"
      exact h1 ho _ hS
    · refine y_hold (xm_BadNumber_RoadError T) (fun _ => rfl) hS fun e H hS => ?_
      walk_at "s"
      refine x_no rfl ?_
      walk_at "s"
      exact ⟨e, .number, _, rfl, hS, fun u H hS => h2 ho u H hS⟩
  · walk_at "go"
    refine x_yes rfl ?_
    walk_at "s"
    refine y_mk hS fun x dx H hS => ?_
    refine ⟨x, dx, m, R, rfl, hS, fun z => absurd z hm, fun ho H hS => ?_⟩
    refine y_hold (xm_BadNumber_RoadError T) (fun _ => rfl) hS fun e H hS => ?_
    walk_at "s"
    refine x_no rfl ?_
    walk_at "s"
    exact ⟨e, .number, _, rfl, hS, fun u H hS => h1 u H hS⟩

end
end TR

set_option Elab.async false
set_option linter.all false
set_option maxRecDepth 100000
set_option maxHeartbeats 4000000
/-! .. -/

namespace TR
open PySem PySem.Spec PyProof.Rows L2
section
variable {P : Program} {w : World} {K : PySem.W.Frag} {mg : Str → Option Value} {base : Heap}
/-! ### the law -/
def sp_law (K : PySem.W.Frag) : Sp := fun vs H Q E => ∃ (a : Addr) (ns : List Int), vs = [.ref a] ∧ Sep [ScrA K a ns] H ∧ ∀ H', Q (.bl true) H'
theorem ln_law : ∀ vs H Q E, sp_law K vs H Q E → vs.length = (["_law_script"] : List Str).length := by
  rintro _ _ _ _ ⟨a, ns, rfl, _⟩
  rfl
theorem drawN (ns : List Int) (n : Nat) {m : Int} (h : 0 < m) : ∃ j : Nat, draw ns n m = (j : Nat) ∧ (j : Int) < m := by
  have d := draw_ok ns n h
  exact ⟨(draw ns n m).toNat, by omega, by omega⟩
abbrev refD (k : Kd) : PyData := .tuple [.str "refused", .str k.txt]
theorem refD_dp {p : Addr} {k : Kd} {L R : List As} {H : Hp} (h : Sep L H) [q : At p L (.tup [.str "refused", .str k.txt]) R] : Dp K H (.ref p) (refD k) := .tup (SqT.of h.at_) (.cons (.str _) (.cons (.str _) .nil))
theorem refD_sh (k : Kd) : SeqAt.shaped (refD k) = true := by cases k <;> decide +kernel
/-- tuples ("refused", "number") stand at us -/
def RefsP (us : List Addr) : As := fun h => ∀ u ∈ us, h u = some (.tup [.str "refused", .str Kd.number.txt])
theorem RefsP.dp {us : List Addr} {H h : Hp} (s : Sb h H) (r : RefsP us h) : DpAll K H (us.map V.ref) (us.map fun _ => refD .number) := by
  induction us with
  | nil => exact .nil
  | cons u us ih => exact .cons (.tup (SqT.of (s _ _ (r u List.mem_cons_self))) (.cons (.str _) (.cons (.str _) .nil))) (ih fun w hw => r w (List.mem_cons_of_mem _ hw))
theorem sc_law : FnScope ["_law_script", "_law_town", "_law_seed", "_law_dice", "_law_own", "_law_k", "_law_many", "_law_some", "_law_given", "_law_found", "_law_bad"] ["_law_script"] (defScope s_law) := ⟨rfl, rfl, rfl, by decide +kernel, rfl, by decide +kernel, by decide +kernel⟩
theorem ok_law (T : Top K mg) : OkD P w K mg base d_law 5 ["_law_script"] (sp_law K) := by
  refine okD (df_law T) sc_law (fun _ _ _ _ _ _ us hl => match us, hl with | [_], _ => rfl) ln_law (fun cdv A outer s H vs Q E hr h => ⟨_,
      pss_cons (ps_set (i := 1) sc_law.nd rfl (Or.inl rfl) (pe_lst pa_nil))
      (pss_cons (ps_set (i := 2) sc_law.nd rfl (Or.inl rfl) (px_call (ok_l_pick T) (hr.mono (by decide)) rfl (gl__law_pick T) (fun σ => paD σ) (pa_cons (pv 0) (pa_cons (pv 1) (pa_cons (pe_lst (pa_cons pe_int (pa_cons pe_int (pa_cons (px_call (ok_l_draw T) (hr.mono (by decide)) rfl (gl__law_draw T) (fun σ => paD σ) (pa_cons (pv 0) (pa_cons (pv 1) (pa_cons pe_int pa_nil)))) pa_nil)))) pa_nil)))))
      (pss_cons (ps_set (i := 3) sc_law.nd rfl (Or.inl rfl) (px_make (ok_Dice_init T) (hr.mono (by decide)) (mk_Dice T) rfl (gl_Dice T) (fun σ => paD σ) (pa_cons (pv 2) pa_nil)))
      (pss_cons (ps_set (i := 4) sc_law.nd rfl (Or.inl rfl) (pe_lst (pa_cons (pv 2) pa_nil)))
      (pss_cons (ps_for (passes_of rfl) rfl (pi_range1 rfl (fr_range T) (pa_cons (px_call (ok_l_draw T) (hr.mono (by decide)) rfl (gl__law_draw T) (fun σ => paD σ) (pa_cons (pv 0) (pa_cons (pv 1) (pa_cons pe_int pa_nil)))) pa_nil)) (pg_name (i := 5) sc_law.nd rfl (Or.inl rfl))
       (pss_cons (ps_set (i := 6) sc_law.nd rfl (Or.inl rfl) (px_call (ok_l_pick T) (hr.mono (by decide)) rfl (gl__law_pick T) (fun σ => paD σ) (pa_cons (pv 0) (pa_cons (pv 1) (pa_cons (pe_lst (pa_cons pe_int (pa_cons pe_int (pa_cons pe_int (pa_cons pe_int (pa_cons (pe_un un_neg pe_int) (pa_cons (pe_op op_addA pe_int (px_call (ok_l_draw T) (hr.mono (by decide)) rfl (gl__law_draw T) (fun σ => paD σ) (pa_cons (pv 0) (pa_cons (pv 1) (pa_cons pe_int pa_nil))))) pa_nil))))))) pa_nil)))))
        (pss_one (ps_if (pt_not (pt_chain op_le op_le pe_int (pv 6) pe_int))
         (pss_one (ps_if (pt_cmpR (op_neA hr.units) (px_call (ok_l_told T) (hr.mono (by decide)) rfl (gl__law_told T) (fun σ => paD σ) (pa_cons (pv 3) (pa_cons (pv 6) pa_nil))) (pe_tup (pa_cons pe_str (pa_cons pe_str pa_nil))) (nomark _))
           (pss_one (ps_ret pe_bl))
           (pss_nil)))
         (pss_one (ps_if (pt_cmpR (op_neA hr.units) (px_call (ok_l_told T) (hr.mono (by decide)) rfl (gl__law_told T) (fun σ => paD σ) (pa_cons (pv 3) (pa_cons (pv 6) pa_nil))) (px_call (ok_l_below T) (hr.mono (by decide)) rfl (gl__law_below T) (fun σ => paD σ) (pa_cons (pv 4) (pa_cons (pv 6) pa_nil))) (nomark _))
           (pss_one (ps_ret pe_bl))
           (pss_nil)))))))
      (pss_cons (ps_set (i := 7) sc_law.nd rfl (Or.inl rfl) (pe_listRg rfl rfl (fr_list T) (prg_1 rfl (fr_range T) (px_call (ok_l_draw T) (hr.mono (by decide)) rfl (gl__law_draw T) (fun σ => paD σ) (pa_cons (pv 0) (pa_cons (pv 1) (pa_cons pe_int pa_nil)))))))
      (pss_cons (ps_set (i := 8) sc_law.nd rfl (Or.inl rfl) (pe_callTy call_listOf (by rfl) (fr_list T) (by decide +kernel) (pa_cons (pv 7) pa_nil)))
      (pss_cons (ps_set (i := 9) sc_law.nd rfl (Or.inl rfl) (px_call (ok_mixed T) (hr.mono (by decide)) rfl (gl_mixed T) (fun σ => paD σ) (pa_cons (pv 3) (pa_cons (pv 7) pa_nil))))
      (pss_cons (ps_if (PW.pt (pw_or (pt_cmpR (op_neA hr.units) (pv 9) (px_call (ok_l_mixed T) (hr.mono (by decide)) rfl (gl__law_mixed T) (fun σ => paD σ) (pa_cons (pv 4) (pa_cons (pv 7) pa_nil))) (nomark _)) (pw_or (pt_cmpR (op_neA hr.units) (pv 7) (pv 8) (nomark _)) (pw_or1 (pt_cmpR (op_neA hr.units) (pe_callB cr_sorted (by rfl) (fr_sorted T) (by decide +kernel) (pa_cons (pv 9) pa_nil)) (pv 8) (nomark _))))))
       (pss_one (ps_ret pe_bl))
       (pss_nil))
      (pss_cons (ps_if (pt_cmpR (op_neA hr.units) (px_meth (ok_Dice_below T) (hr.mono (by decide)) (pv 3) (cl_Dice T) (me_Dice_below T) (fun σ => paD σ) (pa_cons pe_int pa_nil)) (px_call (ok_l_below T) (hr.mono (by decide)) rfl (gl__law_below T) (fun σ => paD σ) (pa_cons (pv 4) (pa_cons pe_int pa_nil))) (nomark _))
       (pss_one (ps_ret pe_bl))
       (pss_nil))
      (pss_one (ps_ret (pe_cmpR (op_eqA hr.units) (pe_lc (own := [("_law_bad", 10)]) (g := gName 10) (by rfl) sc_law.nd (pi_tup (pe_tup (pa_cons (pe_un un_neg pe_int) (pa_cons pe_int pa_nil)))) (blkOk_by (own := [("_law_bad", 10)]) (N := ["_law_script", "_law_town", "_law_seed", "_law_dice", "_law_own", "_law_k", "_law_many", "_law_some", "_law_given", "_law_found", "_law_bad"]) (sc := defScope s_law) (by decide +kernel)) (fun _ _ _ _ _ => pg_name (i := 10) sc_law.nd rfl (Or.inl rfl)) (fun _ _ _ _ _ => pts_nil) (fun _ _ _ _ _ => px_call (E := (fun _ => E0)) (ok_l_told T) (hr.mono (by decide)) rfl (gl__law_told T) (fun σ => paN σ) (pa_cons pe_non (pa_cons (pv 10) pa_nil)))) (pe_op op_mulA (pe_lst (pa_cons (pe_tup (pa_cons pe_str (pa_cons pe_str pa_nil))) pa_nil)) pe_int) (nomark _))))))))))))), ?_⟩)
  obtain ⟨a, ns, rfl, hS, h1⟩ := h
  walk_at "go"
  rename Addr => t
  replace hS : Sep (TownA t 0 :: [ScrA K a ns]) H := hS
  refine draw_use (by decide) (by omega) (hS.own2 a t) fun d0 H hd0 hS => ?_
  walk_at "s"
  refine pick_use (by intro z; cases z) (by omega) (hS.own3 a t u) fun v H hv hS => ?_
  obtain ⟨s0, rfl, hs0⟩ : ∃ s, v = .int s ∧ okSeed s := by
    simp only [List.mem_cons, List.not_mem_nil, or_false] at hv
    rcases hv with rfl | rfl | rfl
    · exact ⟨0, rfl, by decide, by decide⟩
    · exact ⟨6074, rfl, by decide, by decide⟩
    · exact ⟨_, rfl, by omega, hd0⟩
  walk_at "s"
  refine y_mk hS fun d dx H hS => ?_
  refine ⟨d, dx, s0, _, rfl, hS.own d, fun _ H hS => ?_, fun z => absurd hs0 z⟩
  walk_at "s"
  rename Addr => o
  refine draw_use (by decide) (by omega) (hS.own2 a t) fun n1 H hn1 hS => ?_
  refine y_for1 (fun i σ H => ∃ (n : Nat) (m : Int) (b1 b2 : Option V), σ = [some (.ref a), some (.ref t), some (.int s0), some (.ref d), some (.ref o), b1, b2, none, none, none, none] ∧ okSeed m ∧ n ≤ 3 + 2 * i ∧ Sep [ScrA K a ns, TownA t n, DiceR K d m, pt o (.lst [.int m])] H)
    (by omega) ⟨3, s0, none, none, rfl, hs0, by omega, hS.of (En.cons (En.cons (En.cons (En.cons En.nil))))⟩ ?_ ?_
  · rintro i σ H hi ⟨n, m, b1, b2, rfl, hm, hn, hS⟩
    walk_at "s"
    refine draw_use (by decide) (by omega) (hS.own2 a t) fun d1 H hd1 hS => ?_
    walk_at "s"
    refine pick_use (by intro z; cases z) (by omega) (hS.own3 a t u) fun v H hv hS => ?_
    obtain ⟨y, rfl⟩ : ∃ y, v = .int y := by
      simp only [List.mem_cons, List.not_mem_nil, or_false] at hv
      rcases hv with rfl | rfl | rfl | rfl | rfl | rfl <;> exact ⟨_, rfl⟩
    have bad : ¬ okMany y → ∀ {H : Hp}, Sep [ScrA K a ns, TownA t (n + 1 + 1), pt u (.lst [V.int 1, V.int 60, V.int 0, V.int 61, V.int (-1), V.int (1 + (d1 : Nat))]), DiceR K d m, pt o (.lst [.int m])] H → ∀ (Q' : VK), (∀ H', Sep [ScrA K a ns, TownA t (n + 1 + 1), DiceR K d m, pt o (.lst [.int m])] H' → Q' (.bl false) H') →
        sp_l_told K [.ref d, .int y] H (kOp1 (rNeA K) (tTup (tCons (tC (.str "refused")) (tCons (tC (.str "number")) tNil))) [some (.ref a), some (.ref t), some (.int s0), some (.ref d), some (.ref o), some (.int (i : Nat)), some (.int y), none, none, none, none] Q') E := fun hy H hS Q' q =>
      .inl ⟨d, m, y, _, rfl, hm, hS.own d, fun z => absurd z hy, fun _ u H hS => by
        walk_at "s"
        refine x_neD (refD_dp (k := .number) hS) (refD_dp (k := .number) hS) (refD_sh _) (refD_sh _) ?_
        rw [eqv_of (refD_sh _)]
        exact q _ (hS.of (En.drop (En.drop (En.cons (En.cons (En.cons (En.cons En.nil)))))))⟩
    walk_at "s"
    refine x_dec (fun ha => ?_) (fun ha => ?_)
    · walk_at "s"
      refine x_ndec (fun hb => ?_) (fun hb => ?_)
      · walk_at "s"
        refine bad (fun z => hb z.2) hS _ fun H hS => ?_
        walk_at "s"
        exact ⟨n + 1 + 1, m, _, _, rfl, hm, by omega, hS⟩
      · walk_at "s"
        refine .inl ⟨d, m, y, _, rfl, hm, hS.own d, fun _ H hS => ?_, fun z => absurd ⟨ha, hb⟩ z⟩
        walk_at "s"
        refine ⟨o, m, y, _, rfl, hS.own o, fun H hS => ?_⟩
        walk_at "s"
        refine x_ndec (fun z => absurd rfl z) (fun _ => ?_)
        walk_at "s"
        exact ⟨n + 1 + 1, dnext m, _, _, rfl, dnext_ok m, by omega, hS.of (En.cons (En.cons (En.cons (En.cons En.nil))))⟩
    · walk_at "s"
      refine bad (fun z => ha z.1) hS _ fun H hS => ?_
      walk_at "s"
      exact ⟨n + 1 + 1, m, _, _, rfl, hm, by omega, hS⟩
  · rintro σ H ⟨n, m, b1, b2, rfl, hm, hn, hS⟩
    have hn1' : n1 < 61 := by omega
    walk_at "s"
    refine draw_use (by decide) (by omega) (hS.own2 a t) fun n2 H hn2 hS => ?_
    refine y_lrange1 hS (by omega) (by omega) fun l1 H hS => ?_
    obtain ⟨is, his⟩ : ∃ is : List Int, is = (List.range n2).map fun i => ((i : Nat) : Int) := ⟨_, rfl⟩
    have hrg : rgV 0 (n2 : Nat) = is.map V.int := by
      rw [his, List.map_map]
      unfold rgV
      rw [show ((n2 : Int) - 0).toNat = n2 by omega]
      refine List.map_congr_left fun i _ => ?_
      show V.int (0 + (i : Nat)) = V.int (i : Nat)
      rw [Int.zero_add]
    have hisl : is.length = n2 := by rw [his, List.length_map, List.length_range]
    have hsort : is.Pairwise (· ≤ ·) := by
      rw [his]
      exact List.Pairwise.map _ (fun a b (h : a < b) => by omega) List.pairwise_lt_range
    rw [hrg] at hS
    walk_at "s"
    refine x_listOf hS (sqL hS) fun l2 H hS => ?_
    walk_at "s"
    have hl2 : (is.map V.int).length ≤ 60 := by rw [List.length_map]; omega
    refine ⟨d, l1, m, is.map V.int, _, rfl, hm, hl2, hS.own2 d l1, fun l3 H hS => ?_⟩
    obtain ⟨js, hjs, hp⟩ := perm_ints (mixd_perm m (is.map V.int))
    have hjl : js.length = n2 := by rw [hp.length_eq, hisl]
    walk_at "s"
    refine ⟨o, l1, m, is.map V.int, _, rfl, hl2, hS.own2 o l1, fun l4 H hS => ?_⟩
    rw [hjs] at hS
    walk_at "s"
    refine x_neD (dp_ints (ns := js) (sqL hS)) (dp_ints (ns := js) (sqL hS)) (shaped_ints js) (shaped_ints js) ?_
    rw [eqv_of (shaped_ints js)]
    walk_at "s"
    refine x_neD (dp_ints (ns := is) (sqL hS)) (dp_ints (ns := is) (sqL hS)) (shaped_ints is) (shaped_ints is) ?_
    rw [eqv_of (shaped_ints is)]
    walk_at "s"
    refine x_sorted (ns := js) hS (sqL hS) (by omega) fun ks l5 H hk1 hk2 hS => ?_
    have ek : ks = is := (hk1.trans hp).eq_of_pairwise (fun x y _ _ h1 h2 => Int.le_antisymm h1 h2) hk2 hsort
    subst ek
    walk_at "s"
    refine x_neD (dp_ints (ns := ks) (sqL hS)) (dp_ints (ns := ks) (sqL hS)) (shaped_ints ks) (shaped_ints ks) ?_
    rw [eqv_of (shaped_ints ks)]
    walk_at "s"
    refine ⟨d, _, 60, _, rfl, mixd_ok hm _, hS.own d, fun _ H hS => ?_, fun z => absurd (show okMany 60 from ⟨by decide, by decide⟩) z⟩
    walk_at "s"
    refine ⟨o, _, 60, _, rfl, hS.own o, fun H hS => ?_⟩
    walk_at "s"
    refine x_ndec (fun z => absurd rfl z) (fun _ => ?_)
    walk_at "s"
    refine y_lcT (xs := [.int (-1), .int 6075]) (sqT hS) hS (fun D i H => ∃ us : List Addr, us.length = i ∧ Sep [pt D (.lst (us.map V.ref)), RefsP us, pt u (.tup [.int (-1), .int 6075])] H) (fun D H hS => ⟨[], rfl, ?_⟩) (fun D i H hi ⟨_, _, hS⟩ => sqT hS) ?_ ?_
    · change Sep [pt D (.lst []), RefsP [], pt u (.tup [.int (-1), .int 6075])] H
      exact (Sep.pui (φ := True) trivial hS).of (En.trans (fun H h => Sep.swap (Sep.hd (B := RefsP []) (fun h _ w hw => absurd hw (by simp)) h)) (En.cons (En.cons (En.cons En.nil))))
    · rintro D i x H hi ⟨us, hus, hS⟩
      obtain ⟨z, hz, rfl⟩ : ∃ z : Int, ¬ okSeed z ∧ x = .int z := by
        have hm := List.mem_of_getElem? hi
        simp only [List.mem_cons, List.not_mem_nil, or_false] at hm
        rcases hm with rfl | rfl
        · exact ⟨-1, fun z => absurd z.1 (by decide), rfl⟩
        · exact ⟨6075, fun z => absurd z.2 (by decide), rfl⟩
      have hi2 : i < 2 := (List.getElem?_eq_some_iff.mp hi).1
      walk_at "s"
      refine .inr ⟨z, _, rfl, hz, hS, fun w H hS => ?_⟩
      refine y_el hS (by rw [List.length_map]; omega) fun H hS => ?_
      refine ⟨us ++ [w], by rw [List.length_append, hus] <;> rfl, ?_⟩
      rw [List.map_append]
      have h3 := hS.of (L' := [pt w (.tup [.str "refused", .str Kd.number.txt]), RefsP us, pt D (.lst (us.map V.ref ++ [V.ref w])), pt u (.tup [.int (-1), .int 6075])]) (En.cons (En.cons (En.cons (En.cons En.nil))))
      have h4 := h3.join (C := RefsP (us ++ [w])) fun h1 h2 h s1 s2 a b y hy => by
        rcases List.mem_append.mp hy with hy | hy
        · exact s2 _ _ (b y hy)
        · rw [List.mem_singleton.mp hy]
          exact s1 _ _ a
      exact h4.swap
    · rintro D H ⟨us, hus, hS⟩
      walk_at "s"
      refine x_mulL (n := 2) hS (by decide) (by show 1 * 2 ≤ sizeLine; decide) fun w2 H hS => ?_
      obtain ⟨u1, u2, rfl⟩ : ∃ u1 u2, us = [u1, u2] := match us, hus with
        | [u1, u2], _ => ⟨u1, u2, rfl⟩
      obtain ⟨h, s1, r⟩ := (hS.to (A := RefsP [u1, u2])).part
      have left : Dp K H (.ref D) (.list [refD .number, refD .number]) := .lst (sqL hS) (RefsP.dp s1 r)
      have right : Dp K H (.ref w2) (.list [refD .number, refD .number]) := .lst (sqL hS) (.cons (refD_dp (k := .number) hS) (.cons (refD_dp (k := .number) hS) .nil))
      have sh : SeqAt.shaped (.list [refD .number, refD .number]) = true := by decide +kernel
      walk_at "s"
      refine x_eqD left right sh sh ?_
      rw [eqv_of sh]
      exact h1 _
theorem law_start {a : Addr} {ns : List Int} {H : Hp} (hl : ns.length ≤ 63) (h : SqL K H a (ns.map V.int)) : sp_law K [.ref a] H (fun v _ => v = .bl true) (fun _ _ _ => False) := ⟨a, ns, rfl, scr_sep h, fun _ => rfl⟩
theorem endF {P : Program} {w : World} {K : PySem.W.Frag} {mg : Str → Option Value} {h : Heap} {f : Addr} (X : K.In h) (G : h.Ns mainGlobals mg) (hfa : mg ("law" : Str) = some (.ref f)) (c : Says fa fn exs K) :
    ∃ fd : FuncData, (∀ (s : Shared) (v : Value), BindsTo s fd ⟨[v], []⟩ [("_law_script", v)]) ∧ ∀ base : Heap, K.In base → base.Ns mainGlobals mg → FnOk P w K mg base CXall 5 f fd ["_law_script"] (sp_law K) := by
  have T : Top K mg := ⟨c, h, X, G⟩
  have e := hfa.symm.trans (gl_law T)
  cases e
  obtain ⟨fd, ⟨_, b⟩, ⟨_, oc, od, osl, lk⟩, F⟩ := ok_law (P := P) (w := w) (base := h) T
  refine ⟨fd, fun s v => b s [v] rfl, fun base _ _ => ?_⟩
  obtain ⟨fd2, _, ⟨_, oc2, od2, osl2, lk2⟩, F2⟩ := ok_law (P := P) (w := w) (base := base) T
  have e := lk.symm.trans lk2
  cases e
  exact fn_all F2
end
end TR
open PySem PySem.W PySem.Calls PyProof.Rows
set_option maxRecDepth 100000 in
set_option maxHeartbeats 0 in
theorem PySem.Challenge.cw_tuneroad_k02_whole_dice_holds : PySem.Challenge.rw_tuneroad_k02_whole_dice.Holds := by
  w_on; o_law
  refine HandSHeadRun.head_any (r := OpenLaw.row PySem.Challenge.rw_tuneroad_k02_whole_dice) (q := TR.qV) (H := TR.hk) (ob := TR.ob) (M := TR.steps) (loose := TR.loose) (d := HandSHeadRun.topDef (OpenLaw.row PySem.Challenge.rw_tuneroad_k02_whole_dice).prog TR.ilaw) (kwd := []) TR.ob_eq
    (by kernel_rfl) (fun s => by kernel_rfl) TR.run (by kernel_rfl) (by kernel_rfl) (by kernel_rfl) (by rfl) (by first | assumption | decide +kernel) (by decide +kernel) ⟨rfl, rfl, rfl, rfl, rfl, by decide +kernel⟩ ?hw ?hc
  case hw => w_witness2
  case hc =>
    refine L2.walk_ofE (l := PySem.Challenge.rw_tuneroad_k02_whole_dice) (n := 63) (k := 5) (x := "_law_script") (CX := TR.CXall) rfl (by decide) (by kernel_rfl) ⟨rfl, by decide, by decide⟩ ?F TR.cxall_no
    intro w mg fa h Y G hmg0
    obtain ⟨K, KX, c⟩ := Y
    have hmg : mg ("law" : PySem.Str) = some (.ref fa) := by
      have e : (HandSHeadRun.topDef (OpenLaw.row PySem.Challenge.rw_tuneroad_k02_whole_dice).prog TR.ilaw).name = ("law" : PySem.Str) := by kernel_rfl
      rw [← e]
      exact hmg0
    obtain ⟨fd, hb, hF⟩ := TR.endF (P := (PySem.Challenge.rw_tuneroad_k02_whole_dice).prog) (w := w) KX G hmg c
    exact ⟨K, fd, TR.sp_law K, KX, hb, fun H a ns hl _ hS => TR.law_start hl hS, hF⟩
#print axioms PySem.Challenge.cw_tuneroad_k02_whole_dice_holds


