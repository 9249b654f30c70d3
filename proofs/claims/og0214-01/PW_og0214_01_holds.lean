import PyProof.Rows.All
import OpenK.KMore
import KE.KFromBytes
import KE.BytesMake
import KE.KRevSl
import KE.KBytesWalk
import KE.KBytesCut
import KE.KxBytes
import KE.KToBytes
import KE.BytesMulAny
import KE.BitLaws
import OpenK.KOwn
import Wide.All
import PySem.Challenge.RW_og0214_01
open PySem PySem.W PyProof.Rows
set_option Elab.async false
set_option linter.all false
set_option maxRecDepth 100000
set_option genSizeOf false
set_option genInjectivity false
section
set_option genCtorIdx false
namespace Mine

/-! the head: the top's run, by the kit's look -/
noncomputable def headKeep : List Nat := (List.range 57).filter fun i => !([0, 2, 5, 27, 42].contains i)
noncomputable def headView : Program := view PySem.Challenge.pw_og0214_01 headKeep
theorem head_open (w : World) : (openEnds treeTable PySem.Challenge.pw_og0214_01 w 6230).map (fun s => openSeen headView ["Record"] (importedModules PySem.Challenge.pw_og0214_01.main.body) (fun s => xlAt headView [] s) true s) = some (openGood headView ["Record"]) := by
  unfold openEnds topFrom
  rw [PySem.W.Fast.te14082659384304107361, PySem.W.Fast.te14364793385576792824, PySem.W.Fast.te4187177175401517315, PySem.W.Fast.te5923862056798008813]
  kernel_rfl
end Mine
end
section
namespace Mine
open PySem.Builtin.Bytes (decodersThatHold)

/-! A logic like wpAny, over those contexts alone in which no built-in that lends a bytearray's memory is under way. -/
noncomputable def lenders : List String := ["bytearray.__contains__", "bytearray.__mod__", "bytearray.__rmod__", "_struct.pack_into.held", "bytearray.find.held"] ++ decodersThatHold
noncomputable def calmCode : Code → Bool
  | .builtin id _ => !lenders.contains id
  | _ => true
noncomputable def calmL (l : List (Code × Pos)) : Prop := ∀ x ∈ l, calmCode x.1 = true
/-- what a look over the stack says of one code -/
noncomputable def lends (self : Value) (x : Code × Pos) : Bool := match PySem.Builtin.Bytes.exported self with
  | .stack k => (match k [x] with | .pure b => b | _ => true)
  | _ => true
theorem dec_no {id : String} (hx : (!lenders.contains id) = true) : decodersThatHold.contains id = false := by
  cases hq : decodersThatHold.contains id with
  | false => rfl
  | true =>
    have : lenders.contains id = true := List.contains_iff_mem.mpr (List.mem_append_right _ (List.contains_iff_mem.mp hq))
    rw [this] at hx; cases hx
theorem dite_no {c : Prop} [Decidable c] {α : Type} {t : c → α} {e : ¬ c → α} {r : α} (h : ¬ c) (k : e h = r) : dite c t e = r := (dif_neg h).trans k
theorem lends_no {self : Value} {c : Code} {p : Pos} (h : calmCode c = true) : lends self (c, p) = false := by
  cases c with
  | builtin id a =>
    have h : (!lenders.contains id) = true := h
    have d := dec_no h
    have n1 : id ≠ "bytearray.__contains__" := by rintro rfl; revert h; decide +kernel
    have n2 : id ≠ "bytearray.__mod__" := by rintro rfl; revert h; decide +kernel
    have n3 : id ≠ "bytearray.__rmod__" := by rintro rfl; revert h; decide +kernel
    have n4 : id ≠ "_struct.pack_into.held" := by rintro rfl; revert h; decide +kernel
    have n5 : id ≠ "bytearray.find.held" := by rintro rfl; revert h; decide +kernel
    obtain ⟨pos, kw⟩ := a
    show (_ || false) = false
    rw [Bool.or_false]
    dsimp only
    unfold PySem.Builtin.Bytes.exported.match_1
    refine dite_no n1 ?_
    refine dite_no n2 ?_
    refine dite_no n3 ?_
    refine dite_no n4 ?_
    refine dite_no n5 ?_
    cases pos with
    | nil => rfl
    | cons v r => exact (congrArg _ d).trans (Bool.and_false _)
  | _ => rfl
noncomputable def Calm (Γ : Ctx) : Prop := calmCode Γ.code = true ∧ calmL Γ.below

noncomputable def wpC {α : Type} (M : Model) (A : Around) (t : Sem α) (Q : α → Shared → Prop) (E : Value → Shared → Prop) (s : Shared) : Prop :=
  ∀ Γ p, Γ.In A → Calm Γ → Sem.wp M Γ t (fun a _ s' => Q a s') (fun e _ s' => E e s') p s
noncomputable def codeC (M : Model) (A : Around) (c : Code) (R : Result → Shared → Prop) (s : Shared) : Prop :=
  ∀ Γ p, Γ.code = c → Γ.Below A → calmL Γ.below → wpCode M Γ R p s

section
variable {α β : Type} {M : Model} {A : Around} {E : Value → Shared → Prop} {s : Shared}

theorem wpC_of {t : Sem α} {Q : α → Shared → Prop} (h : wpAny M A t Q E s) : wpC M A t Q E s := fun Γ p hΓ _ => h Γ p hΓ
theorem codeC_of {c : Code} {R : Result → Shared → Prop} (h : codeAny M A c R s) : codeC M A c R s := fun Γ p hc hΓ _ => h Γ p hc hΓ

theorem wpC_mono {t : Sem α} {Q Q' : α → Shared → Prop} {E' : Value → Shared → Prop} (h : wpC M A t Q E s)
    (hQ : ∀ a s, Q a s → Q' a s) (hE : ∀ e s, E e s → E' e s) : wpC M A t Q' E' s :=
  fun Γ p hΓ hc => Sem.wp_mono M Γ t (fun a _ s => hQ a s) (fun e _ s => hE e s) p s (h Γ p hΓ hc)

theorem wpC_bind {m : Sem α} {f : α → Sem β} {Q : β → Shared → Prop} (h : wpC M A m (fun a s' => wpC M A (f a) Q E s') E s) :
    wpC M A (m >>= f) Q E s := fun Γ p hΓ hc => by
  rw [Sem.wp_bind']
  exact Sem.wp_mono M Γ m (fun a p' s' h' => h' Γ p' hΓ hc) (fun _ _ _ h' => h') p s (h Γ p hΓ hc)

theorem wpC_pure {a : α} {Q : α → Shared → Prop} (h : Q a s) : wpC M A (pure a) Q E s := wpC_of (wpAny_pure h)

theorem wpC_onRaise {m : Sem α} {k : Value → Sem Unit} {Q : α → Shared → Prop}
    (h : wpC M A m Q (fun e s' => wpC M A (k e) (fun _ s'' => E e s'') E s') s) : wpC M A (m.onRaise k) Q E s := fun Γ p hΓ hc => by
  rw [Sem.wp_onRaise]
  exact Sem.wp_mono M Γ m (fun _ _ _ h' => h') (fun e p' s' h' => h' Γ p' hΓ hc) p s (h Γ p hΓ hc)

theorem wpC_attempt {m : Sem α} {Q : Except Value α → Shared → Prop} (h : wpC M A m (fun a => Q (.ok a)) (fun e => Q (.error e)) s) :
    wpC M A m.attempt Q E s := fun Γ p hΓ hc => by rw [Sem.wp_attempt]; exact h Γ p hΓ hc

theorem wpC_holding {vs : List Value} {m : Sem α} {Q : α → Shared → Prop} (h : wpC M A m Q E s) : wpC M A (holding vs m) Q E s :=
  fun Γ p hΓ hc => by rw [Sem.wp_holding]; exact h Γ p hΓ hc
theorem wpC_keep {vs : List Value} {m : Sem α} {Q : α → Shared → Prop} (h : wpC M A m Q E s) : wpC M A (m.keep vs) Q E s :=
  fun Γ p hΓ hc => by rw [Sem.wp_keep]; exact h Γ p hΓ hc
theorem wpC_operate {vs : List Value} {m : Sem Value} {Q : Value → Shared → Prop} (h : wpC M A m Q E s) : wpC M A (operate vs m) Q E s :=
  fun Γ p hΓ hc => by rw [Sem.wp_operate]; exact h Γ p hΓ hc
theorem wpC_release {vs k : List Value} {Q : Unit → Shared → Prop} (h : Q () s) : wpC M A (release vs k) Q E s :=
  fun Γ p _ _ => by rw [Sem.wp_release]; exact h
theorem wpC_ite {c : Prop} [Decidable c] {a b : Sem α} {Q : α → Shared → Prop} (h : if c then wpC M A a Q E s else wpC M A b Q E s) :
    wpC M A (if c then a else b) Q E s := by split <;> simp_all
theorem wpC_standAt {pos : Pos} {Q : Unit → Shared → Prop} (h : Q () s) : wpC M A (standAt pos) Q E s := wpC_of (wpAny_standAt h)
theorem wpC_point {Q : Unit → Shared → Prop} (h : Q () s) : wpC M A point Q E s := wpC_of (wpAny_point h)
theorem wpC_rule {tag : String} {Q : Unit → Shared → Prop} (h : Q () s) : wpC M A (rule tag) Q E s := wpC_of (wpAny_rule h)
theorem wpC_of_eq {t t' : Sem α} {Q : α → Shared → Prop} (e : t = t') (h : wpC M A t' Q E s) : wpC M A t Q E s := e ▸ h

theorem wpC_run {c : Code} {h : Option Value} {Q : Flow → Shared → Prop}
    (hc : codeC M (A.mark h) c (fun r s' => match r with | .ok f => Q f s' | .error e => E e s') s) (hnb : h ≠ some byPass := by intro x; cases x) :
    wpC M A (run c h) Q E s :=
  fun Γ p hΓ hm => by rw [Sem.wp_run]; exact hc _ p rfl (hΓ.enter c h p hnb) (fun x hx => by
    rcases List.mem_cons.mp hx with rfl | hx
    · exact hm.1
    · exact hm.2 x hx)
theorem wpC_runValue {c : Code} {Q : Value → Shared → Prop}
    (hc : codeC M A c (fun r s' => match r with | .ok (.ret v) => Q v s' | .ok _ => False | .error e => E e s') s) :
    wpC M A (runValue c) Q E s := fun Γ p hΓ hm => by
  rw [Sem.wp_runValue]; exact hc _ p rfl (hΓ.enter c none p (by intro x; cases x)) (fun x hx => by
    rcases List.mem_cons.mp hx with rfl | hx
    · exact hm.1
    · exact hm.2 x hx)
theorem wpC_call {f : Value} {pos : List Value} {kw : List (Str × Value)} {Q : Value → Shared → Prop}
    (hc : codeC M A (.call f ⟨pos, kw⟩) (fun r s' => match r with | .ok (.ret v) => Q v s' | .ok _ => False | .error e => E e s') s) :
    wpC M A (call f pos kw) Q E s := wpC_runValue hc

theorem codeC_mono {c : Code} {R R' : Result → Shared → Prop} (h : codeC M A c R s) (hR : ∀ r s, R r s → R' r s) : codeC M A c R' s :=
  fun Γ p hc hΓ hm => wpCode_mono hR (h Γ p hc hΓ hm)

theorem codeC_of_tree {c : Code} {R : Result → Shared → Prop} (hcalm : calmCode c = true)
    (h : wpC M (A.under c) (M.den c) (fun fin s' => match fin with | .done f => R (.ok f) s' | .again c' => c'.quiet = true ∧ codeC M A c' R s')
      (fun e s' => R (.error e) s') s) : codeC M A c R s := fun Γ p hc hΓ hm => by
  rw [wpCode_iff_wp, hc]
  refine Sem.wp_mono M Γ _ (fun fin p' s' h' => ?_) (fun _ _ _ h' => h') p s (h Γ p (hc ▸ hΓ.in) ⟨by rw [hc]; exact hcalm, hm⟩)
  cases fin with
  | done f => exact h'
  | again c' => exact ⟨h'.1, h'.2 (Γ.goto c') p' rfl (hΓ.goto c') hm⟩

/-- no bytearray is lent out -/
theorem wpC_exported {v : Value} {Q : Bool → Shared → Prop} (h : Q false s) : wpC M A (PySem.Builtin.Bytes.exported v) Q E s := fun Γ p _ hm => by
  have key : ∀ x ∈ (Γ.code, p) :: Γ.below, lends v x = false := List.forall_mem_cons.mpr ⟨lends_no hm.1, fun x hx => lends_no (p := x.2) (hm.2 x hx)⟩
  have : ∀ l : List (Code × Pos), (∀ x ∈ l, lends v x = false) → ∀ k, PySem.Builtin.Bytes.exported v = .stack k → k l = .pure false := fun l hl k e => by
    cases e
    induction l with
    | nil => rfl
    | cons x l ih =>
      have h1 := hl x List.mem_cons_self
      have h2 := ih fun y hy => hl y (List.mem_cons_of_mem _ hy)
      have h1 : (_ || false) = false := h1
      rw [Bool.or_false] at h1
      have h2 : Sem.pure (List.any l _) = Sem.pure false := h2
      show Sem.pure (_ || List.any l _) = Sem.pure false
      rw [h1]
      exact h2
  have q := this _ key _ rfl
  have q : Sem.pure (List.any _ _) = Sem.pure false := q
  injection q with q
  show Q (List.any _ _) s
  rw [q]
  exact h
end
end Mine
end
section
namespace Mine

/-! Values and objects as the rules speak of them. -/
inductive MV where
  | none | bool (b : Bool) | int (i : Int) | str (s : Str) | bytes (b : List UInt8) | tup (l : List MV) | ro (l : List MV) | ref (a : Nat)
inductive MO where
  | list (l : List MV) | sdict (l : List (Str × MV)) | idict (l : List (Int × MV)) | ba (b : List UInt8) | inst (c : Str) (l : List (Str × MV))
noncomputable abbrev St := List MO
/-- what a name is in a frame: nothing known, the module's, a local or a cell not yet bound, a local's value, a cell's -/
inductive Nm where
  | un | gl | lo | ce | v (x : MV) | c (x : MV)
inductive Fl where
  | next | ret (v : MV)
noncomputable def sz : Nat := 10000

/-! The relation between a store and the model's heap. -/
noncomputable abbrev Ads := List (Addr × Addr)
noncomputable def Mut (ι : Ads) (a : Addr) : Prop := ∃ p ∈ ι, p.2 = a
/-- a state: where the store's objects lie, and the model's own state -/
structure Wd where
  ι : Ads
  s : Shared
noncomputable abbrev Wd.h (w : Wd) : Heap := w.s.heap
/-- a list, a tuple: with no dict of its own -/
inductive LstAt (h : Heap) (a : Addr) (vs : List Value) : Prop
  | mk {o : Obj} {n : Nat} : h.get? a = some o → o.cls = .type "list" → o.dict = .none → o.data = .seq vs.toArray n → LstAt h a vs
inductive TupAt (h : Heap) (a : Addr) (vs : List Value) : Prop
  | mk {o : Obj} {n : Nat} : h.get? a = some o → o.cls = .type "tuple" → o.dict = .none → o.data = .seq vs.toArray n → TupAt h a vs
theorem LstAt.list {h : Heap} {a : Addr} {vs : List Value} : LstAt h a vs → h.IsList a vs.toArray | .mk g c _ d => ⟨_, g, c, _, d⟩
theorem TupAt.tup {h : Heap} {a : Addr} {vs : List Value} : TupAt h a vs → IsTup h a vs.toArray | .mk g c _ d => ⟨_, g, c, _, d⟩
mutual
inductive VRel (w : Wd) : MV → Value → Prop
  | none : VRel w .none .none
  | bool (b : Bool) : VRel w (.bool b) (.bool b)
  | int (i : Int) (t : Tok) : VRel w (.int i) (.int i t)
  | str (s : Str) (t : Tok) : VRel w (.str s) (.str s t)
  | bytes (b : List UInt8) (t : Tok) : VRel w (.bytes b) (.bytes b.toArray t)
  | tup {l : List MV} {a : Addr} {vs : List Value} : TupAt w.h a vs → ¬ Mut w.ι a → VRels w l vs → VRel w (.tup l) (.ref a)
  | ro {l : List MV} {a : Addr} {vs : List Value} {o : Obj} {n : Nat} : w.h.get? a = some o → o.cls = .type "list" → o.data = .seq vs.toArray n → ¬ Mut w.ι a → VRels w l vs → VRel w (.ro l) (.ref a)
  | ref {i : Nat} {p : Addr × Addr} : w.ι[i]? = some p → VRel w (.ref i) (.ref p.1)
inductive VRels (w : Wd) : List MV → List Value → Prop
  | nil : VRels w [] []
  | cons {m : MV} {l : List MV} {V : Value} {vs : List Value} : VRel w m V → VRels w l vs → VRels w (m :: l) (V :: vs)
end
section
variable {w : Wd} {V : Value} {P : Value → Prop}
@[elab_as_elim] theorem VRel.noneE (r : VRel w .none V) (k : P .none) : P V := by cases r; exact k
@[elab_as_elim] theorem VRel.boolE {b : Bool} (r : VRel w (.bool b) V) (k : P (.bool b)) : P V := by cases r; exact k
@[elab_as_elim] theorem VRel.intE {i : Int} (r : VRel w (.int i) V) (k : ∀ t, P (.int i t)) : P V := by cases r; exact k _
@[elab_as_elim] theorem VRel.strE {s : Str} (r : VRel w (.str s) V) (k : ∀ t, P (.str s t)) : P V := by cases r; exact k _
@[elab_as_elim] theorem VRel.bytesE {b : List UInt8} (r : VRel w (.bytes b) V) (k : ∀ t, P (.bytes b.toArray t)) : P V := by cases r; exact k _
@[elab_as_elim] theorem VRel.tupE {l : List MV} (r : VRel w (.tup l) V) (k : ∀ a vs, TupAt w.h a vs → ¬ Mut w.ι a → VRels w l vs → P (.ref a)) : P V := by
  cases r with | tup h1 h2 h3 => exact k _ _ h1 h2 h3
@[elab_as_elim] theorem VRel.roE {l : List MV} (r : VRel w (.ro l) V) (k : ∀ a vs, w.h.IsList a vs.toArray → ¬ Mut w.ι a → VRels w l vs → P (.ref a)) : P V := by
  cases r with | ro h1 h2 h3 h4 h5 => exact k _ _ ⟨_, h1, h2, _, h3⟩ h4 h5
@[elab_as_elim] theorem VRel.refE {i : Nat} (r : VRel w (.ref i) V) (k : ∀ p, w.ι[i]? = some p → P (.ref p.1)) : P V := by
  cases r with | ref h => exact k _ h
end
/-- what lies in w as an unturned sequence lies so in w' -/
structure Kp (w w' : Wd) : Prop where
  seq : ∀ a o vs n, w.h.get? a = some o → o.data = .seq vs n → ¬ Mut w.ι a → ¬ Mut w'.ι a ∧ ∃ sl, w'.h.get? a = some { o with slots := sl }
  at_ : ∀ {i : Nat} {p : Addr × Addr}, w.ι[i]? = some p → w'.ι[i]? = some p
theorem Kp.tup {w w' : Wd} (x : Kp w w') {a : Addr} {vs : List Value} (t : TupAt w.h a vs) (m : ¬ Mut w.ι a) : TupAt w'.h a vs := by
  cases t with | mk g c d e => obtain ⟨_, _, g'⟩ := x.seq _ _ _ _ g e m; exact .mk g' c d e
theorem Kp.nm {w w' : Wd} (x : Kp w w') {a : Addr} {vs : List Value} (t : TupAt w.h a vs) (m : ¬ Mut w.ι a) : ¬ Mut w'.ι a := by
  cases t with | mk g c d e => exact (x.seq _ _ _ _ g e m).1
theorem VRel.kp {w w' : Wd} (x : Kp w w') {m : MV} {V : Value} (r : VRel w m V) : VRel w' m V :=
  VRel.rec (motive_1 := fun m V _ => VRel w' m V) (motive_2 := fun l vs _ => VRels w' l vs) .none .bool .int .str .bytes
    (fun t m _ rs => .tup (x.tup t m) (x.nm t m) rs) (fun g c d m _ rs => let ⟨n, _, g'⟩ := x.seq _ _ _ _ g d m; .ro g' c d n rs) (fun e => .ref (x.at_ e)) .nil (fun _ _ r rs => .cons r rs) r
theorem VRels.kp {w w' : Wd} (x : Kp w w') {m : List MV} {V : List Value} (r : VRels w m V) : VRels w' m V :=
  VRels.rec (motive_1 := fun m V _ => VRel w' m V) (motive_2 := fun l vs _ => VRels w' l vs) .none .bool .int .str .bytes
    (fun t m _ rs => .tup (x.tup t m) (x.nm t m) rs) (fun g c d m _ rs => let ⟨n, _, g'⟩ := x.seq _ _ _ _ g d m; .ro g' c d n rs) (fun e => .ref (x.at_ e)) .nil (fun _ _ r rs => .cons r rs) r
section
variable {w : Wd} {ms : List MV} {vs : List Value}
theorem VRels.len (r : VRels w ms vs) : vs.length = ms.length :=
  VRels.rec (motive_1 := fun _ _ _ => True) (motive_2 := fun l vs _ => vs.length = l.length) trivial (fun _ => trivial) (fun _ _ => trivial) (fun _ _ => trivial) (fun _ _ => trivial)
    (fun _ _ _ _ => trivial) (fun _ _ _ _ _ _ => trivial) (fun _ => trivial) rfl (fun _ _ _ e => congrArg (· + 1) e) r
theorem VRels.one {m : MV} {V : Value} (r : VRel w m V) : VRels w [m] [V] := .cons r .nil
theorem VRels.append {m2 : List MV} {v2 : List Value} (r : VRels w ms vs) (q : VRels w m2 v2) : VRels w (ms ++ m2) (vs ++ v2) := by
  induction ms generalizing vs with
  | nil => cases r; exact q
  | cons m ms ih => cases r with | cons r rs => exact .cons r (ih rs)
theorem VRels.take (n : Nat) (r : VRels w ms vs) : VRels w (ms.take n) (vs.take n) := by
  induction n generalizing ms vs with
  | zero => exact .nil
  | succ n ih => cases r with | nil => exact .nil | cons r rs => exact .cons r (ih rs)
theorem VRels.drop (n : Nat) (r : VRels w ms vs) : VRels w (ms.drop n) (vs.drop n) := by
  induction n generalizing ms vs with
  | zero => exact r
  | succ n ih => cases r with | nil => exact .nil | cons r rs => exact ih rs
theorem VRels.get {i : Nat} {m : MV} (r : VRels w ms vs) (e : ms[i]? = some m) : ∃ V, vs[i]? = some V ∧ VRel w m V := by
  induction i generalizing ms vs with
  | zero => cases r with | nil => cases e | cons r rs => cases e; exact ⟨_, rfl, r⟩
  | succ n ih => cases r with | nil => cases e | cons r rs => exact ih rs e
theorem VRels.set {m : MV} {V : Value} (q : VRel w m V) (n : Nat) (r : VRels w ms vs) : VRels w (ms.set n m) (vs.set n V) := by
  induction n generalizing ms vs with
  | zero => cases r with | nil => exact .nil | cons r rs => exact .cons q rs
  | succ n ih => cases r with | nil => exact .nil | cons r rs => exact .cons r (ih rs)
theorem VRels.reverse (r : VRels w ms vs) : VRels w ms.reverse vs.reverse := by
  induction ms generalizing vs with
  | nil => cases r; exact .nil
  | cons m ms ih => cases r with | cons r rs => rw [List.reverse_cons, List.reverse_cons]; exact (ih rs).append (.one r)
theorem VRels.replicate {m : MV} {V : Value} (q : VRel w m V) (n : Nat) : VRels w (List.replicate n m) (List.replicate n V) := by
  induction n with
  | zero => exact .nil
  | succ n ih => exact .cons q ih
theorem VRels.getLast (r : VRels w ms vs) {m : MV} (e : ms.getLast? = some m) : ∃ V, vs.getLast? = some V ∧ VRel w m V := by
  rw [List.getLast?_eq_getElem?] at e ⊢
  rw [r.len]
  exact r.get e
theorem VRels.dropLast (r : VRels w ms vs) : VRels w ms.dropLast vs.dropLast := by
  rw [List.dropLast_eq_take, List.dropLast_eq_take, r.len]
  exact r.take _
end
/-- the pairs of a dict; an object's own dict: its entries, in order -/
inductive PRels {α : Type} (w : Wd) : List (α × MV) → List (α × Value) → Prop
  | nil : PRels w [] []
  | cons {k : α} {m : MV} {l : List (α × MV)} {V : Value} {vs : List (α × Value)} : VRel w m V → PRels w l vs → PRels w ((k, m) :: l) ((k, V) :: vs)
inductive ERels (w : Wd) : List (Str × MV) → List DictEntry → Prop
  | nil : ERels w [] []
  | cons {k : Str} {t : Tok} {m : MV} {l : List (Str × MV)} {e : DictEntry} {es : List DictEntry} : e.key = .str k t → VRel w m e.val → ERels w l es → ERels w ((k, m) :: l) (e :: es)
theorem PRels.kp {α : Type} {w w' : Wd} (x : Kp w w') {m : List (α × MV)} {V : List (α × Value)} (r : PRels w m V) : PRels w' m V := by
  induction r with
  | nil => exact .nil
  | cons r _ ih => exact .cons (r.kp x) ih
theorem PRels.len {α : Type} {w : Wd} {m : List (α × MV)} {V : List (α × Value)} (r : PRels w m V) : V.length = m.length := by
  induction r with
  | nil => rfl
  | cons r _ ih => exact congrArg (· + 1) ih
theorem ERels.kp {w w' : Wd} (x : Kp w w') {m : List (Str × MV)} {V : List DictEntry} (r : ERels w m V) : ERels w' m V := by
  induction r with
  | nil => exact .nil
  | cons e r _ ih => exact .cons e (r.kp x) ih
theorem ERels.len {w : Wd} {m : List (Str × MV)} {V : List DictEntry} (r : ERels w m V) : V.length = m.length := by
  induction r with
  | nil => rfl
  | cons e r _ ih => exact congrArg (· + 1) ih

/-- where the text's own classes stand -/
structure Cls where
  record : Addr
  machine : Addr
  trap : Addr
noncomputable def Cls.at (c : Cls) (x : Str) : Option Addr := if x = ("Record" : Str) then some c.record else if x = ("Machine" : Str) then some c.machine else .none
/-- what stands fixed through the whole call -/
structure Gx where
  prog : Program
  wd : World
  C : Cls
  D : Addr
  h₀ : Heap
  K : Frag
  mg : Str → Option Value
  mb : Str → Option Value
noncomputable abbrev Gx.M (g : Gx) : Model := model g.prog g.wd
noncomputable def Gx.w₀ (g : Gx) : Wd := ⟨[], { heap := g.h₀ }⟩
/-- what stands fixed through a run -/
structure Kx where
  g : Gx
  A : Around
  l : List Env
noncomputable abbrev Kx.M (k : Kx) : Model := k.g.M

inductive ORel (g : Gx) (w : Wd) (p : Addr × Addr) : MO → Prop
  | list {l : List MV} {vs : List Value} : p.1 = p.2 → LstAt w.h p.1 vs → VRels w l vs → ORel g w p (.list l)
  | sdict {l : List (Str × MV)} {kvs : List (Str × Value)} : p.1 = p.2 → w.h.DictOf (PySem.strKind g.prog g.wd) p.1 kvs → PRels w l kvs → ORel g w p (.sdict l)
  | idict {l : List (Int × MV)} {kvs : List (Int × Value)} : p.1 = p.2 → w.h.DictOf (PySem.intKind g.prog g.wd) p.1 kvs → PRels w l kvs → ORel g w p (.idict l)
  | ba {b : List UInt8} {o : Obj} : p.1 = p.2 → w.h.get? p.1 = some o → o.cls = .type "bytearray" → o.data = .bytearray b.toArray 0 → o.dict = .none → ORel g w p (.ba b)
  | inst {c : Str} {l : List (Str × MV)} {o od : Obj} {a : Addr} {es : List DictEntry} {n : Nat} : ¬ Mut w.ι p.1 → w.h.get? p.1 = some o → g.C.at c = some a → o.cls = .ref a → o.dict = some p.2 → o.data = .plain →
      w.h.get? p.2 = some od → od.cls = .type "dict" → od.data = .dict es.toArray n → ERels w l es → ORel g w p (.inst c l)
theorem ORel.there {g : Gx} {w : Wd} {p : Addr × Addr} {o : MO} (r : ORel g w p o) : (∃ ob, w.h.get? p.1 = some ob) ∧ ∃ ob, w.h.get? p.2 = some ob := by
  cases r with
  | list e h _ => cases h with | mk h _ _ _ => exact ⟨⟨_, h⟩, ⟨_, e ▸ h⟩⟩
  | sdict e h _ => obtain ⟨_, _, _, h, _⟩ := h; exact ⟨⟨_, h⟩, ⟨_, e ▸ h⟩⟩
  | idict e h _ => obtain ⟨_, _, _, h, _⟩ := h; exact ⟨⟨_, h⟩, ⟨_, e ▸ h⟩⟩
  | ba e h _ _ _ => exact ⟨⟨_, h⟩, ⟨_, e ▸ h⟩⟩
  | inst _ h _ _ _ _ h' _ _ _ => exact ⟨⟨_, h⟩, ⟨_, h'⟩⟩
theorem ORel.to {g : Gx} {w w' : Wd} {p : Addr × Addr} {o : MO} (x : Kp w w') (h1 : ∀ ob, w.h.get? p.1 = some ob → w'.h.get? p.1 = some ob) (h2 : ∀ ob, w.h.get? p.2 = some ob → w'.h.get? p.2 = some ob)
    (hm : ¬ Mut w.ι p.1 → ¬ Mut w'.ι p.1) (r : ORel g w p o) : ORel g w' p o := by
  cases r with
  | list e h r => cases h with | mk h a b c => exact .list e (.mk (h1 _ h) a b c) (r.kp x)
  | sdict e h r => obtain ⟨ob, es, ep, ho, q⟩ := h; exact .sdict e ⟨ob, es, ep, h1 _ ho, q⟩ (r.kp x)
  | idict e h r => obtain ⟨ob, es, ep, ho, q⟩ := h; exact .idict e ⟨ob, es, ep, h1 _ ho, q⟩ (r.kp x)
  | ba e h a b c => exact .ba e (h1 _ h) a b c
  | inst n h a b c d h' f i r => exact .inst (hm n) (h1 _ h) a b c d (h2 _ h') f i (r.kp x)
/-- a frame under way -/
inductive FrAt (g : Gx) (w : Wd) (env : Env) : Prop
  | mk {L : Addr} {o : Obj} {es : Array DictEntry} {n : Nat} : env.scope.kind ≠ .module → env.frame = some L → g.h₀.get? L = .none → ¬ Mut w.ι L → w.h.get? L = some o → o.data = .dict es n → FrAt g w env
structure Inv (k : Kx) (w : Wd) (σ : St) : Prop where
  len : w.ι.length = σ.length
  nd : (w.ι.map (·.2)).Nodup
  nd1 : (w.ι.map (·.1)).Nodup
  top : ∀ p ∈ w.ι, k.g.h₀.objs.size ≤ p.2
  size : k.g.h₀.objs.size ≤ w.h.objs.size
  obj : ∀ {i : Nat} {o : MO}, σ[i]? = some o → ∃ p, w.ι[i]? = some p ∧ ORel k.g w p o
  keep : ∀ b o, k.g.h₀.get? b = some o → w.h.get? b = some o
  fr : ∀ env ∈ k.l, FrAt k.g w env
theorem Inv.new {k : Kx} {w : Wd} {σ : St} (i : Inv k w σ) : ∀ p ∈ w.ι, k.g.h₀.get? p.2 = none := fun p hp => Heap.get?_none_of_le (i.top p hp)

noncomputable def framesOf (l : List Env) : List Addr := l.filterMap (·.frame)
inductive NsObj (h : Heap) (a : Addr) : Prop
  | mk {o : Obj} {es : Array DictEntry} {n : Nat} : h.get? a = some o → o.data = .dict es n → NsObj h a
structure Kept (k : Kx) (w' : Wd) (a : Addr) (o : Obj) : Prop where
  nm : ¬ Mut w'.ι a
  same : ∃ sl, w'.h.get? a = some { o with slots := sl }
  full : a ∉ framesOf k.l → w'.h.get? a = some o
/-- what a run may change: the objects of the store; the slots of the frames under way; the namespace L; all else stands -/
structure Ext (k : Kx) (L : Option Addr) (w w' : Wd) : Prop where
  more : ∃ m, w'.ι = w.ι ++ m
  size : w.h.objs.size ≤ w'.h.objs.size
  kept : ∀ a o, L ≠ some a → w.h.get? a = some o → ¬ Mut w.ι a → Kept k w' a o
  old : ∀ a, L = some a → NsObj w.h a
  new : ∀ a, L = some a → NsObj w'.h a
  gens : w'.s.gens = w.s.gens
  os : w'.s.os = w.s.os
section
variable {k : Kx} {L : Option Addr} {w w₁ w₂ : Wd}
theorem Ext.refl (n : ∀ a, L = some a → NsObj w.h a) : Ext k L w w :=
  ⟨⟨[], (List.append_nil _).symm⟩, Nat.le_refl _, fun _ o _ e n => ⟨n, ⟨o.slots, e⟩, fun _ => e⟩, n, n, rfl, rfl⟩
theorem Ext.trans (x : Ext k L w w₁) (y : Ext k L w₁ w₂) : Ext k L w w₂ := by
  refine ⟨?_, Nat.le_trans x.size y.size, fun a o hL e n => ?_, x.old, y.new, y.gens.trans x.gens, y.os.trans x.os⟩
  · obtain ⟨m, e⟩ := x.more
    obtain ⟨m', e'⟩ := y.more
    exact ⟨m ++ m', by rw [e', e, List.append_assoc]⟩
  · obtain ⟨n₂, ⟨_, e₂⟩, k₂⟩ := x.kept a o hL e n
    obtain ⟨n₃, ⟨sl', e₃⟩, _⟩ := y.kept a _ hL e₂ n₂
    exact ⟨n₃, ⟨sl', e₃⟩, fun f => (y.kept a o hL (k₂ f) n₂).full f⟩
theorem Ext.up {a : Addr} (x : Ext k .none w w₁) (n : NsObj w.h a) (n' : NsObj w₁.h a) : Ext k (some a) w w₁ :=
  ⟨x.more, x.size, fun b o _ => x.kept b o nofun, fun _ e => Option.some.inj e ▸ n, fun _ e => Option.some.inj e ▸ n', x.gens, x.os⟩
theorem Ext.at (x : Ext k L w w₁) {i : Nat} {p : Addr × Addr} (e : w.ι[i]? = some p) : w₁.ι[i]? = some p := by
  obtain ⟨m, e'⟩ := x.more
  rw [e', List.getElem?_append_left (List.getElem?_eq_some_iff.mp e).1]
  exact e
theorem Ext.kp (x : Ext k L w w₁) : Kp w w₁ := ⟨fun a o vs n h d m => by
  obtain ⟨n₁, n₂, _⟩ := x.kept a o (fun q => by cases x.old a q with | mk h' d' => rw [h] at h'; cases h'; rw [d] at d'; cases d') h m
  exact ⟨n₁, n₂⟩, x.at⟩
theorem Mut.more {ι ι' : Ads} {a : Addr} (m : ∃ k, ι' = ι ++ k) (x : Mut ι a) : Mut ι' a := by
  obtain ⟨k, rfl⟩ := m
  obtain ⟨p, hp, e⟩ := x
  exact ⟨p, List.mem_append_left _ hp, e⟩
/-- what was not yet there -/
theorem Ext.none (x : Ext k L w w₁) {ι' : Ads} (m : ∃ k, ι' = w₁.ι ++ k) {b : Addr} (hb : w₁.h.get? b = Option.none) (hm : ¬ Mut ι' b) : w.h.get? b = Option.none := by
  cases e : w.h.get? b with
  | none => rfl
  | some o =>
    by_cases hL : L = some b
    · cases x.new b hL with | mk h _ => rw [hb] at h; cases h
    · obtain ⟨_, ⟨_, e'⟩, _⟩ := x.kept b o hL e fun q => hm ((q.more x.more).more m)
      rw [hb] at e'; cases e'
theorem VRel.ext (x : Ext k L w w₁) {m : MV} {V : Value} (r : VRel w m V) : VRel w₁ m V := r.kp x.kp
theorem VRels.ext (x : Ext k L w w₁) {m : List MV} {V : List Value} (r : VRels w m V) : VRels w₁ m V := r.kp x.kp
end
/-- an exception of the text's own class under way, made since the heap was hk -/
inductive ExcData (g : Gx) (hk : Heap) (w : Wd) (a : Addr) (vs : Array Value) : Prop
  | no : vs[1]? = some .none → ExcData g hk w a vs
  | tb {T : Addr} {oT : Obj} {ts : Array Value} : vs[1]? = some (.ref T) → hk.get? T = .none → ¬ Mut w.ι T → g.h₀.get? T = .none → T ≠ a → w.h.get? T = some oT → oT.data = .fields ts → ts[3]? = some .none → ExcData g hk w a vs
inductive ExcAt (g : Gx) (hk : Heap) (w : Wd) (a : Addr) : Prop
  | mk {oe : Obj} {vs : Array Value} : hk.get? a = .none → ¬ Mut w.ι a → g.h₀.get? a = .none → w.h.get? a = some oe → oe.cls = .ref g.C.trap → oe.data = .fields vs → ExcData g hk w a vs → ExcAt g hk w a
theorem ExcAt.le {g : Gx} {hk hk' : Heap} {w : Wd} {a : Addr} (q : ∀ b, hk.get? b = none → ¬ Mut w.ι b → hk'.get? b = none) : ExcAt g hk w a → ExcAt g hk' w a
  | .mk h1 h2 h3 h4 h5 h6 h7 => .mk (q _ h1 h2) h2 h3 h4 h5 h6 (match h7 with | .no h => .no h | .tb a1 a2 a3 a4 a5 a6 a7 a8 => .tb a1 (q _ a2 a3) a3 a4 a5 a6 a7 a8)
end Mine
end
section
namespace Mine

/-- a step: the state turned as a run may turn it, and the store is what it is said to be -/
structure Step (k : Kx) (L : Option Addr) (w : Wd) (σ : St) (w' : Wd) : Prop where
  ext : Ext k L w w'
  inv : Inv k w' σ
section
variable {α β γ δ : Type} {k : Kx} {L : Option Addr} {w w₁ w₂ : Wd} {σ σ₁ σ₂ : St} {RL : Wd → α → β → Prop} {RL' : Wd → γ → δ → Prop} {Q : α → St → Prop} {Q' : γ → St → Prop} {T : St → Prop} {a : Addr}
theorem Step.trans (x : Step k L w σ₁ w₁) (y : Step k L w₁ σ₂ w₂) : Step k L w σ₂ w₂ := ⟨x.ext.trans y.ext, y.inv⟩
theorem Step.refl (i : Inv k w σ) : Step k none w σ w := ⟨.refl nofun, i⟩
/-- how a run ends: a value; a trap -/
inductive Got (k : Kx) (L : Option Addr) (RL : Wd → α → β → Prop) (w : Wd) (Q : α → St → Prop) : β → Shared → Prop
  | mk {v : α} {V : β} {σ : St} {w' : Wd} : Step k L w σ w' → RL w' v V → Q v σ → Got k L RL w Q V w'.s
inductive Err (k : Kx) (L : Option Addr) (w : Wd) (T : St → Prop) : Value → Shared → Prop
  | mk {σ : St} {w' : Wd} {a : Addr} : Step k L w σ w' → ExcAt k.g w.h w' a → T σ → Err k L w T (.ref a) w'.s
noncomputable def Run (k : Kx) (L : Option Addr) (RL : Wd → α → β → Prop) (w : Wd) (Q : α → St → Prop) (T : St → Prop) (t : Sem β) : Prop :=
  wpC k.M k.A t (Got k L RL w Q) (Err k L w T) w.s
theorem Got.then (st : Step k L w σ₁ w₁) {V : β} {s : Shared} (g : Got k L RL w₁ Q V s) : Got k L RL w Q V s := match g with | .mk st' r q => .mk (st.trans st') r q
theorem Err.then (st : Step k L w σ₁ w₁) {e : Value} {s : Shared} (g : Err k L w₁ T e s) : Err k L w T e s := match g with
  | .mk st' x q => .mk (st.trans st') (x.le fun _ hb hm => st.ext.none st'.ext.more hb hm) q
theorem Run.from (st : Step k L w σ₁ w₁) {m : Sem β} (h : Run k L RL w₁ Q T m) : wpC k.M k.A m (Got k L RL w Q) (Err k L w T) w₁.s := wpC_mono h (fun _ _ g => g.then st) (fun _ _ g => g.then st)
theorem Run.bind {m : Sem β} {f : β → Sem δ} (h : Run k L RL w Q T m) (h₂ : ∀ v w' V σ', Step k L w σ' w' → RL w' v V → Q v σ' → Run k L RL' w' Q' T (f V)) : Run k L RL' w Q' T (m >>= f) :=
  wpC_bind (wpC_mono h (fun _ _ g => match g with | .mk st r q => (h₂ _ _ _ _ st r q).from st) (fun _ _ g => match g with | .mk st x q => .mk st x q))
theorem NsObj.ext (n : NsObj w.h a) (m : ¬ Mut w.ι a) (x : Ext k .none w w₁) : NsObj w₁.h a := match n with | .mk h d => let ⟨_, ⟨_, e⟩, _⟩ := x.kept a _ nofun h m; .mk e d
theorem Step.up (n : NsObj w.h a) (m : ¬ Mut w.ι a) (st : Step k .none w σ w₁) : Step k (some a) w σ w₁ := ⟨st.ext.up n (n.ext m st.ext), st.inv⟩
theorem Run.up {m : Sem β} (n : NsObj w.h a) (nm : ¬ Mut w.ι a) (h : Run k .none RL w Q T m) : Run k (some a) RL w Q T m :=
  wpC_mono h (fun _ _ g => match g with | .mk st r q => .mk (st.up n nm) r q) (fun _ _ g => match g with | .mk st x q => .mk (st.up n nm) x q)
theorem Run.pre {m : Sem β} {f : β → Sem δ} (h : wpC k.M k.A m (fun V s' => s' = w.s ∧ Run k L RL' w Q' T (f V)) (fun _ _ => False) w.s) : Run k L RL' w Q' T (m >>= f) :=
  wpC_bind (wpC_mono h (fun _ _ q => by obtain ⟨rfl, q⟩ := q; exact q) (fun _ _ q => q.elim))
theorem Run.standAt {f : Unit → Sem δ} {p : Pos} (h : Run k L RL' w Q' T (f ())) : Run k L RL' w Q' T (standAt p >>= f) := wpC_bind (wpC_standAt h)
theorem Run.holding {m : Sem β} {vs : List Value} (h : Run k L RL w Q T m) : Run k L RL w Q T (holding vs m) := wpC_holding h
theorem Run.operate {RL : Wd → α → Value → Prop} {m : Sem Value} {vs : List Value} (h : Run k L RL w Q T m) : Run k L RL w Q T (operate vs m) := wpC_operate h
theorem Run.pure {v : α} {V : β} (i : Inv k w σ) (r : RL w v V) (q : Q v σ) : Run k none RL w Q T (pure V) := wpC_pure (.mk (.refl i) r q)
theorem Run.pureS {v : α} {V : β} (n : NsObj w.h a) (i : Inv k w σ) (r : RL w v V) (q : Q v σ) : Run k (some a) RL w Q T (Pure.pure V) := wpC_pure (.mk ⟨.refl fun _ e => Option.some.inj e ▸ n, i⟩ r q)
theorem Run.mono {RL₂ : Wd → α → β → Prop} {Q₂ : α → St → Prop} {T₂ : St → Prop} {m : Sem β} (h : Run k L RL w Q T m) (hr : ∀ w' v V, Ext k L w w' → RL w' v V → RL₂ w' v V) (hq : ∀ v σ, Q v σ → Q₂ v σ) (ht : ∀ σ, T σ → T₂ σ) : Run k L RL₂ w Q₂ T₂ m :=
  wpC_mono h (fun _ _ g => match g with | .mk st r q => .mk st (hr _ _ _ st.ext r) (hq _ _ q)) (fun _ _ g => match g with | .mk st x q => .mk st x (ht _ q))
theorem Run.of_eq {m m' : Sem β} (e : m = m') (h : Run k L RL w Q T m') : Run k L RL w Q T m := e ▸ h
theorem Run.any {m : Sem β} (h : ∀ E, wpAny k.M k.A m (Got k L RL w Q) E w.s) : Run k L RL w Q T m := wpC_of (h _)
end

/-! What the store's relation bears. -/
section
variable {α β : Type} {k : Kx} {w : Wd} {σ : St} {Q : α → St → Prop} {T : St → Prop} {h' : Heap} {tk : Tok}
theorem inj_of {α β : Type} {f : α → β} {l : List α} (hn : (l.map f).Nodup) {i j : Nat} {p q : α} (e : l[i]? = some p) (e' : l[j]? = some q) (h : f p = f q) : i = j := by
  have hi : i < (l.map f).length := by rw [List.length_map]; exact (List.getElem?_eq_some_iff.mp e).1
  refine (List.getElem?_inj hi hn).mp ?_
  rw [List.getElem?_map, List.getElem?_map, e, e']
  exact congrArg some h
theorem mem_get {ι : Ads} {p : Addr × Addr} (hp : p ∈ ι) : ∃ i : Nat, ι[i]? = some p := List.mem_iff_getElem?.mp hp
theorem Inv.at (i : Inv k w σ) {j : Nat} {p : Addr × Addr} (e : w.ι[j]? = some p) : ∃ o, σ[j]? = some o ∧ ORel k.g w p o := by
  have hj : j < σ.length := i.len ▸ (List.getElem?_eq_some_iff.mp e).1
  obtain ⟨p', e', r⟩ := i.obj (List.getElem?_eq_getElem hj)
  exact ⟨_, List.getElem?_eq_getElem hj, Option.some.inj (e.symm.trans e') ▸ r⟩
theorem Inv.lt (i : Inv k w σ) {p : Addr × Addr} (e : p ∈ w.ι) : p.1 < w.h.objs.size ∧ p.2 < w.h.objs.size :=
  let ⟨_, hj⟩ := mem_get e; let ⟨_, _, r⟩ := i.at hj; let ⟨⟨_, h1⟩, _, h2⟩ := r.there; ⟨Heap.lt_size h1, Heap.lt_size h2⟩
theorem Inv.fresh (i : Inv k w σ) {a : Addr} (h : w.h.objs.size ≤ a) : ¬ Mut w.ι a := fun ⟨_, hp, e⟩ => Nat.not_lt.mpr h (e ▸ (i.lt hp).2)
theorem FrAt.ext {w' : Wd} {g : Gx} {env : Env} (x : Ext k none w w') : FrAt g w env → FrAt g w' env
  | .mk a1 a2 a3 a4 a5 a6 => let ⟨n, ⟨_, q⟩, _⟩ := x.kept _ _ nofun a5 a4; .mk a1 a2 a3 n q a6
/-- nothing of the store turned; the heap may have grown -/
theorem Inv.grow (i : Inv k w σ) (hk : ∀ b o, w.h.get? b = some o → h'.get? b = some o) (hs : w.h.objs.size ≤ h'.objs.size) : Step k none w σ ⟨w.ι, { w.s with heap := h', toks := tk }⟩ := by
  have x : Ext k none w ⟨w.ι, { w.s with heap := h', toks := tk }⟩ := ⟨⟨[], (List.append_nil _).symm⟩, hs, fun a o _ e n => ⟨n, ⟨o.slots, hk _ _ e⟩, fun _ => hk _ _ e⟩, nofun, nofun, rfl, rfl⟩
  refine ⟨x, i.len, i.nd, i.nd1, i.top, Nat.le_trans i.size hs, fun e => ?_, fun b o e => hk _ _ (i.keep b o e), fun en h => (i.fr en h).ext x⟩
  obtain ⟨p, hp, r⟩ := i.obj e
  exact ⟨p, hp, r.to x.kp (fun _ => hk _ _) (fun _ => hk _ _) id⟩
theorem nodup_snoc {l : List Addr} {a : Addr} (h : l.Nodup) (n : ∀ b ∈ l, b < a) : (l ++ [a]).Nodup := by
  rw [List.nodup_append]
  exact ⟨h, List.nodup_cons.mpr ⟨List.not_mem_nil, List.nodup_nil⟩, fun b hb c hc => List.mem_singleton.mp hc ▸ Nat.ne_of_lt (n b hb)⟩
theorem Mut.snoc {ι : Ads} {p : Addr × Addr} {b : Addr} (h : Mut (ι ++ [p]) b) : Mut ι b ∨ p.2 = b := by
  obtain ⟨q, hq, e⟩ := h
  rcases List.mem_append.mp hq with hq | hq
  · exact .inl ⟨q, hq, e⟩
  · exact .inr (List.mem_singleton.mp hq ▸ e)
/-- a new object of the store; it lies at d, its value is a reference to a -/
theorem Inv.alloc (i : Inv k w σ) (hk : ∀ b o, w.h.get? b = some o → h'.get? b = some o) (hs : w.h.objs.size ≤ h'.objs.size) {a d : Addr} {o : MO} (ha : w.h.objs.size ≤ a) (hd : w.h.objs.size ≤ d)
    (r : Ext k none w ⟨w.ι ++ [(a, d)], { w.s with heap := h', toks := tk }⟩ → ORel k.g ⟨w.ι ++ [(a, d)], { w.s with heap := h', toks := tk }⟩ (a, d) o) : Step k none w (σ ++ [o]) ⟨w.ι ++ [(a, d)], { w.s with heap := h', toks := tk }⟩ := by
  have old : ∀ {b ob}, w.h.get? b = some ob → ¬ Mut w.ι b → ¬ Mut (w.ι ++ [(a, d)]) b := fun e n q => (Mut.snoc q).elim n fun q => Nat.not_lt.mpr hd ((show d = _ from q) ▸ Heap.lt_size e)
  have x : Ext k none w ⟨w.ι ++ [(a, d)], { w.s with heap := h', toks := tk }⟩ := ⟨⟨_, rfl⟩, hs, fun b ob _ e n => ⟨old e n, ⟨ob.slots, hk _ _ e⟩, fun _ => hk _ _ e⟩, nofun, nofun, rfl, rfl⟩
  refine ⟨x, ?_, ?_, ?_, ?_, Nat.le_trans i.size hs, fun {j ob} e => ?_, fun b ob e => hk _ _ (i.keep b ob e), fun en h => (i.fr en h).ext x⟩
  · rw [List.length_append, List.length_append, i.len]; rfl
  · rw [List.map_append]
    exact nodup_snoc i.nd fun b hb => let ⟨p, hp, e⟩ := List.mem_map.mp hb; Nat.lt_of_lt_of_le (e ▸ (i.lt hp).2) hd
  · rw [List.map_append]
    exact nodup_snoc i.nd1 fun b hb => let ⟨p, hp, e⟩ := List.mem_map.mp hb; Nat.lt_of_lt_of_le (e ▸ (i.lt hp).1) ha
  · exact fun p hp => (List.mem_append.mp hp).elim (i.top p) fun hp => List.mem_singleton.mp hp ▸ Nat.le_trans i.size hd
  · rcases Nat.lt_or_ge j σ.length with hj | hj
    · rw [List.getElem?_append_left hj] at e
      obtain ⟨p, hp, r'⟩ := i.obj e
      exact ⟨p, x.at hp, r'.to x.kp (fun _ => hk _ _) (fun _ => hk _ _) (old r'.there.1.choose_spec)⟩
    · have hl := (List.getElem?_eq_some_iff.mp e).1
      rw [List.length_append] at hl
      have hl : j = σ.length := Nat.le_antisymm (Nat.le_of_lt_succ hl) hj
      subst hl
      rw [List.getElem?_append_right (Nat.le_refl _), Nat.sub_self] at e
      refine ⟨(a, d), ?_, Option.some.inj e ▸ r x⟩
      show (w.ι ++ [(a, d)])[σ.length]? = _
      rw [← i.len, List.getElem?_append_right (Nat.le_refl _), Nat.sub_self]
      rfl
/-- one object of the store turned -/
theorem Inv.set (i : Inv k w σ) {j : Nat} {p : Addr × Addr} {o : MO} (hp : w.ι[j]? = some p) (hs : Heap.SameBut p.2 w.h h') (r : Ext k none w ⟨w.ι, { w.s with heap := h', toks := tk }⟩ → ORel k.g ⟨w.ι, { w.s with heap := h', toks := tk }⟩ p o) :
    Step k none w (σ.set j o) ⟨w.ι, { w.s with heap := h', toks := tk }⟩ := by
  have hm := List.mem_of_getElem? hp
  have keep : ∀ b ob, w.h.get? b = some ob → ¬ Mut w.ι b → h'.get? b = some ob := fun b ob e n => (hs.2 b fun q => n ⟨p, hm, q.symm⟩).trans e
  have x : Ext k none w ⟨w.ι, { w.s with heap := h', toks := tk }⟩ := ⟨⟨[], (List.append_nil _).symm⟩, Nat.le_of_eq hs.1.symm, fun b ob _ e n => ⟨n, ⟨ob.slots, keep b ob e n⟩, fun _ => keep b ob e n⟩, nofun, nofun, rfl, rfl⟩
  refine ⟨x, i.len.trans (List.length_set ..).symm, i.nd, i.nd1, i.top, Nat.le_trans i.size x.size, fun {n ob} e => ?_, fun b ob e => (hs.2 b fun q => ?_).trans (i.keep b ob e), fun en h => (i.fr en h).ext x⟩
  · by_cases hk : j = n
    · subst hk
      rw [List.getElem?_set_self (i.len ▸ (List.getElem?_eq_some_iff.mp hp).1)] at e
      exact ⟨p, hp, Option.some.inj e ▸ r x⟩
    · rw [List.getElem?_set_ne hk] at e
      obtain ⟨p', hp', r'⟩ := i.obj e
      have ne : p'.2 ≠ p.2 := fun q => hk (inj_of i.nd hp hp' q.symm)
      refine ⟨p', hp', r'.to x.kp (fun o2 e2 => (hs.2 _ fun q => ?_).trans e2) (fun o2 e2 => (hs.2 _ ne).trans e2) id⟩
      cases r' with
      | inst n => exact n (q ▸ ⟨p, hm, rfl⟩)
      | list e' => exact ne (e' ▸ q)
      | sdict e' => exact ne (e' ▸ q)
      | idict e' => exact ne (e' ▸ q)
      | ba e' => exact ne (e' ▸ q)
  · have := i.new p hm
    rw [← q, e] at this
    cases this

/-! leaves -/
/-- turns no object -/
theorem Run.leaf {RL : Wd → α → β → Prop} {m : Sem β} {v : α} (i : Inv k w σ) (q : Q v σ) (h : ∀ P E, (∀ V tk, RL ⟨w.ι, { w.s with toks := tk }⟩ v V → P V { w.s with toks := tk }) → wpAny k.M k.A m P E w.s) : Run k none RL w Q T m :=
  Run.any fun E => h _ E fun _ _ r => .mk (i.grow (fun _ _ e => e) (Nat.le_refl _)) r q
/-- makes objects that no one names -/
theorem Run.grown {RL : Wd → α → β → Prop} {m : Sem β} {v : α} (i : Inv k w σ) (q : Q v σ)
    (h : ∀ P E, (∀ V h' tk, (∀ b o, w.h.get? b = some o → h'.get? b = some o) → w.h.objs.size ≤ h'.objs.size → (Ext k none w ⟨w.ι, { w.s with heap := h', toks := tk }⟩ → RL ⟨w.ι, { w.s with heap := h', toks := tk }⟩ v V) → P V { w.s with heap := h', toks := tk }) → wpAny k.M k.A m P E w.s) : Run k none RL w Q T m :=
  Run.any fun E => h _ E fun _ _ _ hk hs r => have st := i.grow hk hs; .mk st (r st.ext) q
/-- makes an object of the store -/
theorem Run.made {m : Sem Value} {o : MO} {Q : MV → St → Prop} (i : Inv k w σ) (q : Q (.ref σ.length) (σ ++ [o]))
    (h : ∀ P E, (∀ a h' tk, (∀ b o, w.h.get? b = some o → h'.get? b = some o) → w.h.objs.size ≤ h'.objs.size → w.h.objs.size ≤ a →
      (Ext k none w ⟨w.ι ++ [(a, a)], { w.s with heap := h', toks := tk }⟩ → ORel k.g ⟨w.ι ++ [(a, a)], { w.s with heap := h', toks := tk }⟩ (a, a) o) → P (.ref a) { w.s with heap := h', toks := tk }) → wpAny k.M k.A m P E w.s) : Run k none VRel w Q T m :=
  Run.any fun E => h _ E fun a h' tk hk hs ha r => .mk (i.alloc hk hs ha ha r) (.ref (p := (a, a)) (by rw [← i.len]; show (w.ι ++ [(a, a)])[w.ι.length]? = _; rw [List.getElem?_append_right (Nat.le_refl _), Nat.sub_self]; rfl)) q
/-- turns one object of the store -/
theorem Run.turned {RL : Wd → α → β → Prop} {m : Sem β} {v : α} {j : Nat} {p : Addr × Addr} {o : MO} (i : Inv k w σ) (hp : w.ι[j]? = some p) (q : Q v (σ.set j o))
    (h : ∀ P E, (∀ V h' tk, Heap.SameBut p.2 w.h h' → (Ext k none w ⟨w.ι, { w.s with heap := h', toks := tk }⟩ → ORel k.g ⟨w.ι, { w.s with heap := h', toks := tk }⟩ p o ∧ RL ⟨w.ι, { w.s with heap := h', toks := tk }⟩ v V) → P V { w.s with heap := h', toks := tk }) → wpAny k.M k.A m P E w.s) : Run k none RL w Q T m :=
  Run.any fun E => h _ E fun V h' tk hs r => have st := i.set hp hs fun x => (r x).1; .mk st (r st.ext).2 q
theorem push_keeps {h : Heap} (o : Obj) : ∀ b x, h.get? b = some x → (h.push o).get? b = some x := fun _ _ e => Heap.get?_push_of_some _ e
theorem push_le {h : Heap} (o : Obj) : h.objs.size ≤ (h.push o).objs.size := by rw [Heap.size_push]; exact Nat.le_succ _
theorem sz_line : sz ≤ sizeLine := by rw [sizeLine_eq]; decide
end
end Mine
end
section
namespace Mine

/-! the text's own functions, classes, constants -/
structure FnRec where
  params : List Str
  body : List Stmt
  scope : Scope
noncomputable def fnOfStmt : Stmt → Option (Str × FnRec)
  | .FunctionDef n a b _ _ _ sc _ _ _ => some (n, ⟨a.args.map (·.arg), b, sc⟩)
  | _ => .none
noncomputable def lookF (l : List Stmt) (f : Str) : Option FnRec := l.findSome? fun s => match fnOfStmt s with
  | some (n, d) => if f = n then some d else .none
  | .none => .none
noncomputable def clsOf : Stmt → Option (Str × List Stmt)
  | .ClassDef n _ _ b _ _ _ _ _ _ _ => some (n, b)
  | _ => .none
noncomputable def lookC (l : List Stmt) (c : Str) : List Stmt := (l.findSome? fun s => match clsOf s with
  | some (n, b) => if c = n then some b else .none
  | .none => .none).getD []
noncomputable abbrev top : List Stmt := PySem.Challenge.pw_og0214_01.main.body
/-- a function at the top (class ""), or a class's -/
noncomputable def FT (c f : Str) : Option FnRec := if c = ("" : Str) then lookF top f else lookF (lookC top c) f
noncomputable def constM : Expr → Option MV
  | .Constant (.int i) _ _ => some (.int i)
  | .Constant (.str s) _ _ => some (.str s)
  | _ => .none
noncomputable def constT : Expr → Option MV
  | .Tuple es _ _ => (es.mapM constM).map .tup
  | e => constM e
noncomputable def conOf : Stmt → Option (Str × MV)
  | .Assign [.Name n _] e _ => (constT e).map fun v => (n, v)
  | _ => .none
/-- the constants at the top -/
noncomputable def GC (x : Str) : Option MV := if x = ("__name__" : Str) then .none else top.findSome? fun s => match conOf s with
  | some (n, v) => if x = n then some v else .none
  | .none => .none
noncomputable def isProp (c a : Str) : Bool := c = ("Record" : Str) && (a = ("length" : Str) || a = ("is_on" : Str))
noncomputable def isClass (c : Str) : Bool := c = ("Record" : Str) || c = ("Machine" : Str)
/-- neither of the names that the compiler keeps for itself -/
noncomputable def plainName (x : Str) : Bool := !(x == ("__debug__" : Str)) && !(x == ("__classdict__" : Str))
/-- the names under which the text's instances keep their own -/
noncomputable def isField (a : Str) : Bool := (["machine", "most", "steps", "base", "size", "memory", "registers", "pc", "output", "status", "is_done", "log", "known"] : List Str).contains a
/-- the built-ins that are called by their names -/
noncomputable def blts : List (Str × Value) := [("len", .builtin "len"), ("int", .type "int"), ("abs", .builtin "abs"), ("tuple", .type "tuple"), ("bytes", .type "bytes"), ("bytearray", .type "bytearray"), ("range", .type "range"), ("enumerate", .type "enumerate"), ("isinstance", .builtin "isinstance"), ("bool", .type "bool")]

/-- a def without frills -/
noncomputable def plainDef (d : FnRec) : Bool := d.scope.kind == .function && !d.scope.isGenerator && !d.scope.isCoroutine && decide d.params.Nodup &&
  d.params.all fun x => d.scope.names.lookup x == some .local || d.scope.names.lookup x == some .cell
/-- a def of the text as it stands in the heap -/
inductive FnObj (K : Frag) (a : Addr) (d : FnRec) : Prop
  | mk {oc od sl name qual args kV doc pm an cdv ct} :
    K.lookup a = some ⟨oc, od, .func (fnOf name qual ⟨[], args, none, [], [], none, []⟩ d.body d.scope .none kV doc pm an cdv ct), sl⟩ → codeIn K cdv qual = true → args.map (·.arg) = d.params → typeIn K (.ref a) = some (.type "function") → FnObj K a d
/-- the class of the text's own traps, over another one of its own -/
noncomputable def excOk (K : Frag) (C D : Addr) : Bool := (clsIn K C).any (fun cd => decide (cd.mro = [.ref C, .ref D, .type "Exception", .type "BaseException", .type "object"]) && (cd.hasDict && !cd.hasDel)) &&
  (K.lookup C).any fun o => decide (o.cls = .type "type") && decide (o.slots = #[o.slots.getD 0 none, o.slots.getD 1 none, o.slots.getD 2 none, o.slots.getD 3 none, some (.builtin "Exception.__new__"), o.slots.getD 5 none])
/-- a start that calls its base's and keeps one field -/
structure ExcForm (d : FnRec) (base fld : Str) (ps : List Str) : Prop where
  form : ∃ p1 p2 p3 p4 p5 p6 p7 p8 p9 p10, d.params = ps ∧ p2.endLine = p5.line ∧
    d.body = [.Expr (.Call (.Attribute (.Name base p1) ("__init__" : Str) p2) [.Name ("self" : Str) p3, .Name ("word" : Str) p4] [] p5) p6, .Assign [.Attribute (.Name ("self" : Str) p7) fld p8] (.Name fld p9) p10]
  look : d.scope.names.lookup base = some .globalImplicit
  loc : ∀ x ∈ ps, d.scope.names.lookup x = some .local
  plain : (base == ("__debug__" : Str)) = false
inductive ExcInit (K : Frag) (v : Option Value) (base fld : Str) (ps : List Str) : Prop
  | mk {f : Addr} {d : FnRec} : v = some (.ref f) → FnObj K f d → plainDef d = true → ExcForm d base fld ps → ExcInit K v base fld ps
/-- what the top gives for the traps -/
structure TrapTop (g : Gx) : Prop where
  ok : excOk g.K g.C.trap g.D = true
  set : findIn g.K (.ref g.C.trap) "__setattr__" = some (some (.builtin "object.__setattr__"))
  tw : takerIn g.K g.C.trap "word" = some none
  ta : takerIn g.K g.C.trap "at" = some none
  init : ∃ v, findIn g.K (.ref g.C.trap) "__init__" = some v ∧ ExcInit g.K v "DebugFault" "at" ["self", "word", "at"]
  mgT : g.mg "Trap" = some (.ref g.C.trap)
  mgD : g.mg "DebugFault" = some (.ref g.D)
  ga : specialIn g.K (.ref g.D) "__getattribute__" = some (some (.builtin "type.__getattribute__"))
  rd : readsIn g.K g.D (.type "type") = true
  base : ∃ v, findCls g.K (.ref g.D) (.type "type") "__init__" = some (.val v) ∧ ExcInit g.K (some v) "Exception" "word" ["self", "word"]
  mgE : g.mg "Exception" = none
  mbE : g.mb "Exception" = some (.type "Exception")
  bs : findCls g.K (.type "Exception") (.type "type") "__init__" = some (.val (.builtin "Exception.__init__"))
/-- a class of the text's own -/
structure ClsTop (g : Gx) (c : Str) (a : Addr) : Prop where
  mg : g.mg c = some (.ref a)
  no : FT "" c = none
  makes : makesIn g.K a = true
  ga : findIn g.K (.ref a) "__getattribute__" = some (some (.builtin "object.__getattribute__"))
  gt : findIn g.K (.ref a) "__getattr__" = some none
  sa : findIn g.K (.ref a) "__setattr__" = some (some (.builtin "object.__setattr__"))
  po : plainOver g.K a = true
  hd : (clsIn g.K a).any (·.hasDict) = true
  field : ∀ x, isField x = true → findIn g.K (.ref a) x = some none
/-- a method; a property -/
structure MethTop (g : Gx) (c : Str) (a : Addr) (f : Str) (d : FnRec) : Prop where
  plain : plainDef d = true
  nf : isField f = false
  obj : isProp c f = false → ∃ fa, findIn g.K (.ref a) f = some (some (.ref fa)) ∧ FnObj g.K fa d
structure PropTop (g : Gx) (c : Str) (a : Addr) (f : Str) (d : FnRec) : Prop where
  obj : ∃ p fa rest, findIn g.K (.ref a) f = some (some (.ref p)) ∧ (∀ od, findObj g.K a od f = some (.bind (.builtin "property.__get__") (.ref p))) ∧ recIn g.K p "property" = some (.ref fa :: rest) ∧ FnObj g.K fa d
/-- what the text's top gives -/
structure Top (g : Gx) : Prop where
  kin : g.K.In g.h₀
  low : sysModules < g.h₀.objs.size
  lim : g.h₀.NoLimit
  nsg : g.h₀.Ns mainGlobals g.mg
  nsb : g.h₀.Ns builtinsNs g.mb
  consts : ∀ {x v}, GC x = some v → ∃ V, g.mg x = some V ∧ VRel g.w₀ v V
  fns : ∀ {f d}, FT "" f = some d → plainDef d = true ∧ ∃ a, g.mg f = some (.ref a) ∧ FnObj g.K a d
  cls : ∀ {c a}, g.C.at c = some a → ClsTop g c a
  meth : ∀ {c a}, g.C.at c = some a → ∀ {f d}, FT c f = some d → MethTop g c a f d
  prop : ∀ {c a}, g.C.at c = some a → ∀ {f d}, FT c f = some d → isProp c f = true → PropTop g c a f d
  blt : ∀ p ∈ blts, g.mg p.1 = none ∧ g.mb p.1 = some p.2
  fb : findCls g.K (.type "int") (.type "type") (PySem.Str.ofString "from_bytes") = some (.get (.builtin "classmethod_descriptor.__get__") (.builtin "int.from_bytes") .none (.type "int"))
  trap : TrapTop g

/-! a frame's names, by place -/
structure Sc where
  ns : List Str
  nd : ns.Nodup
  pl : ns.all plainName = true
structure Loc where
  S : Sc
  ws : List Nm
inductive AtL : List Str → List Nm → Str → Nm → Prop
  | hd {x : Str} {ns : List Str} {w : Nm} {ws : List Nm} : AtL (x :: ns) (w :: ws) x w
  | tl {x n : Str} {ns : List Str} {w v : Nm} {ws : List Nm} : AtL ns ws x w → AtL (n :: ns) (v :: ws) x w
noncomputable def Nm.isLo : Nm → Bool
  | .lo | .v _ => true
  | _ => false
inductive UpL : List Str → List Nm → Str → Nm → List Nm → Prop
  | hd {x : Str} {ns : List Str} {w v : Nm} {ws : List Nm} : w.isLo = true → UpL (x :: ns) (w :: ws) x v (v :: ws)
  | tl {x n : Str} {ns : List Str} {w v : Nm} {ws ws' : List Nm} : UpL ns ws x v ws' → UpL (n :: ns) (w :: ws) x v (w :: ws')
noncomputable abbrev Loc.at (ρ : Loc) (x : Str) (u : Nm) : Prop := AtL ρ.S.ns ρ.ws x u
theorem AtL.mem {ns : List Str} {ws : List Nm} {x : Str} {u : Nm} (h : AtL ns ws x u) : x ∈ ns := by
  induction h with
  | hd => exact List.mem_cons_self
  | tl _ ih => exact List.mem_cons_of_mem _ ih
theorem UpL.mem {ns : List Str} {ws ws' : List Nm} {x : Str} {u : Nm} (h : UpL ns ws x u ws') : x ∈ ns := by
  induction h with
  | hd _ => exact List.mem_cons_self
  | tl _ ih => exact List.mem_cons_of_mem _ ih
theorem UpL.lo {ns : List Str} {ws ws' : List Nm} {x : Str} {u : Nm} (h : UpL ns ws x u ws') : ∃ z, AtL ns ws x z ∧ z.isLo = true := by
  induction h with
  | hd h => exact ⟨_, .hd, h⟩
  | tl _ ih => obtain ⟨z, h, h'⟩ := ih; exact ⟨z, .tl h, h'⟩
theorem UpL.at {ns : List Str} {ws ws' : List Nm} {x y : Str} {u z : Nm} (h : UpL ns ws x u ws') (nd : ns.Nodup) (q : AtL ns ws' y z) : (y = x ∧ z = u) ∨ (y ≠ x ∧ AtL ns ws y z) := by
  induction h with
  | hd _ =>
    cases q with
    | hd => exact .inl ⟨rfl, rfl⟩
    | tl q => exact .inr ⟨fun e => (List.nodup_cons.mp nd).1 (e ▸ q.mem), .tl q⟩
  | tl h ih =>
    cases q with
    | hd => exact .inr ⟨fun e => (List.nodup_cons.mp nd).1 (e ▸ h.mem), .hd⟩
    | tl q => exact (ih (List.nodup_cons.mp nd).2 q).imp id fun ⟨a, b⟩ => ⟨a, .tl b⟩
theorem Loc.plain {ρ : Loc} {x : Str} {u : Nm} (h : ρ.at x u) : plainName x = true := List.all_eq_true.mp ρ.S.pl x h.mem
/-- a namespace of a frame's own -/
structure LocAt (g : Gx) (w : Wd) (L : Addr) (m : Str → Option Value) : Prop where
  ns : w.h.Ns L m
  nm : ¬ Mut w.ι L
  new : g.h₀.get? L = none
/-- a cell that holds a value -/
inductive CellAt (w : Wd) (a : Addr) (V : Value) : Prop
  | mk {o : Obj} : w.h.get? a = some o → o.data = .cell (some V) → ¬ Mut w.ι a → CellAt w a V
/-- what a name of the frame is -/
inductive NmRel (w : Wd) (env : Env) (m : Str → Option Value) (x : Str) : Nm → Prop
  | un : NmRel w env m x .un
  | gl : env.kindOf x = some .globalImplicit → NmRel w env m x .gl
  | lo : env.kindOf x = some .local → NmRel w env m x .lo
  | ce : env.kindOf x = some .cell → NmRel w env m x .ce
  | v {u : MV} {V : Value} : env.kindOf x = some .local → m x = some V → VRel w u V → NmRel w env m x (.v u)
  | c {u : MV} {a : Addr} {V : Value} : env.kindOf x = some .cell ∨ env.kindOf x = some .free → env.cells.lookup x = some a → CellAt w a V → VRel w u V → NmRel w env m x (.c u)
structure EnvF (env : Env) : Prop where
  kind : env.scope.kind = .function
  glob : env.globals = mainGlobals
  bltn : env.builtins = builtinsNs
inductive EnvR (g : Gx) (w : Wd) (ρ : Loc) (env : Env) : Prop
  | mk {m : Str → Option Value} : EnvF env → LocAt g w env.locals m → (∀ x u, ρ.at x u → NmRel w env m x u) → EnvR g w ρ env
theorem NsObj.of {h : Heap} {a : Addr} {m : Str → Option Value} (n : h.Ns a m) : NsObj h a := let ⟨_, _, _, g, d, _⟩ := n; .mk g d
section
variable {k : Kx} {w w' : Wd} {σ : St} {ρ : Loc} {env : Env} {x : Str} {a : Addr} {m : Str → Option Value} {g : Gx}
theorem EnvR.f (e : EnvR g w ρ env) : EnvF env := match e with | .mk f _ _ => f
theorem EnvR.ob (e : EnvR g w ρ env) : NsObj w.h env.locals := match e with | .mk _ l _ => .of l.ns
theorem EnvR.nm (e : EnvR g w ρ env) : ¬ Mut w.ι env.locals := match e with | .mk _ l _ => l.nm
theorem Same.ns {h h' : Heap} (n : h.Ns a m) (s : ∀ o, h.get? a = some o → ∃ sl, h'.get? a = some { o with slots := sl }) : h'.Ns a m :=
  let ⟨o, es, ep, ho, hd, r⟩ := n; let ⟨sl, e⟩ := s o ho; ⟨_, es, ep, e, hd, r⟩
theorem LocAt.ext (x : Ext k none w w') (n : LocAt g w a m) : LocAt g w' a m :=
  let ⟨o, _, _, ho, _⟩ := n.ns; ⟨Same.ns n.ns fun o ho => (x.kept a o nofun ho n.nm).same, (x.kept a o nofun ho n.nm).nm, n.new⟩
theorem CellAt.ext {L : Option Addr} {V : Value} (x : Ext k L w w') (c : CellAt w a V) : CellAt w' a V := match c with
  | .mk h d n => let ⟨n', ⟨_, h'⟩, _⟩ := x.kept a _ (fun q => by cases x.old a q with | mk h' d' => rw [h] at h'; cases h'; rw [d] at d'; cases d') h n; .mk h' d n'
theorem NmRel.to {m' : Str → Option Value} {u : Nm} (v : ∀ {m V}, VRel w m V → VRel w' m V) (c : ∀ {a V}, CellAt w a V → CellAt w' a V) (hm : ∀ V, m x = some V → m' x = some V) (r : NmRel w env m x u) : NmRel w' env m' x u := match r with
  | .un => .un | .gl h => .gl h | .lo h => .lo h | .ce h => .ce h | .v h h' r => .v h (hm _ h') (v r) | .c h h' c' r => .c h h' (c c') (v r)
theorem EnvR.ext (x : Ext k none w w') (e : EnvR g w ρ env) : EnvR g w' ρ env := match e with
  | .mk f l r => .mk f (l.ext x) fun y u h => (r y u h).to (·.ext x) (·.ext x) fun _ h => h
/-- a run that turns nothing of the frame, in a statement -/
theorem EnvR.run {α β : Type} {RL : Wd → α → β → Prop} {Q : α → St → Prop} {T : St → Prop} {t : Sem β} (e : EnvR g w ρ env) (h : Run k none RL w Q T t) : Run k (some env.locals) RL w Q T t := h.up e.ob e.nm

/-- room for what is still to come -/
structure Fit (k : Kx) (n : Nat) : Prop where
  hand : k.A.handled = none
  frs : k.A.frames = some k.l
  dep : k.A.depth + 4 * n + 8 < recursionLimit
  uni : k.A.units + 20 * n + 40 < cLine
  top : Top k.g
theorem Fit.le {n n' : Nat} (f : Fit k n) (h : n' ≤ n) : Fit k n' := ⟨f.hand, f.frs, by have := f.dep; omega, by have := f.uni; omega, f.top⟩
theorem Inv.kin {n : Nat} (F : Fit k n) (i : Inv k w σ) : k.g.K.In w.h := F.top.kin.keeps i.keep
theorem Inv.nsg {n : Nat} (F : Fit k n) (i : Inv k w σ) : w.h.Ns mainGlobals k.g.mg := F.top.nsg.keeps i.keep
theorem Inv.nsb {n : Nat} (F : Fit k n) (i : Inv k w σ) : w.h.Ns builtinsNs k.g.mb := F.top.nsb.keeps i.keep
theorem Inv.lim {n : Nat} (F : Fit k n) (i : Inv k w σ) : w.h.NoLimit := F.top.lim.keeps i.keep
theorem Inv.notMut (i : Inv k w σ) {o : Obj} (e : k.g.h₀.get? a = some o) : ¬ Mut w.ι a := fun ⟨p, hp, q⟩ => by have := i.new p hp; rw [q, e] at this; cases this
theorem Inv.kp (i : Inv k w σ) : Kp k.g.w₀ w := ⟨fun a o vs n h d _ => ⟨i.notMut h, o.slots, i.keep _ _ h⟩, fun h => nomatch h⟩
end

/-! What the rules say: a run ends in Q, or in a trap with T. -/
inductive FR (g : Gx) (env : Env) (w : Wd) : Fl × Loc → Flow → Prop
  | next {ρ : Loc} : EnvR g w ρ env → FR g env w (.next, ρ) .next
  | ret {v : MV} {V : Value} {ρ : Loc} : VRel w v V → EnvR g w ρ env → FR g env w (.ret v, ρ) (.ret V)
noncomputable def EvS (n : Nat) (ρ : Loc) (e : Expr) (σ : St) (Q : MV → St → Prop) (T : St → Prop) : Prop :=
  ∀ (k : Kx) (w : Wd) (env : Env), Fit k n → Inv k w σ → EnvR k.g w ρ env → Run k none VRel w Q T (eval e env)
noncomputable def TstS (n : Nat) (ρ : Loc) (e : Expr) (σ : St) (Q : Bool → St → Prop) (T : St → Prop) : Prop :=
  ∀ (k : Kx) (w : Wd) (env : Env), Fit k n → Inv k w σ → EnvR k.g w ρ env → Run k none (fun _ => Eq) w Q T (isTrue e env (eval e env))
noncomputable def AsgS (n : Nat) (ρ : Loc) (t : Expr) (v : MV) (σ : St) (L : Loc → St → Prop) (T : St → Prop) : Prop :=
  ∀ (k : Kx) (w : Wd) (env : Env) (V : Value), Fit k n → Inv k w σ → EnvR k.g w ρ env → VRel w v V → Run k (some env.locals) (fun w ρ (_ : Unit) => EnvR k.g w ρ env) w L T (assign t env V)
/-- in a frame of one's own -/
structure Own (k : Kx) (env : Env) : Prop where
  l : ∃ l, k.l = env :: l
  fr : env.frame = some env.locals
noncomputable def ExS (n : Nat) (ρ : Loc) (s : Stmt) (σ : St) (K : Fl × Loc → St → Prop) (T : St → Prop) : Prop :=
  ∀ (k : Kx) (w : Wd) (env : Env), Fit k n → Inv k w σ → EnvR k.g w ρ env → Own k env → Run k (some env.locals) (FR k.g env) w K T (exec s env)
noncomputable def ExLS (n : Nat) (ρ : Loc) (ss : List Stmt) (σ : St) (K : Fl × Loc → St → Prop) (T : St → Prop) : Prop :=
  ∀ (k : Kx) (w : Wd) (env : Env), Fit k n → Inv k w σ → EnvR k.g w ρ env → Own k env → Run k (some env.locals) (FR k.g env) w K T (execs ss env)
/-- a code does what is said -/
noncomputable def GotC (k : Kx) (w : Wd) (Q : MV → St → Prop) (T : St → Prop) : Result → Shared → Prop := fun res s' => match res with
  | .ok (.ret V) => Got k none VRel w Q V s'
  | .ok _ => False
  | .error e => Err k none w T e s'
noncomputable def RunC (k : Kx) (w : Wd) (Q : MV → St → Prop) (T : St → Prop) (c : Code) : Prop := codeC k.M k.A c (GotC k w Q T) w.s
noncomputable def CalS (n : Nat) (c f : Str) (vs : List MV) (σ : St) (Q : MV → St → Prop) (T : St → Prop) : Prop :=
  ∀ (k : Kx) (w : Wd) (a : Addr) (d : FnRec) (Vs : List Value), FT c f = some d → plainDef d = true → FnObj k.g.K a d → Fit k n → Inv k w σ → VRels w vs Vs → RunC k w Q T (.call (.ref a) ⟨Vs, []⟩)
end Mine
end
section
set_option genCtorIdx false
namespace Mine

/-! the top, from a look at its end -/
noncomputable def frg (l : List Obj) : Nat → Frag := List.rec (fun _ => []) (fun o _ f n => bif o.alive then (n, o) :: f (n + 1) else f (n + 1)) l
noncomputable def fragOf (h : Heap) : Frag := frg h.objs.toList 0
theorem frg_at {a : Addr} {o : Obj} {l : List Obj} : ∀ {n : Nat}, (frg l n).lookup a = some o → ∃ i, a = n + i ∧ l[i]? = some o ∧ o.alive = true := by
  induction l with
  | nil => exact fun e => by cases e
  | cons x l ih =>
    intro n e
    have e : List.lookup a (bif x.alive then (n, x) :: frg l (n + 1) else frg l (n + 1)) = some o := e
    have r : (frg l (n + 1)).lookup a = some o → ∃ i, a = n + i ∧ (x :: l)[i]? = some o ∧ o.alive = true := fun e => by
      obtain ⟨i, h1, h2, h3⟩ := ih e
      exact ⟨i + 1, h1.trans (Nat.succ_add_eq_add_succ n i), h2, h3⟩
    cases q : x.alive with
    | false => rw [q] at e; exact r e
    | true =>
      rw [q] at e
      have e : (match a == n with | true => some x | false => List.lookup a (frg l (n + 1))) = some o := e
      cases c : a == n with
      | true => rw [c] at e; cases e; exact ⟨0, beq_iff_eq.mp c, rfl, q⟩
      | false => rw [c] at e; exact r e
theorem fragOf_in (h : Heap) : (fragOf h).In h := fun a o e => by
  obtain ⟨i, h1, h2, h3⟩ := frg_at e
  obtain rfl : a = i := h1.trans (Nat.zero_add i)
  exact (PySem.Heap.get?_eq_some h a o).mpr ⟨by rw [← Array.getElem?_toList]; exact h2, h3⟩
noncomputable def stmtsOf (b : FuncBody) : Option (List Stmt) := match b with
  | .stmts b => some b
  | _ => none
noncomputable def funcOf (d : Data) : Option FuncData := match d with
  | .func fd => some fd
  | _ => none
/-- one after the other -/
noncomputable def allB (l : List Bool) : Bool := List.rec true (fun a _ r => a && r) l
noncomputable def funcB (K : Frag) (a : Addr) (fd : FuncData) : Bool := allB [fd.params.posonlyargs.isEmpty, fd.params.vararg.isNone, fd.params.kwonlyargs.isEmpty, fd.params.kw_defaults.isEmpty, fd.params.kwarg.isNone, fd.params.defaults.isEmpty, fd.closure.isEmpty, decide (fd.globals = mainGlobals),
  decide (fd.builtins = builtinsNs), decide (fd.defaults = .none), codeIn K fd.code fd.qualname, decide (typeIn K (.ref a) = some (.type "function"))]
theorem allE {a : Bool} {l : List Bool} (h : allB (a :: l) = true) : a = true ∧ allB l = true := Bool.and_eq_true_iff.mp h
noncomputable def coreOf (K : Frag) (a : Addr) : Option (FnRec × Bool) := (K.lookup a).bind fun o => (funcOf o.data).bind fun fd => (stmtsOf fd.body).map fun b => (⟨fd.params.args.map (·.arg), b, fd.scope⟩, funcB K a fd)
noncomputable def refOf (v : Option (Option Value)) : Option Addr := match v with
  | some (some (.ref a)) => some a
  | _ => none
noncomputable def seenDef (K : Frag) (v : Option (Option Value)) : Option (FnRec × Bool) := (refOf v).bind (coreOf K)
theorem funcOf_ok {d : Data} {fd : FuncData} (h : funcOf d = some fd) : d = .func fd := by
  cases d with
  | func fd' => cases h; rfl
  | _ => cases h
theorem stmtsOf_ok {d : FuncBody} {b : List Stmt} (h : stmtsOf d = some b) : d = .stmts b := by
  cases d with
  | stmts b' => cases h; rfl
  | _ => cases h
theorem refOf_ok {v : Option (Option Value)} {a : Addr} (h : refOf v = some a) : v = some (some (.ref a)) := by
  cases v with
  | none => cases h
  | some v => cases v with
    | none => cases h
    | some v => cases v with
      | ref b => cases h; rfl
      | _ => cases h
theorem args_eq {p : Arguments} (h1 : p.posonlyargs = []) (h2 : p.vararg = none) (h3 : p.kwonlyargs = []) (h4 : p.kw_defaults = []) (h5 : p.kwarg = none) (h6 : p.defaults = []) : p = ⟨[], p.args, none, [], [], none, []⟩ := by
  have e : p = ⟨p.posonlyargs, p.args, p.vararg, p.kwonlyargs, p.kw_defaults, p.kwarg, p.defaults⟩ := by cases p; rfl
  rw [h1, h2, h3, h4, h5, h6] at e
  exact e
theorem func_eq {fd : FuncData} {P : Arguments} {b : List Stmt} (h1 : fd.params = P) (h2 : fd.body = .stmts b) (h3 : fd.closure = []) (h4 : fd.globals = mainGlobals) (h5 : fd.builtins = builtinsNs) (h6 : fd.defaults = .none) : fd = fnOf fd.name fd.qualname P b fd.scope .none fd.kwdefaults fd.doc fd.pyModule fd.annotations fd.code fd.closureTuple := by
  have e : fd = ⟨fd.name, fd.qualname, fd.params, fd.body, fd.scope, fd.globals, fd.closure, fd.defaults, fd.kwdefaults, fd.doc, fd.pyModule, fd.annotations, fd.code, fd.closureTuple, fd.builtins⟩ := rfl
  rw [h1, h2, h3, h4, h5, h6] at e
  exact e
theorem funcB_ok {K : Frag} {a : Addr} {fd : FuncData} {b : List Stmt} (hc : funcB K a fd = true) (hb : fd.body = .stmts b) : fd = fnOf fd.name fd.qualname ⟨[], fd.params.args, none, [], [], none, []⟩ b fd.scope .none fd.kwdefaults fd.doc fd.pyModule fd.annotations fd.code fd.closureTuple ∧ codeIn K fd.code fd.qualname = true ∧ typeIn K (.ref a) = some (.type "function") :=
  have ⟨h1, hc⟩ := allE hc
  have ⟨h2, hc⟩ := allE hc
  have ⟨h3, hc⟩ := allE hc
  have ⟨h4, hc⟩ := allE hc
  have ⟨h5, hc⟩ := allE hc
  have ⟨h6, hc⟩ := allE hc
  have ⟨h7, hc⟩ := allE hc
  have ⟨h8, hc⟩ := allE hc
  have ⟨h9, hc⟩ := allE hc
  have ⟨h10, hc⟩ := allE hc
  have ⟨h11, hc⟩ := allE hc
  ⟨func_eq (args_eq (List.isEmpty_iff.mp h1) (Option.isNone_iff_eq_none.mp h2) (List.isEmpty_iff.mp h3) (List.isEmpty_iff.mp h4) (Option.isNone_iff_eq_none.mp h5) (List.isEmpty_iff.mp h6)) hb (List.isEmpty_iff.mp h7) (of_decide_eq_true h8) (of_decide_eq_true h9) (of_decide_eq_true h10), h11, of_decide_eq_true (allE hc).1⟩
theorem core_ok {K : Frag} {a : Addr} {d : FnRec} (h : coreOf K a = some (d, true)) : FnObj K a d := by
  obtain ⟨o, ho, h⟩ := Option.bind_eq_some_iff.mp h
  obtain ⟨fd, hf, h⟩ := Option.bind_eq_some_iff.mp h
  obtain ⟨b, hb, h⟩ := Option.map_eq_some_iff.mp h
  obtain ⟨rfl, hc⟩ := Prod.mk.inj h
  obtain ⟨e, hcd, ht⟩ := funcB_ok hc (stmtsOf_ok hb)
  obtain ⟨oc, od, data, sl⟩ := o
  obtain rfl : data = .func fd := funcOf_ok hf
  rw [e] at ho
  exact .mk ho hcd rfl ht
theorem seen_ok {K : Frag} {v : Option (Option Value)} {d : FnRec} (h : seenDef K v = some (d, true)) : ∃ a, v = some (some (.ref a)) ∧ FnObj K a d := by
  obtain ⟨a, e, h⟩ := Option.bind_eq_some_iff.mp h
  exact ⟨a, refOf_ok e, core_ok h⟩
end Mine
end
section
set_option genCtorIdx false
namespace Mine
/-- a def by its place in the text: at the top, in a class -/
noncomputable def fnAt (i : Nat) : Option FnRec := (fnOfStmt (top.getD i (.Pass ⟨0, 0, 0, 0⟩))).map (·.2)
noncomputable def metAt (i j : Nat) : Option FnRec := (clsOf (top.getD i (.Pass ⟨0, 0, 0, 0⟩))).bind fun c => (fnOfStmt (c.2.getD j (.Pass ⟨0, 0, 0, 0⟩))).map (·.2)

/-! what is asked of the top's end -/
noncomputable def vI (V : Value) : Option Int := match V with
  | .int i _ => some i
  | _ => none
noncomputable def vS (V : Value) : Option Str := match V with
  | .str s _ => some s
  | _ => none
noncomputable def mI (v : MV) : Option Int := MV.casesOn (motive_1 := fun _ => Option Int) v none (fun _ => none) some (fun _ => none) (fun _ => none) (fun _ => none) (fun _ => none) fun _ => none
noncomputable def mS (v : MV) : Option Str := MV.casesOn (motive_1 := fun _ => Option Str) v none (fun _ => none) (fun _ => none) some (fun _ => none) (fun _ => none) (fun _ => none) fun _ => none
noncomputable def mT (v : MV) : Option (List MV) := MV.casesOn (motive_1 := fun _ => Option (List MV)) v none (fun _ => none) (fun _ => none) (fun _ => none) (fun _ => none) some (fun _ => none) fun _ => none
noncomputable def relB (v : MV) (V : Value) : Bool := (mI v).any (fun i => decide (vI V = some i)) || (mS v).any fun s => decide (vS V = some s)
noncomputable def relBs (ms : List MV) : List Value → Bool := List.rec (fun vs => vs.isEmpty) (fun m _ f vs => List.casesOn vs false fun V vs => relB m V && f vs) ms
noncomputable def tupIn (K : Frag) (a : Addr) : Option (List Value) := (K.lookup a).bind fun o => match o.data with
  | .seq vs _ => if o.cls = .type "tuple" ∧ o.dict = none then some vs.toList else none
  | _ => none
noncomputable def conB (K : Frag) (v : MV) (V : Value) : Bool := relB v V || (mT v).any fun l => (refOf (some (some V))).any fun a => (tupIn K a).any fun vs => relBs l vs
noncomputable def conS (K : Frag) (s : Stmt) : Bool := (conOf s).all fun nv => decide (nv.1 = ("__name__" : Str)) || (nsIn K mainGlobals nv.1).any fun o => o.any fun V => conB K nv.2 V
noncomputable def seenTop (K : Frag) (s : Stmt) : Option (FnRec × Bool) := (fnOfStmt s).bind fun nd => seenDef K (nsIn K mainGlobals nd.1)
noncomputable def expTop (s : Stmt) : Option (FnRec × Bool) := (fnOfStmt s).map fun nd => (nd.2, true)
noncomputable def propFn (K : Frag) (v : Option (Option Value)) : Option (Option Value) := (refOf v).bind fun p => (recIn K p "property").map List.head?
noncomputable def seenMet (K : Frag) (c : Str) (a : Addr) (s : Stmt) : Option (FnRec × Bool) := (fnOfStmt s).bind fun nd => seenDef K (if isProp c nd.1 then propFn K (findIn K (.ref a) nd.1) else findIn K (.ref a) nd.1)
noncomputable def valOf (v : Option CFound) : Option (Option Value) := match v with
  | some (.val v) => some (some v)
  | _ => none
noncomputable def propB (K : Frag) (a : Addr) (f : Str) : Bool := (clsIn K a).isSome && (refOf (findIn K (.ref a) f)).any fun p => decide (specialIn K (.ref p) "__get__" = some (some (.builtin "property.__get__"))) && decide (takesIn K (.ref p) = some true)
noncomputable def fieldNames : List Str := ["machine", "most", "steps", "base", "size", "memory", "registers", "pc", "output", "status", "is_done", "log", "known"]
noncomputable def clsB (K : Frag) (c : Str) (a : Addr) : Bool := allB [decide (nsIn K mainGlobals c = some (some (.ref a))), makesIn K a, decide (findIn K (.ref a) "__getattribute__" = some (some (.builtin "object.__getattribute__"))),
  decide (findIn K (.ref a) "__getattr__" = some none), decide (findIn K (.ref a) "__setattr__" = some (some (.builtin "object.__setattr__"))), plainOver K a, (clsIn K a).any (·.hasDict), fieldNames.all fun x => decide (findIn K (.ref a) x = some none)]
noncomputable def topB (K : Frag) : Bool := allB [top.all (conS K), clsB K "Record" 82, clsB K "Machine" 400, blts.all fun p => decide (nsIn K mainGlobals p.1 = some none), propB K 82 "length", propB K 82 "is_on", (K.lookup 479).isSome, excOk K 123 103,
  decide (findIn K (.ref 123) "__setattr__" = some (some (.builtin "object.__setattr__"))), decide (takerIn K 123 "word" = some none), decide (takerIn K 123 "at" = some none), decide (nsIn K mainGlobals "Trap" = some (some (.ref 123))), decide (nsIn K mainGlobals "DebugFault" = some (some (.ref 103))),
  decide (specialIn K (.ref 103) "__getattribute__" = some (some (.builtin "type.__getattribute__"))), readsIn K 103 (.type "type"), decide (nsIn K mainGlobals "Exception" = some none)]
abbrev Look := List (Option (FnRec × Bool)) × List (Option (FnRec × Bool)) × List (Option (FnRec × Bool)) × List (Option (FnRec × Bool)) × List (Option CFound) × Bool
noncomputable def lookK (K : Frag) : Look := (top.map (seenTop K), (lookC top "Record").map (seenMet K "Record" 82), (lookC top "Machine").map (seenMet K "Machine" 400), [seenDef K (findIn K (.ref 123) "__init__"), seenDef K (valOf (findCls K (.ref 103) (.type "type") "__init__"))],
  [findCls K (.type "int") (.type "type") (PySem.Str.ofString "from_bytes"), findCls K (.type "Exception") (.type "type") "__init__"], topB K)
noncomputable def want : Look := (top.map expTop, (lookC top "Record").map expTop, (lookC top "Machine").map expTop, [(metAt 4 0).map (·, true), (metAt 3 0).map (·, true)],
  [some (.get (.builtin "classmethod_descriptor.__get__") (.builtin "int.from_bytes") .none (.type "int")), some (.val (.builtin "Exception.__init__"))], true)
end Mine
end
section
set_option genCtorIdx false
namespace Mine

theorem head_look (w : World) : (openEnds treeTable PySem.Challenge.pw_og0214_01 w 6230).map (fun s => lookK (fragOf s.heap)) = some want := by
  unfold openEnds topFrom
  rw [PySem.W.Fast.te14082659384304107361, PySem.W.Fast.te14364793385576792824]
  kernel_rfl
theorem map_two {α β γ : Type} {f : α → β} {g : α → γ} {x : Option α} {b : β} {c : γ} (h : x.map f = some b) (h' : x.map g = some c) : x.map (fun s => (f s, g s)) = some (b, c) := by
  cases x with
  | none => cases h
  | some x => exact congrArg some (Prod.ext (Option.some.inj h) (Option.some.inj h'))
theorem head_left : LeftO PySem.Challenge.pw_og0214_01 headView ["Record"] (fun s => xlAt headView [] s) (fun s => lookK (fragOf s.heap)) (fun _ => want) 6230 := fun w => map_two (head_open w) (head_look w)
end Mine
end
section
open PySem.SeqAt (EqAt RcAt RcNeAt in_tupleAt notIn_tupleAt)
namespace Mine

/-! operations -/
noncomputable def BinS (op : Operator) (a b : MV) (σ : St) (Q : MV → St → Prop) (T : St → Prop) : Prop :=
  ∀ (k : Kx) (w : Wd) (Va Vb : Value), Inv k w σ → VRel w a Va → VRel w b Vb → Run k none VRel w Q T (binaryOp op Va Vb)
/-- a comparison says r -/
noncomputable def CmpS (op : CmpOp) (a b : MV) (σ : St) (r : Bool) : Prop :=
  ∀ (k : Kx) (w : Wd) (Va Vb : Value), Fit k 0 → Inv k w σ → VRel w a Va → VRel w b Vb → ∀ Q E, (∀ tk, Q (.bool r) { w.s with toks := tk }) → wpAny k.M k.A (compareOp op Va Vb) Q E w.s
theorem Inv.get {k : Kx} {w : Wd} {σ : St} (iv : Inv k w σ) {i : Nat} {o : MO} {p : Addr × Addr} (e : σ[i]? = some o) (hp : w.ι[i]? = some p) : ORel k.g w p o := by
  obtain ⟨q, hq, r⟩ := iv.obj e
  exact Option.some.inj (hq.symm.trans hp) ▸ r
@[elab_as_elim] theorem Inv.listE {k : Kx} {w : Wd} {σ : St} (iv : Inv k w σ) {P : Value → Prop} {i : Nat} {V : Value} {l : List MV} (e : σ[i]? = some (.list l)) (r : VRel w (.ref i) V)
    (f : ∀ a vs, w.ι[i]? = some (a, a) → LstAt w.h a vs → VRels w l vs → P (.ref a)) : P V := by
  refine VRel.refE r fun p hp => ?_
  obtain ⟨a, b⟩ := p
  cases iv.get e hp with | list h h1 h2 => obtain rfl : a = b := h; exact f a _ hp h1 h2
@[elab_as_elim] theorem Inv.baE {k : Kx} {w : Wd} {σ : St} (iv : Inv k w σ) {P : Value → Prop} {i : Nat} {V : Value} {l : List UInt8} (e : σ[i]? = some (.ba l)) (r : VRel w (.ref i) V)
    (f : ∀ a o, w.ι[i]? = some (a, a) → w.h.get? a = some o → o.cls = .type "bytearray" → o.data = .bytearray l.toArray 0 → o.dict = none → P (.ref a)) : P V := by
  refine VRel.refE r fun p hp => ?_
  obtain ⟨a, b⟩ := p
  cases iv.get e hp with | ba h h1 h2 h3 h4 => obtain rfl : a = b := h; exact f a _ hp h1 h2 h3 h4
section
variable {σ : St} {T : St → Prop} {Q : MV → St → Prop} {x y : Int} {a b : Str}
/-! the operations on ints -/
theorem b_int {op : Operator} {z : Int} (f : ∀ (k : Kx) (w : Wd) t u P E, (∀ tk tk', P (.int z tk) { w.s with toks := tk' }) → wpAny k.M k.A (binaryOp op (.int x t) (.int y u)) P E w.s) (h : Q (.int z) σ) : BinS op (.int x) (.int y) σ Q T :=
  fun k w _ _ iv ra rb => VRel.intE ra fun t => VRel.intE rb fun u => Run.leaf iv h fun P E k' => f k w t u P E fun _ _ => k' _ _ (.int _ _)
theorem bits_small {x : Int} (h : x.natAbs < 2 ^ 64) : Builtin.Int.intBits x ≤ 64 := by
  by_cases q : x = 0
  · rw [q]; decide
  · exact (congrArg (· ≤ 64) (if_neg (fun e => q (eq_of_beq e)))).mpr ((Nat.log2_lt (fun e => q (Int.natAbs_eq_zero.mp e))).mpr h)
theorem log_small {x : Int} (h : x.natAbs < 2 ^ 64) : x.natAbs.log2 < 9000 := by
  by_cases h0 : x.natAbs = 0
  · rw [h0]; decide
  · exact Nat.lt_of_lt_of_le ((Nat.log2_lt h0).mpr h) (by decide)
theorem b_add (h : Q (.int (x + y)) σ) : BinS .Add (.int x) (.int y) σ Q T := b_int (fun _ _ _ _ _ _ k => PySem.P.add_int (k _ _)) h
theorem b_sub (h : Q (.int (x - y)) σ) : BinS .Sub (.int x) (.int y) σ Q T := b_int (fun _ _ _ _ _ _ k => PySem.P.sub_int (k _ _)) h
theorem b_mul (hx : x.natAbs < 2 ^ 64) (h : Q (.int (x * y)) σ) : BinS .Mult (.int x) (.int y) σ Q T := b_int (fun _ _ _ _ _ _ k => PySem.P.mul_int (k _ _) (IntMulOk.of_left (bits_small hx))) h
theorem b_mod (hy : y ≠ 0) (h : Q (.int (x.fmod y)) σ) : BinS .Mod (.int x) (.int y) σ Q T := b_int (fun _ _ _ _ _ _ k => mod_int' hy (k _ _)) h
theorem b_div (hy : y ≠ 0) (hb : y.natAbs < 2 ^ 64) (h : Q (.int (x.fdiv y)) σ) : BinS .FloorDiv (.int x) (.int y) σ Q T := b_int (fun _ _ _ _ _ _ k => floordiv_int hy (k _ _) (.inl (PyProof.noPylong_of_log2 (log_small hb)))) h
theorem b_and (h : Q (.int (Builtin.bitAnd x y)) σ) : BinS .BitAnd (.int x) (.int y) σ Q T := b_int (fun _ _ _ _ _ _ k => and_int (k _ _)) h
theorem b_or (h : Q (.int (Builtin.bitOr x y)) σ) : BinS .BitOr (.int x) (.int y) σ Q T := b_int (fun _ _ _ _ _ _ k => or_int (k _ _)) h
theorem b_xor (h : Q (.int (Builtin.bitXor x y)) σ) : BinS .BitXor (.int x) (.int y) σ Q T := b_int (fun _ _ _ _ _ _ k => xor_int (k _ _)) h
theorem b_shl (hy : 0 ≤ y) (hy' : y ≤ 64) (hx : x.natAbs < 2 ^ 64) (h : Q (.int (x * 2 ^ y.toNat)) σ) : BinS .LShift (.int x) (.int y) σ Q T := b_int (fun _ _ _ _ _ _ k => lshift_int hy (by have := bits_small hx; omega) (k _ _)) h
theorem b_shr (hy : 0 ≤ y) (h : Q (.int (x.fdiv (2 ^ y.toNat))) σ) : BinS .RShift (.int x) (.int y) σ Q T := b_int (fun _ _ _ _ _ _ k => rshift_int hy (k _ _)) h
theorem newTup {k : Kx} {w w' : Wd} {vs : List Value} {ms : List MV} (iv : Inv k w σ) (r : VRels w ms vs) (x : Ext k none w w') {a : Addr} (ha : w.h.objs.size ≤ a) {o : Obj} {n : Nat} (hi : w'.ι = w.ι) (ho : w'.h.get? a = some o) (hc : o.cls = .type "tuple") (hd : o.data = .seq vs.toArray n) (hdd : o.dict = none) :
    VRel w' (.tup ms) (.ref a) := .tup (.mk ho hc hdd hd) (hi ▸ iv.fresh ha) (r.ext x)
theorem VRels.ne {w : Wd} {l : List MV} {vs : List Value} (r : VRels w l vs) (h : l ≠ []) : vs ≠ [] := by rintro rfl; cases r; exact h rfl
theorem b_tup {l m : List MV} (hl : l ≠ []) (hm : m ≠ []) (hz : l.length + m.length ≤ sz) (h : Q (.tup (l ++ m)) σ) : BinS .Add (.tup l) (.tup m) σ Q T :=
  fun k w _ _ iv ra rb => VRel.tupE ra fun t vs ht _ rt => VRel.tupE rb fun u us hu _ ru => Run.grown iv h fun P E k' => by
    have hz : vs.length + us.length ≤ sizeLine := by rw [rt.len, ru.len]; exact Nat.le_trans hz sz_line
    cases ht with | @mk ot nt h1 h2 h3 h4 => cases hu with | @mk ou nu g1 g2 g3 g4 =>
    obtain ⟨cls, dd, data, sl⟩ := ot
    obtain ⟨cls2, dd2, data2, sl2⟩ := ou
    obtain rfl : cls = _ := h2
    obtain rfl : data = _ := h4
    obtain rfl : cls2 = _ := g2
    obtain rfl : data2 = _ := g4
    refine concat_meets ⟨_, h1, rfl⟩ ⟨_, g1, rfl⟩ noFill_tuple_add seq_tuple_add PySem.F.slot_tuple_add PySem.F.entry_tuple_add (PySem.F.args_tuple_add_2 _ _)
      (tuple_addW2 t u (List.toArray vs) (List.toArray us) nt nu dd dd2 sl sl2 (fun e => rt.ne hl (List.isEmpty_iff.mp (by simpa using e))) (fun e => ru.ne hm (List.isEmpty_iff.mp (by simpa using e))) (by rw [List.size_toArray, List.size_toArray]; exact hz)) ⟨h1, g1, ?_⟩
    rw [List.append_toArray]
    exact k' _ _ _ (push_keeps _) (push_le _) fun x => newTup iv (rt.append ru) x (Nat.le_refl _) rfl (Heap.get?_push_size _ rfl) rfl rfl rfl
theorem b_list {i j : Nat} {l m : List MV} (e1 : σ[i]? = some (.list l)) (e2 : σ[j]? = some (.list m)) (hz : l.length + m.length ≤ sz) (h : Q (.ref σ.length) (σ ++ [.list (l ++ m)])) : BinS .Add (.ref i) (.ref j) σ Q T :=
  fun k w _ _ iv ra rb => Inv.listE iv e1 ra fun t vs _ ht rt => Inv.listE iv e2 rb fun u us _ hu ru => Run.made iv h fun P E k' => by
    have hz : vs.length + us.length ≤ sizeLine := by rw [rt.len, ru.len]; exact Nat.le_trans hz sz_line
    cases ht with | @mk ot nt h1 h2 h3 h4 => cases hu with | @mk ou nu g1 g2 g3 g4 =>
    obtain ⟨cls, dd, data, sl⟩ := ot
    obtain ⟨cls2, dd2, data2, sl2⟩ := ou
    obtain rfl : cls = _ := h2
    obtain rfl : data = _ := h4
    obtain rfl : cls2 = _ := g2
    obtain rfl : data2 = _ := g4
    refine concat_meets ⟨_, h1, rfl⟩ ⟨_, g1, rfl⟩ noFill_list_add seq_list_add PySem.F.slot_list_add PySem.F.entry_list_add (PySem.F.args_list_add_2 _ _)
      (list_addW t u (List.toArray vs) (List.toArray us) nt nu dd dd2 sl sl2 (by rw [List.size_toArray, List.size_toArray]; exact hz)) ⟨h1, g1, ?_⟩
    rw [List.append_toArray]
    exact k' _ _ _ (push_keeps _) (push_le _) (Nat.le_refl _) fun x => .list rfl (.mk (Heap.get?_push_size _ rfl) rfl rfl rfl) ((rt.append ru).ext x)
theorem b_bytes {c : UInt8} (h0 : 0 ≤ y) (h1 : y ≤ 64) (h : Q (.bytes (List.replicate y.toNat c)) σ) : BinS .Mult (.bytes [c]) (.int y) σ Q T :=
  fun k w _ _ iv ra rb => VRel.bytesE ra fun t => VRel.intE rb fun u => Run.leaf iv h fun P E k' => PySem.W.bytes_mul_any (by simp) (by omega) (by omega) (by simp) fun t' tk => k' _ _ (by simpa using VRel.bytes (w := ⟨w.ι, { w.s with toks := tk }⟩) (List.replicate y.toNat c) t')

/-! comparisons -/
theorem c_lt : CmpS .Lt (.int x) (.int y) σ (decide (x < y)) := fun k w _ _ _ _ ra rb => VRel.intE ra fun t => VRel.intE rb fun u => fun Q E h => PySem.P.lt_int (h _)
theorem c_le : CmpS .LtE (.int x) (.int y) σ (decide (x ≤ y)) := fun k w _ _ _ _ ra rb => VRel.intE ra fun t => VRel.intE rb fun u => fun Q E h => PySem.P.le_int (h _)
theorem c_gt : CmpS .Gt (.int x) (.int y) σ (decide (x > y)) := fun k w _ _ _ _ ra rb => VRel.intE ra fun t => VRel.intE rb fun u => fun Q E h => PySem.P.gt_int (h _)
theorem c_ge : CmpS .GtE (.int x) (.int y) σ (decide (x ≥ y)) := fun k w _ _ _ _ ra rb => VRel.intE ra fun t => VRel.intE rb fun u => fun Q E h => PySem.P.ge_int (h _)
theorem c_eqI : CmpS .Eq (.int x) (.int y) σ (x == y) := fun k w _ _ _ _ ra rb => VRel.intE ra fun t => VRel.intE rb fun u => fun Q E h => RcAt.int_int _ _ _ _ _ _ _ _ (h _)
theorem c_eqS : CmpS .Eq (.str a) (.str b) σ (a == b) := fun k w _ _ _ _ ra rb => VRel.strE ra fun t => VRel.strE rb fun u => fun Q E h => RcAt.str_str _ _ _ _ _ _ _ _ (h _)
theorem c_eqB {a b : Bool} : CmpS .Eq (.bool a) (.bool b) σ (a == b) := fun k w _ _ _ _ ra rb => VRel.boolE ra (VRel.boolE rb fun Q E h => RcAt.bool_bool _ _ _ _ _ _ (h _))
theorem c_neI : CmpS .NotEq (.int x) (.int y) σ (!(x == y)) := fun k w _ _ _ _ ra rb => VRel.intE ra fun t => VRel.intE rb fun u => fun Q E h => RcNeAt.int_int _ _ _ _ _ _ _ _ (h _)
theorem c_neS : CmpS .NotEq (.str a) (.str b) σ (!(a == b)) := fun k w _ _ _ _ ra rb => VRel.strE ra fun t => VRel.strE rb fun u => fun Q E h => RcNeAt.str_str _ _ _ _ _ _ _ _ (h _)
theorem c_neB {a b : Bool} : CmpS .NotEq (.bool a) (.bool b) σ (!(a == b)) := fun k w _ _ _ _ ra rb => VRel.boolE ra (VRel.boolE rb fun Q E h => RcNeAt.bool_bool _ _ _ _ _ _ (h _))
theorem c_isNN : CmpS .Is .none .none σ true := fun k w _ _ _ _ ra rb => VRel.noneE ra (VRel.noneE rb fun Q E h => wpAny_is_plain rfl (h w.s.toks))
theorem c_isTN {l : List MV} : CmpS .Is (.tup l) .none σ false := fun k w _ _ _ _ ra rb => VRel.tupE ra fun _ _ _ _ _ => VRel.noneE rb fun Q E h => wpAny_is_plain rfl (h w.s.toks)
theorem c_isNR {i : Nat} : CmpS .Is .none (.ref i) σ false := fun k w _ _ _ _ ra rb => VRel.noneE ra (VRel.refE rb fun _ _ Q E h => wpAny_is_plain rfl (h w.s.toks))
theorem c_isnRN {i : Nat} : CmpS .IsNot (.ref i) .none σ true := fun k w _ _ _ _ ra rb => VRel.refE ra fun _ _ => VRel.noneE rb fun Q E h => wpAny_isNot_plain rfl (h w.s.toks)
theorem c_isnNN : CmpS .IsNot .none .none σ false := fun k w _ _ _ _ ra rb => VRel.noneE ra (VRel.noneE rb fun Q E h => wpAny_isNot_plain rfl (h w.s.toks))
theorem c_isRR {i : Nat} : CmpS .Is (.ref i) (.ref i) σ true := fun k w _ _ _ _ ra rb => VRel.refE ra fun p hp => VRel.refE rb fun p' hp' => fun Q E h => by
  obtain rfl := Option.some.inj (hp.symm.trans hp')
  refine wpAny_bind ?_
  show wpAny _ _ (if (p.1 == p.1) = true then Pure.pure true else _) _ _ _
  rw [if_pos (beq_self_eq_true _)]
  exact wpAny_pure (wpAny_pure (h w.s.toks))
mutual
inductive Plain : Nat → MV → Prop
  | int (n x) : Plain n (.int x)
  | bool (n x) : Plain n (.bool x)
  | bytes (n x) : Plain n (.bytes x)
  | tup {n : Nat} {l : List MV} : Plains n l → Plain (n + 1) (.tup l)
inductive Plains : Nat → List MV → Prop
  | nil (n) : Plains n []
  | cons {n m l} : Plain n m → Plains n l → Plains n (m :: l)
end
theorem eqAt_of {A : Around} {s : Shared} {a b : Value} (hf : ∀ x t, a ≠ .float x t) (h : RcAt A s a b true) : EqAt A s a b true := fun prog w E Q hq => by
  unfold eqBool
  refine wpAny_holding (wpAny_ite_split (fun hab => wpAny_bind (wpAny_rule (wpAny_pure hq))) fun _ => ?_)
  split
  · rename_i q
    injection q with q _
    exact absurd q (hf _ _)
  · exact wpAny_bind (h prog w E _ (wpAny_truthy_bool hq))
theorem Plain.noFloat {w : Wd} {n : Nat} {m : MV} {V : Value} (p : Plain n m) (r : VRel w m V) : ∀ x t, V ≠ .float x t := by
  cases p with
  | int => exact VRel.intE r fun _ => nofun
  | bool => exact VRel.boolE r nofun
  | bytes => exact VRel.bytesE r fun _ => nofun
  | tup => exact VRel.tupE r fun _ _ _ _ _ => nofun
theorem range_all {n : Nat} : (List.range n).all (fun _ => true) = true := List.all_eq_true.mpr fun _ _ => rfl
theorem Plain.eq {w : Wd} {n : Nat} {m : MV} (p : Plain n m) : ∀ (A : Around) (V U : Value), A.units + n < cLine → VRel w m V → VRel w m U → RcAt A w.s V U true :=
  Plain.rec (motive_1 := fun n m _ => ∀ (A : Around) (V U : Value), A.units + n < cLine → VRel w m V → VRel w m U → RcAt A w.s V U true)
    (motive_2 := fun n l _ => ∀ (A : Around) (vs us : List Value), A.units + n < cLine → VRels w l vs → VRels w l us → vs.length = us.length ∧ ∀ j (h1 : j < vs.length) (h2 : j < us.length), EqAt A w.s vs[j] us[j] true)
    (fun _ x A _ _ _ r r' => VRel.intE r fun t => VRel.intE r' fun u => by have := RcAt.int_int (A := A) (s := w.s) x t x u; rwa [beq_self_eq_true] at this)
    (fun _ x A _ _ _ r r' => VRel.boolE r (VRel.boolE r' (by have := RcAt.bool_bool (A := A) (s := w.s) x x; rwa [beq_self_eq_true] at this)))
    (fun _ x A _ _ _ r r' => VRel.bytesE r fun _ => VRel.bytesE r' fun _ => fun prog w' E Q h => eq_bytes (by rwa [beq_self_eq_true]))
    (fun _ ih A _ _ hu r r' => VRel.tupE r fun a vs ha _ rv => VRel.tupE r' fun b us hb _ ru => by
      obtain ⟨hl, he⟩ := ih A.in1 vs us (by show A.units + 1 + _ < _; omega) rv ru
      have := RcAt.tuples (A := A) (e := fun _ => true) ha.tup hb.tup (by omega) (fun j h1 h2 => he j h1 h2)
      rw [range_all, Bool.true_and, List.size_toArray, List.size_toArray, hl, beq_self_eq_true] at this
      exact this)
    (fun _ A _ _ _ r r' => by cases r; cases r'; exact ⟨rfl, fun j h => absurd h (Nat.not_lt_zero _)⟩)
    (fun {n m l} p _ ih ihs A vs us hu r r' => by
      cases r with | cons r rs => cases r' with | cons r' rs' =>
      obtain ⟨hl, he⟩ := ihs A _ _ hu rs rs'
      refine ⟨congrArg (· + 1) hl, fun j h1 h2 => ?_⟩
      cases j with
      | zero => exact eqAt_of (p.noFloat r) (ih A _ _ hu r r')
      | succ j => exact he j (Nat.lt_of_succ_lt_succ h1) (Nat.lt_of_succ_lt_succ h2)) p
theorem c_same {v : MV} (p : Plain 3 v) : CmpS .Eq v v σ true := fun k w _ _ F iv ra rb Q E h => p.eq _ _ _ (by have := F.uni; omega) ra rb _ _ _ _ (h w.s.toks)

/-! lists that may be empty -/
theorem list_empty {A : Around} {s : Shared} {a b : Addr} {vs : List Value} (hu : A.units < cLine) (hv : s.heap.IsList a vs.toArray) (hb : s.heap.IsList b #[]) : RcAt A s (.ref a) (.ref b) vs.isEmpty ∧ RcNeAt A s (.ref a) (.ref b) (!vs.isEmpty) := by
  cases vs with
  | nil => exact ⟨RcAt.lists (e := fun _ => true) hv hb rfl hu (fun j h1 => absurd h1 (Nat.not_lt_zero _)), RcNeAt.lists (e := fun _ => true) hv hb rfl hu (fun j h1 => absurd h1 (Nat.not_lt_zero _))⟩
  | cons v vs => exact ⟨RcAt.lists_lengths hv hb rfl hu, RcNeAt.lists_lengths hv hb rfl hu⟩
theorem VRels.empty {w : Wd} {l : List MV} {vs : List Value} (r : VRels w l vs) : vs.isEmpty = l.isEmpty := by cases r <;> rfl
theorem c_eqL {i j : Nat} {l : List MV} (e1 : σ[i]? = some (.list l)) (e2 : σ[j]? = some (.list [])) : CmpS .Eq (.ref i) (.ref j) σ l.isEmpty :=
  fun k w _ _ F iv ra rb => Inv.listE iv e1 ra fun a vs _ ha rv => Inv.listE iv e2 rb fun b us _ hb ru Q E h => by
    cases ru
    exact (list_empty (by have := F.uni; omega) ha.list hb.list).1 _ _ _ _ (rv.empty.symm ▸ h w.s.toks)
theorem c_neL {i j : Nat} {l : List MV} (e1 : σ[i]? = some (.list l)) (e2 : σ[j]? = some (.list [])) : CmpS .NotEq (.ref i) (.ref j) σ (!l.isEmpty) :=
  fun k w _ _ F iv ra rb => Inv.listE iv e1 ra fun a vs _ ha rv => Inv.listE iv e2 rb fun b us _ hb ru Q E h => by
    cases ru
    exact (list_empty (by have := F.uni; omega) ha.list hb.list).2 _ _ _ _ (rv.empty.symm ▸ h w.s.toks)

/-! what lies in a tuple, in a dict -/
noncomputable def isI : MV → Bool
  | .int _ => true
  | _ => false
noncomputable def isS : MV → Bool
  | .str _ => true
  | _ => false
noncomputable def eqI (x : Int) : MV → Bool
  | .int y => y == x
  | _ => false
noncomputable def eqS (x : Str) : MV → Bool
  | .str y => y == x
  | _ => false
theorem hits {w : Wd} {isX eqX : MV → Bool} {hit : Value → Bool} {P : Value → Prop} (f : ∀ m V, isX m = true → VRel w m V → hit V = eqX m ∧ P V) {l : List MV} {vs : List Value} (r : VRels w l vs) (h : l.all isX = true) : vs.any hit = l.any eqX ∧ ∀ y ∈ vs, P y := by
  induction l generalizing vs with
  | nil => cases r; exact ⟨rfl, nofun⟩
  | cons m l ih =>
    cases r with | cons r rs =>
    rw [List.all_cons, Bool.and_eq_true] at h
    obtain ⟨h1, h2⟩ := f _ _ h.1 r
    obtain ⟨h3, h4⟩ := ih rs h.2
    exact ⟨by rw [List.any_cons, List.any_cons, h1, h3], List.forall_mem_cons.mpr ⟨h2, h4⟩⟩
theorem c_in {m : MV} {l : List MV} {isX eqX : MV → Bool} (hit : Value → Value → Bool) (f : ∀ (k : Kx) (w : Wd) Va, VRel w m Va → ∀ m' V, isX m' = true → VRel w m' V → hit Va V = eqX m' ∧ EqAt k.A.in1 w.s V Va (hit Va V)) (hl : l.all isX = true) : CmpS .In m (.tup l) σ (l.any eqX) :=
  fun k w Va _ F iv ra rb => VRel.tupE rb fun a vs ht _ rv Q E h => by
    obtain ⟨h1, h2⟩ := hits (P := fun y => EqAt k.A.in1 w.s y Va (hit Va y)) (f k w Va ra) rv hl
    refine in_tupleAt _ ht.tup (fun y hy => h2 y (List.mem_toArray.mp hy)) ?_
    rw [List.any_toArray, h1]
    exact h w.s.toks
noncomputable def hitI : Value → Value → Bool
  | .int x _, .int k _ => k == x
  | _, _ => false
noncomputable def hitS : Value → Value → Bool
  | .str x _, .str k _ => k == x
  | _, _ => false
theorem c_inI {l : List MV} (hl : l.all isI = true) : CmpS .In (.int x) (.tup l) σ (l.any (eqI x)) := c_in hitI (fun k w _ r m' _ q r' => VRel.intE r fun t => match m', q, r' with
  | .int z, _, r' => VRel.intE r' fun u => ⟨rfl, (MeetsSeq.EqGives.int z x u t).at _ _⟩) hl
theorem c_inS {l : List MV} (hl : l.all isS = true) : CmpS .In (.str a) (.tup l) σ (l.any (eqS a)) := c_in hitS (fun k w _ r m' _ q r' => VRel.strE r fun t => match m', q, r' with
  | .str z, _, r' => VRel.strE r' fun u => ⟨rfl, (eqGives_str z a u t).at _ _⟩) hl
end
section
variable {α : Type} [DecidableEq α]
noncomputable def getK (l : List (α × MV)) (x : α) : Option MV := (l.find? fun kv => kv.1 = x).map (·.2)
noncomputable def putK : List (α × MV) → α → MV → List (α × MV)
  | [], x, v => [(x, v)]
  | (k, u) :: r, x, v => if k = x then (k, v) :: r else (k, u) :: putK r x v
theorem PRels.find {w : Wd} {l : List (α × MV)} {kvs : List (α × Value)} (r : PRels w l kvs) (x : α) : (getK l x = none ∧ valueAt kvs x = none) ∨ ∃ m V, getK l x = some m ∧ valueAt kvs x = some V ∧ VRel w m V := by
  unfold getK valueAt
  induction r with
  | nil => exact .inl ⟨rfl, rfl⟩
  | @cons k m l V vs r _ ih =>
    by_cases h : k = x
    · rw [List.find?_cons_of_pos (by exact decide_eq_true h), List.find?_cons_of_pos (by exact decide_eq_true h)]
      exact .inr ⟨_, _, rfl, rfl, r⟩
    · rw [List.find?_cons_of_neg (by exact fun q => h (of_decide_eq_true q)), List.find?_cons_of_neg (by exact fun q => h (of_decide_eq_true q))]
      exact ih
theorem PRels.get {w : Wd} {l : List (α × MV)} {kvs : List (α × Value)} (r : PRels w l kvs) {x : α} {m : MV} (e : getK l x = some m) : ∃ V, valueAt kvs x = some V ∧ VRel w m V := by
  rcases r.find x with ⟨h, _⟩ | ⟨m', V, h, h', r⟩
  · rw [h] at e; cases e
  · exact ⟨V, h', Option.some.inj (h.symm.trans e) ▸ r⟩
theorem PRels.isSome {w : Wd} {l : List (α × MV)} {kvs : List (α × Value)} (r : PRels w l kvs) (x : α) : (valueAt kvs x).isSome = (getK l x).isSome := by
  rcases r.find x with ⟨h, h'⟩ | ⟨m', V, h, h', r⟩ <;> rw [h, h'] <;> rfl
theorem PRels.keys {w : Wd} {l : List (α × MV)} {kvs : List (α × Value)} (r : PRels w l kvs) : l.map (·.1) = kvs.map (·.1) := by
  induction r with
  | nil => rfl
  | cons _ _ ih => rw [List.map_cons, List.map_cons, ih]
theorem stored_cons {k x : α} {u v : Value} {l : List (α × Value)} (h : k ≠ x) : PySem.stored ((k, u) :: l) x v = (k, u) :: PySem.stored l x v := by
  unfold PySem.stored
  rw [List.any_cons, decide_eq_false h, Bool.false_or, List.map_cons, if_neg h]
  by_cases c : l.any (fun kv => kv.1 = x) = true
  · rw [if_pos c, if_pos c]
  · rw [if_neg c, if_neg c]; rfl
theorem PRels.put {w : Wd} {l : List (α × MV)} {kvs : List (α × Value)} (r : PRels w l kvs) (x : α) {m : MV} {V : Value} (q : VRel w m V) (nd : (kvs.map (·.1)).Nodup) : PRels w (putK l x m) (PySem.stored kvs x V) := by
  induction r with
  | nil => exact .cons q .nil
  | @cons k m' l V' vs r rs ih =>
    rw [List.map_cons, List.nodup_cons] at nd
    unfold putK
    by_cases h : k = x
    · subst h
      rw [if_pos rfl]
      unfold PySem.stored
      rw [if_pos (by rw [List.any_cons, decide_eq_true rfl]; rfl), List.map_cons, if_pos rfl, map_store_of_not_mem _ _ _ nd.1]
      exact .cons q rs
    · rw [if_neg h, stored_cons h]
      exact .cons r (ih nd.2)
end
section
variable {σ : St} {T : St → Prop} {Q : MV → St → Prop} {x y : Int} {a b : Str}
@[elab_as_elim] theorem Inv.idictE {k : Kx} {w : Wd} {σ : St} (iv : Inv k w σ) {P : Value → Prop} {i : Nat} {V : Value} {l : List (Int × MV)} (e : σ[i]? = some (.idict l)) (r : VRel w (.ref i) V)
    (f : ∀ a kvs, w.ι[i]? = some (a, a) → w.h.DictOf (PySem.intKind k.g.prog k.g.wd) a kvs → PRels w l kvs → P (.ref a)) : P V := by
  refine VRel.refE r fun p hp => ?_
  obtain ⟨a, b⟩ := p
  cases iv.get e hp with | idict h h1 h2 => obtain rfl : a = b := h; exact f a _ hp h1 h2
@[elab_as_elim] theorem Inv.sdictE {k : Kx} {w : Wd} {σ : St} (iv : Inv k w σ) {P : Value → Prop} {i : Nat} {V : Value} {l : List (Str × MV)} (e : σ[i]? = some (.sdict l)) (r : VRel w (.ref i) V)
    (f : ∀ a kvs, w.ι[i]? = some (a, a) → w.h.DictOf (PySem.strKind k.g.prog k.g.wd) a kvs → PRels w l kvs → P (.ref a)) : P V := by
  refine VRel.refE r fun p hp => ?_
  obtain ⟨a, b⟩ := p
  cases iv.get e hp with | sdict h h1 h2 => obtain rfl : a = b := h; exact f a _ hp h1 h2
theorem Inv.low {k : Kx} {w : Wd} {n : Nat} (F : Fit k n) (iv : Inv k w σ) {i : Nat} {p : Addr × Addr} (hp : w.ι[i]? = some p) : (p.2 == sysModules) = false :=
  beq_eq_false_iff_ne.mpr fun e => Nat.not_lt.mpr (e ▸ iv.top p (List.mem_of_getElem? hp)) F.top.low
theorem c_ninD {i : Nat} {l : List (Int × MV)} (e : σ[i]? = some (.idict l)) : CmpS .NotIn (.int x) (.ref i) σ (!(getK l x).isSome) :=
  fun k w _ _ F iv ra rb => VRel.intE ra fun t => Inv.idictE iv e rb fun a kvs hp hd rp Q E h => by
    refine wpAny_notIn_of (intKind_is _ _ _ _) (iv.low F hp) hd.mapOf ?_
    rw [rp.isSome]
    exact h _
end
end Mine
end
section
namespace Mine

/-! items -/
/-- what may stand ahead of brackets -/
noncomputable def ContS (v : MV) (σ : St) : Prop := ∀ (k : Kx) (w : Wd) (V : Value), Inv k w σ → VRel w v V → ∀ Q E, Q false w.s → wpAny k.M k.A (getitemInPython V) Q E w.s
structure ItemS (v x : MV) (σ : St) (Q : MV → St → Prop) (T : St → Prop) : Prop where
  co : ContS v σ
  run : ∀ (k : Kx) (w : Wd) (V X : Value), Inv k w σ → VRel w v V → VRel w x X → Run k none VRel w Q T (getItem V X)
theorem co_of {M : Model} {A : Around} {s : Shared} {V : Value} {Ty id : String} (hT : s.TypeIs V Ty) (hl : typeLookup (.type Ty) "__getitem__" = pure (some (.builtin id))) {Q : Bool → Shared → Prop} {E : Value → Shared → Prop} (h : Q false s) : wpAny M A (getitemInPython V) Q E s := by
  unfold getitemInPython
  exact wpAny_bind (wpAny_specialOf hT hl (wpAny_pure h))
theorem list_gi : typeLookup (.type "list") "__getitem__" = pure (some (.builtin "list.__getitem__")) := by rw [typeLookup_type, builtinLookup_eq_fast]; kernel_rfl
theorem tuple_gi : typeLookup (.type "tuple") "__getitem__" = pure (some (.builtin "tuple.__getitem__")) := by rw [typeLookup_type, builtinLookup_eq_fast]; kernel_rfl
theorem dict_gi : typeLookup (.type "dict") "__getitem__" = pure (some (.builtin "dict.__getitem__")) := by rw [typeLookup_type, builtinLookup_eq_fast]; kernel_rfl
theorem str_gi : typeLookup (.type "str") "__getitem__" = pure (some (.builtin "str.__getitem__")) := by rw [typeLookup_type, builtinLookup_eq_fast]; kernel_rfl
theorem ba_gi : typeLookup (.type "bytearray") "__getitem__" = pure (some (.builtin "bytearray.__getitem__")) := by rw [typeLookup_type, builtinLookup_eq_fast]; kernel_rfl
section
variable {σ : St} {i : Nat}
theorem co_str {a : Str} : ContS (.str a) σ := fun k w _ iv r => VRel.strE r fun t Q E h => co_of (typeIs_str _ _ _) str_gi h
theorem co_tup {l : List MV} : ContS (.tup l) σ := fun k w _ iv r => VRel.tupE r fun a vs ht _ _ Q E h => co_of ht.tup.typeIs tuple_gi h
theorem co_ro {l : List MV} : ContS (.ro l) σ := fun k w _ iv r => VRel.roE r fun a vs ht _ _ Q E h => co_of ht.typeIs list_gi h
theorem co_list {l : List MV} (e : σ[i]? = some (.list l)) : ContS (.ref i) σ := fun k w _ iv r => Inv.listE iv e r fun a vs _ ht _ Q E h => co_of ht.list.typeIs list_gi h
theorem co_sdict {l : List (Str × MV)} (e : σ[i]? = some (.sdict l)) : ContS (.ref i) σ := fun k w _ iv r => Inv.sdictE iv e r fun a vs _ ht _ Q E h => co_of ht.typeIs dict_gi h
theorem co_idict {l : List (Int × MV)} (e : σ[i]? = some (.idict l)) : ContS (.ref i) σ := fun k w _ iv r => Inv.idictE iv e r fun a vs _ ht _ Q E h => co_of ht.typeIs dict_gi h
theorem co_ba {b : List UInt8} (e : σ[i]? = some (.ba b)) : ContS (.ref i) σ := fun k w _ iv r => Inv.baE iv e r fun a o _ ho hc _ _ Q E h => co_of (Ty := "bytearray") (show w.s.TypeIs (.ref a) "bytearray" from ⟨o, ho, hc⟩) ba_gi h
end
noncomputable def SetItemS (v x u : MV) (σ : St) (Q : St → Prop) (T : St → Prop) : Prop :=
  ∀ (k : Kx) (w : Wd) (V X U : Value), Inv k w σ → VRel w v V → VRel w x X → VRel w u U → Run k none (fun _ (_ _ : Unit) => True) w (fun _ => Q) T (setItem V X U)
theorem Run.gives {β : Type} {k : Kx} {w : Wd} {σ : St} {Q : MV → St → Prop} {T : St → Prop} {m : Sem Value} {v : MV} {V : Value} (i : Inv k w σ) (r : VRel w v V) (q : Q v σ) (h : ∀ P E, (∀ tk, P V { w.s with toks := tk }) → wpAny k.M k.A m P E w.s) : Run k none VRel w Q T m :=
  Run.any fun E => h _ E fun tk => have st := i.grow (tk := tk) (fun _ _ e => e) (Nat.le_refl _); .mk st (r.ext st.ext) q
section
variable {σ : St} {T : St → Prop} {Q : MV → St → Prop} {P : St → Prop} {x : Int} {i : Nat} {v : MV} {a : Str}
theorem arr_get {vs : List Value} {i : Nat} {V : Value} (h : vs[i]? = some V) : vs.toArray[i]? = some V := by rw [List.getElem?_toArray]; exact h
theorem i_list {l : List MV} (e : σ[i]? = some (.list l)) (h0 : 0 ≤ x) (h1 : x < 2 ^ 63) (hv : l[x.toNat]? = some v) (h : Q v σ) : ItemS (.ref i) (.int x) σ Q T :=
  .mk (co_list e) fun k w _ _ iv ra rb => Inv.listE iv e ra fun a vs _ hl rs => VRel.intE rb fun t => let ⟨_, hX, rx⟩ := rs.get hv; Run.gives (β := Unit) iv rx h fun P E k' => wpAny_getItem_list hl.list h0 h1 (arr_get hX) (k' _)
theorem i_last {l : List MV} (e : σ[i]? = some (.list l)) (hv : l.getLast? = some v) (h : Q v σ) : ItemS (.ref i) (.int (-1)) σ Q T :=
  .mk (co_list e) fun k w _ _ iv ra rb => Inv.listE iv e ra fun a vs _ hl rs => VRel.intE rb fun t => let ⟨_, hX, rx⟩ := rs.getLast hv; Run.gives (β := Unit) iv rx h fun P E k' => by
    rw [List.getLast?_eq_getElem?] at hX
    have hlt := (List.getElem?_eq_some_iff.mp hX).1
    refine wpAny_getItem_list_neg hl.list (by decide) (by rw [List.size_toArray]; omega) (by decide) (?_ : vs.toArray[((-1 : Int) + vs.toArray.size).toNat]? = _) (k' _)
    rw [show ((-1 : Int) + vs.toArray.size).toNat = vs.length - 1 by rw [List.size_toArray]; omega]
    exact arr_get hX
theorem i_idict {l : List (Int × MV)} (e : σ[i]? = some (.idict l)) (hv : getK l x = some v) (h : Q v σ) : ItemS (.ref i) (.int x) σ Q T :=
  .mk (co_idict e) fun k w _ _ iv ra rb => Inv.idictE iv e ra fun a kvs _ hd rs => VRel.intE rb fun t => let ⟨_, hX, rx⟩ := rs.get hv; Run.gives (β := Unit) iv rx h fun P E k' => wpAny_getItem_of (intKind_is _ _ _ _) hd.mapOf hX (k' _)
theorem i_sdict {l : List (Str × MV)} (e : σ[i]? = some (.sdict l)) (hv : getK l a = some v) (h : Q v σ) : ItemS (.ref i) (.str a) σ Q T :=
  .mk (co_sdict e) fun k w _ _ iv ra rb => Inv.sdictE iv e ra fun a kvs _ hd rs => VRel.strE rb fun t => let ⟨_, hX, rx⟩ := rs.get hv; Run.gives (β := Unit) iv rx h fun P E k' => wpAny_getItem_of (strKind_is _ _ _ _) hd.mapOf hX (k' _)
theorem i_tup {l : List MV} (h0 : 0 ≤ x) (h1 : x < 2 ^ 63) (hv : l[x.toNat]? = some v) (h : Q v σ) : ItemS (.tup l) (.int x) σ Q T :=
  .mk co_tup fun k w _ _ iv ra rb => VRel.tupE ra fun a vs ht _ rs => VRel.intE rb fun t => let ⟨_, hX, rx⟩ := rs.get hv; Run.gives (β := Unit) iv rx h fun P E k' => by
    have hlt := (List.getElem?_eq_some_iff.mp hX).1
    refine getItem_tuple (j := x.toNat) ht.tup (by omega) h1 ?_ (arr_get hX) (k' _)
    unfold seqIndex?
    simp
    omega
theorem i_str (h0 : -(a.length : Int) ≤ x) (h1 : x < a.length) (hz : a.length ≤ sz) (h : Q (.str (Txt.item a x)) σ) : ItemS (.str a) (.int x) σ Q T :=
  .mk co_str fun k w _ _ iv ra rb => VRel.strE ra fun u => VRel.intE rb fun t => Run.leaf iv h fun P E k' => PySem.SB.getItem (by unfold fitsSsize; unfold sz at hz; simp; omega) (charAt_isSome h0 h1) (k' _ _ (.str _ _))

theorem setItem_lst {prog : Program} {wd : World} {A : Around} {s : Shared} {E : Value → Shared → Prop} {l : Addr} {items : List Value} {k : Int} {t : Tok} {v : Value} {Q : Unit → Shared → Prop} (hv : LstAt s.heap l items)
    (h0 : 0 ≤ k) (hfit : k < 2 ^ 63) (hn : k < items.length) (hQ : ∀ h', LstAt h' l (items.set k.toNat v) → Heap.SameBut l s.heap h' → Q () { s with heap := h' }) : wpAny (model prog wd) A (setItem (.ref l) (.int k t) v) Q E s := by
  have hl := hv.list
  cases hv with | @mk o n ho hc hdd hd =>
  unfold setItem
  refine wpAny_holding ?_
  refine wpAny_bind (wpAny_sequenceKey hl.typeIs (by decide) ?_)
  refine wpAny_bind (wpAny_callSpecial?_slot (name := Str.ofString "__setitem__") hl.typeIs PySem.slot_list_setitem
    (wpAny_call_entry PySem.slot_list_setitem hl.typeIs PySem.entry_list_setitem ?_ (PySem.args_list_setitem _ _ _)))
  show wpAny _ _ (Builtin.List.listSubscript? (.int k t) >>= _) _ _ s
  refine wpAny_bind (wpAny_listSubscript_int (fitsIndex_of h0 hfit) ?_)
  clear hfit
  obtain ⟨j, rfl⟩ := Int.eq_ofNat_of_zero_le h0
  have hj : j < items.length := Int.ofNat_lt.mp hn
  show wpAny _ _ ((seqItemAt l j >>= fun r => pure (r.map (j, ·))) >>= _) _ _ s
  refine wpAny_bind (wpAny_bind (wpAny_seqItemAt ho hd (wpAny_pure ?_)))
  rw [arr_get (List.getElem?_eq_getElem hj)]
  show wpAny _ _ (setSeqItemAt l j v >>= _) _ _ s
  obtain ⟨n', hd'⟩ := Obj.data_mapSeq hd (·.setIfInBounds j v)
  have hfin : LstAt (s.heap.update l (Obj.mapSeq (·.setIfInBounds j v))) l (items.set j v) :=
    .mk (Heap.get?_update_self _ ho (Obj.isFreed_of_seq hd')) ((Obj.cls_mapSeq ..).trans hc) (by obtain ⟨c, d, dt, sl⟩ := o; obtain rfl : dt = _ := hd; exact hdd) (by rw [hd', List.setIfInBounds_toArray])
  exact wpAny_bind (wpAny_setSeqItemAt ho hd (wpAny_pure ⟨.none, rfl, wpAny_pure (hQ _ hfin (Heap.SameBut.update ..))⟩))
theorem si_list {l : List MV} (e : σ[i]? = some (.list l)) (h0 : 0 ≤ x) (h1 : x < 2 ^ 63) (hl : x < l.length) (h : P (σ.set i (.list (l.set x.toNat v)))) : SetItemS (.ref i) (.int x) v σ P T :=
  fun k w _ _ _ iv ra rb rv => Inv.listE iv e ra fun a vs hp hv rs => VRel.intE rb fun t => Run.turned (v := ()) iv hp h fun P' E k' => setItem_lst hv h0 h1 (rs.len.symm ▸ hl) fun h' hl' hs => k' () h' w.s.toks hs fun x => ⟨.list rfl hl' ((rs.set rv _).ext x), trivial⟩
theorem si_idict {l : List (Int × MV)} (e : σ[i]? = some (.idict l)) (hz : l.length ≤ sz) (h : P (σ.set i (.idict (putK l x v)))) : SetItemS (.ref i) (.int x) v σ P T :=
  fun k w _ _ _ iv ra rb rv => Inv.idictE iv e ra fun a kvs hp hd rs => VRel.intE rb fun t => Run.turned (v := ()) iv hp h fun P' E k' => wpAny_setItem_pairs (intKind_is _ _ _ _) hd (fun h' hl hs => k' () h' _ hs fun x' => ⟨.idict rfl hl ((rs.put x rv (let ⟨_, _, _, _, _, _, _, _, nd⟩ := hd; nd)).kp x'.kp), trivial⟩) (rs.len.symm ▸ Nat.le_trans hz sz_line)
theorem si_sdict {l : List (Str × MV)} (e : σ[i]? = some (.sdict l)) (hz : l.length ≤ sz) (h : P (σ.set i (.sdict (putK l a v)))) : SetItemS (.ref i) (.str a) v σ P T :=
  fun k w _ _ _ iv ra rb rv => Inv.sdictE iv e ra fun b kvs hp hd rs => VRel.strE rb fun t => Run.turned (v := ()) iv hp h fun P' E k' => wpAny_setItem_pairs (strKind_is _ _ _ _) hd (fun h' hl hs => k' () h' _ hs fun x' => ⟨.sdict rfl hl ((rs.put a rv (let ⟨_, _, _, _, _, _, _, _, nd⟩ := hd; nd)).kp x'.kp), trivial⟩) (rs.len.symm ▸ Nat.le_trans hz sz_line)
end
end Mine
end
section
section
namespace Mine
namespace FA
open PySem.F
theorem mro_ba : mroOf (.type "bytearray") = pure [.type "bytearray", .type "object"] := by rw [mroOf_type]; kernel_rfl
theorem lookup_ba_new : typeLookup (.type "bytearray") "__new__" = pure (some (.builtin "bytearray.__new__")) := by rw [typeLookup_type, builtinLookup_eq_fast]; kernel_rfl
theorem slot_ba_init : Slot "bytearray" "__init__" "bytearray.__init__" :=
  .of (owner := "bytearray") (n := "__init__") (by rw [typeLookup_type, builtinLookup_eq_fast]; kernel_rfl) (by decide +kernel) (by decide +kernel) (by decide +kernel)
    (by first | exact .inl (by decide +kernel) | exact .inr (by decide +kernel)) (by rw [isSubtype_type]; kernel_rfl)
theorem slot_ba_getitem : Slot "bytearray" "__getitem__" "bytearray.__getitem__" :=
  .of (owner := "bytearray") (n := "__getitem__") (by rw [typeLookup_type, builtinLookup_eq_fast]; kernel_rfl) (by decide +kernel) (by decide +kernel) (by decide +kernel)
    (by first | exact .inl (by decide +kernel) | exact .inr (by decide +kernel)) (by rw [isSubtype_type]; kernel_rfl)
theorem slot_ba_setitem : Slot "bytearray" "__setitem__" "bytearray.__setitem__" :=
  .of (owner := "bytearray") (n := "__setitem__") (by rw [typeLookup_type, builtinLookup_eq_fast]; kernel_rfl) (by decide +kernel) (by decide +kernel) (by decide +kernel)
    (by first | exact .inl (by decide +kernel) | exact .inr (by decide +kernel)) (by rw [isSubtype_type]; kernel_rfl)
theorem slot_ba_delitem : Slot "bytearray" "__delitem__" "bytearray.__delitem__" :=
  .of (owner := "bytearray") (n := "__delitem__") (by rw [typeLookup_type, builtinLookup_eq_fast]; kernel_rfl) (by decide +kernel) (by decide +kernel) (by decide +kernel)
    (by first | exact .inl (by decide +kernel) | exact .inr (by decide +kernel)) (by rw [isSubtype_type]; kernel_rfl)
theorem slot_ba_len : Slot "bytearray" "__len__" "bytearray.__len__" :=
  .of (owner := "bytearray") (n := "__len__") (by rw [typeLookup_type, builtinLookup_eq_fast]; kernel_rfl) (by decide +kernel) (by decide +kernel) (by decide +kernel)
    (by first | exact .inl (by decide +kernel) | exact .inr (by decide +kernel)) (by rw [isSubtype_type]; kernel_rfl)
theorem slot_ba_append : Slot "bytearray" "append" "bytearray.append" :=
  .of (owner := "bytearray") (n := "append") (by rw [typeLookup_type, builtinLookup_eq_fast]; kernel_rfl) (by decide +kernel) (by decide +kernel) (by decide +kernel)
    (by first | exact .inl (by decide +kernel) | exact .inr (by decide +kernel)) (by rw [isSubtype_type]; kernel_rfl)
theorem called_ba : TypeCalled "bytearray" "bytearray.__new__" "bytearray.__init__" :=
  ⟨by decide +kernel, by decide +kernel, ⟨_, _, mro_ba⟩, madeBy_type mro_ba lookup_ba_new (by decide +kernel), by decide +kernel, by rw [isSubtype_type]; kernel_rfl, slot_ba_init⟩
theorem typeCall_ba_1 (a : Value) : checkTypeCall "bytearray" ⟨[a], []⟩ = pure () := by kernel_rfl
theorem typeCall_ba_0 : checkTypeCall "bytearray" ⟨[], []⟩ = pure () := by kernel_rfl
theorem newCall_ba_1 (a : Value) : checkBuiltinCall "bytearray.__new__" ⟨[.type "bytearray", a], []⟩ = pure () := by kernel_rfl
theorem newCall_ba_0 : checkBuiltinCall "bytearray.__new__" ⟨[.type "bytearray"], []⟩ = pure () := by kernel_rfl
theorem entry_ba_new : entryFor table "bytearray.__new__" = some Builtin.«list.__new__» :=
  entryFor_alias (id' := "list.__new__") (by rw [fastTable_eq_tree]; kernel_rfl) (by decide +kernel) (by decide +kernel) (by rw [fastTable_eq_tree]; kernel_rfl)
theorem entry_ba_init : entryFor table "bytearray.__init__" = some Builtin.«bytearray.__init__» := by first | exact entryFor_of_fast (by kernel_rfl) | exact entryFor_of_tree (by kernel_rfl)
theorem entry_ba_getitem : entryFor table "bytearray.__getitem__" = some Builtin.«bytearray.__getitem__» := by first | exact entryFor_of_fast (by kernel_rfl) | exact entryFor_of_tree (by kernel_rfl)
theorem entry_ba_setitem : entryFor table "bytearray.__setitem__" = some Builtin.«bytearray.__setitem__» := by first | exact entryFor_of_fast (by kernel_rfl) | exact entryFor_of_tree (by kernel_rfl)
theorem entry_ba_delitem : entryFor table "bytearray.__delitem__" = some Builtin.«bytearray.__delitem__» := by first | exact entryFor_of_fast (by kernel_rfl) | exact entryFor_of_tree (by kernel_rfl)
theorem entry_ba_len : entryFor table "bytearray.__len__" = some Builtin.«bytearray.__len__» := by first | exact entryFor_of_fast (by kernel_rfl) | exact entryFor_of_tree (by kernel_rfl)
theorem entry_ba_append : entryFor table "bytearray.append" = some Builtin.«bytearray.append» := by first | exact entryFor_of_fast (by kernel_rfl) | exact entryFor_of_tree (by kernel_rfl)
theorem plain_ba_new : plainId "bytearray.__new__" = true := by decide +kernel
theorem sub_ba : isSubtype (.type "bytearray") (.type "bytearray") = pure true := by rw [isSubtype_type]; kernel_rfl
theorem sub_bytes_ba : isSubtype (.type "bytes") (.type "bytearray") = pure false := by rw [isSubtype_type]; kernel_rfl
theorem bytes_no_complex : isSubtype (.type "bytes") (.type "complex") = pure false := by rw [isSubtype_type]; kernel_rfl
theorem bytes_no_index : typeLookup (.type "bytes") "__index__" = pure none := by rw [typeLookup_type, builtinLookup_eq_fast]; kernel_rfl
theorem bytes_no_int : typeLookup (.type "bytes") "__int__" = pure none := by rw [typeLookup_type, builtinLookup_eq_fast]; kernel_rfl
theorem bytes_no_float : typeLookup (.type "bytes") "__float__" = pure none := by rw [typeLookup_type, builtinLookup_eq_fast]; kernel_rfl
theorem bytes_buffer : typeLookup (.type "bytes") "__buffer__" = pure (some (.builtin "bytes.__buffer__")) := by rw [typeLookup_type, builtinLookup_eq_fast]; kernel_rfl
theorem bytes_rbuffer : typeLookup (.type "bytes") "__release_buffer__" = pure none := by rw [typeLookup_type, builtinLookup_eq_fast]; kernel_rfl
theorem ba_rbuffer : typeLookup (.type "bytearray") "__release_buffer__" = pure (some (.builtin "bytearray.__release_buffer__")) := by rw [typeLookup_type, builtinLookup_eq_fast]; kernel_rfl
theorem ba_buffer : typeLookup (.type "bytearray") "__buffer__" = pure (some (.builtin "bytearray.__buffer__")) := by rw [typeLookup_type, builtinLookup_eq_fast]; kernel_rfl
theorem bind_ba_1 (v : Value) : Builtin.Bytes.bindOptional "bytearray.__init__" "bytearray" ["source", "encoding", "errors"] [v] [] = pure [some v, none, none] := by kernel_rfl
theorem bind_ba_0 : Builtin.Bytes.bindOptional "bytearray.__init__" "bytearray" ["source", "encoding", "errors"] [] [] = pure [none, none, none] := by kernel_rfl
theorem args_ba_init_1 (a b : Value) : argsOk "bytearray.__init__" ⟨[a, b], []⟩ := by unfold argsOk; kernel_rfl
theorem args_ba_init_0 (a : Value) : argsOk "bytearray.__init__" ⟨[a], []⟩ := by unfold argsOk; kernel_rfl
theorem args_ba_getitem (a b : Value) : argsOk "bytearray.__getitem__" ⟨[a, b], []⟩ := by unfold argsOk; kernel_rfl
theorem args_ba_setitem (a b c : Value) : argsOk "bytearray.__setitem__" ⟨[a, b, c], []⟩ := by unfold argsOk; kernel_rfl
theorem args_ba_delitem (a b : Value) : argsOk "bytearray.__delitem__" ⟨[a, b], []⟩ := by unfold argsOk; kernel_rfl
theorem args_ba_len (a : Value) : argsOk "bytearray.__len__" ⟨[a], []⟩ := by unfold argsOk; kernel_rfl
theorem args_ba_append (a b : Value) : argsOk "bytearray.append" ⟨[a, b], []⟩ := by unfold argsOk; kernel_rfl
end FA
set_option maxRecDepth 1000000 in
set_option maxHeartbeats 4000000 in
theorem owner_ba_new : ("bytearray.__new__".splitOn ".__new__").headD "" = "bytearray" := by simp +decide [String.splitOn, String.splitOnAux]
end Mine
end
section
namespace Mine
open PySem.Builtin.Bytes (exported exportsOf checkResize write payload payload? buffer? slotIsOwn ownRelease byteValue sliceParts newBytearray)

section
variable {prog : Program} {w : World} {M : Model} {A : Around} {E : Value → Shared → Prop} {s : Shared} {α β : Type}
theorem wpC_bindA {m : Sem α} {f : α → Sem β} {Q : β → Shared → Prop} (h : wpAny M A m (fun a s' => wpC M A (f a) Q E s') E s) : wpC M A (m >>= f) Q E s := wpC_bind (wpC_of h)
theorem wpC_if_false {c : Bool} {a b : Sem α} {Q : α → Shared → Prop} (hc : c = false) (h : wpC M A b Q E s) : wpC M A (if c = true then a else b) Q E s := by subst hc; exact h
theorem wpC_if_true {c : Bool} {a b : Sem α} {Q : α → Shared → Prop} (hc : c = true) (h : wpC M A a Q E s) : wpC M A (if c = true then a else b) Q E s := by subst hc; exact h
theorem wpA_if_false {c : Bool} {a b : Sem α} {Q : α → Shared → Prop} (hc : c = false) (h : wpAny M A b Q E s) : wpAny M A (if c = true then a else b) Q E s := by subst hc; exact h
theorem wpA_if_true {c : Bool} {a b : Sem α} {Q : α → Shared → Prop} (hc : c = true) (h : wpAny M A a Q E s) : wpAny M A (if c = true then a else b) Q E s := by subst hc; exact h

theorem exportsOf_ba {a : Addr} {o : Obj} {b : Array UInt8} {n : Nat} {Q : Nat → Shared → Prop} (ho : s.heap.get? a = some o) (hd : o.data = .bytearray b n) (h : Q n s) : wpAny M A (exportsOf (.ref a)) Q E s := by
  unfold exportsOf
  refine wpAny_bind (wpAny_load ho ?_)
  rw [hd]
  exact wpAny_pure h

theorem checkResizeC {a : Addr} {o : Obj} {b : Array UInt8} {Q : Unit → Shared → Prop} (ho : s.heap.get? a = some o) (hd : o.data = .bytearray b 0) (h : Q () s) : wpC M A (checkResize (.ref a)) Q E s := by
  unfold checkResize
  refine wpC_bind ?_
  show wpC M A (exported (.ref a) >>= fun r => _) _ E s
  refine wpC_bind (wpC_exported ?_)
  show wpC M A ((do return (← exportsOf (.ref a)) > 0) : Sem Bool) _ E s
  refine wpC_bindA (exportsOf_ba ho hd ?_)
  refine wpC_pure ?_
  exact wpC_pure h

theorem payload_ba {a : Addr} {o : Obj} {b : Array UInt8} {n : Nat} {Q : Array UInt8 → Shared → Prop} (ho : s.heap.get? a = some o) (hd : o.data = .bytearray b n) (h : Q b s) : wpAny M A (payload (.ref a)) Q E s := by
  unfold payload payload?
  refine wpAny_bind (wpAny_bind (wpAny_load ho ?_))
  rw [hd]
  exact wpAny_pure (wpAny_pure h)
theorem payload_bytes {b : Array UInt8} {t : Tok} {Q : Array UInt8 → Shared → Prop} (h : Q b s) : wpAny M A (payload (.bytes b t)) Q E s := by
  unfold payload payload?
  exact wpAny_bind (wpAny_pure (wpAny_pure h))

theorem write_ba {a : Addr} {o : Obj} {b : Array UInt8} {n : Nat} {f : Array UInt8 → Array UInt8} {Q : Unit → Shared → Prop} (ho : s.heap.get? a = some o) (hd : o.data = .bytearray b n) (hz : (f b).size ≤ sizeLine)
    (h : ∀ h', Heap.SameBut a s.heap h' → h'.get? a = some { o with data := .bytearray (f b) n } → Q () { s with heap := h' }) : wpAny M A (write (.ref a) f) Q E s := by
  obtain ⟨c, d, dt, sl⟩ := o
  simp only at hd
  subst hd
  show wpAny M A (updateBytearray a f) Q E s
  unfold updateBytearray
  refine wpAny_bind (wpAny_load ho ?_)
  show wpAny M A (update a (Obj.mapBytearray f) >>= fun _ => lookBehind a) Q E s
  refine wpAny_bind (wpAny_update ho ?_)
  have hg := Heap.get?_update_self (Obj.mapBytearray f) ho rfl
  refine wpAny_lookBehind hg ?_ (h _ (Heap.SameBut.update ..) hg)
  show (if (f b).size > sizeLine then some "bytearray:memory" else none) = none
  rw [if_neg (Nat.not_lt.mpr hz)]

theorem callC_entry {T : String} {name : Str} {id : String} {b : Builtin} {self : Value} {rest : List Value} {Q : Value → Shared → Prop} (h : Slot T name id) (hT : s.TypeIs self T)
    (hb : entryFor table id = some b) (ha : argsOk id ⟨self :: rest, []⟩) (hcalm : (!lenders.contains id) = true)
    (hc : wpC (model prog w) A.in1 (b ⟨self :: rest, []⟩) (fun fin s' => ∃ v, fin = .done (.ret v) ∧ Q v s') E s) :
    wpC (model prog w) A (call (.builtin id) (self :: rest)) Q E s := by
  refine wpC_call (codeC_of_tree rfl ?_)
  show wpC _ A.in1 (do checkBuiltinCall id ⟨self :: rest, []⟩; again (.builtin id ⟨self :: rest, []⟩)) _ _ s
  refine wpC_bindA (h.check _ _ _ _ _ _ _ _ hT ha ?_)
  refine wpC_pure ⟨plainId_quiet h.plain _, codeC_of_tree hcalm ?_⟩
  show wpC _ _ (match entryFor table id with | some b => b ⟨self :: rest, []⟩ | none => unsupported ((withoutEnding? id "#data").getD id)) _ _ s
  rw [hb, Around.under_plainId h.plain _]
  exact wpC_mono hc (fun fin s' ⟨v, e, hv⟩ => by subst e; exact hv) fun _ _ x => x

theorem callSpecialC {self : Value} {T : String} {name : Str} {id : String} {args : List Value} {kw : List (Str × Value)}
    {Q : Option Value → Shared → Prop} (hT : s.TypeIs self T) (h : Slot T name id)
    (hc : wpC M A (call (.builtin id) (self :: args) kw) (fun v => Q (some v)) E s) : wpC M A (callSpecial? self name args kw) Q E s := by
  simp only [callSpecial?]
  refine wpC_bindA (wpAny_specialOf hT h.lookup ?_)
  simp only [h.bind]
  exact wpC_holding (wpC_bindA (wpAny_pure (wpC_bind (wpC_mono hc (fun v s' h' => wpC_pure h') fun _ _ h' => h'))))

theorem bytes_index {n : Int} {t : Tok} {Q : Option Value → Shared → Prop} (h : Q (some (.builtin "int.__index__")) s) : wpAny M A (specialOf (.int n t) "__index__") Q E s := wpAny_specialOf (typeIs_int _ _ _) F.slot_int_index.lookup h

theorem ownRelease_ba {a : Addr} {Q : Bool → Shared → Prop} (hT : s.TypeIs (.ref a) "bytearray") (h : Q false s) : wpAny (model prog w) A (ownRelease (.ref a)) Q E s := by
  unfold ownRelease
  refine wpAny_bind ?_
  unfold slotIsOwn
  refine wpAny_bind (wpAny_specialOf hT FA.ba_rbuffer ?_)
  dsimp only
  rw [if_neg (by decide +kernel)]
  have e : ("bytearray.__release_buffer__".dropRight ("__release_buffer__".length + 1)) = "bytearray" := by decide +kernel
  rw [e]
  exact wpAny_isInstance hT FA.sub_ba (wpAny_pure h)
theorem ownRelease_bytes {b : Array UInt8} {t : Tok} {Q : Bool → Shared → Prop} (h : Q false s) : wpAny (model prog w) A (ownRelease (.bytes b t)) Q E s := by
  unfold ownRelease
  refine wpAny_bind ?_
  unfold slotIsOwn
  exact wpAny_bind (wpAny_specialOf (typeIs_bytes _ _ _) FA.bytes_rbuffer (wpAny_pure (wpAny_pure h)))
theorem buffer_bytes {b : Array UInt8} {t : Tok} {id : String} {f : Bool} {Q : Option (Array UInt8) → Shared → Prop} (h : Q (some b) s) : wpAny (model prog w) A (buffer? id (.bytes b t) f) Q E s := by
  unfold buffer?
  refine wpAny_bind (wpAny_specialOf (typeIs_bytes _ _ _) FA.bytes_buffer ?_)
  dsimp only
  refine wpAny_bind ?_
  unfold slotIsOwn
  refine wpAny_bind (wpAny_specialOf (typeIs_bytes _ _ _) FA.bytes_buffer ?_)
  dsimp only
  rw [if_neg (by decide +kernel)]
  have e : ("bytes.__buffer__".dropRight ("__buffer__".length + 1)) = "bytes" := by decide +kernel
  rw [e]
  refine wpAny_isInstance (typeIs_bytes _ _ _) PySem.F.bm_sub ?_
  refine wpA_if_false rfl ?_
  refine wpAny_bind (wpAny_specialOf (typeIs_bytes _ _ _) FA.bytes_buffer ?_)
  try dsimp only
  refine wpAny_bind (ownRelease_bytes ?_)
  refine wpA_if_false rfl ?_
  exact wpAny_bind (payload_bytes (wpAny_pure h))

theorem exportedC {a : Addr} {o : Obj} {b : Array UInt8} {Q : Bool → Shared → Prop} (ho : s.heap.get? a = some o) (hd : o.data = .bytearray b 0) (h : Q false s) :
    wpC M A ((exported (.ref a) <||> (do return (← exportsOf (.ref a)) > 0)) : Sem Bool) Q E s := by
  show wpC M A (exported (.ref a) >>= fun r => _) _ E s
  refine wpC_bind (wpC_exported ?_)
  show wpC M A ((do return (← exportsOf (.ref a)) > 0) : Sem Bool) _ E s
  refine wpC_bindA (exportsOf_ba ho hd ?_)
  exact wpC_pure h

/-- bytearray(n) -/
theorem ba_init_int {a : Addr} {o : Obj} {n : Int} {t : Tok} {Q : Fin → Shared → Prop} (ho : s.heap.get? a = some o) (hc : o.cls = .type "bytearray") (hd : o.data = .bytearray #[] 0) (hn : 0 < n) (hz : n ≤ sz)
    (h : ∀ h', Heap.SameBut a s.heap h' → h'.get? a = some { o with data := .bytearray (Array.replicate n.toNat 0) 0 } → Q (.done (.ret .none)) { s with heap := h' }) :
    wpC (model prog w) A (Builtin.«bytearray.__init__» ⟨[.ref a, .int n t], []⟩) Q E s := by
  have hT : s.TypeIs (.ref a) "bytearray" := ⟨o, ho, hc⟩
  have hz' : n ≤ 10000 := hz
  unfold Builtin.«bytearray.__init__»
  refine wpC_bindA (ownRelease_ba hT ?_)
  refine wpC_if_false rfl ?_
  refine wpC_bindA (wpAny_of_eq (FA.bind_ba_1 _) ?_)
  dsimp only
  refine wpC_bindA (wpAny_of_eq (a := ()) rfl ?_)
  refine wpC_bindA (wpAny_of_eq (a := ()) rfl ?_)
  refine wpC_bind (exportedC ho hd ?_)
  refine wpC_if_false rfl ?_
  refine wpC_bindA (write_ba ho hd (by simp) fun h₁ hs₁ hg₁ => ?_)
  refine wpC_bindA (wpAny_of_eq (a := none) rfl ?_)
  refine wpC_if_false rfl ?_
  refine wpC_bindA (wpAny_of_eq (a := ()) rfl ?_)
  refine wpC_bindA (bytes_index ?_)
  refine wpC_if_true rfl ?_
  refine wpC_bindA (wpAny_attempt (wpAny_of_eq (a := n) rfl ?_))
  dsimp only
  refine wpC_if_false (by simp [Builtin.Bytes.fitsIndex]; omega) ?_
  rw [if_neg (by omega)]
  refine wpC_if_false (by simp; omega) ?_
  refine wpC_if_false (by simp [Builtin.Bytes.tooLong]; rw [sizeLine_eq]; omega) ?_
  refine wpC_bindA (wpAny_rule ?_)
  rw [if_pos (by omega)]
  refine wpC_bindA (write_ba hg₁ rfl (by simp; rw [sizeLine_eq]; omega) fun h₂ hs₂ hg₂ => ?_)
  exact wpC_pure (h _ (hs₁.trans hs₂) hg₂)

/-- bytearray(b) -/
theorem ba_init_bytes {a : Addr} {o : Obj} {b : Array UInt8} {t : Tok} {Q : Fin → Shared → Prop} (ho : s.heap.get? a = some o) (hc : o.cls = .type "bytearray") (hd : o.data = .bytearray #[] 0) (hz : b.size ≤ sizeLine)
    (h : ∀ h', Heap.SameBut a s.heap h' → h'.get? a = some { o with data := .bytearray b 0 } → Q (.done (.ret .none)) { s with heap := h' }) :
    wpC (model prog w) A (Builtin.«bytearray.__init__» ⟨[.ref a, .bytes b t], []⟩) Q E s := by
  have hT : s.TypeIs (.ref a) "bytearray" := ⟨o, ho, hc⟩
  unfold Builtin.«bytearray.__init__»
  refine wpC_bindA (ownRelease_ba hT ?_)
  refine wpC_if_false rfl ?_
  refine wpC_bindA (wpAny_of_eq (FA.bind_ba_1 _) ?_)
  dsimp only
  refine wpC_bindA (wpAny_of_eq (a := ()) rfl ?_)
  refine wpC_bindA (wpAny_of_eq (a := ()) rfl ?_)
  refine wpC_bind (exportedC ho hd ?_)
  refine wpC_if_false rfl ?_
  refine wpC_bindA (write_ba ho hd (by simp) fun h₁ hs₁ hg₁ => ?_)
  refine wpC_bindA (wpAny_of_eq (a := none) rfl ?_)
  refine wpC_if_false rfl ?_
  refine wpC_bindA (wpAny_of_eq (a := ()) rfl ?_)
  refine wpC_bindA (wpAny_specialOf (typeIs_bytes _ _ _) FA.bytes_no_index ?_)
  refine wpC_if_false rfl ?_
  refine wpC_bindA (buffer_bytes ?_)
  dsimp only
  refine wpC_bindA (wpAny_rule ?_)
  refine wpC_bindA (write_ba hg₁ rfl hz fun h₂ hs₂ hg₂ => ?_)
  exact wpC_pure (h _ (hs₁.trans hs₂) hg₂)

/-- bytearray() -/
theorem ba_init_nil {a : Addr} {o : Obj} {Q : Fin → Shared → Prop} (ho : s.heap.get? a = some o) (hc : o.cls = .type "bytearray") (hd : o.data = .bytearray #[] 0)
    (h : ∀ h', Heap.SameBut a s.heap h' → h'.get? a = some { o with data := .bytearray #[] 0 } → Q (.done (.ret .none)) { s with heap := h' }) :
    wpC (model prog w) A (Builtin.«bytearray.__init__» ⟨[.ref a], []⟩) Q E s := by
  have hT : s.TypeIs (.ref a) "bytearray" := ⟨o, ho, hc⟩
  unfold Builtin.«bytearray.__init__»
  refine wpC_bindA (ownRelease_ba hT ?_)
  refine wpC_if_false rfl ?_
  refine wpC_bindA (wpAny_of_eq FA.bind_ba_0 ?_)
  dsimp only
  refine wpC_bindA (wpAny_of_eq (a := ()) rfl ?_)
  refine wpC_bindA (wpAny_of_eq (a := ()) rfl ?_)
  refine wpC_bind (exportedC ho hd ?_)
  refine wpC_if_false rfl ?_
  refine wpC_bindA (write_ba ho hd (by simp) fun h₁ hs₁ hg₁ => ?_)
  refine wpC_bindA (wpAny_of_eq (a := ()) rfl ?_)
  exact wpC_pure (h _ hs₁ hg₁)
end
end Mine
end
section
namespace Mine
open PySem.Builtin.Bytes (exported exportsOf checkResize write payload payload? buffer? slotIsOwn ownRelease byteValue sliceParts newBytearray)

section
variable {prog : Program} {w : World} {M : Model} {A : Around} {E : Value → Shared → Prop} {s : Shared} {α β : Type}
theorem codeC_builtin {id : String} {args : Args} {b : Builtin} {R : Result → Shared → Prop} (hb : entryFor table id = some b) (hcalm : (!lenders.contains id) = true)
    (h : wpC (model prog w) (A.under (.builtin id args)) (b args) (fun fin s' => match fin with | .done f => R (.ok f) s' | .again c' => c'.quiet = true ∧ codeC (model prog w) A c' R s') (fun e s' => R (.error e) s') s) :
    codeC (model prog w) A (.builtin id args) R s := by
  refine codeC_of_tree hcalm ?_
  show wpC _ _ (match entryFor table id with | some b => b args | none => unsupported ((withoutEnding? id "#data").getD id)) _ _ s
  rw [hb]
  exact h
theorem code_ba_new {args : List Value} (hnc : checkBuiltinCall "bytearray.__new__" ⟨.type "bytearray" :: args, []⟩ = pure ()) {Q₁ : Value → Shared → Prop}
    (h : Q₁ (.ref s.heap.objs.size) { s with heap := s.heap.push { cls := .type "bytearray", data := .bytearray #[] 0 } }) :
    codeAny (model prog w) A (.call (.builtin "bytearray.__new__") ⟨.type "bytearray" :: args, []⟩) (wants Q₁ E) s := by
  refine codeAny_of_tree ?_
  show wpAny _ A.in1 (do checkBuiltinCall "bytearray.__new__" ⟨.type "bytearray" :: args, []⟩; again (.builtin "bytearray.__new__" ⟨.type "bytearray" :: args, []⟩)) _ _ s
  refine wpAny_bind (wpAny_of_eq hnc (wpAny_pure ⟨plainId_quiet FA.plain_ba_new _, codeAny_builtin_stack FA.entry_ba_new rfl fun p st => ?_⟩))
  rw [Around.under_plainId FA.plain_ba_new _]
  have hsub := FA.sub_ba
  have hown := owner_ba_new
  obtain ⟨hp, g, d, tk, os⟩ := s
  simp only [hown]
  wp_walk
  exact h

theorem call_ba {args : List Value} {Q : Value → Shared → Prop} (hct : checkTypeCall "bytearray" ⟨args, []⟩ = pure ()) (hnc : checkBuiltinCall "bytearray.__new__" ⟨.type "bytearray" :: args, []⟩ = pure ())
    (hok : ∀ obj, argsOk "bytearray.__init__" ⟨obj :: args, []⟩)
    (h : wpC (model prog w) A.in1.in1 (Builtin.«bytearray.__init__» ⟨.ref s.heap.objs.size :: args, []⟩) (fun fin s' => fin = .done (.ret .none) ∧ Q (.ref s.heap.objs.size) s') E
      { s with heap := s.heap.push { cls := .type "bytearray", data := .bytearray #[] 0 } }) :
    wpC (model prog w) A (call (.type "bytearray") args) Q E s := by
  have h1 := FA.called_ba.notType
  have h2 := FA.called_ba.canCreate
  refine wpC_call (codeC_of_tree rfl ?_)
  show wpC _ _ (callAny (.type "bytearray") _) _ _ _
  refine wpC_pure ⟨Code.quiet_builtin _ (by decide +kernel), codeC_builtin PySem.F.entry_type_call (by decide +kernel) ?_⟩
  rw [Around.under_plain (weight_type_call_type "bytearray" args []) (units_type_call_type "bytearray" args [])]
  unfold Builtin.«type.__call__»
  dsimp only
  refine wpC_if_false h1 ?_
  refine wpC_if_false h2 ?_
  refine wpC_bindA (wpAny_of_eq hct ?_)
  refine wpC_bindA (wpAny_of_eq FA.mro_ba ?_)
  refine wpC_if_false rfl ?_
  refine wpC_bindA (wpAny_of_eq FA.called_ba.made ?_)
  dsimp only
  refine wpC_bindA (wpAny_pure ?_)
  refine wpC_bindA (wpAny_holding ?_)
  refine wpAny_call (codeAny_mono (code_ba_new (E := E) hnc (Q₁ := fun v s' => v = .ref s.heap.objs.size ∧ s' = { s with heap := s.heap.push { cls := .type "bytearray", data := .bytearray #[] 0 } }) ⟨rfl, rfl⟩) fun r s₁ hr => ?_)
  cases r with
  | error e => exact hr
  | ok fl =>
    cases fl with
    | ret obj =>
      obtain ⟨rfl, rfl⟩ := hr
      have hT : Shared.TypeIs { s with heap := s.heap.push { cls := .type "bytearray", data := .bytearray #[] 0 } } (.ref s.heap.objs.size) "bytearray" := ⟨_, Heap.get?_push_size _ rfl, rfl⟩
      refine wpC_bindA (wpAny_isInstance hT FA.sub_ba ?_)
      refine wpC_if_false rfl ?_
      refine wpC_bind (wpC_holding (callSpecialC hT FA.slot_ba_init (callC_entry FA.slot_ba_init hT FA.entry_ba_init (hok _) (by decide +kernel) (wpC_mono h (fun fin s' ⟨e, hq⟩ => ?_) fun _ _ x => x))))
      subst e
      refine ⟨.none, rfl, ?_⟩
      dsimp only
      refine wpC_if_false rfl ?_
      exact wpC_pure hq
    | _ => exact hr.elim
end
end Mine
end
end
section
section
namespace Mine
open PySem.Builtin.Bytes (exported exportsOf checkResize write payload payload? buffer? slotIsOwn ownRelease byteValue sliceParts newBytearray)

section
variable {prog : Program} {w : World} {M : Model} {A : Around} {E : Value → Shared → Prop} {s : Shared} {α β : Type}

theorem slicePart_raw {v : Value} {k : Option Int} {Q : Value → Shared → Prop} (hv : IsPart v k) (h : Q (rawPart k) s) : wpAny M A ((do
    if v == .none then return .none
    if (← specialOf v "__index__").isNone then
      rule "bytes.slice.part-no-index"; raiseError "TypeError" "slice indices must be integers or None or have an __index__ method"
    return rawInt (← asIndex v)) : Sem Value) Q E s := by
  cases hv with
  | none => exact wpAny_pure h
  | int i t =>
    rw [if_neg (show ¬ ((Value.int i t == Value.none) = true) from Bool.false_ne_true)]
    refine wpAny_bind (wpAny_specialOf (T := "int") (typeIs_int s i t) PySem.int_index ?_)
    simp only [Option.isNone_some, Bool.false_eq_true, if_false]
    exact wpAny_bind (wpAny_of_eq (a := i) rfl (wpAny_pure h))

theorem sliceParts_raw {sl : Addr} {vl vu : Value} {lo hi : Option Int} {Q : Value × Value × Value → Shared → Prop} (hs : s.heap.IsSliceOf sl vl vu .none) (pl : IsPart vl lo) (pu : IsPart vu hi)
    (h : Q (rawPart lo, rawPart hi, .none) s) : wpAny M A (sliceParts (.ref sl)) Q E s := by
  obtain ⟨os, hos, hcs, hds⟩ := id hs
  unfold sliceParts
  refine wpAny_bind (wpAny_field (x := .none) hos hds rfl ?_)
  refine wpAny_bind (slicePart_raw (k := none) .none ?_)
  refine wpA_if_false rfl ?_
  refine wpAny_bind (wpAny_field (x := vl) hos hds rfl ?_)
  refine wpAny_bind (slicePart_raw pl ?_)
  refine wpAny_bind (wpAny_field (x := vu) hos hds rfl ?_)
  refine wpAny_bind (slicePart_raw pu ?_)
  exact wpAny_pure h
theorem subscript_slice {sl : Addr} {vl vu : Value} {Q : Option Int → Shared → Prop} (hs : s.heap.IsSliceOf sl vl vu .none) (h : Q none s) : wpAny M A (Builtin.Bytes.subscript? (.ref sl)) Q E s := by
  obtain ⟨os, hos, hcs, hds⟩ := id hs
  unfold Builtin.Bytes.subscript?
  exact wpAny_bind (wpAny_specialOf ⟨os, hos, hcs⟩ slice_no_index (wpAny_pure h))

theorem ba_get_slice {a sl : Addr} {o : Obj} {b : Array UInt8} {vl vu : Value} {lo hi : Option Int} {Q : Value → Shared → Prop} (ho : s.heap.get? a = some o) (hc : o.cls = .type "bytearray") (hd : o.data = .bytearray b 0)
    (hs : s.heap.IsSliceOf sl vl vu .none) (pl : IsPart vl lo) (pu : IsPart vu hi) (hz : b.size ≤ sizeLine)
    (h : Q (.ref s.heap.objs.size) { s with heap := s.heap.push { cls := .type "bytearray", data := .bytearray (KBy.picked b lo hi) } }) : wpAny (model prog w) A (getItem (.ref a) (.ref sl)) Q E s := by
  have hT : s.TypeIs (.ref a) "bytearray" := ⟨o, ho, hc⟩
  obtain ⟨os, hos, hcs, hds⟩ := id hs
  unfold getItem
  refine wpAny_holding ?_
  refine wpAny_bind (wpAny_sequenceKey hT (by decide) ?_)
  refine wpAny_bind (wpAny_callSpecial?_slot (name := Str.ofString "__getitem__") hT FA.slot_ba_getitem (wpAny_call_entry FA.slot_ba_getitem hT FA.entry_ba_getitem ?_ (FA.args_ba_getitem _ _)))
  unfold Builtin.«bytearray.__getitem__»
  refine wpAny_bind (wpAny_of_eq (a := (.ref a, [.ref sl])) rfl ?_)
  dsimp only
  refine wpAny_bind (subscript_slice hs ?_)
  dsimp only
  refine wpAny_bind (wpAny_typeOf ⟨os, hos, hcs⟩ ?_)
  refine wpA_if_false rfl ?_
  refine wpAny_bind (sliceParts_raw hs pl pu ?_)
  dsimp only
  refine wpAny_bind (payload_ba ho hd ?_)
  refine wpAny_bind (wpAny_of_eq (sliceIndices_raw lo hi none b.size (fun e => nomatch e)) ?_)
  refine wpAny_bind ?_
  unfold newBytearray
  refine wpAny_newObj_type ?_ ?_
  · exact wpAny_pure ⟨_, rfl, wpAny_pure h⟩
  · exact Nat.le_trans (KBc.size_picked_le b lo hi) hz

theorem clip_in {n : Nat} {x : Int} (h0 : 0 ≤ x) (h1 : x ≤ n) : clipAt n x = x.toNat := by
  obtain ⟨a, rfl⟩ := Int.eq_ofNat_of_zero_le h0
  exact (clipAt_nat n a).trans (Nat.min_eq_left (Int.ofNat_le.mp h1))
theorem clip_to {n : Nat} {x : Int} (h0 : 0 ≤ x) (h1 : x ≤ n) : (clipAt n x : Int) = x := (congrArg Int.ofNat (clip_in h0 h1)).trans (Int.toNat_of_nonneg h0)
/-- b[lo:hi] = bytes of the same length -/
theorem ba_set_slice {a sl : Addr} {o : Obj} {b c : Array UInt8} {t u1 u2 : Tok} {n m : Int} {Q : Unit → Shared → Prop} (ho : s.heap.get? a = some o) (hc : o.cls = .type "bytearray") (hd : o.data = .bytearray b 0)
    (hs : s.heap.IsSliceOf sl (.int n u1) (.int m u2) .none) (hz : b.size ≤ sizeLine) (h0 : 0 ≤ n) (h1 : n ≤ m) (h2 : m ≤ b.size) (h3 : m - n = c.size)
    (h : ∀ h₁ h', (∀ x o, s.heap.get? x = some o → h₁.get? x = some o) → s.heap.objs.size ≤ h₁.objs.size → Heap.SameBut a h₁ h' → h'.get? a = some { o with data := .bytearray ((b.toList.take n.toNat ++ c.toList ++ b.toList.drop m.toNat).toArray) 0 } → Q () { s with heap := h' }) :
    wpC (model prog w) A (setItem (.ref a) (.ref sl) (.bytes c t)) Q E s := by
  have hT : s.TypeIs (.ref a) "bytearray" := ⟨o, ho, hc⟩
  obtain ⟨os, hos, hcs, hds⟩ := id hs
  unfold setItem
  refine wpC_holding ?_
  refine wpC_bindA (wpAny_sequenceKey hT (by decide) ?_)
  refine wpC_bind (callSpecialC (name := Str.ofString "__setitem__") hT FA.slot_ba_setitem (callC_entry FA.slot_ba_setitem hT FA.entry_ba_setitem (FA.args_ba_setitem _ _ _) (by decide +kernel) ?_))
  unfold Builtin.«bytearray.__setitem__»
  refine wpC_if_false rfl ?_
  dsimp only
  refine wpC_bindA (subscript_slice hs ?_)
  dsimp only
  refine wpC_bindA (wpAny_typeOf ⟨os, hos, hcs⟩ ?_)
  refine wpC_if_false rfl ?_
  refine wpC_bindA (sliceParts_raw hs (.int _ _) (.int _ _) ?_)
  dsimp only
  refine wpC_if_false rfl ?_
  refine wpC_bindA (wpAny_isInstance (typeIs_bytes _ _ _) FA.sub_bytes_ba ?_)
  refine wpC_if_true rfl ?_
  refine wpC_bindA ?_
  show wpAny _ _ (((do let x ← specialOf (Value.bytes c t) "__index__"; pure x.isSome) : Sem Bool) >>= fun r => _) _ _ _
  refine wpAny_bind (wpAny_bind (wpAny_specialOf (typeIs_bytes _ _ _) FA.bytes_no_index (wpAny_pure ?_)))
  show wpAny _ _ (((do let x ← specialOf (Value.bytes c t) "__int__"; pure x.isSome) : Sem Bool) >>= fun r => _) _ _ _
  refine wpAny_bind (wpAny_bind (wpAny_specialOf (typeIs_bytes _ _ _) FA.bytes_no_int (wpAny_pure ?_)))
  show wpAny _ _ (((do let x ← specialOf (Value.bytes c t) "__float__"; pure x.isSome) : Sem Bool) >>= fun r => _) _ _ _
  refine wpAny_bind (wpAny_bind (wpAny_specialOf (typeIs_bytes _ _ _) FA.bytes_no_float (wpAny_pure ?_)))
  show wpAny _ _ (isInstance (Value.bytes c t) (Value.type "complex")) _ _ _
  refine wpAny_isInstance (typeIs_bytes _ _ _) FA.bytes_no_complex ?_
  refine wpC_bindA (wpAny_of_eq (a := none) rfl ?_)
  refine wpC_if_false rfl ?_
  refine wpC_bindA (wpAny_rule ?_)
  have hcz : c.size ≤ sizeLine := by omega
  refine wpC_bind (call_ba (FA.typeCall_ba_1 _) (FA.newCall_ba_1 _) (fun _ => FA.args_ba_init_1 _ _) (ba_init_bytes (Heap.get?_push_size _ rfl) rfl rfl hcz fun h₁ hs₁ hg₁ => ⟨rfl, ?_⟩))
  have k1 : ∀ x o, s.heap.get? x = some o → h₁.get? x = some o := fun x o e => (hs₁.2 x (Nat.ne_of_lt (Heap.lt_size e))).trans (Heap.get?_push_of_some _ e)
  refine wpC_bindA (wpAny_holding (sliceParts_raw (sl := sl) ⟨os, k1 _ _ hos, hcs, hds⟩ (.int _ _) (.int _ _) ?_))
  refine wpC_bindA (payload_ba hg₁ rfl ?_)
  refine wpC_bindA (payload_ba (k1 _ _ ho) hd ?_)
  refine wpC_bindA (wpAny_of_eq (sliceIndices_raw (some n) (some m) none b.size (fun e => nomatch e)) ?_)
  have eb : sliceBounds (some n) (some m) none b.size = (n, m, 1) := by
    rw [sliceBounds_plain]
    exact Prod.ext (clip_to h0 (Int.le_trans h1 h2)) (Prod.ext (clip_to (Int.le_trans h0 h1) h2) rfl)
  rw [eb]
  dsimp only
  refine wpC_if_true rfl ?_
  refine wpC_bindA (wpAny_rule ?_)
  refine wpC_if_false (by simp; omega) ?_
  have sz₁ : h₁.objs.size = s.heap.objs.size + 1 := by rw [hs₁.1, Heap.size_push]
  have em : max n m = m := Int.max_eq_right h1
  rw [em]
  refine wpC_bindA (write_ba (k1 _ _ ho) hd (by simp; omega) fun h₂ hs₂ hg₂ => ?_)
  refine wpC_pure ⟨_, rfl, wpC_pure (h h₁ h₂ k1 (by omega) hs₂ ?_)⟩
  rw [hg₂]
  congr 3
  apply Array.ext'
  have e2 : b.toList.take b.size = b.toList := List.take_of_length_le (by simp)
  simp [Array.toList_extract, List.extract]
  exact List.take_of_length_le (by simp)

/-- del b[n:] -/
theorem ba_del_from {a sl : Addr} {o : Obj} {b : Array UInt8} {u1 : Tok} {n : Int} {Q : Unit → Shared → Prop} (ho : s.heap.get? a = some o) (hc : o.cls = .type "bytearray") (hd : o.data = .bytearray b 0)
    (hs : s.heap.IsSliceOf sl (.int n u1) .none .none) (hz : b.size ≤ sizeLine) (h0 : 0 ≤ n) (h1 : n ≤ b.size)
    (h : ∀ h', Heap.SameBut a s.heap h' → h'.get? a = some { o with data := .bytearray ((b.toList.take n.toNat).toArray) 0 } → Q () { s with heap := h' }) :
    wpC (model prog w) A (delItem (.ref a) (.ref sl)) Q E s := by
  have hT : s.TypeIs (.ref a) "bytearray" := ⟨o, ho, hc⟩
  obtain ⟨os, hos, hcs, hds⟩ := id hs
  unfold delItem
  refine wpC_holding ?_
  refine wpC_bindA (wpAny_sequenceKey hT (by decide) ?_)
  refine wpC_bind (callSpecialC (name := Str.ofString "__delitem__") hT FA.slot_ba_delitem (callC_entry FA.slot_ba_delitem hT FA.entry_ba_delitem (FA.args_ba_delitem _ _) (by decide +kernel) ?_))
  unfold Builtin.«bytearray.__delitem__»
  refine wpC_bindA (wpAny_of_eq (a := (.ref a, [.ref sl])) rfl ?_)
  dsimp only
  refine wpC_bindA (subscript_slice hs ?_)
  dsimp only
  refine wpC_bindA (wpAny_typeOf ⟨os, hos, hcs⟩ ?_)
  refine wpC_if_false rfl ?_
  refine wpC_bindA (sliceParts_raw hs (.int _ _) .none ?_)
  dsimp only
  refine wpC_bindA (payload_ba ho hd ?_)
  refine wpC_bindA (wpAny_of_eq (sliceIndices_raw (some n) none none b.size (fun e => nomatch e)) ?_)
  have eb : sliceBounds (some n) none none b.size = (n, (b.size : Int), 1) := by
    rw [sliceBounds_plain]
    exact Prod.ext (clip_to h0 h1) rfl
  rw [eb]
  dsimp only
  refine wpC_bindA (wpAny_rule ?_)
  have gen : ∀ (l : List UInt8) (i : Nat), i + l.length = b.size → ((l.zipIdx i).filterMap fun (x, k) => if Builtin.Bytes.selects n b.size 1 k then none else some x) = l.take (n.toNat - i) := by
    intro l
    induction l with
    | nil => intro i _; simp
    | cons x l ih =>
      intro i hi
      simp only [List.length_cons] at hi
      rw [List.zipIdx_cons, List.filterMap_cons]
      have hs : Builtin.Bytes.selects n b.size 1 i = decide (n ≤ (i : Int)) := by
        unfold Builtin.Bytes.selects
        have : ((i : Int) - n) % 1 = 0 := Int.emod_one _
        simp [this]
        omega
      simp only [hs]
      rw [ih (i + 1) (by omega)]
      by_cases hni : n ≤ (i : Int)
      · rw [decide_eq_true hni]
        have e1 : n.toNat - (i + 1) = 0 := by omega
        have e2 : n.toNat - i = 0 := by omega
        simp [e1, e2]
      · rw [decide_eq_false hni]
        have e1 : n.toNat - i = (n.toNat - (i + 1)) + 1 := by omega
        rw [e1, List.take_succ_cons]
        simp
  have go : ∀ f : Array UInt8 → Array UInt8, f b = (b.toList.take n.toNat).toArray → wpC (model prog w) A.in1 (write (.ref a) f >>= fun _ => ret .none)
      (fun fin s' => ∃ v, fin = Fin.done (Flow.ret v) ∧ wpC (model prog w) A (pure ()) Q E s') E s := fun f ef => by
    refine wpC_bindA (write_ba ho hd ?_ fun h₂ hs₂ hg₂ => ?_)
    · rw [ef]; simp; omega
    · rw [ef] at hg₂
      exact wpC_pure ⟨_, rfl, wpC_pure (h h₂ hs₂ hg₂)⟩
  split
  · refine wpC_bind (checkResizeC ho hd (go _ ?_))
    exact congrArg List.toArray (gen b.toList 0 (by simp))
  · refine go _ ?_
    exact congrArg List.toArray (gen b.toList 0 (by simp))

theorem ba_append {a : Addr} {o : Obj} {b : Array UInt8} {k : Int} {t : Tok} {Q : Value → Shared → Prop} (ho : s.heap.get? a = some o) (hc : o.cls = .type "bytearray") (hd : o.data = .bytearray b 0) (h0 : 0 ≤ k) (h1 : k < 256) (hz : b.size + 1 ≤ sizeLine)
    (h : ∀ h', Heap.SameBut a s.heap h' → h'.get? a = some { o with data := .bytearray (b.push k.toNat.toUInt8) 0 } → Q .none { s with heap := h' }) :
    wpC (model prog w) A (call (.builtin "bytearray.append") [.ref a, .int k t]) Q E s := by
  have hT : s.TypeIs (.ref a) "bytearray" := ⟨o, ho, hc⟩
  refine callC_entry FA.slot_ba_append hT FA.entry_ba_append (FA.args_ba_append _ _) (by decide +kernel) ?_
  unfold Builtin.«bytearray.append»
  refine wpC_bindA (wpAny_of_eq (a := (.ref a, .int k t)) rfl ?_)
  dsimp only
  refine wpC_bindA ?_
  unfold byteValue
  refine wpAny_bind (wpAny_of_eq (a := k) rfl ?_)
  refine wpA_if_false (by simp; omega) ?_
  refine wpAny_pure ?_
  refine wpC_bind (checkResizeC ho hd ?_)
  refine wpC_bindA (write_ba ho hd (by simpa using hz) fun h₂ hs₂ hg₂ => ?_)
  exact wpC_pure ⟨_, rfl, h h₂ hs₂ hg₂⟩

theorem gives_ba_len {a : Addr} {o : Obj} {b : Array UInt8} {Q : Value → Shared → Prop} (ho : s.heap.get? a = some o) (hc : o.cls = .type "bytearray") (hd : o.data = .bytearray b 0) (hz : b.size ≤ sizeLine)
    (h : ∀ t k, Q (.int b.size t) { s with toks := k }) : wpAny (model prog w) A (call (.builtin "len") [.ref a]) Q E s := by
  have hT : s.TypeIs (.ref a) "bytearray" := ⟨o, ho, hc⟩
  rw [sizeLine_eq] at hz
  refine call_len_slot hT FA.slot_ba_len (fun Q' hq => wpAny_call_entry FA.slot_ba_len hT FA.entry_ba_len ?_ (FA.args_ba_len _)) (by omega) (by omega) (h _ _)
  unfold Builtin.«bytearray.__len__»
  refine wpAny_bind (wpAny_of_eq (a := (.ref a, [])) rfl ?_)
  dsimp only
  refine wpAny_bind (payload_ba ho hd ?_)
  exact wpAny_bind (wpAny_mkInt (wpAny_pure ⟨_, rfl, hq⟩))
end
end Mine
end
end
section
open PySem.SeqAt (EqAt RcAt RcNeAt in_tupleAt notIn_tupleAt)
namespace Mine
open PySem.Builtin.Bytes (exported exportsOf checkResize write payload payload? buffer? slotIsOwn ownRelease byteValue sliceParts newBytearray)
namespace FA
theorem ba_no_bytes : typeLookup (.type "bytearray") "__bytes__" = pure none := by rw [typeLookup_type, builtinLookup_eq_fast]; kernel_rfl
theorem ba_no_index : typeLookup (.type "bytearray") "__index__" = pure none := by rw [typeLookup_type, builtinLookup_eq_fast]; kernel_rfl
end FA
section
variable {prog : Program} {w : World} {M : Model} {A : Around} {E : Value → Shared → Prop} {s : Shared} {α β : Type}
theorem buffer_ba {a : Addr} {o : Obj} {b : Array UInt8} {id : String} {f : Bool} {Q : Option (Array UInt8) → Shared → Prop} (ho : s.heap.get? a = some o) (hc : o.cls = .type "bytearray") (hd : o.data = .bytearray b 0) (h : Q (some b) s) : wpAny (model prog w) A (buffer? id (.ref a) f) Q E s := by
  have hT : s.TypeIs (.ref a) "bytearray" := ⟨o, ho, hc⟩
  unfold buffer?
  refine wpAny_bind (wpAny_specialOf hT FA.ba_buffer ?_)
  dsimp only
  refine wpAny_bind ?_
  unfold slotIsOwn
  refine wpAny_bind (wpAny_specialOf hT FA.ba_buffer ?_)
  dsimp only
  rw [if_neg (by decide +kernel)]
  have e : ("bytearray.__buffer__".dropRight ("__buffer__".length + 1)) = "bytearray" := by decide +kernel
  rw [e]
  refine wpAny_isInstance hT FA.sub_ba ?_
  refine wpA_if_false rfl ?_
  refine wpAny_bind (wpAny_specialOf hT FA.ba_buffer ?_)
  try dsimp only
  refine wpAny_bind (ownRelease_ba hT ?_)
  refine wpA_if_false rfl ?_
  exact wpAny_bind (payload_ba ho hd (wpAny_pure h))

theorem call_bytes_ba {a : Addr} {o : Obj} {b : Array UInt8} {Q : Value → Shared → Prop} (ho : s.heap.get? a = some o) (hc : o.cls = .type "bytearray") (hd : o.data = .bytearray b 0) (hz : b.size ≤ sizeLine)
    (h : ∀ t k, Q (.bytes b t) { s with toks := k }) : wpAny (model prog w) A (call (.type "bytes") [.ref a]) Q E s := by
  have hT : s.TypeIs (.ref a) "bytearray" := ⟨o, ho, hc⟩
  refine callType_codes (Q₁ := fun obj s₁ => s₁.TypeIs obj "bytes" ∧ Q obj s₁) PySem.F.bm_called (PySem.F.bm_typeCall _) PySem.F.entry_object_init ?_ fun obj s₁ h₁ => ?_
  · refine codeAny_of_tree ?_
    show wpAny _ _ (do checkBuiltinCall "bytes.__new__" ⟨[.type "bytes", .ref a], []⟩; again (.builtin "bytes.__new__" ⟨[.type "bytes", .ref a], []⟩)) _ _ s
    refine wpAny_bind (wpAny_of_eq (PySem.F.bm_newCall _) (wpAny_pure ⟨plainId_quiet PySem.F.bm_plain _, codeAny_builtin PySem.F.bm_entry ?_⟩))
    rw [Around.under_plainId PySem.F.bm_plain _]
    unfold Builtin.«bytes.__new__»
    refine wpAny_bind (wpAny_of_eq (a := true) rfl ?_)
    refine wpA_if_false rfl ?_
    refine wpAny_bind (wpAny_of_eq PySem.F.bm_sub ?_)
    refine wpA_if_false rfl ?_
    refine wpAny_bind (wpAny_of_eq (PySem.F.bm_bind _) ?_)
    refine wpAny_bind (wpAny_of_eq (a := ()) rfl ?_)
    refine wpAny_bind (wpAny_of_eq (a := ()) rfl ?_)
    refine wpA_if_false rfl ?_
    refine wpAny_bind (wpAny_specialOf hT FA.ba_no_bytes ?_)
    refine wpAny_bind (wpAny_bind ?_)
    show wpAny _ _ (load a >>= _) _ _ _
    refine wpAny_bind (wpAny_load ho ?_)
    rw [hd]
    refine wpAny_pure (wpAny_pure ?_)
    refine wpA_if_false rfl ?_
    refine wpAny_bind (wpAny_specialOf hT FA.ba_no_index ?_)
    refine wpA_if_true rfl ?_
    have key : wpAny (model prog w) A.in1.in1 (buffer? "bytes.__new__" (.ref a) true) (fun r s' => r = some b ∧ s' = s) E s := buffer_ba ho hc hd ⟨rfl, rfl⟩
    show wpAny _ _ (buffer? "bytes.__new__" (.ref a) true >>= fun r => _) _ _ _
    refine wpAny_bind (buffer_ba ho hc hd ?_)
    dsimp only
    refine wpAny_bind (wpAny_rule ?_)
    refine wpAny_bind (wpAny_mkBytes ?_ hz)
    first
      | exact wpAny_pure ⟨typeIs_bytes _ _ _, h _ _⟩
      | (show wpAny _ _ (if (Value.type "bytes" == Value.type "bytes") = true then _ else _) _ _ _
         refine wpA_if_true (by decide) ?_
         first
           | exact wpAny_pure ⟨typeIs_bytes _ _ _, h _ _⟩
           | exact wpAny_bind (wpAny_pure (wpAny_pure ⟨typeIs_bytes _ _ _, h _ _⟩)))
  · exact ⟨h₁.1, PySem.F.args_object_init_2 obj _, object_init_meets PySem.F.bm_called.init.lookup PySem.F.bm_called.made (by decide) prog w A.in1 _ s₁ ⟨h₁.1, rfl, h₁.2⟩⟩

theorem size_er (xs : List Value) (k : Nat) : (xs.toArray.eraseIdxIfInBounds k).size ≤ xs.length := by
  unfold Array.eraseIdxIfInBounds
  by_cases h : k < xs.toArray.size
  · rw [dif_pos h, Array.size_eraseIdx]; exact Nat.sub_le _ _
  · rw [dif_neg h]; exact Nat.le_refl _
theorem LstAt.mod {h : Heap} {l : Addr} {vs us : List Value} {f : Array Value → Array Value} (hv : LstAt h l vs) (e : f vs.toArray = us.toArray) : LstAt (h.update l (Obj.mapSeq f)) l us := by
  cases hv with | @mk o n ho hc hdd hd =>
  obtain ⟨n', hd'⟩ := Obj.data_mapSeq hd f
  exact .mk (Heap.get?_update_self _ ho (Obj.isFreed_of_seq hd')) ((Obj.cls_mapSeq ..).trans hc) (by obtain ⟨c, d, dt, sl⟩ := o; obtain rfl : dt = _ := hd; exact hdd) (by rw [hd', e])
theorem pop_last {l : Addr} {vs : List Value} {y : Value} {Q : Value → Shared → Prop} (hv : LstAt s.heap l vs) (hy : vs.getLast? = some y) (hz : vs.length ≤ sizeLine)
    (hQ : ∀ h', LstAt h' l vs.dropLast → Heap.SameBut l s.heap h' → Q y { s with heap := h' }) : wpAny (model prog w) A (call (.builtin "list.pop") [.ref l]) Q E s := by
  have hl := hv.list
  rw [List.getLast?_eq_getElem?] at hy
  have hpos := (List.getElem?_eq_some_iff.mp hy).1
  have fin := hQ _ (hv.mod (f := (·.eraseIdxIfInBounds (vs.length - 1))) (by
    unfold Array.eraseIdxIfInBounds
    rw [dif_pos (by exact hpos), List.eraseIdx_toArray, List.eraseIdx_eq_dropLast (by omega)])) (Heap.SameBut.update ..)
  cases hv with | @mk o n ho hc hdd hd =>
  refine wpAny_call_entry PySem.F.slot_list_pop hl.typeIs PySem.F.entry_list_pop ?_ (PySem.F.args_list_pop_1 _)
  obtain ⟨hp, g, d, tk, os⟩ := s
  have hne : ¬ vs.toArray.isEmpty = true := fun he => by rw [List.isEmpty_toArray, List.isEmpty_iff] at he; rw [he] at hpos; exact Nat.not_lt_zero _ hpos
  have hk : seqIndex? (-1) vs.toArray.size = some (vs.toArray.size - 1) := by
    rw [seqIndex_neg (by omega) (by rw [List.size_toArray]; omega), List.size_toArray]; congr 1; omega
  obtain ⟨cls, dd, data, sl⟩ := o
  obtain rfl : cls = _ := hc
  obtain rfl : data = _ := hd
  wp_walk using wpAny_loadPart' ho
  simp only [hk, show vs.toArray[vs.toArray.size - 1]? = some y from arr_get hy, Option.bind_some, Option.map_some]
  have hz : vs.toArray.size ≤ sizeLine := hz
  have hz' : (vs.toArray.eraseIdxIfInBounds (vs.toArray.size - 1)).size ≤ sizeLine + 1 := Nat.le_trans (size_er vs (vs.length - 1)) (Nat.le_succ_of_le hz)
  wp_walk using (wpAny_updateSeq ho rfl (hz := hz) (_hz' := hz')), wpAny_loadPart' ho
  exact ⟨_, rfl, fin⟩
theorem pop_first {l : Addr} {vs : List Value} {y : Value} {u : Tok} {Q : Value → Shared → Prop} (hv : LstAt s.heap l (y :: vs)) (hz : (y :: vs).length ≤ sizeLine)
    (hQ : ∀ h', LstAt h' l vs → Heap.SameBut l s.heap h' → Q y { s with heap := h' }) : wpAny (model prog w) A (call (.builtin "list.pop") [.ref l, .int 0 u]) Q E s := by
  have hl := hv.list
  have fin := hQ _ (hv.mod (f := (·.eraseIdxIfInBounds 0)) (by unfold Array.eraseIdxIfInBounds; rw [dif_pos (by exact Nat.succ_pos _), List.eraseIdx_toArray]; rfl)) (Heap.SameBut.update ..)
  cases hv with | @mk o n ho hc hdd hd =>
  refine wpAny_call_entry PySem.F.slot_list_pop hl.typeIs PySem.F.entry_list_pop ?_ (PySem.F.args_list_pop_2 _ _)
  obtain ⟨hp, g, d, tk, os⟩ := s
  have hne : ¬ (y :: vs).toArray.isEmpty = true := fun he => by rw [List.isEmpty_toArray] at he; cases he
  have hf : ¬ (!Builtin.List.listFitsIndex 0) = true := by decide
  have hk : seqIndex? 0 (y :: vs).toArray.size = some 0 := by unfold seqIndex?; simp
  have hy : (y :: vs).toArray[0]? = some y := arr_get rfl
  obtain ⟨cls, dd, data, sl⟩ := o
  obtain rfl : cls = _ := hc
  obtain rfl : data = _ := hd
  wp_walk using wpAny_loadPart' ho
  simp only [hk, hy, Option.bind_some, Option.map_some]
  have hz : (y :: vs).toArray.size ≤ sizeLine := hz
  have hz' : ((y :: vs).toArray.eraseIdxIfInBounds 0).size ≤ sizeLine + 1 := Nat.le_trans (size_er (y :: vs) 0) (Nat.le_succ_of_le hz)
  wp_walk using (wpAny_updateSeq ho rfl (hz := hz) (_hz' := hz')), wpAny_loadPart' ho
  exact ⟨_, rfl, fin⟩
theorem append_lst {l : Addr} {vs : List Value} {x : Value} {Q : Value → Shared → Prop} (hv : LstAt s.heap l vs) (hz : vs.length ≤ sizeLine)
    (hQ : ∀ h', LstAt h' l (vs ++ [x]) → Heap.SameBut l s.heap h' → Q .none { s with heap := h' }) : wpAny (model prog w) A (call (.builtin "list.append") [.ref l, x]) Q E s := by
  have hl := hv.list
  have fin := hQ _ (hv.mod (f := (·.push x)) (List.push_toArray ..)) (Heap.SameBut.update ..)
  cases hv with | @mk o n ho hc hdd hd =>
  refine wpAny_call_entry PySem.slot_list_append hl.typeIs PySem.entry_list_append ?_ (PySem.args_list_append _ _)
  show wpAny _ _ (updateSeq l (·.push x) >>= fun _ => ret .none) _ _ s
  exact wpAny_bind (wpAny_updateSeq ho hd (wpAny_pure ⟨.none, rfl, fin⟩) hz)
theorem tuple_index {a : Addr} {vs : List Value} {x : Str} {t : Tok} {j : Nat} {Q : Value → Shared → Prop} (ht : IsTup s.heap a (List.toArray vs)) {hit : Value → Bool} (hs : ∀ y ∈ vs, (∃ k t, y = .str k t) ∧ ∀ s, EqAt A.in1 s y (.str x t) (hit y)) (hj : vs.findIdx? hit = some j) (hu : A.units + 1 < cLine)
    (hQ : ∀ t k, Q (.int j t) { s with toks := k }) : wpAny (model prog w) A (call (.builtin "tuple.index") [.ref a, .str x t]) Q E s := by
  obtain ⟨o, ho, hc, n, hd⟩ := id ht
  refine wpAny_call_entry PySem.F.slot_tuple_index ⟨o, ho, hc⟩ PySem.F.entry_tuple_index ?_ (PySem.F.args_tuple_index_2 _ _)
  unfold Builtin.«tuple.index»
  refine wpAny_bind (wpAny_of_eq (a := (.ref a, [.str x t])) rfl ?_)
  dsimp only
  refine wpAny_bind ?_
  unfold Builtin.Tuple.tupleItemsOf
  refine wpAny_bind (wpAny_seqItems ho hd (wpAny_pure ?_))
  refine wpAny_bind (wpAny_pure ?_)
  refine wpAny_bind (wpAny_pure ?_)
  rw [Std.Legacy.Range.forIn_eq_forIn_range']
  refine wpAny_bind ?_
  have hjl : j < vs.length := by
    have := List.findIdx?_eq_some_iff_findIdx_eq.mp hj
    omega
  refine wpAny_forIn_list _ (fun l b s' => b = (none, ()) ∧ s' = s ∧ ∃ i, i ≤ j ∧ l = List.range' i (vs.length - i)) _ ?_ ?_ _ _ ⟨rfl, rfl, 0, Nat.zero_le _, ?_⟩
  · rintro i rest b s' ⟨rfl, rfl, k, hk, e⟩
    have hlen : vs.length - k = (vs.length - (k + 1)) + 1 := by omega
    rw [hlen, List.range'_succ] at e
    injection e with e1 e2
    subst e1
    have hkl : i < vs.length := by omega
    have hget : (List.toArray vs)[i]? = some vs[i] := by simp [hkl]
    obtain ⟨⟨y, ty, hy⟩, heq⟩ := hs vs[i] (List.getElem_mem hkl)
    have heq := heq s'
    rw [hget]
    dsimp only
    rw [hy] at heq ⊢
    refine wpAny_bind (heq _ _ _ _ ?_)
    rw [← hy]
    obtain ⟨f1, f2, f3⟩ := List.findIdx?_eq_some_iff_getElem.mp hj
    by_cases hij : i = j
    · subst hij
      rw [f2]
      refine wpA_if_true rfl ?_
      refine wpAny_bind (wpAny_bind (wpAny_mkInt (wpAny_pure (wpAny_pure ?_))))
      exact wpAny_pure ⟨_, rfl, hQ _ _⟩
    · have f4 := f3 i (by omega)
      have f5 : hit vs[i] = false := by simpa using f4
      rw [f5]
      refine wpA_if_false rfl ?_
      refine wpAny_pure ⟨rfl, rfl, i + 1, by omega, ?_⟩
      rw [e2]
  · rintro b s' ⟨rfl, rfl, k, hk, e⟩
    exfalso
    have := congrArg List.length e
    simp at this
    omega
  · simp
end
end Mine
end
section
namespace Mine
/-- no run makes the heap smaller -/
theorem runs_size {M : Model} {Γ : Ctx} {p : Pos} {t : Sem PySem.Fin} {fs : List Frame} {s s' : Shared} {e : End} (h : Runs M Γ p t fs s e s') : s.heap.objs.size ≤ s'.heap.objs.size := by
  induction h
  case update ih => exact Nat.le_trans (Nat.le_of_eq (Heap.size_after_update _ _ _).symm) ih
  case alloc ih => exact Nat.le_trans (Nat.le_trans (Nat.le_succ _) (Nat.le_of_eq (Heap.size_push _ _).symm)) ih
  all_goals first
    | exact Nat.le_refl _
    | assumption
    | (rename_i a b; exact Nat.le_trans a b)
    | (rename_i a _ b; exact Nat.le_trans a b)
    | (rename_i a _ _ b; exact Nat.le_trans a b)
    | (rename_i a _ _ _ b; exact Nat.le_trans a b)
    | skip

theorem wakes_size {M : Model} {Γ : Ctx} {p : Pos} {g : Nat} {r : Resume} {s s' : Shared} {res : GenResult} (h : Wakes M Γ p g r s res s') : s.heap.objs.size ≤ s'.heap.objs.size := by
  unfold Wakes at h
  split at h
  · exact h.elim
  · split at h
    · obtain ⟨e, s₁, hr, _, _, rfl⟩ := h; exact (runs_size hr : (s.setGen _ _).heap.objs.size ≤ _)
    · obtain ⟨_, rfl⟩ := h; exact Nat.le_refl _
    · obtain ⟨_, rfl⟩ := h; exact Nat.le_refl _
  · obtain ⟨e, s₁, hr, _, _, rfl⟩ := h; exact (runs_size hr : (s.setGen _ _).heap.objs.size ≤ _)
  all_goals (obtain ⟨_, rfl⟩ := h; exact Nat.le_refl _)

theorem wp_size {α : Type} {M : Model} {Γ : Ctx} (t : Sem α) : ∀ {Q : α → Pos → Shared → Prop} {E : Value → Pos → Shared → Prop} {p : Pos} {s : Shared} (k : Nat), k ≤ s.heap.objs.size → Sem.wp M Γ t Q E p s →
    Sem.wp M Γ t (fun a p' s' => Q a p' s' ∧ k ≤ s'.heap.objs.size) (fun e p' s' => E e p' s' ∧ k ≤ s'.heap.objs.size) p s := by
  induction t with
  | pure a => intro Q E p s k hk h; simp only [Sem.wp] at h ⊢; exact ⟨h, hk⟩
  | raise e => intro Q E p s k hk h; simp only [Sem.wp] at h ⊢; exact ⟨h, hk⟩
  | load a pt f ih => intro Q E p s k hk h; simp only [Sem.wp] at h ⊢; obtain ⟨o, ho, h⟩ := h; exact ⟨o, ho, ih _ k hk h⟩
  | update a pt f g ih => intro Q E p s k hk h; simp only [Sem.wp] at h ⊢; exact ⟨h.1, ih _ k (by show k ≤ (Heap.update _ _ _).objs.size; rw [Heap.size_after_update]; exact hk) h.2⟩
  | alloc o g ih => intro Q E p s k hk h; simp only [Sem.wp] at h ⊢; exact ih _ k (Nat.le_trans hk (Nat.le_trans (Nat.le_succ _) (Nat.le_of_eq (Heap.size_push _ _).symm))) h
  | choose a n g ih => intro Q E p s k hk h; simp only [Sem.wp] at h ⊢; exact ⟨h.1, ih _ k hk h.2⟩
  | genState g f ih => intro Q E p s k hk h; simp only [Sem.wp] at h ⊢; obtain ⟨o, ho, h⟩ := h; exact ⟨o, ho, ih _ k hk h⟩
  | call c hd g l f ih =>
    intro Q E p s k hk h
    simp only [Sem.wp] at h ⊢
    obtain ⟨r, s₁, hr, h⟩ := h
    exact ⟨r, s₁, hr, ih _ k (Nat.le_trans hk (runs_size hr)) h⟩
  | resume g r l f ih =>
    intro Q E p s k hk h
    simp only [Sem.wp] at h ⊢
    obtain ⟨r, s₁, hr, h⟩ := h
    exact ⟨r, s₁, hr, ih _ k (Nat.le_trans hk (wakes_size hr)) h⟩
  | _ => first
    | (intro Q E p s k hk h; simp only [Sem.wp] at h; done)
    | (rename_i ih; intro Q E p s k hk h; simp only [Sem.wp] at h ⊢; exact ih _ k hk h)

theorem wpAny_size {α : Type} {M : Model} {A : Around} {t : Sem α} {Q : α → Shared → Prop} {E : Value → Shared → Prop} {s : Shared}
    (h : wpAny M A t (fun a s' => s.heap.objs.size ≤ s'.heap.objs.size → Q a s') (fun e s' => s.heap.objs.size ≤ s'.heap.objs.size → E e s') s) : wpAny M A t Q E s := fun Γ p hΓ =>
  Sem.wp_mono M Γ t (fun a _ s' h => h.1 h.2) (fun e _ s' h => h.1 h.2) p s (wp_size t s.heap.objs.size (Nat.le_refl _) (h Γ p hΓ))
end Mine
end
section
open PySem.SeqAt (EqAt RcAt RcNeAt in_tupleAt notIn_tupleAt)
namespace Mine

/-! slices -/
inductive OptR (w : Wd) : Option MV → Value → Prop
  | no : OptR w none .none
  | some {m : MV} {V : Value} : VRel w m V → OptR w (some m) V
structure SliceS (v : MV) (l u s : Option MV) (σ : St) (Q : MV → St → Prop) (T : St → Prop) : Prop where
  co : ContS v σ
  run : ∀ (k : Kx) (w : Wd) (V L U S : Value) (sl : Addr), Inv k w σ → VRel w v V → OptR w l L → OptR w u U → OptR w s S → w.h.IsSliceOf sl L U S → Run k none VRel w Q T (getItem V (.ref sl))
noncomputable def SetSliceS (v l u x : MV) (σ : St) (Q : St → Prop) (T : St → Prop) : Prop :=
  ∀ (k : Kx) (w : Wd) (V L U X : Value) (sl : Addr), Inv k w σ → VRel w v V → VRel w l L → VRel w u U → VRel w x X → w.h.IsSliceOf sl L U .none → Run k none (fun _ (_ _ : Unit) => True) w (fun _ => Q) T (setItem V (.ref sl) X)
noncomputable def DelS (v l : MV) (σ : St) (Q : St → Prop) (T : St → Prop) : Prop :=
  ∀ (k : Kx) (w : Wd) (V L : Value) (sl : Addr), Inv k w σ → VRel w v V → VRel w l L → w.h.IsSliceOf sl L .none .none → Run k none (fun _ (_ _ : Unit) => True) w (fun _ => Q) T (delItem V (.ref sl))
@[elab_as_elim] theorem OptR.noE {w : Wd} {V : Value} {P : Value → Prop} (r : OptR w Option.none V) (k : P .none) : P V := by cases r; exact k
@[elab_as_elim] theorem OptR.intE {w : Wd} {V : Value} {P : Value → Prop} {i : Int} (r : OptR w (Option.some (.int i)) V) (k : ∀ t, P (.int i t)) : P V := by cases r with | some r => exact VRel.intE r k
/-- where a slice's bound lies -/
noncomputable def cutAt (i : Int) (n : Nat) : Nat := if i < 0 then (i + n).toNat else i.toNat
theorem clip_eq (i : Int) (n : Nat) : clipAt n i = min (cutAt i n) n := by
  unfold cutAt
  by_cases h : i < 0
  · rw [if_pos h]
    unfold clipAt
    rw [if_pos h]
    have e : i + n ≤ n := Int.le_trans (Int.add_le_add_right (Int.le_of_lt h) n) (Int.le_of_eq (Int.zero_add _))
    rw [Int.min_eq_left e]
    rcases Int.le_total 0 (i + n) with q | q
    · rw [Int.max_eq_right q]; exact (Nat.min_eq_left (Int.toNat_le.mpr e)).symm
    · rw [Int.max_eq_left q, Int.toNat_of_nonpos q]; exact (Nat.zero_min n).symm
  · rw [if_neg h]
    obtain ⟨a, rfl⟩ := Int.eq_ofNat_of_zero_le (Int.not_lt.mp h)
    exact clipAt_nat n a
theorem take_clip {α : Type} (x : List α) (i : Int) : x.take (clipAt x.length i) = x.take (cutAt i x.length) := by
  rw [clip_eq i x.length, ← List.take_take, List.take_of_length_le (Nat.le_refl _)]
theorem drop_clip {α : Type} (x : List α) (i : Int) : x.drop (clipAt x.length i) = x.drop (cutAt i x.length) := by
  rw [clip_eq i x.length]
  rcases Nat.le_total (cutAt i x.length) x.length with h | h
  · rw [Nat.min_eq_left h]
  · rw [Nat.min_eq_right h, List.drop_of_length_le (Nat.le_refl _), List.drop_of_length_le h]
section
variable {σ : St} {T : St → Prop} {Q : MV → St → Prop} {P : St → Prop} {x y : Int} {i : Nat} {v : MV} {a : Str}
theorem list_slice {k : Kx} {w : Wd} {a sl : Addr} {vs us : List Value} {l : List MV} {L U S : Value} {lo hi st : Option Int} (iv : Inv k w σ) (hv : w.h.IsList a vs.toArray) (hs : w.h.IsSliceOf sl L U S) (pl : IsPart L lo) (pu : IsPart U hi) (ps : IsPart S st) (h0 : st ≠ some 0) (hz : vs.length ≤ sizeLine)
    (e : slicePick vs.toArray lo hi st = us.toArray) (ru : VRels w l us) (h : Q (.ref σ.length) (σ ++ [.list l])) : Run k none VRel w Q T (getItem (.ref a) (.ref sl)) :=
  Run.made iv h fun P E k' => wpAny_getItem_list_slice hv hs pl pu ps h0 (by rw [e]; exact k' _ _ w.s.toks (push_keeps _) (push_le _) (Nat.le_refl _) fun x => .list rfl (.mk (Heap.get?_push_size _ rfl) rfl rfl rfl) (ru.ext x)) hz
theorem pick_take (vs : List Value) (n : Int) : slicePick vs.toArray none (some n) none = (vs.take (cutAt n vs.length)).toArray := by
  rw [slicePick_plain]
  simp only [Option.elim, List.drop_zero, Nat.sub_zero, List.size_toArray]
  rw [take_clip]
theorem pick_drop (vs : List Value) (n : Int) : slicePick vs.toArray (some n) none none = (vs.drop (cutAt n vs.length)).toArray := by
  rw [slicePick_plain]
  simp only [Option.elim, List.size_toArray]
  rw [List.take_of_length_le (by simp), drop_clip]
theorem s_ro {l : List MV} (hz : l.length ≤ sz) (h : Q (.ref σ.length) (σ ++ [.list (l.take (cutAt x l.length))])) : SliceS (.ro l) none (some (.int x)) none σ Q T :=
  .mk co_ro fun k w _ _ _ _ sl iv rv ra rb rc => VRel.roE rv fun a vs hv _ rs => OptR.noE ra (OptR.intE rb fun t => OptR.noE rc fun hs => list_slice iv hv hs .none (.int _ _) .none nofun (rs.len.symm ▸ Nat.le_trans hz sz_line) (pick_take _ _) (rs.len.symm ▸ rs.take _) h)
theorem s_take {l : List MV} (e : σ[i]? = some (.list l)) (hz : l.length ≤ sz) (h : Q (.ref σ.length) (σ ++ [.list (l.take (cutAt x l.length))])) : SliceS (.ref i) none (some (.int x)) none σ Q T :=
  .mk (co_list e) fun k w _ _ _ _ sl iv rv ra rb rc => Inv.listE iv e rv fun a vs _ hv rs => OptR.noE ra (OptR.intE rb fun t => OptR.noE rc fun hs => list_slice iv hv.list hs .none (.int _ _) .none nofun (rs.len.symm ▸ Nat.le_trans hz sz_line) (pick_take _ _) (rs.len.symm ▸ rs.take _) h)
theorem s_drop {l : List MV} (e : σ[i]? = some (.list l)) (hz : l.length ≤ sz) (h : Q (.ref σ.length) (σ ++ [.list (l.drop (cutAt x l.length))])) : SliceS (.ref i) (some (.int x)) none none σ Q T :=
  .mk (co_list e) fun k w _ _ _ _ sl iv rv ra rb rc => Inv.listE iv e rv fun a vs _ hv rs => OptR.intE ra fun t => OptR.noE rb (OptR.noE rc fun hs => list_slice iv hv.list hs (.int _ _) .none .none nofun (rs.len.symm ▸ Nat.le_trans hz sz_line) (pick_drop _ _) (rs.len.symm ▸ rs.drop _) h)
theorem s_rev {l : List MV} (e : σ[i]? = some (.list l)) (hz : l.length ≤ sz) (h : Q (.ref σ.length) (σ ++ [.list l.reverse])) : SliceS (.ref i) none none (some (.int (-1))) σ Q T :=
  .mk (co_list e) fun k w _ _ _ _ sl iv rv ra rb rc => Inv.listE iv e rv fun a vs _ hv rs => OptR.noE ra (OptR.noE rb (OptR.intE rc fun t hs => list_slice iv hv.list hs .none .none (.int _ _) (by decide) (rs.len.symm ▸ Nat.le_trans hz sz_line) (krv_pick _) rs.reverse h))
theorem pick_ba {b : List UInt8} (h0 : 0 ≤ x) (h1 : x ≤ y) (h2 : y ≤ b.length) : KBy.picked b.toArray (some x) (some y) = ((b.drop x.toNat).take (y - x).toNat).toArray := by
  rw [KBc.picked_eq]
  simp only [Option.elim, List.size_toArray]
  rw [clip_in (Int.le_trans h0 h1) h2, clip_in h0 (Int.le_trans h1 h2), Int.toNat_sub'' (Int.le_trans h0 h1) h0]
theorem s_ba {b : List UInt8} (e : σ[i]? = some (.ba b)) (h0 : 0 ≤ x) (h1 : x ≤ y) (h2 : y ≤ b.length) (hz : b.length ≤ sz) (h : Q (.ref σ.length) (σ ++ [.ba ((b.drop x.toNat).take (y - x).toNat)])) : SliceS (.ref i) (some (.int x)) (some (.int y)) none σ Q T :=
  .mk (co_ba e) fun k w _ _ _ _ sl iv rv ra rb rc => Inv.baE iv e rv fun a o _ ho hc hd _ => OptR.intE ra fun t => OptR.intE rb fun u => OptR.noE rc fun hs => Run.made iv h fun P E k' => ba_get_slice ho hc hd hs (.int _ _) (.int _ _) (Nat.le_trans hz sz_line) (by
    rw [pick_ba h0 h1 h2]
    exact k' _ _ w.s.toks (push_keeps _) (push_le _) (Nat.le_refl _) fun x => .ba rfl (Heap.get?_push_size _ rfl) rfl rfl rfl)
theorem s_str (hz : a.length ≤ sz) (hx : x.natAbs < 1000) (h : Q (.str (Txt.slice a .none (some x))) σ) : SliceS (.str a) none (some (.int x)) none σ Q T :=
  .mk co_str fun k w _ _ _ _ sl iv rv ra rb rc => VRel.strE rv fun t => OptR.noE ra (OptR.intE rb fun u => OptR.noE rc fun hs => Run.leaf iv h fun P E k' => wpAny_getItem_str_slice (l := none) (u := some (_, u)) (st := none) hs rfl (post_val_or_str ⟨Nat.le_trans (Txt.slice_le _ _ _) (Nat.le_trans hz sz_line), fun t' tk => k' _ _ (.str _ _)⟩))
theorem Run.turnedC {α β : Type} {k : Kx} {w : Wd} {σ : St} {Q : α → St → Prop} {T : St → Prop} {RL : Wd → α → β → Prop} {m : Sem β} {v : α} {j : Nat} {p : Addr × Addr} {o : MO} (i : Inv k w σ) (hp : w.ι[j]? = some p) (q : Q v (σ.set j o))
    (h : ∀ P E, (∀ V h₁ h', (∀ b o, w.h.get? b = some o → h₁.get? b = some o) → w.h.objs.size ≤ h₁.objs.size → Heap.SameBut p.2 h₁ h' → (∀ w', w'.s.heap = h' → ORel k.g w' p o ∧ RL w' v V) → P V { w.s with heap := h' }) → wpC k.M k.A m P E w.s) : Run k none RL w Q T m :=
  h _ _ fun V h₁ h' hk hz hs r => have s1 := i.grow (h' := h₁) (tk := w.s.toks) hk hz; have s2 := s1.inv.set (h' := h') (tk := w.s.toks) hp hs fun x => (r _ rfl).1; .mk (s1.trans s2) (r ⟨_, _⟩ rfl).2 q
theorem ss_ba {b c : List UInt8} (e : σ[i]? = some (.ba b)) (h0 : 0 ≤ x) (h1 : x ≤ y) (h2 : y ≤ b.length) (h3 : y - x = c.length) (hz : b.length ≤ sz) (h : P (σ.set i (.ba (b.take x.toNat ++ c ++ b.drop y.toNat)))) : SetSliceS (.ref i) (.int x) (.int y) (.bytes c) σ P T :=
  fun k w _ _ _ _ sl iv rv ra rb rx => Inv.baE iv e rv fun a o hp ho hc hd hdd => VRel.intE ra fun t => VRel.intE rb fun u => VRel.bytesE rx fun tx => fun hs => Run.turnedC (v := ()) iv hp h fun P' E k' => ba_set_slice ho hc hd hs (Nat.le_trans hz sz_line) h0 h1 h2 h3 fun h₁ h' k1 k2 k3 k4 => k' () h₁ h' k1 k2 k3 fun w' ew => ⟨.ba (o := { o with data := .bytearray _ 0 }) rfl (by rw [Wd.h, ew]; exact k4) hc rfl hdd, trivial⟩
theorem d_ba {b : List UInt8} (e : σ[i]? = some (.ba b)) (h0 : 0 ≤ x) (h1 : x ≤ b.length) (hz : b.length ≤ sz) (h : P (σ.set i (.ba (b.take x.toNat)))) : DelS (.ref i) (.int x) σ P T :=
  fun k w _ _ sl iv rv ra => Inv.baE iv e rv fun a o hp ho hc hd hdd => VRel.intE ra fun t => fun hs => Run.turnedC (v := ()) iv hp h fun P' E k' => ba_del_from ho hc hd hs (Nat.le_trans hz sz_line) h0 h1 fun h' k1 k2 => k' () _ h' (fun _ _ e => e) (Nat.le_refl _) k1 fun w' ew => ⟨.ba (o := { o with data := .bytearray _ 0 }) rfl (by rw [Wd.h, ew]; exact k2) hc rfl hdd, trivial⟩

/-! built-ins that are called -/
noncomputable def BltS (f : Value) (vs : List MV) (σ : St) (Q : MV → St → Prop) (T : St → Prop) : Prop :=
  ∀ (k : Kx) (w : Wd) (Vs : List Value), Fit k 0 → Inv k w σ → VRels w vs Vs → Run k none VRel w Q T (call f Vs)
@[elab_as_elim] theorem VRels.oneE {w : Wd} {m : MV} {vs : List Value} {P : List Value → Prop} (r : VRels w [m] vs) (f : ∀ V, VRel w m V → P [V]) : P vs := by
  cases r with | cons r q => cases q; exact f _ r
theorem len_line {n : Nat} (h : n ≤ sz) : (n : Int) < 2 ^ 63 := by unfold sz at h; omega
end
section
variable {σ : St} {T : St → Prop} {Q : MV → St → Prop} {P : St → Prop} {x y : Int} {i : Nat} {v : MV} {a : Str}
theorem f_len_tup {l : List MV} (hz : l.length ≤ sz) (h : Q (.int l.length) σ) : BltS (.builtin "len") [.tup l] σ Q T :=
  fun k w _ F iv r => VRels.oneE r fun V r => VRel.tupE r fun a vs ht _ rs => Run.leaf iv h fun P E k' => by
    have e := rs.len
    exact len_tuple ht.tup (by rw [List.size_toArray, e]; exact len_line hz) (k' _ _ (by rw [List.size_toArray, e]; exact .int _ _))
theorem f_len_bytes {b : List UInt8} (hz : b.length ≤ sz) (h : Q (.int b.length) σ) : BltS (.builtin "len") [.bytes b] σ Q T :=
  fun k w _ F iv r => VRels.oneE r fun V r => VRel.bytesE r fun t => Run.leaf iv h fun P E k' => len_bytes (Nat.le_trans hz (by decide)) (k' _ _ (.int _ _))
theorem f_len_list {l : List MV} (e : σ[i]? = some (.list l)) (hz : l.length ≤ sz) (h : Q (.int l.length) σ) : BltS (.builtin "len") [.ref i] σ Q T :=
  fun k w _ F iv r => VRels.oneE r fun V r => Inv.listE iv e r fun a vs _ ht rs => Run.leaf iv h fun P E k' => by
    have e := rs.len
    exact Calls.call_len_list ht.list (by rw [List.size_toArray, e]; exact len_line hz) (k' _ _ (by rw [List.size_toArray, e]; exact .int _ _))
theorem f_len_ba {b : List UInt8} (e : σ[i]? = some (.ba b)) (hz : b.length ≤ sz) (h : Q (.int b.length) σ) : BltS (.builtin "len") [.ref i] σ Q T :=
  fun k w _ F iv r => VRels.oneE r fun V r => Inv.baE iv e r fun a o _ ho hc hd _ => Run.leaf iv h fun P E k' => gives_ba_len ho hc hd (Nat.le_trans hz sz_line) fun t tk => k' _ _ (.int _ _)
theorem f_int (h : Q (.int x) σ) : BltS (.type "int") [.int x] σ Q T := fun k w _ F iv r => VRels.oneE r fun V r => VRel.intE r fun t => Run.leaf iv h fun P E k' => call_int_int (k' _ w.s.toks (.int _ _))
theorem f_abs (h : Q (.int (if x < 0 then -x else x)) σ) : BltS (.builtin "abs") [.int x] σ Q T := fun k w _ F iv r => VRels.oneE r fun V r => VRel.intE r fun t => Run.leaf iv h fun P E k' => call_abs_int fun u tk => k' _ _ (.int _ _)
theorem f_tuple {l : List MV} (e : σ[i]? = some (.list l)) (hz : l.length ≤ sz) (h : Q (.tup l) σ) : BltS (.type "tuple") [.ref i] σ Q T :=
  fun k w _ F iv r => VRels.oneE r fun V r => Inv.listE iv e r fun a vs _ ht rs => Run.any fun E => by
    refine wpAny_size ?_
    refine call_tuple_list ht.list (fun h' hk hs => ?_) (by rw [List.size_toArray, rs.len]; exact Nat.le_trans hz sz_line)
    have st := iv.grow (h' := h'.push { cls := .type "tuple", data := .seq vs.toArray }) (tk := w.s.toks) (fun b o e => Heap.get?_push_of_some _ (hk b o e)) hs
    have hn : ∀ b o, w.h.get? b = some o → b ≠ h'.objs.size := fun b o e => Nat.ne_of_lt (Heap.lt_size (hk b o e))
    refine .mk st (.tup (.mk (Heap.get?_push_size _ rfl) rfl rfl rfl) (fun m => ?_) (rs.ext st.ext)) h
    obtain ⟨p, hp, q⟩ := m
    obtain ⟨j, hj⟩ := mem_get hp
    obtain ⟨_, _, r'⟩ := iv.at hj
    obtain ⟨_, ob, e'⟩ := r'.there
    exact hn _ _ e' q
theorem f_bytes_ba {b : List UInt8} (e : σ[i]? = some (.ba b)) (hz : b.length ≤ sz) (h : Q (.bytes b) σ) : BltS (.type "bytes") [.ref i] σ Q T :=
  fun k w _ F iv r => VRels.oneE r fun V r => Inv.baE iv e r fun a o _ ho hc hd _ => Run.leaf iv h fun P E k' => call_bytes_ba ho hc hd (Nat.le_trans hz sz_line) fun t tk => k' _ _ (.bytes _ _)
theorem f_bytes_one (e : σ[i]? = some (.list [.int x])) (h0 : 0 ≤ x) (h1 : x < 256) (h : Q (.bytes [UInt8.ofNat x.toNat]) σ) : BltS (.type "bytes") [.ref i] σ Q T :=
  fun k w _ F iv r => VRels.oneE r fun V r => Inv.listE iv e r fun a vs _ ht rs => Run.any fun E => by
    revert ht
    refine VRels.oneE rs fun K rk => VRel.intE rk fun u ht => ?_
    refine wpAny_size ?_
    refine call_bytes_ints (ns := [x]) ht.list (.cons _ _ .nil) (by intro n hn; rw [List.mem_singleton] at hn; exact hn ▸ ⟨h0, h1⟩) (by rw [sizeLine_eq]; show 1 ≤ 16777216; decide) F.hand fun h' t tk hk hs => ?_
    exact .mk (iv.grow (tk := tk) hk hs) (.bytes [UInt8.ofNat x.toNat] t) h
theorem newba {k : Kx} {w : Wd} {args : List Value} {b : List UInt8} (iv : Inv k w σ) (q : Q (.ref σ.length) (σ ++ [.ba b]))
    (h : ∀ P E, (∀ h', Heap.SameBut w.h.objs.size (w.h.push { cls := .type "bytearray", data := .bytearray #[] 0 }) h' → h'.get? w.h.objs.size = some { cls := .type "bytearray", data := .bytearray b.toArray 0 } → P (.ref w.h.objs.size) { w.s with heap := h' }) →
      wpC k.M k.A (call (.type "bytearray") args) P E w.s) : Run k none VRel w Q T (call (.type "bytearray") args) := h _ _ fun h' hs hg =>
  .mk (iv.alloc (tk := w.s.toks) (fun x o e => (hs.2 x (Nat.ne_of_lt (Heap.lt_size e))).trans (Heap.get?_push_of_some _ e)) (Nat.le_trans (push_le _) (Nat.le_of_eq hs.1.symm)) (Nat.le_refl _) (Nat.le_refl _) fun x => .ba rfl hg rfl rfl rfl)
    (.ref (p := (w.h.objs.size, w.h.objs.size)) (by rw [← iv.len]; show (w.ι ++ [_])[w.ι.length]? = _; rw [List.getElem?_append_right (Nat.le_refl _), Nat.sub_self]; rfl)) q
theorem f_ba0 (h : Q (.ref σ.length) (σ ++ [.ba []])) : BltS (.type "bytearray") [] σ Q T := fun k w _ F iv r => by
  cases r
  exact newba iv h fun P E k' => call_ba FA.typeCall_ba_0 FA.newCall_ba_0 (fun _ => FA.args_ba_init_0 _) (ba_init_nil (Heap.get?_push_size _ rfl) rfl rfl fun h₁ hs₁ hg₁ => ⟨rfl, k' h₁ hs₁ hg₁⟩)
theorem f_ba (h0 : 0 < x) (h1 : x ≤ sz) (h : Q (.ref σ.length) (σ ++ [.ba (List.replicate x.toNat 0)])) : BltS (.type "bytearray") [.int x] σ Q T :=
  fun k w _ F iv r => VRels.oneE r fun V r => VRel.intE r fun t => newba iv h fun P E k' => call_ba (FA.typeCall_ba_1 _) (FA.newCall_ba_1 _) (fun _ => FA.args_ba_init_1 _ _) (ba_init_int (Heap.get?_push_size _ rfl) rfl rfl h0 h1 fun h₁ hs₁ hg₁ => ⟨rfl, k' h₁ hs₁ (by rw [hg₁, List.toArray_replicate])⟩)

/-! methods of built-in kinds -/
namespace FA
theorem plainAttrs_ba : PlainAttrs "bytearray" :=
  ⟨⟨"bytearray.__getattribute__", by rw [typeLookup_type, builtinLookup_eq_fast]; kernel_rfl, by decide +kernel⟩, by rw [typeLookup_type, builtinLookup_eq_fast]; kernel_rfl⟩
theorem type_ba_append : typeOf (.builtin "bytearray.append") = pure (.type "method_descriptor") := by show builtinType _ = _; rw [builtinType_eq_fast]; kernel_rfl
end FA
noncomputable def FindS (v : MV) (m : Str) (id : String) (σ : St) : Prop := ∀ (k : Kx) (w : Wd) (V : Value), Inv k w σ → VRel w v V → ∀ Q E pl, Q (.builtin id, [V]) w.s → wpAny k.M k.A (getMethod V m pl) Q E w.s
theorem LstAt.nd {h : Heap} {a : Addr} {vs : List Value} (t : LstAt h a vs) : ∀ b, Value.ref a = .ref b → ∃ o, h.get? b = some o ∧ o.dict = none := fun b q => by cases q; cases t with | mk g _ d _ => exact ⟨_, g, d⟩
theorem m_listApp {l : List MV} (e : σ[i]? = some (.list l)) : FindS (.ref i) "append" "list.append" σ := fun k w _ iv r => Inv.listE iv e r fun a vs _ ht _ Q E pl h => getMethod_builtin ht.list.typeIs PySem.F.plainAttrs_list PySem.slot_list_append PySem.type_list_append ht.nd h
theorem m_listPop {l : List MV} (e : σ[i]? = some (.list l)) : FindS (.ref i) "pop" "list.pop" σ := fun k w _ iv r => Inv.listE iv e r fun a vs _ ht _ Q E pl h => getMethod_builtin ht.list.typeIs PySem.F.plainAttrs_list PySem.F.slot_list_pop PySem.F.type_list_pop ht.nd h
theorem m_baApp {b : List UInt8} (e : σ[i]? = some (.ba b)) : FindS (.ref i) "append" "bytearray.append" σ := fun k w _ iv r => Inv.baE iv e r fun a o _ ho hc _ hdd Q E pl h => getMethod_builtin ⟨o, ho, hc⟩ FA.plainAttrs_ba FA.slot_ba_append FA.type_ba_append (fun a q => by cases q; exact ⟨o, ho, hdd⟩) h
theorem m_index {l : List MV} : FindS (.tup l) "index" "tuple.index" σ := fun k w _ iv r => VRel.tupE r fun a vs ht _ _ Q E pl h => getMethod_builtin ht.tup.typeIs PySem.F.plainAttrs_tuple PySem.F.slot_tuple_index PySem.F.type_tuple_index (fun b q => by cases q; cases ht with | mk g _ d _ => exact ⟨_, g, d⟩) h
theorem m_toBytes : FindS (.int x) "to_bytes" "int.to_bytes" σ := fun k w _ iv r => VRel.intE r fun t Q E pl h => KTBy.method h
theorem f_listApp {l : List MV} (e : σ[i]? = some (.list l)) (hz : l.length ≤ sz) (h : Q .none (σ.set i (.list (l ++ [v])))) : BltS (.builtin "list.append") [.ref i, v] σ Q T := fun k w _ F iv r => by
  cases r with | cons r rs =>
  refine VRels.oneE rs fun X rx => Inv.listE iv e r fun a vs hp ht rs => Run.turned iv hp h fun P' E k' => append_lst ht (rs.len.symm ▸ Nat.le_trans hz sz_line) fun h' hl hs => k' .none h' w.s.toks hs fun x => ⟨.list rfl hl ((rs.append (.one rx)).ext x), .none⟩
theorem f_listPop {l : List MV} (e : σ[i]? = some (.list l)) (hv : l.getLast? = some v) (hz : l.length ≤ sz) (h : Q v (σ.set i (.list l.dropLast))) : BltS (.builtin "list.pop") [.ref i] σ Q T := fun k w _ F iv r =>
  VRels.oneE r fun V r => Inv.listE iv e r fun a vs hp ht rs => let ⟨Y, hY, ry⟩ := rs.getLast hv; Run.turned iv hp h fun P' E k' => pop_last ht hY (rs.len.symm ▸ Nat.le_trans hz sz_line) fun h' hl hs => k' Y h' w.s.toks hs fun x => ⟨.list rfl hl (rs.dropLast.ext x), ry.ext x⟩
theorem f_listPop0 {l : List MV} (e : σ[i]? = some (.list (v :: l))) (hz : l.length < sz) (h : Q v (σ.set i (.list l))) : BltS (.builtin "list.pop") [.ref i, .int 0] σ Q T := fun k w _ F iv r => by
  cases r with | cons r rs =>
  refine VRels.oneE rs fun X rx => VRel.intE rx fun t => Inv.listE iv e r fun a vs hp ht rs => Run.turned iv hp h fun P' E k' => ?_
  have hn := rs.len
  cases rs with | cons ry rs =>
  exact pop_first ht (hn.symm ▸ Nat.le_trans hz sz_line) fun h' hl hs => k' _ h' w.s.toks hs fun x => ⟨.list rfl hl (rs.ext x), ry.ext x⟩
theorem f_baApp {b : List UInt8} (e : σ[i]? = some (.ba b)) (h0 : 0 ≤ x) (h1 : x < 256) (hz : b.length < sz) (h : Q .none (σ.set i (.ba (b ++ [UInt8.ofNat x.toNat])))) : BltS (.builtin "bytearray.append") [.ref i, .int x] σ Q T := fun k w _ F iv r => by
  cases r with | cons r rs =>
  refine VRels.oneE rs fun X rx => VRel.intE rx fun t => Inv.baE iv e r fun a o hp ho hc hd hdd => Run.turnedC iv hp h fun P' E k' => ba_append ho hc hd h0 h1 (Nat.le_trans hz sz_line) fun h' k1 k2 => k' .none _ h' (fun _ _ e => e) (Nat.le_refl _) k1 fun w' ew => ⟨.ba (o := { o with data := .bytearray _ 0 }) rfl (by rw [Wd.h, ew]; exact k2) hc (by rw [List.push_toArray]) hdd, .none⟩
theorem findIdx_hits {w : Wd} {x : Str} {hit : Value → Bool} (hh : ∀ k t, hit (.str k t) = (k == x)) {l : List MV} {vs : List Value} (r : VRels w l vs) (q : l.all isS = true) : vs.findIdx? hit = l.findIdx? (eqS x) := by
  induction l generalizing vs with
  | nil => cases r; rfl
  | cons m l ih =>
    cases r with | cons r rs =>
    rw [List.all_cons, Bool.and_eq_true] at q
    rw [List.findIdx?_cons, List.findIdx?_cons, ih rs q.2]
    match m, q.1, r with
    | .str k, _, r => exact VRel.strE r fun t => by rw [hh]; rfl
theorem f_index {l : List MV} {j : Nat} (hl : l.all isS = true) (hj : l.findIdx? (eqS a) = some j) (h : Q (.int j) σ) : BltS (.builtin "tuple.index") [.tup l, .str a] σ Q T := fun k w _ F iv r => by
  cases r with | cons r rs =>
  refine VRels.oneE rs fun X rx => VRel.strE rx fun t => VRel.tupE r fun b vs ht _ rs => Run.leaf iv h fun P E k' => ?_
  have hs := (hits (hit := hitS (.str a t)) (eqX := eqS a) (P := fun y => (∃ k t, y = .str k t) ∧ ∀ s, EqAt k.A.in1 s y (.str a t) (hitS (.str a t) y)) (fun m V q r => match m, q, r with
    | .str z, _, r => VRel.strE r fun u => ⟨rfl, ⟨_, _, rfl⟩, fun s => (eqGives_str z a u t).at _ _⟩) rs hl).2
  exact tuple_index (hit := hitS (.str a t)) ht.tup hs ((findIdx_hits (fun _ _ => rfl) rs hl).trans hj) (by have := F.uni; omega) fun t tk => k' _ _ (.int _ _)
/-- the octets of a number, the least first; and back -/
noncomputable def toLE : Nat → Int → List UInt8
  | 0, _ => []
  | n + 1, x => UInt8.ofNat (x % 256).toNat :: toLE n (x / 256)
noncomputable def fromLE (l : List UInt8) : Int := l.foldr (fun b r => b.toNat + 256 * r) 0
theorem toLE_map (n : Nat) (x : Int) : (toLE n x).map (fun c => ((c.toNat : Nat) : Int)) = KTBy.little n x := by
  induction n generalizing x with
  | zero => rfl
  | succ n ih =>
    show (((UInt8.ofNat (x % 256).toNat).toNat : Nat) : Int) :: List.map (fun c => ((c.toNat : Nat) : Int)) (toLE n (x / 256)) = x % 256 :: KTBy.little n (x / 256)
    rw [ih, UInt8.toNat_ofNat', show (((x % 256).toNat % 2 ^ 8 : Nat) : Int) = x % 256 by omega]
theorem bytes_ext {a b : List UInt8} (h : a.map (fun c => ((c.toNat : Nat) : Int)) = b.map (fun c => ((c.toNat : Nat) : Int))) : a = b :=
  List.map_inj_right (fun x y q => UInt8.toNat_inj.mp (Int.ofNat_inj.mp q)) |>.mp h
theorem f_toBytes {n : Int} (h0 : 0 ≤ n) (h8 : n ≤ 8) (hx : 0 ≤ x) (hb : x < 256 ^ n.toNat) (h : Q (.bytes (toLE n.toNat x)) σ) : BltS (.builtin "int.to_bytes") [.int x, .int n, .str "little"] σ Q T := fun k w _ F iv r => by
  cases r with | cons r rs => cases rs with | cons r2 rs =>
  refine VRels.oneE rs fun X rx => VRel.strE rx fun t2 => VRel.intE r2 fun t1 => VRel.intE r fun t0 => Run.leaf iv h fun P E k' => ?_
  obtain ⟨n, rfl⟩ := Int.eq_ofNat_of_zero_le h0
  refine KTBy.to_little (k := n) (by omega) rfl hx hb fun b t' tk hb _ => k' _ _ ?_
  have e : b = (toLE n x).toArray := Array.ext' (bytes_ext (hb.trans (toLE_map n x).symm))
  rw [e]
  exact .bytes _ _
end
end Mine
end
section
namespace Mine

/-! names -/
section
variable {k : Kx} {w : Wd} {σ : St} {ρ : Loc} {env : Env} {x : Str} {A : Around} {s : Shared} {n : Nat} {T : St → Prop} {Q : MV → St → Prop} {p : Pos}
theorem plain_debug (h : plainName x = true) : (x == ("__debug__" : Str)) = false := by
  cases q : x == ("__debug__" : Str) with
  | false => rfl
  | true => unfold plainName at h; rw [q] at h; cases h
theorem plain_cd (h : plainName x = true) : (x == ("__classdict__" : Str)) = false := by
  cases q : x == ("__classdict__" : Str) with
  | false => rfl
  | true => unfold plainName at h; rw [q, Bool.not_true, Bool.and_false] at h; cases h
theorem load_global {M : Model} {E : Value → Shared → Prop} {Q : Value → Shared → Prop} (hk : env.scope.kind = .function) (hx : env.kindOf x = some .globalImplicit) (q : wpAny M A (loadGlobal env x) Q E s) : wpAny M A (loadName env x) Q E s := by
  unfold loadName
  simp only [Env.blockKind, hk, hx, ScopeKind.isAnnotationScope, Bool.false_and, Bool.false_eq_true, if_false]
  exact q
theorem load_mg {M : Model} {E : Value → Shared → Prop} {Q : Value → Shared → Prop} {V : Value} {mg : Str → Option Value} (f : EnvF env) (hx : env.kindOf x = some .globalImplicit) (hg : s.heap.Ns mainGlobals mg) (hv : mg x = some V) (q : Q V s) : wpAny M A (loadName env x) Q E s :=
  load_global f.kind hx (Calls.loadGlobal_global (by rw [f.glob]; exact hg) hv q)
theorem load_mb {M : Model} {E : Value → Shared → Prop} {Q : Value → Shared → Prop} {V : Value} {mg mb : Str → Option Value} (f : EnvF env) (hx : env.kindOf x = some .globalImplicit) (hg : s.heap.Ns mainGlobals mg) (hb : s.heap.Ns builtinsNs mb) (h0 : mg x = none) (hv : mb x = some V) (q : Q V s) : wpAny M A (loadName env x) Q E s :=
  load_global f.kind hx (Calls.loadGlobal_builtin (by rw [f.glob]; exact hg) h0 (by rw [f.bltn]; exact hb) hv q)
theorem e_name {v : MV} (e : ρ.at x (.v v)) (h : Q v σ) : EvS n ρ (.Name x p) σ Q T := fun k w env F iv er => by
  cases er with | mk f l r =>
  cases r x _ e with | v hk hm rv => exact Run.gives (β := Unit) iv rv h fun P E q => wpAny_Name (wpAny_loadName_local f.kind hk l.ns hm (q w.s.toks)) (plain_debug (Loc.plain e))
theorem cell_get {M : Model} {E : Value → Shared → Prop} {Q : Option Value → Shared → Prop} {a : Addr} {V : Value} (hm : env.cells.lookup x = some a) (hc : CellAt w a V) (h : Q (some V) w.s) : wpAny M A (cellOf env x >>= fun c => cellGet c) Q E w.s := by
  cases hc with | mk ho hd _ =>
  unfold cellOf
  rw [hm]
  refine wpAny_bind (wpAny_pure ?_)
  unfold cellGet
  refine wpAny_bind (wpAny_load ho ?_)
  rw [hd]
  exact wpAny_pure h
theorem e_cell {v : MV} (e : ρ.at x (.c v)) (h : Q v σ) : EvS n ρ (.Name x p) σ Q T := fun k w env F iv er => by
  cases er with | mk f l r =>
  cases r x _ e with | c hk hm hc rv =>
  refine Run.gives (β := Unit) iv rv h fun P E q => wpAny_Name ?_ (plain_debug (Loc.plain e))
  have go : ∀ g : Option Value → Sem Value, (g (some _) = pure _) → wpAny k.M k.A (cellOf env x >>= fun c => cellGet c >>= g) P E w.s := fun g eg => by
    rw [← bind_assoc]
    exact wpAny_bind (cell_get hm hc (by rw [eg]; exact wpAny_pure (q w.s.toks)))
  unfold loadName
  rcases hk with hk | hk
  · simp only [Env.blockKind, f.kind, hk, ScopeKind.isAnnotationScope, Bool.false_and, Bool.false_eq_true, if_false]
    exact go _ rfl
  · simp only [Env.blockKind, f.kind, hk, ScopeKind.isAnnotationScope, Bool.false_and, Bool.false_eq_true, if_false, plain_cd (Loc.plain e)]
    exact go _ rfl
theorem EnvR.gl (er : EnvR k.g w ρ env) (e : ρ.at x .gl) : env.kindOf x = some .globalImplicit := by
  cases er with | mk f l r =>
  cases r x _ e with | gl h => exact h
theorem e_glob {v : MV} (e : ρ.at x .gl) (hg : GC x = some v) (h : Q v σ) : EvS n ρ (.Name x p) σ Q T := fun k w env F iv er => by
  obtain ⟨V, hv, rv⟩ := F.top.consts hg
  exact Run.gives (β := Unit) iv (rv.kp iv.kp) h fun P E q => wpAny_Name (load_mg er.f (er.gl e) (iv.nsg F) hv (q w.s.toks)) (plain_debug (Loc.plain e))
end

/-! attributes -/
noncomputable def AttrS (n : Nat) (v : MV) (a : Str) (σ : St) (Q : MV → St → Prop) (T : St → Prop) : Prop :=
  ∀ (k : Kx) (w : Wd) (V : Value) (ex : Bool), Fit k n → Inv k w σ → VRel w v V → Run k none VRel w Q T (getAttr V a ex)
noncomputable def SetAttrS (v : MV) (a : Str) (x : MV) (σ : St) (Q : St → Prop) (T : St → Prop) : Prop :=
  ∀ (k : Kx) (w : Wd) (V X : Value), Fit k 0 → Inv k w σ → VRel w v V → VRel w x X → Run k none (fun _ (_ _ : Unit) => True) w (fun _ => Q) T (setAttr V a X)
/-- an object of the text's own, as it lies -/
structure Inst (k : Kx) (w : Wd) (p : Addr × Addr) (c : Str) (l : List (Str × MV)) (o od : Obj) (a : Addr) (es : List DictEntry) (n : Nat) : Prop where
  nm : ¬ Mut w.ι p.1
  at_ : k.g.C.at c = some a
  pl : o.data = .plain
  ii : InstAt w.h p.1 o a (some od)
  dd : o.dict = some p.2
  hd : w.h.get? p.2 = some od
  dc : od.cls = .type "dict"
  de : od.data = .dict es.toArray n
  rel : ERels w l es
@[elab_as_elim] theorem Inv.instE {k : Kx} {w : Wd} {σ : St} (iv : Inv k w σ) {P : Value → Prop} {i : Nat} {V : Value} {c : Str} {l : List (Str × MV)} (e : σ[i]? = some (.inst c l)) (r : VRel w (.ref i) V)
    (f : ∀ p o od a es n, w.ι[i]? = some p → Inst k w p c l o od a es n → P (.ref p.1)) : P V :=
  VRel.refE r fun p hp => by
    cases iv.get e hp with | inst h1 h2 h3 h4 h5 h6 h7 h8 h9 h10 =>
    exact f p _ _ _ _ _ hp ⟨h1, h3, h6, ⟨h2, h4, by unfold notCls; rw [h6], by rw [h5]; exact h7⟩, h5, h7, h8, h9, h10⟩
section
variable {k : Kx} {w : Wd} {σ : St} {n : Nat} {T : St → Prop} {Q : MV → St → Prop} {P : St → Prop} {i : Nat} {c a : Str} {l : List (Str × MV)} {m v : MV} {es : List DictEntry} {x : Str}
theorem ERels.find (r : ERels w l es) (x : Str) : (getK l x = none ∧ es.find? (·.key.isStr x) = none) ∨ ∃ m e, getK l x = some m ∧ es.find? (·.key.isStr x) = some e ∧ VRel w m e.val := by
  unfold getK
  induction r with
  | nil => exact .inl ⟨rfl, rfl⟩
  | @cons k t m l e es hk r _ ih =>
    have hs : e.key.isStr x = (k == x) := by rw [hk]; rfl
    by_cases h : k = x
    · rw [List.find?_cons_of_pos (by exact decide_eq_true h), List.find?_cons_of_pos (by rw [hs]; exact beq_iff_eq.mpr h)]
      exact .inr ⟨_, _, rfl, rfl, r⟩
    · rw [List.find?_cons_of_neg (by exact fun q => h (of_decide_eq_true q)), List.find?_cons_of_neg (by rw [hs]; exact fun q => h (beq_iff_eq.mp q))]
      exact ih
theorem ERels.nokey (r : ERels w l es) : es.any (·.refKey) = false := by
  induction r with
  | nil => rfl
  | cons hk _ _ ih => rw [List.any_cons, ih]; unfold DictEntry.refKey; rw [hk]; rfl
theorem ERels.get {od : Obj} {n : Nat} (hd : od.data = .dict es.toArray n) (r : ERels w l es) (h : getK l x = some m) : ∃ V, lookIn x od = some (some V) ∧ VRel w m V := by
  rcases r.find x with ⟨h', _⟩ | ⟨m', e, h', h2, r'⟩
  · rw [h] at h'; cases h'
  · refine ⟨e.val, ?_, Option.some.inj (h'.symm.trans h) ▸ r'⟩
    unfold lookIn
    rw [hd]
    dsimp only
    rw [h2]
theorem ERels.not {od : Obj} {n : Nat} (hd : od.data = .dict es.toArray n) (r : ERels w l es) (h : getK l x = none) : lookIn x od = some none := by
  rcases r.find x with ⟨_, h2⟩ | ⟨m', e, h', h2, r'⟩
  · unfold lookIn
    rw [hd]
    dsimp only
    rw [h2]
    exact if_neg (by rw [r.nokey]; exact Bool.false_ne_true)
  · rw [h] at h'; cases h'
theorem ERels.put {V : Value} {hash : Int} {t : Tok} (q : VRel w m V) (r : ERels w l es) :
    ERels w (putK l x m) (nsPutIn x.cps.size x.cps.toList (fun | some e => { e with val := V } | none => ⟨hash, .str x t, V⟩) es).1 := by
  induction r with
  | nil => exact .cons rfl q .nil
  | @cons k tk u l e es hk r rs ih =>
    have hs : e.key.isStrByCps x.cps.size x.cps.toList = (k == x) := by rw [Value.isStrByCps_eq, hk]; rfl
    unfold nsPutIn putK
    rw [hs]
    by_cases hx : k = x
    · subst hx
      rw [if_pos rfl, beq_self_eq_true, if_pos rfl]
      exact .cons (by exact hk) (by exact q) rs
    · rw [if_neg hx, beq_eq_false_iff_ne.mpr hx, if_neg Bool.false_ne_true]
      exact .cons hk r ih
theorem VRel.handed {V : Value} (r : VRel w m V) : handedIn V = true := by cases r <;> rfl
theorem at_field (e : σ[i]? = some (.inst c l)) (ha : isField a = true) (hx : getK l a = some m) (h : Q m σ) : AttrS n (.ref i) a σ Q T :=
  fun k w _ ex F iv r => Inv.instE iv e r fun p o od C es n hp I => by
    have ct := F.top.cls I.at_
    obtain ⟨cd, hcd, hhd⟩ := any_some ct.hd
    obtain ⟨U, hl, rv⟩ := I.rel.get I.de hx
    refine Run.gives (β := Unit) iv rv h fun P E q => get_value (iv.kin F) I.ii ct.ga ?_ rv.handed (q _)
    unfold findObj
    rw [hcd, ct.field _ ha]
    simp only [Option.bind_some]
    unfold W.ownOf
    rw [if_pos hhd]
    dsimp only
    rw [hl]
    rfl
theorem putK_len {α : Type} [DecidableEq α] (x : α) (m : MV) (l : List (α × MV)) : (putK l x m).length ≤ l.length + 1 := by
  induction l with
  | nil => exact Nat.le_refl _
  | cons p l ih =>
    obtain ⟨k, u⟩ := p
    unfold putK
    by_cases h : k = x
    · rw [if_pos h]; exact Nat.le_succ _
    · rw [if_neg h]; exact Nat.succ_le_succ ih
theorem sa_field (e : σ[i]? = some (.inst c l)) (ha : isField a = true) (hl : l.length < sz) (h : P (σ.set i (.inst c (putK l a v)))) : SetAttrS (.ref i) a v σ P T :=
  fun k w _ X F iv r rx => Inv.instE iv e r fun p o od C es n hp I => by
    have K := iv.kin F
    have ct := F.top.cls I.at_
    obtain ⟨cd, hcd, hhd⟩ := any_some ct.hd
    refine Run.any fun E => set_plain K I.ii ct.sa ?_
    refine osa_open (r := none) K I.ii ct.po (by unfold takerIn; rw [ct.field _ ha]; rfl) fun b => ?_
    obtain ⟨hnm, hC, hpl, ⟨hx, hcl, -, -⟩, hdd, hod, hdc, hde, re⟩ := I
    obtain ⟨oc, odi, oda, osl⟩ := o
    obtain rfl : oc = _ := hcl
    obtain rfl : odi = _ := hdd
    obtain rfl : oda = _ := hpl
    obtain ⟨odc, oddi, odda, odsl⟩ := od
    obtain rfl : odc = _ := hdc
    obtain rfl : odda = _ := hde
    refine wpAny_bind (wpAny_pure (wpAny_bind (wpAny_bind (wpAny_loadPart hx (wpAny_bind ((looks_clsIn K hcd) _ _ _ _ (fun _ _ e => e) ?_))))))
    rw [hhd]
    refine wpAny_pure (a := some p.2) (wpAny_bind (wpAny_pure (wpAny_bind ?_)))
    unfold nsSet
    refine wpAny_bind (wpAny_bind (wpAny_askSetting (wpAny_pure (wpAny_bind (wpAny_mkText (wpAny_bind (wpAny_loadPart hod ?_)))))))
    dsimp only
    rw [aRefKeyMayBeTheName_at, show es.toArray.any (·.refKey) = false by rw [List.any_toArray]; exact re.nokey, Bool.and_false]
    refine wpAny_updatePart hod ?_
    generalize (if a.cps.isEmpty = true then 0 else reduceHash (k.M.w.params.strHash a.cps)) = hash
    have hput := re.put (x := a) (hash := hash) (t := w.s.toks + 1) rx
    obtain ⟨n', eput⟩ : ∃ n', Obj.putName a hash (.str a (w.s.toks + 1)) X ⟨.type "dict", oddi, .dict es.toArray n, odsl⟩ = ⟨.type "dict", oddi, .dict (nsPutIn a.cps.size a.cps.toList (fun | some e => { e with val := X } | none => ⟨hash, .str a (w.s.toks + 1), X⟩) es).1.toArray n', odsl⟩ := by
      unfold Obj.putName
      dsimp only
      generalize nsPutIn a.cps.size a.cps.toList _ es = r
      obtain ⟨es', b'⟩ := r
      cases b' <;> exact ⟨_, rfl⟩
    have hg := (Heap.get?_update_self (Obj.putName a hash (.str a (w.s.toks + 1)) X) hod (by rw [eput]; rfl)).trans (congrArg some eput)
    refine wpAny_bind (wpAny_lookBehind hg (pastItsLine_dict (by
      rw [List.size_toArray, hput.len]
      exact Nat.le_trans (putK_len a v l) (Nat.le_trans hl (Nat.le_succ_of_le sz_line)))) ?_)
    have hsb : Heap.SameBut p.2 w.h (w.h.update p.2 (Obj.putName a hash (.str a (w.s.toks + 1)) X)) := Heap.SameBut.update ..
    have key := iv.set (tk := w.s.toks + 1 + 1) (o := .inst c (putK l a v)) hp hsb fun xx =>
      .inst hnm ((hsb.2 _ fun e' : p.1 = p.2 => hnm (e' ▸ ⟨p, List.mem_of_getElem? hp, rfl⟩)).trans hx) hC rfl rfl rfl hg rfl rfl (hput.kp xx.kp)
    exact wpAny_pure (.mk (v := ()) key trivial h)
end
end Mine
end
section
namespace Mine

/-! expressions -/
noncomputable def isStar : Expr → Bool
  | .Starred _ _ => true
  | _ => false
noncomputable def EvLS (n : Nat) (ρ : Loc) (es : List Expr) (σ : St) (Q : List MV → St → Prop) (T : St → Prop) : Prop :=
  ∀ (k : Kx) (w : Wd) (env : Env) (pos : Pos), Fit k n → Inv k w σ → EnvR k.g w ρ env → Run k none VRels w Q T (spliced (backTo pos (starEach es env)))
inductive CmpQ (op : CmpOp) (a b : MV) (σ : St) (B : Bool → St → Prop) : Prop
  | mk {r : Bool} : CmpS op a b σ r → B r σ → CmpQ op a b σ B
/-- what a value's truth leads to -/
inductive TrQ (B : Bool → St → Prop) (σ : St) : MV → Prop
  | bool {b : Bool} : B b σ → TrQ B σ (.bool b)
  | int {i : Int} : B (i != 0) σ → TrQ B σ (.int i)
/-- two ways on -/
structure Br (c : Bool) (A B : Prop) : Prop where
  t : c = true → A
  f : c = false → B
section
variable {k : Kx} {w : Wd} {σ : St} {ρ : Loc} {env : Env} {x : Str} {n : Nat} {T : St → Prop} {Q : MV → St → Prop} {B : Bool → St → Prop} {L : List MV → St → Prop} {p : Pos} {a b e t : Expr} {es : List Expr}
theorem e_int {i : Int} {u : Nat} (h : Q (.int i) σ) : EvS n ρ (.Constant (.int i) u p) σ Q T := fun k w env F iv er => Run.leaf iv h fun P E h => wpAny_Constant_int (h _ _ (.int _ _))
theorem e_str {s : Str} {u : Nat} (h : Q (.str s) σ) : EvS n ρ (.Constant (.str s) u p) σ Q T := fun k w env F iv er => Run.leaf iv h fun P E h => Calls.Constant_str (h _ _ (.str _ _))
theorem e_cb {b : Bool} {u : Nat} (h : Q (.bool b) σ) : EvS n ρ (.Constant (.bool b) u p) σ Q T := fun k w env F iv er => Run.leaf iv h fun P E h => wpAny_pure (h _ w.s.toks (.bool _))
theorem e_none {u : Nat} (h : Q .none σ) : EvS n ρ (.Constant .none u p) σ Q T := fun k w env F iv er => Run.leaf iv h fun P E h => wpAny_pure (h _ w.s.toks .none)
theorem e_bin {op : Operator} (h : EvS n ρ a σ (fun x σ => EvS n ρ b σ (fun y σ => BinS op x y σ Q T) T) T) : EvS n ρ (.BinOp a op b p) σ Q T := fun k w env F iv er => by
  rw [eval_BinOp]
  exact Run.bind (h k w env F iv er) fun v w1 V σ1 st rv h => Run.bind (Run.holding (h k w1 env F st.inv (er.ext st.ext))) fun v2 w2 V2 σ2 st2 rv2 h => Run.standAt (Run.operate (h k w2 _ _ st2.inv (rv.ext st2.ext) rv2))
theorem eval_UnaryOp (op : UnaryOp) (x : Expr) (p : Pos) (env : Env) : eval (.UnaryOp op x p) env = (do let v ← eval x env; standAt p; holding [v] (unaryOp op v)) := rfl
theorem e_neg (h : EvS n ρ e σ (fun v σ => ∃ i : Int, v = .int i ∧ Q (.int (-i)) σ) T) : EvS n ρ (.UnaryOp .USub e p) σ Q T := fun k w env F iv er => by
  rw [eval_UnaryOp]
  refine Run.bind (h k w env F iv er) fun v w1 V σ1 st rv ⟨i, e, h⟩ => Run.standAt (Run.holding ?_)
  subst e
  exact VRel.intE rv fun t => Run.leaf st.inv h fun P E h => neg_int (h _ _ (.int _ _))
theorem e_inv (h : EvS n ρ e σ (fun v σ => ∃ i : Int, v = .int i ∧ Q (.int (Builtin.bitNot i)) σ) T) : EvS n ρ (.UnaryOp .Invert e p) σ Q T := fun k w env F iv er => by
  rw [eval_UnaryOp]
  refine Run.bind (h k w env F iv er) fun v w1 V σ1 st rv ⟨i, e, h⟩ => Run.standAt (Run.holding ?_)
  subst e
  exact VRel.intE rv fun t => Run.leaf st.inv h fun P E h => invert_int (h _ _ (.int _ _))
theorem truthQ {v : MV} {V : Value} {A : Around} {s : Shared} {R : Bool → Shared → Prop} {E : Value → Shared → Prop} {g : Gx} (r : VRel w v V) (q : TrQ B σ v) (h : ∀ b, B b σ → R b s) : wpAny g.M A (truthy V) R E s := by
  cases q with
  | bool q => exact VRel.boolE r (wpAny_truthy_bool (h _ q))
  | int q => exact VRel.intE r fun t => PySem.P.truthy_int (h _ q)
theorem t_ev (he : isTrue e env (eval e env) = (do let v ← eval e env; standAt e.pos; holding [v] (truthy v))) (h : EvS n ρ e σ (fun v σ => TrQ B σ v) T) (F : Fit k n) (iv : Inv k w σ) (er : EnvR k.g w ρ env) : Run k none (fun _ => Eq) w B T (isTrue e env (eval e env)) := by
  rw [he]
  exact Run.bind (h k w env F iv er) fun v w1 V σ1 st rv q => Run.standAt (Run.holding (Run.any fun E => truthQ rv q fun b hb => .mk (w' := w1) (.refl st.inv) rfl hb))
theorem t_call {f : Expr} {as : List Expr} {kw : List Keyword} (h : EvS n ρ (.Call f as kw p) σ (fun v σ => TrQ B σ v) T) : TstS n ρ (.Call f as kw p) σ B T := fun k w env => t_ev rfl h
theorem t_attr {o : Expr} {a : Str} (h : EvS n ρ (.Attribute o a p) σ (fun v σ => TrQ B σ v) T) : TstS n ρ (.Attribute o a p) σ B T := fun k w env => t_ev rfl h
theorem t_not (h : TstS n ρ e σ (fun b σ => B (!b) σ) T) : TstS n ρ (.UnaryOp .Not e p) σ B T := fun k w env F iv er => by
  show Run k none _ w B T (isTrue e env (eval e env) >>= fun b => pure (!b))
  exact Run.bind (h k w env F iv er) fun b w1 b' σ1 st rb h => Run.pure st.inv (congrArg (!·) rb) h
/-! comparisons -/
theorem e_cmp {op : CmpOp} (hb : behindInMarks op b = false) (h : EvS n ρ a σ (fun v σ => EvS n ρ b σ (fun u σ => CmpQ op v u σ fun r σ => Q (.bool r) σ) T) T) : EvS n ρ (.Compare a [op] [b] p) σ Q T := fun k w env F iv er => by
  show Run k none VRel w Q T (eval a env >>= fun V => holding [V] (markedBehindIn op b (eval b env)) >>= fun rv => standAt p >>= fun _ => operate [V, rv] (compareOp op V rv))
  rw [markedBehindIn_of_false hb]
  exact Run.bind (h k w env F iv er) fun v w1 V σ1 st rv h => Run.bind (Run.holding (h k w1 env F st.inv (er.ext st.ext))) fun u w2 U σ2 st2 ru h => Run.standAt (Run.operate (match h with
    | .mk c q => Run.leaf st2.inv q fun P E h => c k w2 V U (F.le (Nat.zero_le n)) st2.inv (rv.ext st2.ext) ru P E fun tk => h _ tk (.bool _)))
theorem t_cmp {op : CmpOp} (hb : behindInMarks op b = false) (h : EvS n ρ a σ (fun v σ => EvS n ρ b σ (fun u σ => CmpQ op v u σ B) T) T) : TstS n ρ (.Compare a [op] [b] p) σ B T := fun k w env F iv er => by
  show Run k none (fun _ => Eq) w B T (eval a env >>= fun V => holding [V] (markedBehindIn op b (eval b env)) >>= fun rv => standAt p >>= fun _ => operate [V, rv] (compareOp op V rv) >>= fun c => holding [c] (truthy c))
  rw [markedBehindIn_of_false hb]
  exact Run.bind (h k w env F iv er) fun v w1 V σ1 st rv h => Run.bind (Run.holding (h k w1 env F st.inv (er.ext st.ext))) fun u w2 U σ2 st2 ru h => Run.standAt (match h with
    | .mk c q => Run.bind (Run.operate (Run.leaf (RL := fun _ (b : Bool) V => V = .bool b) st2.inv q fun P E h => c k w2 V U (F.le (Nat.zero_le n)) st2.inv (rv.ext st2.ext) ru P E fun tk => h _ tk rfl)) fun r w3 R σ3 st3 e q => by
      subst e
      exact Run.holding (Run.any fun E => wpAny_truthy_bool (.mk (.refl st3.inv) rfl q)))
/-- a ⋖ b ⋖ c -/
theorem e_cmp2 {c : Expr} {op op2 : CmpOp} (hc : behindInMarks op2 c = false) (h : EvS n ρ a σ (fun v σ => EvS n ρ b σ (fun u σ => CmpQ op v u σ fun r σ => Br r (EvS n ρ c σ (fun x σ => CmpQ op2 u x σ fun r σ => Q (.bool r) σ) T) (Q (.bool false) σ)) T) T) : EvS n ρ (.Compare a [op, op2] [b, c] p) σ Q T := fun k w env F iv er => by
  show Run k none VRel w Q T (eval a env >>= fun V => holding [V] (eval b env) >>= fun rv => standAt p >>= fun _ => holding [V, rv] (compareOp op V rv) >>= fun c' => release [V, rv] [c'] >>= fun _ => holding [c', rv] (truthy c') >>= fun t =>
    if t = true then (holding [rv] (markedBehindIn op2 c (eval c env)) >>= fun rv' => standAt p >>= fun _ => operate [rv, rv'] (compareOp op2 rv rv')) else pure c')
  rw [markedBehindIn_of_false hc]
  refine Run.bind (h k w env F iv er) fun v w1 V σ1 st rv h => Run.bind (Run.holding (h k w1 env F st.inv (er.ext st.ext))) fun u w2 U σ2 st2 ru h => Run.standAt ?_
  cases h with | @mk r c0 q =>
  have F0 := F.le (Nat.zero_le n)
  refine Run.bind (Run.holding (Run.leaf (RL := fun _ (b : Bool) V => V = .bool b) (Q := fun r σ => Br r (EvS n ρ c σ (fun x σ => CmpQ op2 u x σ fun r σ => Q (MV.bool r) σ) T) (Q (MV.bool false) σ)) st2.inv q fun P E h => c0 k w2 V U F0 st2.inv (rv.ext st2.ext) ru P E fun tk => h _ tk rfl)) fun r' w3 R σ3 st3 e q => ?_
  subst e
  refine Run.pre (wpC_release ⟨rfl, Run.pre (wpC_holding (wpC_of (wpAny_truthy_bool ⟨rfl, ?_⟩)))⟩)
  cases r' with
  | false => exact Run.pure st3.inv (.bool _) (q.f rfl)
  | true => exact Run.bind (Run.holding (q.t rfl k w3 env F st3.inv ((er.ext st.ext).ext st2.ext |>.ext st3.ext))) fun x w4 X σ4 st4 rx h => Run.standAt (Run.operate (match h with
    | .mk c q => Run.leaf st4.inv q fun P E h => c k w4 U X F0 st4.inv ((ru.ext st3.ext).ext st4.ext) rx P E fun tk => h _ tk (.bool _)))
/-! and, or -/
theorem bool_two {op : BoolOp} (h : EvS n ρ a σ (fun v σ => TrQ (fun t σ => Br (match op with | .And => t | .Or => !t) (EvS n ρ b σ Q T) (Q v σ)) σ v) T) : EvS n ρ (.BoolOp op [a, b] p) σ Q T := fun k w env F iv er => by
  show Run k none VRel w Q T (eval a env >>= fun v => standAt p >>= fun _ => holding [v] (truthy v) >>= fun t => (match (generalizing := false) op, t with
      | .And, false | .Or, true => pure v
      | _, _ => eval b env : Sem Value))
  refine Run.bind (h k w env F iv er) fun v w1 V σ1 st rv h => Run.standAt (Run.pre (wpC_holding (wpC_of (truthQ rv h fun t q => ⟨rfl, ?_⟩))))
  cases op <;> cases t <;> first | exact q.t rfl k w1 env F st.inv (er.ext st.ext) | exact Run.pure st.inv rv (q.f rfl)
noncomputable def AllS (n : Nat) (ρ : Loc) (op : BoolOp) (es : List Expr) (σ : St) (B : Bool → St → Prop) (T : St → Prop) : Prop :=
  ∀ (k : Kx) (w : Wd) (env : Env), Fit k n → Inv k w σ → EnvR k.g w ρ env → Run k none (fun _ => Eq) w B T (allTrue op es env)
theorem t_boolop {op : BoolOp} (h : AllS n ρ op es σ B T) : TstS n ρ (.BoolOp op es p) σ B T := h
theorem all_nil {op : BoolOp} (h : B (match op with | .And => true | .Or => false) σ) : AllS n ρ op [] σ B T := fun k w env F iv er => by cases op <;> exact Run.pure iv rfl h
theorem all_cons {op : BoolOp} (h : TstS n ρ e σ (fun t σ => Br (match op with | .And => t | .Or => !t) (AllS n ρ op es σ B T) (B t σ)) T) : AllS n ρ op (e :: es) σ B T := fun k w env F iv er => by
  show Run k none _ w B T (isTrue e env (eval e env) >>= fun b => (match (generalizing := false) op, b with
      | .And, false => pure false
      | .Or, true => pure true
      | _, _ => allTrue op es env : Sem Bool))
  refine Run.bind (h k w env F iv er) fun t w1 t' σ1 st rb q => ?_
  subst rb
  cases op <;> cases t <;> first | exact q.t rfl k w1 env F st.inv (er.ext st.ext) | exact Run.pure st.inv rfl (q.f rfl)
theorem e_if (h : TstS n ρ t σ (fun c σ => Br c (EvS n ρ a σ Q T) (EvS n ρ b σ Q T)) T) : EvS n ρ (.IfExp t a b p) σ Q T := fun k w env F iv er => by
  rw [arm_eval_IfExp]
  refine Run.bind (h k w env F iv er) fun c w1 c' σ1 st rc q => ?_
  subst rc
  cases c with
  | true => exact q.t rfl k w1 env F st.inv (er.ext st.ext)
  | false => exact q.f rfl k w1 env F st.inv (er.ext st.ext)
/-! several -/
theorem starEach_cons (h : isStar e = false) : starEach (e :: es) env = (false, eval e env) :: starEach es env := by cases e <;> first | rfl | cases h
theorem l_nil (h : L [] σ) : EvLS n ρ [] σ L T := fun k w env pos F iv er => Run.pure iv .nil h
theorem l_cons (hs : isStar e = false) (h : EvS n ρ e σ (fun v σ => EvLS n ρ es σ (fun vs σ => L (v :: vs) σ) T) T) : EvLS n ρ (e :: es) σ L T := fun k w env pos F iv er => by
  rw [starEach_cons hs]
  show Run k none VRels w L T (eval e env >>= fun v => pure [v] >>= fun here => (holding here (spliced (backTo pos (starEach es env))) >>= fun r => pure (here ++ r)))
  exact Run.bind (h k w env F iv er) fun v w1 V σ1 st rv h => Run.pre (wpC_pure ⟨rfl, Run.bind (Run.holding (h k w1 env pos F st.inv (er.ext st.ext))) fun vs w2 Vs σ2 st2 rs h => Run.pure st2.inv (.cons (rv.ext st2.ext) rs) h⟩)
theorem newList_run {vs : List MV} {Vs : List Value} (iv : Inv k w σ) (r : VRels w vs Vs) (hz : vs.length ≤ sz) (h : Q (.ref σ.length) (σ ++ [.list vs])) : Run k none VRel w Q T (newList Vs) :=
  Run.made iv h fun P E k' => wpAny_newObj_type (k' _ _ w.s.toks (push_keeps _) (push_le _) (Nat.le_refl _) fun x => .list rfl (.mk (Heap.get?_push_size _ rfl) rfl rfl rfl) (r.ext x)) (by show Vs.length ≤ sizeLine; rw [r.len]; exact Nat.le_trans hz sz_line)
theorem newTuple_run {vs : List MV} {Vs : List Value} (iv : Inv k w σ) (r : VRels w vs Vs) (hz : vs.length ≤ sz) (h : Q (.tup vs) σ) : Run k none VRel w Q T (newTuple Vs) :=
  Run.grown iv h fun P E k' => wpAny_newObj_type (k' _ _ w.s.toks (push_keeps _) (push_le _) fun x => newTup iv r x (Nat.le_refl _) rfl (Heap.get?_push_size _ rfl) rfl rfl rfl) (by show Vs.length ≤ sizeLine; rw [r.len]; exact Nat.le_trans hz sz_line)
theorem e_list (h : EvLS n ρ es σ (fun vs σ => vs.length ≤ sz ∧ Q (.ref σ.length) (σ ++ [.list vs])) T) : EvS n ρ (.List es p) σ Q T := fun k w env F iv er => by
  rw [arm_eval_List]
  exact Run.standAt (Run.bind (h k w env _ F iv er) fun vs w1 Vs σ1 st rs h => newList_run st.inv rs h.1 h.2)
theorem e_tup {u : Nat} (h : EvLS n ρ es σ (fun vs σ => vs.length ≤ sz ∧ Q (.tup vs) σ) T) : EvS n ρ (.Tuple es u p) σ Q T := fun k w env F iv er => by
  rw [arm_eval_Tuple]
  exact Run.standAt (Run.bind (h k w env _ F iv er) fun vs w1 Vs σ1 st rs h => newTuple_run st.inv rs h.1 h.2)
/-! brackets -/
theorem subscripted_any {sl : Expr} {o i : Value} : ∃ ops, subscripted sl false o i = operate ops (getItem o i) := by
  unfold subscripted
  split
  · exact ⟨_, rfl⟩
  · rename_i h
    cases h
  · exact ⟨_, rfl⟩
theorem brackets {v : MV} {V I : Value} {sl base : Expr} (iv : Inv k w σ) (r : VRel w v V) (hc : ContS v σ) (h : Run k none VRel w Q T (getItem V I)) :
    Run k none VRel w Q T (do standAt p; let r ← subscripted sl (← getitemInPython V) V I; letTemporaryGo base V r; pure r) := by
  refine Run.standAt (Run.pre (wpC_of (hc k w V iv r _ _ ⟨rfl, ?_⟩)))
  obtain ⟨ops, e⟩ := subscripted_any (sl := sl) (o := V) (i := I)
  rw [e]
  exact wpC_bind (wpC_operate (wpC_mono h (fun U s' q => wpC_bindA (wpAny_letTemporaryGo (wpC_pure q))) fun _ _ z => z))
theorem e_sub {o i : Expr} (h : EvS n ρ o σ (fun v σ => EvS n ρ i σ (fun x σ => ItemS v x σ Q T) T) T) : EvS n ρ (.Subscript o i p) σ Q T := fun k w env F iv er => by
  rw [arm_eval_Subscript]
  exact Run.bind (h k w env F iv er) fun v w1 V σ1 st rv h => Run.bind (Run.holding (h k w1 env F st.inv (er.ext st.ext))) fun x w2 X σ2 st2 rx h => brackets st2.inv (rv.ext st2.ext) h.co (h.run k w2 _ _ st2.inv (rv.ext st2.ext) rx)
noncomputable def OptS (n : Nat) (ρ : Loc) (e : Option Expr) (σ : St) (O : Option MV → St → Prop) (T : St → Prop) : Prop :=
  ∀ (k : Kx) (w : Wd) (env : Env), Fit k n → Inv k w σ → EnvR k.g w ρ env → Run k none OptR w O T (valueOrNone (evalOpt e env))
theorem o_none {O : Option MV → St → Prop} (h : O none σ) : OptS n ρ none σ O T := fun k w env F iv er => Run.pure iv .no h
theorem o_some {O : Option MV → St → Prop} (h : EvS n ρ e σ (fun v σ => O (some v) σ) T) : OptS n ρ (some e) σ O T := fun k w env F iv er =>
  Run.of_eq (bind_pure (eval e env)).symm (Run.bind (h k w env F iv er) fun v w1 V σ1 st rv h => Run.pure st.inv (.some rv) h)
theorem OptR.ext {L : Option Addr} {w' : Wd} {m : Option MV} {V : Value} (x : Ext k L w w') (r : OptR w m V) : OptR w' m V := match r with | .no => .no | .some r => .some (r.ext x)
theorem slice_new {α β : Type} {L' U S : Value} {f : Value → Sem β} {RL : Wd → α → β → Prop} {Q : α → St → Prop} (iv : Inv k w σ)
    (h : ∀ (sl : Addr) (w' : Wd), Step k none w σ w' → w'.h.IsSliceOf sl L' U S → Run k none RL w' Q T (f (.ref sl))) : Run k none RL w Q T (newFields "slice" [L', U, S] >>= f) := by
  refine wpC_bindA (wpAny_newObj_type ?_ (by show (3 : Nat) ≤ _; rw [sizeLine_eq]; decide))
  have st := iv.grow (tk := w.s.toks) (push_keeps { cls := .type "slice", data := .fields (List.toArray [L', U, S]) }) (push_le _)
  exact (h _ _ st (Heap.IsSliceOf.new _ _ _ _)).from st
theorem Run.holdBind {α β γ : Type} {RL : Wd → α → γ → Prop} {Q : α → St → Prop} {m : Sem β} {f : β → Sem γ} {vs : List Value} (h : Run k none RL w Q T (m >>= f)) : Run k none RL w Q T (PySem.holding vs m >>= f) := fun Γ p hΓ hc => by
  have := h Γ p hΓ hc
  rw [Sem.wp_bind'] at this ⊢
  rw [Sem.wp_holding]
  exact this
theorem e_slice {o : Expr} {a b c : Option Expr} {sp : Pos} (h : EvS n ρ o σ (fun v σ => OptS n ρ a σ (fun a σ => OptS n ρ b σ (fun b σ => OptS n ρ c σ (fun c σ => SliceS v a b c σ Q T) T) T) T) T) : EvS n ρ (.Subscript o (.Slice a b c sp) p) σ Q T := fun k w env F iv er => by
  rw [arm_eval_Subscript, arm_eval_Slice]
  refine Run.bind (h k w env F iv er) fun v w1 V σ1 st rv h => Run.holdBind ?_
  simp only [bind_assoc]
  have er := er.ext st.ext
  refine Run.bind (h k w1 env F st.inv er) fun a1 w2 L' σ2 st2 ra h => ?_
  have er := er.ext st2.ext
  refine Run.bind (Run.holding (h k w2 env F st2.inv er)) fun b1 w3 U σ3 st3 rb h => ?_
  refine Run.bind (Run.holding (h k w3 env F st3.inv (er.ext st3.ext))) fun c1 w4 S σ4 st4 rc h => slice_new st4.inv fun sl w5 st5 hsl => ?_
  have x := st4.ext.trans st5.ext
  have rv := (rv.ext st2.ext).ext (st3.ext.trans x)
  exact brackets st5.inv rv h.co (h.run k w5 _ _ _ _ sl st5.inv rv (ra.ext (st3.ext.trans x)) (rb.ext x) (rc.ext st5.ext) hsl)
end
end Mine
end
section
namespace Mine

/-! calls, in the model's own terms -/
noncomputable def plainBase : Expr → Bool
  | .Call _ [] [] _ => false
  | _ => true
section
variable {prog : Program} {w : World} {M : Model} {A : Around} {E : Value → Shared → Prop} {s : Shared}
theorem backTo_any {pos : Pos} : ∀ {args : List (Bool × Sem Value)}, args.any (·.1) = false → (backTo pos args).any (·.1) = false
  | [], _ => rfl
  | (b, t) :: r, h => by
    rw [List.any_cons, Bool.or_eq_false_iff] at h
    show (b || (backTo pos r).any (·.1)) = false
    rw [show b = false from h.1, backTo_any h.2]; rfl
theorem evalArgsC {f : Value} {args : List (Bool × Sem Value)} {Q : Args → Shared → Prop} (hp : args.any (·.1) = false) (h : wpC M A (spliced args) (fun vs s₁ => Q ⟨vs, []⟩ s₁) E s) : wpC M A (evalArgs f true args []) Q E s := by
  have key : wpC M A (spliced args >>= fun vs => holding (vs ++ (none : Option Value).toList) (pure ⟨vs, []⟩ : Sem Args)) Q E s := wpC_bind (wpC_mono h (fun vs s₁ q => wpC_holding (wpC_pure q)) fun _ _ z => z)
  unfold evalArgs
  cases args with
  | nil => exact key
  | cons x r =>
    obtain ⟨b, t⟩ := x
    cases b with
    | true => cases hp
    | false => exact key
theorem callWithC {pos : Pos} {f : Value} {first : List Value} {args : List (Bool × Sem Value)} {Q : Value → Shared → Prop} (hp : args.any (·.1) = false)
    (h : wpC M A (spliced args) (fun vs s₁ => (∀ (Q : Keeper → Shared → Prop) (E : Value → Shared → Prop), (∀ k, k = .frame ∨ k = .machine → Q k s₁) → wpAny M A (keeperOf f) Q E s₁) ∧ wpC M A (call f (first ++ vs)) Q E s₁) E s) :
    wpC M A (callWith pos f first args []) Q E s := by
  unfold callWith
  refine wpC_bind (wpC_holding (evalArgsC hp (wpC_mono h (fun vs s₁ q => ?_) fun _ _ z => z)))
  refine wpC_bind (wpC_standAt ?_)
  have hst : (args.any (·.1) || ([] : List (Option Str × Sem Value)).any (·.1.isNone)) = false := by rw [hp]; rfl
  rw [hst]
  refine wpC_bind ?_
  refine wpC_of (q.1 _ _ fun k hk => ?_)
  have tail : ∀ {t : Sem Value}, wpC M A t Q E s₁ → wpC M A (t >>= fun r => holding [r] point >>= fun _ => pure r) Q E s₁ :=
    fun ht => wpC_bind (wpC_mono ht (fun r s₂ hr => wpC_bind (wpC_holding (wpC_point (wpC_pure hr)))) fun _ _ x => x)
  rcases hk with rfl | rfl
  · dsimp only
    split
    · exact tail q.2
    · exact tail (by unfold callMarked; exact wpC_keep q.2)
  · exact tail q.2
theorem keeper_builtin {id : String} {Q : Keeper → Shared → Prop} (h : ∀ k, k = .frame ∨ k = .machine → Q k s) : wpAny M A (keeperOf (.builtin id)) Q E s := wpAny_pure (h _ (.inr rfl))
theorem keeper_type {T : String} {Q : Keeper → Shared → Prop} (h : ∀ k, k = .frame ∨ k = .machine → Q k s) : wpAny M A (keeperOf (.type T)) Q E s := wpAny_pure (h _ (.inr rfl))
theorem keeper_func {a : Addr} {o : Obj} {fd : FuncData} {Q : Keeper → Shared → Prop} (ho : s.heap.get? a = some o) (hd : o.data = .func fd) (h : ∀ k, k = .frame ∨ k = .machine → Q k s) : wpAny M A (keeperOf (.ref a)) Q E s := by
  unfold keeperOf
  refine wpAny_bind (wpAny_load ho ?_)
  rw [hd]
  exact wpAny_pure (h _ (.inl rfl))
theorem keeper_cls {C : Addr} {Q : Keeper → Shared → Prop} (m : Makes M s.heap C) (h : ∀ k, k = .frame ∨ k = .machine → Q k s) : wpAny M A (keeperOf (.ref C)) Q E s := by
  obtain ⟨oc, od, cd, sl, ho, _⟩ := m.obj
  unfold keeperOf
  refine wpAny_bind (wpAny_load ho ?_)
  dsimp only
  refine wpAny_bind (m.call.here ?_)
  rw [if_pos (by decide +kernel)]
  exact wpAny_pure (h _ (.inr rfl))
theorem keeper_bound {x : Addr} {Q : Keeper → Shared → Prop} (ho : KFB.StandsAt x s.heap) (h : ∀ k, k = .frame ∨ k = .machine → Q k s) : wpAny M A (keeperOf (.ref x)) Q E s := by
  unfold keeperOf
  refine wpAny_bind (wpAny_load ho ?_)
  simp only [KFB.bound, show (Value.type "builtin_function_or_method" != Value.type "method") = true by decide, show (Value.type "builtin_function_or_method" == Value.type "builtin_function_or_method" || Value.type "builtin_function_or_method" == Value.type "method-wrapper") = true by decide, if_true]
  exact wpAny_pure (h _ (.inr rfl))

theorem attributeBase_plain {o : Expr} {a : Str} {env : Env} {whole : Sem Value} (h : plainBase o = true) : attributeBase o a env whole = whole := by
  unfold attributeBase
  split
  · rename_i id p pos
    unfold plainBase at h
    cases h
  · rfl
end
theorem lookup_zip {α : Type} : ∀ {xs : List Str} {vs : List α}, xs.length ≤ vs.length → ∀ x ∈ xs, ((xs.zip vs).lookup x).isSome = true
  | [], _, _, x, h => nomatch h
  | y :: xs, [], hl, x, h => by simp at hl
  | y :: xs, v :: vs, hl, x, h => by
    rw [List.zip_cons_cons, List.lookup_cons]
    by_cases e : x = y
    · subst e; simp
    · rw [beq_eq_false_iff_ne.mpr e]
      exact lookup_zip (by simpa using hl) x ((List.mem_cons.mp h).resolve_left e)
theorem filterMap_zip {α : Type} : ∀ {xs : List Str} {vs : List α}, xs.length = vs.length → xs.Nodup → (xs.filterMap fun n => ((xs.zip vs).lookup n).map (n, ·)) = xs.zip vs
  | [], _, _, _ => rfl
  | y :: xs, [], hl, _ => by simp at hl
  | y :: xs, v :: vs, hl, nd => by
    rw [List.nodup_cons] at nd
    rw [List.zip_cons_cons, List.filterMap_cons]
    simp only [List.lookup_cons, beq_self_eq_true, Option.map_some]
    congr 1
    have ih := filterMap_zip (vs := vs) (by simpa using hl) nd.2
    refine Eq.trans ?_ ih
    have gen : ∀ (zs : List Str), (∀ n ∈ zs, n ≠ y) → (zs.filterMap fun n => (match n == y with | true => some v | false => (xs.zip vs).lookup n).map (n, ·)) = zs.filterMap fun n => ((xs.zip vs).lookup n).map (n, ·) := by
      intro zs
      induction zs with
      | nil => intro _; rfl
      | cons z zs ihz =>
        intro hz
        rw [List.filterMap_cons, List.filterMap_cons, beq_eq_false_iff_ne.mpr (hz z List.mem_cons_self), ihz fun n hn => hz n (List.mem_cons_of_mem _ hn)]
    exact gen xs fun n hn e => nd.1 (e ▸ hn)

theorem bind_simple {name qual : Str} {args : List Arg} {body : List Stmt} {scope : Scope} {kV doc pm cdv ct : Value} {an : Option Addr} {vals : List Value} (hl : vals.length = args.length) (nd : (args.map (·.arg)).Nodup) :
    bindArgs (fnOf name qual ⟨[], args, none, [], [], none, []⟩ body scope .none kV doc pm an cdv ct) ⟨vals, []⟩ = pure ((args.map (·.arg)).zip vals) := by
  unfold bindArgs
  have e1 : seqItems? (Value.none) = pure none := rfl
  simp only [List.map_nil, List.nil_append, List.length_map, List.forIn_nil, pure_bind, List.append_nil, e1, Option.getD_none, List.length_nil, Nat.sub_zero, List.drop_nil]
  have e2 : (decide (vals.length > args.length) && (none : Option Arg).isNone) = false := by simp; omega
  have e3 : ((args.map (·.arg)).take args.length).filter (fun n => (((args.map (·.arg)).zip vals).lookup n).isNone) = [] := by
    rw [List.filter_eq_nil_iff]
    intro n hn
    have := lookup_zip (vs := vals) (by simp; omega) n (List.mem_of_mem_take hn)
    simpa using this
  rw [if_neg (by rw [e2]; decide), if_neg (by rw [e3]; decide)]
  simp only [List.zip_nil_right, List.forIn_nil, pure_bind, List.isEmpty_nil, Bool.not_true, Bool.false_eq_true, if_false]
  rw [filterMap_zip (by simp; omega) nd]

section
variable {prog : Program} {w : World} {A : Around} {E : Value → Shared → Prop} {R : Result → Shared → Prop} {s : Shared}
theorem codeC_func {body : List Stmt} {env : Env}
    (h : wpC (model prog w) (A.deeper env) (execs body env) (fun f s' => R (.ok (.ret (match f with | .ret v => v | _ => .none))) s')
      (fun e s' => wpC (model prog w) (A.deeper env) (leaving env e) (fun _ s'' => R (.error e) s'') (fun e' s'' => R (.error e') s'') s') s) :
    codeC (model prog w) A (.func body env) R s := by
  refine codeC_of_tree rfl ?_
  show wpC _ (A.deeper env) (do point; match ← (execs body env).onRaise (leaving env) with | .ret v => ret v | _ => ret .none) _ _ s
  refine wpC_bind (wpC_point (wpC_bind (wpC_onRaise (wpC_mono h (fun f s' h' => ?_) fun _ _ h' => h'))))
  cases f <;> exact wpC_pure h'

theorem codeC_call {a : Addr} {o : Obj} {fd : FuncData} {body : List Stmt} {vals : List Value} {binds : List (Str × Value)}
    (hroom : A.depth < recursionLimit) (ho : s.heap.get? a = some o) (hdata : o.data = .func fd) (hlim : s.heap.NoLimit) (hcd : s.heap.CodeRec fd.code fd.qualname)
    (hbody : fd.body = .stmts body) (hbind : bindArgs fd ⟨vals, []⟩ = pure binds) (hclo : fd.closure = [])
    (hkind : ∀ x ∈ binds, fd.scope.names.lookup x.1 = some .local ∨ (fd.scope.names.lookup x.1 = some .cell ∧ ((cellsFrom (s.heap.objs.size + 1) fd.scope.names []).lookup x.1).isSome = true))
    (h : ∀ s₁, InCallC s (callEnvC fd s.heap.objs.size a).locals (PySem.bindL (callEnvC fd s.heap.objs.size a).kindOf binds fun _ => none) (callEnvC fd s.heap.objs.size a).cells
        (PySem.bindC (callEnvC fd s.heap.objs.size a).kindOf binds fun _ => none) s₁ → s.heap.objs.size ≤ s₁.heap.objs.size →
      wpC (model prog w) (A.deeper (callEnvC fd s.heap.objs.size a)) (execs body (callEnvC fd s.heap.objs.size a)) (fun f s' => R (.ok (.ret (match f with | .ret v => v | _ => .none))) s')
        (fun e s' => wpC (model prog w) (A.deeper (callEnvC fd s.heap.objs.size a)) (leaving (callEnvC fd s.heap.objs.size a) e) (fun _ s'' => R (.error e) s'') (fun e' s'' => R (.error e') s'') s') s₁)
    (hco : fd.scope.isCoroutine = false) (hgen : fd.scope.isGenerator = false) (hk : fd.scope.kind = .function) :
    codeC (model prog w) A (.call (.ref a) ⟨vals, []⟩) R s := by
  refine codeC_of_tree rfl ?_
  show wpC _ A.in1 (callAny (.ref a) ⟨vals, []⟩) _ _ s
  simp only [callAny]
  refine wpC_bindA (wpAny_load ho ?_)
  obtain ⟨c, oc, vs, tq, hc, hoc, hdc, hq⟩ := hcd
  simp only [hdata, callFunction, hco, hgen, hbody, hc]
  rw [hbind, hclo]
  refine wpC_bindA (m := field (.ref c) 1) (wpAny_field hoc hdc hq ?_)
  refine wpC_bindA (wpAny_pure ?_)
  refine wpC_bindA (wpAny_pure ?_)
  refine wpC_bindA (wpAny_size (wpAny_newFunctionEnv_cells hk hkind fun env he s' x hs => ?_))
  subst he
  refine wpC_bindA (wpAny_enterFrame (hlim.keeps x.toInCall.keep) hroom ?_)
  refine wpC_pure ⟨rfl, codeC_func ?_⟩
  have hh := h s' (by unfold callEnvC; rw [hc, hclo] at *; exact x) hs
  unfold callEnvC at hh
  rw [hc] at hh
  exact hh
end
section
variable {A : Around} {s : Shared}
theorem makeC {prog : Program} {w : World} {K : Frag} {rest : List Value} {fI C : Addr} {Q : Value → Shared → Prop} {E : Value → Shared → Prop} (X : K.In s.heap) (hm : makesIn K C = true) (hi : findIn K (.ref C) "__init__" = some (some (.ref fI))) (hf : typeIn K (.ref fI) = some (.type "function"))
    (h : wpC (model prog w) (A.under (.builtin "type.__call__" ⟨.ref C :: rest, []⟩)) (call (.ref fI) (.ref (s.heap.objs.size + 1) :: rest)) (fun v s' => v = .none ∧ Q (.ref (s.heap.objs.size + 1)) s') E { s with heap := (s.heap.push emptyDict).push (instObj C s.heap.objs.size) }) :
    wpC (model prog w) A (call (.ref C) rest) Q E s := by
  obtain ⟨hh, g, d, t, os⟩ := s
  have Y := makes_of (M := model prog w) X hm
  have Y' := Y
  obtain ⟨⟨oc, od, cd, sl, hC, e1, e2, e4⟩, made, base, self, top, cal, typ⟩ := Y
  have Li := looks_findIn (M := model prog w) X hi
  refine wpC_call (codeC_of_tree rfl ?_)
  show wpC _ _ (callAny (.ref C) _) _ _ _
  simp only [callAny]
  refine wpC_bindA (wpAny_load hC ?_)
  dsimp only
  show wpC _ _ (callAny.viaDunder (.ref C) _) _ _ _
  unfold callAny.viaDunder
  refine wpC_bindA (cal.at ?_)
  dsimp only
  rw [tc_bind]
  refine wpC_bindA (wpAny_pure ?_)
  refine wpC_bindA (wpAny_pure ?_)
  refine wpC_pure (a := Fin.again (.call (.builtin "type.__call__") ⟨.ref C :: rest, []⟩)) ⟨rfl, ?_⟩
  refine codeC_of_tree rfl ?_
  show wpC _ _ (do checkBuiltinCall "type.__call__" ⟨.ref C :: rest, []⟩; again (.builtin "type.__call__" ⟨.ref C :: rest, []⟩)) _ _ _
  refine wpC_bindA (check_slot tc_kind tc_split typ (tc_args _ _ _) ?_)
  refine wpC_pure ⟨Code.quiet_builtin _ (by decide +kernel), codeC_builtin entry_typeCall (by decide +kernel) ?_⟩
  unfold Builtin.«type.__call__»
  dsimp only
  have hmr : Looks (model prog w) hh (mroOf (.ref C)) cd.mro := ((Looks.ld (part := none) hC).andThen .now).andThen .now
  refine wpC_if_false rfl ?_
  refine wpC_bindA (hmr.at ?_)
  refine wpC_if_false e4 ?_
  refine wpC_bindA (made.at ?_)
  dsimp only
  refine wpC_bindA (wpAny_pure ?_)
  refine wpC_bindA (wpAny_holding (wpAny_call (codeAny_mono (new_K (R := fun r s' => r = .ok (.ret (.ref (hh.objs.size + 1))) ∧ s' = ⟨(hh.push emptyDict).push (instObj C hh.objs.size), g, d, t, os⟩) Y' Li (.inl rfl) ⟨rfl, rfl⟩) fun r s' z => ?_)))
  obtain ⟨rfl, rfl⟩ := z
  dsimp only
  have k : ∀ b o, hh.get? b = some o → ((hh.push emptyDict).push (instObj C hh.objs.size)).get? b = some o := fun b o e => Heap.get?_push_of_some _ (Heap.get?_push_of_some _ e)
  have hx : ((hh.push emptyDict).push (instObj C hh.objs.size)).get? (hh.objs.size + 1) = some (instObj C hh.objs.size) := by heap_get
  have t1 : Looks (model prog w) ((hh.push emptyDict).push (instObj C hh.objs.size)) (typeOf (.ref (hh.objs.size + 1))) (.ref C) := (Looks.ld hx).andThen .now
  have s1 := self.keeps k
  have i1 := Li.keeps k
  have b1 := (bind_fn (M := model prog w) X (.ref (hh.objs.size + 1)) hf).keeps k
  have L5 : Looks (model prog w) ((hh.push emptyDict).push (instObj C hh.objs.size)) (isInstance (.ref (hh.objs.size + 1)) (.ref C)) true := by
    unfold isInstance
    exact t1.andThen s1
  refine wpC_bindA (L5.at ?_)
  refine wpC_if_false rfl ?_
  unfold callSpecial? specialOf
  refine wpC_bind (wpC_holding (wpC_bindA (wpAny_bind (t1.at (i1.at ?_)))))
  dsimp only
  refine wpC_holding (wpC_bindA (b1.at ?_))
  refine wpC_bind (wpC_mono h (fun v s' z => ?_) fun _ _ z => z)
  obtain ⟨rfl, z⟩ := z
  refine wpC_pure ?_
  dsimp only
  refine wpC_if_false rfl ?_
  exact wpC_pure z
theorem fb_get {pl : Sem Bool} {K : Frag} {prog : Program} {w : World} {E : Value → Shared → Prop} {Q : Value × List Value → Shared → Prop} (X : K.In s.heap)
    (e : findCls K (.type "int") (.type "type") (PySem.Str.ofString "from_bytes") = some (.get (.builtin "classmethod_descriptor.__get__") (.builtin "int.from_bytes") .none (.type "int")))
    (h : Q (.ref s.heap.objs.size, []) { s with heap := s.heap.push KFB.bound, toks := s.toks + 1 }) :
    wpAny (model prog w) A (getMethod (.type "int") (PySem.Str.ofString "from_bytes") pl) Q E s := by
  have hstub : opaqueClassAbove (.type "int") = pure none := by unfold opaqueClassAbove; dsimp only; rw [show Manifest.isStub "int" = false by decide +kernel]; rfl
  have ht : typeOf (.type "int") = pure (.type "type") := by first | rfl | kernel_rfl
  have L0 : Looks (model prog w) s.heap (typeOf (.type "int")) (.type "type") := Looks.of_pure ht
  have hg : findIn K (.type "type") "__getattribute__" = some (some (.builtin "type.__getattribute__")) := type_tga
  unfold getMethod specialOf
  refine wpAny_bind (wpAny_bind (L0.here ((looks_findIn X hg).here ?_)))
  dsimp only
  rw [if_pos canon_tga]
  refine wpAny_bind (wpAny_mono (Q := fun v => Q (v, [])) (E := E) ?_ (fun _ _ z => wpAny_pure z) fun _ _ z => z)
  have LO : Looks (model prog w) s.heap (opaqueClassAbove (.type "int")) none := Looks.of_pure hstub
  refine cls_open X LO L0 hg (looks_hook X (r := none) (by rfl)) (by show subIn K _ _ = _; rfl) e ?_
  show wpAny _ _ (holding [.builtin "int.from_bytes"] (call (.builtin "classmethod_descriptor.__get__") [.builtin "int.from_bytes", .none, .type "int"]) >>= fun v => ret v) _ _ _
  exact wpAny_bind (wpAny_holding (wpAny_call_entry KFB.slot_get KFB.type_fb KFB.entry_get (KFB.run_get ⟨_, rfl, wpAny_pure (wpAny_pure h)⟩) (KFB.args_get _ _ _)))
end
end Mine
end
section
namespace Mine

/-! an exception leaves a frame -/
section
variable {k : Kx} {w : Wd} {σ : St} {M : Model} {E : Value → Shared → Prop} {g : Gx}
theorem FrAt.fun {env : Env} (f : FrAt g w env) : env.scope.kind ≠ .module ∧ ∃ L o, env.frame = some L ∧ g.h₀.get? L = none ∧ ¬ Mut w.ι L ∧ w.h.get? L = some o ∧ (∃ es n, o.data = .dict es n) ∧ ∀ vs, o.data ≠ .fields vs := by
  cases f with | mk a b c d e f => exact ⟨a, _, _, b, c, d, e, ⟨_, _, f⟩, fun vs q => by rw [f] at q; cases q⟩
theorem funFrames {base : Heap} {l : List Env} (f : ∀ env ∈ l, FrAt g w env) (hb : ∀ a ∈ framesOf l, base.get? a = none) : w.h.FunFrames base l := by
  induction l with
  | nil => trivial
  | cons env l ih =>
    obtain ⟨k, L, o, a, _, _, d, _, nf⟩ := (f env List.mem_cons_self).fun
    have hf : framesOf (env :: l) = L :: framesOf l := by unfold framesOf; rw [List.filterMap_cons, a]
    rw [hf] at hb
    exact ⟨k, ⟨L, o, a, hb L List.mem_cons_self, d, nf⟩, ih (fun x hx => f x (List.mem_cons_of_mem _ hx)) fun a ha => hb a (List.mem_cons_of_mem _ ha)⟩
theorem Inv.frame (iv : Inv k w σ) {a : Addr} (ha : a ∈ framesOf k.l) : ¬ Mut w.ι a ∧ k.g.h₀.get? a = none ∧ ∃ o, w.h.get? a = some o ∧ (∃ es n, o.data = .dict es n) ∧ ∀ vs, o.data ≠ .fields vs := by
  obtain ⟨env, he, hf⟩ := List.mem_filterMap.mp ha
  obtain ⟨_, L, o, a', b, c, d, e⟩ := (iv.fr env he).fun
  obtain rfl := Option.some.inj (hf.symm.trans a')
  exact ⟨c, b, o, d, e⟩
/-- the heap after an exception has left a frame -/
structure Gone (k : Kx) (hk : Heap) (w : Wd) (h' : Heap) (e : Addr) : Prop where
  size : w.h.objs.size ≤ h'.objs.size
  kept : ∀ b o, w.h.get? b = some o → hk.get? b ≠ none ∨ (∀ vs, o.data ≠ .fields vs) ∨ Mut w.ι b → (∃ sl, h'.get? b = some { o with slots := sl }) ∧ (b ∉ framesOf k.l → h'.get? b = some o)
  exc : ExcAt k.g hk ⟨w.ι, { w.s with heap := h' }⟩ e
theorem leaving_gone {env : Env} {L : Addr} {hk : Heap} {e : Addr} (iv : Inv k w σ) {l : List Env} (hl : k.l = env :: l) (hfr : k.A.frames = some k.l) (hf : env.frame = some L) (hx : ExcAt k.g hk w e) (hkk : ∀ b, w.h.get? b = none → ¬ Mut w.ι b → hk.get? b = none) {Q : Unit → Shared → Prop}
    (hQ : ∀ h', Gone k hk w h' e → Q () { w.s with heap := h' }) : wpAny M k.A (leaving env (.ref e)) Q E w.s := by
  have new0 : ∀ b, w.h.get? b = none → k.g.h₀.get? b = none := fun b hb => by
    cases q : k.g.h₀.get? b with
    | none => rfl
    | some o => rw [iv.keep _ _ q] at hb; cases hb
  have there : ∀ b, Mut w.ι b → w.h.get? b ≠ none := fun b ⟨p, hp, q⟩ hn => by
    obtain ⟨j, hj⟩ := mem_get hp
    obtain ⟨_, _, r⟩ := iv.at hj
    obtain ⟨_, _, e'⟩ := r.there
    rw [q, hn] at e'; cases e'
  cases hx with | @mk oe vs x1 x2 x3 x4 x5 x6 x7 =>
  have go : ∀ (hid : List Addr), e ∈ hid → (∀ a ∈ framesOf k.l, a ∈ hid) → (∀ a ∈ hid, a ∈ framesOf k.l ∨ (hk.get? a = none ∧ ¬ Mut w.ι a ∧ k.g.h₀.get? a = none ∧ ∃ o vs, w.h.get? a = some o ∧ o.data = .fields vs)) →
      (∀ (Q : Unit → Shared → Prop) (E : Value → Shared → Prop), (∀ h', Heap.Left (hideAll w.h hid) k.l e oe.cls w.h h' → Q () { w.s with heap := h' }) → wpAny M k.A (leaving env (.ref e)) Q E w.s) → wpAny M k.A (leaving env (.ref e)) Q E w.s := by
    intro hid he hfs hh hrule
    refine wpAny_size (hrule _ _ fun h' ⟨y1, y2, y3, y4⟩ hs => hQ h' ⟨hs, fun b o hb hor => ?_, ?_⟩)
    · by_cases hm : b ∈ hid
      · rcases hh b hm with q | ⟨q1, q2, q3, o', vs', q4, q5⟩
        · obtain ⟨_, _, o', ho', _, hnf⟩ := iv.frame q
          obtain rfl := Option.some.inj (hb.symm.trans ho')
          exact ⟨y4 b o hb hnf, fun n => absurd q n⟩
        · obtain rfl := Option.some.inj (hb.symm.trans q4)
          rcases hor with q | q | q
          · exact absurd q1 q
          · exact absurd q5 (q _)
          · exact absurd q q2
      · have := y1 b o (hideAll_get _ hb hm)
        exact ⟨⟨o.slots, this⟩, fun _ => this⟩
    · obtain ⟨oe', vs', T, oT, ts, z1, z2, z3, z4, z5, z6, z7, z8, z9⟩ := y3
      have hT : hk.get? T = none ∧ ¬ Mut w.ι T ∧ k.g.h₀.get? T = none := by
        cases hTh : w.h.get? T with
        | none =>
          have nm : ¬ Mut w.ι T := fun q => there _ q hTh
          exact ⟨hkk _ hTh nm, nm, new0 _ hTh⟩
        | some o =>
          by_cases hm : T ∈ hid
          · rcases hh T hm with q | ⟨q1, q2, q3, _⟩
            · exfalso
              obtain ⟨_, _, o', ho', _, hnf⟩ := iv.frame q
              obtain ⟨sl, e'⟩ := y4 T o' ho' hnf
              rw [e'] at z7
              cases z7
              exact hnf ts z8
            · exact ⟨q1, q2, q3⟩
          · have := hideAll_get _ hTh hm
            rw [z5] at this
            cases this
      exact .mk x1 x2 x3 z1 (z2.trans x5) z3 (.tb z4 hT.1 hT.2.1 hT.2.2 z6 z7 z8 z9)
  have he0 : ∀ a ∈ framesOf k.l, a ∈ framesOf k.l ∨ (hk.get? a = none ∧ ¬ Mut w.ι a ∧ k.g.h₀.get? a = none ∧ ∃ o vs, w.h.get? a = some o ∧ o.data = .fields vs) := fun a h => .inl h
  rw [hl] at hfr go he0
  have fr : ∀ env' ∈ env :: l, FrAt k.g w env' := hl ▸ iv.fr
  cases x7 with
  | no x7 =>
    refine go (e :: framesOf (env :: l)) List.mem_cons_self (fun a ha => List.mem_cons_of_mem _ ha) (List.forall_mem_cons.mpr ⟨.inr ⟨x1, x2, x3, oe, vs, x4, x6⟩, he0⟩) fun Q E hq => ?_
    exact wpAny_leaving_first hfr (funFrames fr fun a ha => hideAll_none _ (List.mem_cons_of_mem _ ha)) hf x4 (fun b o e => of_hideAll _ e) (hideAll_none _ List.mem_cons_self) x6 x7 hq
  | @tb T oT ts w1 w2 w3 w4 w5 w6 w7 w8 =>
    refine go (e :: T :: framesOf (env :: l)) List.mem_cons_self (fun a ha => List.mem_cons_of_mem _ (List.mem_cons_of_mem _ ha)) (List.forall_mem_cons.mpr ⟨.inr ⟨x1, x2, x3, oe, vs, x4, x6⟩, List.forall_mem_cons.mpr ⟨.inr ⟨w2, w3, w4, oT, ts, w6, w7⟩, he0⟩⟩) fun Q E hq => ?_
    exact wpAny_leaving_next hfr (funFrames fr fun a ha => hideAll_none _ (List.mem_cons_of_mem _ (List.mem_cons_of_mem _ ha))) hf ⟨oe, vs, T, oT, ts, x4, rfl, x6, w1, hideAll_none _ (List.mem_cons_of_mem _ List.mem_cons_self), w5, w6, w7, w8⟩ (fun b o e => of_hideAll _ e) (hideAll_none _ List.mem_cons_self) hq
theorem Gone.inv {hk h' : Heap} {e : Addr} (iv : Inv k w σ) (x : Gone k hk w h' e) (h0 : ∀ b o, k.g.h₀.get? b = some o → hk.get? b ≠ none) : Inv k ⟨w.ι, { w.s with heap := h' }⟩ σ := by
  have mt : ∀ {b o}, w.h.get? b = some o → Mut w.ι b → h'.get? b = some o := fun hb m => (x.kept _ _ hb (.inr (.inr m))).2 fun q => (iv.frame q).1 m
  have kp : Kp w ⟨w.ι, { w.s with heap := h' }⟩ := ⟨fun a o vs n h d m => ⟨m, (x.kept a o h (.inr (.inl fun vs q => by rw [d] at q; cases q))).1⟩, id⟩
  refine ⟨iv.len, iv.nd, iv.nd1, iv.top, Nat.le_trans iv.size x.size, fun {j o} ej => ?_, fun b o eb => ?_, fun env he => ?_⟩
  · obtain ⟨p, hp, r⟩ := iv.obj ej
    have hm : Mut w.ι p.2 := ⟨p, List.mem_of_getElem? hp, rfl⟩
    refine ⟨p, hp, r.to kp (fun ob hob => ?_) (fun ob hob => mt hob hm) id⟩
    have pl : p.1 = p.2 → h'.get? p.1 = some ob := fun e => mt hob (e ▸ hm)
    cases r with
    | inst n e1 e2 e3 e4 e5 =>
      obtain rfl := Option.some.inj (e1.symm.trans hob)
      refine (x.kept _ _ e1 (.inr (.inl fun vs q => by rw [e5] at q; cases q))).2 fun q => ?_
      obtain ⟨_, _, o2, ho2, ⟨es2, n2, hd2⟩, _⟩ := iv.frame q
      obtain rfl := Option.some.inj (e1.symm.trans ho2)
      rw [e5] at hd2
      cases hd2
    | list e => exact pl e
    | sdict e => exact pl e
    | idict e => exact pl e
    | ba e => exact pl e
  · refine (x.kept _ _ (iv.keep _ _ eb) (.inl (h0 _ _ eb))).2 fun q => ?_
    have := (iv.frame q).2.1
    rw [eb] at this
    cases this
  · cases iv.fr env he with | mk a b c d e f =>
    obtain ⟨⟨sl, e'⟩, _⟩ := x.kept _ _ e (.inr (.inl fun vs q => by rw [f] at q; cases q))
    exact .mk a b c d e' f
end

/-! a call's names -/
noncomputable def kindNm : NameKind → Option MV → Nm
  | .globalImplicit, _ => .gl
  | .local, some v => .v v
  | .local, none => .lo
  | .cell, some v => .c v
  | .cell, none => .ce
  | _, _ => .un
noncomputable def bindW (names : List (Str × NameKind)) (bs : List (Str × MV)) : List Nm := names.map fun q => kindNm q.2 (bs.lookup q.1)
theorem bindW_at {names : List (Str × NameKind)} {bs : List (Str × MV)} {x : Str} {u : Nm} (h : AtL (names.map (·.1)) (bindW names bs) x u) (nd : (names.map (·.1)).Nodup) : ∃ kd, names.lookup x = some kd ∧ u = kindNm kd (bs.lookup x) := by
  induction names with
  | nil => cases h
  | cons q r ih =>
    obtain ⟨y, kd⟩ := q
    cases h with
    | hd => exact ⟨kd, by rw [List.lookup_cons, beq_self_eq_true], rfl⟩
    | tl h =>
      obtain ⟨kd', h1, h2⟩ := ih h (List.nodup_cons.mp nd).2
      exact ⟨kd', by rw [List.lookup_cons, beq_eq_false_iff_ne.mpr fun (e : x = y) => (List.nodup_cons.mp nd).1 ((show x = y from e) ▸ h.mem)]; exact h1, h2⟩
theorem bindL_no {kindOf : Str → Option NameKind} {x : Str} {bs : List (Str × Value)} {m : Str → Option Value} (h : x ∉ bs.map (·.1)) : PySem.bindL kindOf bs m x = m x ∧ PySem.bindC kindOf bs m x = m x := by
  induction bs generalizing m with
  | nil => exact ⟨rfl, rfl⟩
  | cons q r ih =>
    obtain ⟨y, v⟩ := q
    rw [List.map_cons, List.mem_cons, not_or] at h
    unfold PySem.bindL PySem.bindC
    by_cases c : kindOf y = some .local
    · rw [if_pos c, if_pos c]; exact ⟨(ih h.2).1.trans (if_neg h.1), (ih h.2).2⟩
    · rw [if_neg c, if_neg c]; exact ⟨(ih h.2).1, (ih h.2).2.trans (if_neg h.1)⟩
theorem bind_at {w : Wd} {kindOf : Str → Option NameKind} {x : Str} {v : MV} {xs : List Str} {vs : List MV} {Vs : List Value} (r : VRels w vs Vs) (nd : xs.Nodup) {m cm : Str → Option Value} (h : (xs.zip vs).lookup x = some v) :
    ∃ V, VRel w v V ∧ (kindOf x = some .local → PySem.bindL kindOf (xs.zip Vs) m x = some V) ∧ (kindOf x ≠ some .local → PySem.bindC kindOf (xs.zip Vs) cm x = some V) := by
  induction xs generalizing vs Vs m cm with
  | nil => cases h
  | cons y xs ih =>
    cases r with
    | nil => cases h
    | @cons u vs U Vs r rs =>
      rw [List.nodup_cons] at nd
      rw [List.zip_cons_cons, List.lookup_cons] at h
      rw [List.zip_cons_cons]
      unfold PySem.bindL PySem.bindC
      by_cases e : x = y
      · subst e
        rw [beq_self_eq_true] at h
        cases h
        have nx : x ∉ (xs.zip Vs).map (·.1) := fun q => by
          obtain ⟨p, hp, e⟩ := List.mem_map.mp q
          exact nd.1 (e ▸ (List.of_mem_zip hp).1)
        exact ⟨U, r, fun c => by rw [if_pos c]; exact (bindL_no nx).1.trans (if_pos rfl), fun c => by rw [if_neg c]; exact (bindL_no nx).2.trans (if_pos rfl)⟩
      · rw [beq_eq_false_iff_ne.mpr e] at h
        exact ih rs nd.2 h
theorem cells_lookup {x : Str} {names : List (Str × NameKind)} {n : Nat} {acc : List (Str × Addr)} (h : names.lookup x = some .cell ∨ (acc.lookup x).isSome = true) : ((cellsFrom n names acc).lookup x).isSome = true := by
  induction names generalizing n acc with
  | nil => exact h.elim nofun id
  | cons q r ih =>
    obtain ⟨y, kd⟩ := q
    unfold cellsFrom
    rw [List.lookup_cons] at h
    by_cases hk : (kd == .cell) = true
    · rw [if_pos hk]
      refine ih ?_
      rw [List.lookup_cons]
      by_cases e : x = y
      · right; rw [beq_iff_eq.mpr e]; rfl
      · rw [beq_eq_false_iff_ne.mpr e] at h ⊢; exact h
    · rw [if_neg hk]
      refine ih ?_
      by_cases e : x = y
      · rw [beq_iff_eq.mpr e] at h
        exact .inr (h.resolve_left fun q => hk (beq_iff_eq.mpr (Option.some.inj q)))
      · rw [beq_eq_false_iff_ne.mpr e] at h; exact h

/-! a call -/
section
variable {k : Kx} {w : Wd} {σ : St} {n : Nat} {T : St → Prop} {Q : MV → St → Prop}
theorem Inv.fresh0 (iv : Inv k w σ) {a : Addr} (e : w.h.get? a = none) : ¬ Mut w.ι a ∧ k.g.h₀.get? a = none := by
  refine ⟨fun ⟨p, hp, q⟩ => ?_, ?_⟩
  · obtain ⟨j, hj⟩ := mem_get hp
    obtain ⟨_, _, r⟩ := iv.at hj
    obtain ⟨_, _, e'⟩ := r.there
    rw [q, e] at e'; cases e'
  · cases q : k.g.h₀.get? a with
    | none => rfl
    | some o => rw [iv.keep _ _ q] at e; cases e
noncomputable def Kx.deep (k : Kx) (env : Env) : Kx := ⟨k.g, k.A.deeper env, env :: k.l⟩
theorem Fit.deep {env : Env} (f : Fit k (n + 1)) : Fit (k.deep env) n :=
  ⟨f.hand, by show k.A.frames.map _ = _; rw [f.frs]; rfl, by have := f.dep; show k.A.depth + 1 + 4 * n + 8 < _; omega, by have := f.uni; show k.A.units + 3 + 20 * n + 40 < _; omega, f.top⟩
/-- a call's end -/
noncomputable def retQ (Q : MV → St → Prop) : Fl × Loc → St → Prop := fun f σ => match f.1 with
  | .next => Q .none σ
  | .ret v => Q v σ
theorem sat_call {c f : Str} {d : FnRec} (hf : FT c f = some d) (S : Sc) (hS : S.ns = d.scope.names.map (·.1)) {vs : List MV} {ws : List Nm} (hl : d.params.length = vs.length) (hw : bindW d.scope.names (d.params.zip vs) = ws)
    (h : ExLS n ⟨S, ws⟩ d.body σ (retQ Q) T) : CalS (n + 1) c f vs σ Q T := fun k w a d' Vs hf' hp hfo F iv rv => by
  obtain rfl := Option.some.inj (hf.symm.trans hf')
  cases hfo with | @mk oc od sl name qual args kV doc pm an cdv ct hK hcd hargs _ =>
  unfold plainDef at hp
  simp only [Bool.and_eq_true, beq_iff_eq, Bool.not_eq_true', decide_eq_true_eq, List.all_eq_true, Bool.or_eq_true] at hp
  obtain ⟨⟨⟨⟨hk, hgen⟩, hco⟩, hnd⟩, hpar⟩ := hp
  have X := iv.kin F
  have hlV : Vs.length = args.length := by rw [rv.len, ← hl, ← hargs, List.length_map]
  refine codeC_call (fd := fnOf name qual ⟨[], args, none, [], [], none, []⟩ d.body d.scope .none kV doc pm an cdv ct) (body := d.body) (by have := F.dep; omega) (X _ _ hK) rfl (iv.lim F) (codeRec_of X hcd) rfl (bind_simple hlV (by rw [hargs]; exact hnd)) rfl (fun x hx => ?_) ?_ hco hgen hk
  · exact (hpar _ (hargs ▸ (List.of_mem_zip (a := x.1) (b := x.2) hx).1)).imp id fun q => ⟨q, cells_lookup (.inl q)⟩
  intro s₁ IC hsz
  rw [hargs] at IC
  have hLn : w.h.get? w.h.objs.size = none := Heap.get?_none_of_le (Nat.le_refl _)
  obtain ⟨hmL, h0L⟩ := iv.fresh0 hLn
  generalize henv : callEnvC (fnOf name qual ⟨[], args, none, [], [], none, []⟩ d.body d.scope .none kV doc pm an cdv ct) w.s.heap.objs.size a = env at *
  have e1 : env.scope = d.scope := by rw [← henv]; rfl
  have e2 : env.locals = w.h.objs.size := by rw [← henv]; rfl
  have e3 : env.frame = some w.h.objs.size := by rw [← henv]; rfl
  have ef : EnvF env := ⟨by rw [e1]; exact hk, by rw [← henv]; rfl, by rw [← henv]; rfl⟩
  have ec : env.cells = cellsFrom (w.s.heap.objs.size + 1) d.scope.names [] := by rw [← henv]; rfl
  clear henv
  obtain ⟨⟨⟨h₁, tk, rfl⟩, hns, hkeep, hfresh⟩, hcell, hapart, habove⟩ := IC
  have st := iv.grow (tk := tk) hkeep hsz
  have hns : h₁.Ns w.h.objs.size _ := e2 ▸ hns
  have i2 : Inv (k.deep env) ⟨w.ι, { w.s with heap := h₁, toks := tk }⟩ σ :=
    ⟨st.inv.len, st.inv.nd, st.inv.nd1, st.inv.top, st.inv.size, st.inv.obj, st.inv.keep, List.forall_mem_cons.mpr ⟨by cases NsObj.of hns with | mk ho hd => exact .mk (by rw [e1, hk]; decide) e3 h0L hmL ho hd, st.inv.fr⟩⟩
  have er : EnvR k.g ⟨w.ι, { w.s with heap := h₁, toks := tk }⟩ ⟨S, ws⟩ env := by
    refine .mk ef ⟨e2 ▸ hns, e2 ▸ hmL, e2 ▸ h0L⟩ fun x u hu => ?_
    have hu : AtL S.ns ws x u := hu
    rw [hS, ← hw] at hu
    obtain ⟨kd, h1, rfl⟩ := bindW_at hu (hS ▸ S.nd)
    have hkk : env.kindOf x = some kd := by unfold Env.kindOf; rw [e1]; exact h1
    cases hb : (d.params.zip vs).lookup x with
    | none => cases kd <;> first | exact .un | exact .gl hkk | exact .lo hkk | exact .ce hkk
    | some v =>
      obtain ⟨V, r, q1, q2⟩ := bind_at (kindOf := env.kindOf) (m := fun _ => none) (cm := fun _ => none) (rv.ext st.ext) hnd hb
      cases kd with
      | «local» => exact .v hkk (q1 hkk) r
      | cell =>
        obtain ⟨ca, hca⟩ := Option.isSome_iff_exists.mp (ec ▸ cells_lookup (x := x) (n := w.s.heap.objs.size + 1) (acc := []) (.inl h1))
        obtain ⟨oc', ho', hd'⟩ := hcell x ca hca
        have hlt : env.locals < ca := habove x ca (mem_of_lookup hca)
        exact .c (.inl hkk) hca (.mk ho' (hd'.trans (congrArg _ (q2 (by rw [hkk]; decide)))) (iv.fresh (Nat.le_of_lt (e2 ▸ hlt)))) r
      | globalImplicit => exact .gl hkk
      | _ => exact .un
  have main := h (k.deep env) ⟨w.ι, { w.s with heap := h₁, toks := tk }⟩ env F.deep i2 er ⟨⟨_, rfl⟩, e3.trans (congrArg some e2.symm)⟩
  have seen : ∀ {σ' w'}, Step (k.deep env) (some env.locals) ⟨w.ι, { w.s with heap := h₁, toks := tk }⟩ σ' w' → Step k none w σ' w' := fun {σ' w'} s' =>
    ⟨⟨s'.ext.more, Nat.le_trans hsz s'.ext.size, fun b o _ hb hm => by
      have ne : b ≠ w.h.objs.size := fun e => by rw [e, hLn] at hb; cases hb
      obtain ⟨k1, k2, k3⟩ := s'.ext.kept b o (fun e => ne (e2 ▸ (Option.some.inj e).symm)) (hkeep _ _ hb) hm
      refine ⟨k1, k2, fun hf => k3 ?_⟩
      show b ∉ framesOf (env :: k.l)
      unfold framesOf
      rw [List.filterMap_cons, e3]
      exact fun q => (List.mem_cons.mp q).elim ne hf, nofun, nofun, s'.ext.gens, s'.ext.os⟩, s'.inv.len, s'.inv.nd, s'.inv.nd1, s'.inv.top, s'.inv.size, s'.inv.obj, s'.inv.keep, fun e he => s'.inv.fr e (List.mem_cons_of_mem _ he)⟩
  refine wpC_mono main (fun F' s' q => ?_) (fun e s' q => ?_)
  · cases q with | @mk v V σ' w' s' r q =>
    cases r with
    | next _ => exact .mk (seen s') .none q
    | ret r _ => exact .mk (seen s') r q
  · cases q with | @mk σ' w' ea s' hex q =>
    have se := seen s'
    refine wpC_of (leaving_gone s'.inv rfl F.deep.frs e3 hex (fun b hb hm => s'.ext.none (ι' := w'.ι) ⟨[], (List.append_nil _).symm⟩ hb hm) fun h'' hg => ?_)
    have i3 := Gone.inv s'.inv hg fun b o hb q => by rw [hkeep _ _ (iv.keep _ _ hb)] at q; cases q
    refine .mk (w' := ⟨w'.ι, { w'.s with heap := h'' }⟩) ⟨⟨se.ext.more, Nat.le_trans se.ext.size hg.size, fun b o _ hb hm => ?_, nofun, nofun, se.ext.gens, se.ext.os⟩, i3.len, i3.nd, i3.nd1, i3.top, i3.size, i3.obj, i3.keep, fun e he => i3.fr e (List.mem_cons_of_mem _ he)⟩ (hg.exc.le fun b hb hm => ?_) q
    · obtain ⟨k1, ⟨sl', k2⟩, k3⟩ := se.ext.kept b o nofun hb hm
      have nb : h₁.get? b ≠ none := by rw [hkeep _ _ hb]; exact nofun
      obtain ⟨⟨sl2, j2⟩, _⟩ := hg.kept b _ k2 (.inl nb)
      refine ⟨k1, ⟨sl2, j2⟩, fun hf => (hg.kept b _ (k3 hf) (.inl nb)).2 ?_⟩
      have ne : b ≠ w.h.objs.size := fun e => by rw [e, hLn] at hb; cases hb
      show b ∉ framesOf (env :: k.l)
      unfold framesOf
      rw [List.filterMap_cons, e3]
      exact fun q => (List.mem_cons.mp q).elim ne hf
    · cases q : w.h.get? b with
      | none => rfl
      | some o => rw [show h₁.get? b = some o from hkeep _ _ q] at hb; cases hb
end
end Mine
end
section
namespace Mine

/-! rules: calls -/
noncomputable def Kx.at (k : Kx) (A : Around) : Kx := ⟨k.g, A, k.l⟩
section
variable {α β : Type} {k : Kx} {w : Wd} {σ : St} {ρ : Loc} {env : Env} {n : Nat} {T : St → Prop} {Q : MV → St → Prop} {p cp ap : Pos} {o e : Expr} {args : List Expr} {m f c : Str}
theorem Step.at {A : Around} {L : Option Addr} {w' : Wd} (s : Step (k.at A) L w σ w') : Step k L w σ w' :=
  ⟨⟨s.ext.more, s.ext.size, fun a o h h' h'' => let ⟨a, b, c⟩ := s.ext.kept a o h h' h''; ⟨a, b, c⟩, s.ext.old, s.ext.new, s.ext.gens, s.ext.os⟩, s.inv.len, s.inv.nd, s.inv.nd1, s.inv.top, s.inv.size, s.inv.obj, s.inv.keep, s.inv.fr⟩
theorem Inv.at' {A : Around} (i : Inv k w σ) : Inv (k.at A) w σ := ⟨i.len, i.nd, i.nd1, i.top, i.size, i.obj, i.keep, i.fr⟩
theorem Fit.in1 (f : Fit k (n + 1)) : Fit (k.at k.A.in1) n := ⟨f.hand, f.frs, by have := f.dep; show k.A.depth + 4 * n + 8 < _; omega, by have := f.uni; show k.A.units + 1 + 20 * n + 40 < _; omega, f.top⟩
theorem RunC.call {f : Value} {vs : List Value} (h : RunC k w Q T (.call f ⟨vs, []⟩)) : Run k none VRel w Q T (PySem.call f vs) := wpC_call (codeC_mono h fun res s' q => by
  rcases res with e | (_ | _ | _ | V) <;> exact q)
theorem eval_CallName (id : Str) (p : Pos) (args : List Expr) (pos : Pos) (env : Env) : eval (.Call (.Name id p) args [] pos) env = (do
    callWith pos (← eval (.Name id p) env) [] (backTo pos (starEach args env)) []) := rfl
theorem star_any (h : args.any isStar = false) : (starEach args env).any (·.1) = false := by
  induction args with
  | nil => rfl
  | cons e es ih =>
    rw [List.any_cons, Bool.or_eq_false_iff] at h
    rw [starEach_cons h.1, List.any_cons, ih h.2]; rfl
/-- what a callee is, and what its call does -/
structure Keeps (k : Kx) (w : Wd) (f : Value) : Prop where
  ok : ∀ (Q : Keeper → Shared → Prop) (E : Value → Shared → Prop), (∀ k, k = .frame ∨ k = .machine → Q k w.s) → wpAny k.M k.A (keeperOf f) Q E w.s
theorem call_tail {f : Value} {first : List Value} (hs : args.any isStar = false) (F : Fit k n) (iv : Inv k w σ) (er : EnvR k.g w ρ env) {L : List MV → St → Prop} (h : EvLS n ρ args σ L T)
    (hk : ∀ vs w' Vs σ', Step k none w σ' w' → VRels w' vs Vs → L vs σ' → Keeps k w' f ∧ Run k none VRel w' Q T (call f (first ++ Vs))) : Run k none VRel w Q T (callWith p f first (backTo p (starEach args env)) []) :=
  callWithC (backTo_any (star_any hs)) (wpC_mono (h k w env p F iv er) (fun _ _ g => match g with | .mk st r q => let ⟨h1, h2⟩ := hk _ _ _ _ st r q; ⟨h1.ok, h2.from st⟩) (fun _ _ g => match g with | .mk st x q => .mk st x q))
theorem FnObj.keep {K : Frag} {a : Addr} {d : FnRec} (h : FnObj K a d) (F : Fit k n) (iv : Inv k w σ) (e : K = k.g.K) : Keeps k w (.ref a) := by
  cases h with | mk hK => exact ⟨fun Q E h => keeper_func (iv.kin F _ _ (e ▸ hK)) rfl h⟩
/-- a def of the top -/
theorem e_call {d : FnRec} (hs : args.any isStar = false) (a : ρ.at f .gl) (hf : FT "" f = some d) (h : EvLS n ρ args σ (fun vs σ => CalS n "" f vs σ Q T) T) : EvS n ρ (.Call (.Name f p) args [] cp) σ Q T := fun k w env F iv er => by
  obtain ⟨hpd, fa, hma, hfn⟩ := F.top.fns hf
  rw [eval_CallName]
  refine Run.pre (wpC_of (wpAny_Name (load_mg er.f (er.gl a) (iv.nsg F) hma ⟨rfl, ?_⟩) (plain_debug (Loc.plain a))))
  exact call_tail hs F iv er h fun vs w' Vs σ' st rs h => ⟨hfn.keep F st.inv rfl, RunC.call (h k w' fa d Vs hf hpd hfn F st.inv rs)⟩
/-- a built-in -/
theorem e_blt {V : Value} (hs : args.any isStar = false) (a : ρ.at f .gl) (hb : (f, V) ∈ blts) (hk : (∃ id, V = .builtin id) ∨ ∃ Ty, V = .type Ty) (h : EvLS n ρ args σ (fun vs σ => BltS V vs σ Q T) T) : EvS n ρ (.Call (.Name f p) args [] cp) σ Q T := fun k w env F iv er => by
  obtain ⟨h0, h1⟩ := F.top.blt _ hb
  rw [eval_CallName]
  refine Run.pre (wpC_of (wpAny_Name (load_mb er.f (er.gl a) (iv.nsg F) (iv.nsb F) h0 h1 ⟨rfl, ?_⟩) (plain_debug (Loc.plain a))))
  exact call_tail hs F iv er h fun vs w' Vs σ' st rs h => ⟨⟨fun Q E hh => by
    rcases hk with ⟨id, rfl⟩ | ⟨Ty, rfl⟩
    · exact keeper_builtin hh
    · exact keeper_type hh⟩, h k w' Vs (F.le (Nat.zero_le _)) st.inv rs⟩
/-! an object of the text's own is made -/
theorem Fit.making {C : Addr} {rest : List Value} (F : Fit k (n + 1)) : Fit (k.at (k.A.under (.builtin "type.__call__" ⟨.ref C :: rest, []⟩))) n :=
  ⟨F.hand, by unfold Kx.at Around.under; dsimp only; rw [F.frs]; rfl, by have := F.dep; show k.A.depth + 1 + 4 * n + 8 < _; omega, by have := F.uni; show k.A.units + 1 + 20 * n + 40 < _; omega, F.top⟩
theorem isClass_at {c : Str} (D : Cls) (h : isClass c = true) : ∃ a, D.at c = some a := by
  unfold isClass at h
  rw [Bool.or_eq_true, decide_eq_true_eq, decide_eq_true_eq] at h
  unfold Cls.at
  by_cases h1 : c = ("Record" : Str)
  · exact ⟨_, if_pos h1⟩
  · rw [if_neg h1]
    exact ⟨_, if_pos (h.resolve_left h1)⟩
theorem new_run {d : FnRec} {C : Addr} {vs : List MV} {Vs : List Value} (hC : k.g.C.at c = some C) (hf : FT c "__init__" = some d) (hp : isProp c "__init__" = false) (F : Fit k (n + 1)) (iv : Inv k w σ) (rs : VRels w vs Vs)
    (h : CalS n c "__init__" (.ref σ.length :: vs) (σ ++ [.inst c []]) (fun v σ' => v = .none ∧ Q (.ref σ.length) σ') (fun _ => False)) : Run k none VRel w Q T (call (.ref C) Vs) := by
  have ct := F.top.cls hC
  have mt := F.top.meth hC hf
  obtain ⟨fa, hfi, hfn⟩ := mt.obj hp
  have hx : ((w.h.push emptyDict).push (instObj C w.h.objs.size)).get? (w.h.objs.size + 1) = some (instObj C w.h.objs.size) := by heap_get
  have hd : ((w.h.push emptyDict).push (instObj C w.h.objs.size)).get? w.h.objs.size = some emptyDict := by heap_get
  have st := iv.alloc (tk := w.s.toks) (a := w.h.objs.size + 1) (d := w.h.objs.size) (o := .inst c []) (h' := (w.h.push emptyDict).push (instObj C w.h.objs.size)) (fun b o e => Heap.get?_push_of_some _ (Heap.get?_push_of_some _ e)) (Nat.le_trans (push_le _) (push_le _)) (Nat.le_succ _) (Nat.le_refl _) fun _ =>
    .inst (fun q => (Mut.snoc q).elim (iv.fresh (Nat.le_succ _)) fun e => Nat.succ_ne_self _ e.symm) hx hC rfl rfl rfl hd rfl rfl .nil
  have hr : VRel ⟨w.ι ++ [(w.h.objs.size + 1, w.h.objs.size)], { w.s with heap := (w.h.push emptyDict).push (instObj C w.h.objs.size) }⟩ (.ref σ.length) (.ref (w.h.objs.size + 1)) :=
    .ref (p := (w.h.objs.size + 1, w.h.objs.size)) (by rw [← iv.len]; show (w.ι ++ [_])[w.ι.length]? = _; rw [List.getElem?_append_right (Nat.le_refl _), Nat.sub_self]; rfl)
  have main := RunC.call (h (k.at (k.A.under (.builtin "type.__call__" ⟨.ref C :: Vs, []⟩))) ⟨_, { w.s with heap := (w.h.push emptyDict).push (instObj C w.h.objs.size) }⟩ fa d (.ref (w.h.objs.size + 1) :: Vs) hf mt.plain hfn F.making st.inv.at' (.cons hr (rs.ext st.ext)))
  have hty : typeIn k.g.K (.ref fa) = some (.type "function") := by cases hfn with | mk _ _ _ h => exact h
  refine makeC (iv.kin F) ct.makes hfi hty (wpC_mono main (fun V s' q => ?_) fun e s' q => by cases q with | mk _ _ q => exact q.elim)
  cases q with | mk s2 r q =>
  obtain ⟨rfl, q⟩ := q
  have s2 := s2.at
  exact ⟨VRel.noneE r rfl, .mk (st.trans s2) (hr.ext s2.ext) q⟩
theorem e_new {d : FnRec} (hs : args.any isStar = false) (a : ρ.at c .gl) (hc : isClass c = true) (hf : FT c "__init__" = some d) (hp : isProp c "__init__" = false)
    (h : EvLS (n + 1) ρ args σ (fun vs σ => CalS n c "__init__" (.ref σ.length :: vs) (σ ++ [.inst c []]) (fun v σ' => v = .none ∧ Q (.ref σ.length) σ') (fun _ => False)) T) : EvS (n + 1) ρ (.Call (.Name c p) args [] cp) σ Q T := fun k w env F iv er => by
  obtain ⟨C, hC⟩ := isClass_at k.g.C hc
  have ct := F.top.cls hC
  rw [eval_CallName]
  refine Run.pre (wpC_of (wpAny_Name (load_mg er.f (er.gl a) (iv.nsg F) ct.mg ⟨rfl, ?_⟩) (plain_debug (Loc.plain a))))
  exact call_tail hs F iv er h fun vs w' Vs σ' st rs h => ⟨⟨fun Q E h => keeper_cls (makes_of (M := k.M) (st.inv.kin F) ct.makes) h⟩, new_run hC hf hp F st.inv rs h⟩
/-! methods -/
inductive MethQ (n : Nat) (ρ : Loc) (m : Str) (args : List Expr) (Q : MV → St → Prop) (T : St → Prop) : MV → St → Prop
  | own {i : Nat} {c : Str} {x : List (Str × MV)} {d : FnRec} {σ : St} : σ[i]? = some (.inst c x) → getK x m = none → isProp c m = false → FT c m = some d → EvLS n ρ args σ (fun vs σ' => CalS n c m (.ref i :: vs) σ' Q T) T → MethQ n ρ m args Q T (.ref i) σ
  | blt {v : MV} {id : String} {σ : St} : FindS v m id σ → EvLS n ρ args σ (fun vs σ' => BltS (.builtin id) (v :: vs) σ' Q T) T → MethQ n ρ m args Q T v σ
theorem backTo_all {args : List (Bool × Sem Value)} (h : args.any (·.1) = false) : (backTo p args).all (!·.1) = true := by
  induction args with
  | nil => rfl
  | cons q r ih =>
    obtain ⟨b, t⟩ := q
    rw [List.any_cons, Bool.or_eq_false_iff] at h
    show (!b && (backTo p r).all (!·.1)) = true
    rw [show b = false from h.1, ih h.2]; rfl
theorem backToKw_nil : backToKw p (keywordEach [] env) = [] := rfl
theorem fewForm {p' : Pos} (hs : args.any isStar = false) (h : args.length < 30) : methodCallForm (args.length + ([] : List Keyword).length) (backTo p (starEach args env)) (backToKw p' (keywordEach [] env)) = true := by
  unfold methodCallForm
  rw [backTo_all (star_any hs), backToKw_nil]
  simpa using h
theorem callPos_here (h : ap.endLine = cp.line) : methodCallPos true o env ap cp = pure cp := by
  unfold methodCallPos; simp [h]
theorem meth_tail {f : Value} {first : List Value} {V : Value} (hl : args.length < 30) (hp : ap.endLine = cp.line) (hs : args.any isStar = false) (F : Fit k n) (iv : Inv k w σ) (er : EnvR k.g w ρ env) {L : List MV → St → Prop} (h : EvLS n ρ args σ L T)
    (hg : ∀ (Q : Value × List Value → Shared → Prop) (E : Value → Shared → Prop), Q (f, first) w.s → wpAny k.M k.A (getMethod V m (do return (← importBound o env).getD true)) Q E w.s)
    (hk : ∀ vs w' Vs σ', Step k none w σ' w' → VRels w' vs Vs → L vs σ' → Keeps k w' f ∧ Run k none VRel w' Q T (call f (first ++ Vs))) :
    Run k none VRel w Q T (methodCall o m ap cp env V (args.length + ([] : List Keyword).length) (backTo cp (starEach args env)) (backToKw cp (keywordEach [] env))) := by
  unfold methodCall
  rw [fewForm hs hl]
  refine Run.pre (wpC_holding (wpC_of (hg _ _ ⟨rfl, ?_⟩)))
  dsimp only
  refine Run.pre (wpC_of_eq (callPos_here hp) (wpC_pure ⟨rfl, ?_⟩))
  rw [backToKw_nil]
  exact call_tail hs F iv er h hk
theorem e_meth (hl : args.length < 30) (hp : ap.endLine = cp.line) (hs : args.any isStar = false) (hb : plainBase o = true) (h : EvS n ρ o σ (MethQ n ρ m args Q T) T) : EvS n ρ (.Call (.Attribute o m ap) args [] cp) σ Q T := fun k w env F iv er => by
  rw [arm_eval_Call, attributeBase_plain hb]
  refine Run.bind (h k w env F iv er) fun v w1 V σ1 st rv h => Run.standAt ?_
  cases h with
  | @own i c x d _ e q1 q2 q3 h =>
    refine Inv.instE st.inv e rv fun p' o' od C es n' hp' I => ?_
    · have X := st.inv.kin F
      have ct := F.top.cls I.at_
      have mt := F.top.meth I.at_ q3
      obtain ⟨fa, hfi, hfn⟩ := mt.obj q2
      have hty : typeIn k.g.K (.ref fa) = some (.type "function") := by cases hfn with | mk _ _ _ h => exact h
      refine meth_tail (f := .ref fa) (first := [.ref p'.1]) hl hp hs F st.inv (er.ext st.ext) h (fun Q E h => method_fn X I.ii ct.ga ct.gt hfi hty (by unfold shadowIn; dsimp only; rw [I.rel.not I.de q1]; rfl) h) fun vs w2 Vs σ2 st2 rs h => ?_
      exact ⟨hfn.keep F st2.inv rfl, RunC.call (h k w2 fa d _ q3 mt.plain hfn F st2.inv (.cons (VRel.ext st2.ext (.ref hp')) rs))⟩
  | @blt _ id _ g h =>
    refine meth_tail (f := .builtin id) (first := [V]) hl hp hs F st.inv (er.ext st.ext) h (fun Q E h => g k w1 V st.inv rv Q E _ h) fun vs w2 Vs σ2 st2 rs h => ?_
    exact ⟨⟨fun Q E h => keeper_builtin h⟩, h k w2 _ (F.le (Nat.zero_le _)) st2.inv (.cons (rv.ext st2.ext) rs)⟩
/-! int.from_bytes -/
theorem value_LE (b : List UInt8) : KFB.value (KBw.bInts b.toArray).reverse = fromLE b := by
  unfold KFB.value
  rw [List.foldl_reverse]
  show List.foldr _ 0 (b.map fun c => ((c.toNat : Nat) : Int)) = _
  rw [List.foldr_map]
  unfold fromLE
  congr 1
  funext c r
  exact (Int.add_comm _ _).trans (congrArg (_ + ·) (Int.mul_comm _ _))
theorem e_frombytes {x : Str} (hx : x = "int") (hm : m = "from_bytes") (hl : args.length < 30) (hp : ap.endLine = cp.line) (hs : args.any isStar = false) (a : ρ.at x .gl)
    (h : EvLS n ρ args σ (fun vs σ => ∃ b, vs = [.bytes b, .str "little"] ∧ b.length ≤ 8 ∧ Q (.int (fromLE b)) σ) T) : EvS n ρ (.Call (.Attribute (.Name x p) m ap) args [] cp) σ Q T := fun k w env F iv er => by
  subst hx hm
  rw [arm_eval_Call, attributeBase_plain rfl]
  obtain ⟨h0, h1⟩ := F.top.blt (("int" : Str), .type "int") (by unfold blts; exact .tail _ (.head _))
  refine Run.pre (wpC_of (wpAny_Name (load_mb er.f (er.gl a) (iv.nsg F) (iv.nsb F) h0 h1 ⟨rfl, ?_⟩) (by decide)))
  refine Run.standAt ?_
  unfold methodCall
  rw [fewForm hs hl]
  have first : Run k none (fun w' (_ : Unit) (V : Value × List Value) => ∃ a, V = (.ref a, []) ∧ KFB.StandsAt a w'.h ∧ ¬ Mut w'.ι a ∧ a ∉ framesOf k.l) w (fun _ σ' => σ' = σ) T (holding [Value.type "int"] (calleeOf true (.Name ("int" : Str) p) env (.type "int") ("from_bytes" : Str))) :=
    Run.any fun E => wpAny_holding (fb_get (iv.kin F) F.top.fb (.mk (v := ()) (iv.grow (tk := w.s.toks + 1) (push_keeps _) (push_le _)) ⟨_, rfl, Heap.get?_push_size _ rfl, iv.fresh (Nat.le_refl _), fun q => by
      obtain ⟨_, _, o, ho, _⟩ := iv.frame q
      exact Nat.lt_irrefl _ (Heap.lt_size ho)⟩ rfl))
  refine Run.bind first fun _ w1 fv σ1 st1 rl e1 => ?_
  obtain ⟨a, rfl, hst, hnm, hnf⟩ := rl
  subst e1
  dsimp only
  refine Run.pre (wpC_of_eq (callPos_here hp) (wpC_pure ⟨rfl, ?_⟩))
  rw [backToKw_nil]
  refine call_tail hs F st1.inv (er.ext st1.ext) h fun vs w2 Vs σ2 st2 rs h => ?_
  obtain ⟨b, rfl, hb, q⟩ := h
  have hst2 : KFB.StandsAt a w2.h := (st2.ext.kept a _ nofun hst hnm).full hnf
  refine ⟨⟨fun Q E h => keeper_bound hst2 h⟩, ?_⟩
  cases rs with | cons r1 rs => exact VRels.oneE rs fun Y r2 => VRel.strE r2 fun t2 => VRel.bytesE r1 fun t1 => Run.leaf st2.inv q fun P E h => KFB.call_of hst2 (fun z => KFB.tree_little hb z) (h _ _ (by rw [value_LE]; exact .int _ w2.s.toks))
/-! isinstance(x, bool) -/
theorem e_isinst {t : Str} {tp : Pos} (hf : f = "isinstance") (ht : t = "bool") (he : isStar e = false) (a : ρ.at f .gl) (b : ρ.at t .gl) (h : EvS n ρ e σ (fun v σ => ∃ c, v = .bool c ∧ Q (.bool true) σ) T) : EvS n ρ (.Call (.Name f p) [e, .Name t tp] [] cp) σ Q T := fun k w env F iv er => by
  subst hf ht
  obtain ⟨h0, h1⟩ := F.top.blt (("isinstance" : Str), .builtin "isinstance") (by unfold blts; exact .tail _ (.tail _ (.tail _ (.tail _ (.tail _ (.tail _ (.tail _ (.tail _ (.head _)))))))))
  obtain ⟨g0, g1⟩ := F.top.blt (("bool" : Str), .type "bool") (by unfold blts; exact .tail _ (.tail _ (.tail _ (.tail _ (.tail _ (.tail _ (.tail _ (.tail _ (.tail _ (.head _))))))))))
  rw [eval_CallName]
  refine Run.pre (wpC_of (wpAny_Name (load_mb er.f (er.gl a) (iv.nsg F) (iv.nsb F) h0 h1 ⟨rfl, ?_⟩) (by decide +kernel)))
  rw [starEach_cons he]
  refine callWithC (backTo_any (by rw [List.any_cons]; rfl)) ?_
  show wpC k.M k.A (eval e env >>= fun v => pure [v] >>= fun here => (holding here (eval (.Name ("bool" : Str) tp) env >>= fun v => pure [v] >>= fun here => (holding here (spliced []) >>= fun r => pure (here ++ r))) >>= fun r => pure (here ++ r))) _ _ _
  refine wpC_bind (wpC_mono (h k w env F iv er) (fun V s' q => ?_) fun _ _ g => by cases g with | mk st x q => exact .mk st x q)
  cases q with | @mk v _ σ1 w1 st rv q =>
  obtain ⟨c, rfl, q⟩ := q
  refine wpC_bind (wpC_pure (wpC_bind (wpC_holding (wpC_bindA (wpAny_Name (load_mb er.f (er.gl b) (st.inv.nsg F) (st.inv.nsb F) g0 g1 ?_) (by decide +kernel))))))
  refine wpC_bind (wpC_pure (wpC_bind (wpC_holding (wpC_pure (wpC_pure (wpC_pure ⟨fun Q E h => keeper_builtin h, ?_⟩))))))
  exact VRel.boolE rv (wpC_of (IsiPair.bool_bool (.mk (st.trans (st.inv.grow (fun _ _ e => e) (Nat.le_refl _))) (.bool true) q)))
end
end Mine
end
section
namespace Mine

/-! properties, dicts, lists made many -/
section
variable {k : Kx} {w : Wd} {σ : St} {ρ : Loc} {env : Env} {n : Nat} {T : St → Prop} {Q : MV → St → Prop} {p : Pos} {o : Expr} {c a : Str}
theorem Got.at {α β : Type} {A : Around} {L : Option Addr} {RL : Wd → α → β → Prop} {Q : α → St → Prop} {V : β} {s : Shared} (g : Got (k.at A) L RL w Q V s) : Got k L RL w Q V s := match g with | .mk s r q => .mk s.at r q
theorem at_prop {i : Nat} {l : List (Str × MV)} {d : FnRec} (e : σ[i]? = some (.inst c l)) (hp : isProp c a = true) (hf : FT c a = some d) (h : CalS n c a [.ref i] σ Q (fun _ => False)) : AttrS (n + 1) (.ref i) a σ Q T :=
  fun k w _ ex F iv r => by
    have r0 := r
    revert r0
    refine Inv.instE iv e r fun p o od C es n' hpi I r0 => ?_
    have X := iv.kin F
    have ct := F.top.cls I.at_
    have mt := F.top.meth I.at_ hf
    obtain ⟨pa, fa, rest, hfi, hfo, hrec, hfn⟩ := (F.top.prop I.at_ hf hp).obj
    have main : ∀ tk, codeC k.M k.A.in1 (.call (.ref fa) ⟨[.ref p.1], []⟩) (fun res s' => ∃ U, res = .ok (.ret U) ∧ Got k none VRel w Q U s') { w.s with toks := tk } := fun tk => by
      have st := iv.grow (tk := tk) (fun _ _ e => e) (Nat.le_refl _)
      refine codeC_mono (h (k.at k.A.in1) ⟨w.ι, { w.s with toks := tk }⟩ fa d [.ref p.1] hf mt.plain hfn F.in1 st.inv.at' (.one (r0.ext st.ext))) fun res s' q => ?_
      rcases res with e | (_ | _ | _ | U)
      · cases q with | mk _ _ q => exact q.elim
      · exact q.elim
      · exact q.elim
      · exact q.elim
      · exact ⟨U, rfl, q.at.then st⟩
    obtain ⟨ι, hh, gg, d', t, os⟩ := w
    have L0 := I.ii.type (M := k.M)
    have L1 := looks_findIn (M := k.M) X ct.ga
    have L2 := looks_find (M := k.M) X I.ii (hfo (some od))
    have L3 := looks_findIn (M := k.M) X ct.gt
    unfold getAttr getAttrBy
    refine wpC_bindA (wpAny_mkText ?_)
    refine wpC_holding ?_
    refine wpC_bindA (L0.at ?_)
    refine wpC_bindA (L1.at ?_)
    show wpC _ _ (getAttrEveryday _ _ _) _ _ _
    refine wpC_bind (wpC_onRaise (wpC_runValue (codeC_builtin PySem.F.plainObj_entry_getattr_hooked (by decide +kernel) ?_)))
    unfold Builtin.«proto.getattr_hooked»
    dsimp only
    refine wpC_bindA (wpAny_pure ?_)
    refine wpC_bindA (L0.at ?_)
    refine wpC_bindA (L2.at ?_)
    dsimp only
    refine wpC_bindA (L3.at ?_)
    show wpC _ _ (holding [.ref pa] (call (.builtin "property.__get__") [.ref pa, .ref p.1, .ref C]) >>= ret) _ _ _
    refine wpC_bind (wpC_holding (wpC_call (codeC_of_tree rfl ?_)))
    obtain ⟨dd, sl, ho⟩ := rec_of X hrec
    show wpC _ _ (do checkBuiltinCall "property.__get__" ⟨[.ref pa, .ref p.1, .ref C], []⟩; again (.builtin "property.__get__" ⟨[.ref pa, .ref p.1, .ref C], []⟩)) _ _ _
    refine wpC_bindA (KF.slot_prop.check _ _ _ _ _ _ _ _ ⟨_, ho, rfl⟩ (KF.args_prop _ _ _) ?_)
    refine wpC_pure ⟨plainId_quiet KF.slot_prop.plain _, codeC_builtin KF.entry_prop (by decide +kernel) ?_⟩
    unfold Builtin.«property.__get__»
    rw [dga_cls]
    refine wpC_bindA (wpAny_pure ?_)
    show wpC _ _ (field (.ref pa) 0 >>= fun fget => _) _ _ _
    refine wpC_bindA ((looks_field (M := k.M) ho 0 (v := .ref fa) rfl).at ?_)
    rw [if_neg (show ¬ ((Value.ref fa == Value.none) = true) from Bool.false_ne_true)]
    refine wpC_pure ⟨rfl, codeC_mono (main _) fun res s' q => ?_⟩
    obtain ⟨U, rfl, g⟩ := q
    cases g with | mk st r q =>
    show wpC _ _ (ret U) _ _ _
    refine wpC_pure ?_
    show wpC _ _ (handedOut U) _ _ _
    rw [handedOut_of r.handed]
    exact wpC_pure (.mk st r q)
theorem e_attr (ho : plainBase o = true) (h : EvS n ρ o σ (fun v σ => AttrS n v a σ Q T) T) : EvS n ρ (.Attribute o a p) σ Q T := fun k w env F iv er => by
  rw [arm_eval_Attribute, attributeBase_plain ho]
  exact Run.bind (h k w env F iv er) fun v w1 V σ1 st rv h => Run.standAt (wpC_bind (wpC_holding (wpC_mono (h k w1 V _ F st.inv rv) (fun U s2 q => wpC_bindA (wpAny_letTemporaryGo (wpC_pure q))) fun _ _ z => z)))
/-! dicts -/
theorem e_dict0 (h : Q (.ref σ.length) (σ ++ [.idict []])) : EvS n ρ (.Dict [] [] p) σ Q T := fun k w env F iv er => Run.made iv h fun P E h => wpAny_Dict_empty (h _ _ w.s.toks (push_keeps _) (push_le _) (Nat.le_refl _) fun _ => .idict rfl (Heap.DictOf.new _) .nil)
noncomputable def keyS : Option Expr → Option Str
  | some (.Constant (.str s) _ _) => some s
  | _ => none
inductive PairR (g : Gx) (w : Wd) (l : List (Str × MV)) (ps : List (Value × Value)) : Prop
  | mk {kvs : List (Str × Value)} : PRels w l kvs → Carries (strKind g.prog g.wd) ps kvs → PairR g w l ps
noncomputable def PairS (n : Nat) (ρ : Loc) (ks : List (Option Expr)) (es : List Expr) (σ : St) (G : List (Str × MV) → St → Prop) (T : St → Prop) : Prop :=
  ∀ (k : Kx) (w : Wd) (env : Env) (pos : Pos), Fit k n → Inv k w σ → EnvR k.g w ρ env → Run k none (PairR k.g) w G T (evalPairs (pairTrees ks es env pos))
theorem p_nil {G : List (Str × MV) → St → Prop} (h : G [] σ) : PairS n ρ [] [] σ G T := fun k w env pos F iv er => Run.pure iv (.mk .nil trivial) h
theorem p_cons {G : List (Str × MV) → St → Prop} {x : Str} {kk : Nat} {kp : Pos} {ks : List (Option Expr)} {e : Expr} {es : List Expr} (h : EvS n ρ e σ (fun v σ => PairS n ρ ks es σ (fun l σ => G ((x, v) :: l) σ) T) T) : PairS n ρ (some (.Constant (.str x) kk kp) :: ks) (e :: es) σ G T := fun k w env pos F iv er => by
  show Run k none _ w G T (evalPairs ((eval (.Constant (.str x) kk kp) env, (do let x ← eval e env; standAt pos; pure x)) :: pairTrees ks es env pos))
  rw [evalPairs]
  refine Run.bind (Run.leaf (RL := fun _ (_ : Unit) V => ∃ t, V = Value.str x t) (v := ()) (Q := fun _ σ' => σ' = σ) iv rfl fun P E h => Calls.Constant_str (h _ _ ⟨_, rfl⟩)) fun _ w1 K σ1 st1 rk e1 => ?_
  obtain ⟨t, rfl⟩ := rk
  subst e1
  have er := er.ext st1.ext
  refine Run.bind (Run.holding (Run.bind (h k w1 env F st1.inv er) fun v w2 V σ2 st rv q => Run.standAt (Run.pure (Q := fun v σ => PairS n ρ ks es σ (fun l σ => G ((x, v) :: l) σ) T) st.inv rv q))) fun v w2 V σ2 st2 rv h => ?_
  exact Run.bind (Run.holding (h k w2 env pos F st2.inv (er.ext st2.ext))) fun l w3 ps σ3 st3 rs h => Run.pure st3.inv (match rs with | .mk r c => .mk (.cons (rv.ext st3.ext) r) ⟨by show (x == x) = true; exact beq_self_eq_true x, rfl, c⟩) h
theorem e_dict {ks : List (Option Expr)} {es : List Expr} (hk : ks.all (·.isSome) = true) (hl : ks.length = es.length) (h0 : ks ≠ []) (hz : ks.length ≤ 15)
    (h : PairS n ρ ks es (σ ++ [.sdict []]) (fun l σ' => σ'[σ.length]? = some (.sdict []) ∧ (l.map (·.1)).Nodup ∧ l.length ≤ 15 ∧ Q (.ref σ.length) (σ'.set σ.length (.sdict l))) T) : EvS n ρ (.Dict ks es p) σ Q T := fun k w env F iv er => by
  have hn := pairTrees_length ks es env p hk hl
  have hp0 : pairTrees ks es env p ≠ [] := fun he => h0 (List.length_eq_zero_iff.mp (hn.symm.trans (congrArg List.length he)))
  rw [arm_eval_Dict, zip_pairTrees ks es env p hk hl, dictDisplay_pairs _ hp0 (by rw [hn]; omega)]
  refine Run.standAt ?_
  unfold subDict
  rw [bind_assoc]
  have st0 := iv.alloc (tk := w.s.toks) (h' := w.h.push { cls := .type "dict", data := .dict #[] }) (a := w.h.objs.size) (d := w.h.objs.size) (o := .sdict []) (push_keeps _) (push_le _) (Nat.le_refl _) (Nat.le_refl _) fun _ => .sdict rfl (Heap.DictOf.new _) .nil
  refine wpC_bindA (wpAny_alloc (Run.from st0 ?_))
  have hi : (w.ι ++ [(w.h.objs.size, w.h.objs.size)])[σ.length]? = some (w.h.objs.size, w.h.objs.size) := by rw [← iv.len, List.getElem?_append_right (Nat.le_refl _), Nat.sub_self]; rfl
  rw [bind_assoc]
  refine Run.holdBind ?_
  rw [if_pos (by rw [hn]; exact hz), bind_assoc]
  refine Run.bind (h k _ env p F st0.inv (er.ext st0.ext)) fun l w2 ps σ2 st2 rs q => Run.holdBind ?_
  obtain ⟨q1, q2, q3, q4⟩ := q
  have hat := st2.ext.at hi
  cases st2.inv.get q1 hat with | sdict _ hd rk =>
  cases rk
  cases rs with | @mk kvs rk c =>
  have hlen := rk.len
  refine Run.turned st2.inv hat q4 fun P E h => wpAny_bind (wpAny_bind (wpAny_storeAll (knd := strKind k.g.prog k.g.wd) ps kvs [] w2.s _ c hd (by rw [List.length_nil, sizeLine_eq]; omega) fun h' hm' hs' => ?_))
  rw [merged_nil_of_nodup _ (rk.keys ▸ q2)] at hm'
  exact wpAny_pure (wpAny_pure (h _ _ _ hs' fun x => ⟨.sdict rfl hm' (rk.kp x.kp), (VRel.ref hat).ext x⟩))
/-! [a] * n -/
theorem repeat_one {V : Value} (k : Nat) : List.foldl (fun x1 x2 => x1 ++ x2) (#[] : Array Value) (List.replicate k (List.toArray [V])) = List.toArray (List.replicate k V) := by
  have gen : ∀ (k : Nat) (acc : List Value), List.foldl (fun x1 x2 => x1 ++ x2) (List.toArray acc) (List.replicate k (List.toArray [V])) = List.toArray (acc ++ List.replicate k V) := by
    intro k
    induction k with
    | zero => intro acc; rw [show List.replicate 0 V = [] from rfl, List.append_nil]; rfl
    | succ k ih => intro acc; rw [List.replicate_succ, List.foldl_cons, List.append_toArray, ih, List.append_assoc, List.replicate_succ]; rfl
  exact gen k []
theorem e_lmul {a b : Expr} {lp : Pos} (hs : isStar a = false) (h : EvS n ρ a σ (fun x σ => EvS n ρ b σ (fun y σ => ∃ j : Int, y = .int j ∧ 0 < j ∧ j ≤ 64 ∧ Q (.ref σ.length) (σ ++ [.list (List.replicate j.toNat x)])) T) T) : EvS n ρ (.BinOp (.List [a] lp) .Mult b p) σ Q T := fun k w env F iv er => by
  rw [eval_BinOp, arm_eval_List, starEach_cons hs]
  have e : (standAt lp >>= fun _ => spliced (backTo lp ((false, eval a env) :: starEach [] env)) >>= fun r => newList r : Sem Value) = (standAt lp >>= fun _ => eval a env >>= fun v => holding [v] (pure []) >>= fun r => newList (v :: r)) := by
    congr 1
    funext _
    show ((eval a env >>= fun v => pure [v] >>= fun here => (holding here (spliced []) >>= fun r => pure (here ++ r))) >>= fun r => newList r) = _
    rw [bind_assoc]
    congr 1
    funext v
    rw [bind_assoc, pure_bind, bind_assoc]
    rfl
  have first : Run k none (fun w' x V => ∃ t W, V = .ref t ∧ w'.h.get? t = some { cls := .type "list", data := .seq (List.toArray [W]) } ∧ ¬ Mut w'.ι t ∧ t ∉ framesOf k.l ∧ VRel w' x W) w (fun x σ => EvS n ρ b σ (fun y σ => ∃ j : Int, y = .int j ∧ 0 < j ∧ j ≤ 64 ∧ Q (.ref σ.length) (σ ++ [.list (List.replicate j.toNat x)])) T) T
      (standAt lp >>= fun _ => spliced (backTo lp ((false, eval a env) :: starEach [] env)) >>= fun r => newList r : Sem Value) := by
    refine Run.of_eq e (Run.standAt (Run.bind (h k w env F iv er) fun v w1 V σ1 st rv h => Run.pre (wpC_holding (wpC_pure ⟨rfl, Run.any fun E => wpAny_newObj_type ?_ (by show (1 : Nat) ≤ _; rw [sizeLine_eq]; decide)⟩))))
    have s2 := st.inv.grow (tk := w1.s.toks) (push_keeps { cls := .type "list", data := .seq (List.toArray [V]) }) (push_le _)
    exact .mk s2 ⟨_, V, rfl, Heap.get?_push_size _ rfl, st.inv.fresh (Nat.le_refl _), fun q => let ⟨_, _, o, ho, _⟩ := st.inv.frame q; Nat.lt_irrefl _ (Heap.lt_size ho), rv.ext s2.ext⟩ h
  refine Run.bind first fun x w1 V σ1 st rv h => ?_
  obtain ⟨t, W, rfl, ht, hm, hf, rw'⟩ := rv
  refine Run.bind (Run.holding (h k w1 env F st.inv (er.ext st.ext))) fun y w2 Y σ2 st2 ry h => Run.standAt (Run.operate ?_)
  obtain ⟨j, rfl, j0, j1, q⟩ := h
  refine VRel.intE ry fun u => Run.made st2.inv q fun P E h => ?_
  have ht2 := (st2.ext.kept t _ nofun ht hm).full hf
  refine wpAny_binaryOp_repeat_ref (T := "list") (U := "int") (by decide) ⟨_, ht2, rfl⟩ (fun s' => typeIs_int s' j u) noFill_list_mul PySem.F.fills_int_mul PySem.F.slot_int_rmul repeat_list PySem.F.slot_int_index.lookup
    (call_meets PySem.F.slot_int_rmul (typeIs_int w2.s j u) PySem.F.entry_int_rmul (PySem.F.args_int_rmul_2 _ _) (int___rmul___int_list j u t (List.toArray [W]) 0)
      ⟨ht2, rfl, ⟨_, ht2, rfl⟩, call_meets PySem.F.slot_list_mul ⟨_, ht2, rfl⟩ PySem.F.entry_list_mul (PySem.F.args_list_mul_2 _ _)
        (AutoListH.list___mul___list_int_3 t (List.toArray [W]) 0 j u (by simp [Builtin.List.listFitsIndex]; omega) (by simp; omega) (by simp [Builtin.List.listTooLong, sizeLine]; omega))
        ⟨ht2, ?_⟩⟩)
  refine h _ _ w2.s.toks (push_keeps _) (push_le _) (Nat.le_refl _) fun xx => .list rfl (.mk (n := 0) (Heap.get?_push_size _ rfl) rfl rfl ?_) ((VRels.replicate (rw'.ext st2.ext) j.toNat).ext xx)
  rw [← repeat_one]
  rfl
end
end Mine
end
section
namespace Mine

/-! stores -/
section
variable {k : Kx} {w : Wd} {σ : St} {ρ : Loc} {env : Env} {n : Nat} {T : St → Prop} {Q : MV → St → Prop} {p : Pos} {o e : Expr} {x a : Str} {L : Loc → St → Prop} {h' : Heap} {Ad : Addr} {v : MV} {V : Value}
/-- a store into the frame's own namespace -/
theorem Inv.stored {m m' : Str → Option Value} (iv : Inv k w σ) (hm : LocAt k.g w Ad m) (sb : Heap.SameBut Ad w.h h') (hn' : h'.Ns Ad m') {tk : Tok} : Step k (some Ad) w σ ⟨w.ι, { w.s with heap := h', toks := tk }⟩ := by
  have x : Ext k (some Ad) w ⟨w.ι, { w.s with heap := h', toks := tk }⟩ := ⟨⟨[], (List.append_nil _).symm⟩, Nat.le_of_eq sb.1.symm, fun a o hL e nm => have q := (sb.2 a fun e => hL (congrArg some e.symm)).trans e; ⟨nm, ⟨o.slots, q⟩, fun _ => q⟩,
    fun _ e => Option.some.inj e ▸ .of hm.ns, fun _ e => Option.some.inj e ▸ .of hn', rfl, rfl⟩
  refine ⟨x, iv.len, iv.nd, iv.nd1, iv.top, Nat.le_trans iv.size x.size, fun {j o} e => ?_, fun b o e => (sb.2 b fun q => ?_).trans (iv.keep b o e), fun en he => ?_⟩
  · obtain ⟨p, hp, r⟩ := iv.obj e
    have n2 : p.2 ≠ Ad := fun q => hm.nm (q ▸ ⟨p, List.mem_of_getElem? hp, rfl⟩)
    refine ⟨p, hp, r.to x.kp (fun ob hob => (sb.2 _ ?_).trans hob) (fun ob hob => (sb.2 _ n2).trans hob) id⟩
    cases r with
    | inst n e1 e2 e3 e4 e5 =>
      intro q
      cases NsObj.of hm.ns with | mk ho hd =>
      rw [← q, e1] at ho; cases ho
      rw [e5] at hd; cases hd
    | list q => exact q ▸ n2
    | sdict q => exact q ▸ n2
    | idict q => exact q ▸ n2
    | ba q => exact q ▸ n2
  · have := hm.new
    rw [← q, e] at this; cases this
  · cases iv.fr en he with | @mk L' o es n' e1 e2 e3 e4 e5 e6 =>
    by_cases q : L' = Ad
    · subst q
      cases NsObj.of hn' with | mk ho hd => exact .mk e1 e2 e3 e4 ho hd
    · exact .mk e1 e2 e3 e4 ((sb.2 _ q).trans e5) e6
theorem store_run {ws : List Nm} (hu : UpL ρ.S.ns ρ.ws x (.v v) ws) (iv : Inv k w σ) (er : EnvR k.g w ρ env) (rv : VRel w v V) (h : L ⟨ρ.S, ws⟩ σ) : Run k (some env.locals) (fun w ρ (_ : Unit) => EnvR k.g w ρ env) w L T (bindName env x V) := by
  cases er with | @mk m f hm hr =>
  have hk : env.kindOf x = some .local := by
    obtain ⟨z, hz, hl⟩ := hu.lo
    cases hr x z hz <;> first | assumption | cases hl
  refine wpC_of (wpAny_bindName (wpAny_storeName_local hk hm.ns (fun h' hn' sb => ?_) (by rw [f.kind]; rfl)))
  have st := iv.stored (tk := w.s.toks + 1) hm sb hn'
  refine .mk st (.mk f ⟨hn', hm.nm, hm.new⟩ fun y u hy => ?_) h
  rcases hu.at ρ.S.nd hy with ⟨rfl, rfl⟩ | ⟨ne, q⟩
  · exact .v hk (if_pos rfl) (rv.ext st.ext)
  · cases hr y u q with
    | un => exact .un
    | gl h => exact .gl h
    | lo h => exact .lo h
    | ce h => exact .ce h
    | v h1 h2 r => exact .v h1 ((if_neg ne).trans h2) (r.ext st.ext)
    | c h1 h2 c r => exact .c h1 h2 (c.ext st.ext) (r.ext st.ext)
theorem a_name {ws : List Nm} (hu : UpL ρ.S.ns ρ.ws x (.v v) ws) (h : L ⟨ρ.S, ws⟩ σ) : AsgS n ρ (.Name x p) v σ L T := fun k w env V F iv er rv => by
  rw [arm_assign_Name]
  exact Run.standAt (store_run hu iv er rv h)
theorem a_attr (h : EvS n ρ o σ (fun u σ => SetAttrS u a v σ (L ρ) T) T) : AsgS n ρ (.Attribute o a p) v σ L T := fun k w env V F iv er rv => by
  rw [arm_assign_Attribute]
  refine er.run (Run.bind (Run.holding (h k w env F iv er)) fun u w1 U σ1 st ru h => Run.standAt ?_)
  exact Run.bind (Run.holding (h k w1 U V (F.le (Nat.zero_le _)) st.inv ru (rv.ext st.ext))) fun _ w2 _ σ2 st2 _ h => wpC_release (.mk (v := ρ) (.refl st2.inv) ((er.ext st.ext).ext st2.ext) h)
theorem a_sub {i : Expr} (h : EvS n ρ o σ (fun u σ => EvS n ρ i σ (fun x σ => SetItemS u x v σ (L ρ) T) T) T) : AsgS n ρ (.Subscript o i p) v σ L T := fun k w env V F iv er rv => by
  rw [arm_assign_Subscript]
  refine er.run (Run.bind (Run.holding (h k w env F iv er)) fun u w1 U σ1 st ru h => Run.bind (Run.holding (h k w1 env F st.inv (er.ext st.ext))) fun x w2 X σ2 st2 rx h => Run.standAt ?_)
  exact Run.bind (Run.holding (h k w2 _ X _ st2.inv (ru.ext st2.ext) rx ((rv.ext st.ext).ext st2.ext))) fun _ w3 _ σ3 st3 _ h => wpC_release (.mk (v := ρ) (.refl st3.inv) (((er.ext st.ext).ext st2.ext).ext st3.ext) h)
theorem a_slice {l u : Expr} {q : Pos} (h : EvS n ρ o σ (fun z σ => EvS n ρ l σ (fun l σ => EvS n ρ u σ (fun u σ => SetSliceS z l u v σ (L ρ) T) T) T) T) : AsgS n ρ (.Subscript o (.Slice (some l) (some u) .none q) p) v σ L T := fun k w env V F iv er rv => by
  rw [arm_assign_Subscript, arm_eval_Slice]
  refine er.run (Run.bind (Run.holding (h k w env F iv er)) fun z w1 Z σ1 st1 rz h => Run.holdBind ?_)
  simp only [bind_assoc]
  have er1 := er.ext st1.ext
  refine Run.bind (h k w1 env F st1.inv er1) fun a w2 La σ2 st2 ra h => ?_
  have er2 := er1.ext st2.ext
  refine Run.bind (Run.holding (h k w2 env F st2.inv er2)) fun b w3 Ub σ3 st3 rb h => ?_
  refine Run.pre (wpC_holding (wpC_pure ⟨rfl, slice_new st3.inv fun sl w5 st5 hsl => Run.standAt ?_⟩))
  have x3 := st3.ext.trans st5.ext
  have x2 := st2.ext.trans x3
  exact Run.bind (Run.holding (h k w5 _ _ _ _ sl st5.inv (rz.ext x2) (ra.ext x3) (rb.ext st5.ext) ((rv.ext st1.ext).ext x2) hsl)) fun _ w6 _ σ6 st6 _ h => wpC_release (.mk (v := ρ) (.refl st6.inv) ((er1.ext x2).ext st6.ext) h)
/-! several targets -/
noncomputable def AsgLS (n : Nat) (ρ : Loc) (ts : List Expr) (vs : List MV) (σ : St) (L : Loc → St → Prop) (T : St → Prop) : Prop :=
  ∀ (k : Kx) (w : Wd) (env : Env) (Vs : List Value), Fit k n → Inv k w σ → EnvR k.g w ρ env → VRels w vs Vs → Run k (some env.locals) (fun w ρ (_ : Unit) => EnvR k.g w ρ env) w L T (assignInOrder (ts.map fun t => assign t env) Vs)
theorem al_nil (h : L ρ σ) : AsgLS n ρ [] [] σ L T := fun k w env Vs F iv er r => by
  cases r
  exact Run.pureS er.ob iv er h
theorem al_cons {t : Expr} {ts : List Expr} {vs : List MV} (h : AsgS n ρ t v σ (fun ρ σ => AsgLS n ρ ts vs σ L T) T) : AsgLS n ρ (t :: ts) (v :: vs) σ L T := fun k w env Vs F iv er r => by
  cases r with | @cons _ _ V rest r rs =>
  show Run k _ _ w L T (holding rest (assign t env V) >>= fun _ => assignInOrder (ts.map fun t => assign t env) rest)
  exact Run.bind (Run.holding (h k w env V F iv er r)) fun ρ' w1 _ σ1 st er' h => h k w1 env rest F st.inv er' (rs.ext st.ext)
theorem asgEach_len (ts : List Expr) : (assignEach ts env).length = ts.length := by
  induction ts with
  | nil => rfl
  | cons t ts ih => cases t <;> (unfold assignEach; rw [List.length_cons, List.length_cons, ih])
theorem asgEach_cons {t : Expr} {ts : List Expr} (h : isStar t = false) : assignEach (t :: ts) env = (false, assign t env) :: assignEach ts env := by cases t <;> first | rfl | cases h
theorem asgEach_star {ts : List Expr} (h : ts.any isStar = false) : (assignEach ts env).findIdx? (·.1) = none ∧ (assignEach ts env).map (·.2) = ts.map fun t => assign t env := by
  induction ts with
  | nil => exact ⟨rfl, rfl⟩
  | cons t ts ih =>
    rw [List.any_cons, Bool.or_eq_false_iff] at h
    obtain ⟨i1, i2⟩ := ih h.2
    rw [asgEach_cons h.1]
    exact ⟨by rw [List.findIdx?_cons, i1]; rfl, by rw [List.map_cons, List.map_cons, i2]⟩
/-- the places of a tuple -/
theorem unpack_run {α β : Type} {RL : Wd → α → β → Prop} {Q : α → St → Prop} {vs : List MV} {j : Nat} {f : List Value → Sem β} (F : Fit k n) (iv : Inv k w σ) (rv : VRel w (.tup vs) V) (hk : j = vs.length) (er : EnvR k.g w ρ env)
    (h : ∀ w' Vs, Step k none w σ w' → VRels w' vs Vs → Run k (some env.locals) RL w' Q T (f Vs)) : Run k (some env.locals) RL w Q T (unpackItems V j none >>= f) :=
  VRel.tupE rv fun a Vs ht hm hr => by
    have hz : Vs.toArray.size = j := hr.len.trans hk.symm
    rw [← hz]
    refine wpC_bindA (wpAny_size (wpAny_unpackItems_tuple F.hand ht.tup fun h' eb hs => ?_))
    have st := iv.grow (tk := w.s.toks) (fun b o e => eb b o (Nat.ne_of_lt (Heap.lt_size e)) e) hs
    exact (h _ Vs st (hr.ext st.ext)).from (st.up er.ob er.nm)
theorem a_tup {ts : List Expr} {u : Nat} {vs : List MV} (hs : ts.any isStar = false) (hl : ts.length = vs.length) (h : AsgLS n ρ ts vs σ L T) : AsgS n ρ (.Tuple ts u p) (.tup vs) σ L T := fun k w env V F iv er rv => by
  obtain ⟨f1, f2⟩ := asgEach_star (env := env) hs
  rw [arm_assign_Tuple]
  refine Run.standAt ?_
  unfold unpack
  rw [f1, f2, asgEach_len]
  intro Γ p hΓ hc
  have := unpack_run (RL := fun w ρ (_ : Unit) => EnvR k.g w ρ env) (f := fun items => assignInOrder (ts.map fun t => assign t env) items) F iv rv hl er (fun w' Vs st rvs => h k w' env Vs F st.inv (er.ext st.ext) rvs) Γ p hΓ hc
  rw [Sem.wp_bind'] at this ⊢
  rw [Sem.wp_holding]
  exact this
end

/-! statements -/
section
variable {k : Kx} {w : Wd} {σ : St} {ρ : Loc} {env : Env} {n : Nat} {T : St → Prop} {Q : MV → St → Prop} {B : Bool → St → Prop} {K : Fl × Loc → St → Prop} {p : Pos} {o e t : Expr} {s : Stmt} {ss b c : List Stmt}
/-- what comes after -/
noncomputable def seqK (n : Nat) (ss : List Stmt) (K : Fl × Loc → St → Prop) (T : St → Prop) : Fl × Loc → St → Prop := fun f σ => match f.1 with
  | .next => ExLS n f.2 ss σ K T
  | .ret _ => K f σ
theorem x_nil (h : K (.next, ρ) σ) : ExLS n ρ [] σ K T := fun k w env F iv er ow => wpC_of (wpAny_execs_nil (.mk ⟨.refl fun _ e => Option.some.inj e ▸ er.ob, iv⟩ (.next er) h))
theorem x_cons (h : ExS n ρ s σ (seqK n ss K T) T) : ExLS n ρ (s :: ss) σ K T := fun k w env F iv er ow => by
  show Run k _ (FR k.g env) w K T (exec s env >>= fun f => match f with | .next => execs ss env | f => pure f)
  refine Run.bind (h k w env F iv er ow) fun f w1 V σ1 st fr q => ?_
  cases fr with
  | next er' => exact q k w1 env F st.inv er' ow
  | ret rv er' => exact Run.pureS er'.ob st.inv (.ret rv er') q
theorem Run.bindE {α β γ : Type} {k : Kx} {w : Wd} {g : Gx} {ρ : Loc} {env : Env} {T : St → Prop} {RL : Wd → α → β → Prop} {RL' : Wd → Fl × Loc → γ → Prop} {Q : α → St → Prop} {K : Fl × Loc → St → Prop} {m : Sem β} {f : β → Sem γ} (er : EnvR k.g w ρ env) (h : Run k none RL w Q T m)
    (h₂ : ∀ v w' V σ', Step k none w σ' w' → EnvR k.g w' ρ env → RL w' v V → Q v σ' → Run k (some env.locals) RL' w' K T (f V)) : Run k (some env.locals) RL' w K T (m >>= f) :=
  wpC_bind (wpC_mono h (fun _ _ g => match g with | .mk st r q => (h₂ _ _ _ _ st (er.ext st.ext) r q).from (st.up er.ob er.nm)) (fun _ _ g => match g with | .mk st x q => .mk (st.up er.ob er.nm) x q))
theorem x_ret (h : EvS n ρ e σ (fun v σ => K (.ret v, ρ) σ) T) : ExS n ρ (.Return (some e) p) σ K T := fun k w env F iv er ow => by
  rw [arm_exec_Return]
  refine Run.standAt ?_
  show Run k _ (FR k.g env) w K T (eval e env >>= fun v => pure (Flow.ret v))
  exact Run.bindE (g := k.g) er (h k w env F iv er) fun v w1 V σ1 st er rv h => Run.pureS er.ob st.inv (.ret rv er) h
theorem x_ret0 (h : K (.ret .none, ρ) σ) : ExS n ρ (.Return none p) σ K T := fun k w env F iv er ow => by
  rw [arm_exec_Return]
  exact Run.standAt (Run.pureS er.ob iv (.ret .none er) h)
theorem x_if (h : TstS n ρ t σ (fun c σ => Br c (ExLS n ρ b σ K T) (ExLS n ρ ss σ K T)) T) : ExS n ρ (.If t b ss p) σ K T := fun k w env F iv er ow => by
  rw [arm_exec_If]
  refine Run.standAt (Run.bindE (g := k.g) er (h k w env F iv er) fun c w1 C σ1 st er rc h => ?_)
  subst rc
  cases c with
  | true => exact h.t rfl k w1 env F st.inv er ow
  | false => exact h.f rfl k w1 env F st.inv er ow
theorem x_expr (hc : ∀ env t j, swapsWith e t j env = pure false) (h : EvS n ρ e σ (fun _ σ => K (.next, ρ) σ) T) : ExS n ρ (.Expr e p) σ K T := fun k w env F iv er ow => by
  rw [PySem.exec_Expr env e p (by unfold interactive; rw [er.f.kind]; rfl) (hc _ _ _)]
  exact Run.standAt (Run.bindE (g := k.g) er (h k w env F iv er) fun v w1 V σ1 st er rv h => wpC_of (wpAny_dropValue (.mk ⟨.refl fun _ e => Option.some.inj e ▸ er.ob, st.inv⟩ (.next er) h)))
theorem x_del {l : Expr} {q r : Pos} (h : EvS n ρ o σ (fun z σ => EvS n ρ l σ (fun l σ => DelS z l σ (fun σ => K (.next, ρ) σ) T) T) T) : ExS n ρ (.Delete [.Subscript o (.Slice (some l) none none r) q] p) σ K T := fun k w env F iv er ow => by
  rw [arm_exec_Delete]
  refine Run.standAt ?_
  show Run k _ (FR k.g env) w K T ((delete (.Subscript o (.Slice (some l) none none r) q) env >>= fun _ => pure ()) >>= fun _ => pure Flow.next)
  rw [bind_assoc, arm_delete_Subscript, arm_eval_Slice]
  refine Run.bindE (g := k.g) (RL := fun _ (_ _ : Unit) => True) (Q := fun _ σ => K (.next, ρ) σ) er ?_ fun u w1 U σ1 st er _ h => by rw [pure_bind]; exact Run.pureS er.ob st.inv (.next er) h
  refine Run.bind (h k w env F iv er) fun z w1 Z σ1 st1 rz h => Run.holdBind ?_
  simp only [bind_assoc]
  refine Run.bind (h k w1 env F st1.inv (er.ext st1.ext)) fun a w2 La σ2 st2 ra h => ?_
  refine Run.pre (wpC_holding (wpC_pure ⟨rfl, Run.pre (wpC_holding (wpC_pure ⟨rfl, slice_new st2.inv fun sl w5 st5 hsl => Run.standAt ?_⟩))⟩))
  exact Run.bind (Run.holding (h k w5 _ _ sl st5.inv ((rz.ext st2.ext).ext st5.ext) (ra.ext st5.ext) hsl)) fun u w6 _ σ6 st6 _ h => wpC_release (.mk (v := u) (.refl st6.inv) trivial h)
/-! assignments -/
/-- no stores that the compiler exchanges -/
structure Straight (t e : Expr) : Prop where
  comp : ∀ env j, swapsWith e (some t) j env = pure false
  swap : ∀ env, swappedStores [t] e env = pure none
theorem assign_eq (hc : ∀ env j, swapsWith e (some t) j env = pure false) (env : Env) : exec (.Assign [t] e p) env = (standAt p >>= fun _ => eval e env >>= fun v => swappedStores [t] e env >>= fun r => assignStores env v r ((assignEach [t] env).map (·.2))) := by
  rw [arm_exec_Assign]
  congr 1
  funext _
  show (swapsWith e (some t) p.line env >>= fun b => if b = true then (evalThenUse e env (fun v => assignAll v ((assignEach [t] env).map (·.2))) >>= fun _ => pure Flow.next) else (eval e env >>= fun v => swappedStores [t] e env >>= fun r => assignStores env v r ((assignEach [t] env).map (·.2)))) = _
  rw [hc, pure_bind, if_neg Bool.false_ne_true]
theorem x_assign (hs : isStar t = false) (hc : Straight t e) (h : EvS n ρ e σ (fun v σ => AsgS n ρ t v σ (fun ρ σ => K (.next, ρ) σ) T) T) : ExS n ρ (.Assign [t] e p) σ K T := fun k w env F iv er ow => by
  rw [assign_eq hc.comp]
  refine Run.standAt (Run.bindE (g := k.g) er (h k w env F iv er) fun v w1 V σ1 st er rv h => ?_)
  rw [hc.swap, pure_bind, asgEach_cons hs]
  show Run k _ (FR k.g env) w1 K T (assign t env V >>= fun _ => pure Flow.next)
  exact Run.bind (h k w1 env V F st.inv er rv) fun ρ' w2 _ σ2 st2 er' h => Run.pureS er'.ob st2.inv (.next er') h
theorem swap_iteN {c : Prop} [Decidable c] {α : Type} {m x : Sem α} (h : m = x) : (if c then x else m) = x := by rw [h, ite_self]
theorem swap_folded {ts vs : List Expr} {u u' : Nat} {q q' : Pos} (h : vs.all (foldedForSure 8) = true) (env : Env) : swappedStores [.Tuple ts u q] (.Tuple vs u' q') env = pure none := by
  unfold swappedStores
  exact swap_iteN (swap_iteN (swap_iteN (if_pos h)))
theorem swap_items {ts vs : List Expr} {u u' : Nat} {q q' : Pos} (h0 : ts ≠ []) (h : ∀ t ∈ ts, ∃ o i p, t = .Subscript o i p) (env : Env) : swappedStores [.Tuple ts u q] (.Tuple vs u' q') env = pure none := by
  unfold swappedStores
  refine swap_iteN (swap_iteN (if_pos ?_))
  rw [List.filterMap_eq_nil_iff.mpr fun t ht => by obtain ⟨o, i, p, rfl⟩ := h t ht; rfl]
  cases ts with
  | nil => exact absurd rfl h0
  | cons t ts => rfl
end
end Mine
end
section
namespace Mine

/-! several names at once, whose stores the compiler exchanges -/
section
variable {k : Kx} {w : Wd} {σ : St} {ρ : Loc} {env : Env} {n : Nat} {T : St → Prop} {K : Fl × Loc → St → Prop} {p : Pos} {a b c : Str} {p1 p2 p3 q q' : Pos} {u u' : Nat} {vs : List Expr}
/-- what a tuple's values are asked -/
noncomputable def swapB (m : Nat) (vs : List Expr) : Bool := vs.length == m && !(vs.any fun | .Starred .. => true | _ => false) && !vs.all (foldedForSure 8) && !vs.all (constantsAlone 8)
theorem swap_names {ts : List Expr} {xs : List Str} {m : Nat} (env : Env) (hk : env.scope.kind = .function) (hm : (m == 2 || m == 3) = true) (hl : ts.length = m) (hx : xs.length = m) (hd : xs.eraseDups.length = m) (hv : swapB m vs = true)
    (hn : ∀ f : Expr → Option Str, (∀ id pos, f (.Name id pos) = if (env.kindOf id == some .local && pos.line == (ts.head?.map (·.pos.line)).getD 0) = true then some id else none) → ts.filterMap f = xs) : swappedStores [.Tuple ts u q] (.Tuple vs u' q') env = pure (some xs) := by
  unfold swapB at hv
  rw [Bool.and_eq_true, Bool.and_eq_true, Bool.and_eq_true, Bool.not_eq_true', Bool.not_eq_true', Bool.not_eq_true', beq_iff_eq] at hv
  obtain ⟨⟨⟨v1, v2⟩, v3⟩, v4⟩ := hv
  unfold swappedStores
  refine (if_neg ?_).trans ((if_neg ?_).trans ((if_neg ?_).trans ((if_neg ?_).trans ((if_neg ?_).trans ?_))))
  · rw [hl, v1, hm, bne_self_eq_false, show (env.blockKind != .function) = false by unfold Env.blockKind; rw [hk]; rfl]; decide
  · exact fun e => Bool.false_ne_true (v2.symm.trans e)
  · rw [hn _ fun _ _ => rfl, hl, hx, hd, bne_self_eq_false]; decide
  · exact fun e => Bool.false_ne_true (v3.symm.trans e)
  · exact fun e => Bool.false_ne_true (v4.symm.trans e)
  · rw [hn _ fun _ _ => rfl]
inductive Ups (ns : List Str) : List Nm → List Str → List MV → List Nm → Prop
  | nil {ws : List Nm} : Ups ns ws [] [] ws
  | cons {ws ws1 ws2 : List Nm} {x : Str} {v : MV} {xs : List Str} {vs : List MV} : UpL ns ws x (.v v) ws1 → Ups ns ws1 xs vs ws2 → Ups ns ws (x :: xs) (v :: vs) ws2
theorem Ups.kinds {ns : List Str} {ws ws' : List Nm} {xs : List Str} {vs : List MV} (h : Ups ns ws xs vs ws') (nd : ns.Nodup) (hk : ∀ x z, AtL ns ws x z → z.isLo = true → env.kindOf x = some .local) : ∀ x ∈ xs, env.kindOf x = some .local := by
  induction h with
  | nil => exact nofun
  | cons hu _ ih =>
    obtain ⟨z, hz, hl⟩ := hu.lo
    have hx := hk _ z hz hl
    exact List.forall_mem_cons.mpr ⟨hx, ih fun y z' h' hl' => (hu.at nd h').elim (fun e => e.1 ▸ hx) fun e => hk y z' e.2 hl'⟩
/-- the stores, one after the other -/
theorem stores_run {L : Loc → St → Prop} {S : Sc} {ws ws' : List Nm} {xs : List Str} {vs : List MV} {Vs : List Value} (h : Ups S.ns ws xs vs ws') (iv : Inv k w σ) (er : EnvR k.g w ⟨S, ws⟩ env) (rs : VRels w vs Vs) (hq : L ⟨S, ws'⟩ σ) :
    Run k (some env.locals) (fun w ρ (_ : Unit) => EnvR k.g w ρ env) w L T (assignInOrder (xs.map fun n => bindName env n) Vs) := by
  induction h generalizing w Vs with
  | nil => cases rs; exact Run.pureS er.ob iv er hq
  | @cons ws ws1 ws2 x v xs vs hu _ ih =>
    cases rs with | @cons _ _ V rest r rs =>
    show Run k _ _ w L T (holding rest (bindName env x V) >>= fun _ => assignInOrder (xs.map fun n => bindName env n) rest)
    refine Run.bind (Run.holding (store_run (ρ := ⟨S, ws⟩) (L := fun ρ' σ' => ρ' = ⟨S, ws1⟩ ∧ σ' = σ) hu iv er r ⟨rfl, rfl⟩)) fun ρ' w' _ σ' st er' q => ?_
    obtain ⟨rfl, rfl⟩ := q
    exact ih st.inv er' (rs.ext st.ext) hq
theorem names_zip {f : Expr → Option Str} {line : Nat} (hf : ∀ id pos, f (.Name id pos) = if (env.kindOf id == some .local && pos.line == line) = true then some id else none) {xs : List Str} {ps : List Pos} (hl : xs.length = ps.length) (hk : ∀ x ∈ xs, env.kindOf x = some .local) (hp : ps.all (·.line == line) = true) :
    (List.zipWith Expr.Name xs ps).filterMap f = xs := by
  induction xs generalizing ps with
  | nil => rfl
  | cons x xs ih =>
    cases ps with
    | nil => cases hl
    | cons p ps =>
      rw [List.all_cons, Bool.and_eq_true] at hp
      rw [List.zipWith_cons_cons, List.filterMap_cons_some (b := x) (by rw [hf, hk x List.mem_cons_self, hp.1]; exact if_pos (by decide)), ih (Nat.succ.inj hl) (fun y hy => hk y (List.mem_cons_of_mem _ hy)) hp.2]
theorem x_swap {ts : List Expr} {xs : List Str} {ps : List Pos} (hts : ts = List.zipWith Expr.Name xs ps)
    (hb : (xs.length == ps.length && (xs.length == 2 || xs.length == 3) && xs.eraseDups.length == xs.length && ps.all (·.line == (ts.head?.map (·.pos.line)).getD 0) && swapB xs.length vs) = true)
    (h : EvS n ρ (.Tuple vs u' q') σ (fun v σ => ∃ us ws', v = .tup us ∧ us.length = xs.length ∧ Ups ρ.S.ns ρ.ws xs.reverse us.reverse ws' ∧ K (.next, ⟨ρ.S, ws'⟩) σ) T) : ExS n ρ (.Assign [.Tuple ts u q] (.Tuple vs u' q') p) σ K T := fun k w env F iv er ow => by
  rw [Bool.and_eq_true, Bool.and_eq_true, Bool.and_eq_true, Bool.and_eq_true, beq_iff_eq, beq_iff_eq] at hb
  obtain ⟨⟨⟨⟨h1, h2⟩, h3⟩, h4⟩, h5⟩ := hb
  rw [assign_eq fun _ _ => rfl]
  refine Run.standAt (Run.bindE (g := k.g) er (h k w env F iv er) fun v w1 V σ1 st er rv h => ?_)
  obtain ⟨us, ws', rfl, hl, hu, h⟩ := h
  have hk : ∀ x ∈ xs, env.kindOf x = some .local := fun x hx => hu.kinds ρ.S.nd (fun y z hy hz => by cases er with | mk f hm hr => cases hr y z hy <;> first | assumption | cases hz) x (List.mem_reverse.mpr hx)
  rw [swap_names (xs := xs) env er.f.kind h2 (by rw [hts, List.length_zipWith, h1, Nat.min_self]) rfl h3 h5 fun f hf => by rw [hts] at hf ⊢; exact names_zip hf h1 hk (hts ▸ h4), pure_bind]
  show Run k _ (FR k.g env) w1 K T (rule "assign.swapped-stores" >>= fun _ => unpackItems V xs.length none >>= fun items => assignInOrder (xs.reverse.map fun n => bindName env n) items.reverse >>= fun _ => pure Flow.next)
  refine Run.pre (wpC_rule ⟨rfl, unpack_run F st.inv rv hl.symm er fun w2 Vs st2 rs => ?_⟩)
  exact Run.bind (stores_run (L := fun ρ σ => K (.next, ρ) σ) hu st2.inv (er.ext st2.ext) rs.reverse h) fun ρ' w3 _ σ3 st3 er' h => Run.pureS er'.ob st3.inv (.next er') h
end
end Mine
end
section
namespace Mine

/-! objects of the tree's own, that no value stands for -/
inductive Odd (h : Heap) (b : Addr) : Prop
  | f {o : Obj} {vs : Array Value} : h.get? b = some o → o.data = .fields vs → Odd h b
  | d {o : Obj} {es : Array DictEntry} {n : Nat} : h.get? b = some o → o.data = .dict es n → Odd h b
structure Apart1 (k : Kx) (w : Wd) (b : Addr) : Prop where
  nm : ¬ Mut w.ι b
  nf : b ∉ framesOf k.l
  new : k.g.h₀.get? b = none
  odd : Odd w.h b
noncomputable def Apart (k : Kx) (w : Wd) (priv : List Addr) : Prop := ∀ b ∈ priv, Apart1 k w b
structure But (priv : List Addr) (h h' : Heap) : Prop where
  size : h.objs.size ≤ h'.objs.size
  keep : ∀ b o, b ∉ priv → h.get? b = some o → h'.get? b = some o
section
variable {k : Kx} {L : Option Addr} {w w₀ w' : Wd} {σ : St} {h h' h'' : Heap} {ρ : Loc} {env : Env} {priv : List Addr} {tk : Tok} {n : Nat}
theorem But.refl : But priv h h := ⟨Nat.le_refl _, fun _ _ _ e => e⟩
theorem But.trans (x : But priv h h') (y : But priv h' h'') : But priv h h'' := ⟨Nat.le_trans x.1 y.1, fun b o n e => y.2 b o n (x.2 b o n e)⟩
theorem But.more {p q : List Addr} (x : But p h h') (s : ∀ b ∈ p, b ∈ q) : But q h h' := ⟨x.1, fun b o n e => x.2 b o (fun m => n (s b m)) e⟩
theorem but_one {a : Addr} (x : Heap.SameBut a h h') (m : a ∈ priv) : But priv h h' := ⟨Nat.le_of_eq x.1.symm, fun b o hb e => (x.2 b fun q => hb (q ▸ m)).trans e⟩
theorem Apart.ext (a : Apart k w priv) (hL : ∀ b ∈ priv, L ≠ some b) (x : Ext k L w w') : Apart k w' priv ∧ ∀ b ∈ priv, ∀ o, w.h.get? b = some o → w'.h.get? b = some o := by
  have keep : ∀ b ∈ priv, ∀ o, w.h.get? b = some o → w'.h.get? b = some o := fun b hb o e => (x.kept b o (hL b hb) e (a b hb).nm).full (a b hb).nf
  refine ⟨fun b hb => ?_, keep⟩
  obtain ⟨a1, a2, a3, a4⟩ := a b hb
  cases a4 with
  | f e d => exact ⟨(x.kept b _ (hL b hb) e a1).nm, a2, a3, .f (keep b hb _ e) d⟩
  | d e d => exact ⟨(x.kept b _ (hL b hb) e a1).nm, a2, a3, .d (keep b hb _ e) d⟩
theorem Apart.at (a : Apart k w priv) (q : ∀ b ∈ priv, Odd h' b) : Apart k ⟨w.ι, { w.s with heap := h', toks := tk }⟩ priv := fun b hb => ⟨(a b hb).nm, (a b hb).nf, (a b hb).new, q b hb⟩
theorem Apart.no (a : Apart k w priv) {b : Addr} {o : Obj} (e : w.h.get? b = some o) (n1 : ∀ vs, o.data ≠ .fields vs) (n2 : ∀ es n, o.data ≠ .dict es n) : b ∉ priv := fun hb => by
  cases (a b hb).odd with
  | f e' d => exact n1 _ (Option.some.inj (e.symm.trans e') ▸ d)
  | d e' d => exact n2 _ _ (Option.some.inj (e.symm.trans e') ▸ d)
theorem Apart.kp (a : Apart k w priv) (x : But priv w.h h') : Kp w ⟨w.ι, { w.s with heap := h', toks := tk }⟩ :=
  ⟨fun b o vs n h d m => ⟨m, o.slots, x.2 b o (a.no h (fun _ q => by rw [d] at q; cases q) (fun _ _ q => by rw [d] at q; cases q)) h⟩, id⟩
theorem CellAt.but {a : Addr} {V : Value} (a' : Apart k w priv) (x : But priv w.h h') (c : CellAt w a V) : CellAt ⟨w.ι, { w.s with heap := h', toks := tk }⟩ a V := match c with
  | .mk h d n => .mk (x.2 _ _ (a'.no h (fun _ q => by rw [d] at q; cases q) (fun _ _ q => by rw [d] at q; cases q)) h) d n
theorem Step.but (a : Apart k w priv) (x : But priv w.h h') (f : ∀ b ∈ priv, w₀.h.get? b = none) (hL : ∀ b ∈ priv, L ≠ some b) (s : Step k L w₀ σ w) : Step k L w₀ σ ⟨w.ι, { w.s with heap := h', toks := tk }⟩ := by
  have e := s.ext
  have i := s.inv
  refine ⟨⟨e.more, Nat.le_trans e.size x.1, fun b o hL' eb hm => ?_, e.old, fun b hb => ?_, e.gens, e.os⟩, i.len, i.nd, i.nd1, i.top, Nat.le_trans i.size x.1, fun {j o} e => ?_, fun b o e => x.2 b o (fun hb => ?_) (i.keep b o e), fun en he => ?_⟩
  · have hb : b ∉ priv := fun q => by rw [f b q] at eb; cases eb
    obtain ⟨k1, ⟨sl, k2⟩, k3⟩ := e.kept b o hL' eb hm
    exact ⟨k1, ⟨sl, x.2 _ _ hb k2⟩, fun q => x.2 _ _ hb (k3 q)⟩
  · cases e.new b hb with | mk h d => exact .mk (x.2 _ _ (fun q => hL b q hb) h) d
  · obtain ⟨p, hp, r⟩ := i.obj e
    have n2 : p.2 ∉ priv := fun hb => (a _ hb).nm ⟨p, List.mem_of_getElem? hp, rfl⟩
    refine ⟨p, hp, r.to (a.kp x) (fun ob hob => x.2 _ _ ?_ hob) (fun ob hob => x.2 _ _ n2 hob) id⟩
    cases r with
    | inst n e1 e2 e3 e4 e5 => exact a.no e1 (fun _ q => by rw [e5] at q; cases q) (fun _ _ q => by rw [e5] at q; cases q)
    | list q => exact q ▸ n2
    | sdict q => exact q ▸ n2
    | idict q => exact q ▸ n2
    | ba q => exact q ▸ n2
  · rw [(a b hb).new] at e; cases e
  · cases i.fr en he with | @mk Lf _ _ _ e1 e2 e3 e4 e5 e6 =>
    exact .mk e1 e2 e3 e4 (x.2 _ _ (fun hb => (a Lf hb).nf (List.mem_filterMap.mpr ⟨en, he, e2⟩)) e5) e6
theorem ns_but {m : Str → Option Value} {a : Addr} (x : But priv h h') (hL : a ∉ priv) (n : h.Ns a m) : h'.Ns a m := let ⟨o, es, ep, ho, r⟩ := n; ⟨o, es, ep, x.2 _ _ hL ho, r⟩
theorem EnvR.but (a : Apart k w priv) (x : But priv w.h h') (hL : env.locals ∉ priv) (e : EnvR k.g w ρ env) : EnvR k.g ⟨w.ι, { w.s with heap := h', toks := tk }⟩ ρ env := match e with
  | .mk f l r => .mk f ⟨ns_but x hL l.ns, l.nm, l.new⟩ fun y u h => (r y u h).to (VRel.kp (a.kp x)) (CellAt.but a x) fun _ h => h
end

/-! iterators -/
/-- an iterator of the tree's own, and what it gives -/
structure Draw (k : Kx) (I : Addr) (target : Expr) (priv : List Addr) (nx : Nat → St → Option (Option MV)) (P : Nat → Wd → Prop) : Prop where
  frame : ∀ j w w', P j w → Kp w w' → (∀ b ∈ priv, ∀ o, w.h.get? b = some o → w'.h.get? b = some o) → P j w'
  odd : ∀ j w, P j w → ∀ b ∈ priv, Odd w.h b
  item : ∀ {w : Wd} {σ : St} {j : Nat} {v : MV} (Q : Option Value → Shared → Prop) (E : Value → Shared → Prop), Inv k w σ → Apart k w priv → P j w → nx j σ = some (some v) →
    (∀ V h' tk, But priv w.h h' → (∀ b ∈ priv, Odd h' b) → VRel ⟨w.ι, { w.s with heap := h', toks := tk }⟩ v V →
      (∀ (Q' : Unit → Shared → Prop) (E' : Value → Shared → Prop), (∀ h'', But priv h' h'' → P (j + 1) ⟨w.ι, { w.s with heap := h'', toks := tk }⟩ → Q' () { w.s with heap := h'', toks := tk }) → wpAny k.M k.A (letOwnedTupleGo target (.ref I) V) Q' E' { w.s with heap := h', toks := tk }) →
      Q (some V) { w.s with heap := h', toks := tk }) → wpAny k.M k.A (pyNext (.ref I)) Q E w.s
  stop : ∀ {w : Wd} {σ : St} {j : Nat} (Q : Option Value → Shared → Prop) (E : Value → Shared → Prop), Inv k w σ → Apart k w priv → P j w → nx j σ = some none →
    (∀ h', But priv w.h h' → Q none { w.s with heap := h' }) → wpAny k.M k.A (pyNext (.ref I)) Q E w.s
  self : ∀ {w : Wd} {j : Nat} (Q : Value → Shared → Prop) (E : Value → Shared → Prop), P j w → Q (.ref I) w.s → wpAny k.M k.A (pyIter (.ref I)) Q E w.s
noncomputable def contK (N : Loc → St → Prop) (K : Fl × Loc → St → Prop) : Fl × Loc → St → Prop := fun f σ => match f.1 with
  | .next => N f.2 σ
  | .ret _ => K f σ
/-- a loop's turns -/
noncomputable def LoopS (step : Loc → MV → St → (Fl × Loc → St → Prop) → Prop) (nx : Nat → St → Option (Option MV)) (K : Fl × Loc → St → Prop) : Nat → Nat → Loc → St → Prop
  | 0, _, _, _ => False
  | f + 1, j, ρ, σ => match nx j σ with
    | none => False
    | some none => K (.next, ρ) σ
    | some (some v) => step ρ v σ (contK (LoopS step nx K f (j + 1)) K)
noncomputable def turn (n : Nat) (t : Expr) (b : List Stmt) (ρ : Loc) (v : MV) (σ : St) (K : Fl × Loc → St → Prop) : Prop := AsgS n ρ t v σ (fun ρ σ => ExLS n ρ b σ K (fun _ => False)) (fun _ => False)
section
variable {k : Kx} {w w₀ : Wd} {σ : St} {ρ : Loc} {env : Env} {n : Nat} {T : St → Prop} {K : Fl × Loc → St → Prop} {p : Pos} {t it : Expr} {b : List Stmt} {priv : List Addr} {I : Addr} {nx : Nat → St → Option (Option MV)} {P : Nat → Wd → Prop}
theorem code_draw (D : Draw k I t priv nx P) (F : Fit k n) (ow : Own k env) (hL : env.locals ∉ priv) (f : ∀ b ∈ priv, w₀.h.get? b = none) {fuel j : Nat} {ρ : Loc} {σ : St} {w : Wd} (st : Step k (some env.locals) w₀ σ w) (er : EnvR k.g w ρ env) (ap : Apart k w priv) (p : P j w) (h : LoopS (turn n t b) nx K fuel j ρ σ) :
    codeC k.M k.A (.forLoop t (.ref I) b [] env) (fun res s' => match res with | .ok F => Got k (some env.locals) (FR k.g env) w₀ K F s' | .error _ => False) w.s := by
  have hL' : ∀ b ∈ priv, some env.locals ≠ some b := fun b hb e => hL (Option.some.inj e ▸ hb)
  induction fuel generalizing j ρ σ w with
  | zero => exact h.elim
  | succ fuel ih =>
    refine codeC_of_tree rfl ?_
    rw [Around.under_of_weight rfl]
    show wpC _ k.A ((forTurn t (.ref I) b [] env).onRaise _) _ _ w.s
    refine wpC_onRaise ?_
    unfold forTurn
    refine wpC_bind (wpC_standAt ?_)
    unfold LoopS at h
    cases e : nx j σ with
    | none => rw [e] at h; exact h.elim
    | some r =>
      rw [e] at h
      cases r with
      | none =>
        refine wpC_bindA (wpAny_onRaise (D.stop _ _ st.inv ap p e fun h' bt => ?_))
        refine wpC_pure ⟨rfl, codeC_of_tree rfl ?_⟩
        rw [Around.under_of_weight rfl]
        show wpC _ k.A (((execs [] env).onRaise _ >>= fun f => pure (PySem.Fin.done f)) : Sem PySem.Fin) _ _ _
        refine wpC_bind (wpC_onRaise (wpC_of (wpAny_execs_nil (wpC_pure (.mk (st.but (tk := w.s.toks) ap bt f hL') (.next (er.but ap bt hL)) h)))))
      | some v =>
        refine wpC_bindA (wpAny_onRaise (D.item _ _ st.inv ap p e fun V h' tk bt od rv go => ?_))
        dsimp only
        refine wpC_bindA (go _ _ fun h'' bt2 p2 => ?_)
        have bt3 := bt.trans bt2
        have ap2 := (ap.at (tk := tk) (D.odd _ _ p2))
        have st2 := st.but (tk := tk) ap bt3 f hL'
        have er2 := er.but (tk := tk) ap bt3 hL
        have rv2 : VRel ⟨w.ι, { w.s with heap := h'', toks := tk }⟩ v V := rv.kp ((ap.at (tk := tk) od).kp (tk := tk) bt2)
        have main : Run k (some env.locals) (FR k.g env) ⟨w.ι, { w.s with heap := h'', toks := tk }⟩ (contK (LoopS (turn n t b) nx K fuel (j + 1)) K) (fun _ => False) (assign t env V >>= fun _ => execs b env) :=
          Run.bind (h k _ env V F st2.inv er2 rv2) fun ρ' w3 _ σ3 st3 er3 h => h k w3 env F st3.inv er3 ow
        have regroup : ∀ (k : Flow → Sem PySem.Fin), (assign t env V >>= fun _ => execs b env >>= k) = ((assign t env V >>= fun _ => execs b env) >>= k) := fun k => by rw [bind_assoc]
        refine wpC_of_eq (regroup _) (wpC_bind (wpC_mono main (fun F' s' q => ?_) fun _ _ q => by cases q with | mk _ _ q => exact q.elim))
        cases q with | @mk v _ σ3 w3 st3 fr q =>
        obtain ⟨ap3, kp3⟩ := ap2.ext hL' st3.ext
        cases fr with
        | next er3 => exact wpC_pure ⟨rfl, ih (st2.trans st3) er3 ap3 (D.frame _ _ _ p2 st3.ext.kp kp3) q⟩
        | ret rv er3 => exact wpC_pure (.mk (st2.trans st3) (.ret rv er3) q)
theorem wpC_runOwn {c : Code} {M : Model} {A : Around} {s : Shared} {Q : Flow → Shared → Prop} {E : Value → Shared → Prop} (h : codeC M A c (fun res s' => match res with | .ok F => Q F s' | .error _ => False) s) : wpC M A (runOwn c env) Q E s :=
  wpC_onRaise (wpC_run (codeC_mono (A := A.mark none) h fun r s' q => by
    rcases r with e | f
    · exact q.elim
    · exact q))
/-- from a new iterator on -/
theorem run_draw {h' : Heap} {tk fuel : Nat} (D : Draw k I t priv nx P) (F : Fit k n) (ow : Own k env) (iv : Inv k w σ) (er : EnvR k.g w ρ env) (hk : ∀ b o, w.h.get? b = some o → h'.get? b = some o) (hs : w.h.objs.size ≤ h'.objs.size)
    (hp : ∀ b ∈ priv, w.h.objs.size ≤ b) (p : P 0 ⟨w.ι, { w.s with heap := h', toks := tk }⟩) (h : LoopS (turn n t b) nx K fuel 0 ρ σ) :
    wpC k.M k.A (runOwn (.forLoop t (.ref I) b [] env) env) (Got k (some env.locals) (FR k.g env) w K) (Err k (some env.locals) w T) { w.s with heap := h', toks := tk } := by
  have st := iv.grow (tk := tk) hk hs
  have fresh : ∀ b ∈ priv, w.h.get? b = none := fun b hb => Heap.get?_none_of_le (hp b hb)
  have hL : env.locals ∉ priv := fun hb => by cases er.ob with | mk e _ => rw [fresh _ hb] at e; cases e
  refine wpC_runOwn (code_draw D F ow hL fresh (st.up er.ob er.nm) (er.ext st.ext) (fun b hb => ?_) p h)
  obtain ⟨n1, n2⟩ := iv.fresh0 (fresh b hb)
  exact ⟨n1, fun q => (by obtain ⟨_, _, o, ho, _⟩ := iv.frame q; rw [fresh b hb] at ho; cases ho), n2, D.odd _ _ p b hb⟩
end
end Mine
end
section
open AutoSeq1 (wpAny_loadPart')
namespace Mine

/-! what is drawn from a list, a tuple, a range, an enumeration -/
/-- targets behind which no tuple is let go -/
theorem letGo_at {M : Model} {A : Around} {s : Shared} {target : Expr} {I : Addr} {V : Value} {o : Obj} (ho : s.heap.get? I = some o) (hc : o.cls = .type "list_iterator" ∨ o.cls = .type "tuple_iterator" ∨ o.cls = .type "range_iterator") {Q : Unit → Shared → Prop} {E : Value → Shared → Prop} (h : Q () s) :
    wpAny M A (letOwnedTupleGo target (.ref I) V) Q E s := by
  unfold letOwnedTupleGo
  have go : wpAny M A (do
      let (.ref r, .ref a) := (Value.ref I, V) | return
      let o ← load r
      match o.cls, o.data with
      | .type n, .fields vs =>
        if ["enumerate", "zip", "dict_itemiterator", "dict_reverseitemiterator", "odict_iterator", "itertools.zip_longest", "itertools.pairwise"].contains n && vs[0]? == some (rawInt a) then
          rule "for.unpacks-the-owned-tuple"
          updateField r 0 .none
      | _, _ => pure ()) Q E s := by
    split
    · rename_i r a e
      cases e
      refine wpAny_bind (wpAny_load ho ?_)
      split
      · rename_i n vs e1 e2
        have : (["enumerate", "zip", "dict_itemiterator", "dict_reverseitemiterator", "odict_iterator", "itertools.zip_longest", "itertools.pairwise"].contains n) = false := by
          rw [e1] at hc
          rcases hc with q | q | q <;> (cases q; decide +kernel)
        rw [this, Bool.false_and, if_neg Bool.false_ne_true]
        exact wpAny_pure h
      · exact wpAny_pure h
    · exact wpAny_pure h
  split
  · exact go
  · exact go
  · exact wpAny_pure h

noncomputable def nxList (i : Nat) : Nat → St → Option (Option MV) := fun j σ => match σ[i]? with | some (.list l) => some (l[j]?) | _ => none
noncomputable def nxEnum (i : Nat) : Nat → St → Option (Option MV) := fun j σ => match σ[i]? with | some (.list l) => some ((l[j]?).map fun v => .tup [.int (j : Nat), v]) | _ => none
noncomputable def nxTup (l : List MV) : Nat → St → Option (Option MV) := fun j _ => some (l[j]?)
noncomputable def nxRange (n : Int) : Nat → St → Option (Option MV) := fun j _ => some (if (j : Int) < n then some (.int j) else none)
section
variable {k : Kx} {w : Wd} {σ : St} {ρ : Loc} {env : Env} {n : Nat} {T : St → Prop} {K : Fl × Loc → St → Prop} {p : Pos} {t it : Expr} {b : List Stmt} {I ax : Addr} {i : Nat}
theorem VRels.none {w : Wd} {l : List MV} {vs : List Value} (r : VRels w l vs) {j : Nat} (e : l[j]? = none) : vs.toArray[j]? = none := by
  rw [List.getElem?_toArray, List.getElem?_eq_none_iff, r.len]
  exact List.getElem?_eq_none_iff.mp e
theorem nxList_of {j : Nat} {r : Option MV} (e : nxList i j σ = some r) : ∃ l, σ[i]? = some (.list l) ∧ l[j]? = r := by
  unfold nxList at e
  cases q : σ[i]? with
  | none => rw [q] at e; cases e
  | some o => cases o with
    | list l => rw [q] at e; exact ⟨l, rfl, Option.some.inj e⟩
    | _ => rw [q] at e; cases e
theorem nxEnum_of {j : Nat} {r : Option MV} (e : nxEnum i j σ = some r) : ∃ l, σ[i]? = some (.list l) ∧ (l[j]?).map (fun v => .tup [.int (j : Nat), v]) = r := by
  unfold nxEnum at e
  cases q : σ[i]? with
  | none => rw [q] at e; cases e
  | some o => cases o with
    | list l => rw [q] at e; exact ⟨l, rfl, Option.some.inj e⟩
    | _ => rw [q] at e; cases e
theorem odd_one {h : Heap} {priv : Addr} (q : Odd h priv) : ∀ b ∈ [priv], Odd h b := fun b hb => List.mem_singleton.mp hb ▸ q
theorem but_end {h h' : Heap} {priv : List Addr} {I : Addr} (hI : I ∈ priv) (sz : h.objs.size ≤ h'.objs.size) (eb : ∀ b o, b ≠ I → h.get? b = some o → h'.get? b = some o) : But priv h h' := ⟨sz, fun b o hb e => eb b o (fun q => hb (q ▸ hI)) e⟩
theorem draw_list (hh : k.A.handled = none) : Draw k I t [I] (nxList i) (fun j w => w.h.IsListIter I ax j ∧ VRel w (.ref i) (.ref ax)) where
  frame := fun j w w' p kp kb => ⟨let ⟨⟨o, ho, r⟩, _⟩ := p; ⟨o, kb I (List.mem_singleton.mpr rfl) o ho, r⟩, p.2.kp kp⟩
  odd := fun j w p => odd_one (let ⟨⟨o, ho, hc, hd⟩, _⟩ := p; .f ho hd)
  item := fun {w σ j v} Q E iv ap p e hQ => by
    obtain ⟨l, em, ej⟩ := nxList_of e
    obtain ⟨p1, p2⟩ := p
    generalize hax : Value.ref ax = V at p2
    revert hax
    refine Inv.listE (P := fun V => Value.ref ax = V → _) iv em p2 fun a vs hp hl hr hax => ?_
    obtain rfl : ax = a := Value.ref.inj hax
    obtain ⟨U, hU, rv⟩ := hr.get ej
    refine wpAny_pyNext_list_item p1 hl.list (x := U) (arr_get hU) fun h' it' sb => ?_
    obtain ⟨o', ho', hc', hd'⟩ := id it'
    have hb : But [I] w.h h' := but_one sb (List.mem_singleton.mpr rfl)
    exact hQ U h' w.s.toks hb (odd_one (.f ho' hd')) (rv.kp (ap.kp hb)) fun Q' E' q => letGo_at ho' (.inl hc') (q h' .refl ⟨it', (VRel.ref hp).kp (ap.kp hb)⟩)
  stop := fun {w σ j} Q E iv ap p e hQ => by
    obtain ⟨l, em, ej⟩ := nxList_of e
    obtain ⟨p1, p2⟩ := p
    generalize hax : Value.ref ax = V at p2
    revert hax
    refine Inv.listE (P := fun V => Value.ref ax = V → _) iv em p2 fun a vs hp hl hr hax => ?_
    obtain rfl : ax = a := Value.ref.inj hax
    exact wpAny_size (wpAny_pyNext_list_end hh p1 hl.list (hr.none ej) fun h' eb sz => hQ h' (but_end (List.mem_singleton.mpr rfl) sz eb))
  self := fun Q E p h => wpAny_pyIter_listiter p.1 h
theorem draw_tuple {l : List MV} {ax : Addr} (hh : k.A.handled = none) : Draw k I t [I] (nxTup l) (fun j w => w.h.IsTupleIter I ax j ∧ VRel w (.tup l) (.ref ax)) where
  frame := fun j w w' p kp kb => ⟨let ⟨⟨o, ho, r⟩, _⟩ := p; ⟨o, kb I (List.mem_singleton.mpr rfl) o ho, r⟩, p.2.kp kp⟩
  odd := fun j w p => odd_one (let ⟨⟨o, ho, hc, hd⟩, _⟩ := p; .f ho hd)
  item := fun {w σ j v} Q E iv ap p e hQ => by
    obtain ⟨p1, p2⟩ := p
    have p3 := p2
    generalize hax : Value.ref ax = V at p2
    revert hax
    refine VRel.tupE (P := fun V => Value.ref ax = V → _) p2 fun a vs hl _ hr hax => ?_
    obtain rfl : ax = a := Value.ref.inj hax
    obtain ⟨U, hU, rv⟩ := hr.get (Option.some.inj e)
    refine wpAny_pyNext_tuple_item p1 hl.tup (x := U) (arr_get hU) fun h' it' sb => ?_
    obtain ⟨o', ho', hc', hd'⟩ := id it'
    have hb : But [I] w.h h' := but_one sb (List.mem_singleton.mpr rfl)
    exact hQ U h' w.s.toks hb (odd_one (.f ho' hd')) (rv.kp (ap.kp hb)) fun Q' E' q => letGo_at ho' (.inr (.inl hc')) (q h' .refl ⟨it', p3.kp (ap.kp hb)⟩)
  stop := fun {w σ j} Q E iv ap p e hQ => by
    obtain ⟨p1, p2⟩ := p
    generalize hax : Value.ref ax = V at p2
    revert hax
    refine VRel.tupE (P := fun V => Value.ref ax = V → _) p2 fun a vs hl _ hr hax => ?_
    obtain rfl : ax = a := Value.ref.inj hax
    exact wpAny_size (wpAny_pyNext_tuple_end hh p1 hl.tup (hr.none (Option.some.inj e)) fun h' eb sz => hQ h' (but_end (List.mem_singleton.mpr rfl) sz eb))
  self := fun Q E p h => wpAny_pyIter_tupleiter p.1 h
theorem draw_range {z : Int} (hh : k.A.handled = none) : Draw k I t [I] (nxRange z) (fun j w => IsRangeIter w.h I (j : Int) (z - j) 1) where
  frame := fun j w w' p kp kb => kb I (List.mem_singleton.mpr rfl) _ p
  odd := fun j w p => odd_one (.f p rfl)
  item := fun {w σ j v} Q E iv ap p e hQ => by
    have e := Option.some.inj e
    by_cases h : (j : Int) < z
    · rw [if_pos h] at e
      cases e
      refine wpAny_pyNext_range_item p (by omega) fun h' it' sb => ?_
      have hb : But [I] w.h h' := but_one sb (List.mem_singleton.mpr rfl)
      refine hQ _ h' _ hb (odd_one (.f it' rfl)) (.int _ _) fun Q' E' q => letGo_at it' (.inr (.inr rfl)) (q h' .refl ?_)
      show IsRangeIter h' I ((j + 1 : Nat) : Int) (z - ((j + 1 : Nat) : Int)) 1
      rw [show z - ((j + 1 : Nat) : Int) = z - j - 1 by omega]
      exact it'
    · rw [if_neg h] at e; cases e
  stop := fun {w σ j} Q E iv ap p e hQ => by
    have e := Option.some.inj e
    by_cases h : (j : Int) < z
    · rw [if_pos h] at e; cases e
    · exact wpAny_size (wpAny_pyNext_range_end hh p (by omega) fun h' eb sz => hQ h' (but_end (List.mem_singleton.mpr rfl) sz eb))
  self := fun Q E p h => wpAny_pyIter_rangeiter p h
theorem draw_enum {e it : Addr} {ts : List Expr} {u : Nat} {tp : Pos} (hh : k.A.handled = none) (hne : e ≠ it) : Draw k e (.Tuple ts u tp) [e, it] (nxEnum i) (fun j w => (∃ old, IsEnum w.h e it (j : Int) old) ∧ w.h.IsListIter it ax j ∧ VRel w (.ref i) (.ref ax)) where
  frame := fun j w w' p kp kb => by
    obtain ⟨⟨old, p1⟩, ⟨o, ho, r⟩, p3⟩ := p
    exact ⟨⟨old, kb e List.mem_cons_self _ p1⟩, ⟨o, kb it (List.mem_cons_of_mem _ List.mem_cons_self) o ho, r⟩, p3.kp kp⟩
  odd := fun j w p => by
    obtain ⟨⟨old, p1⟩, ⟨o, ho, hc, hd⟩, p3⟩ := p
    exact List.forall_mem_cons.mpr ⟨.f p1 rfl, odd_one (.f ho hd)⟩
  item := fun {w σ j v} Q E iv ap p en hQ => by
    obtain ⟨l, em, ej⟩ := nxEnum_of en
    obtain ⟨u, eu, rfl⟩ := Option.map_eq_some_iff.mp ej
    obtain ⟨⟨old, p1⟩, p2, p3⟩ := p
    generalize hax : Value.ref ax = V at p3
    revert hax
    refine Inv.listE (P := fun V => Value.ref ax = V → _) iv em p3 fun a vs hp hl hr hax => ?_
    obtain rfl : ax = a := Value.ref.inj hax
    obtain ⟨U, hU, rv⟩ := hr.get eu
    refine wpAny_pyNext_enum_item p1 p2 hl.list (x := U) (arr_get hU) hne fun h' he' it' ht' hz' hk' => ?_
    have hb : But [e, it] w.h h' := ⟨by rw [hz']; exact Nat.le_succ _, fun b o hb eb => hk' b o (fun q => hb (q ▸ List.mem_cons_self)) (fun q => hb (q ▸ List.mem_cons_of_mem _ List.mem_cons_self)) eb⟩
    obtain ⟨oi, hoi, hci, hdi⟩ := id it'
    have od : ∀ b ∈ [e, it], Odd h' b := List.forall_mem_cons.mpr ⟨.f he' rfl, odd_one (.f hoi hdi)⟩
    refine hQ _ h' _ hb od ?_ fun Q' E' q => ?_
    · exact .tup (vs := [.int j w.s.toks, U]) (.mk ht' rfl rfl rfl) (iv.fresh (Nat.le_refl _)) (.cons (.int _ _) (.one (rv.kp (ap.kp hb))))
    · refine wpAny_letOwnedTupleGo_enum he' fun h'' he'' sb => ?_
      have hb2 : But [e, it] h' h'' := but_one sb List.mem_cons_self
      exact q h'' hb2 ⟨⟨U, he''⟩, it'.extBut sb.extBut (Ne.symm hne), (VRel.ref hp).kp (ap.kp (hb.trans hb2))⟩
  stop := fun {w σ j} Q E iv ap p en hQ => by
    obtain ⟨l, em, ej⟩ := nxEnum_of en
    rw [Option.map_eq_none_iff] at ej
    obtain ⟨⟨old, p1⟩, p2, p3⟩ := p
    generalize hax : Value.ref ax = V at p3
    revert hax
    refine Inv.listE (P := fun V => Value.ref ax = V → _) iv em p3 fun a vs hp hl hr hax => ?_
    obtain rfl : ax = a := Value.ref.inj hax
    exact wpAny_size (wpAny_pyNext_enum_end hh p1 p2 hl.list (hr.none ej) fun h' eb sz => hQ h' (but_end (List.mem_cons_of_mem _ List.mem_cons_self) sz eb))
  self := fun {w j} Q E p h => let ⟨⟨_, p1⟩, _, _⟩ := p; wpAny_pyIter_enum p1 h
end
end Mine
end
section
namespace Mine

/-! loops -/
section
variable {k : Kx} {w : Wd} {σ : St} {ρ : Loc} {env : Env} {n : Nat} {T : St → Prop} {K : Fl × Loc → St → Prop} {p fp cp : Pos} {t it e : Expr} {b : List Stmt} {i : Nat} {f : Str}
theorem for_tail {V : Value} {v : MV} (F : Fit k n) (ow : Own k env) (iv : Inv k w σ) (er : EnvR k.g w ρ env) (rv : VRel w v V)
    (h : (∃ i, v = .ref i ∧ (∃ l, σ[i]? = some (.list l)) ∧ LoopS (turn n t b) (nxList i) K 100 0 ρ σ) ∨ ∃ l, v = .tup l ∧ LoopS (turn n t b) (nxTup l) K 100 0 ρ σ) :
    Run k (some env.locals) (FR k.g env) w K T (holding [V] (pyIter V) >>= fun it => runOwn (.forLoop t it b [] env) env) := by
  rcases h with ⟨i, rfl, ⟨l, hl⟩, h⟩ | ⟨l, rfl, h⟩
  · refine Inv.listE iv hl rv fun a vs hp ht hr => wpC_bindA (wpAny_holding (wpAny_pyIter_list ht.list ?_))
    exact run_draw (tk := w.s.toks) (draw_list (I := w.h.objs.size) (ax := a) F.hand) F ow iv er (push_keeps _) (push_le _) (fun b hb => by rw [List.mem_singleton.mp hb]; exact Nat.le_refl _)
      ⟨⟨_, Heap.get?_push_size _ rfl, rfl, rfl⟩, (VRel.ref hp).kp (iv.grow (push_keeps _) (push_le _)).ext.kp⟩ h
  · have rv0 := rv
    revert rv0
    refine VRel.tupE rv fun a vs ht hm hr rv0 => wpC_bindA (wpAny_holding (wpAny_pyIter_tuple ht.tup ?_))
    exact run_draw (tk := w.s.toks) (draw_tuple (I := w.h.objs.size) (ax := a) F.hand) F ow iv er (push_keeps _) (push_le _) (fun b hb => by rw [List.mem_singleton.mp hb]; exact Nat.le_refl _)
      ⟨⟨_, Heap.get?_push_size _ rfl, rfl, rfl⟩, rv0.kp (iv.grow (push_keeps _) (push_le _)).ext.kp⟩ h
theorem x_for (hf : ∀ env x, foldedSetIterable it env x = pure x) (h : EvS n ρ it σ (fun v σ => (∃ i, v = .ref i ∧ (∃ l, σ[i]? = some (.list l)) ∧ LoopS (turn n t b) (nxList i) K 100 0 ρ σ) ∨ ∃ l, v = .tup l ∧ LoopS (turn n t b) (nxTup l) K 100 0 ρ σ) T) : ExS n ρ (.For t it b [] p) σ K T := fun k w env F iv er ow => by
  rw [PySem.exec_For]
  refine Run.standAt (Run.bindE (g := k.g) er (h k w env F iv er) fun v w1 V σ1 st er rv h => ?_)
  rw [hf]
  exact Run.pre (wpC_pure ⟨rfl, Run.standAt (for_tail F ow st.inv er rv h)⟩)
/-- a built-in kind called over one argument -/
theorem call1 {Tn : String} {P E : Value → Shared → Prop} {L : MV → St → Prop} (F : Fit k n) (iv : Inv k w σ) (er : EnvR k.g w ρ env) (hs : isStar e = false) (a : ρ.at f .gl) (hb : (f, Value.type Tn) ∈ blts) (h : EvS n ρ e σ L T)
    (hok : ∀ v w' V σ', Step k none w σ' w' → VRel w' v V → L v σ' → wpC k.M k.A (call (.type Tn) [V]) P E w'.s) (herr : ∀ a s, Err k none w T a s → E a s) :
    wpC k.M k.A (eval (.Call (.Name f fp) [e] [] cp) env) P E w.s := by
  obtain ⟨h0, h1⟩ := F.top.blt _ hb
  rw [eval_CallName]
  refine wpC_bindA (wpAny_Name (load_mb er.f (er.gl a) (iv.nsg F) (iv.nsb F) h0 h1 ?_) (plain_debug (Loc.plain a)))
  rw [starEach_cons hs]
  refine callWithC (backTo_any (by rw [List.any_cons, Bool.false_or]; rfl)) ?_
  show wpC k.M k.A (eval e env >>= fun v => pure [v] >>= fun here => (holding here (spliced []) >>= fun r => pure (here ++ r))) _ _ _
  refine wpC_bind (wpC_mono (h k w env F iv er) (fun V s' q => ?_) fun _ _ g => herr _ _ g)
  cases q with | @mk v _ σ1 w1 st rv q =>
  exact wpC_bind (wpC_pure (wpC_bind (wpC_holding (wpC_pure (wpC_pure ⟨fun Q E h => keeper_type h, hok v w1 V σ1 st rv q⟩)))))
theorem range_iter {z : Int} {tk : Tok} {P E : Value → Shared → Prop} (h0 : 0 ≤ z) (h1 : z ≤ sz)
    (h : ∀ I h' tk', (∀ b o, w.h.get? b = some o → h'.get? b = some o) → w.h.objs.size ≤ h'.objs.size → w.h.objs.size ≤ I → IsRangeIter h' I ((0 : Nat) : Int) (z - ((0 : Nat) : Int)) 1 → P (.ref I) { w.s with heap := h', toks := tk' }) :
    wpC k.M k.A (call (.type "range") [.int z tk]) (fun r s => wpC k.M k.A (pyIter r) P E s) E w.s := by
  have h2 : z ≤ 10000 := h1
  have hz : Builtin.Range.rangeSize 0 z 1 = z - ((0 : Nat) : Int) := by
    rw [rangeSize_one]
    split <;> omega
  refine wpC_of (call_range_1 (wpC_of (wpAny_pyIter_range (IsRange.new ..) (small_one (by decide) (by decide) (by omega) (by omega)) ?_)))
  rw [Heap.size_push, hz]
  have := Heap.get?_push_size (w.s.heap.push { cls := .type "range", data := .fields #[.int 0 w.s.toks, .int z tk, .int 1 (w.s.toks + 1)] }) (o := { cls := .type "range_iterator", data := .fields #[rawInt 0, rawInt (z - ((0 : Nat) : Int)), rawInt 1] }) rfl
  rw [Heap.size_push] at this
  exact h _ _ _ (fun b o e => Heap.get?_push_of_some _ (Heap.get?_push_of_some _ e)) (by rw [Heap.size_push, Heap.size_push]; exact Nat.le_trans (Nat.le_succ _) (Nat.le_succ _)) (Nat.le_succ _) this
theorem mem_range : (("range" : Str), Value.type "range") ∈ blts := by unfold blts; exact .tail _ (.tail _ (.tail _ (.tail _ (.tail _ (.tail _ (.head _))))))
theorem x_for_range {u : Nat} (hf : f = "range") (hs : isStar e = false) (a : ρ.at f .gl) (h : EvS n ρ e σ (fun v σ => ∃ z, v = .int z ∧ 0 ≤ z ∧ z ≤ sz ∧ LoopS (turn n t b) (nxRange z) K u 0 ρ σ) T) : ExS n ρ (.For t (.Call (.Name f fp) [e] [] cp) b [] p) σ K T := fun k w env F iv er ow => by
  subst hf
  rw [PySem.exec_For]
  refine Run.standAt (wpC_bind (call1 F iv er hs a mem_range h (fun v w' V σ' st rv h => ?_) fun _ _ g => match g with | .mk st x q => .mk (st.up er.ob er.nm) x q))
  obtain ⟨z, rfl, h0, h1, h⟩ := h
  revert st
  refine VRel.intE rv fun tk st => ?_
  have st' := st.up er.ob er.nm
  have fold : ∀ x, foldedSetIterable (.Call (.Name ("range" : Str) fp) [e] [] cp) env x = pure x := fun _ => rfl
  exact wpC_mono (range_iter h0 h1 fun I h' tk' hk hs hI p => wpC_mono (run_draw (w := w') (draw_range F.hand) F ow st.inv (er.ext st.ext) hk hs (fun b hb => List.mem_singleton.mp hb ▸ hI) p h) (fun _ _ g => g.then st') (fun _ _ g => g.then st'))
    (fun r s q => wpC_bind (wpC_of_eq (fold _) (wpC_pure (wpC_bind (wpC_standAt (wpC_bind (wpC_holding q))))))) (fun _ _ q => q)
theorem x_for_enum {u : Nat} {ts : List Expr} {tp : Pos} {m : Nat} (hf : f = "enumerate") (hs : isStar e = false) (a : ρ.at f .gl) (h : EvS n ρ e σ (fun v σ => ∃ i, v = .ref i ∧ (∃ l, σ[i]? = some (.list l)) ∧ LoopS (turn n (.Tuple ts m tp) b) (nxEnum i) K u 0 ρ σ) T) : ExS n ρ (.For (.Tuple ts m tp) (.Call (.Name f fp) [e] [] cp) b [] p) σ K T := fun k w env F iv er ow => by
  subst hf
  rw [PySem.exec_For]
  refine Run.standAt (wpC_bind (call1 (Tn := "enumerate") F iv er hs a (by unfold blts; exact .tail _ (.tail _ (.tail _ (.tail _ (.tail _ (.tail _ (.tail _ (.head _)))))))) h (fun v w' V σ' st rv h => ?_) fun _ _ g => match g with | .mk st x q => .mk (st.up er.ob er.nm) x q))
  obtain ⟨i, rfl, ⟨l, hl⟩, h⟩ := h
  have st' := st.up er.ob er.nm
  refine Inv.listE st.inv hl rv fun a vs hp ht hr => wpC_of (call_enumerate_list ht.list fun h' he hit hz hk => ?_)
  have fold : ∀ x, foldedSetIterable (.Call (.Name ("enumerate" : Str) fp) [e] [] cp) env x = pure x := fun _ => rfl
  refine wpC_bind (wpC_of_eq (fold _) (wpC_pure (wpC_bind (wpC_standAt (wpC_bindA (wpAny_holding (wpAny_pyIter_enum he ?_)))))))
  have hs : w'.s.heap.objs.size ≤ h'.objs.size := by rw [hz]; exact Nat.le_add_right _ _
  exact wpC_mono (run_draw (w := w') (tk := w'.s.toks) (draw_enum F.hand (Nat.succ_ne_self _)) F ow st.inv (er.ext st.ext) hk hs (List.forall_mem_cons.mpr ⟨Nat.le_succ _, fun b hb => List.mem_singleton.mp hb ▸ Nat.le_refl _⟩)
    ⟨⟨_, he⟩, hit, (VRel.ref hp).kp (st.inv.grow hk hs).ext.kp⟩ h) (fun _ _ g => g.then st') (fun _ _ g => g.then st')
/-- while -/
noncomputable def WhileS (n : Nat) (t : Expr) (b : List Stmt) (K : Fl × Loc → St → Prop) : Nat → Loc → St → Prop
  | 0, _, _ => False
  | u + 1, ρ, σ => TstS n ρ t σ (fun c σ => Br c (ExLS n ρ b σ (contK (WhileS n t b K u) K) fun _ => False) (K (.next, ρ) σ)) fun _ => False
theorem code_while {w₀ : Wd} (F : Fit k n) (ow : Own k env) {u : Nat} : ∀ {ρ : Loc} {σ : St} {w : Wd}, Step k (some env.locals) w₀ σ w → EnvR k.g w ρ env → WhileS n t b K u ρ σ →
    codeC k.M k.A (.whileLoop t b [] env) (fun res s' => match res with | .ok F => Got k (some env.locals) (FR k.g env) w₀ K F s' | .error _ => False) w.s := by
  induction u with
  | zero => exact fun _ _ h => h.elim
  | succ u ih =>
    intro ρ σ w st er h
    refine codeC_of_tree rfl ?_
    rw [Around.under_of_weight rfl]
    show wpC _ k.A ((whileTurn t b [] env).onRaise _) _ _ w.s
    refine wpC_onRaise ?_
    unfold whileTurn
    refine wpC_bind (wpC_mono (h k w env F st.inv er) (fun c s2 q => ?_) fun _ _ q => by cases q with | mk _ _ q => exact q.elim)
    cases q with | @mk c _ σ2 w2 st2 rc q =>
    subst rc
    have st3 := st.trans (st2.up er.ob er.nm)
    have er2 := er.ext st2.ext
    cases c with
    | false => exact wpC_bind (wpC_of (wpAny_execs_nil (wpC_pure (.mk st3 (.next er2) (q.f rfl)))))
    | true =>
      refine wpC_bind (wpC_mono (q.t rfl k w2 env F st3.inv er2 ow) (fun f s4 q => ?_) fun _ _ q => by cases q with | mk _ _ q => exact q.elim)
      cases q with | @mk v _ σ4 w4 st4 fr q =>
      cases fr with
      | next er4 => exact wpC_pure ⟨rfl, ih (st3.trans st4) er4 q⟩
      | ret rv er4 => exact wpC_pure (.mk (st3.trans st4) (.ret rv er4) q)
theorem x_while {u : Nat} (h : WhileS n t b K u ρ σ) : ExS n ρ (.While t b [] p) σ K T := fun k w env F iv er ow => by
  rw [PySem.exec_While]
  exact Run.standAt (wpC_runOwn (code_while F ow ⟨.refl fun _ e => Option.some.inj e ▸ er.ob, iv⟩ er h))
end
end Mine
end
section
namespace Mine

/-! a list built from another -/
inductive CNm (ρ : Loc) (sc : Scope) (y : Str) : Nm → Prop
  | gl : sc.names.lookup y = some .globalImplicit → CNm ρ sc y .gl
  | lo : sc.names.lookup y = some .local → CNm ρ sc y .lo
  | c {u : MV} : sc.names.lookup y = some .free → ρ.at y (.c u) → CNm ρ sc y (.c u)
/-- the names of a comprehension, by those around it -/
structure CompOk (ρ ρc : Loc) (sc : Scope) (x : Str) : Prop where
  fn : sc.kind = .function
  x : sc.names.lookup x = some .local
  nc : ∀ y ∈ sc.names, y.2 ≠ .cell
  lo : ∀ y ∈ sc.names, y.2 = .local → sc.names.lookup y.1 = some .local
  fr : ∀ y ∈ sc.names, y.2 = .free → ∃ u, ρ.at y.1 (.c u)
  nms : ∀ y u, ρc.at y u → CNm ρ sc y u
noncomputable def CompS (n : Nat) (ρc : Loc) (x : Str) (elt : Expr) (nx : Nat → St → Option (Option MV)) (acc : MV) (Q : St → Prop) : Nat → Nat → St → Prop
  | 0, _, _ => False
  | f + 1, j, σ => match nx j σ with
    | none => False
    | some none => Q σ
    | some (some v) => ∃ ws, UpL ρc.S.ns ρc.ws x (.v v) ws ∧ EvS n ⟨ρc.S, ws⟩ elt σ (fun y σ => BltS (.builtin "list.append") [acc, y] σ (fun _ σ => CompS n ρc x elt nx acc Q f (j + 1) σ) fun _ => False) fun _ => False
/-- behind a comprehension's loop -/
inductive GotL (k : Kx) (w₀ : Wd) (acc : MV) (V : Value) (C : Addr) (Q : St → Prop) : Shared → Prop
  | mk {σ : St} {w : Wd} {m : Str → Option Value} : Step k none w₀ σ w → Apart k w [C] → VRel w acc V → w.h.Ns C m → Q σ → GotL k w₀ acc V C Q w.s

section
variable {k : Kx} {w w₀ : Wd} {σ : St} {ρ ρc : Loc} {env cenv : Env} {n : Nat} {priv : List Addr} {I : Addr} {nx : Nat → St → Option (Option MV)} {P : Nat → Wd → Prop} {x : Str} {px cp : Pos} {elt iter : Expr} {sc scope : Scope} {acc : MV} {V : Value} {Q : St → Prop}
theorem code_comp (F : Fit k n) (D : Draw k I (.Name x px) priv nx P) (hCp : cenv.locals ∉ priv) (f : ∀ b ∈ cenv.locals :: priv, w₀.h.get? b = none) (hx : cenv.kindOf x = some .local) (hv : ∀ y v, ¬ ρc.at y (.v v)) {fuel j : Nat} {σ : St} {w : Wd} (st : Step k none w₀ σ w) (er : EnvR k.g w ρc cenv)
    (ap : Apart k w (cenv.locals :: priv)) (p : P j w) (ra : VRel w acc V) (h : CompS n ρc x elt nx acc Q fuel j σ) :
    codeC k.M k.A (.compLoop (.ListComp elt [⟨.Name x px, iter, [], 0⟩] scope cp) 0 (.ref I) V cenv) (fun res s' => match res with | .ok _ => GotL k w₀ acc V cenv.locals Q s' | .error _ => False) w.s := by
  induction fuel generalizing j σ w with
  | zero => exact h.elim
  | succ fuel ih =>
    refine codeC_of_tree rfl ?_
    rw [Around.under_of_weight rfl]
    show wpC _ k.A ((compTurn (.ListComp elt [⟨.Name x px, iter, [], 0⟩] scope cp) 0 (.ref I) V cenv).onRaise _) _ _ w.s
    refine wpC_onRaise ?_
    rw [compTurn_list1]
    refine wpC_bind (wpC_standAt ?_)
    have apI : Apart k w priv := fun b hb => ap b (List.mem_cons_of_mem _ hb)
    have fI : ∀ b ∈ priv, w₀.h.get? b = none := fun b hb => f b (List.mem_cons_of_mem _ hb)
    unfold CompS at h
    cases e : nx j σ with
    | none => rw [e] at h; exact h.elim
    | some r =>
      rw [e] at h
      cases r with
      | none =>
        refine wpC_bindA (D.stop _ _ st.inv apI p e fun h' bt => ?_)
        cases er with | @mk m ef l r =>
        have a1 := ap _ List.mem_cons_self
        refine wpC_pure (.mk (w := ⟨w.ι, { w.s with heap := h' }⟩) (st.but (tk := w.s.toks) apI bt fI (fun _ _ => nofun)) (fun b hb => ?_) (ra.kp (apI.kp (tk := w.s.toks) bt)) (ns_but bt hCp l.ns) h)
        rw [List.mem_singleton.mp hb]
        refine ⟨a1.nm, a1.nf, a1.new, ?_⟩
        cases a1.odd with
        | f e d => exact .f (bt.2 _ _ hCp e) d
        | d e d => exact .d (bt.2 _ _ hCp e) d
      | some v =>
        obtain ⟨ws, hu, h⟩ := h
        refine wpC_bindA (D.item _ _ st.inv apI p e fun U h' tk bt od rv go => ?_)
        dsimp only
        refine wpC_bindA (go _ _ fun h'' bt2 p2 => ?_)
        have bt3 := bt.trans bt2
        have er2 := er.but (tk := tk) apI bt3 hCp
        have rv2 : VRel ⟨w.ι, { w.s with heap := h'', toks := tk }⟩ v U := rv.kp ((apI.at (tk := tk) od).kp (tk := tk) bt2)
        have ra2 : VRel ⟨w.ι, { w.s with heap := h'', toks := tk }⟩ acc V := ra.kp (apI.kp (tk := tk) bt3)
        cases er2 with | @mk m ef hm hr =>
        refine wpC_bindA (wpAny_assign_Name (wpAny_storeName_local hx hm.ns (fun h3 hn3 hs3 => ?_) (by rw [ef.kind]; rfl)))
        have ap2 : Apart k ⟨w.ι, { w.s with heap := h'', toks := tk }⟩ (cenv.locals :: priv) := ap.at fun b hb => by
          rcases List.mem_cons.mp hb with rfl | hb
          · cases NsObj.of hm.ns with | mk e d => exact .d e d
          · exact D.odd _ _ p2 b hb
        have bt4 : But (cenv.locals :: priv) h'' h3 := but_one hs3 List.mem_cons_self
        have kp4 : Kp ⟨w.ι, { w.s with heap := h'', toks := tk }⟩ ⟨w.ι, { w.s with heap := h3, toks := tk + 1 }⟩ := ap2.kp bt4
        have p3 : P (j + 1) ⟨w.ι, { w.s with heap := h3, toks := tk + 1 }⟩ := D.frame _ _ _ p2 kp4 fun b hb o eo => (hs3.2 b fun q => hCp (q ▸ hb)).trans eo
        have ap3 : Apart k ⟨w.ι, { w.s with heap := h3, toks := tk + 1 }⟩ (cenv.locals :: priv) := ap.at fun b hb => by
          rcases List.mem_cons.mp hb with rfl | hb
          · cases NsObj.of hn3 with | mk e d => exact .d e d
          · exact D.odd _ _ p3 b hb
        have st3 : Step k none w₀ σ ⟨w.ι, { w.s with heap := h3, toks := tk + 1 }⟩ := st.but (tk := tk + 1) ap ((bt3.more fun b hb => List.mem_cons_of_mem _ hb).trans bt4) f fun _ _ => nofun
        have both : ∀ {ρ' : Loc}, (∀ y u, ρ'.at y u → (y = x ∧ u = .v v) ∨ (∀ z, ρc.at y u → u ≠ .v z) ∧ ρc.at y u) → EnvR k.g ⟨w.ι, { w.s with heap := h3, toks := tk + 1 }⟩ ρ' cenv := fun hh => .mk ef ⟨hn3, hm.nm, hm.new⟩ fun y u hy => by
          rcases hh y u hy with ⟨rfl, rfl⟩ | ⟨nv, q⟩
          · exact .v hx (if_pos rfl) (rv2.kp kp4)
          · cases hr y u q with
            | un => exact .un
            | gl h => exact .gl h
            | lo h => exact .lo h
            | ce h => exact .ce h
            | v h1 h2 r => exact absurd rfl (nv _ q)
            | c h1 h2 c r => exact .c h1 h2 (CellAt.but (w := ⟨w.ι, { w.s with heap := h'', toks := tk }⟩) ap2 bt4 c) (r.kp kp4)
        have nov : ∀ {y : Str} {u : Nm}, ρc.at y u → ∀ z, ρc.at y u → u ≠ .v z := fun q z q' e => hv _ z (e ▸ q')
        have er3 : EnvR k.g ⟨w.ι, { w.s with heap := h3, toks := tk + 1 }⟩ ρc cenv := both fun y u q => .inr ⟨nov q, q⟩
        have er4 : EnvR k.g ⟨w.ι, { w.s with heap := h3, toks := tk + 1 }⟩ ⟨ρc.S, ws⟩ cenv := both fun y u q => (hu.at ρc.S.nd q).imp id fun q => ⟨nov q.2, q.2⟩
        have main : Run k none (fun _ (_ _ : Unit) => True) ⟨w.ι, { w.s with heap := h3, toks := tk + 1 }⟩ (fun _ σ => CompS n ρc x elt nx acc Q fuel (j + 1) σ) (fun _ => False) (eval elt cenv >>= fun x => call (.builtin "list.append") [V, x] >>= fun _ => pure ()) :=
          Run.bind (h k _ cenv F st3.inv er4) fun y w4 Y σ4 st4 ry h => Run.bind (h k w4 _ (F.le (Nat.zero_le _)) st4.inv (.cons ((ra2.kp kp4).ext st4.ext) (.one ry))) fun _ w5 _ σ5 st5 _ h => Run.pure (v := ()) st5.inv trivial h
        refine wpC_bind (wpC_mono main (fun F' s' q => ?_) fun _ _ q => by cases q with | mk _ _ q => exact q.elim)
        cases q with | @mk v _ σ5 w5 st5 fr q =>
        obtain ⟨ap5, kp5⟩ := ap3.ext (L := none) (fun _ _ => nofun) st5.ext
        exact wpC_pure ⟨rfl, ih (st3.trans st5) (er3.ext st5.ext) ap5 (D.frame _ _ _ p3 st5.ext.kp fun b hb => kp5 b (List.mem_cons_of_mem _ hb)) ((ra2.kp kp4).ext st5.ext) q⟩
end
end Mine
end
section
namespace Mine

section
variable {M : Model} {A : Around} {E : Value → Shared → Prop} {s : Shared} {env : Env}
/-- what is asked of the state behind a comprehension's loop -/
noncomputable def AfterC (M : Model) (A : Around) (E : Value → Shared → Prop) (use : Option (Value → Sem Unit)) (Q : Value → Shared → Prop) (acc : Value) (C : Addr) (s' : Shared) : Prop :=
  match use with
  | none => ∃ m, s'.heap.Ns C m ∧ ∀ h', Heap.SameBut C s'.heap h' → Q acc { s' with heap := h' }
  | some u => wpC M A (u acc) (fun _ s'' => ∃ m, s''.heap.Ns C m ∧ ∀ h', Heap.SameBut C s''.heap h' → Q .none { s'' with heap := h' }) E s'
theorem wpC_standIf {α : Type} {c : Prop} [Decidable c] {pos : Pos} {k : PUnit → Sem α} {Q : α → Shared → Prop} {s : Shared} (h : wpC M A (k ()) Q E s) : wpC M A (if c then (standAt pos >>= k) else k ()) Q E s := by
  by_cases q : c
  · rw [if_pos q]; exact wpC_bind (wpC_standAt h)
  · rw [if_neg q]; exact h
theorem wpC_comprehension {e : Expr} {scope : Scope} {pos : Pos} {newAcc first : Sem Value} {g : Comprehension} {gs : List Comprehension} {cl : List (Str × Addr)} {use : Option (Value → Sem Unit)}
    {Q : Value → Shared → Prop}
    (hcl : clausesOf e = g :: gs) (hs : ∀ x, foldedSetIterable g.iter env x = pure x) (hclos : closureFor scope env = pure cl)
    (hkind : scope.kind = .function) (hnames : ∀ x ∈ scope.names, x.2 = .local → scope.names.lookup x.1 = some .local)
    (h : wpC M A first (fun x s₁ => wpC M A (pyIter x) (fun it s₂ => wpC M A newAcc (fun acc s₃ =>
      wpC M A (newFunctionEnv scope env.globals cl [] env.qual none .none (some env)) (fun cenv s₄ =>
        codeC M A (.compStart e 0 it acc { cenv with scope := relabel scope env }) (fun r s' => match r with | .ok _ => AfterC M A E use Q acc cenv.locals s' | .error _ => False) s₄) E s₃) E s₂) E s₁) E s) :
    wpC M A (comprehension e scope env pos newAcc false first use) Q E s := by
  unfold comprehension
  rw [hclos, hcl]
  refine wpC_bind (wpC_mono h (fun x s₁ h₁ => wpC_bind (wpC_standAt (wpC_bind (wpC_of_eq (hs x) (wpC_pure (wpC_bind (wpC_holding (wpC_mono h₁ (fun it s₂ h₂ =>
    wpC_standIf (wpC_bind (wpC_mono h₂ (fun acc s₃ h₃ => wpC_bind (wpC_pure (wpC_bind (wpC_mono h₃ (fun cenv s₄ h₄ => ?_) fun _ _ h' => h')))) fun _ _ h' => h')))
      fun _ _ h' => h')))))))) fun _ _ h' => h')
  dsimp only
  have hv : ∀ x ∈ (scope.names.filter fun x => (x.2 == .local || x.2 == .cell) && x.1 != (".0" : Str)).reverse, x.2 = .local →
      Env.kindOf { cenv with scope := relabel scope env } x.1 = some .local := fun x hx hl => lookup_relabel_local (hnames x (List.mem_filter.mp (List.mem_reverse.mp hx)).1 hl)
  have hv' : ∀ x ∈ (scope.names.filter fun x => (x.2 == .local || x.2 == .cell) && x.1 != (".0" : Str)).reverse.drop 1 ++ (scope.names.filter fun x => (x.2 == .local || x.2 == .cell) && x.1 != (".0" : Str)).reverse.take 1,
      x.2 = .local → Env.kindOf { cenv with scope := relabel scope env } x.1 = some .local := fun x hx hl => by
    rcases List.mem_append.mp hx with h1 | h1
    · exact hv x (List.mem_of_mem_drop h1) hl
    · exact hv x (List.mem_of_mem_take h1) hl
  refine wpC_holding (wpC_bind (wpC_attempt (wpC_holding (wpC_run (codeC_mono (A := A.mark none) h₄ fun r s' hr => ?_)))))
  cases r with
  | ok f =>
    cases use with
    | none =>
      obtain ⟨m, hn, hr⟩ := hr
      exact wpC_bind (wpC_holding (wpC_of (wpAny_comp_letGo (cenv := { cenv with scope := relabel scope env }) hkind _ s' m hv hn fun h' m' _ hs' => wpC_pure (hr h' hs'))))
    | some u =>
      refine wpC_bind (wpC_rule (wpC_bind (wpC_holding (wpC_mono hr (fun _ s'' hr' => ?_) fun _ _ h' => h'))))
      obtain ⟨m, hn, hr'⟩ := hr'
      exact wpC_bind (wpC_of (wpAny_comp_letGo (cenv := { cenv with scope := relabel scope env }) hkind _ s'' m hv' hn fun h' m' _ hs' => wpC_pure (hr' h' hs')))
  | error x => exact hr.elim
end

/-! the names of a comprehension -/
noncomputable def closeL (cells : List (Str × Addr)) : List (Str × NameKind) → List (Str × Addr) → List (Str × Addr)
  | [], acc => acc
  | (n, k) :: r, acc => closeL cells r (if (k == NameKind.free) = true then (match cells.lookup n with | some c => (n, c) :: acc | none => acc) else acc)
theorem close_run {env : Env} : ∀ (names : List (Str × NameKind)) (acc : List (Str × Addr)), (∀ x ∈ names, x.2 = .free → ∃ a, env.cells.lookup x.1 = some a) →
    (forIn names acc (fun x cs => match x with | (name, kind) => if (kind == NameKind.free) = true then (do let c ← cellOf env name; pure (ForInStep.yield ((name, c) :: cs))) else pure (ForInStep.yield cs)) : Sem (List (Str × Addr))) = pure (closeL env.cells names acc) := fun names => by
  induction names with
  | nil => exact fun acc _ => rfl
  | cons x r ih =>
    intro acc h
    obtain ⟨n, k⟩ := x
    rw [List.forIn_cons]
    unfold closeL
    dsimp only
    have ih := fun acc => ih acc fun x hx => h x (List.mem_cons_of_mem _ hx)
    by_cases hk : (k == NameKind.free) = true
    · obtain ⟨c, hc⟩ := h (n, k) List.mem_cons_self (eq_of_beq hk)
      have e : cellOf env n = pure c := by unfold cellOf; rw [hc]
      rw [if_pos hk, if_pos hk, e, pure_bind, pure_bind, hc]
      exact ih _
    · rw [if_neg hk, if_neg hk, pure_bind]
      exact ih _
theorem close_at {cells : List (Str × Addr)} {y : Str} {c : Addr} (e : cells.lookup y = some c) : ∀ (names : List (Str × NameKind)) (acc : List (Str × Addr)), (acc.lookup y = some c ∨ ((y, NameKind.free) ∈ names ∧ acc.lookup y = none)) → (closeL cells names acc).lookup y = some c := fun names => by
  induction names with
  | nil => exact fun acc h => h.resolve_right (fun q => nomatch q.1)
  | cons x r ih =>
    intro acc h
    obtain ⟨n, k⟩ := x
    unfold closeL
    by_cases hk : (k == NameKind.free) = true
    · rw [if_pos hk]
      by_cases hy : y = n
      · subst hy
        rw [e]
        exact ih _ (.inl (by dsimp only; rw [List.lookup_cons, beq_self_eq_true]))
      · have hm : (y, NameKind.free) ∈ (n, k) :: r → (y, NameKind.free) ∈ r := fun q => (List.mem_cons.mp q).resolve_left fun q => hy (Prod.mk.inj q).1
        cases cells.lookup n with
        | none => exact ih _ (h.imp id fun q => ⟨hm q.1, q.2⟩)
        | some c' =>
          have el : List.lookup y ((n, c') :: acc) = acc.lookup y := by rw [List.lookup_cons, beq_eq_false_iff_ne.mpr hy]
          exact ih _ (h.imp (fun q => el.trans q) fun q => ⟨hm q.1, el.trans q.2⟩)
    · rw [if_neg hk]
      exact ih _ (h.imp id fun q => ⟨(List.mem_cons.mp q.1).resolve_left fun q => hk (by rw [← (Prod.mk.inj q).2]; rfl), q.2⟩)
theorem relabel_lookup {env : Env} {y : Str} (names : List (Str × NameKind)) :
    (names.map fun (n, k) => if (k == NameKind.free && env.scope.kind == .function && env.kindOf n == some .cell) then (n, NameKind.cell) else (n, k)).lookup y =
      (names.lookup y).map fun k => if (k == NameKind.free && env.scope.kind == .function && env.kindOf y == some .cell) = true then NameKind.cell else k := by
  induction names with
  | nil => rfl
  | cons x r ih =>
    obtain ⟨n, k⟩ := x
    rw [List.map_cons]
    have key : ∀ {c : Bool}, (if c = true then (n, NameKind.cell) else (n, k)) = (n, if c = true then NameKind.cell else k) := fun {c} => by cases c <;> rfl
    dsimp only
    rw [key, List.lookup_cons, List.lookup_cons]
    by_cases hx : y = n
    · subst hx
      rw [beq_self_eq_true]; rfl
    · rw [beq_eq_false_iff_ne.mpr hx]
      exact ih
section
variable {k : Kx} {w w₀ : Wd} {σ : St} {ρ ρc : Loc} {env : Env} {sc : Scope} {x : Str} {m : Str → Option Value} {C : Addr}
/-- the closure of a comprehension in order -/
theorem CompOk.closure (hc : CompOk ρ ρc sc x) (er : EnvR k.g w ρ env) : ∃ cl, closureFor sc env = pure cl ∧ ∀ y a, sc.names.lookup y = some .free → env.cells.lookup y = some a → cl.lookup y = some a := by
  cases er with | @mk m f hm hr =>
  have hs : ∀ y ∈ sc.names, y.2 = .free → ∃ a, env.cells.lookup y.1 = some a := fun y hy e => by
    obtain ⟨u, h⟩ := hc.fr y hy e
    cases hr _ _ h with | c h1 h2 _ _ => exact ⟨_, h2⟩
  refine ⟨closeL env.cells sc.names [], ?_, fun y a hy ha => close_at ha _ _ (.inr ⟨mem_of_lookup hy, rfl⟩)⟩
  unfold closureFor
  exact (congrArg (fun t : Sem (List (Str × Addr)) => t >>= fun cs => pure cs) (close_run (env := env) sc.names [] hs)).trans rfl
/-- the names of a comprehension's own environment -/
theorem CompOk.er {cl : List (Str × Addr)} (hc : CompOk ρ ρc sc x) (er : EnvR k.g w ρ env) (hcl : ∀ y a, sc.names.lookup y = some .free → env.cells.lookup y = some a → cl.lookup y = some a) (hm : LocAt k.g w C m) : EnvR k.g w ρc (compEnvC sc cl C env) := by
  cases er with | @mk m' f _ hr =>
  refine .mk ⟨hc.fn, f.glob, f.bltn⟩ hm fun y u hy => ?_
  have hk : (compEnvC sc cl C env).kindOf y = _ := relabel_lookup (env := env) (y := y) sc.names
  cases hc.nms y u hy with
  | gl e => rw [e] at hk; exact .gl hk
  | lo e => rw [e] at hk; exact .lo hk
  | c e a =>
    rw [e] at hk
    cases hr _ _ a with | c h1 h2 h3 h4 =>
    refine .c (hk ▸ ?_) (hcl y _ e h2) h3 h4
    rcases h1 with q | q
    · rw [q, f.kind]; exact .inl rfl
    · rw [q, f.kind]; exact .inr rfl
theorem codeC_compStart {elt target iter : Expr} {scope : Scope} {pos : Pos} {it acc : Value} {R : Result → Shared → Prop} {s : Shared}
    (h0 : codeC k.M k.A (.compLoop (.ListComp elt [⟨target, iter, [], 0⟩] scope pos) 0 it acc env) R s)
    (h : ∀ (Q : Value → Shared → Prop) (E : Value → Shared → Prop), Q it s → wpAny k.M k.A (pyIter it) Q E s) :
    codeC k.M k.A (.compStart (.ListComp elt [⟨target, iter, [], 0⟩] scope pos) 0 it acc env) R s := by
  refine codeC_of_tree rfl ?_
  rw [Around.under_of_weight rfl]
  show wpC _ _ ((compStart (.ListComp elt [⟨target, iter, [], 0⟩] scope pos) 0 it acc env).onRaise (fun x => do noteFrame x env; standAt theWindowsPlace)) _ _ s
  refine wpC_onRaise ?_
  unfold compStart
  show wpC _ _ (ask >>= _) _ _ s
  refine wpC_bindA (wpAny_askSetting (wpC_ite ?_))
  split
  · first
      | exact wpC_bind (wpC_pure (wpC_pure (And.intro rfl h0)))
      | exact wpC_pure (And.intro rfl h0)
  · first
      | exact wpC_bind (wpC_rule (wpC_bind (wpC_standAt (wpC_bindA (h _ _ (wpC_pure (And.intro rfl h0)))))))
      | (refine wpC_bind (wpC_rule ?_); show wpC _ _ (standAt iter.pos >>= _) _ _ s; exact wpC_bind (wpC_standAt (wpC_bindA (h _ _ (wpC_pure (And.intro rfl h0))))))
end
end Mine
end
section
namespace Mine

section
variable {k : Kx} {w w₀ : Wd} {σ : St} {ρ ρc : Loc} {env cenv : Env} {n u : Nat} {priv : List Addr} {I : Addr} {nx : Nat → St → Option (Option MV)} {P : Nat → Wd → Prop} {f x y : Str} {px cp p lp fp qp : Pos} {elt iter e : Expr} {sc scope : Scope} {acc : MV} {V : Value} {T Q : St → Prop} {Q' : MV → St → Prop} {K : Fl × Loc → St → Prop}
theorem comp_from {cl : List (Str × Addr)} {h2 : Heap} {tk : Tok} {R : Value → Addr → Shared → Prop} {E : Value → Shared → Prop} (F : Fit k n) (st : Step k none w₀ σ w) (er : EnvR k.g w ρ env) (hc : CompOk ρ ρc sc x)
    (hcl : ∀ y a, sc.names.lookup y = some .free → env.cells.lookup y = some a → cl.lookup y = some a) (D : Draw k I (.Name x px) priv nx P) (hk : ∀ b o, w.h.get? b = some o → h2.get? b = some o) (hs : w.h.objs.size ≤ h2.objs.size)
    (hp : ∀ b ∈ priv, w.h.objs.size ≤ b) (p : P 0 ⟨w.ι, { w.s with heap := h2, toks := tk }⟩) (h : CompS n ρc x elt nx (.ref σ.length) Q u 0 (σ ++ [.list []]))
    (hK : ∀ V C s', GotL k w₀ (.ref σ.length) V C Q s' → w₀.h.get? C = none → R V C s') :
    wpC k.M k.A (newList []) (fun acc s₃ => wpC k.M k.A (newFunctionEnv sc env.globals cl [] env.qual none .none (some env)) (fun cenv s₄ => codeC k.M k.A (.compStart (.ListComp elt [⟨.Name x px, iter, [], 0⟩] sc cp) 0 (.ref I) acc { cenv with scope := relabel sc env }) (fun r s' => match r with | .ok _ => R acc cenv.locals s' | .error _ => False) s₄) E s₃) E { w.s with heap := h2, toks := tk } := by
  have g2 := st.inv.grow (tk := tk) hk hs
  have st2 := st.trans g2
  have fr1 : ∀ b ∈ priv, w.h.get? b = none := fun b hb => Heap.get?_none_of_le (hp b hb)
  have ap2 : Apart k ⟨w.ι, { w.s with heap := h2, toks := tk }⟩ priv := fun b hb => by
    obtain ⟨n1, n2⟩ := st.inv.fresh0 (fr1 b hb)
    exact ⟨n1, fun q => (by obtain ⟨_, _, o, ho, _⟩ := st.inv.frame q; rw [fr1 b hb] at ho; cases ho), n2, D.odd _ _ p b hb⟩
  refine wpC_mono (newList_run (k := k) (w := ⟨w.ι, { w.s with heap := h2, toks := tk }⟩) (σ := σ) (Q := fun v σ' => v = .ref σ.length ∧ σ' = σ ++ [.list []]) (T := fun _ => False) st2.inv .nil (Nat.zero_le _) ⟨rfl, rfl⟩) (fun V s' q => ?_) fun _ _ g => by cases g with | mk _ _ q => exact q.elim
  cases q with | @mk v _ σ3 w3 st3 ra q =>
  obtain ⟨rfl, rfl⟩ := q
  obtain ⟨ap3, kp3⟩ := ap2.ext (L := none) (fun _ _ => nofun) st3.ext
  have p3 := D.frame _ _ _ p st3.ext.kp kp3
  refine wpC_of (wpAny_newFunctionEnv hc.nc (by intro y hy; cases hy) (fun h4 hns hsb => ?_) hc.fn)
  have sz4 : h4.objs.size = w3.s.heap.objs.size + 1 := by rw [hsb.1, Heap.size_push]
  have k4 : ∀ b o, w3.h.get? b = some o → h4.get? b = some o := fun b o e => (hsb.2 b (Nat.ne_of_lt (Heap.lt_size e))).trans (Heap.get?_push_of_some _ e)
  have g4 := st3.inv.grow (tk := w3.s.toks + ([] : List (Str × Value)).length) k4 (by rw [sz4]; exact Nat.le_succ _)
  have hCn : w3.h.get? w3.s.heap.objs.size = none := Heap.get?_none_of_le (Nat.le_refl _)
  obtain ⟨hCm, hC0⟩ := st3.inv.fresh0 hCn
  have hCp : w3.s.heap.objs.size ∉ priv := fun q => by
    cases (ap3 _ q).odd with
    | f ho _ => rw [hCn] at ho; cases ho
    | d ho _ => rw [hCn] at ho; cases ho
  obtain ⟨ap4, kp4⟩ := ap3.ext (L := none) (fun _ _ => nofun) g4.ext
  have p4 := D.frame _ _ _ p3 g4.ext.kp kp4
  have apC : Apart k ⟨w3.ι, { w3.s with heap := h4, toks := w3.s.toks + ([] : List (Str × Value)).length }⟩ (w3.s.heap.objs.size :: priv) := List.forall_mem_cons.mpr ⟨⟨hCm, fun q => (by obtain ⟨_, _, o, ho, _⟩ := st3.inv.frame q; rw [hCn] at ho; cases ho), hC0, by
    cases NsObj.of hns with | mk e d => exact .d e d⟩, ap4⟩
  have st4 := (st2.trans st3).trans g4
  have fC : w₀.h.get? w3.s.heap.objs.size = none := Heap.get?_none_of_le (st2.trans st3).ext.size
  have go := code_comp (cenv := compEnvC sc cl w3.s.heap.objs.size env) (iter := iter) (scope := sc) (cp := cp) F D hCp (List.forall_mem_cons.mpr ⟨fC, fun b hb => Heap.get?_none_of_le (Nat.le_trans st.ext.size (hp b hb))⟩) (lookup_relabel_local hc.x)
    (fun y v q => by cases hc.nms _ _ q) st4 (hc.er (((er.ext g2.ext).ext st3.ext).ext g4.ext) hcl ⟨hns, hCm, hC0⟩) apC p4 (ra.ext g4.ext) h
  refine codeC_compStart (codeC_mono go fun res s' q => ?_) (fun Q E hq => D.self Q E p4 hq)
  cases res with
  | error _ => exact q
  | ok _ => exact hK V _ s' q fC
/-- the value of a comprehension over a list -/
theorem e_comp (hf : ∀ env x, foldedSetIterable iter env x = pure x) (hc : CompOk ρ ρc sc x) (h : EvS n ρ iter σ (fun v σ => ∃ i l, v = .ref i ∧ σ[i]? = some (.list l) ∧ CompS n ρc x elt (nxList i) (.ref σ.length) (Q' (.ref σ.length)) u 0 (σ ++ [.list []])) T) :
    EvS n ρ (.ListComp elt [⟨.Name x px, iter, [], 0⟩] sc lp) σ Q' T := fun k w env F iv er => by
  rw [eval_ListComp]
  obtain ⟨cl, hcl, hcl2⟩ := hc.closure er
  refine wpC_comprehension rfl (fun _ => hf _ _) hcl hc.fn hc.lo (wpC_mono (h k w env F iv er) (fun V s' q => ?_) fun _ _ g => g)
  cases q with | @mk v _ σ1 w1 st rv q =>
  obtain ⟨i, l, rfl, el, q⟩ := q
  refine Inv.listE st.inv el rv fun a vs hp ht hr => wpC_of (wpAny_pyIter_list ht.list ?_)
  refine comp_from (tk := w1.s.toks) F st (er.ext st.ext) hc hcl2 (draw_list F.hand) (push_keeps _) (push_le _) (fun b hb => List.mem_singleton.mp hb ▸ Nat.le_refl _)
    ⟨⟨_, Heap.get?_push_size _ rfl, rfl, rfl⟩, (VRel.ref hp).kp (st.inv.grow (push_keeps _) (push_le _)).ext.kp⟩ q fun V C s' g fC => ?_
  cases g with | @mk σ6 w6 m st6 ap rv hm q =>
  exact ⟨m, hm, fun h' sb => .mk (w' := ⟨w6.ι, { w6.s with heap := h' }⟩) (st6.but (tk := w6.s.toks) ap (but_one sb (List.mem_singleton.mpr rfl)) (fun b hb => List.mem_singleton.mp hb ▸ fC) (fun _ _ => nofun)) (rv.kp (ap.kp (tk := w6.s.toks) (but_one sb (List.mem_singleton.mpr rfl)))) q⟩
/-- and of one over a range, stored at once -/
theorem x_comp {t : Expr} (hw : ∀ env : Env, env.scope.kind = .function → env.kindOf y = some .local → swapsWith (.ListComp elt [⟨.Name x px, .Call (.Name f fp) [e] [] cp, [], 0⟩] sc lp) (some (.Name y qp)) p.line env = pure true) (hy : ρ.at y .lo)
    (hf : f = "range") (hs : isStar e = false) (a : ρ.at f .gl) (hc : CompOk ρ ρc sc x)
    (h : EvS n ρ e σ (fun v σ => ∃ z, v = .int z ∧ 0 ≤ z ∧ z ≤ sz ∧ CompS n ρc x elt (nxRange z) (.ref σ.length) (fun σ' => AsgS n ρ (.Name y qp) (.ref σ.length) σ' (fun ρ σ => K (.next, ρ) σ) T) u 0 (σ ++ [.list []])) T) :
    ExS n ρ (.Assign [.Name y qp] (.ListComp elt [⟨.Name x px, .Call (.Name f fp) [e] [] cp, [], 0⟩] sc lp) p) σ K T := fun k w env F iv er ow => by
  subst hf
  have kd : env.kindOf y = some .local := by
    cases er with | mk f hm hr => cases hr _ _ hy with | lo h => exact h
  rw [arm_exec_Assign]
  refine Run.standAt ?_
  have sole : ∀ v, swapsWithSole [.Name y qp] v p.line env = swapsWith v (some (.Name y qp)) p.line env := fun _ => rfl
  rw [sole, hw env er.f.kind kd, pure_bind, if_pos rfl, arm_evalThenUse_ListComp]
  obtain ⟨cl, hcl, hcl2⟩ := hc.closure er
  refine wpC_bind (wpC_bind (wpC_comprehension (use := some (assign (.Name y qp) env)) (Q := fun _ s' => wpC k.M k.A (pure ()) _ _ s') rfl (fun _ => rfl) hcl hc.fn hc.lo ?_))
  refine call1 F iv er hs a mem_range h (fun v w1 V σ1 st rv h => ?_) fun _ _ g => match g with | .mk st x q => .mk (st.up er.ob er.nm) x q
  obtain ⟨z, rfl, h0, h1, h⟩ := h
  revert st
  refine VRel.intE rv fun tk st => ?_
  refine range_iter h0 h1 fun I h' tk' hk hs hI p => comp_from (w := w1) F st (er.ext st.ext) hc hcl2 (draw_range F.hand) hk hs (fun b hb => List.mem_singleton.mp hb ▸ hI) p h fun V C s' g fC => ?_
  cases g with | @mk σ6 w6 m st6 ap rv hm q =>
  have hL : ∀ b ∈ [C], some env.locals ≠ some b := fun b hb q => by
    rw [List.mem_singleton.mp hb] at q
    cases er.ob with | mk e _ => rw [Option.some.inj q, fC] at e; cases e
  refine wpC_mono (q k w6 env _ F st6.inv (er.ext st6.ext) rv) (fun _ s2 q => ?_) fun _ _ g => g.then (st6.up er.ob er.nm)
  cases q with | @mk ρ2 _ σ7 w7 st7 er7 q =>
  obtain ⟨ap7, kp7⟩ := ap.ext hL st7.ext
  obtain ⟨o, es, ep, ho, r⟩ := hm
  refine ⟨m, ⟨o, es, ep, kp7 C (List.mem_singleton.mpr rfl) o ho, r⟩, fun h' sb => wpC_pure (wpC_pure ?_)⟩
  have bt : But [C] w7.h h' := but_one sb (List.mem_singleton.mpr rfl)
  exact .mk (w' := ⟨w7.ι, { w7.s with heap := h' }⟩) (((st6.up er.ob er.nm).trans st7).but (tk := w7.s.toks) ap7 bt (fun b hb => List.mem_singleton.mp hb ▸ fC) hL) (.next (er7.but (tk := w7.s.toks) ap7 bt fun q => hL _ (List.mem_singleton.mpr rfl) (congrArg some (List.mem_singleton.mp q)))) q
end
end Mine
end
section
namespace Mine

/-! the making of an exception of the text's own -/
theorem refuse_exc (self : Value) (C D : Addr) : refuseLoop self "__setattr__" [.ref C, .ref D, .type "Exception", .type "BaseException", .type "object"] = pure () := by
  rw [refuseLoop_ref, refuseLoop_ref]
  kernel_rfl

section
variable {M : Model} {A : Around} {E : Value → Shared → Prop} {h : Heap} {g : Array GenState} {d : Drawn} {t : Nat} {os : OsState}
variable {nm q : Str} {C N : Addr} {bs bm bmB : List Value} {hdct : Bool} {sn : List Str} {sub : List Value} {ab : Bool} {col : Option Bool} {dd : Option Addr} {k0 k1 k2 k3 k5 : Option Value} {B newId initId : String}
theorem check_init_own (F : ExcBaseFacts B newId initId bmB) {e : Addr} {oe : Obj} {rest : List Value} {Q : Unit → Shared → Prop} (hb : bm.contains (.type B) = true)
    (hC : h.get? C = some (excClassObj nm q C N bs bm hdct sn sub ab col dd k0 k1 k2 k3 k5 newId)) (he : h.get? e = some oe) (hcls : oe.cls = .ref C) (hq : Q () ⟨h, g, d, t, os⟩) :
    wpAny M A (checkBuiltinCall initId ⟨.ref e :: rest, []⟩) Q E ⟨h, g, d, t, os⟩ := by
  have hcB : (Value.ref C :: bm).contains (.type B) = true := by rw [List.contains_cons, hb, Bool.or_true]
  have hshort := F.noStar
  simp only [checkBuiltinCall, F.initKind, F.initSplit, F.initRow]
  repeat (first | (with_reducible refine wpAny_loadPart_at he ?_; rw [hcls]) | with_reducible refine wpAny_loadPart_at hC ?_ | (with_reducible refine wpAny_isSubtype_exc hC ?_; rw [hcB]) | wp_step)
  refine wpAny_onRaise ?_
  rw [show ∀ (a b : String) (n : Nat), Bind.check ⟨.positional, "*", B, .self, [⟨"args", .varPos, false⟩]⟩ a b n (List.map (fun x => x.fst) ({ pos := Value.ref e :: rest } : Args).kw) = pure () from
    fun a b n => check_star_args _ _ _ _ _ _]
  exact wpAny_pure hq
end
section
variable {prog : Program} {w : World} {A : Around} {R : Result → Shared → Prop} {h : Heap} {g : Array GenState} {d : Drawn} {t : Nat} {os : OsState}
variable {nm q : Str} {C N : Addr} {bs bm bmB : List Value} {hdct : Bool} {sn : List Str} {sub : List Value} {ab : Bool} {col : Option Bool} {dd : Option Addr} {k0 k1 k2 k3 k5 : Option Value} {B newId initId : String}
theorem new_own (F : ExcBaseFacts B newId initId bmB) {rest : List Value} (hb : bm.contains (.type B) = true) (hna : bm.contains (.type "AttributeError") = false) (hnn : bm.contains (.type "NameError") = false)
    (hC : h.get? C = some (excClassObj nm q C N bs bm hdct sn sub ab col dd k0 k1 k2 k3 k5 newId))
    (hq : R (.ok (.ret (.ref (h.objs.size + 1)))) ⟨(h.push { cls := .type "tuple", data := .seq rest.toArray }).push
      { cls := .ref C, data := .fields #[.ref h.objs.size, .none, .none, .none, .bool false, .none] }, g, d, t, os⟩) (hrest : rest.length ≤ sizeLine := by size_fits) :
    codeAny (model prog w) A (.builtin newId ⟨.ref C :: rest, []⟩) R ⟨h, g, d, t, os⟩ := by
  have hends := F.ends
  have hcB : (Value.ref C :: bm).contains (.type B) = true := by rw [List.contains_cons, hb, Bool.or_true]
  have hcA : (Value.ref C :: bm).contains (.type "AttributeError") = false := by rw [List.contains_cons, hna]; rfl
  have hcN : (Value.ref C :: bm).contains (.type "NameError") = false := by rw [List.contains_cons, hnn]; rfl
  refine codeAny_builtinAt F.entry ?_
  unfold Builtin.«BaseException.__new__»
  refine PySem.wpAt_bind ?_
  show PySem.wpAt _ _ _ (stack >>= _) _ _ _
  refine PySem.wpAt_bind (PySem.wpAt_stack fun p below => PySem.wpAt_of_wpAny ?_)
  wp_walk
  refine PySem.wpAt_of_wpAny ?_
  rw [F.owner]
  repeat (first | with_reducible refine wpAny_madeHere_exc F.canon hC ?_ | with_reducible refine wpAny_loadPart_at hC ?_ | (with_reducible refine wpAny_isSubtype_exc hC ?_; first | rw [hcB] | rw [hcA] | rw [hcN]) | wp_step)
  show R _ _
  rw [Heap.size_push]
  exact hq
/-- the base's own start -/
theorem init_own (F : ExcBaseFacts B newId initId bmB) {e : Addr} {ob : Obj} {vs : Array Value} {t0 : Addr} {rest : List Value} {Q : Value → Shared → Prop} {E : Value → Shared → Prop} (hb : bm.contains (.type B) = true)
    (hC : h.get? C = some (excClassObj nm q C N bs bm hdct sn sub ab col dd k0 k1 k2 k3 k5 newId))
    (he : h.get? e = some ob) (hcls : ob.cls = .ref C) (hd : ob.data = .fields vs) (h0 : vs[0]? = some (.ref t0))
    (hq : Q .none ⟨(h.push { cls := .type "tuple", data := .seq rest.toArray }).update e (Obj.mapFields (·.setIfInBounds 0 (.ref h.objs.size))), g, d, t, os⟩) (hrest : rest.length ≤ sizeLine := by size_fits) :
    wpAny (model prog w) A (call (.builtin initId) (.ref e :: rest)) Q E ⟨h, g, d, t, os⟩ := by
  refine wpAny_call (codeAny_call_builtin F.init.plain F.initEntry (check_init_own F hb hC he hcls ?_))
  unfold Builtin.«BaseException.__init__»
  dsimp only
  rw [if_neg (by simp)]
  unfold newTuple Builtin.BaseException.bexcPut
  have hsz : 0 < vs.size := (Array.getElem?_eq_some_iff.mp h0).1
  have he₁ := Heap.get?_push_of_some (h := h) { cls := .type "tuple", data := .seq rest.toArray } he
  refine wpAny_bind (wpAny_newObj_type (wpAny_bind (wpAny_bind (wpAny_field he₁ hd h0 (wpAny_bind (wpAny_setField he₁ hd hsz ?_))))) (by show rest.toArray.size ≤ sizeLine; rw [List.size_toArray]; exact hrest))
  exact wpAny_letGo (wpAny_pure hq)
end

/-- a small dict -/
structure Small (es : List DictEntry) (n : Nat) : Prop where
  no : es.any (·.refKey) = false
  len : es.length ≤ n
theorem putIn_small {x : Str} {V : Value} {hash : Int} {t : Tok} {n : Nat} {es : List DictEntry} (h : Small es n) :
    Small (nsPutIn x.cps.size x.cps.toList (fun | some e => { e with val := V } | none => ⟨hash, .str x t, V⟩) es).1 (n + 1) := by
  induction es generalizing n with
  | nil => exact ⟨rfl, Nat.le_add_left _ _⟩
  | cons e es ih =>
    obtain ⟨h1, h2⟩ := h
    rw [List.any_cons, Bool.or_eq_false_iff] at h1
    cases n with
    | zero => cases h2
    | succ n =>
      have i := ih ⟨h1.2, Nat.le_of_succ_le_succ h2⟩
      have key : ∀ {c : Bool} {a b : List DictEntry × Bool}, Small a.1 (n + 1 + 1) → Small b.1 (n + 1 + 1) → Small (if c = true then a else b).1 (n + 1 + 1) := fun {c} _ _ p q => by cases c <;> assumption
      unfold nsPutIn
      exact key ⟨by rw [List.any_cons, h1.2, Bool.or_false]; exact h1.1, Nat.le_succ_of_le h2⟩ ⟨by rw [List.any_cons, h1.1, Bool.false_or]; exact i.1, Nat.succ_le_succ i.2⟩
inductive DictAt (h : Heap) (d : Addr) (n : Nat) : Prop
  | mk {od : Obj} {es : List DictEntry} {m : Nat} : h.get? d = some od → od.cls = .type "dict" → od.data = .dict (List.toArray es) m → Small es n → DictAt h d n
theorem putName_small {x : Str} {hash : Int} {t : Tok} {V : Value} {od : Obj} {es : List DictEntry} {m n : Nat} (hc : od.cls = .type "dict") (hd : od.data = .dict (List.toArray es) m) (hs : Small es n) :
    ∃ es' m', (Obj.putName x hash (.str x t) V od).cls = .type "dict" ∧ (Obj.putName x hash (.str x t) V od).data = .dict (List.toArray es') m' ∧ Small es' (n + 1) := by
  have p := putIn_small (x := x) (V := V) (hash := hash) (t := t) hs
  obtain ⟨oc, odi, oda, osl⟩ := od
  obtain rfl : oc = _ := hc
  obtain rfl : oda = _ := hd
  unfold Obj.putName
  dsimp only
  revert p
  generalize nsPutIn x.cps.size x.cps.toList _ es = r
  obtain ⟨es', b'⟩ := r
  intro p
  cases b' with
  | true => exact ⟨_, _, rfl, rfl, p⟩
  | false => exact ⟨_, _, rfl, rfl, p⟩
section
variable {prog : Program} {w : World} {A : Around} {E : Value → Shared → Prop} {s : Shared} {M : Model}
/-- a name put into a small dict of an object's own -/
theorem put_small {d : Addr} {n : Nat} {name : Str} {v : Value} {tk : Tok} {Q : PySem.Fin → Shared → Prop} (hd : DictAt s.heap d n) (hz : n + 1 ≤ 100)
    (h : ∀ h', Heap.SameBut d s.heap h' → DictAt h' d (n + 1) → Q (.done (.ret .none)) { s with heap := h', toks := s.toks + 1 }) :
    wpAny M A (Builtin.ObjectAttr.storeInDict d (.str name tk) name v) Q E s := by
  cases hd with | @mk od es m hod hdc hdd hr =>
  unfold Builtin.ObjectAttr.storeInDict
  refine wpAny_bind (wpAny_pure (wpAny_bind ?_))
  unfold nsSet
  refine wpAny_bind (wpAny_bind (wpAny_askSetting (wpAny_pure (wpAny_bind (wpAny_mkText (wpAny_bind (wpAny_loadPart hod ?_)))))))
  rw [hdd]
  have hrk : (List.toArray es).any (·.refKey) = false := by rw [List.any_toArray]; exact hr.no
  dsimp only
  rw [aRefKeyMayBeTheName_at, hrk, Bool.and_false]
  refine wpAny_updatePart hod ?_
  generalize (if name.cps.isEmpty = true then 0 else reduceHash (M.w.params.strHash name.cps)) = hash
  obtain ⟨es', m', e1, e2, p⟩ := putName_small (x := name) (V := v) (hash := hash) (t := s.toks) hdc hdd hr
  have hg : (s.heap.update d (Obj.putName name hash (.str name s.toks) v)).get? d = some (Obj.putName name hash (.str name s.toks) v od) := Heap.get?_update_self _ hod (Obj.isFreed_of_dict e2)
  refine wpAny_bind (wpAny_lookBehind hg ?_ (wpAny_pure (h _ (Heap.SameBut.update ..) (.mk hg e1 e2 p))))
  rw [e2]
  refine pastItsLine_dict (Nat.le_trans ?_ (Nat.le_succ _))
  rw [List.size_toArray, sizeLine_eq]
  exact Nat.le_trans (Nat.le_trans p.len hz) (by decide)
end
end Mine
end
section
namespace Mine
/-- the class of the text's own traps, over another one of its own -/
inductive ExcCls (C D : Addr) : Obj → Prop
  | mk {nm q : Str} {N : Addr} {bs : List Value} {sn : List Str} {sub : List Value} {ab : Bool} {col : Option Bool} {dd : Option Addr} {k0 k1 k2 k3 k5 : Option Value} :
    ExcCls C D (excClassObj nm q C N bs [.ref D, .type "Exception", .type "BaseException", .type "object"] true sn sub ab col dd k0 k1 k2 k3 k5 "Exception.__new__")
theorem ExcCls.of {C D : Addr} {o : Obj} {cd : ClassData} {k0 k1 k2 k3 k5 : Option Value} (h1 : o.cls = .type "type") (h2 : o.data = .cls cd) (h3 : cd.mro = [.ref C, .ref D, .type "Exception", .type "BaseException", .type "object"]) (h4 : cd.hasDict = true) (h5 : cd.hasDel = false)
    (h6 : o.slots = #[k0, k1, k2, k3, some (.builtin "Exception.__new__"), k5]) : ExcCls C D o := by
  obtain ⟨oc, od, da, sl⟩ := o
  obtain ⟨nm, bs, mro, ns, qn, hd, sn, sub, ab, col, del⟩ := cd
  obtain rfl : oc = _ := h1
  obtain rfl : da = _ := h2
  obtain rfl : mro = _ := h3
  obtain rfl : hd = _ := h4
  obtain rfl : del = _ := h5
  obtain rfl : sl = _ := h6
  exact .mk
theorem clsIn_data {K : Frag} {C : Addr} {cd : ClassData} {o : Obj} (h : clsIn K C = some cd) (e : K.lookup C = some o) : o.data = .cls cd := by
  unfold clsIn at h
  rw [e] at h
  obtain ⟨oc, od, da, sl⟩ := o
  cases da <;> cases h
  rfl
structure ExcIn (K : Frag) (C D : Addr) (cd : ClassData) (o : Obj) : Prop where
  at_ : clsIn K C = some cd
  mro : cd.mro = [.ref C, .ref D, .type "Exception", .type "BaseException", .type "object"]
  dict : cd.hasDict = true
  ob : K.lookup C = some o
  cls : ExcCls C D o
theorem excOk_obj {K : Frag} {C D : Addr} (h : excOk K C D = true) : ∃ cd o, ExcIn K C D cd o := by
  unfold excOk at h
  rw [Bool.and_eq_true, Option.any_eq_true, Option.any_eq_true] at h
  obtain ⟨⟨cd, hc, h1⟩, o, ho, h2⟩ := h
  rw [Bool.and_eq_true, decide_eq_true_eq, Bool.and_eq_true, Bool.not_eq_true'] at h1
  rw [Bool.and_eq_true, decide_eq_true_eq, decide_eq_true_eq] at h2
  exact ⟨cd, o, hc, h1.1, h1.2.1, ho, .of h2.1 (clsIn_data hc ho) h1.1 h1.2.1 h1.2.2 h2.2⟩

section
variable {prog : Program} {w : World} {A : Around} {E : Value → Shared → Prop} {s : Shared} {K : Frag} {C D x : Addr} {R : Result → Shared → Prop}
theorem osa_exc {ox : Obj} {od : Option Obj} {name : Str} {tk : Tok} {v : Value} (X : K.In s.heap) {cd : ClassData} {oC : Obj} (hok : ExcIn K C D cd oC) (I : InstAt s.heap x ox C od) (ht : takerIn K C name = some none)
    (h : ∀ b, wpAny (model prog w) A.in1 (Builtin.ObjectAttr.storeInOwnDict (.ref x) (.ref C) (.str name tk) name v b)
      (fun fin s' => match fin with | .done f => R (.ok f) s' | .again c' => c'.quiet = true ∧ codeAny (model prog w) A c' R s') (fun e s' => R (.error e) s') s) :
    codeAny (model prog w) A (.call (.builtin "object.__setattr__") ⟨[.ref x, .str name tk, v], []⟩) R s := by
  have SF := PySem.F.store_object
  have hc := hok.at_
  have hmro := hok.mro
  have sub : Looks (model prog w) s.heap (isInstance (.ref x) (.type "object")) true := I.type.andThen (looks_mroIn X (by unfold mroIn; rw [hc, Option.bind_some, hmro, if_neg (by simp)]; simp))
  refine codeAny_call_builtin SF.slot.plain SF.entry (@check_slot (model prog w) _ _ s "object.__setattr__" "object" "__setattr__" (.ref x) [.str name tk, v] [] _ SF.kind SF.split sub (SF.args (.ref x) (.str name tk) v) ?_)
  obtain ⟨attr, ha, hr⟩ := Option.bind_eq_some_iff.mp ht
  have hm : Looks (model prog w) s.heap (mroOf (.ref C)) [.ref C, .ref D, .type "Exception", .type "BaseException", .type "object"] := hmro ▸ (looks_clsIn X hc).andThen .now
  have L3 : Looks (model prog w) s.heap (Builtin.ObjectAttr.storeTaker? attr) none := by
    cases attr with
    | none => cases hr; exact .now
    | some a =>
      obtain ⟨b, hb, hbn⟩ := Option.map_eq_some_iff.mp hr
      refine (looks_takesIn X hb).andThen ?_
      cases b with
      | true => cases hbn
      | false => exact .now
  rw [osa_eq, refuse_eq]
  refine wpAny_bind (wpAny_bind (I.type.here (wpAny_bind (hm.here ?_))))
  rw [refuse_exc]
  refine wpAny_pure (wpAny_bind (I.type.here (wpAny_bind ((looks_findIn X ha).here (wpAny_bind (L3.here ?_))))))
  exact h _
theorem exc_set1 {o : Obj} {vs : Array Value} {name : Str} {v : Value} {Q : Unit → Shared → Prop} (X : K.In s.heap) {cd : ClassData} {oC : Obj} (hok : ExcIn K C D cd oC) (hset : findIn K (.ref C) "__setattr__" = some (some (.builtin "object.__setattr__"))) (ht : takerIn K C name = some none)
    (he : s.heap.get? x = some o) (hcl : o.cls = .ref C) (hd : o.data = .fields vs) (hdn : o.dict = none)
    (h : ∀ h' d tk, s.heap.get? d = none → (∀ b ob, b ≠ x → s.heap.get? b = some ob → h'.get? b = some ob) → h'.get? x = some { o with dict := some d } → DictAt h' d 1 → Q () { s with heap := h', toks := tk }) :
    wpAny (model prog w) A (setAttr (.ref x) name v) Q E s := by
  obtain ⟨oc, odi, oda, osl⟩ := o
  obtain rfl : oc = _ := hcl
  obtain rfl : oda = _ := hd
  obtain rfl : odi = _ := hdn
  have I : InstAt s.heap x _ C none := ⟨he, rfl, rfl, trivial⟩
  refine set_plain X I hset (osa_exc X hok I ht fun b => ?_)
  refine wpAny_bind (wpAny_pure (wpAny_bind (wpAny_bind (wpAny_loadPart he ?_))))
  refine wpAny_bind ((looks_clsIn X hok.at_) _ _ _ _ (fun _ _ e => e) ?_)
  rw [hok.dict]
  refine wpAny_bind (wpAny_alloc ?_)
  have he1 := Heap.get?_push_of_some (h := s.heap) { cls := .type "dict", data := .dict #[] } he
  refine wpAny_bind (wpAny_update he1 ?_)
  have sb1 : Heap.SameBut x (s.heap.push { cls := .type "dict", data := .dict #[] }) ((s.heap.push { cls := .type "dict", data := .dict #[] }).update x fun o => { o with dict := some s.heap.objs.size }) := Heap.SameBut.update ..
  have hx2 : ((s.heap.push { cls := .type "dict", data := .dict #[] }).update x fun o => { o with dict := some s.heap.objs.size }).get? x = some _ := Heap.get?_update_self _ he1 rfl
  have hne : s.heap.objs.size ≠ x := Nat.ne_of_gt (Heap.lt_size he)
  refine wpAny_pure (a := some s.heap.objs.size) (put_small (n := 0) (.mk ((sb1.2 _ hne).trans (Heap.get?_push_size _ rfl)) rfl rfl ⟨rfl, Nat.le_refl _⟩) (by decide) fun h' sb hg => ?_)
  exact h h' s.heap.objs.size _ (Heap.get?_none_of_le (Nat.le_refl _)) (fun b ob hb e => (sb.2 _ (Nat.ne_of_lt (Heap.lt_size e))).trans ((sb1.2 _ hb).trans (Heap.get?_push_of_some _ e))) ((sb.2 _ (Ne.symm hne)).trans hx2) hg
theorem exc_set2 {o : Obj} {vs : Array Value} {d : Addr} {name : Str} {v : Value} {Q : Unit → Shared → Prop} (X : K.In s.heap) {cd : ClassData} {oC : Obj} (hok : ExcIn K C D cd oC) (hset : findIn K (.ref C) "__setattr__" = some (some (.builtin "object.__setattr__"))) (ht : takerIn K C name = some none)
    (he : s.heap.get? x = some o) (hcl : o.cls = .ref C) (hd : o.data = .fields vs) (hdn : o.dict = some d) (hod : DictAt s.heap d 1) (h : ∀ h' tk, Heap.SameBut d s.heap h' → Q () { s with heap := h', toks := tk }) :
    wpAny (model prog w) A (setAttr (.ref x) name v) Q E s := by
  obtain ⟨od, god⟩ : ∃ od, s.heap.get? d = some od := by cases hod with | mk g _ _ _ => exact ⟨_, g⟩
  obtain ⟨oc, odi, oda, osl⟩ := o
  obtain rfl : oc = _ := hcl
  obtain rfl : oda = _ := hd
  obtain rfl : odi = _ := hdn
  have I : InstAt s.heap x _ C (some od) := ⟨he, rfl, rfl, god⟩
  refine set_plain X I hset (osa_exc X hok I ht fun b => ?_)
  refine wpAny_bind (wpAny_pure (wpAny_bind (wpAny_bind (wpAny_loadPart he ?_))))
  refine wpAny_bind ((looks_clsIn X hok.at_) _ _ _ _ (fun _ _ e => e) ?_)
  rw [hok.dict]
  exact wpAny_pure (a := some d) (put_small (s := { s with toks := s.toks + 1 }) hod (by decide) fun h' sb _ => h h' _ sb)

/-- type.__call__ over the class of traps, whose own start is a def -/
theorem makeE {A : Around} {rest : List Value} {fI : Addr} {Q : Value → Shared → Prop} (X : K.In s.heap) {cd : ClassData} {oC : Obj} (hok : ExcIn K C D cd oC) (hi : findIn K (.ref C) "__init__" = some (some (.ref fI))) (hf : typeIn K (.ref fI) = some (.type "function")) (hrest : rest.length ≤ 1000)
    (h : wpC (model prog w) (A.under (.builtin "type.__call__" ⟨.ref C :: rest, []⟩)) (call (.ref fI) (.ref (s.heap.objs.size + 1) :: rest)) (fun v s' => v = .none ∧ Q (.ref (s.heap.objs.size + 1)) s') E
      { s with heap := (s.heap.push { cls := .type "tuple", data := .seq rest.toArray }).push { cls := .ref C, data := .fields #[.ref s.heap.objs.size, .none, .none, .none, .bool false, .none] } }) :
    wpC (model prog w) A (call (.ref C) rest) Q E s := by
  obtain ⟨hh, g, d, t, os⟩ := s
  have hmro : Looks (model prog w) hh (isSubtype (.ref C) (.ref C)) true := looks_mroIn X (by unfold mroIn; rw [hok.at_, Option.bind_some, hok.mro]; exact (if_neg Bool.false_ne_true).trans (congrArg some (by rw [List.contains_cons, beq_self_eq_true, Bool.true_or])))
  obtain ⟨_, _, _, ho, hcls⟩ := hok
  cases hcls
  have hC := X _ _ ho
  have Fb := PySem.F.excBase_Exception
  have Li := looks_findIn (M := model prog w) X hi
  have hT : (⟨hh, g, d, t, os⟩ : Shared).TypeIs (.ref C) "type" := ⟨_, hC, rfl⟩
  refine wpC_call (codeC_of_tree rfl ?_)
  show wpC _ _ (callAny (.ref C) _) _ _ _
  simp only [callAny]
  refine wpC_bindA (wpAny_load hC ?_)
  dsimp only
  show wpC _ _ (callAny.viaDunder (.ref C) _) _ _ _
  unfold callAny.viaDunder
  refine wpC_bindA (wpAny_specialOf hT tc_lookup ?_)
  dsimp only
  rw [tc_bind]
  refine wpC_bindA (wpAny_pure ?_)
  refine wpC_bindA (wpAny_pure ?_)
  refine wpC_pure (a := PySem.Fin.again (.call (.builtin "type.__call__") ⟨.ref C :: rest, []⟩)) ⟨rfl, ?_⟩
  refine codeC_of_tree rfl ?_
  show wpC _ _ (do checkBuiltinCall "type.__call__" ⟨.ref C :: rest, []⟩; again (.builtin "type.__call__" ⟨.ref C :: rest, []⟩)) _ _ _
  refine wpC_bindA (wpAny_check_type_call_sub hC ?_)
  refine wpC_pure ⟨Code.quiet_builtin _ (by decide +kernel), codeC_builtin entry_typeCall (by decide +kernel) ?_⟩
  unfold Builtin.«type.__call__»
  dsimp only
  refine wpC_if_false rfl ?_
  refine wpC_bindA (wpAny_mroOf_exc hC ?_)
  refine wpC_if_false rfl ?_
  refine wpC_bindA (wpAny_madeBy_exc hC ?_)
  dsimp only
  refine wpC_bindA (wpAny_pure ?_)
  refine wpC_bindA (wpAny_holding (wpAny_call (codeAny_call_builtin_code (Code.quiet_builtin _ Fb.quiet) (wpAny_check_new_subU Fb (by simp) .base hC (new_own Fb (by simp) (by simp) (by simp) hC ?_ (by rw [sizeLine_eq]; omega))))))
  dsimp only
  generalize hH : (hh.push { cls := .type "tuple", data := .seq rest.toArray }).push { cls := .ref C, data := .fields #[.ref hh.objs.size, .none, .none, .none, .bool false, .none] } = H at h ⊢
  have k : ∀ b o, hh.get? b = some o → H.get? b = some o := fun b o e => hH ▸ Heap.get?_push_of_some _ (Heap.get?_push_of_some _ e)
  have hx : H.get? (hh.objs.size + 1) = some { cls := .ref C, data := .fields #[.ref hh.objs.size, .none, .none, .none, .bool false, .none] } := by rw [← hH]; heap_get
  have t1 : Looks (model prog w) H (typeOf (.ref (hh.objs.size + 1))) (.ref C) := (Looks.ld hx).andThen .now
  have i1 := Li.keeps k
  have b1 := (bind_fn (M := model prog w) X (.ref (hh.objs.size + 1)) hf).keeps k
  have L5 : Looks (model prog w) H (isInstance (.ref (hh.objs.size + 1)) (.ref C)) true := t1.andThen (hmro.keeps k)
  refine wpC_bindA (L5.at ?_)
  refine wpC_if_false rfl ?_
  unfold callSpecial? specialOf
  refine wpC_bind (wpC_holding (wpC_bindA (wpAny_bind (t1.at (i1.at ?_)))))
  dsimp only
  refine wpC_holding (wpC_bindA (b1.at ?_))
  refine wpC_bind (wpC_mono h (fun v s' z => ?_) fun _ _ z => z)
  obtain ⟨rfl, z⟩ := z
  refine wpC_pure ?_
  dsimp only
  refine wpC_if_false rfl ?_
  exact wpC_pure z
end
end Mine
end
section
namespace Mine

/-! the starts of the traps -/
section
variable {prog : Program} {w : World} {A : Around} {s : Shared} {K : Frag} {env : Env}
theorem type_get {T : String} {name : Str} {v : Value} {pl : Sem Bool} {Q : Value × List Value → Shared → Prop} {E : Value → Shared → Prop} (X : K.In s.heap) (ht : typeOf (.type T) = pure (.type "type")) (hs : Manifest.isStub T = false)
    (e : findCls K (.type T) (.type "type") name = some (.val v)) (hh : handedIn v = true) (h : Q (v, []) { s with toks := s.toks + 1 }) : wpAny (model prog w) A (getMethod (.type T) name pl) Q E s := by
  have hstub : opaqueClassAbove (.type T) = pure none := by unfold opaqueClassAbove; dsimp only; rw [hs]; rfl
  have L0 : Looks (model prog w) s.heap (typeOf (.type T)) (.type "type") := Looks.of_pure ht
  have hg : findIn K (.type "type") "__getattribute__" = some (some (.builtin "type.__getattribute__")) := type_tga
  unfold getMethod specialOf
  refine wpAny_bind (wpAny_bind (L0.here ((looks_findIn X hg).here ?_)))
  dsimp only
  rw [if_pos canon_tga]
  refine wpAny_bind (wpAny_mono (Q := fun v => Q (v, [])) (E := E) ?_ (fun _ _ z => wpAny_pure z) fun _ _ z => z)
  exact cls_open X (Looks.of_pure hstub) L0 hg (looks_hook X (r := none) (by rfl)) (by show subIn K _ _ = _; rfl) e (wpAny_pure (by show wpAny _ _ (handedOut v) _ _ _; rw [handedOut_of hh]; exact wpAny_pure h))
theorem own_get {D : Addr} {name : Str} {v : Value} {pl : Sem Bool} {Q : Value × List Value → Shared → Prop} {E : Value → Shared → Prop} (X : K.In s.heap) (hg : specialIn K (.ref D) "__getattribute__" = some (some (.builtin "type.__getattribute__"))) (hr : readsIn K D (.type "type") = true)
    (e : findCls K (.ref D) (.type "type") name = some (.val v)) (hh : handedIn v = true) (h : Q (v, []) { s with toks := s.toks + 1 }) : wpAny (model prog w) A (getMethod (.ref D) name pl) Q E s :=
  method_cls X hg (cls_value X hr e hh h)
end
theorem bind_val {kindOf : Str → Option NameKind} {x : Str} {V : Value} {m : Str → Option Value} {xs : List Str} {Vs : List Value} (hn : xs.Nodup) (hk : ∀ y ∈ xs, kindOf y = some .local) (h : (x, V) ∈ xs.zip Vs) : PySem.bindL kindOf (xs.zip Vs) m x = some V := by
  induction xs generalizing Vs m with
  | nil => cases h
  | cons y xs ih =>
    cases Vs with
    | nil => cases h
    | cons U Vs =>
      obtain ⟨nx, hn⟩ := List.nodup_cons.mp hn
      rw [List.zip_cons_cons] at h ⊢
      unfold PySem.bindL
      cases h with
      | head => exact (bindL_no fun q => by obtain ⟨p, hp, rfl⟩ := List.mem_map.mp q; exact nx (List.of_mem_zip (a := p.1) (b := p.2) hp).1).1.trans (by rw [hk x List.mem_cons_self]; exact (congrFun (if_pos rfl) x).trans (if_pos rfl))
      | tail _ h => exact ih hn (fun z hz => hk z (List.mem_cons_of_mem _ hz)) h
/-- the frame of such a start -/
inductive ExcEnv (d : FnRec) (vals : List Value) (env : Env) (s : Shared) : Prop
  | mk {m : Str → Option Value} : EnvF env → (∀ x, env.kindOf x = d.scope.names.lookup x) → s.heap.Ns env.locals m → (∀ x V, (x, V) ∈ d.params.zip vals → m x = some V) → ExcEnv d vals env s
/-- all but one is kept -/
def KeepBut (e : Addr) (s s' : Shared) : Prop := ∀ b ob, b ≠ e → s.heap.get? b = some ob → s'.heap.get? b = some ob
section
variable {M : Model} {prog : Program} {w : World} {A : Around} {s s' : Shared} {env : Env} {d : FnRec} {vals : List Value} {e : Addr}
theorem ExcEnv.keep (h : ExcEnv d vals env s) (k : KeepBut e s s') (ne : env.locals ≠ e) : ExcEnv d vals env s' := match h with
  | .mk f kd ⟨o, es, ep, ho, r⟩ v => .mk f kd ⟨o, es, ep, k _ _ ne ho, r⟩ v
theorem ExcEnv.read {x : Str} {V : Value} {p : Pos} {Q : Value → Shared → Prop} {E : Value → Shared → Prop} (h : ExcEnv d vals env s) (loc : ∀ x ∈ d.params, d.scope.names.lookup x = some .local) (hm : (x, V) ∈ d.params.zip vals) (hd : (x == ("__debug__" : Str)) = false) (q : Q V s) : wpAny M A (eval (.Name x p) env) Q E s := match h with
  | .mk f kd n v => wpAny_Name (wpAny_loadName_local f.kind ((kd x).trans (loc x (List.of_mem_zip (a := x) (b := V) hm).1)) n (v x V hm) q) hd
/-- what the base's start is, called over the new one -/
structure ExcBase (M : Model) (A : Around) (base : Str) (e : Addr) (W : Value) (P : Shared → Prop) (s : Shared) (V f : Value) : Prop where
  load : ∀ {env : Env} {Q : Value → Shared → Prop} {E : Value → Shared → Prop}, EnvF env → env.kindOf base = some .globalImplicit → Q V s → wpAny M A (loadName env base) Q E s
  get : ∀ {pl : Sem Bool} {Q : Value × List Value → Shared → Prop} {E : Value → Shared → Prop}, Q (f, []) { s with toks := s.toks + 1 } → wpAny M A (getMethod V ("__init__" : Str) pl) Q E s
  keeps : ∀ {Q : Keeper → Shared → Prop} {E : Value → Shared → Prop}, (∀ k, k = .frame ∨ k = .machine → Q k { s with toks := s.toks + 1 }) → wpAny M A (keeperOf f) Q E { s with toks := s.toks + 1 }
  run : wpC M A (call f [.ref e, W]) (fun _ s' => P s' ∧ KeepBut e s s') (fun _ _ => False) { s with toks := s.toks + 1 }
theorem exec_S1 {base : Str} {p1 p2 p3 p4 p5 p6 : Pos} {V f W : Value} {P : Shared → Prop} (h25 : p2.endLine = p5.line) (hb : (base == ("__debug__" : Str)) = false) (B : ExcBase (model prog w) A base e W P s V f) (h : ExcEnv d vals env s) (loc : ∀ x ∈ d.params, d.scope.names.lookup x = some .local)
    (look : d.scope.names.lookup base = some .globalImplicit) (m1 : (("self" : Str), .ref e) ∈ d.params.zip vals) (m2 : (("word" : Str), W) ∈ d.params.zip vals) :
    wpC (model prog w) A (exec (.Expr (.Call (.Attribute (.Name base p1) ("__init__" : Str) p2) [.Name ("self" : Str) p3, .Name ("word" : Str) p4] [] p5) p6) env) (fun F s' => F = .next ∧ P s' ∧ KeepBut e s s') (fun _ _ => False) s := by
  have ⟨hf, hk⟩ : EnvF env ∧ env.kindOf base = some .globalImplicit := match h with | .mk f kd _ _ => ⟨f, (kd base).trans look⟩
  have h' : ExcEnv d vals env { s with toks := s.toks + 1 } := match h with | .mk f kd n v => .mk f kd n v
  rw [PySem.exec_Expr env _ p6 (by unfold interactive; rw [hf.kind]; rfl) rfl]
  refine wpC_bind (wpC_standAt (wpC_bind ?_))
  rw [arm_eval_Call, attributeBase_plain (by rfl)]
  refine wpC_bindA (wpAny_Name (B.load hf hk ?_) hb)
  refine wpC_bind (wpC_standAt ?_)
  unfold methodCall
  rw [fewForm (args := [.Name ("self" : Str) p3, .Name ("word" : Str) p4]) (by rfl) (by show 2 < 30; decide)]
  refine wpC_bind (wpC_holding (wpC_of (B.get ?_)))
  refine wpC_bind (wpC_of_eq (callPos_here h25) (wpC_pure ?_))
  rw [backToKw_nil]
  refine callWithC (backTo_any (star_any (by rfl))) (wpC_of ?_)
  show wpAny _ A (spliced [(false, eval (.Name ("self" : Str) p3) env), (false, eval (.Name ("word" : Str) p4) env)]) _ _ _
  refine Calls.spliced_cons (h'.read loc m1 (by decide +kernel) (Calls.spliced_cons (h'.read loc m2 (by decide +kernel) (Calls.spliced_nil ⟨fun Q E q => B.keeps q, ?_⟩))))
  exact wpC_mono B.run (fun v s' hP => wpC_of (wpAny_dropValue ⟨rfl, hP⟩)) fun _ _ q => q
theorem exec_S2 {fld : Str} {p7 p8 p9 p10 : Pos} {X : Value} {P : Shared → Prop} (h : ExcEnv d vals env s) (loc : ∀ x ∈ d.params, d.scope.names.lookup x = some .local) (m1 : (("self" : Str), .ref e) ∈ d.params.zip vals) (m2 : (fld, X) ∈ d.params.zip vals) (hf : (fld == ("__debug__" : Str)) = false)
    (hset : wpAny (model prog w) A (setAttr (.ref e) fld X) (fun _ s' => P s') (fun _ _ => False) s) :
    wpC (model prog w) A (exec (.Assign [.Attribute (.Name ("self" : Str) p7) fld p8] (.Name fld p9) p10) env) (fun F s' => F = .next ∧ P s') (fun _ _ => False) s := by
  rw [assign_eq fun _ _ => rfl]
  refine wpC_bind (wpC_standAt (wpC_bindA (h.read loc m2 hf ?_)))
  show wpC _ A (pure none >>= fun r => assignStores env X r ((assignEach [.Attribute (.Name ("self" : Str) p7) fld p8] env).map (·.2))) _ _ _
  rw [pure_bind, asgEach_cons rfl]
  show wpC _ A (assign (.Attribute (.Name ("self" : Str) p7) fld p8) env X >>= fun _ => pure Flow.next) _ _ s
  rw [arm_assign_Attribute]
  refine wpC_bind (wpC_bindA (wpAny_holding (h.read loc m1 (by decide +kernel) (wpC_bind (wpC_standAt (wpC_bindA (wpAny_holding (wpAny_mono hset (fun _ s' hP => ?_) fun _ _ q => q.elim))))))))
  exact wpC_release (wpC_pure ⟨rfl, hP⟩)
end
section
variable {g : Gx} {A : Around} {s : Shared}
/-- the run of such a start -/
theorem exc_fn {fa e : Addr} {d : FnRec} {base fld : Str} {ps : List Str} {vals : List Value} {P P' : Shared → Prop} {W X : Value} (T : Top g) (k0 : ∀ b o, g.h₀.get? b = some o → s.heap.get? b = some o) (hfo : FnObj g.K fa d) (hp : plainDef d = true) (fm : ExcForm d base fld ps) (hlen : ps.length = vals.length) (room : A.depth < recursionLimit)
    (hx : (fld == ("__debug__" : Str)) = false) (m1 : (("self" : Str), .ref e) ∈ ps.zip vals) (m2 : (("word" : Str), W) ∈ ps.zip vals) (m3 : (fld, X) ∈ ps.zip vals) (he : s.heap.get? e ≠ none)
    (h1 : ∀ (A' : Around) (s₁ : Shared), A'.depth = A.depth + 1 → (∀ b o, s.heap.get? b = some o → s₁.heap.get? b = some o) → s₁.gens = s.gens → s₁.os = s.os → ∃ V f, ExcBase (model g.prog g.wd) A' base e W P' s₁ V f)
    (h2 : ∀ (A' : Around) (s₂ : Shared), P' s₂ → wpAny (model g.prog g.wd) A' (setAttr (.ref e) fld X) (fun _ s' => P s') (fun _ _ => False) s₂) :
    wpC (model g.prog g.wd) A (call (.ref fa) vals) (fun r s' => r = .none ∧ P s') (fun _ _ => False) s := by
  obtain ⟨⟨p1, p2, p3, p4, p5, p6, p7, p8, p9, p10, rfl, h25, hbody⟩, hbase, hloc, hpl⟩ := fm
  cases hfo with | @mk oc od sl name qual args kV doc pm an cdv ct hK hcd hargs _ =>
  unfold plainDef at hp
  simp only [Bool.and_eq_true, beq_iff_eq, Bool.not_eq_true', decide_eq_true_eq] at hp
  obtain ⟨⟨⟨⟨hk, hgen⟩, hco⟩, hnd⟩, _⟩ := hp
  have X := T.kin.keeps k0
  have hlV : vals.length = args.length := by rw [← hlen, ← hargs, List.length_map]
  refine wpC_call (codeC_call (fd := fnOf name qual ⟨[], args, none, [], [], none, []⟩ d.body d.scope .none kV doc pm an cdv ct) (body := d.body) room (X _ _ hK) rfl (T.lim.keeps k0) (codeRec_of X hcd) rfl
      (bind_simple hlV (by rw [hargs]; exact hnd)) rfl (fun x hx => .inl (hloc _ (hargs ▸ (List.of_mem_zip (a := x.1) (b := x.2) hx).1))) ?_ hco hgen hk)
  intro s₁ IC hsz
  rw [hargs] at IC
  have hLn : s.heap.get? s.heap.objs.size = none := Heap.get?_none_of_le (Nat.le_refl _)
  generalize henv : callEnvC (fnOf name qual ⟨[], args, none, [], [], none, []⟩ d.body d.scope .none kV doc pm an cdv ct) s.heap.objs.size fa = env at *
  have e1 : env.scope = d.scope := by rw [← henv]; rfl
  have e2 : env.locals = s.heap.objs.size := by rw [← henv]; rfl
  have ef : EnvF env := ⟨by rw [e1]; exact hk, by rw [← henv]; rfl, by rw [← henv]; rfl⟩
  clear henv
  obtain ⟨⟨⟨h₁, tk, rfl⟩, hns, hkeep, hfresh⟩, hcell, hapart, habove⟩ := IC
  have kd : ∀ x, env.kindOf x = d.scope.names.lookup x := fun x => by unfold Env.kindOf; rw [e1]
  have hE : ExcEnv d vals env { s with heap := h₁, toks := tk } := .mk ef kd hns fun x V hm => bind_val hnd (fun y hy => (kd y).trans (hloc y hy)) hm
  obtain ⟨V, f, B⟩ := h1 (A.deeper env) { s with heap := h₁, toks := tk } rfl hkeep rfl rfl
  rw [hbody]
  show wpC _ _ (exec _ env >>= fun f => match f with | .next => execs [_] env | f => pure f) _ _ _
  refine wpC_bind (wpC_mono (exec_S1 h25 hpl B hE hloc hbase m1 m2) (fun F s₂ q => ?_) fun _ _ q => q.elim)
  obtain ⟨rfl, hP, kb⟩ := q
  show wpC _ _ (exec _ env >>= fun f => match f with | .next => execs [] env | f => pure f) _ _ _
  refine wpC_bind (wpC_mono (exec_S2 (hE.keep kb fun q => he (q ▸ e2 ▸ hLn)) hloc m1 m3 hx (h2 _ _ hP)) (fun F s₃ q => ?_) fun _ _ q => q.elim)
  obtain ⟨rfl, hP⟩ := q
  exact wpC_of (wpAny_execs_nil ⟨rfl, hP⟩)
end
end Mine
end
section
namespace Mine

/-- the names put so far -/
inductive ExcDict (s s' : Shared) (o : Obj) : Nat → Prop
  | no : o.dict = none → ExcDict s s' o 0
  | one {d : Addr} : o.dict = some d → s.heap.get? d = none → DictAt s'.heap d 1 → ExcDict s s' o 1
  | any : ExcDict s s' o 2
/-- a trap under construction -/
inductive Making (g : Gx) (s : Shared) (e : Addr) (n : Nat) (s' : Shared) : Prop
  | mk {o : Obj} {t0 : Addr} : (∀ b ob, s.heap.get? b = some ob → s'.heap.get? b = some ob) → s'.gens = s.gens → s'.os = s.os → s.heap.get? e = none → s'.heap.get? e = some o → o.cls = .ref g.C.trap → o.data = .fields #[.ref t0, .none, .none, .none, .bool false, .none] → ExcDict s s' o n → Making g s e n s'
section
variable {g : Gx} {A : Around} {s s₁ s' : Shared} {e : Addr}
theorem Making.up (m : Making g s e 0 s₁) (k : ∀ b o, s₁.heap.get? b = some o → s'.heap.get? b = some o) (hg : s'.gens = s₁.gens) (ho : s'.os = s₁.os) : Making g s e 0 s' := match m with
  | .mk a b c d x f h (.no i) => .mk (fun _ _ q => k _ _ (a _ _ q)) (hg.trans b) (ho.trans c) d (k _ _ x) f h (.no i)
theorem mapFields_dict {f : Array Value → Array Value} {o : Obj} {vs : Array Value} (h : o.data = .fields vs) : (Obj.mapFields f o).dict = o.dict := by
  obtain ⟨oc, od, oda, sl⟩ := o
  obtain rfl : oda = _ := h
  rfl
/-- the base's own start, over a new trap -/
theorem base_run {W : Value} {oC : Obj} (hC : s₁.heap.get? g.C.trap = some oC) (hc : ExcCls g.C.trap g.D oC) (m : Making g s e 0 s₁) : wpC g.M A (call (.builtin "Exception.__init__") [.ref e, W]) (fun _ s' => Making g s e 0 s' ∧ KeepBut e s₁ s') (fun _ _ => False) s₁ := by
  cases hc
  cases m with | @mk o t0 k hg ho new he hcl hd dn =>
  cases dn with | no hdn =>
  obtain ⟨hh, gg, dd, tk, os⟩ := s₁
  refine wpC_of (init_own PySem.F.excBase_Exception (by simp) hC he hcl hd rfl ?_ (by rw [sizeLine_eq]; exact (by decide : 1 ≤ 16777216)))
  have sb : Heap.SameBut e (hh.push { cls := .type "tuple", data := .seq (List.toArray [W]) }) ((hh.push { cls := .type "tuple", data := .seq (List.toArray [W]) }).update e (Obj.mapFields (·.setIfInBounds 0 (.ref hh.objs.size)))) := Heap.SameBut.update ..
  have kb : KeepBut e ⟨hh, gg, dd, tk, os⟩ ⟨(hh.push { cls := .type "tuple", data := .seq (List.toArray [W]) }).update e (Obj.mapFields (·.setIfInBounds 0 (.ref hh.objs.size))), gg, dd, tk, os⟩ := fun b ob hb q => (sb.2 _ hb).trans (Heap.get?_push_of_some _ q)
  exact ⟨.mk (fun b ob q => kb b ob (fun z => by rw [z, new] at q; cases q) (k _ _ q)) hg ho new (Heap.get?_update_self _ (Heap.get?_push_of_some _ he) (Obj.isFreed_of_fields (Obj.data_mapFields hd _))) ((Obj.cls_mapFields ..).trans hcl) ((Obj.data_mapFields hd _).trans rfl) (.no ((mapFields_dict hd).trans hdn)), kb⟩
theorem set_first {name : Str} {v : Value} {cd : ClassData} {oC : Obj} (X : g.K.In s₁.heap) (TT : TrapTop g) (hx : ExcIn g.K g.C.trap g.D cd oC) (ht : takerIn g.K g.C.trap name = some none) (m : Making g s e 0 s₁) : wpAny g.M A (setAttr (.ref e) name v) (fun _ s' => Making g s e 1 s' ∧ KeepBut e s₁ s') (fun _ _ => False) s₁ := by
  cases m with | @mk o t0 k hg ho new he hcl hd dn =>
  cases dn with | no hdn =>
  exact exc_set1 X hx TT.set ht he hcl hd hdn fun h' d tk hn kb he' hd' => ⟨.mk (fun b ob q => kb b ob (fun z => by rw [z, new] at q; cases q) (k _ _ q)) hg ho new he' hcl hd (.one rfl (by
    cases q : s.heap.get? d with
    | none => rfl
    | some ob => rw [k _ _ q] at hn; cases hn) hd'), kb⟩
theorem set_next {name : Str} {v : Value} {cd : ClassData} {oC : Obj} (X : g.K.In s₁.heap) (TT : TrapTop g) (hx : ExcIn g.K g.C.trap g.D cd oC) (ht : takerIn g.K g.C.trap name = some none) (m : Making g s e 1 s₁) : wpAny g.M A (setAttr (.ref e) name v) (fun _ s' => Making g s e 2 s') (fun _ _ => False) s₁ := by
  cases m with | @mk o t0 k hg ho new he hcl hd dn =>
  cases dn with | @one d hdn hn hd' =>
  refine exc_set2 X hx TT.set ht he hcl hd hdn hd' fun h' tk sb => ?_
  have ne : e ≠ d := fun q => by
    cases hd' with | mk g1 _ g3 _ =>
    rw [← q, he] at g1; cases g1
    rw [hd] at g3; cases g3
  exact .mk (fun b ob q => (sb.2 _ fun z => by rw [z, hn] at q; cases q).trans (k _ _ q)) hg ho new ((sb.2 _ ne).trans he) hcl hd .any
theorem fnob_keep {fD : Addr} {dD : FnRec} (X : g.K.In s.heap) (h : FnObj g.K fD dD) {Q : Keeper → Shared → Prop} {E : Value → Shared → Prop} (q : ∀ k, k = .frame ∨ k = .machine → Q k s) : wpAny g.M A (keeperOf (.ref fD)) Q E s := match h with
  | .mk hK _ _ _ => keeper_func (X _ _ hK) rfl q
/-- DebugFault's start over a new trap -/
theorem fault_init (T : Top g) {fD : Addr} {dD : FnRec} {W : Value} {cd : ClassData} {oC : Obj} (hx : ExcIn g.K g.C.trap g.D cd oC) (k0 : ∀ b ob, g.h₀.get? b = some ob → s.heap.get? b = some ob) (hfn : FnObj g.K fD dD) (hp : plainDef dD = true) (fm : ExcForm dD "Exception" "word" ["self", "word"]) (room : A.depth < recursionLimit) (m : Making g s e 0 s₁) :
    wpC g.M A (call (.ref fD) [.ref e, W]) (fun r s' => r = .none ∧ Making g s e 1 s' ∧ KeepBut e s₁ s') (fun _ _ => False) s₁ := by
  have TT := T.trap
  have ⟨ks, he, new⟩ : (∀ b ob, s.heap.get? b = some ob → s₁.heap.get? b = some ob) ∧ s₁.heap.get? e ≠ none ∧ s.heap.get? e = none := match m with | .mk a _ _ n x _ _ _ => ⟨a, by rw [x]; nofun, n⟩
  have k01 : ∀ b ob, g.h₀.get? b = some ob → s₁.heap.get? b = some ob := fun b ob q => ks _ _ (k0 _ _ q)
  refine exc_fn (e := e) (W := W) (X := W) (P' := fun s' => Making g s e 0 s' ∧ KeepBut e s₁ s') T k01 hfn hp fm rfl room (by decide +kernel) (.head _) (.tail _ (.head _)) (.tail _ (.head _)) he (fun A' s2 _ k2 hg2 ho2 => ⟨.type "Exception", .builtin "Exception.__init__", ?_⟩) fun A' s2 q => ?_
  · have k02 : ∀ b ob, g.h₀.get? b = some ob → s2.heap.get? b = some ob := fun b ob q => k2 _ _ (k01 _ _ q)
    have X2 : g.K.In s2.heap := T.kin.keeps k02
    refine ⟨fun f hk q => load_mb f hk (T.nsg.keeps k02) (T.nsb.keeps k02) TT.mgE TT.mbE q, fun q => type_get X2 (by first | rfl | kernel_rfl) (by decide +kernel) TT.bs (by decide +kernel) q, fun q => keeper_builtin q, ?_⟩
    exact wpC_mono (base_run (s₁ := { s2 with toks := s2.toks + 1 }) (X2 _ _ hx.ob) hx.cls (m.up k2 hg2 ho2)) (fun _ s' q => ⟨⟨q.1, fun b ob hb z => q.2 b ob hb (k2 _ _ z)⟩, q.2⟩) fun _ _ q => q
  · have X2 : g.K.In s2.heap := T.kin.keeps fun b ob z => match q.1 with | .mk a _ _ _ _ _ _ _ => a _ _ (k0 _ _ z)
    exact wpAny_mono (set_first X2 TT hx TT.tw q.1) (fun _ s' z => ⟨z.1, fun b ob hb y => z.2 b ob hb (q.2 b ob hb y)⟩) fun _ _ q => q
/-- Trap(word, at) -/
theorem trap_made (T : Top g) {W V : Value} (k0 : ∀ b ob, g.h₀.get? b = some ob → s.heap.get? b = some ob) (room : A.depth + 4 < recursionLimit) :
    wpC g.M A (call (.ref g.C.trap) [W, V]) (fun r s' => ∃ e, r = .ref e ∧ Making g s e 2 s') (fun _ _ => False) s := by
  have TT := T.trap
  obtain ⟨vT, hi, ⟨rfl, hfn, hp, fm⟩⟩ := TT.init
  obtain ⟨vD, hfc, hD⟩ := TT.base
  cases hD with | @mk fD dD eD hfnD hpD fmD =>
  obtain ⟨cd, oC, hx⟩ := excOk_obj TT.ok
  cases eD
  have X := T.kin.keeps k0
  refine makeE X hx hi (by cases hfn with | mk _ _ _ h => exact h) (by show 2 ≤ 1000; decide) ?_
  have mk0 : Making g s (s.heap.objs.size + 1) 0 { s with heap := (s.heap.push { cls := .type "tuple", data := .seq (List.toArray [W, V]) }).push { cls := .ref g.C.trap, data := .fields #[.ref s.heap.objs.size, .none, .none, .none, .bool false, .none] } } :=
    .mk (fun b ob q => Heap.get?_push_of_some _ (Heap.get?_push_of_some _ q)) rfl rfl (Heap.get?_none_of_le (Nat.le_succ _)) (by have := Heap.get?_push_size (s.heap.push { cls := .type "tuple", data := .seq (List.toArray [W, V]) }) (o := { cls := .ref g.C.trap, data := .fields #[.ref s.heap.objs.size, .none, .none, .none, .bool false, .none] }) rfl; rw [Heap.size_push] at this; exact this) rfl rfl (.no rfl)
  generalize s.heap.objs.size + 1 = e at mk0 ⊢
  revert mk0
  generalize { s with heap := (s.heap.push { cls := .type "tuple", data := .seq (List.toArray [W, V]) }).push { cls := .ref g.C.trap, data := .fields #[.ref s.heap.objs.size, .none, .none, .none, .bool false, .none] } } = s₁
  intro mk0
  have ⟨ks, he⟩ : (∀ b ob, s.heap.get? b = some ob → s₁.heap.get? b = some ob) ∧ s₁.heap.get? e ≠ none := match mk0 with | .mk a _ _ n x _ _ _ => ⟨a, by rw [x]; nofun⟩
  have k01 : ∀ b ob, g.h₀.get? b = some ob → s₁.heap.get? b = some ob := fun b ob q => ks _ _ (k0 _ _ q)
  refine wpC_mono (exc_fn (e := e) (W := W) (X := V) (P' := Making g s e 1) (P := Making g s e 2) T k01 hfn hp fm rfl (by show A.depth + 1 < _; omega) (by decide +kernel) (.head _) (.tail _ (.head _)) (.tail _ (.tail _ (.head _))) he (fun A' s2 hA k2 hg2 ho2 => ⟨.ref g.D, .ref fD, ?_⟩) fun A' s2 q => ?_) (fun r s' q => ⟨q.1, _, rfl, q.2⟩) fun _ _ q => q
  · have k02 : ∀ b ob, g.h₀.get? b = some ob → s2.heap.get? b = some ob := fun b ob q => k2 _ _ (k01 _ _ q)
    have X2 : g.K.In s2.heap := T.kin.keeps k02
    refine ⟨fun f hk q => load_mg f hk (T.nsg.keeps k02) TT.mgD q, fun q => own_get X2 TT.ga TT.rd hfc rfl q, fun q => fnob_keep (s := { s2 with toks := s2.toks + 1 }) X2 hfnD q, ?_⟩
    have hd : A'.depth < recursionLimit := by rw [hA]; show A.depth + 1 + 1 < _; omega
    exact wpC_mono (fault_init T (s₁ := { s2 with toks := s2.toks + 1 }) hx k0 hfnD hpD fmD hd (mk0.up k2 hg2 ho2)) (fun _ s' q => q.2) fun _ _ q => q
  · exact set_next (T.kin.keeps fun b ob z => match q with | .mk a _ _ _ _ _ _ _ => a _ _ (k0 _ _ z)) TT hx TT.ta q
end
end Mine
end
section
namespace Mine

/-! raise, try -/
section
variable {α : Type} {M : Model} {A : Around} {s : Shared}
theorem wpC_size {t : Sem α} {Q : α → Shared → Prop} {E : Value → Shared → Prop}
    (h : wpC M A t (fun a s' => s.heap.objs.size ≤ s'.heap.objs.size → Q a s') (fun e s' => s.heap.objs.size ≤ s'.heap.objs.size → E e s') s) : wpC M A t Q E s := fun Γ p hΓ hc =>
  Sem.wp_mono M Γ t (fun a _ s' h => h.1 h.2) (fun e _ s' h => h.1 h.2) p s (wp_size t s.heap.objs.size (Nat.le_refl _) (h Γ p hΓ hc))
end
section
variable {prog : Program} {w : World} {A : Around} {s : Shared} {env : Env} {C D : Addr}
/-- a new trap in hand -/
inductive NewExc (C : Addr) (e : Addr) (s : Shared) : Prop
  | mk {o : Obj} {t0 : Addr} : s.heap.get? e = some o → o.cls = .ref C → o.data = .fields #[.ref t0, .none, .none, .none, .bool false, .none] → NewExc C e s
theorem raise_own {x : Sem Value} {oC : Obj} {Q : Flow → Shared → Prop} {E : Value → Shared → Prop} (hc : ExcCls C D oC) (hh : A.handled = none)
    (h : wpC (model prog w) A x (fun v s₁ => ∃ e, v = .ref e ∧ s₁.heap.get? C = some oC ∧ NewExc C e s₁ ∧ E (.ref e) s₁) E s) : wpC (model prog w) A (raiseStmt env (some x) none) Q E s := by
  cases hc
  have hcB : [Value.ref C, .ref D, .type "Exception", .type "BaseException", .type "object"].contains (.type "BaseException") = true := rfl
  unfold raiseStmt
  refine wpC_bind (wpC_mono h (fun v s₁ h₁ => wpC_of ?_) fun _ _ x => x)
  obtain ⟨e, rfl, hC, he, hE⟩ := h₁
  obtain ⟨hp, g, d, tk, os⟩ := s₁
  cases he with | @mk o t0 he hcl hd =>
  obtain ⟨oc, od, oda, osl⟩ := o
  obtain rfl : oc = _ := hcl
  obtain rfl : oda = _ := hd
  repeat (first | with_reducible refine wpAny_loadPart_at he ?_ | with_reducible refine wpAny_loadPart_at hC ?_ | (with_reducible refine wpAny_isSubtype_exc hC ?_; rw [hcB]) | wp_step)
  exact wpAny_raiseNew_none hh hE
end
section
variable {k : Kx} {w w₀ : Wd} {σ : St} {ρ : Loc} {env : Env} {n : Nat} {T : St → Prop} {K : Fl × Loc → St → Prop} {f str : Str} {p p1 p2 p3 p4 p5 p6 np cp : Pos} {args : List Expr} {e : Expr} {j : Nat}
theorem Inv.grows {s' : Shared} (i : Inv k w σ) (hk : ∀ b o, w.h.get? b = some o → s'.heap.get? b = some o) (hs : w.h.objs.size ≤ s'.heap.objs.size) (hg : s'.gens = w.s.gens) (ho : s'.os = w.s.os) : Step k none w σ ⟨w.ι, s'⟩ := by
  have x : Ext k none w ⟨w.ι, s'⟩ := ⟨⟨[], (List.append_nil _).symm⟩, hs, fun a o _ e n => ⟨n, ⟨o.slots, hk _ _ e⟩, fun _ => hk _ _ e⟩, nofun, nofun, hg, ho⟩
  refine ⟨x, i.len, i.nd, i.nd1, i.top, Nat.le_trans i.size hs, fun e => ?_, fun b o e => hk _ _ (i.keep b o e), fun en h => (i.fr en h).ext x⟩
  obtain ⟨p, hp, r⟩ := i.obj e
  exact ⟨p, hp, r.to x.kp (fun _ => hk _ _) (fun _ => hk _ _) id⟩
theorem x_raise (hf : f = "Trap") (hs : args.any isStar = false) (a : ρ.at f .gl) (h : EvLS n ρ args σ (fun vs σ => vs.length = 2 ∧ T σ) T) : ExS n ρ (.Raise (some (.Call (.Name f np) args [] cp)) none p) σ K T := fun k w env F iv er ow => by
  subst hf
  have TT := F.top.trap
  obtain ⟨cd, oC, hx⟩ := excOk_obj TT.ok
  rw [arm_exec_Raise]
  refine Run.standAt ?_
  show wpC _ k.A (raiseStmt env (some (eval (.Call (.Name ("Trap" : Str) np) args [] cp) env >>= fun v => standAt p >>= fun _ => pure v)) none) _ _ w.s
  refine raise_own hx.cls F.hand (wpC_bind ?_)
  rw [eval_CallName]
  refine wpC_bindA (wpAny_Name (load_mg er.f (er.gl a) (iv.nsg F) TT.mgT ?_) (by decide +kernel))
  refine callWithC (backTo_any (star_any hs)) (wpC_mono (h k w env cp F iv er) (fun Vs s2 q => ?_) fun _ _ g => match g with | .mk st x q => .mk (st.up er.ob er.nm) x q)
  cases q with | @mk vs _ σ2 w2 st2 rs q =>
  have hC := (st2.inv.kin F) _ _ hx.ob
  refine ⟨fun Q E h => ?_, ?_⟩
  · have hc := hx.cls
    obtain ⟨ι2, ⟨hh, gg, d, t, os⟩⟩ := w2
    cases hc
    exact wpAny_keeperOf_exc hC (h _ (.inr rfl))
  · obtain ⟨q1, q⟩ := q
    obtain ⟨W, V, rfl⟩ : ∃ W V, Vs = [W, V] := by
      rw [← rs.len] at q1
      cases rs with | nil => cases q1 | cons _ rs =>
      cases rs with | nil => cases q1 | cons _ rs =>
      cases rs with | nil => exact ⟨_, _, rfl⟩ | cons _ _ => cases q1
    refine wpC_size (wpC_mono (trap_made F.top st2.inv.keep (by have := F.dep; omega)) (fun r s3 q3 hsz => ?_) fun _ _ q => q.elim)
    obtain ⟨e, rfl, m⟩ := q3
    cases m with | @mk o t0 hk hg ho new he hcl hd _ =>
    refine wpC_bind (wpC_standAt (wpC_pure ⟨e, rfl, hk _ _ hC, .mk he hcl hd, ?_⟩))
    obtain ⟨n1, n2⟩ := st2.inv.fresh0 new
    exact .mk (w' := ⟨w2.ι, s3⟩) ((st2.trans (st2.inv.grows hk hsz hg ho)).up er.ob er.nm) (.mk (st2.ext.none (ι' := w2.ι) ⟨[], (List.append_nil _).symm⟩ new n1) n1 n2 he hcl hd (.no rfl)) q
end
end Mine
end
section
namespace Mine

section
variable {k : Kx} {w w₀ : Wd} {σ : St} {ρ : Loc} {env : Env} {n : Nat} {T : St → Prop} {K : Fl × Loc → St → Prop} {f str : Str} {p p1 p2 p3 p4 p5 p6 np cp : Pos} {args : List Expr} {e : Expr} {j : Nat} {s : Shared} {prog : Program} {wd : World} {A : Around}
/-- the test and the suite of a clause, in calm contexts -/
theorem handlers_testC {e : Value} {t : Expr} {pos : Pos} {R : Result → Shared → Prop} {E : Value → Shared → Prop}
    (h : wpC (model prog wd) A (eval t env) (fun c s₁ => wpC (model prog wd) A (excMatches e c) (fun b s₂ => R (.ok (if b then .brk else .next)) s₂) (fun _ _ => False) s₁) (fun _ _ => False) s) :
    codeC (model prog wd) A (.handlers e [.ExceptHandler (some t) none [] pos] env) R s := by
  refine codeC_of_tree rfl ?_
  rw [Around.under_of_weight rfl]
  show wpC _ A (((handleWith e env [.ExceptHandler (some t) none [] pos]).onRaise (fun x => do noteFrame x env; theTreesLotGoes x)) >>= fun f => pure (PySem.Fin.done f)) _ _ s
  refine wpC_bind (wpC_onRaise ?_)
  unfold handleWith
  exact wpC_bind (wpC_standAt (wpC_bind (wpC_mono h (fun c s₁ h₁ => wpC_bind (wpC_standAt (wpC_bind (wpC_mono h₁ (fun b s₂ h₂ => wpC_pure (wpC_pure h₂)) fun _ _ x => x.elim)))) fun _ _ x => x.elim)))
theorem handlers_suiteC {e : Value} {b₀ : Stmt} {body : List Stmt} {pos : Pos} {R : Result → Shared → Prop}
    (h : wpC (model prog wd) A (setFlight e none) (fun _ s₁ => wpC (model prog wd) A (execs (b₀ :: body) env) (fun f s₂ => R (.ok f) s₂) (fun _ _ => False) s₁) (fun _ _ => False) s) :
    codeC (model prog wd) A (.handlers e [.ExceptHandler none none (b₀ :: body) pos] env) R s := by
  refine codeC_of_tree rfl ?_
  rw [Around.under_of_weight rfl]
  show wpC _ A (((handleWith e env [.ExceptHandler none none (b₀ :: body) pos]).onRaise (fun x => do noteFrame x env; theTreesLotGoes x)) >>= fun f => pure (PySem.Fin.done f)) _ _ s
  refine wpC_bind (wpC_onRaise ?_)
  unfold handleWith
  exact wpC_bind (wpC_standAt (wpC_bind (wpC_mono h (fun _ s₁ h₁ => wpC_mono h₁ (fun f s₂ h₂ => wpC_pure h₂) fun _ _ x => x.elim) fun _ _ x => x.elim)))
theorem runOwnC {c : Code} {M : Model} {a : Addr} {Q : Flow → Shared → Prop} {E : Value → Shared → Prop} (h : codeC M (A.mark (some (.ref a))) c (fun res s' => match res with | .ok F => Q F s' | .error _ => False) s) : wpC M A (runOwn c env (some (.ref a))) Q E s := by
  unfold runOwn
  exact wpC_onRaise (wpC_run (codeC_mono h fun r s' q => by
    rcases r with e | f
    · exact q.elim
    · exact q) fun q => by cases Option.some.inj q)
/-- the flight of an exception that is held here ends -/
theorem flight_none {M : Model} {a : Addr} {hk : Heap} {Q : Unit → Shared → Prop} {E : Value → Shared → Prop} (iv : Inv k w σ) (hx : ExcAt k.g hk w a)
    (h : ∀ h' T, But [T] w.h h' → (Apart k w [T] ∨ h' = w.h) → hk.get? T = none → Q () { w.s with heap := h' }) : wpAny M A (setFlight (.ref a) none) Q E w.s := by
  cases hx with | @mk oe vs x1 x2 x3 x4 x5 x6 x7 =>
  unfold setFlight
  cases x7 with
  | no x7 =>
    refine wpAny_bind (wpAny_field x4 x6 x7 ?_)
    rw [if_neg (by decide)]
    exact wpAny_pure (h w.h a But.refl (.inr rfl) x1)
  | @tb T oT ts w1 w2 w3 w4 w5 w6 w7 w8 =>
    refine wpAny_bind (wpAny_field x4 x6 w1 ?_)
    have ne : (Value.ref T != Value.none) = true := by rw [bne_iff_ne]; exact nofun
    rw [if_pos ne]
    refine wpAny_setField w6 w7 (Array.getElem?_eq_some_iff.mp w8).1 (h _ T (but_one (Heap.SameBut.update ..) (List.mem_singleton.mpr rfl)) (.inl fun b hb => ?_) w2)
    obtain rfl := List.mem_singleton.mp hb
    refine ⟨w3, fun q => ?_, w4, .f w6 w7⟩
    obtain ⟨_, _, o, ho, r⟩ := iv.frame q
    rw [show w.h.get? b = some oT from w6] at ho; cases ho
    exact absurd w7 (r.2 _)
/-- try: return ..; except Trap: return '..' -/
theorem x_try (hf : f = "Trap") (a : ρ.at f .gl) (h : EvS n ρ e σ (fun v σ => K (.ret v, ρ) σ) (fun σ => K (.ret (.str str), ρ) σ)) :
    ExS n ρ (.Try [.Return (some e) p1] [.ExceptHandler (some (.Name f p2)) none [.Return (some (.Constant (.str str) j p3)) p4] p5] [] [] p6) σ K T := fun k w env F iv er ow => by
  subst hf
  have TT := F.top.trap
  obtain ⟨cd, oC, hxc⟩ := excOk_obj TT.ok
  obtain ⟨l, hl⟩ := ow.l
  rw [arm_exec_Try]
  refine Run.standAt ?_
  unfold tryStmt
  simp only [List.isEmpty_nil, if_true, List.isEmpty_cons, Bool.false_and, Bool.false_eq_true, if_false]
  have body : wpC k.M k.A (execs [.Return (some e) p1] env) (fun f s1 => ∃ V, f = .ret V ∧ Got k none VRel w (fun v σ => K (.ret v, ρ) σ) V s1) (Err k none w fun σ => K (.ret (.str str), ρ) σ) w.s := by
    show wpC _ k.A (exec (.Return (some e) p1) env >>= fun f => match f with | .next => execs [] env | f => pure f) _ _ w.s
    rw [arm_exec_Return]
    refine wpC_bind (wpC_bind (wpC_standAt ?_))
    show wpC _ k.A (eval e env >>= fun v => pure (Flow.ret v)) _ _ w.s
    exact wpC_bind (wpC_mono (h k w env F iv er) (fun V s1 q => wpC_pure (wpC_pure ⟨V, rfl, q⟩)) fun _ _ q => q)
  refine wpC_bind (wpC_attempt (wpC_mono body (fun f s1 q => ?_) fun ea s1 q => ?_))
  · obtain ⟨V, rfl, q⟩ := q
    cases q with | mk st rv q => exact wpC_pure (.mk (st.up er.ob er.nm) (.ret rv (er.ext st.ext)) q)
  · cases q with | @mk σ1 w1 a1 st ex q =>
    have reg : ∀ (r : Sem Flow), (noteFrame (.ref a1) env >>= fun _ => setFlight (.ref a1) none >>= fun _ => r) = (leaving env (.ref a1) >>= fun _ => r) := fun r => by unfold leaving; rw [bind_assoc]
    refine wpC_of_eq (reg _) (wpC_bindA (leaving_gone (L := env.locals) st.inv hl F.frs ow.fr ex (fun b hb hm => st.ext.none (ι' := w1.ι) ⟨[], (List.append_nil _).symm⟩ hb hm) fun h2 hg => ?_))
    have i2 := Gone.inv st.inv hg fun b o hb q => by rw [iv.keep _ _ hb] at q; cases q
    have st2 : Step k none w σ1 ⟨w1.ι, { w1.s with heap := h2 }⟩ := by
      refine ⟨⟨st.ext.more, Nat.le_trans st.ext.size hg.size, fun b o _ hb hm => ?_, nofun, nofun, st.ext.gens, st.ext.os⟩, i2⟩
      obtain ⟨k1, ⟨sl', k2⟩, k3⟩ := st.ext.kept b o nofun hb hm
      have nb : w.h.get? b ≠ none := by rw [hb]; exact nofun
      obtain ⟨⟨sl2, j2⟩, _⟩ := hg.kept b _ k2 (.inl nb)
      exact ⟨k1, ⟨sl2, j2⟩, fun hf => (hg.kept b _ (k3 hf) (.inl nb)).2 hf⟩
    have er2 := er.ext st2.ext
    have hC := (i2.kin F) _ _ hxc.ob
    have hc := hxc.cls
    cases hc
    have hx2 := hg.exc
    obtain ⟨oe, he, hcl⟩ : ∃ oe, h2.get? a1 = some oe ∧ oe.cls = .ref k.g.C.trap := by
      cases hx2 with | mk _ _ _ q1 q2 => exact ⟨_, q1, q2⟩
    rw [handleBy]
    refine wpC_bind (wpC_holding (runOwnC (handlers_testC (E := fun _ _ => False) ?_)))
    refine wpC_of (wpAny_Name (load_mg (s := { w1.s with heap := h2 }) er2.f (er2.gl a) (i2.nsg F) TT.mgT ?_) (by decide +kernel))
    refine wpC_of (wpAny_excMatches_sub_self hC he hcl (by rfl) ?_)
    rw [if_pos rfl]
    refine wpC_bind (wpC_pure ?_)
    simp only [Bool.not_true, Bool.false_eq_true, if_false]
    refine wpC_bind (wpC_holding (runOwnC (handlers_suiteC ?_)))
    refine wpC_of (flight_none (w := ⟨w1.ι, { w1.s with heap := h2 }⟩) i2 hx2 fun h3 Tb bt hap hTn => ?_)
    show wpC _ _ (exec (.Return (some (.Constant (.str str) j p3)) p4) env >>= fun f => match f with | .next => execs [] env | f => pure f) _ _ _
    rw [arm_exec_Return]
    refine wpC_bind (wpC_bind (wpC_standAt ?_))
    show wpC _ _ (eval (.Constant (.str str) j p3) env >>= fun v => pure (Flow.ret v)) _ _ _
    refine wpC_bindA (Calls.Constant_str (wpC_pure (wpC_pure (wpC_pure ?_))))
    have fin : ∀ tk, Step k none w σ1 ⟨w1.ι, { w1.s with heap := h3, toks := tk }⟩ ∧ EnvR k.g ⟨w1.ι, { w1.s with heap := h3, toks := tk }⟩ ρ env := fun tk => by
      rcases hap with hap | rfl
      · have hne : env.locals ∉ [Tb] := fun q => by
          cases er.ob with | mk ho _ =>
          rw [List.mem_singleton.mp q, hTn] at ho; cases ho
        exact ⟨Step.but (w := ⟨w1.ι, { w1.s with heap := h2 }⟩) (tk := tk) hap bt (fun b hb => List.mem_singleton.mp hb ▸ hTn) (fun _ _ => nofun) st2, EnvR.but (w := ⟨w1.ι, { w1.s with heap := h2 }⟩) (tk := tk) hap bt hne er2⟩
      · exact ⟨st2.trans (i2.grow (tk := tk) (fun _ _ e => e) (Nat.le_refl _)), er2.ext (i2.grow (tk := tk) (fun _ _ e => e) (Nat.le_refl _)).ext⟩
    obtain ⟨st3, er3⟩ := fin (w1.s.toks + 1)
    exact .mk (w' := ⟨w1.ι, { w1.s with heap := h3, toks := w1.s.toks + 1 }⟩) (st3.up er.ob er.nm) (.ret (.str _ _) er3) q
end
end Mine
end
section
set_option genCtorIdx false
namespace Mine

/-! a small syntax: expressions, statements and their lists in one -/
inductive Tm where
  | bad
  | nil
  | cons (a b : Tm)
  | con (c : Const) (u : Nat) (p : Pos)
  | name (x : Str) (p : Pos)
  | bin (a : Tm) (op : Operator) (b : Tm) (p : Pos)
  | una (op : UnaryOp) (a : Tm) (p : Pos)
  | boo (op : BoolOp) (es : Tm) (p : Pos)
  | cmp (a : Tm) (op : CmpOp) (b : Tm) (p : Pos)
  | cmp2 (a : Tm) (op : CmpOp) (b : Tm) (op2 : CmpOp) (c : Tm) (p : Pos)
  | ife (t a b : Tm) (p : Pos)
  | tup (es : Tm) (u : Nat) (p : Pos)
  | lst (es : Tm) (p : Pos)
  | sub (o i : Tm) (p : Pos)
  | slc (o a b c : Tm) (sp p : Pos)
  | attr (o : Tm) (a : Str) (p : Pos)
  | call (f : Str) (fp : Pos) (es : Tm) (p : Pos)
  | meth (o : Tm) (m : Str) (ap : Pos) (es : Tm) (p : Pos)
  | asg (t e : Tm) (p : Pos)
  | iff (t b s : Tm) (p : Pos)
  | ret (e : Tm) (p : Pos)
  | ret0 (p : Pos)
  | exp (e : Tm) (p : Pos)
  | rai (f : Str) (fp : Pos) (es : Tm) (cp p : Pos)
  | fro (t it b : Tm) (p : Pos)
  | dele (o a : Tm) (rp qp p : Pos)
  | forR (g : Tm) (f : Str) (fp : Pos) (e b : Tm) (cp p : Pos)
  | isb (f : Str) (fp : Pos) (x : Str) (xp : Pos) (y : Str) (yp p : Pos)
/-- what a term stands for -/
structure Out where
  e : Expr
  es : List Expr
  s : Stmt
  ss : List Stmt
  o : Option Expr
noncomputable def e0 : Expr := .Name ("" : Str) ⟨0, 0, 0, 0⟩
noncomputable def s0 : Stmt := .Pass ⟨0, 0, 0, 0⟩
noncomputable abbrev oE (e : Expr) : Out := ⟨e, [], s0, [], some e⟩
noncomputable abbrev oS (s : Stmt) : Out := ⟨e0, [], s, [], none⟩
noncomputable def Tm.out (t : Tm) : Out :=
  Tm.rec (motive := fun _ => Out) (oE e0) (oS s0) (fun _ _ a b => ⟨e0, a.e :: b.es, s0, a.s :: b.ss, none⟩) (fun c u p => oE (.Constant c u p)) (fun x p => oE (.Name x p)) (fun _ op _ p a b => oE (.BinOp a.e op b.e p)) (fun op _ p a => oE (.UnaryOp op a.e p))
    (fun op _ p es => oE (.BoolOp op es.es p)) (fun _ op _ p a b => oE (.Compare a.e [op] [b.e] p)) (fun _ op _ op2 _ p a b c => oE (.Compare a.e [op, op2] [b.e, c.e] p)) (fun _ _ _ p t a b => oE (.IfExp t.e a.e b.e p)) (fun _ u p es => oE (.Tuple es.es u p))
    (fun _ p es => oE (.List es.es p)) (fun _ _ p o i => oE (.Subscript o.e i.e p)) (fun _ _ _ _ sp p o a b c => oE (.Subscript o.e (.Slice a.o b.o c.o sp) p)) (fun _ a p o => oE (.Attribute o.e a p)) (fun f fp _ p es => oE (.Call (.Name f fp) es.es [] p))
    (fun _ m ap _ p o es => oE (.Call (.Attribute o.e m ap) es.es [] p)) (fun _ _ p t e => oS (.Assign [t.e] e.e p)) (fun _ _ _ p t b s => oS (.If t.e b.ss s.ss p)) (fun _ p e => oS (.Return (some e.e) p)) (fun p => oS (.Return none p)) (fun _ p e => oS (.Expr e.e p))
    (fun f fp _ cp p es => oS (.Raise (some (.Call (.Name f fp) es.es [] cp)) none p)) (fun _ _ _ p t it b => oS (.For t.e it.e b.ss [] p)) (fun _ _ rp qp p o a => oS (.Delete [.Subscript o.e (.Slice (some a.e) none none rp) qp] p)) (fun _ f fp _ _ cp p g e b => oS (.For g.e (.Call (.Name f fp) [e.e] [] cp) b.ss [] p)) (fun f fp x xp y yp p => oE (.Call (.Name f fp) [.Name x xp, .Name y yp] [] p)) t
noncomputable def Tm.nm (t : Tm) : Option (Str × Pos) × Option (List Str × List Pos) :=
  Tm.rec (motive := fun _ => Option (Str × Pos) × Option (List Str × List Pos)) (none, none) (none, some ([], [])) (fun _ _ a b => (none, a.1.bind fun p => b.2.map fun q => (p.1 :: q.1, p.2 :: q.2))) (fun _ _ _ => (none, none)) (fun x p => (some (x, p), none)) (fun _ _ _ _ _ _ => (none, none)) (fun _ _ _ _ => (none, none))
    (fun _ _ _ _ => (none, none)) (fun _ _ _ _ _ _ => (none, none)) (fun _ _ _ _ _ _ _ _ _ => (none, none)) (fun _ _ _ _ _ _ _ => (none, none)) (fun _ _ _ _ => (none, none))
    (fun _ _ _ => (none, none)) (fun _ _ _ _ _ => (none, none)) (fun _ _ _ _ _ _ _ _ _ _ => (none, none)) (fun _ _ _ _ => (none, none)) (fun _ _ _ _ _ => (none, none))
    (fun _ _ _ _ _ _ _ => (none, none)) (fun _ _ _ _ _ => (none, none)) (fun _ _ _ _ _ _ _ => (none, none)) (fun _ _ _ => (none, none)) (fun _ => (none, none)) (fun _ _ _ => (none, none))
    (fun _ _ _ _ _ _ => (none, none)) (fun _ _ _ _ _ _ _ => (none, none)) (fun _ _ _ _ _ _ _ => (none, none)) (fun _ _ _ _ _ _ _ _ _ _ => (none, none)) (fun _ _ _ _ _ _ _ => (none, none)) t
noncomputable def isbT (f : Str) (fp p : Pos) (es : Tm) : Tm := if f = ("isinstance" : Str) then match es.nm.2 with
  | some ([x, y], [xp, yp]) => .isb f fp x xp y yp p
  | _ => .bad else .call f fp es p
noncomputable def lsT (f : Expr → Tm) (es : List Expr) : Tm := es.foldr (fun e r => .cons (f e) r) .nil
noncomputable def opT (f : Expr → Tm) (o : Option Expr) : Tm := match o with
  | none => .nil
  | some e => f e
noncomputable def slT (f : Expr → Tm) (o : Tm) (p : Pos) (i : Expr) : Tm :=
  Expr.casesOn (motive_1 := fun _ => Tm) i (fun _ _ _ => .sub o (f i) p) (fun _ _ _ => .sub o (f i) p) (fun _ _ _ _ => .sub o (f i) p) (fun _ _ _ => .sub o (f i) p) (fun _ _ _ _ => .sub o (f i) p) (fun _ _ _ _ => .sub o (f i) p) (fun _ _ _ => .sub o (f i) p) (fun _ _ _ => .sub o (f i) p) (fun _ _ _ _ => .sub o (f i) p) (fun _ _ _ _ => .sub o (f i) p) (fun _ _ _ _ _ => .sub o (f i) p) (fun _ _ _ _ => .sub o (f i) p) (fun _ _ => .sub o (f i) p) (fun _ _ => .sub o (f i) p) (fun _ _ => .sub o (f i) p) (fun _ _ _ _ => .sub o (f i) p) (fun _ _ _ _ => .sub o (f i) p) (fun _ _ _ _ => .sub o (f i) p) (fun _ _ => .sub o (f i) p) (fun _ _ _ => .sub o (f i) p) (fun _ _ _ => .sub o (f i) p) (fun _ _ _ => .sub o (f i) p) (fun _ _ => .sub o (f i) p) (fun _ _ => .sub o (f i) p) (fun _ _ => .sub o (f i) p) (fun _ _ _ => .sub o (f i) p) (fun a b c sp => .slc o (opT f a) (opT f b) (opT f c) sp p)
noncomputable def clT (f : Expr → Tm) (es : Tm) (p : Pos) (g : Expr) : Tm :=
  Expr.casesOn (motive_1 := fun _ => Tm) g (fun _ _ _ => .bad) (fun _ _ _ => .bad) (fun _ _ _ _ => .bad) (fun _ _ _ => .bad) (fun _ _ _ _ => .bad) (fun _ _ _ _ => .bad) (fun _ _ _ => .bad) (fun _ _ _ => .bad) (fun _ _ _ _ => .bad) (fun _ _ _ _ => .bad) (fun _ _ _ _ _ => .bad) (fun _ _ _ _ => .bad) (fun _ _ => .bad) (fun _ _ => .bad) (fun _ _ => .bad) (fun _ _ _ _ => .bad) (fun _ _ _ _ => .bad) (fun _ _ _ _ => .bad) (fun _ _ => .bad) (fun _ _ _ => .bad) (fun o m ap => .meth (f o) m ap es p) (fun _ _ _ => .bad) (fun _ _ => .bad) (fun x fp => isbT x fp p es) (fun _ _ => .bad) (fun _ _ _ => .bad) (fun _ _ _ _ => .bad)
noncomputable def cmT (f : Expr → Tm) (a : Tm) (p : Pos) (ops : List CmpOp) (es : List Expr) : Tm := match ops, es with
  | [op], [b] => .cmp a op (f b) p
  | [op, op2], [b, c] => .cmp2 a op (f b) op2 (f c) p
  | _, _ => .bad
noncomputable def toT : Nat → Expr → Tm := fun n => Nat.rec (fun _ => .bad) (fun _ f e => Expr.casesOn (motive_1 := fun _ => Tm) e (fun op es p => .boo op (lsT f es) p) (fun _ _ _ => .bad) (fun a op b p => .bin (f a) op (f b) p) (fun op a p => .una op (f a) p) (fun _ _ _ _ => .bad)
  (fun t a b p => .ife (f t) (f a) (f b) p) (fun _ _ _ => .bad) (fun _ _ _ => .bad) (fun _ _ _ _ => .bad) (fun _ _ _ _ => .bad) (fun _ _ _ _ _ => .bad) (fun _ _ _ _ => .bad) (fun _ _ => .bad) (fun _ _ => .bad) (fun _ _ => .bad) (fun a ops es p => cmT f (f a) p ops es) (fun g es _ p => clT f (lsT f es) p g) (fun _ _ _ _ => .bad) (fun _ _ => .bad) (fun c u p => .con c u p) (fun o a p => .attr (f o) a p) (fun o i p => slT f (f o) p i) (fun _ _ => .bad) (fun x p => .name x p)
  (fun es p => .lst (lsT f es) p) (fun es u p => .tup (lsT f es) u p) (fun _ _ _ _ => .bad)) n
noncomputable def raT (f : Expr → Tm) (p : Pos) (e : Expr) : Tm :=
  Expr.casesOn (motive_1 := fun _ => Tm) e (fun _ _ _ => .bad) (fun _ _ _ => .bad) (fun _ _ _ _ => .bad) (fun _ _ _ => .bad) (fun _ _ _ _ => .bad) (fun _ _ _ _ => .bad) (fun _ _ _ => .bad) (fun _ _ _ => .bad) (fun _ _ _ _ => .bad) (fun _ _ _ _ => .bad) (fun _ _ _ _ _ => .bad) (fun _ _ _ _ => .bad) (fun _ _ => .bad) (fun _ _ => .bad) (fun _ _ => .bad) (fun _ _ _ _ => .bad) (fun g es _ cp => Expr.casesOn (motive_1 := fun _ => Tm) g (fun _ _ _ => .bad) (fun _ _ _ => .bad) (fun _ _ _ _ => .bad) (fun _ _ _ => .bad) (fun _ _ _ _ => .bad) (fun _ _ _ _ => .bad) (fun _ _ _ => .bad) (fun _ _ _ => .bad) (fun _ _ _ _ => .bad) (fun _ _ _ _ => .bad) (fun _ _ _ _ _ => .bad) (fun _ _ _ _ => .bad) (fun _ _ => .bad) (fun _ _ => .bad) (fun _ _ => .bad) (fun _ _ _ _ => .bad) (fun _ _ _ _ => .bad) (fun _ _ _ _ => .bad) (fun _ _ => .bad) (fun _ _ _ => .bad) (fun _ _ _ => .bad) (fun _ _ _ => .bad) (fun _ _ => .bad) (fun x fp => .rai x fp (lsT f es) cp p) (fun _ _ => .bad) (fun _ _ _ => .bad) (fun _ _ _ _ => .bad)) (fun _ _ _ _ => .bad) (fun _ _ => .bad) (fun _ _ _ => .bad) (fun _ _ _ => .bad) (fun _ _ _ => .bad) (fun _ _ => .bad) (fun _ _ => .bad) (fun _ _ => .bad) (fun _ _ _ => .bad) (fun _ _ _ _ => .bad)
noncomputable def delT (t : Tm) (p : Pos) : Tm := Tm.casesOn t .bad .bad (fun _ _ => .bad) (fun _ _ _ => .bad) (fun _ _ => .bad) (fun _ _ _ _ => .bad) (fun _ _ _ => .bad) (fun _ _ _ => .bad) (fun _ _ _ _ => .bad) (fun _ _ _ _ _ _ => .bad) (fun _ _ _ _ => .bad) (fun _ _ _ => .bad) (fun _ _ => .bad) (fun _ _ _ => .bad) (fun o a _ _ sp q => .dele o a sp q p) (fun _ _ _ => .bad) (fun _ _ _ _ => .bad) (fun _ _ _ _ _ => .bad) (fun _ _ _ => .bad) (fun _ _ _ _ => .bad) (fun _ _ => .bad) (fun _ => .bad) (fun _ _ => .bad) (fun _ _ _ _ _ => .bad) (fun _ _ _ _ => .bad) (fun _ _ _ _ _ => .bad) (fun _ _ _ _ _ _ _ => .bad) (fun _ _ _ _ _ _ _ => .bad)
noncomputable def forT (g it b : Tm) (p : Pos) : Tm := Tm.casesOn it (.fro g it b p) (.fro g it b p) (fun _ _ => (.fro g it b p)) (fun _ _ _ => (.fro g it b p)) (fun _ _ => (.fro g it b p)) (fun _ _ _ _ => (.fro g it b p)) (fun _ _ _ => (.fro g it b p)) (fun _ _ _ => (.fro g it b p)) (fun _ _ _ _ => (.fro g it b p)) (fun _ _ _ _ _ _ => (.fro g it b p)) (fun _ _ _ _ => (.fro g it b p)) (fun _ _ _ => (.fro g it b p)) (fun _ _ => (.fro g it b p)) (fun _ _ _ => (.fro g it b p)) (fun _ _ _ _ _ _ => (.fro g it b p)) (fun _ _ _ => (.fro g it b p)) (fun f fp es cp => Tm.casesOn es (.fro g it b p) (.fro g it b p) (fun e _ => .forR g f fp e b cp p) (fun _ _ _ => (.fro g it b p)) (fun _ _ => (.fro g it b p)) (fun _ _ _ _ => (.fro g it b p)) (fun _ _ _ => (.fro g it b p)) (fun _ _ _ => (.fro g it b p)) (fun _ _ _ _ => (.fro g it b p)) (fun _ _ _ _ _ _ => (.fro g it b p)) (fun _ _ _ _ => (.fro g it b p)) (fun _ _ _ => (.fro g it b p)) (fun _ _ => (.fro g it b p)) (fun _ _ _ => (.fro g it b p)) (fun _ _ _ _ _ _ => (.fro g it b p)) (fun _ _ _ => (.fro g it b p)) (fun _ _ _ _ => (.fro g it b p)) (fun _ _ _ _ _ => (.fro g it b p)) (fun _ _ _ => (.fro g it b p)) (fun _ _ _ _ => (.fro g it b p)) (fun _ _ => (.fro g it b p)) (fun _ => (.fro g it b p)) (fun _ _ => (.fro g it b p)) (fun _ _ _ _ _ => (.fro g it b p)) (fun _ _ _ _ => (.fro g it b p)) (fun _ _ _ _ _ => (.fro g it b p)) (fun _ _ _ _ _ _ _ => (.fro g it b p)) (fun _ _ _ _ _ _ _ => (.fro g it b p))) (fun _ _ _ _ _ => (.fro g it b p)) (fun _ _ _ => (.fro g it b p)) (fun _ _ _ _ => (.fro g it b p)) (fun _ _ => (.fro g it b p)) (fun _ => (.fro g it b p)) (fun _ _ => (.fro g it b p)) (fun _ _ _ _ _ => (.fro g it b p)) (fun _ _ _ _ => (.fro g it b p)) (fun _ _ _ _ _ => (.fro g it b p)) (fun _ _ _ _ _ _ _ => (.fro g it b p)) (fun _ _ _ _ _ _ _ => (.fro g it b p))
noncomputable def stT : Nat → Stmt → Tm := fun n => Nat.rec (fun _ => .bad) (fun _ f s => Stmt.casesOn (motive_2 := fun _ => Tm) s (fun _ _ _ _ _ _ _ _ _ _ => .bad) (fun _ _ _ _ _ _ _ _ _ _ => .bad) (fun _ _ _ _ _ _ _ _ _ _ _ => .bad) (fun e p => match e with
    | none => .ret0 p
    | some e => .ret (toT 20 e) p) (fun ts p => match ts with
    | [t] => delT (toT 20 t) p
    | _ => .bad) (fun ts e p => match ts with
    | [t] => .asg (toT 20 t) (toT 20 e) p
    | _ => .bad) (fun _ _ _ _ _ _ _ => .bad) (fun _ _ _ _ => .bad) (fun _ _ _ _ _ => .bad) (fun t it b _ p => forT (toT 20 t) (toT 20 it) (b.foldr (fun s r => .cons (f s) r) .nil) p) (fun _ _ _ _ _ => .bad) (fun _ _ _ _ => .bad) (fun t b s p => .iff (toT 20 t) (b.foldr (fun s r => .cons (f s) r) .nil) (s.foldr (fun s r => .cons (f s) r) .nil) p) (fun _ _ _ => .bad) (fun _ _ _ => .bad) (fun _ _ _ => .bad)
  (fun e _ p => match e with
    | some e => raT (toT 20) p e
    | _ => .bad) (fun _ _ _ _ _ => .bad) (fun _ _ _ _ _ => .bad) (fun _ _ _ => .bad) (fun _ _ => .bad) (fun _ _ _ _ => .bad) (fun _ _ => .bad) (fun _ _ => .bad) (fun e p => .exp (toT 20 e) p) (fun _ => .bad) (fun _ => .bad) (fun _ => .bad)) n
noncomputable def bodyT (ss : List Stmt) : Tm := ss.foldr (fun s r => .cons (stT 20 s) r) .nil
/-- a def's body -/
noncomputable def bodyOf (c f : Str) : List Stmt := match FT c f with
  | some d => d.body
  | none => []
noncomputable def fns : List (Str × Str) := ([("", "signed"), ("", "branch_distance"), ("", "jump_distance"), ("", "told_word"), ("", "register_row"), ("", "number_row"), ("", "decode"), ("", "need"), ("", "fits_within"), ("", "register_word"), ("", "number_word"), ("", "far_word"), ("", "encode"), ("", "with_sign"), ("", "shifted"), ("", "quotient"), ("", "upper_product"), ("", "worked"), ("", "holds"), ("Machine", "goal"), ("Machine", "access"), ("Machine", "moved"), ("Machine", "jumped"), ("Machine", "step"), ("Machine", "plain"), ("", "_law_drawn"), ("Machine", "place"), ("Machine", "load"), ("Machine", "read"), ("Machine", "write"), ("Machine", "put"), ("Machine", "fetched"), ("Machine", "note"), ("Machine", "begin"), ("Machine", "go"), ("Machine", "asked"), ("", "_law_draw"), ("", "_law_pick"), ("", "_law_turn_on"), ("", "_law_back"), ("", "_law_go"), ("", "_law_deed"), ("Record", "undo"), ("Record", "append"), ("Record", "on"), ("Record", "off"), ("Record", "length"), ("Record", "is_on"), ("", "_law_seen")] : List (String × String)).map fun p => (Str.ofString p.1, Str.ofString p.2)
theorem bodies : fns.map (fun p => (bodyT (bodyOf p.1 p.2)).out.ss) = fns.map (fun p => bodyOf p.1 p.2) := by kernel_rfl
end Mine
end
section
set_option genCtorIdx false
namespace Mine

/-! what is known of a value -/
abbrev Itv := Option (Int × Int)
inductive A0 where
  | int (r : Itv)
  | str (s : Str)
  | non
  | bit (b : Option Bool)
  | byt (n : Nat)
  | x (k : Nat)
inductive AV where
  | s (a : A0)
  | tup (l : List A0)
noncomputable def InR (r : Itv) (x : Int) : Prop := ∀ p, r = some p → p.1 ≤ x ∧ x ≤ p.2
noncomputable def InB (o : Option Bool) (b : Bool) : Prop := ∀ c, o = some c → b = c
inductive G0 (X : Nat → MV → Prop) : A0 → MV → Prop
  | int {r : Itv} {x : Int} : InR r x → G0 X (.int r) (.int x)
  | str {s : Str} : G0 X (.str s) (.str s)
  | non : G0 X .non .none
  | bit {o : Option Bool} {b : Bool} : InB o b → G0 X (.bit o) (.bool b)
  | byt {b : List UInt8} : G0 X (.byt b.length) (.bytes b)
  | x {k : Nat} {v : MV} : X k v → G0 X (.x k) v
inductive Gs (X : Nat → MV → Prop) : List A0 → List MV → Prop
  | nil : Gs X [] []
  | cons {a : A0} {v : MV} {as : List A0} {vs : List MV} : G0 X a v → Gs X as vs → Gs X (a :: as) (v :: vs)
inductive GV (X : Nat → MV → Prop) : AV → MV → Prop
  | s {a : A0} {v : MV} : G0 X a v → GV X (.s a) v
  | tup {l : List A0} {vs : List MV} : Gs X l vs → GV X (.tup l) (.tup vs)
noncomputable def A0.i? (a : A0) : Option Itv := A0.casesOn a (fun r => some r) (fun _ => none) none (fun _ => none) (fun _ => none) fun _ => none
noncomputable def A0.s? (a : A0) : Option Str := A0.casesOn a (fun _ => none) (fun s => some s) none (fun _ => none) (fun _ => none) fun _ => none
noncomputable def A0.b? (a : A0) : Option (Option Bool) := A0.casesOn a (fun _ => none) (fun _ => none) none (fun b => some b) (fun _ => none) fun _ => none
noncomputable def AV.a? (a : AV) : Option A0 := AV.casesOn a (fun a => some a) fun _ => none
noncomputable def AV.i? (a : AV) : Option Itv := a.a?.bind A0.i?
noncomputable def AV.s? (a : AV) : Option Str := a.a?.bind A0.s?
noncomputable def AV.b? (a : AV) : Option (Option Bool) := a.a?.bind A0.b?
noncomputable def AV.t? (a : AV) : Option (List A0) := AV.casesOn a (fun _ => none) fun l => some l
noncomputable abbrev AV.int (lo hi : Int) : AV := .s (.int (some (lo, hi)))
section
variable {X X' : Nat → MV → Prop} {a : AV} {v : MV} {k : AV → Bool}
theorem G0.mono (h : ∀ k v, X k v → X' k v) {a : A0} (g : G0 X a v) : G0 X' a v := match g with
  | .int h => .int h | .str => .str | .non => .non | .bit h => .bit h | .byt => .byt | .x q => .x (h _ _ q)
theorem Gs.mono (h : ∀ k v, X k v → X' k v) {as : List A0} {vs : List MV} (g : Gs X as vs) : Gs X' as vs := by
  induction g with
  | nil => exact .nil
  | cons g _ ih => exact .cons (g.mono h) ih
theorem GV.mono (h : ∀ k v, X k v → X' k v) (g : GV X a v) : GV X' a v := match g with
  | .s g => .s (g.mono h) | .tup g => .tup (g.mono h)
theorem AV.iE {r : Itv} (e : a.i? = some r) (g : GV X a v) : ∃ x, v = .int x ∧ InR r x := by
  cases g with
  | tup _ => cases e
  | s g => cases g with
    | int h => cases e; exact ⟨_, rfl, h⟩
    | _ => cases e
theorem AV.sE {s : Str} (e : a.s? = some s) (g : GV X a v) : v = .str s := by
  cases g with
  | tup _ => cases e
  | s g => cases g with
    | str => cases e; rfl
    | _ => cases e
theorem AV.bE {o : Option Bool} (e : a.b? = some o) (g : GV X a v) : ∃ b, v = .bool b ∧ InB o b := by
  cases g with
  | tup _ => cases e
  | s g => cases g with
    | bit h => cases e; exact ⟨_, rfl, h⟩
    | _ => cases e
theorem AV.tE {l : List A0} (e : a.t? = some l) (g : GV X a v) : ∃ vs, v = .tup vs ∧ Gs X l vs := by
  cases g with
  | s _ => cases e
  | tup g => cases e; exact ⟨_, rfl, g⟩
end

/-! numbers -/
noncomputable def small (r : Itv) : Bool := r.any fun p => decide (-9223372036854775808 < p.1) && decide (p.2 < 9223372036854775808)
noncomputable def both (f : Int × Int → Int × Int → Itv) (a b : Itv) : Itv := a.bind fun p => b.bind (f p)
noncomputable def word (r : Itv) : Bool := r.any fun p => decide (0 ≤ p.1) && decide (p.2 < 4294967296)
/-- a number's bounds behind an operation; none where it is not known to be safe -/
noncomputable def intOp (op : Operator) (a b : Itv) : Option Itv := match op with
  | .Add => some (both (fun p q => some (p.1 + q.1, p.2 + q.2)) a b)
  | .Sub => some (both (fun p q => some (p.1 - q.2, p.2 - q.1)) a b)
  | .Mult => if small a then some (both (fun p q => if p.1 = p.2 ∧ 0 ≤ p.1 then some (p.1 * q.1, p.1 * q.2) else none) a b) else none
  | .FloorDiv => if small b && b.any (fun q => decide (q.1 > 0) || decide (q.2 < 0)) then some (both (fun p q => if 0 ≤ p.1 ∧ 0 < q.1 then some (0, p.2) else none) a b) else none
  | .Mod => if b.any fun q => decide (0 < q.1) then some (if (a.any fun p => decide (p.1 = p.2)) && b.any fun q => decide (q.1 = q.2) then both (fun p q => some (p.1.fmod q.1, p.1.fmod q.1)) a b else b.bind fun q => some (0, q.2 - 1)) else none
  | .BitAnd => some (if b.any fun q => decide (0 ≤ q.1) then b.bind fun q => some (0, q.2) else if a.any fun p => decide (0 ≤ p.1) then a.bind fun p => some (0, p.2) else none)
  | .BitOr => some (if word a && word b then some (0, 4294967295) else none)
  | .BitXor => some (none)
  | .LShift => if small a && b.any (fun q => decide (0 ≤ q.1) && decide (q.2 ≤ 64)) then some (both (fun p q => if q.1 = q.2 then some (p.1 * 2 ^ q.1.toNat, p.2 * 2 ^ q.1.toNat) else none) a b) else none
  | .RShift => if b.any fun q => decide (0 ≤ q.1) then some (both (fun p q => if q.1 = q.2 then some (p.1.fdiv (2 ^ q.1.toNat), p.2.fdiv (2 ^ q.1.toNat)) else none) a b) else none
  | _ => none
theorem InR.any {x : Int} : InR none x := fun _ q => by cases q
theorem InR.both {f : Int × Int → Int × Int → Itv} {a b : Itv} {x : Int} (h : ∀ p q, a = some p → b = some q → InR (f p q) x) : InR (both f a b) x := by
  cases a with
  | none => exact .any
  | some p => cases b with
    | none => exact .any
    | some q => exact h p q rfl rfl
theorem InR.of {lo hi x : Int} (h : lo ≤ x) (h' : x ≤ hi) : InR (some (lo, hi)) x := fun _ q => by cases q; exact ⟨h, h'⟩
theorem InR.ite {c : Prop} [Decidable c] {a : Itv} {x : Int} (h : c → InR a x) : InR (if c then a else Option.none) x := by
  by_cases q : c
  · rw [if_pos q]; exact h q
  · rw [if_neg q]; exact .any
theorem small_of {a : Itv} {x : Int} (h : small a = true) (i : InR a x) : x.natAbs < 2 ^ 64 := by
  obtain ⟨p, e, h⟩ := (Option.any_eq_true _ _).mp h
  rw [Bool.and_eq_true, decide_eq_true_eq, decide_eq_true_eq] at h
  have := i p e
  omega
theorem word_of {a : Itv} {x : Int} (h : word a = true) (i : InR a x) : 0 ≤ x ∧ x < 4294967296 := by
  obtain ⟨p, e, h⟩ := (Option.any_eq_true _ _).mp h
  rw [Bool.and_eq_true, decide_eq_true_eq, decide_eq_true_eq] at h
  exact ⟨Int.le_trans h.1 (i p e).1, Int.lt_of_le_of_lt (i p e).2 h.2⟩
theorem itv_any {a : Itv} {x : Int} {f : Int × Int → Bool} (h : a.any f = true) (i : InR a x) : ∃ p, a = some p ∧ f p = true ∧ p.1 ≤ x ∧ x ≤ p.2 := by
  obtain ⟨p, e, h⟩ := (Option.any_eq_true _ _).mp h
  exact ⟨p, e, h, i p e⟩
theorem bitNot_not (z : Int) : Builtin.bitNot (Builtin.bitNot z) = z := by unfold Builtin.bitNot; omega
theorem or_word {x y : Int} (hx : 0 ≤ x ∧ x < 4294967296) (hy : 0 ≤ y ∧ y < 4294967296) : InR (some (0, 4294967295)) (Builtin.bitOr x y) := by
  have e : Builtin.bitOr x y = ((x.toNat ||| y.toNat : Nat) : Int) := by
    have n : ∀ {z : Int}, 0 ≤ z → decide (0 ≤ Builtin.bitNot z) = false := fun h => decide_eq_false (by unfold Builtin.bitNot; omega)
    unfold Builtin.bitOr Builtin.bitAnd
    rw [n hx.1, n hy.1, bitNot_not, bitNot_not, bitNot_not]
  rw [e]
  have t : ∀ {z : Int}, 0 ≤ z ∧ z < 4294967296 → z.toNat < 2 ^ 32 := fun h => (Int.toNat_lt h.1).mpr h.2
  exact .of (Int.natCast_nonneg _) (Int.le_of_lt_add_one (Int.ofNat_lt.mpr (Nat.or_lt_two_pow (t hx) (t hy))))
theorem intOp_ok {op : Operator} {a b r : Itv} {x y : Int} {σ : St} {Q : MV → St → Prop} {T : St → Prop} (h : intOp op a b = some r) (ia : InR a x) (ib : InR b y) (q : ∀ z, InR r z → Q (.int z) σ) : BinS op (.int x) (.int y) σ Q T := by
  have itv : ∀ {c : Bool} {o : Itv}, (if c = true then some o else Option.none) = some r → c = true ∧ o = r := fun {c} {o} e => by
    cases c with
    | false => cases e
    | true => exact ⟨rfl, Option.some.inj e⟩
  cases op with
  | Add =>
    obtain rfl := Option.some.inj h
    exact b_add (q _ (.both fun p p' e e' => .of (Int.add_le_add (ia _ e).1 (ib _ e').1) (Int.add_le_add (ia _ e).2 (ib _ e').2)))
  | Sub =>
    obtain rfl := Option.some.inj h
    exact b_sub (q _ (.both fun p p' e e' => .of (Int.sub_le_sub (ia _ e).1 (ib _ e').2) (Int.sub_le_sub (ia _ e).2 (ib _ e').1)))
  | Mult =>
    obtain ⟨hs, rfl⟩ := itv h
    refine b_mul (small_of hs ia) (q _ (.both fun p p' e e' => .ite fun hc => ?_))
    obtain rfl : x = p.1 := Int.le_antisymm (hc.1 ▸ (ia _ e).2) (ia _ e).1
    exact .of (Int.mul_le_mul_of_nonneg_left (ib _ e').1 hc.2) (Int.mul_le_mul_of_nonneg_left (ib _ e').2 hc.2)
  | FloorDiv =>
    obtain ⟨hs, rfl⟩ := itv h
    rw [Bool.and_eq_true] at hs
    obtain ⟨p, e, hp, h1, h2⟩ := itv_any hs.2 ib
    rw [Bool.or_eq_true, decide_eq_true_eq, decide_eq_true_eq] at hp
    refine b_div (by omega) (small_of hs.1 ib) (q _ (.both fun p p' e e' => .ite fun hc => ?_))
    have hx := Int.le_trans hc.1 (ia _ e).1
    have hy := Int.lt_of_lt_of_le hc.2 (ib _ e').1
    rw [Int.fdiv_eq_ediv_of_nonneg _ (Int.le_of_lt hy)]
    exact .of (Int.ediv_nonneg hx (Int.le_of_lt hy)) (Int.le_trans (Int.ediv_le_self _ hx) (ia _ e).2)
  | Mod =>
    obtain ⟨hs, rfl⟩ := itv h
    obtain ⟨p, e, hp, h1, h2⟩ := itv_any hs ib
    have hy := Int.lt_of_lt_of_le (of_decide_eq_true hp) h1
    refine b_mod (Int.ne_of_gt hy) (q _ ?_)
    by_cases c : (a.any (fun p => decide (p.1 = p.2)) && b.any fun q => decide (q.1 = q.2)) = true
    · rw [if_pos c]
      rw [Bool.and_eq_true] at c
      obtain ⟨p1, e1, c1, h3, h4⟩ := itv_any c.1 ia
      obtain ⟨p2, e2, c2, h5, h6⟩ := itv_any c.2 ib
      obtain rfl : x = p1.1 := Int.le_antisymm (of_decide_eq_true c1 ▸ h4) h3
      obtain rfl : y = p2.1 := Int.le_antisymm (of_decide_eq_true c2 ▸ h6) h5
      rw [e1, e2]
      exact .of (Int.le_refl _) (Int.le_refl _)
    rw [if_neg c, e, Int.fmod_eq_emod_of_nonneg _ (Int.le_of_lt hy)]
    exact .of (Int.emod_nonneg _ (Int.ne_of_gt hy)) (Int.le_sub_one_of_lt (Int.lt_of_lt_of_le (Int.emod_lt_of_pos _ hy) h2))
  | BitAnd =>
    obtain rfl := Option.some.inj h
    refine b_and (q _ ?_)
    cases hb : b.any (fun q => decide (0 ≤ q.1)) with
    | true =>
      obtain ⟨p, e, hp, h1, h2⟩ := itv_any hb ib
      have := bitAnd_range x (Int.le_trans (of_decide_eq_true hp) h1)
      rw [if_pos rfl, e]
      exact .of this.1 (Int.le_trans this.2 h2)
    | false =>
      rw [if_neg Bool.false_ne_true]
      refine .ite fun ha => ?_
      obtain ⟨p, e, hp, h1, h2⟩ := itv_any ha ia
      have := bitAnd_range y (Int.le_trans (of_decide_eq_true hp) h1)
      rw [bitAnd_comm] at this
      rw [e]
      exact .of this.1 (Int.le_trans this.2 h2)
  | BitOr =>
    obtain rfl := Option.some.inj h
    refine b_or (q _ (.ite fun hc => ?_))
    rw [Bool.and_eq_true] at hc
    exact or_word (word_of hc.1 ia) (word_of hc.2 ib)
  | BitXor =>
    obtain rfl := Option.some.inj h
    exact b_xor (q _ .any)
  | LShift =>
    obtain ⟨hs, rfl⟩ := itv h
    rw [Bool.and_eq_true] at hs
    obtain ⟨p, e, hp, h1, h2⟩ := itv_any hs.2 ib
    rw [Bool.and_eq_true, decide_eq_true_eq, decide_eq_true_eq] at hp
    refine b_shl (Int.le_trans hp.1 h1) (Int.le_trans h2 hp.2) (small_of hs.1 ia) (q _ (.both fun p p' e e' => .ite fun hc => ?_))
    obtain rfl : y = p'.1 := Int.le_antisymm (hc ▸ (ib _ e').2) (ib _ e').1
    have : (0 : Int) ≤ 2 ^ p'.1.toNat := Int.le_of_lt (Int.pow_pos (by decide))
    exact .of (Int.mul_le_mul_of_nonneg_right (ia _ e).1 this) (Int.mul_le_mul_of_nonneg_right (ia _ e).2 this)
  | RShift =>
    obtain ⟨hs, rfl⟩ := itv h
    obtain ⟨p, e, hp, h1, h2⟩ := itv_any hs ib
    refine b_shr (Int.le_trans (of_decide_eq_true hp) h1) (q _ (.both fun p p' e e' => .ite fun hc => ?_))
    obtain rfl : y = p'.1 := Int.le_antisymm (hc ▸ (ib _ e').2) (ib _ e').1
    have : (0 : Int) < 2 ^ p'.1.toNat := Int.pow_pos (by decide)
    rw [Int.fdiv_eq_ediv_of_nonneg _ (Int.le_of_lt this), Int.fdiv_eq_ediv_of_nonneg _ (Int.le_of_lt this), Int.fdiv_eq_ediv_of_nonneg _ (Int.le_of_lt this)]
    exact .of (Int.ediv_le_ediv this (ia _ e).1) (Int.ediv_le_ediv this (ia _ e).2)
  | _ => cases h
end Mine
end
section
set_option genCtorIdx false
namespace Mine

/-! comparisons -/
noncomputable def ans (t f : Bool) : Option Bool := if t then some true else if f then some false else none
noncomputable def two (f : Int × Int → Int × Int → Option Bool) (a b : Itv) : Option Bool := a.bind fun p => b.bind (f p)
noncomputable def ltO (a b : Itv) : Option Bool := two (fun p q => ans (decide (p.2 < q.1)) (decide (q.2 ≤ p.1))) a b
noncomputable def leO (a b : Itv) : Option Bool := two (fun p q => ans (decide (p.2 ≤ q.1)) (decide (q.2 < p.1))) a b
noncomputable def eqO (a b : Itv) : Option Bool := two (fun p q => ans (decide (p.2 ≤ q.1) && decide (q.2 ≤ p.1)) (decide (p.2 < q.1) || decide (q.2 < p.1))) a b
noncomputable def cmpI (op : CmpOp) (a b : Itv) : Option (Option Bool) := match op with
  | .Lt => some (ltO a b)
  | .LtE => some (leO a b)
  | .Gt => some (ltO b a)
  | .GtE => some (leO b a)
  | .Eq => some (eqO a b)
  | .NotEq => some ((eqO a b).map not)
  | _ => none
noncomputable def cmpS (op : CmpOp) (a b : Str) : Option Bool := match op with
  | .Eq => some (a == b)
  | .NotEq => some (!(a == b))
  | _ => none
noncomputable def cmpB (op : CmpOp) (a b : Option Bool) : Option (Option Bool) := match op with
  | .Eq => some (a.bind fun x => b.map fun y => x == y)
  | .NotEq => some (a.bind fun x => b.map fun y => !(x == y))
  | _ => none
/-- membership in a tuple of strings -/
noncomputable def inS (s : Str) (l : List A0) : Option Bool := if l.all fun a => a.s?.isSome then some (l.any fun a => a.s? == some s) else none
theorem InB.any {b : Bool} : InB none b := fun _ q => by cases q
theorem InB.of {b : Bool} : InB (some b) b := fun _ q => Option.some.inj q
theorem InB.ans {t f c : Bool} {p : Prop} [Decidable p] (h1 : t = true → p) (h2 : f = true → ¬ p) : InB (ans t f) (decide p) := by
  unfold Mine.ans
  cases t with
  | true => rw [if_pos rfl, decide_eq_true (h1 rfl)]; exact .of
  | false =>
    rw [if_neg Bool.false_ne_true]
    cases f with
    | true => rw [if_pos rfl, decide_eq_false (h2 rfl)]; exact .of
    | false => exact .any
theorem InB.two {f : Int × Int → Int × Int → Option Bool} {a b : Itv} {r : Bool} (h : ∀ p q, a = some p → b = some q → InB (f p q) r) : InB (two f a b) r := by
  cases a with
  | none => exact .any
  | some p => cases b with
    | none => exact .any
    | some q => exact h p q rfl rfl
section
variable {a b : Itv} {x y : Int}
theorem ltO_ok (ia : InR a x) (ib : InR b y) : InB (ltO a b) (decide (x < y)) := .two fun p q e e' => .ans (c := true) (fun h => Int.lt_of_le_of_lt (ia _ e).2 (Int.lt_of_lt_of_le (of_decide_eq_true h) (ib _ e').1)) fun h => Int.not_lt.mpr (Int.le_trans (ib _ e').2 (Int.le_trans (of_decide_eq_true h) (ia _ e).1))
theorem leO_ok (ia : InR a x) (ib : InR b y) : InB (leO a b) (decide (x ≤ y)) := .two fun p q e e' => .ans (c := true) (fun h => Int.le_trans (ia _ e).2 (Int.le_trans (of_decide_eq_true h) (ib _ e').1)) fun h => Int.not_le.mpr (Int.lt_of_le_of_lt (ib _ e').2 (Int.lt_of_lt_of_le (of_decide_eq_true h) (ia _ e).1))
theorem eqO_ok (ia : InR a x) (ib : InR b y) : InB (eqO a b) (x == y) := by
  have : (x == y) = decide (x = y) := rfl
  rw [this]
  refine .two fun p q e e' => .ans (c := true) (fun h => ?_) fun h => ?_
  · rw [Bool.and_eq_true, decide_eq_true_eq, decide_eq_true_eq] at h
    exact Int.le_antisymm (Int.le_trans (ia _ e).2 (Int.le_trans h.1 (ib _ e').1)) (Int.le_trans (ib _ e').2 (Int.le_trans h.2 (ia _ e).1))
  · rw [Bool.or_eq_true, decide_eq_true_eq, decide_eq_true_eq] at h
    rintro rfl
    rcases h with h | h
    · exact Int.lt_irrefl _ (Int.lt_of_le_of_lt (ia _ e).2 (Int.lt_of_lt_of_le h (ib _ e').1))
    · exact Int.lt_irrefl _ (Int.lt_of_le_of_lt (ib _ e').2 (Int.lt_of_lt_of_le h (ia _ e).1))
theorem InB.not {o : Option Bool} {b : Bool} (h : InB o b) : InB (o.map Bool.not) (!b) := by
  cases o with
  | none => exact .any
  | some c => rw [h c rfl]; exact .of
theorem InB.bin {o o' : Option Bool} {b c : Bool} {f : Bool → Bool → Bool} (h : InB o b) (h' : InB o' c) : InB (o.bind fun x => o'.map fun y => f x y) (f b c) := by
  cases o with
  | none => exact .any
  | some x => cases o' with
    | none => exact .any
    | some y => rw [h x rfl, h' y rfl]; exact .of
variable {op : CmpOp} {o : Option Bool} {σ : St} {B : Bool → St → Prop}
theorem cmpI_ok (e : cmpI op a b = some o) (ia : InR a x) (ib : InR b y) (h : ∀ r, InB o r → B r σ) : CmpQ op (.int x) (.int y) σ B := by
  cases op with
  | Lt => cases e; exact .mk c_lt (h _ (ltO_ok ia ib))
  | LtE => cases e; exact .mk c_le (h _ (leO_ok ia ib))
  | Gt => cases e; exact .mk c_gt (h _ (ltO_ok ib ia))
  | GtE => cases e; exact .mk c_ge (h _ (leO_ok ib ia))
  | Eq => cases e; exact .mk c_eqI (h _ (eqO_ok ia ib))
  | NotEq => cases e; exact .mk c_neI (h _ (eqO_ok ia ib).not)
  | _ => cases e
theorem cmpS_ok {s t : Str} {r : Bool} (e : cmpS op s t = some r) (h : B r σ) : CmpQ op (.str s) (.str t) σ B := by
  cases op with
  | Eq => cases e; exact .mk c_eqS h
  | NotEq => cases e; exact .mk c_neS h
  | _ => cases e
theorem cmpB_ok {p q : Option Bool} {s t : Bool} (e : cmpB op p q = some o) (ip : InB p s) (iq : InB q t) (h : ∀ r, InB o r → B r σ) : CmpQ op (.bool s) (.bool t) σ B := by
  cases op with
  | Eq => cases e; exact .mk c_eqB (h _ (ip.bin iq))
  | NotEq => cases e; exact .mk c_neB (h _ (InB.bin (f := fun x y => !(x == y)) ip iq))
  | _ => cases e
end
section
variable {X : Nat → MV → Prop} {l : List A0} {vs : List MV}
theorem A0.sE {a : A0} {v : MV} {s : Str} (e : a.s? = some s) (g : G0 X a v) : v = .str s := AV.sE (a := .s a) e (.s g)
theorem A0.iE {a : A0} {v : MV} {r : Itv} (e : a.i? = some r) (g : G0 X a v) : ∃ x, v = .int x := let ⟨y, h, _⟩ := AV.iE (a := .s a) e (.s g); ⟨y, h⟩
theorem Gs.strs {s : Str} (g : Gs X l vs) (h : l.all (fun a => a.s?.isSome) = true) : vs.all isS = true ∧ vs.any (eqS s) = l.any fun a => a.s? == some s := by
  induction g with
  | nil => exact ⟨rfl, rfl⟩
  | @cons a v as vs g _ ih =>
    rw [List.all_cons, Bool.and_eq_true] at h
    obtain ⟨t, e⟩ := Option.isSome_iff_exists.mp h.1
    obtain rfl := A0.sE e g
    obtain ⟨i1, i2⟩ := ih h.2
    rw [List.all_cons, List.any_cons, List.any_cons, i1, i2, e]
    exact ⟨rfl, rfl⟩
theorem Gs.ints (g : Gs X l vs) (h : l.all (fun a => a.i?.isSome) = true) : vs.all isI = true := by
  induction g with
  | nil => rfl
  | @cons a v as vs g _ ih =>
    rw [List.all_cons, Bool.and_eq_true] at h
    obtain ⟨t, e⟩ := Option.isSome_iff_exists.mp h.1
    obtain ⟨x, rfl⟩ := A0.iE e g
    rw [List.all_cons, ih h.2]
    rfl
variable {σ : St} {B : Bool → St → Prop}
theorem inS_ok {s : Str} {b : Bool} (e : inS s l = some b) (g : Gs X l vs) (h : B b σ) : CmpQ .In (.str s) (.tup vs) σ B := by
  unfold inS at e
  cases q : l.all (fun a => a.s?.isSome) with
  | false => rw [q] at e; cases e
  | true =>
    rw [q] at e
    obtain ⟨h1, h2⟩ := g.strs (s := s) q
    exact .mk (c_inS h1) (by rw [h2]; cases e; exact h)
theorem inI_ok {x : Int} (e : l.all (fun a => a.i?.isSome) = true) (g : Gs X l vs) (h : ∀ b, B b σ) : CmpQ .In (.int x) (.tup vs) σ B := .mk (c_inI (g.ints e)) (h _)
end
end Mine
end
section
set_option genCtorIdx false
namespace Mine

set_option genCtorIdx true in
/-- what the world around may do, said in Booleans -/
inductive Op where
  | call (c f : Str)
  | attr (a : Str)
  | item
  | bin (o : Operator)
  | cmp (o : CmpOp)
  | slc (a b c : Bool)
  | blt (f : Str)
  | met (id : String)
  | from
  | lst
  | mul
  | setA (a : Str)
  | setI
  | setS
  | del
deriving DecidableEq
structure Tab where
  op : Op → List AV → Nat → (AV → Nat → Bool) → Bool
  own : AV → Str → Nat → Option Str
  met : AV → Str → Nat → Option String
  trap : Nat → Bool
set_option genCtorIdx true in
/-- a frame's names -/
inductive AN where
  | no
  | gl
  | lo
  | v (a : AV)
  | c (a : AV)
inductive GN (X : Nat → MV → Prop) : AN → Nm → Prop
  | no {w : Nm} : GN X .no w
  | gl : GN X .gl .gl
  | lo : GN X .lo .lo
  | v {a : AV} {v : MV} : GV X a v → GN X (.v a) (.v v)
  | c {a : AV} {v : MV} : GV X a v → GN X (.c a) (.c v)
inductive GE (X : Nat → MV → Prop) : List AN → List Nm → Prop
  | nil : GE X [] []
  | cons {a : AN} {w : Nm} {as : List AN} {ws : List Nm} : GN X a w → GE X as ws → GE X (a :: as) (w :: ws)
inductive GL (X : Nat → MV → Prop) : List AV → List MV → Prop
  | nil : GL X [] []
  | cons {a : AV} {v : MV} {as : List AV} {vs : List MV} : GV X a v → GL X as vs → GL X (a :: as) (v :: vs)
noncomputable def AN.v? (a : AN) : Option AV := AN.casesOn a none none none (fun a => some a) fun _ => none
noncomputable def AN.c? (a : AN) : Option AV := AN.casesOn a none none none (fun _ => none) fun a => some a
noncomputable def AN.isGl (a : AN) : Bool := AN.casesOn a false true false (fun _ => false) fun _ => false
noncomputable def AN.isLo (a : AN) : Bool := AN.casesOn a false false true (fun _ => true) fun _ => false
noncomputable def lookN (x : Str) (ns : List Str) : List AN → AN := List.rec (fun _ => .no) (fun y _ f as => List.casesOn as .no fun a as => if x = y then a else f as) ns
noncomputable def putN (x : Str) (v : AV) (ns : List Str) : List AN → List AN := List.rec (fun as => as) (fun y _ f as => List.casesOn as [] fun a as => if x = y then .v v :: as else a :: f as) ns
section
variable {X X' : Nat → MV → Prop} {x : Str} {ns : List Str} {as : List AN} {ws : List Nm} {a : AV}
theorem GN.mono (h : ∀ k v, X k v → X' k v) {a : AN} {w : Nm} (g : GN X a w) : GN X' a w := match g with
  | .no => .no | .gl => .gl | .lo => .lo | .v g => .v (g.mono h) | .c g => .c (g.mono h)
theorem GE.mono (h : ∀ k v, X k v → X' k v) (g : GE X as ws) : GE X' as ws := by
  induction g with
  | nil => exact .nil
  | cons g _ ih => exact .cons (g.mono h) ih
theorem GE.at (g : GE X as ws) {a : AN} (e : lookN x ns as = a) (ne : a ≠ .no) : ∃ w, AtL ns ws x w ∧ GN X a w := by
  induction g generalizing ns with
  | nil => cases ns <;> exact absurd e.symm ne
  | @cons a' w as ws g _ ih =>
    cases ns with
    | nil => exact absurd e.symm ne
    | cons y ns =>
      have e : (if x = y then a' else lookN x ns as) = a := e
      by_cases q : x = y
      · subst q
        rw [if_pos rfl] at e
        exact ⟨w, .hd, e ▸ g⟩
      · rw [if_neg q] at e
        obtain ⟨w', h, g'⟩ := ih e
        exact ⟨w', .tl h, g'⟩
theorem GE.val (g : GE X as ws) (e : (lookN x ns as).v? = some a) : ∃ v, AtL ns ws x (.v v) ∧ GV X a v := by
  cases q : lookN x ns as with
  | v b =>
    rw [q] at e; cases e
    obtain ⟨w, h, g⟩ := g.at q nofun
    cases g with | v g => exact ⟨_, h, g⟩
  | _ => rw [q] at e; cases e
theorem GE.cell (g : GE X as ws) (e : (lookN x ns as).c? = some a) : ∃ v, AtL ns ws x (.c v) ∧ GV X a v := by
  cases q : lookN x ns as with
  | c b =>
    rw [q] at e; cases e
    obtain ⟨w, h, g⟩ := g.at q nofun
    cases g with | c g => exact ⟨_, h, g⟩
  | _ => rw [q] at e; cases e
theorem GE.gl (g : GE X as ws) (e : (lookN x ns as).isGl = true) : AtL ns ws x .gl := by
  cases q : lookN x ns as with
  | gl =>
    obtain ⟨w, h, g⟩ := g.at q nofun
    cases g; exact h
  | _ => rw [q] at e; cases e
theorem GE.put (g : GE X as ws) (e : (lookN x ns as).isLo = true) {v : MV} (gv : GV X a v) : ∃ ws', UpL ns ws x (.v v) ws' ∧ GE X (putN x a ns as) ws' := by
  induction g generalizing ns with
  | nil => cases ns <;> cases e
  | @cons a' w as ws g gs ih =>
    cases ns with
    | nil => cases e
    | cons y ns =>
      have e : (if x = y then a' else lookN x ns as).isLo = true := e
      show ∃ ws', _ ∧ GE X (if x = y then .v a :: as else a' :: putN x a ns as) ws'
      by_cases q : x = y
      · subst q
        rw [if_pos rfl] at e ⊢
        exact ⟨_, .hd (by cases g <;> first | rfl | cases e), .cons (.v gv) gs⟩
      · rw [if_neg q] at e ⊢
        obtain ⟨ws', h, g'⟩ := ih e
        exact ⟨_, .tl h, .cons g g'⟩
end
noncomputable def at1 (f : MV → Prop) (vs : List MV) : Prop := List.casesOn vs False fun v r => List.casesOn r (f v) fun _ _ => False
noncomputable def at2 (f : MV → MV → Prop) (vs : List MV) : Prop := List.casesOn vs False fun v r => at1 (f v) r
noncomputable def at3 (f : MV → MV → MV → Prop) (vs : List MV) : Prop := List.casesOn vs False fun v r => at2 (f v) r
noncomputable def at4 (f : MV → MV → MV → MV → Prop) (vs : List MV) : Prop := List.casesOn vs False fun v r => at3 (f v) r
/-- the operations over the model's values -/
noncomputable def OpS (n : Nat) (σ : St) (Q : MV → St → Prop) (T : St → Prop) (o : Op) (vs : List MV) : Prop :=
  Op.casesOn o (fun c f => FT c f ≠ none ∧ CalS n c f vs σ Q T) (fun a => at1 (fun v => AttrS n v a σ Q T) vs) (at2 (fun v x => ItemS v x σ Q T) vs) (fun o => at2 (fun v x => BinS o v x σ Q T) vs) (fun o => at2 (fun v x => CmpQ o v x σ fun r σ => Q (.bool r) σ) vs)
    (fun a b c => if a then if b then at3 (fun v x y => SliceS v (some x) (some y) none σ Q T) vs else at2 (fun v x => SliceS v (some x) none none σ Q T) vs else if b then at2 (fun v x => SliceS v none (some x) none σ Q T) vs else if c then at2 (fun v x => SliceS v none none (some x) σ Q T) vs else at1 (fun v => SliceS v none none none σ Q T) vs)
    (fun f => ∀ V, blts.lookup f = some V → BltS V vs σ Q T) (fun id => BltS (.builtin id) vs σ Q T) (∃ b, vs = [.bytes b, .str "little"] ∧ b.length ≤ 8 ∧ Q (.int (fromLE b)) σ) (vs.length ≤ sz ∧ Q (.ref σ.length) (σ ++ [.list vs])) True
    (fun a => at2 (fun u v => SetAttrS u a v σ (Q .none) T) vs) (at3 (fun u x v => SetItemS u x v σ (Q .none) T) vs) (at4 (fun u x y v => SetSliceS u x y v σ (Q .none) T) vs) (at2 (fun u x => DelS u x σ (Q .none) T) vs)
/-- the meaning of modes and of the values that are not said in full -/
structure Wor where
  W : Type
  le : W → W → Prop
  refl : ∀ w, le w w
  trans : ∀ {a b c}, le a b → le b c → le a c
  X : W → Nat → MV → Prop
  up : ∀ {a b}, le a b → ∀ k v, X a k v → X b k v
  I : Nat → W → St → Prop
structure TabOk (n : Nat) (R : Wor) (T : St → Prop) (t : Tab) : Prop where
  op : ∀ {o avs m k w vs σ Q}, t.op o avs m k = true → R.I m w σ → GL (R.X w) avs vs → (∀ av m' w' v σ', k av m' = true → R.le w w' → R.I m' w' σ' → GV (R.X w') av v → Q v σ') → OpS n σ Q T o vs
  own : ∀ {a m c mo w v σ}, t.own a m mo = some c → R.I mo w σ → GV (R.X w) a v → ∃ i l d, v = .ref i ∧ σ[i]? = some (.inst c l) ∧ getK l m = none ∧ isProp c m = false ∧ FT c m = some d
  met : ∀ {a m id mo w v σ}, t.met a m mo = some id → R.I mo w σ → GV (R.X w) a v → FindS v m id σ
  trap : ∀ {m w σ}, t.trap m = true → R.I m w σ → T σ
end Mine
end
section
set_option genCtorIdx false
namespace Mine

/-! the abstract evaluator: what follows is asked of every outcome -/
abbrev KV := AV → Nat → Bool
abbrev KB := Bool → Nat → Bool
structure Den where
  ev : List AN → Nat → KV → Bool
  ts : List AN → Nat → KB → Bool
  ls : List AN → Nat → (List AV → Nat → Bool) → Bool
  al : BoolOp → List AN → Nat → KB → Bool
  one : List AN → Nat → KV → Bool
  two : BoolOp → List AN → Nat → KV → Bool
  tg : List AN → Nat → AV → (List AN → Nat → Bool) → Bool
  tl : List AN → Nat → List A0 → (List AN → Nat → Bool) → Bool
  st : List AN → Nat → (Option AV → List AN → Nat → Bool) → Bool
  ss : List AN → Nat → (Option AV → List AN → Nat → Bool) → Bool
noncomputable def fork (o : Option Bool) (k : Bool → Bool) : Bool := o.elim (k true && k false) k
/-- the value of a test -/
noncomputable def truth (x : AV) (m : Nat) (k : KB) : Bool := x.b?.any (fun o => fork o fun b => k b m) || x.i?.any fun r => fork ((eqO r (some (0, 0))).map not) fun b => k b m
noncomputable def bitK (k : KV) : KB := fun b m => k (.s (.bit (some b))) m
noncomputable def binV (t : Tab) (op : Operator) (x y : AV) (m : Nat) (k : KV) : Bool :=
  (x.i?.any fun a => y.i?.any fun b => (intOp op a b).any fun r => k (.s (.int r)) m) || t.op (.bin op) [x, y] m k
noncomputable def isIn : CmpOp → Bool
  | .In => true
  | _ => false
noncomputable def cmpV (t : Tab) (op : CmpOp) (x y : AV) (m : Nat) (k : KB) : Bool :=
  (x.i?.any fun a => y.i?.any fun b => (cmpI op a b).any fun o => fork o fun b => k b m) || ((x.s?.any fun a => y.s?.any fun b => (cmpS op a b).any fun r => k r m) || ((x.b?.any fun a => y.b?.any fun b => (cmpB op a b).any fun o => fork o fun b => k b m) ||
    ((isIn op && y.t?.any fun l => (x.s?.any fun s => (inS s l).any fun b => k b m) || (x.i?.any fun _ => l.all (fun a => a.i?.isSome) && (k true m && k false m))) || t.op (.cmp op) [x, y] m fun v m => v.b?.any fun o => fork o fun b => k b m)))
/-- the bounds of several numbers -/
noncomputable def hull (l : List A0) : Itv := l.foldr (fun a r => a.i?.bind fun q => q.bind fun p => some (r.elim p fun s => (min p.1 s.1, max p.2 s.2))) none
noncomputable def inHull (l : List A0) (r : Int × Int) : Bool := l.all fun a => a.i?.any fun q => q.any fun p => decide (r.1 ≤ p.1) && decide (p.2 ≤ r.2)
/-- a piece of a tuple, or of a string -/
noncomputable def itemV (t : Tab) (x y : AV) (m : Nat) (k : KV) : Bool :=
  (x.t?.any fun l => y.i?.any fun r => r.any fun p => decide (0 ≤ p.1) && (decide (p.2 < (l.length : Int)) && (decide (l.length ≤ 100) && if p.1 = p.2 then l[p.1.toNat]?.any fun a => k (.s a) m else ((hull l).any fun h => inHull l h && k (.s (.int (some h))) m) || l.all fun a => k (.s a) m))) ||
    ((x.s?.any fun s => y.i?.any fun r => r.any fun p => decide (p.1 = p.2) && (decide (-(s.length : Int) ≤ p.1) && (decide (p.1 < (s.length : Int)) && (decide (s.length ≤ 100) && k (.s (.str (Txt.item s p.1))) m)))) || t.op .item [x, y] m k)
/-- a string without its ends -/
noncomputable def slcV (t : Tab) (b : AV) (x : AV) (m : Nat) (k : KV) : Bool :=
  (x.s?.any fun s => b.i?.any fun r => r.any fun p => decide (p.1 = p.2) && (decide (p.1.natAbs < 10) && (decide (s.length ≤ 100) && k (.s (.str (Txt.slice s none (some p.1)))) m))) || t.op (.slc false true false) [x, b] m k
noncomputable def A0.of (v : MV) : Option A0 := MV.casesOn (motive_1 := fun _ => Option A0) v (some .non) (fun b => some (.bit (some b))) (fun i => some (.int (some (i, i)))) (fun s => some (.str s)) (fun _ => none) (fun _ => none) (fun _ => none) fun _ => none
noncomputable def AV.of (v : MV) : Option AV := MV.casesOn (motive_1 := fun _ => Option AV) v (some (.s .non)) (fun b => some (.s (.bit (some b)))) (fun i => some (.int i i)) (fun s => some (.s (.str s))) (fun _ => none) (fun l => (l.mapM A0.of).map .tup) (fun _ => none) fun _ => none
noncomputable def conV (c : Const) : Option AV := match c with
  | .int i => some (.int i i)
  | .str s => some (.s (.str s))
  | .bool b => some (.s (.bit (some b)))
  | .none => some (.s .non)
  | _ => none
section
variable {n : Nat} {R : Wor} {T : St → Prop} {t : Tab} {m : Nat} {w : R.W} {σ : St} {Q : MV → St → Prop} {B : Bool → St → Prop} {x y : AV} {u v : MV}
/-- what holds behind every outcome that the evaluator allows -/
noncomputable def After (R : Wor) (w : R.W) (k : KV) (Q : MV → St → Prop) : Prop := ∀ av m w' v σ, k av m = true → R.le w w' → R.I m w' σ → GV (R.X w') av v → Q v σ
noncomputable def AfterB (R : Wor) (w : R.W) (k : KB) (B : Bool → St → Prop) : Prop := ∀ b m w' σ, k b m = true → R.le w w' → R.I m w' σ → B b σ
theorem fork_ok {o : Option Bool} {k : Bool → Bool} {b : Bool} (h : fork o k = true) (i : InB o b) : k b = true := by
  cases o with
  | none =>
    have h : (k true && k false) = true := h
    rw [Bool.and_eq_true] at h
    cases b with
    | true => exact h.1
    | false => exact h.2
  | some c => rw [i c rfl]; exact h
theorem anyO {α : Type} {o : Option α} {f : α → Bool} (h : o.any f = true) : ∃ a, o = some a ∧ f a = true := (Option.any_eq_true _ _).mp h
theorem orE {a b : Bool} {P : Prop} (h : (a || b) = true) (f : a = true → P) (g : b = true → P) : P := by
  cases a with
  | true => exact f rfl
  | false => exact g h
theorem truth_ok {k : KB} (h : truth x m k = true) (i : R.I m w σ) (g : GV (R.X w) x v) (q : AfterB R w k B) : TrQ B σ v := by
  refine orE h (fun h => ?_) fun h => ?_
  · obtain ⟨o, e, h⟩ := anyO h
    obtain ⟨b, rfl, ib⟩ := AV.bE e g
    exact .bool (q _ _ _ _ (fork_ok h ib) (R.refl _) i)
  · obtain ⟨r, e, h⟩ := anyO h
    obtain ⟨z, rfl, ir⟩ := AV.iE e g
    exact .int (q _ _ _ _ (fork_ok h (eqO_ok ir (.of (Int.le_refl _) (Int.le_refl _))).not) (R.refl _) i)
theorem binV_ok {op : Operator} {k : KV} (ok : TabOk n R T t) (h : binV t op x y m k = true) (i : R.I m w σ) (g : GV (R.X w) x v) (g' : GV (R.X w) y u) (q : After R w k Q) : BinS op v u σ Q T := by
  refine orE h (fun h => ?_) fun h => ?_
  · obtain ⟨a, e, h⟩ := anyO h
    obtain ⟨b, e', h⟩ := anyO h
    obtain ⟨r, er, h⟩ := anyO h
    obtain ⟨z, rfl, ia⟩ := AV.iE e g
    obtain ⟨z', rfl, ib⟩ := AV.iE e' g'
    exact intOp_ok er ia ib fun z iz => q _ _ _ _ _ h (R.refl _) i (.s (.int iz))
  · exact ok.op h i (.cons g (.cons g' .nil)) q
theorem cmpV_ok {op : CmpOp} {k : KB} (ok : TabOk n R T t) (h : cmpV t op x y m k = true) (i : R.I m w σ) (g : GV (R.X w) x v) (g' : GV (R.X w) y u) (q : AfterB R w k B) : CmpQ op v u σ B := by
  refine orE h (fun h => ?_) fun h => orE h (fun h => ?_) fun h => orE h (fun h => ?_) fun h => orE h (fun h => ?_) fun h => ?_
  · obtain ⟨a, e, h⟩ := anyO h
    obtain ⟨b, e', h⟩ := anyO h
    obtain ⟨r, er, h⟩ := anyO h
    obtain ⟨z, rfl, ia⟩ := AV.iE e g
    obtain ⟨z', rfl, ib⟩ := AV.iE e' g'
    exact cmpI_ok er ia ib fun r ir => q _ _ _ _ (fork_ok h ir) (R.refl _) i
  · obtain ⟨a, e, h⟩ := anyO h
    obtain ⟨b, e', h⟩ := anyO h
    obtain ⟨r, er, h⟩ := anyO h
    obtain rfl := AV.sE e g
    obtain rfl := AV.sE e' g'
    exact cmpS_ok er (q _ _ _ _ h (R.refl _) i)
  · obtain ⟨a, e, h⟩ := anyO h
    obtain ⟨b, e', h⟩ := anyO h
    obtain ⟨r, er, h⟩ := anyO h
    obtain ⟨z, rfl, ia⟩ := AV.bE e g
    obtain ⟨z', rfl, ib⟩ := AV.bE e' g'
    exact cmpB_ok er ia ib fun r ir => q _ _ _ _ (fork_ok h ir) (R.refl _) i
  · rw [Bool.and_eq_true] at h
    obtain ⟨hi, h⟩ := h
    obtain ⟨l, e', hh⟩ := anyO h
    obtain ⟨vs, rfl, gl⟩ := AV.tE e' g'
    clear h
    cases op with
    | In =>
      refine orE hh (fun h => ?_) fun h => ?_
      · obtain ⟨s, e, h⟩ := anyO h
        obtain ⟨b, eb, h⟩ := anyO h
        obtain rfl := AV.sE e g
        exact inS_ok eb gl (q _ _ _ _ h (R.refl _) i)
      · obtain ⟨a, e, h⟩ := anyO h
        rw [Bool.and_eq_true, Bool.and_eq_true] at h
        obtain ⟨z, rfl, _⟩ := AV.iE e g
        refine inI_ok h.1 gl fun b => q _ _ _ _ ?_ (R.refl _) i
        cases b with
        | true => exact h.2.1
        | false => exact h.2.2
    | _ => cases hi
  · have h : CmpQ op v u σ fun r σ => ∀ b, MV.bool r = .bool b → B b σ := ok.op (Q := fun v σ => ∀ b, v = .bool b → B b σ) h i (.cons g (.cons g' .nil)) (fun av m' w' v σ' hk l i' gv b e => by
      obtain ⟨o, eo, hk⟩ := anyO hk
      obtain ⟨c, rfl, ic⟩ := AV.bE eo gv
      cases e
      exact q _ _ _ _ (fork_ok hk ic) l i')
    cases h with | mk hc hb => exact .mk hc (hb _ rfl)
theorem Gs.at {X : Nat → MV → Prop} {l : List A0} {vs : List MV} (g : Gs X l vs) {j : Nat} {a : A0} (e : l[j]? = some a) : ∃ v, vs[j]? = some v ∧ G0 X a v := by
  induction g generalizing j with
  | nil => cases e
  | cons g _ ih =>
    cases j with
    | zero => cases e; exact ⟨_, rfl, g⟩
    | succ j => exact ih e
theorem itemV_ok {k : KV} (ok : TabOk n R T t) (h : itemV t x y m k = true) (i : R.I m w σ) (g : GV (R.X w) x v) (g' : GV (R.X w) y u) (q : After R w k Q) : ItemS v u σ Q T := by
  refine orE h (fun h => ?_) fun h => orE h (fun h => ?_) fun h => ?_
  · obtain ⟨l, e, h⟩ := anyO h
    obtain ⟨r, e', h⟩ := anyO h
    obtain ⟨p, ep, h⟩ := anyO h
    rw [Bool.and_eq_true, Bool.and_eq_true, Bool.and_eq_true, decide_eq_true_eq, decide_eq_true_eq, decide_eq_true_eq] at h
    obtain ⟨h0, h1, h2, h⟩ := h
    obtain ⟨vs, rfl, gl⟩ := AV.tE e g
    obtain ⟨z, rfl, ib⟩ := AV.iE e' g'
    obtain ⟨z0, z1⟩ := ib p ep
    have hz : z.toNat < l.length := by omega
    obtain ⟨v, ev, gv⟩ := gl.at (List.getElem?_eq_getElem hz)
    by_cases c : p.1 = p.2
    · refine i_tup (Int.le_trans h0 z0) (by omega) ev (q _ _ _ _ _ ?_ (R.refl _) i (.s gv))
      rw [if_pos c] at h
      obtain ⟨a, ea, h⟩ := anyO h
      have : p.1.toNat = z.toNat := by omega
      rw [this, List.getElem?_eq_getElem hz] at ea
      cases ea
      exact h
    · rw [if_neg c] at h
      refine i_tup (Int.le_trans h0 z0) (by omega) ev (orE h (fun h => ?_) fun h => q _ _ _ _ _ (List.all_eq_true.mp h _ (List.getElem_mem hz)) (R.refl _) i (.s gv))
      obtain ⟨r, _, h⟩ := anyO h
      rw [Bool.and_eq_true] at h
      obtain ⟨s, es, d⟩ := anyO (List.all_eq_true.mp h.1 _ (List.getElem_mem hz))
      obtain ⟨y, rfl, iy⟩ := AV.iE (a := .s _) es (.s gv)
      obtain ⟨t, et, dd⟩ := anyO d
      rw [Bool.and_eq_true, decide_eq_true_eq, decide_eq_true_eq] at dd
      exact q _ _ _ _ _ h.2 (R.refl _) i (.s (.int (.of (Int.le_trans dd.1 (iy t et).1) (Int.le_trans (iy t et).2 dd.2))))
  · obtain ⟨s, e, h⟩ := anyO h
    obtain ⟨r, e', h⟩ := anyO h
    obtain ⟨p, ep, h⟩ := anyO h
    rw [Bool.and_eq_true, Bool.and_eq_true, Bool.and_eq_true, Bool.and_eq_true, decide_eq_true_eq, decide_eq_true_eq, decide_eq_true_eq, decide_eq_true_eq] at h
    obtain ⟨h0, h1, h2, h3, h⟩ := h
    obtain rfl := AV.sE e g
    obtain ⟨z, rfl, ib⟩ := AV.iE e' g'
    obtain rfl : z = p.1 := Int.le_antisymm (h0 ▸ (ib p ep).2) (ib p ep).1
    exact i_str h1 h2 (Nat.le_trans h3 (by decide)) (q _ _ _ _ _ h (R.refl _) i (.s .str))
  · exact ok.op h i (.cons g (.cons g' .nil)) q
theorem slcV_ok {k : KV} (ok : TabOk n R T t) (h : slcV t y x m k = true) (i : R.I m w σ) (g : GV (R.X w) x v) (g' : GV (R.X w) y u) (q : After R w k Q) : SliceS v none (some u) none σ Q T := by
  refine orE h (fun h => ?_) fun h => ?_
  · obtain ⟨s, e, h⟩ := anyO h
    obtain ⟨r, e', h⟩ := anyO h
    obtain ⟨p, ep, h⟩ := anyO h
    rw [Bool.and_eq_true, Bool.and_eq_true, Bool.and_eq_true, decide_eq_true_eq, decide_eq_true_eq, decide_eq_true_eq] at h
    obtain ⟨h0, h1, h2, h⟩ := h
    obtain rfl := AV.sE e g
    obtain ⟨z, rfl, ib⟩ := AV.iE e' g'
    obtain rfl : z = p.1 := Int.le_antisymm (h0 ▸ (ib p ep).2) (ib p ep).1
    exact s_str (Nat.le_trans h2 (by decide)) (Nat.lt_of_lt_of_le h1 (by decide)) (q _ _ _ _ _ h (R.refl _) i (.s .str))
  · exact ok.op h i (.cons g (.cons g' .nil)) q
end
end Mine
end
section
set_option genCtorIdx false
namespace Mine

/-! of the small syntax -/
theorem noO {α : Type} {a : α} {P : Prop} (h : none = some a) : P := by cases h
theorem Tm.nm_ok (t : Tm) : (∀ x p, t.nm.1 = some (x, p) → t.out.e = .Name x p) ∧ ∀ xs ps, t.nm.2 = some (xs, ps) → t.out.es = List.zipWith Expr.Name xs ps := by
  induction t with
  | name x p => exact ⟨fun _ _ e => by cases e; rfl, fun _ _ h => noO h⟩
  | nil => exact ⟨fun _ _ h => noO h, fun _ _ e => by cases e; rfl⟩
  | cons a b iha ihb =>
    refine ⟨fun _ _ h => noO h, fun xs ps e => ?_⟩
    obtain ⟨⟨x, p⟩, e1, e⟩ := Option.bind_eq_some_iff.mp e
    obtain ⟨⟨ys, qs⟩, e2, e⟩ := Option.map_eq_some_iff.mp e
    cases e
    show a.out.e :: b.out.es = _
    rw [iha.1 _ _ e1, ihb.2 _ _ e2]
    rfl
  | _ => exact ⟨fun _ _ h => noO h, fun _ _ h => noO h⟩
theorem Tm.marks (t : Tm) (op : CmpOp) : behindInMarks op t.out.e = false := by cases t <;> rfl
theorem Tm.star (t : Tm) : isStar t.out.e = false := by cases t <;> rfl
theorem Tm.stars (t : Tm) : t.out.es.any isStar = false := by
  induction t with
  | cons a b iha ihb =>
    show (isStar a.out.e || b.out.es.any isStar) = false
    rw [a.star, ihb]; rfl
  | _ => rfl
theorem Tm.comp (t : Tm) (tg : Option Expr) (j : Nat) (env : Env) : swapsWith t.out.e tg j env = pure false := by cases t <;> rfl
/-- 1 a tuple, 2 a list, 3 a call -/
noncomputable def Tm.kind (t : Tm) : Nat :=
  Tm.casesOn t 0 0 (fun _ _ => 0) (fun _ _ _ => 0) (fun _ _ => 0) (fun _ _ _ _ => 0) (fun _ _ _ => 0) (fun _ _ _ => 0) (fun _ _ _ _ => 0) (fun _ _ _ _ _ _ => 0) (fun _ _ _ _ => 0) (fun _ _ _ => 1) (fun _ _ => 2) (fun _ _ _ => 0) (fun _ _ _ _ _ _ => 0) (fun _ _ _ => 0)
    (fun _ _ _ _ => 3) (fun _ _ _ _ _ => 3) (fun _ _ _ => 0) (fun _ _ _ _ => 0) (fun _ _ => 0) (fun _ => 0) (fun _ _ => 0) (fun _ _ _ _ _ => 0) (fun _ _ _ _ => 0) (fun _ _ _ _ _ => 0) (fun _ _ _ _ _ _ _ => 0) (fun _ _ _ _ _ _ _ => 3)
noncomputable def Tm.sub1 (t : Tm) : Tm :=
  Tm.casesOn t .bad .bad (fun _ _ => .bad) (fun _ _ _ => .bad) (fun _ _ => .bad) (fun _ _ _ _ => .bad) (fun _ _ _ => .bad) (fun _ _ _ => .bad) (fun _ _ _ _ => .bad) (fun _ _ _ _ _ _ => .bad) (fun _ _ _ _ => .bad) (fun es _ _ => es) (fun _ _ => .bad) (fun _ _ _ => .bad) (fun _ _ _ _ _ _ => .bad) (fun _ _ _ => .bad)
    (fun _ _ _ _ => .bad) (fun _ _ _ _ _ => .bad) (fun _ _ _ => .bad) (fun _ _ _ _ => .bad) (fun _ _ => .bad) (fun _ => .bad) (fun _ _ => .bad) (fun _ _ _ _ _ => .bad) (fun _ _ _ _ => .bad) (fun _ _ _ _ _ => .bad) (fun _ _ _ _ _ _ _ => .bad) (fun _ _ _ _ _ _ _ => .bad)
theorem Tm.isTup {t : Tm} (h : t.kind = 1) : ∃ u p, t.out.e = .Tuple t.sub1.out.es u p := by
  cases t with
  | tup es u p => exact ⟨u, p, rfl⟩
  | _ => cases h
theorem Tm.str0 {t e : Tm} (h : t.kind = 0) : Straight t.out.e e.out.e := ⟨fun env j => e.comp _ j env, fun env => by
  cases t with
  | tup es u p => cases h
  | lst es p => cases h
  | call f fp es p => cases h
  | meth o m ap es p => cases h
  | isb => cases h
  | _ => rfl⟩
theorem Tm.str3 {t e : Tm} (h : e.kind = 3) : Straight t.out.e e.out.e := ⟨fun env j => e.comp _ j env, fun env => by
  cases e with
  | call f fp es p => cases t <;> rfl
  | meth o m ap es p => cases t <;> rfl
  | isb => cases t <;> rfl
  | _ => cases h⟩
theorem Tm.str1 {t e : Tm} (ht : t.kind = 1) (he : e.kind = 1) (h : e.sub1.out.es.all (foldedForSure 8) = true) : Straight t.out.e e.out.e := ⟨fun env j => e.comp _ j env, fun env => by
  obtain ⟨u, p, e1⟩ := t.isTup ht
  obtain ⟨u', p', e2⟩ := e.isTup he
  rw [e1, e2]
  exact swap_folded h env⟩
/-- pieces all of them -/
noncomputable def Tm.subs (t : Tm) : Bool × Bool := Tm.rec (motive := fun _ => Bool × Bool) (false, false) (false, true) (fun _ _ a b => (false, a.1 && b.2)) (fun _ _ _ => (false, false)) (fun _ _ => (false, false)) (fun _ _ _ _ _ _ => (false, false)) (fun _ _ _ _ => (false, false)) (fun _ _ _ _ => (false, false)) (fun _ _ _ _ _ _ => (false, false)) (fun _ _ _ _ _ _ _ _ _ => (false, false)) (fun _ _ _ _ _ _ _ => (false, false)) (fun _ _ _ _ => (false, false)) (fun _ _ _ => (false, false)) (fun _ _ _ _ _ => (true, false)) (fun _ _ _ _ _ _ _ _ _ _ => (false, false)) (fun _ _ _ _ => (false, false)) (fun _ _ _ _ _ => (false, false)) (fun _ _ _ _ _ _ _ => (false, false)) (fun _ _ _ _ _ => (false, false)) (fun _ _ _ _ _ _ _ => (false, false)) (fun _ _ _ => (false, false)) (fun _ => (false, false)) (fun _ _ _ => (false, false)) (fun _ _ _ _ _ _ => (false, false)) (fun _ _ _ _ _ _ _ => (false, false)) (fun _ _ _ _ _ _ _ => (false, false)) (fun _ _ _ _ _ _ _ _ _ _ => (false, false)) (fun _ _ _ _ _ _ _ => (false, false)) t
theorem Tm.subs_ok (t : Tm) : (t.subs.1 = true → ∃ o i p, t.out.e = .Subscript o i p) ∧ (t.subs.2 = true → ∀ e ∈ t.out.es, ∃ o i p, e = .Subscript o i p) := by
  induction t with
  | sub o i p => exact ⟨fun _ => ⟨_, _, _, rfl⟩, (fun h => Bool.noConfusion h)⟩
  | nil => exact ⟨(fun h => Bool.noConfusion h), (fun _ _ h => nomatch h)⟩
  | cons a b iha ihb =>
    refine ⟨(fun h => Bool.noConfusion h), fun h e he => ?_⟩
    have h := Bool.and_eq_true_iff.mp h
    rcases List.mem_cons.mp he with rfl | he
    · exact iha.1 h.1
    · exact ihb.2 h.2 e he
  | _ => exact ⟨(fun h => Bool.noConfusion h), (fun h => Bool.noConfusion h)⟩
theorem Tm.str4 {t e : Tm} (ht : t.kind = 1) (he : e.kind = 1) (h : t.sub1.subs.2 = true) (h0 : t.sub1.out.es ≠ []) : Straight t.out.e e.out.e := ⟨fun env j => e.comp _ j env, fun env => by
  obtain ⟨u, p, e1⟩ := t.isTup ht
  obtain ⟨u', p', e2⟩ := e.isTup he
  rw [e1, e2]
  exact swap_items h0 (t.sub1.subs_ok.2 h) env⟩
end Mine
end
section
set_option genCtorIdx false
namespace Mine

/-! the abstract evaluator -/
noncomputable def nameV (x : Str) (a : AN) (m : Nat) (k : KV) : Bool := (a.v?.any fun v => k v m) || ((a.c?.any fun v => k v m) || (a.isGl && (GC x).any fun v => (AV.of v).any fun a => k a m))
noncomputable def negV (x : AV) (m : Nat) (k : KV) : Bool := x.i?.any fun r => k (.s (.int (r.map fun p => (-p.2, -p.1)))) m
noncomputable def invV (x : AV) (m : Nat) (k : KV) : Bool := x.i?.any fun _ => k (.s (.int none)) m
noncomputable def goOn (op : BoolOp) (b : Bool) : Bool := match op with
  | .And => b
  | .Or => !b
noncomputable def allA : List AV → Option (List A0) := fun l => List.rec (some []) (fun a _ r => a.a?.bind fun a => r.map (a :: ·)) l
noncomputable def putNs (ns : List Str) : List Str → List A0 → List AN → Option (List AN) := fun xs => List.rec (fun vs as => if vs.isEmpty then some as else none) (fun x _ f vs as => List.rec none (fun v vs _ => if (lookN x ns as).isLo then f vs (putN x (.s v) ns as) else none) vs) xs
noncomputable def none3 : Den := ⟨fun _ _ _ => false, fun _ _ _ => false, fun _ _ _ => false, fun _ _ _ _ => false, fun _ _ _ => false, fun _ _ _ _ => false, fun _ _ _ _ => false, fun _ _ _ _ => false, fun _ _ _ => false, fun _ _ _ => false⟩
/-- by its value -/
noncomputable def byV (f : List AN → Nat → KV → Bool) : Den := { none3 with ev := f, ts := fun as m k => f as m fun x m => truth x m k }
noncomputable def byT (f : List AN → Nat → KB → Bool) : Den := { none3 with ev := fun as m k => f as m (bitK k), ts := f }
noncomputable def stD (f : List AN → Nat → (Option AV → List AN → Nat → Bool) → Bool) : Den := { none3 with st := f }
section
variable (t : Tab) (ns : List Str) (lp : Tm → Den)
noncomputable def conD (c : Const) : Den := byV fun as m k => (conV c).any fun v => k v m
/-- a number of a known name, in pieces -/
noncomputable def cuts (x : Str) (v : AV) : List AV := if x = ("address" : Str) then v.i?.elim [v] fun r => if r = some (0, 4294967295) then [.int 0 4095, .int 4096 4220, .int 4221 4222, .int 4223 4223, .int 4224 4294967295] else [v] else [v]
noncomputable def nameD (x : Str) : Den := { byV (fun as m k => nameV x (lookN x ns as) m k) with tg := fun as m v k => (lookN x ns as).isLo && (cuts x v).all fun v => k (putN x v ns as) m }
noncomputable def binD (a : Den) (op : Operator) (b : Den) : Den := byV fun as m k => a.ev as m fun x m => b.ev as m fun y m => binV t op x y m k
noncomputable def unaD (op : UnaryOp) (a : Den) : Den := match op with
  | .USub => byV fun as m k => a.ev as m fun x m => negV x m k
  | .Invert => byV fun as m k => a.ev as m fun x m => invV x m k
  | .Not => { none3 with ts := fun as m k => a.ts as m fun b m => k (!b) m }
  | _ => none3
noncomputable def booD (op : BoolOp) (es : Tm) (des : Den) : Den := { none3 with ev := fun as m k => des.two op as m k, ts := fun as m k => des.al op as m k }
noncomputable def cmpD (a : Den) (op : CmpOp) (b : Den) : Den := byT fun as m k => a.ev as m fun x m => b.ev as m fun y m => cmpV t op x y m k
noncomputable def cmp2D (a : Den) (op : CmpOp) (b : Den) (op2 : CmpOp) (c : Den) : Den := { none3 with ev := fun as m k => a.ev as m fun x m => b.ev as m fun y m => cmpV t op x y m fun r m => if r then c.ev as m fun z m => cmpV t op2 y z m (bitK k) else bitK k false m }
noncomputable def ifeD (c a b : Den) : Den := { none3 with ev := fun as m k => c.ts as m fun r m => if r then a.ev as m k else b.ev as m k }
noncomputable def tupD (e : Tm) (es : Den) : Den := { byV (fun as m k => es.ls as m fun l m => (allA l).any fun l => decide (l.length ≤ 100) && k (.tup l) m) with tg := fun as m v k => v.t?.any fun l => decide (e.out.es.length = l.length) && es.tl as m l k }
noncomputable def lstD (es : Den) : Den := byV fun as m k => es.ls as m fun l m => t.op .lst l m k
noncomputable def subD (o i : Den) : Den := { byV (fun as m k => o.ev as m fun x m => i.ev as m fun y m => itemV t x y m k) with tg := fun as m v k => o.ev as m fun x m => i.ev as m fun y m => t.op .setI [x, y, v] m fun _ m => k as m }
noncomputable def slcD (o : Den) (a b c : Tm) (da db dc : Den) : Den := { byV (fun as m k => o.ev as m fun x m => match a.out.o, b.out.o, c.out.o with
    | none, some _, none => db.ev as m fun y m => slcV t y x m k
    | some _, none, none => da.ev as m fun y m => t.op (.slc true false false) [x, y] m k
    | some _, some _, none => da.ev as m fun y m => db.ev as m fun z m => t.op (.slc true true false) [x, y, z] m k
    | none, none, some _ => dc.ev as m fun y m => t.op (.slc false false true) [x, y] m k
    | _, _, _ => false) with tg := fun as m v k => a.out.o.isSome && (b.out.o.isSome && (c.out.o.isNone && o.ev as m fun x m => da.ev as m fun y m => db.ev as m fun z m => t.op .setS [x, y, z, v] m fun _ m => k as m)) }
noncomputable def attrD (o : Tm) (d : Den) (a : Str) : Den := { byV (fun as m k => plainBase o.out.e && d.ev as m fun x m => t.op (.attr a) [x] m k) with tg := fun as m v k => d.ev as m fun x m => t.op (.setA a) [x, v] m fun _ m => k as m }
noncomputable def callD (f : Str) (es : Den) : Den := byV fun as m k => (lookN f ns as).isGl && if (FT "" f).isSome then es.ls as m fun l m => t.op (.call "" f) l m k else (blts.lookup f).isSome && es.ls as m fun l m => t.op (.blt f) l m k
noncomputable def methD (o : Tm) (d : Den) (mt : Str) (ap : Pos) (es : Tm) (des : Den) (p : Pos) : Den := byV fun as m k => decide (es.out.es.length < 30) && (decide (ap.endLine = p.line) &&
  if mt = ("from_bytes" : Str) then o.nm.1.any fun q => decide (q.1 = ("int" : Str)) && ((lookN q.1 ns as).isGl && des.ls as m fun l m => t.op .from l m k)
  else plainBase o.out.e && d.ev as m fun x m1 => ((t.own x mt m1).any fun c => des.ls as m1 fun l m => t.op (.call c mt) (x :: l) m k) || ((t.met x mt m1).any fun id => des.ls as m1 fun l m => t.op (.met id) (x :: l) m k))
noncomputable def asgD (g e : Tm) (dg de de1 : Den) : Den := stD fun as m k =>
  if g.kind = 0 || e.kind = 3 || (g.kind = 1 && e.kind = 1 && (e.sub1.out.es.all (foldedForSure 8) || (g.sub1.subs.2 && !g.sub1.out.es.isEmpty))) then de.ev as m fun v m => dg.tg as m v fun as m => k none as m
  else g.kind = 1 && (e.kind = 1 && g.sub1.nm.2.any fun q => (q.1.length == q.2.length && (q.1.length == 2 || q.1.length == 3) && q.1.eraseDups.length == q.1.length && q.2.all (·.line == (g.sub1.out.es.head?.map (·.pos.line)).getD 0) && swapB q.1.length e.sub1.out.es) &&
    de.ev as m fun v m => v.t?.any fun l => decide (l.length = q.1.length) && (putNs ns q.1.reverse l.reverse as).any fun as => k none as m)
noncomputable def iffD (c b s : Den) : Den := stD fun as m k => c.ts as m fun r m => if r then b.ss as m k else s.ss as m k
noncomputable def raiD (f : Str) (des : Den) : Den := stD fun as m k => decide (f = ("Trap" : Str)) && ((lookN f ns as).isGl && des.ls as m fun l m => decide (l.length = 2) && t.trap m)
/-- a loop over a tuple -/
noncomputable def loopV (tg body : Den) (l : List A0) : List AN → Nat → (Option AV → List AN → Nat → Bool) → Bool := List.rec (fun as m k => k none as m) (fun x _ f as m k => tg.tg as m (.s x) fun as m => body.ss as m fun r as m => r.elim (f as m k) fun v => k (some v) as m) l
noncomputable def froD (g b : Tm) (it : Den) : Den := stD fun as m k => it.ev as m fun x m => x.t?.any fun l => decide (l.length < 100) && loopV (lp g) (lp b) l as m k
noncomputable def deleD (o a : Den) : Den := stD fun as m k => o.ev as m fun x m => a.ev as m fun y m => t.op .del [x, y] m fun _ m => k none as m
/-- a loop over a range: u turns at most, the next one being the j-th -/
noncomputable def loopR (tg body : Den) (lo hi : Int) : Nat → Nat → List AN → Nat → (Option AV → List AN → Nat → Bool) → Bool := fun u => Nat.rec (fun _ _ _ _ => false) (fun _ f j as m k => (decide ((j : Int) < lo) || k none as m) && (decide (hi ≤ (j : Int)) || tg.tg as m (.int (j : Int) (j : Int)) fun as m => body.ss as m fun r as m => r.elim (f (j + 1) as m k) fun v => k (some v) as m)) u
noncomputable def forRD (g : Tm) (f : Str) (e : Den) (b : Tm) : Den := stD fun as m k => decide (f = ("range" : Str)) && ((lookN f ns as).isGl && e.ev as m fun x m => x.i?.any fun r => r.any fun p => decide (0 ≤ p.1) && (decide (p.2 ≤ 50) && loopR (lp g) (lp b) p.1 p.2 60 0 as m k))
noncomputable def isbD (f x y : Str) : Den := byV fun as m k => decide (f = ("isinstance" : Str)) && (decide (y = ("bool" : Str)) && ((lookN f ns as).isGl && ((lookN y ns as).isGl && nameV x (lookN x ns as) m fun v m => v.b?.isSome && k (.s (.bit (some true))) m)))
noncomputable def consD (b0 : Tm) (a b : Den) : Den := ⟨fun _ _ _ => false, fun _ _ _ => false, fun as m k => a.ev as m fun x m => b.ls as m fun l m => k (x :: l) m, fun op as m k => a.ts as m fun r m => if goOn op r then b.al op as m k else k r m,
  fun as m k => b0.out.es.isEmpty && a.ev as m k, fun op as m k => decide (b0.out.es.length = 1) && a.ev as m fun x m => truth x m fun r m => if goOn op r then b.one as m k else k (if x.b?.isSome then .s (.bit (some r)) else x) m,
  fun _ _ _ _ => false, fun as m l k => List.rec false (fun x l _ => a.tg as m (.s x) fun as m => b.tl as m l k) l, fun _ _ _ => false, fun as m k => a.st as m fun r as m => r.elim (b.ss as m k) fun v => k (some v) as m⟩
noncomputable def den (e : Tm) : Den :=
  Tm.rec (motive := fun _ => Den) none3 { none3 with ls := fun as m k => k [] m, al := fun op as m k => k (goOn op true) m, tl := fun as m l k => l.isEmpty && k as m, ss := fun as m k => k none as m }
    (fun _ b0 a b => consD b0 a b)
    (fun c _ _ => conD c) (fun x _ => nameD ns x) (fun _ op _ _ a b => binD t a op b) (fun op _ _ a => unaD op a) (fun op es _ d => booD op es d) (fun _ op _ _ a b => cmpD t a op b) (fun _ op _ op2 _ _ a b c => cmp2D t a op b op2 c) (fun _ _ _ _ c a b => ifeD c a b) (fun e _ _ d => tupD e d)
    (fun _ _ d => lstD t d) (fun _ _ _ o i => subD t o i) (fun _ a b c _ _ o da db dc => slcD t o a b c da db dc) (fun o a _ d => attrD t o d a) (fun f _ _ _ d => callD t ns f d) (fun o m ap es p d des => methD t ns o d m ap es des p)
    (fun g e _ dg de => asgD ns g e dg de none3) (fun _ _ _ _ c b s => iffD c b s) (fun _ _ d => stD fun as m k => d.ev as m fun v m => k (some v) as m) (fun _ => stD fun as m k => k (some (.s .non)) as m) (fun _ _ d => stD fun as m k => d.ev as m fun _ m => k none as m)
    (fun f _ _ _ _ d => raiD t ns f d) (fun g _ b _ _ it _ => froD lp g b it) (fun _ _ _ _ _ o a => deleD t o a) (fun g f _ _ b _ _ _ e _ => forRD ns lp g f e b) (fun f _ x _ y _ _ => isbD ns f x y) e
end
end Mine
end
section
set_option genCtorIdx false
namespace Mine

theorem no {P : Prop} (h : false = true) : P := Bool.noConfusion h
/-! what the evaluator allows is so -/
inductive GF (X : Nat → MV → Prop) : Option AV → Fl → Prop
  | next : GF X none .next
  | ret {a : AV} {v : MV} : GV X a v → GF X (some a) (.ret v)
section
variable (R : Wor) (w : R.W)
noncomputable def AfterL (k : List AV → Nat → Bool) (L : List MV → St → Prop) : Prop := ∀ l m w' vs σ, k l m = true → R.le w w' → R.I m w' σ → GL (R.X w') l vs → L vs σ
noncomputable def AfterE (S : Sc) (k : List AN → Nat → Bool) (L : Loc → St → Prop) : Prop := ∀ as m w' ws σ, k as m = true → R.le w w' → R.I m w' σ → GE (R.X w') as ws → L ⟨S, ws⟩ σ
noncomputable def AfterS (S : Sc) (k : Option AV → List AN → Nat → Bool) (K : Fl × Loc → St → Prop) : Prop := ∀ r as m w' ws σ f, k r as m = true → R.le w w' → R.I m w' σ → GE (R.X w') as ws → GF (R.X w') r f → K (f, ⟨S, ws⟩) σ
end
structure Snd (n : Nat) (R : Wor) (T : St → Prop) (S : Sc) (e : Tm) (d : Den) : Prop where
  ev : ∀ {as m k w σ ws Q}, d.ev as m k = true → R.I m w σ → GE (R.X w) as ws → After R w k Q → EvS n ⟨S, ws⟩ e.out.e σ Q T
  ts : ∀ {as m k w σ ws B}, d.ts as m k = true → R.I m w σ → GE (R.X w) as ws → AfterB R w k B → TstS n ⟨S, ws⟩ e.out.e σ B T
  ls : ∀ {as m k w σ ws L}, d.ls as m k = true → R.I m w σ → GE (R.X w) as ws → AfterL R w k L → EvLS n ⟨S, ws⟩ e.out.es σ L T
  al : ∀ {op as m k w σ ws B}, d.al op as m k = true → R.I m w σ → GE (R.X w) as ws → AfterB R w k B → AllS n ⟨S, ws⟩ op e.out.es σ B T
  one : ∀ {as m k w σ ws Q}, d.one as m k = true → R.I m w σ → GE (R.X w) as ws → After R w k Q → ∃ x, e.out.es = [x] ∧ EvS n ⟨S, ws⟩ x σ Q T
  two : ∀ {op as m k w σ ws Q}, d.two op as m k = true → R.I m w σ → GE (R.X w) as ws → After R w k Q → ∃ x y, e.out.es = [x, y] ∧ EvS n ⟨S, ws⟩ x σ (fun v σ => TrQ (fun t σ => Br (match op with | .And => t | .Or => !t) (EvS n ⟨S, ws⟩ y σ Q T) (Q v σ)) σ v) T
  tg : ∀ {as m v k w σ ws u L}, d.tg as m v k = true → R.I m w σ → GE (R.X w) as ws → GV (R.X w) v u → AfterE R w S k L → AsgS n ⟨S, ws⟩ e.out.e u σ L T
  tl : ∀ {as m l k w σ ws vs L}, d.tl as m l k = true → R.I m w σ → GE (R.X w) as ws → Gs (R.X w) l vs → AfterE R w S k L → AsgLS n ⟨S, ws⟩ e.out.es vs σ L T
  st : ∀ {as m k w σ ws K}, d.st as m k = true → R.I m w σ → GE (R.X w) as ws → AfterS R w S k K → ExS n ⟨S, ws⟩ e.out.s σ K T
  ss : ∀ {as m k w σ ws K}, d.ss as m k = true → R.I m w σ → GE (R.X w) as ws → AfterS R w S k K → ExLS n ⟨S, ws⟩ e.out.ss σ K T
section
variable {n : Nat} {R : Wor} {T : St → Prop} {S : Sc} {e : Tm} {d : Den}
theorem Snd.none : Snd n R T S e none3 := ⟨(fun h => no h), (fun h => no h), (fun h => no h), (fun h => no h), (fun h => no h), (fun h => no h), (fun h => no h), (fun h => no h), (fun h => no h), (fun h => no h)⟩
theorem Snd.ofV {f : List AN → Nat → KV → Bool} (he : ∀ env, isTrue e.out.e env (eval e.out.e env) = (do let v ← eval e.out.e env; standAt e.out.e.pos; holding [v] (truthy v)))
    (h : ∀ {as m k w σ ws Q}, f as m k = true → R.I m w σ → GE (R.X w) as ws → After R w k Q → EvS n ⟨S, ws⟩ e.out.e σ Q T) : Snd n R T S e (byV f) :=
  ⟨h, fun hh i g q => fun k w env => t_ev (he env) (h hh i g fun av m w' v σ hk l i g => truth_ok hk i g fun b m w'' σ hk l' i => q _ _ _ _ hk (R.trans l l') i), (fun h => no h), (fun h => no h), (fun h => no h), (fun h => no h), (fun h => no h), (fun h => no h), (fun h => no h), (fun h => no h)⟩
theorem Snd.ofVT {f : List AN → Nat → KV → Bool} {tf : List AN → Nat → AV → (List AN → Nat → Bool) → Bool} (he : ∀ env, isTrue e.out.e env (eval e.out.e env) = (do let v ← eval e.out.e env; standAt e.out.e.pos; holding [v] (truthy v)))
    (h : ∀ {as m k w σ ws Q}, f as m k = true → R.I m w σ → GE (R.X w) as ws → After R w k Q → EvS n ⟨S, ws⟩ e.out.e σ Q T)
    (ht : ∀ {as m v k w σ ws u L}, tf as m v k = true → R.I m w σ → GE (R.X w) as ws → GV (R.X w) v u → AfterE R w S k L → AsgS n ⟨S, ws⟩ e.out.e u σ L T) : Snd n R T S e { byV f with tg := tf } :=
  have b := Snd.ofV he h; ⟨b.ev, b.ts, (fun h => no h), (fun h => no h), (fun h => no h), (fun h => no h), ht, (fun h => no h), (fun h => no h), (fun h => no h)⟩
theorem Snd.ofE {f : List AN → Nat → KV → Bool} (h : ∀ {as m k w σ ws Q}, f as m k = true → R.I m w σ → GE (R.X w) as ws → After R w k Q → EvS n ⟨S, ws⟩ e.out.e σ Q T) : Snd n R T S e { none3 with ev := f } := ⟨h, (fun h => no h), (fun h => no h), (fun h => no h), (fun h => no h), (fun h => no h), (fun h => no h), (fun h => no h), (fun h => no h), (fun h => no h)⟩
theorem Snd.ofB {f : List AN → Nat → KB → Bool} (h : ∀ {as m k w σ ws B}, f as m k = true → R.I m w σ → GE (R.X w) as ws → AfterB R w k B → TstS n ⟨S, ws⟩ e.out.e σ B T) : Snd n R T S e { none3 with ts := f } := ⟨(fun h => no h), h, (fun h => no h), (fun h => no h), (fun h => no h), (fun h => no h), (fun h => no h), (fun h => no h), (fun h => no h), (fun h => no h)⟩
theorem After.bit {k : KV} {w : R.W} {Q : MV → St → Prop} (q : After R w k Q) : AfterB R w (bitK k) fun r σ => Q (.bool r) σ := fun b m w' σ hk l i => q _ _ _ _ _ hk l i (.s (.bit .of))
theorem After.le {k : KV} {w w' : R.W} {Q : MV → St → Prop} (q : After R w k Q) (l : R.le w w') : After R w' k Q := fun av m w'' v σ hk l' i g => q _ _ _ _ _ hk (R.trans l l') i g
theorem AfterB.le {k : KB} {w w' : R.W} {B : Bool → St → Prop} (q : AfterB R w k B) (l : R.le w w') : AfterB R w' k B := fun b m w'' σ hk l' i => q _ _ _ _ hk (R.trans l l') i
theorem AfterE.le {k : List AN → Nat → Bool} {w w' : R.W} {L : Loc → St → Prop} (q : AfterE R w S k L) (l : R.le w w') : AfterE R w' S k L := fun as m w'' ws σ hk l' i => q _ _ _ _ _ hk (R.trans l l') i
theorem AfterS.le {k : Option AV → List AN → Nat → Bool} {w w' : R.W} {K : Fl × Loc → St → Prop} (q : AfterS R w S k K) (l : R.le w w') : AfterS R w' S k K := fun r as m w'' ws σ f hk l' i => q _ _ _ _ _ _ _ hk (R.trans l l') i
theorem Snd.ofS {f : List AN → Nat → (Option AV → List AN → Nat → Bool) → Bool} (h : ∀ {as m k w σ ws K}, f as m k = true → R.I m w σ → GE (R.X w) as ws → AfterS R w S k K → ExS n ⟨S, ws⟩ e.out.s σ K T) : Snd n R T S e (stD f) :=
  ⟨(fun h => no h), (fun h => no h), (fun h => no h), (fun h => no h), (fun h => no h), (fun h => no h), (fun h => no h), (fun h => no h), h, (fun h => no h)⟩
end
theorem Gs.len {X : Nat → MV → Prop} {l : List A0} {vs : List MV} (g : Gs X l vs) : l.length = vs.length := by
  induction g with
  | nil => rfl
  | cons _ _ ih => exact congrArg (· + 1) ih
/-! values of constants -/
theorem A0.of_ok {X : Nat → MV → Prop} {v : MV} {a : A0} (h : A0.of v = some a) : G0 X a v := by
  cases v with
  | none => cases h; exact .non
  | bool b => cases h; exact .bit .of
  | int i => cases h; exact .int (.of (Int.le_refl _) (Int.le_refl _))
  | str s => cases h; exact .str
  | _ => cases h
theorem Gs.of {X : Nat → MV → Prop} {l : List MV} {as : List A0} (h : l.mapM A0.of = some as) : Gs X as l := by
  induction l generalizing as with
  | nil => cases h; exact .nil
  | cons v l ih =>
    rw [List.mapM_cons] at h
    obtain ⟨a, e, h⟩ := Option.bind_eq_some_iff.mp h
    obtain ⟨as', e', h⟩ := Option.bind_eq_some_iff.mp h
    cases h
    exact .cons (A0.of_ok e) (ih e')
theorem AV.of_ok {X : Nat → MV → Prop} {v : MV} {a : AV} (h : AV.of v = some a) : GV X a v := by
  cases v with
  | none => cases h; exact .s .non
  | bool b => cases h; exact .s (.bit .of)
  | int i => cases h; exact .s (.int (.of (Int.le_refl _) (Int.le_refl _)))
  | str s => cases h; exact .s .str
  | tup l =>
    obtain ⟨as, e, h⟩ := Option.map_eq_some_iff.mp h
    cases h
    exact .tup (.of e)
  | _ => cases h
theorem conV_ok {n : Nat} {ρ : Loc} {c : Const} {u : Nat} {p : Pos} {a : AV} {σ : St} {X : Nat → MV → Prop} {Q : MV → St → Prop} {T : St → Prop} (h : conV c = some a) (q : ∀ v, GV X a v → Q v σ) : EvS n ρ (.Constant c u p) σ Q T := by
  cases c with
  | none => cases h; exact e_none (q _ (.s .non))
  | bool b => cases h; exact e_cb (q _ (.s (.bit .of)))
  | int i => cases h; exact e_int (q _ (.s (.int (.of (Int.le_refl _) (Int.le_refl _)))))
  | str s => cases h; exact e_str (q _ (.s .str))
  | _ => cases h
section
variable {n : Nat} {R : Wor} {T : St → Prop} {S : Sc} {t : Tab} {σ : St} {w : R.W} {m : Nat} {as : List AN} {ws : List Nm} {Q : MV → St → Prop} {p : Pos} {x : Str}
theorem nameV_ok {k : KV} (h : nameV x (lookN x S.ns as) m k = true) (i : R.I m w σ) (g : GE (R.X w) as ws) (q : After R w k Q) : EvS n ⟨S, ws⟩ (.Name x p) σ Q T := by
  refine orE h (fun h => ?_) fun h => orE h (fun h => ?_) fun h => ?_
  · obtain ⟨a, e, h⟩ := anyO h
    obtain ⟨v, hv, gv⟩ := g.val e
    exact e_name hv (q _ _ _ _ _ h (R.refl _) i gv)
  · obtain ⟨a, e, h⟩ := anyO h
    obtain ⟨v, hv, gv⟩ := g.cell e
    exact e_cell hv (q _ _ _ _ _ h (R.refl _) i gv)
  · rw [Bool.and_eq_true] at h
    obtain ⟨v, e, hh⟩ := anyO h.2
    obtain ⟨a, ea, hh⟩ := anyO hh
    exact e_glob (g.gl h.1) e (q _ _ _ _ _ hh (R.refl _) i (AV.of_ok ea))
theorem allA_ok {X : Nat → MV → Prop} {l : List AV} {as : List A0} {vs : List MV} (h : allA l = some as) (g : GL X l vs) : Gs X as vs ∧ as.length = vs.length := by
  induction g generalizing as with
  | nil => cases h; exact ⟨.nil, rfl⟩
  | @cons a v l vs g _ ih =>
    obtain ⟨b, e, h⟩ := Option.bind_eq_some_iff.mp h
    obtain ⟨bs, e', h⟩ := Option.map_eq_some_iff.mp h
    cases h
    obtain ⟨i1, i2⟩ := ih e'
    cases g with
    | tup _ => cases e
    | s g => cases e; exact ⟨.cons g i1, congrArg (· + 1) i2⟩
end
end Mine
end
section
namespace Mine

section
variable {n : Nat} {R : Wor} {T : St → Prop} {S : Sc} {t : Tab} {a b c o e es i : Tm} {da db dc do' di de : Den} {p : Pos}
theorem cuts_ok {X : Nat → MV → Prop} {x : Str} {v : AV} {u : MV} (g : GV X v u) : ∃ v' ∈ cuts x v, GV X v' u := by
  have same : ∃ v' ∈ [v], GV X v' u := ⟨v, .head _, g⟩
  unfold cuts
  by_cases c : x = ("address" : Str)
  · rw [if_pos c]
    cases e : v.i? with
    | none => exact same
    | some r =>
      show ∃ v' ∈ (if r = some (0, 4294967295) then _ else _), _
      by_cases d : r = some (0, 4294967295)
      · rw [if_pos d]
        obtain ⟨z, rfl, iz⟩ := AV.iE e g
        obtain ⟨z0, z1⟩ := iz _ d
        have pc : ∀ {lo hi : Int}, lo ≤ z → z ≤ hi → GV X (.int lo hi) (.int z) := fun h h' => .s (.int (.of h h'))
        by_cases c1 : z ≤ 4095
        · exact ⟨_, .head _, pc z0 c1⟩
        by_cases c2 : z ≤ 4220
        · exact ⟨_, .tail _ (.head _), pc (Int.not_le.mp c1) c2⟩
        by_cases c3 : z ≤ 4222
        · exact ⟨_, .tail _ (.tail _ (.head _)), pc (Int.not_le.mp c2) c3⟩
        by_cases c4 : z ≤ 4223
        · exact ⟨_, .tail _ (.tail _ (.tail _ (.head _))), pc (Int.not_le.mp c3) c4⟩
        · exact ⟨_, .tail _ (.tail _ (.tail _ (.tail _ (.head _)))), pc (Int.not_le.mp c4) z1⟩
      · rw [if_neg d]; exact same
  · rw [if_neg c]; exact same
theorem snd_name {x : Str} : Snd n R T S (.name x p) (nameD S.ns x) :=
  .ofVT (fun _ => rfl) (fun h i g q => nameV_ok h i g q) fun {as m v k w σ ws u L} h i g gv q => by
    rw [Bool.and_eq_true] at h
    obtain ⟨v', hv, gv⟩ := cuts_ok (x := x) gv
    obtain ⟨ws', hu, g'⟩ := g.put h.1 gv
    exact a_name hu (q _ _ _ _ _ (List.all_eq_true.mp h.2 v' hv) (R.refl _) i g')
theorem snd_bin {op : Operator} (ok : TabOk n R T t) (ha : Snd n R T S a da) (hb : Snd n R T S b db) : Snd n R T S (.bin a op b p) (binD t da op db) := .ofV (fun _ => rfl) fun h i g q =>
  e_bin (ha.ev h i g fun x m w' v σ h l i gx => hb.ev h i (g.mono (R.up l)) fun y m w'' u σ h l' i gy => binV_ok ok h i (gx.mono (R.up l')) gy ((q.le l).le l'))
theorem snd_una {op : UnaryOp} (ha : Snd n R T S a da) : Snd n R T S (.una op a p) (unaD op da) := by
  cases op with
  | USub => exact .ofV (fun _ => rfl) fun h i g q => e_neg (ha.ev h i g fun x m w' v σ h l i gx => by
      obtain ⟨r, e, h⟩ := anyO h
      obtain ⟨z, rfl, iz⟩ := AV.iE e gx
      refine ⟨z, rfl, q.le l _ _ _ _ _ h (R.refl _) i (.s (.int fun p' e' => ?_))⟩
      obtain ⟨p, rfl, rfl⟩ := Option.map_eq_some_iff.mp e'
      exact ⟨Int.neg_le_neg (iz p rfl).2, Int.neg_le_neg (iz p rfl).1⟩)
  | Invert => exact .ofV (fun _ => rfl) fun h i g q => e_inv (ha.ev h i g fun x m w' v σ h l i gx => by
      obtain ⟨r, e, h⟩ := anyO h
      obtain ⟨z, rfl, iz⟩ := AV.iE e gx
      exact ⟨z, rfl, q.le l _ _ _ _ _ h (R.refl _) i (.s (.int .any))⟩)
  | Not => exact .ofB fun h i g q => t_not (ha.ts h i g fun b m w' σ h l i => q.le l _ _ _ _ h (R.refl _) i)
  | _ => exact .none
theorem snd_boo {op : BoolOp} (ha : Snd n R T S a da) : Snd n R T S (.boo op a p) (booD op a da) := ⟨fun h i g q => by
    obtain ⟨x, y, e, h⟩ := ha.two h i g q
    show EvS n _ (.BoolOp op a.out.es p) _ _ _
    rw [e]
    exact bool_two h, fun h i g q => t_boolop (ha.al h i g q), (fun h => no h), (fun h => no h), (fun h => no h), (fun h => no h), (fun h => no h), (fun h => no h), (fun h => no h), (fun h => no h)⟩
theorem snd_cmp {op : CmpOp} (ok : TabOk n R T t) (ha : Snd n R T S a da) (hb : Snd n R T S b db) : Snd n R T S (.cmp a op b p) (cmpD t da op db) :=
  ⟨fun h i g q => e_cmp (b.marks op) (ha.ev h i g fun x m w' v σ h l i gx => hb.ev h i (g.mono (R.up l)) fun y m w'' u σ h l' i gy => cmpV_ok ok h i (gx.mono (R.up l')) gy ((q.le l).le l').bit),
  fun h i g q => t_cmp (b.marks op) (ha.ev h i g fun x m w' v σ h l i gx => hb.ev h i (g.mono (R.up l)) fun y m w'' u σ h l' i gy => cmpV_ok ok h i (gx.mono (R.up l')) gy ((q.le l).le l')), (fun h => no h), (fun h => no h), (fun h => no h), (fun h => no h), (fun h => no h), (fun h => no h), (fun h => no h), (fun h => no h)⟩
theorem snd_cmp2 {op op2 : CmpOp} (ok : TabOk n R T t) (ha : Snd n R T S a da) (hb : Snd n R T S b db) (hc : Snd n R T S c dc) : Snd n R T S (.cmp2 a op b op2 c p) (cmp2D t da op db op2 dc) := .ofE fun h i g q =>
  e_cmp2 (c.marks op2) (ha.ev h i g fun x m w1 v σ h l1 i gx => hb.ev h i (g.mono (R.up l1)) fun y m w2 u σ h l2 i gy => cmpV_ok ok h i (gx.mono (R.up l2)) gy fun r m w3 σ h l3 i => by
    have q := ((q.le l1).le l2).le l3
    cases r with
    | true => exact ⟨fun _ => hc.ev h i (((g.mono (R.up l1)).mono (R.up l2)).mono (R.up l3)) fun z m w4 v σ h l4 i gz => cmpV_ok ok h i ((gy.mono (R.up l3)).mono (R.up l4)) gz (q.le l4).bit, (fun h => no h.symm)⟩
    | false => exact ⟨(fun h => no h), fun _ => q.bit _ _ _ _ h (R.refl _) i⟩)
theorem snd_ife (hc : Snd n R T S c dc) (ha : Snd n R T S a da) (hb : Snd n R T S b db) : Snd n R T S (.ife c a b p) (ifeD dc da db) := .ofE fun h i g q =>
  e_if (hc.ts h i g fun r m w1 σ h l i => by
    cases r with
    | true => exact ⟨fun _ => ha.ev h i (g.mono (R.up l)) (q.le l), (fun h => no h.symm)⟩
    | false => exact ⟨(fun h => no h), fun _ => hb.ev h i (g.mono (R.up l)) (q.le l)⟩)
theorem snd_tup {u : Nat} (ha : Snd n R T S a da) : Snd n R T S (.tup a u p) (tupD a da) :=
  .ofVT (fun _ => rfl) (fun h i g q => e_tup (ha.ls h i g fun l m w' vs σ h l' i gl => by
    obtain ⟨as, e, h⟩ := anyO h
    rw [Bool.and_eq_true, decide_eq_true_eq] at h
    obtain ⟨g1, g2⟩ := allA_ok e gl
    exact ⟨g2 ▸ Nat.le_trans h.1 (by decide), q.le l' _ _ _ _ _ h.2 (R.refl _) i (.tup g1)⟩)) fun {as m v k w σ ws u L} h i g gv q => by
    obtain ⟨l, e, h⟩ := anyO h
    obtain ⟨vs, rfl, gl⟩ := AV.tE e gv
    rw [Bool.and_eq_true, decide_eq_true_eq] at h
    exact a_tup a.stars (h.1.trans gl.len) (ha.tl h.2 i g gl q)
theorem snd_lst (ok : TabOk n R T t) (ha : Snd n R T S a da) : Snd n R T S (.lst a p) (lstD t da) := .ofV (fun _ => rfl) fun h i g q =>
  e_list (ha.ls h i g fun l m w' vs σ h l' i gl => ok.op h i gl (q.le l'))
theorem snd_sub (ok : TabOk n R T t) (ho : Snd n R T S o do') (hi : Snd n R T S i di) : Snd n R T S (.sub o i p) (subD t do' di) :=
  .ofVT (fun _ => rfl) (fun h i g q => e_sub (ho.ev h i g fun x m w' v σ h l i gx => hi.ev h i (g.mono (R.up l)) fun y m w'' u σ h l' i gy => itemV_ok ok h i (gx.mono (R.up l')) gy ((q.le l).le l'))) fun h i g gv q =>
  a_sub (ho.ev h i g fun x m w' v σ h l i gx => hi.ev h i (g.mono (R.up l)) fun y m w'' u σ h l' i gy => ok.op (Q := fun _ σ => _) h i (.cons (gx.mono (R.up l')) (.cons gy (.cons (gv.mono fun k v z => R.up l' _ _ (R.up l _ _ z)) .nil))) (fun av m w3 v σ hk l3 i _ => (((q.le l).le l').le l3) _ _ _ _ _ hk (R.refl _) i (((g.mono (R.up l)).mono (R.up l')).mono (R.up l3))))
end
end Mine
end
section
namespace Mine

section
variable {n : Nat} {R : Wor} {T : St → Prop} {S : Sc} {t : Tab} {a b c o e es i : Tm} {da db dc do' di de : Den} {p : Pos}
theorem GV.up2 {w w' w'' : R.W} {x : AV} {v : MV} (g : GV (R.X w) x v) (l : R.le w w') (l' : R.le w' w'') : GV (R.X w'') x v := g.mono fun k v z => R.up l' _ _ (R.up l _ _ z)
theorem GE.up {w w' : R.W} {as : List AN} {ws : List Nm} (g : GE (R.X w) as ws) (l : R.le w w') : GE (R.X w') as ws := g.mono (R.up l)
theorem snd_slc {sp : Pos} (ok : TabOk n R T t) (ho : Snd n R T S o do') (ha : Snd n R T S a da) (hb : Snd n R T S b db) (hc : Snd n R T S c dc) (oa : a.out.o = none ∨ a.out.o = some a.out.e) (ob : b.out.o = none ∨ b.out.o = some b.out.e) (oc : c.out.o = none ∨ c.out.o = some c.out.e) :
    Snd n R T S (.slc o a b c sp p) (slcD t do' a b c da db dc) :=
  .ofVT (fun _ => rfl) (fun {as m k w σ ws Q} h i g q => by
    show EvS n _ (.Subscript o.out.e (.Slice a.out.o b.out.o c.out.o sp) p) _ _ _
    refine e_slice (ho.ev h i g fun x m w' v σ h l i gx => ?_)
    have g1 := g.up l
    show OptS n _ a.out.o _ (fun a σ => OptS n _ b.out.o σ (fun b σ => OptS n _ c.out.o σ (fun c σ => SliceS v a b c σ Q T) T) T) T
    rcases oa with ea | ea <;> rcases ob with eb | eb <;> rcases oc with ec | ec <;> rw [ea, eb, ec] at h ⊢
    · cases h
    · exact o_none (o_none (o_some (hc.ev h i g1 fun y m w'' u σ h l' i gy => ok.op h i (.cons (gx.mono (R.up l')) (.cons gy .nil)) ((q.le l).le l'))))
    · exact o_none (o_some (hb.ev h i g1 fun y m w'' u σ h l' i gy => o_none (slcV_ok ok h i (gx.mono (R.up l')) gy ((q.le l).le l'))))
    · cases h
    · exact o_some (ha.ev h i g1 fun y m w'' u σ h l' i gy => o_none (o_none (ok.op h i (.cons (gx.mono (R.up l')) (.cons gy .nil)) ((q.le l).le l'))))
    · cases h
    · exact o_some (ha.ev h i g1 fun y m w'' u σ h l' i gy => o_some (hb.ev h i (g1.up l') fun z m w3 u σ h l3 i gz => o_none (ok.op h i (.cons (gx.up2 l' l3) (.cons (gy.mono (R.up l3)) (.cons gz .nil))) (((q.le l).le l').le l3))))
    · cases h) fun {as m v k w σ ws u L} h i g gv q => by
    rw [Bool.and_eq_true, Bool.and_eq_true, Bool.and_eq_true] at h
    obtain ⟨ha', hb', hc', h⟩ := h
    have ea : a.out.o = some a.out.e := oa.resolve_left fun e => by rw [e] at ha'; cases ha'
    have eb : b.out.o = some b.out.e := ob.resolve_left fun e => by rw [e] at hb'; cases hb'
    have ec : c.out.o = none := oc.resolve_right fun e => by rw [e] at hc'; cases hc'
    show AsgS n _ (.Subscript o.out.e (.Slice a.out.o b.out.o c.out.o sp) p) _ _ _ _
    rw [ea, eb, ec]
    exact a_slice (ho.ev h i g fun x m w1 v σ h l1 i gx => ha.ev h i (g.up l1) fun y m w2 u σ h l2 i gy => hb.ev h i ((g.up l1).up l2) fun z m w3 u' σ h l3 i gz => ok.op (Q := fun _ σ => _) h i (.cons (gx.up2 l2 l3) (.cons (gy.mono (R.up l3)) (.cons gz (.cons (gv.mono fun k v z => R.up l3 _ _ (R.up l2 _ _ (R.up l1 _ _ z))) .nil)))) (fun av m w4 v σ hk l4 i _ => ((((q.le l1).le l2).le l3).le l4) _ _ _ _ _ hk (R.refl _) i ((((g.up l1).up l2).up l3).up l4)))
theorem snd_attr {x : Str} (ok : TabOk n R T t) (ho : Snd n R T S o do') : Snd n R T S (.attr o x p) (attrD t o do' x) :=
  .ofVT (fun _ => rfl) (fun h i g q => by
    rw [Bool.and_eq_true] at h
    show EvS n _ (.Attribute o.out.e x p) _ _ _
    exact e_attr h.1 (ho.ev h.2 i g fun x m w' v σ h l i gx => ok.op h i (.cons gx .nil) (q.le l))) fun h i g gv q => by
  show AsgS n _ (.Attribute o.out.e x p) _ _ _ _
  refine a_attr (ho.ev h i g fun x m w' v σ h l i gx => ?_)
  exact ok.op (Q := fun _ σ => _) h i (.cons gx (.cons (gv.mono (R.up l)) .nil)) (fun av m w3 v σ hk l3 i _ => ((q.le l).le l3) _ _ _ _ _ hk (R.refl _) i ((g.up l).up l3))
theorem snd_call {f : Str} {fp : Pos} (ok : TabOk n R T t) (he : Snd n R T S es de) : Snd n R T S (.call f fp es p) (callD t S.ns f de) := .ofV (fun _ => rfl) fun {as m k w σ ws Q} h i g q => by
  show EvS n _ (.Call (.Name f fp) es.out.es [] p) _ _ _
  rw [Bool.and_eq_true] at h
  obtain ⟨hg, h⟩ := h
  have hgl := g.gl hg
  cases e : FT "" f with
  | some d =>
    rw [e] at h
    refine e_call es.stars hgl e (he.ls h i g fun l m w' vs σ h l' i gl => ?_)
    exact (ok.op h i gl (q.le l')).2
  | none =>
    rw [e] at h
    have h : ((blts.lookup f).isSome && de.ls as m fun l m => t.op (.blt f) l m k) = true := h
    rw [Bool.and_eq_true] at h
    obtain ⟨V, eV⟩ := Option.isSome_iff_exists.mp h.1
    have hm : (f, V) ∈ blts := mem_of_lookup eV
    have hk : ∀ p ∈ blts, (∃ id, p.2 = .builtin id) ∨ ∃ Ty, p.2 = .type Ty := by
      unfold blts
      simp only [List.forall_mem_cons]
      exact ⟨.inl ⟨_, rfl⟩, .inr ⟨_, rfl⟩, .inl ⟨_, rfl⟩, .inr ⟨_, rfl⟩, .inr ⟨_, rfl⟩, .inr ⟨_, rfl⟩, .inr ⟨_, rfl⟩, .inr ⟨_, rfl⟩, .inl ⟨_, rfl⟩, .inr ⟨_, rfl⟩, nofun⟩
    refine e_blt es.stars hgl hm (hk _ hm) (he.ls h.2 i g fun l m w' vs σ h l' i gl => ?_)
    exact (ok.op h i gl (q.le l')) V eV
theorem snd_meth {x : Str} {ap : Pos} (ok : TabOk n R T t) (ho : Snd n R T S o do') (he : Snd n R T S es de) : Snd n R T S (.meth o x ap es p) (methD t S.ns o do' x ap es de p) := .ofV (fun _ => rfl) fun {as m k w σ ws Q} h i g q => by
  show EvS n _ (.Call (.Attribute o.out.e x ap) es.out.es [] p) _ _ _
  rw [Bool.and_eq_true, Bool.and_eq_true, decide_eq_true_eq, decide_eq_true_eq] at h
  obtain ⟨h1, h2, h⟩ := h
  by_cases c : x = ("from_bytes" : Str)
  · rw [if_pos c] at h
    obtain ⟨⟨y, yp⟩, e, h⟩ := anyO h
    rw [Bool.and_eq_true, Bool.and_eq_true] at h
    show EvS n _ (.Call (.Attribute o.out.e x ap) es.out.es [] p) _ _ _
    rw [o.nm_ok.1 _ _ e]
    refine e_frombytes (of_decide_eq_true h.1) c h1 h2 es.stars (g.gl h.2.1) (he.ls h.2.2 i g fun l m w' vs σ h l' i gl => ?_)
    exact ok.op h i gl (q.le l')
  · rw [if_neg c, Bool.and_eq_true] at h
    refine e_meth h1 h2 es.stars h.1 (ho.ev h.2 i g fun z m w' v σ h l i gz => orE h (fun h => ?_) fun h => ?_)
    · obtain ⟨cl, ec, h⟩ := anyO h
      obtain ⟨j, fl, d, rfl, a1, a2, a3, a4⟩ := ok.own ec i gz
      exact .own a1 a2 a3 a4 (he.ls h i (g.up l) fun l' m w'' vs σ h l2 i gl => (ok.op h i (.cons (gz.mono (R.up l2)) gl) ((q.le l).le l2)).2)
    · obtain ⟨id, ec, h⟩ := anyO h
      exact .blt (ok.met ec i gz) (he.ls h i (g.up l) fun l' m w'' vs σ h l2 i gl => ok.op h i (.cons (gz.mono (R.up l2)) gl) ((q.le l).le l2))
end
end Mine
end
section
namespace Mine

section
variable {n : Nat} {R : Wor} {T : St → Prop} {S : Sc} {t : Tab} {a b c o e es i g : Tm} {da db dc do' di de dg : Den} {p : Pos}
theorem br_on {op : BoolOp} {r : Bool} {A B : Prop} (h : Br (goOn op r) A B) : Br (match (generalizing := false) op with | .And => r | .Or => !r) A B := by cases op <;> exact h
theorem Br.of {c : Bool} {f : Bool → Bool} {A B : Prop} {x y : Bool} (h : (if c then x else y) = true) (t : x = true → A) (e : y = true → B) : Br c A B := by
  cases c with
  | true => exact ⟨fun _ => t h, (fun h => no h.symm)⟩
  | false => exact ⟨(fun h => no h), fun _ => e h⟩
theorem snd_nil : Snd n R T S .nil { none3 with ls := fun as m k => k [] m, al := fun op as m k => k (goOn op true) m, tl := fun as m l k => l.isEmpty && k as m, ss := fun as m k => k none as m } where
  ev := (fun h => no h)
  ts := (fun h => no h)
  ls := fun h i g q => l_nil (q _ _ _ _ _ h (R.refl _) i .nil)
  al := fun {op as m k w σ ws B} h i g q => all_nil (by cases op <;> exact q _ _ _ _ h (R.refl _) i)
  one := (fun h => no h)
  two := (fun h => no h)
  tg := (fun h => no h)
  tl := fun {as m l k w σ ws vs L} h i g gl q => by
    rw [Bool.and_eq_true] at h
    cases gl with
    | nil => exact al_nil (q _ _ _ _ _ h.2 (R.refl _) i g)
    | cons _ _ => cases h.1
  st := (fun h => no h)
  ss := fun h i g q => x_nil (q _ _ _ _ _ _ _ h (R.refl _) i g .next)
theorem snd_cons (ha : Snd n R T S a da) (hb : Snd n R T S b db) : Snd n R T S (.cons a b) (consD b da db) where
  ev := (fun h => no h)
  ts := (fun h => no h)
  ls := fun h i g q => l_cons a.star (ha.ev h i g fun x m w' v σ h l i gx => hb.ls h i (g.up l) fun xs m w'' vs σ h l' i gl => q _ _ _ _ _ h (R.trans l l') i (.cons (gx.mono (R.up l')) gl))
  al := fun {op as m k w σ ws B} h i g q => all_cons (ha.ts h i g fun r m w' σ h l i => br_on (.of (f := id) h (fun h => hb.al h i (g.up l) (q.le l)) fun h => q.le l _ _ _ _ h (R.refl _) i))
  one := fun {as m k w σ ws Q} h i g q => by
    have h : (b.out.es.isEmpty && da.ev as m k) = true := h
    rw [Bool.and_eq_true] at h
    refine ⟨a.out.e, ?_, ha.ev h.2 i g q⟩
    show a.out.e :: b.out.es = _
    rw [List.isEmpty_iff.mp h.1]
  two := fun {op as m k w σ ws Q} h i g q => by
    have h : (decide (b.out.es.length = 1) && da.ev as m fun x m => truth x m fun r m => if goOn op r then db.one as m k else k (if x.b?.isSome then .s (.bit (some r)) else x) m) = true := h
    rw [Bool.and_eq_true, decide_eq_true_eq] at h
    obtain ⟨y, ey⟩ := List.length_eq_one_iff.mp h.1
    refine ⟨a.out.e, y, ?_, ha.ev h.2 i g fun x m w' v σ h l i gx => ?_⟩
    · show a.out.e :: b.out.es = _
      rw [ey]
    have go : ∀ {r m}, GV (R.X w') (if x.b?.isSome then .s (.bit (some r)) else x) v → (if goOn op r then db.one as m k else k (if x.b?.isSome then .s (.bit (some r)) else x) m) = true → R.I m w' σ → Br (match (generalizing := false) op with | .And => r | .Or => !r) (EvS n ⟨S, ws⟩ y σ Q T) (Q v σ) := fun gx h i =>
      br_on (.of (f := id) h (fun h => by
        obtain ⟨z, ez, hz⟩ := hb.one h i (g.up l) (q.le l)
        rw [ey] at ez
        cases ez
        exact hz) fun h => q.le l _ _ _ _ _ h (R.refl _) i gx)
    refine orE h (fun h => ?_) fun h => ?_
    · obtain ⟨o, e, h⟩ := anyO h
      obtain ⟨r, rfl, ir⟩ := AV.bE e gx
      have h := fork_ok h ir
      rw [e] at h go
      exact .bool (go (.s (.bit .of)) h i)
    · obtain ⟨o, e, h⟩ := anyO h
      obtain ⟨z, rfl, iz⟩ := AV.iE e gx
      have h := fork_ok h (eqO_ok iz (.of (Int.le_refl _) (Int.le_refl _))).not
      have eb : x.b? = none := by
        cases x with
        | tup _ => rfl
        | s x0 => cases x0 with
          | bit _ => cases e
          | _ => rfl
      rw [eb] at h go
      exact .int (go gx h i)
  tg := (fun h => no h)
  tl := fun {as m l k w σ ws vs L} h i g gl q => by
    cases gl with
    | nil => cases h
    | cons gx gl => exact al_cons (ha.tg h i g (.s gx) fun as m w' ws σ h l i g' => hb.tl h i g' (gl.mono (R.up l)) (q.le l))
  st := (fun h => no h)
  ss := fun h i g q => x_cons (ha.st h i g fun r as m w' ws' σ f h l i g' gf => by
    cases gf with
    | next => exact hb.ss h i g' (q.le l)
    | ret gv => exact q.le l _ _ _ _ _ _ _ h (R.refl _) i g' (.ret gv))
end
end Mine
end
section
namespace Mine

section
variable {n : Nat} {R : Wor} {T : St → Prop} {S : Sc} {t : Tab} {a b c e es it g : Tm} {da db dc de dg di : Den} {p : Pos} {lp : Tm → Den}
theorem puts_ok {X : Nat → MV → Prop} {ns xs : List Str} {vs : List A0} {us : List MV} {as as' : List AN} {ws : List Nm} (h : putNs ns xs vs as = some as') (gv : Gs X vs us) (ge : GE X as ws) : ∃ ws', Ups ns ws xs us ws' ∧ GE X as' ws' := by
  induction xs generalizing vs us as ws with
  | nil =>
    cases gv with
    | nil => cases h; exact ⟨_, .nil, ge⟩
    | cons _ _ => cases h
  | cons x xs ih =>
    cases gv with
    | nil => cases h
    | @cons v u vs us gu gv =>
      have h : (if (lookN x ns as).isLo then putNs ns xs vs (putN x (.s v) ns as) else none) = some as' := h
      by_cases q : (lookN x ns as).isLo = true
      · rw [if_pos q] at h
        obtain ⟨ws1, hu, g1⟩ := ge.put q (.s gu)
        obtain ⟨ws2, hs, g2⟩ := ih h gv g1
        exact ⟨ws2, .cons hu hs, g2⟩
      · rw [if_neg q] at h; cases h
theorem Gs.rev {X : Nat → MV → Prop} {l : List A0} {vs : List MV} (gl : Gs X l vs) : Gs X l.reverse vs.reverse := by
  have app : ∀ {l l' : List A0} {vs vs' : List MV}, Gs X l vs → Gs X l' vs' → Gs X (l ++ l') (vs ++ vs') := fun h h' => by
    induction h with
    | nil => exact h'
    | cons q _ ih => exact .cons q ih
  induction gl with
  | nil => exact .nil
  | cons q _ ih =>
    rw [List.reverse_cons, List.reverse_cons]
    exact app ih (.cons q .nil)
theorem snd_asg (hg : Snd n R T S g dg) (he : Snd n R T S e de) : Snd n R T S (.asg g e p) (asgD S.ns g e dg de none3) := .ofS fun {as m k w σ ws K} h i ge q => by
  have step : Straight g.out.e e.out.e → (de.ev as m fun v m => dg.tg as m v fun as m => k none as m) = true → ExS n ⟨S, ws⟩ (.Assign [g.out.e] e.out.e p) σ K T := fun hs h =>
    x_assign g.star hs (he.ev h i ge fun v m w' u σ h l i gv => hg.tg h i (ge.up l) gv fun as m w'' ws σ h l' i g' => (q.le l).le l' _ _ _ _ _ _ _ h (R.refl _) i g' .next)
  by_cases c : (decide (g.kind = 0) || decide (e.kind = 3) || (decide (g.kind = 1) && decide (e.kind = 1) && (e.sub1.out.es.all (foldedForSure 8) || (g.sub1.subs.2 && !g.sub1.out.es.isEmpty)))) = true
  · have h := (if_pos c).symm.trans h
    rw [Bool.or_eq_true, Bool.or_eq_true, Bool.and_eq_true, Bool.and_eq_true, decide_eq_true_eq, decide_eq_true_eq, decide_eq_true_eq, decide_eq_true_eq] at c
    rcases c with (c | c) | c
    · exact step (Tm.str0 c) h
    · exact step (Tm.str3 c) h
    · refine orE c.2 (fun d => step (Tm.str1 c.1.1 c.1.2 d) h) fun d => ?_
      have d := Bool.and_eq_true_iff.mp d
      exact step (Tm.str4 c.1.1 c.1.2 d.1 fun e => by rw [e] at d; exact no d.2) h
  · have h := (if_neg c).symm.trans h
    rw [Bool.and_eq_true, Bool.and_eq_true, decide_eq_true_eq, decide_eq_true_eq] at h
    obtain ⟨h1, h2, h⟩ := h
    obtain ⟨⟨xs, ps⟩, en, h⟩ := anyO h
    rw [Bool.and_eq_true] at h
    obtain ⟨u, p1, e1⟩ := g.isTup h1
    obtain ⟨u', p2, e2⟩ := e.isTup h2
    have he' := fun Q hh => he.ev (Q := Q) h.2 i ge hh
    show ExS n _ (.Assign [g.out.e] e.out.e p) _ _ _
    rw [e1]
    rw [e2] at he' ⊢
    refine x_swap (g.sub1.nm_ok.2 _ _ en) h.1 (he' _ fun v m w' u σ h l i gv => ?_)
    obtain ⟨l0, et, h⟩ := anyO h
    rw [Bool.and_eq_true, decide_eq_true_eq] at h
    obtain ⟨us, rfl, gl⟩ := AV.tE et gv
    obtain ⟨as', ea, h'⟩ := anyO h.2
    obtain ⟨ws', hu, g'⟩ := puts_ok ea gl.rev (ge.up l)
    exact ⟨us, ws', rfl, gl.len.symm.trans h.1, hu, q.le l _ _ _ _ _ _ _ h' (R.refl _) i g' .next⟩
theorem snd_iff (hc : Snd n R T S c dc) (ha : Snd n R T S a da) (hb : Snd n R T S b db) : Snd n R T S (.iff c a b p) (iffD dc da db) := .ofS fun h i g q => x_if (hc.ts h i g fun r m w' σ h l i => .of (f := id) h (fun h => ha.ss h i (g.up l) (q.le l)) fun h => hb.ss h i (g.up l) (q.le l))
theorem snd_ret (ha : Snd n R T S a da) : Snd n R T S (.ret a p) (stD fun as m k => da.ev as m fun v m => k (some v) as m) := .ofS fun h i g q => x_ret (ha.ev h i g fun v m w' u σ h l i gv => q.le l _ _ _ _ _ _ _ h (R.refl _) i (g.up l) (.ret gv))
theorem snd_ret0 : Snd n R T S (.ret0 p) (stD fun as m k => k (some (.s .non)) as m) := .ofS fun h i g q => x_ret0 (q _ _ _ _ _ _ _ h (R.refl _) i g (.ret (.s .non)))
theorem snd_exp (ha : Snd n R T S a da) : Snd n R T S (.exp a p) (stD fun as m k => da.ev as m fun _ m => k none as m) := .ofS fun h i g q => x_expr (fun env t j => a.comp t j env) (ha.ev h i g fun v m w' u σ h l i gv => q.le l _ _ _ _ _ _ _ h (R.refl _) i (g.up l) .next)
theorem snd_rai {f : Str} {fp cp : Pos} (ok : TabOk n R T t) (ha : Snd n R T S es de) : Snd n R T S (.rai f fp es cp p) (raiD t S.ns f de) := .ofS fun {as m k w σ ws K} h i g q => by
  rw [Bool.and_eq_true, Bool.and_eq_true] at h
  refine x_raise (of_decide_eq_true h.1) es.stars (g.gl h.2.1) (ha.ls h.2.2 i g fun l m w' vs σ h l' i gl => ?_)
  rw [Bool.and_eq_true, decide_eq_true_eq] at h
  have : ∀ {l : List AV} {vs : List MV}, GL (R.X w') l vs → l.length = vs.length := fun h => by
    induction h with
    | nil => rfl
    | cons _ _ ih => exact congrArg (· + 1) ih
  exact ⟨(this gl).symm.trans h.1, ok.trap h.2 i⟩
theorem Tm.fold (t : Tm) (env : Env) (x : Value) : foldedSetIterable t.out.e env x = pure x := by cases t <;> rfl
theorem loop_ok (hg : Snd n R (fun _ => False) S g (lp g)) (hb : Snd n R (fun _ => False) S b (lp b)) {k : Option AV → List AN → Nat → Bool} {K : Fl × Loc → St → Prop} : ∀ {l : List A0} {us pre : List MV} {fuel m : Nat} {as : List AN} {ws : List Nm} {w : R.W} {σ : St}, l.length < fuel → loopV (lp g) (lp b) l as m k = true → R.I m w σ → GE (R.X w) as ws → Gs (R.X w) l us → AfterS R w S k K →
    LoopS (turn n g.out.e b.out.ss) (nxTup (pre ++ us)) K fuel pre.length ⟨S, ws⟩ σ := fun {l} => by
  induction l with
  | nil =>
    intro us pre fuel m as ws w σ hf h i ge gl q
    cases gl
    cases fuel with
    | zero => cases hf
    | succ fuel =>
      unfold LoopS nxTup
      rw [List.append_nil, List.getElem?_eq_none (Nat.le_refl _)]
      exact q _ _ _ _ _ _ _ h (R.refl _) i ge .next
  | cons x l ih =>
    intro us pre fuel m as ws w σ hf h i ge gl q
    cases gl with | @cons _ v _ us gx gl =>
    cases fuel with
    | zero => cases hf
    | succ fuel =>
      unfold LoopS nxTup
      rw [List.getElem?_append_right (Nat.le_refl _), Nat.sub_self]
      show turn n g.out.e b.out.ss _ v σ _
      refine hg.tg h i ge (.s gx) fun as m w1 ws σ h l1 i ge => hb.ss h i ge fun r as m w2 ws σ f h l2 i ge gf => ?_
      cases gf with
      | next =>
        have := ih (us := us) (pre := pre ++ [v]) (Nat.lt_of_succ_lt_succ hf) h i ge ((gl.mono (R.up l1)).mono (R.up l2)) ((q.le l1).le l2)
        rw [List.append_assoc, List.length_append] at this
        exact this
      | ret gv => exact ((q.le l1).le l2) _ _ _ _ _ _ _ h (R.refl _) i ge (.ret gv)
theorem snd_fro (hg : Snd n R (fun _ => False) S g (lp g)) (hb : Snd n R (fun _ => False) S b (lp b)) (hi : Snd n R T S it di) : Snd n R T S (.fro g it b p) (froD lp g b di) := .ofS fun {as m k w σ ws K} h i ge q => x_for it.fold (hi.ev h i ge fun x m w' v σ h l i gx => by
  obtain ⟨l0, et, h⟩ := anyO h
  rw [Bool.and_eq_true, decide_eq_true_eq] at h
  obtain ⟨us, rfl, gl⟩ := AV.tE et gx
  exact .inr ⟨us, rfl, loop_ok (pre := []) hg hb h.1 h.2 i (ge.up l) gl (q.le l)⟩)
theorem loopR_ok (hg : Snd n R (fun _ => False) S g (lp g)) (hb : Snd n R (fun _ => False) S b (lp b)) {lo hi z : Int} (h0 : lo ≤ z) (h1 : z ≤ hi) {k : Option AV → List AN → Nat → Bool} {K : Fl × Loc → St → Prop} : ∀ {u j m : Nat} {as : List AN} {ws : List Nm} {w : R.W} {σ : St}, (j : Int) ≤ z → loopR (lp g) (lp b) lo hi u j as m k = true → R.I m w σ → GE (R.X w) as ws → AfterS R w S k K →
    LoopS (turn n g.out.e b.out.ss) (nxRange z) K u j ⟨S, ws⟩ σ := fun {u} => by
  induction u with
  | zero => exact fun _ h => no h
  | succ u ih =>
    intro j m as ws w σ hj h i ge q
    have h := Bool.and_eq_true_iff.mp h
    unfold LoopS nxRange
    by_cases c : (j : Int) < z
    · rw [if_pos c]
      have h := (Bool.or_eq_true_iff.mp h.2).resolve_left fun d => Int.not_le.mpr c (Int.le_trans h1 (of_decide_eq_true d))
      refine hg.tg h i ge (.s (.int (.of (Int.le_refl _) (Int.le_refl _)))) fun as m w1 ws σ h l1 i ge => hb.ss h i ge fun r as m w2 ws σ f h l2 i ge gf => ?_
      cases gf with
      | next => exact ih c h i ge ((q.le l1).le l2)
      | ret gv => exact ((q.le l1).le l2) _ _ _ _ _ _ _ h (R.refl _) i ge (.ret gv)
    · rw [if_neg c]
      have h := (Bool.or_eq_true_iff.mp h.1).resolve_left fun d => c (Int.lt_of_lt_of_le (of_decide_eq_true d) h0)
      exact q _ _ _ _ _ _ _ h (R.refl _) i ge .next
theorem snd_forR {f : Str} {fp cp : Pos} (hg : Snd n R (fun _ => False) S g (lp g)) (hb : Snd n R (fun _ => False) S b (lp b)) (he : Snd n R T S e de) : Snd n R T S (.forR g f fp e b cp p) (forRD S.ns lp g f de b) := .ofS fun {as m k w σ ws K} h i ge q => by
  rw [Bool.and_eq_true, Bool.and_eq_true, decide_eq_true_eq] at h
  show ExS n _ (.For g.out.e (.Call (.Name f fp) [e.out.e] [] cp) b.out.ss [] p) _ _ _
  refine x_for_range (u := 60) h.1 e.star (ge.gl h.2.1) (he.ev h.2.2 i ge fun x m w' v σ h l i gx => ?_)
  obtain ⟨r, er, h⟩ := anyO h
  obtain ⟨z, rfl, iz⟩ := AV.iE er gx
  obtain ⟨p, ep, h⟩ := anyO h
  rw [Bool.and_eq_true, Bool.and_eq_true, decide_eq_true_eq, decide_eq_true_eq] at h
  have ⟨z0, z1⟩ := iz p ep
  exact ⟨z, rfl, Int.le_trans h.1 z0, Int.le_trans z1 (Int.le_trans h.2.1 (by decide)), loopR_ok hg hb z0 z1 (Int.le_trans h.1 z0) h.2.2 i (ge.up l) (q.le l)⟩
theorem snd_dele {rp qp : Pos} (ok : TabOk n R T t) (ha : Snd n R T S a da) (hb : Snd n R T S b db) : Snd n R T S (.dele a b rp qp p) (deleD t da db) := .ofS fun {as m k w σ ws K} h i g q => by
  show ExS n _ (.Delete [.Subscript a.out.e (.Slice (some b.out.e) none none rp) qp] p) _ _ _
  exact x_del (ha.ev h i g fun x m w' v σ h l i gx => hb.ev h i (g.up l) fun y m w'' u σ h l' i gy => ok.op (Q := fun _ σ => _) h i (.cons (gx.mono (R.up l')) (.cons gy .nil)) fun av m w3 v σ hk l3 i _ => (((q.le l).le l').le l3) _ _ _ _ _ _ _ hk (R.refl _) i (((g.up l).up l').up l3) .next)
theorem snd_isb {f x y : Str} {fp xp yp : Pos} : Snd n R T S (.isb f fp x xp y yp p) (isbD S.ns f x y) := .ofV (fun _ => rfl) fun {as m k w σ ws Q} h i g q => by
  rw [Bool.and_eq_true, Bool.and_eq_true, Bool.and_eq_true, Bool.and_eq_true, decide_eq_true_eq, decide_eq_true_eq] at h
  refine e_isinst h.1 h.2.1 rfl (g.gl h.2.2.1) (g.gl h.2.2.2.1) (nameV_ok h.2.2.2.2 i g fun av m w' v σ hk l i gv => ?_)
  rw [Bool.and_eq_true] at hk
  obtain ⟨o, e⟩ := Option.isSome_iff_exists.mp hk.1
  obtain ⟨b, rfl, _⟩ := AV.bE e gv
  exact ⟨b, rfl, q.le l _ _ _ _ _ hk.2 (R.refl _) i (.s (.bit .of))⟩
theorem Tm.oo (t : Tm) : t.out.o = none ∨ t.out.o = some t.out.e := by cases t <;> first | exact .inl rfl | exact .inr rfl
theorem snd_con {c : Const} {u : Nat} : Snd n R T S (.con c u p) (conD c) := .ofV (fun _ => rfl) fun h i g q => by
  obtain ⟨a, e, h⟩ := anyO h
  exact conV_ok e fun v gv => q _ _ _ _ _ h (R.refl _) i gv
theorem den_ok (ok : TabOk n R T t) (hl : ∀ e, Snd n R (fun _ => False) S e (lp e)) (e : Tm) : Snd n R T S e (den t S.ns lp e) := by
  induction e with
  | bad => exact .none
  | nil => exact snd_nil
  | cons a b ha hb => exact snd_cons ha hb
  | con c u p => exact snd_con
  | name x p => exact snd_name
  | bin a op b p ha hb => exact snd_bin ok ha hb
  | una op a p ha => exact snd_una ha
  | boo op es p ha => exact snd_boo ha
  | cmp a op b p ha hb => exact snd_cmp ok ha hb
  | cmp2 a op b op2 c p ha hb hc => exact snd_cmp2 ok ha hb hc
  | ife c a b p hc ha hb => exact snd_ife hc ha hb
  | tup es u p ha => exact snd_tup ha
  | lst es p ha => exact snd_lst ok ha
  | sub o i p ho hi => exact snd_sub ok ho hi
  | slc o a b c sp p ho ha hb hc => exact snd_slc ok ho ha hb hc a.oo b.oo c.oo
  | attr o x p ho => exact snd_attr ok ho
  | call f fp es p he => exact snd_call ok he
  | meth o m ap es p ho he => exact snd_meth ok ho he
  | asg g e p hg he => exact snd_asg hg he
  | iff c a b p hc ha hb => exact snd_iff hc ha hb
  | ret a p ha => exact snd_ret ha
  | ret0 p => exact snd_ret0
  | exp a p ha => exact snd_exp ha
  | rai f fp es cp p he => exact snd_rai ok he
  | fro g it b p hg hi hb => exact snd_fro (hl g) (hl b) hi
  | dele a b rp qp p ha hb => exact snd_dele ok ha hb
  | forR g f fp e b cp p hg he hb => exact snd_forR (hl g) (hl b) he
  | isb f fp x xp y yp p => exact snd_isb
end
end Mine
end
section
namespace Mine

/-! functions, by levels -/
noncomputable def kindA : NameKind → Option AV → AN
  | .globalImplicit, _ => .gl
  | .local, none => .lo
  | .local, some a => .v a
  | .cell, some a => .c a
  | _, _ => .no
noncomputable def bindA (names : List (Str × NameKind)) (bs : List (Str × AV)) : List AN := names.map fun q => kindA q.2 (bs.lookup q.1)
noncomputable def tabE : Tab := ⟨fun _ _ _ _ => false, fun _ _ _ => none, fun _ _ _ => none, fun _ => false⟩
noncomputable def inl (lt t : Tab) (c f : Str) (avs : List AV) (m : Nat) (k : KV) : Bool := decide ((c, f) ∈ fns) && (FT c f).any fun d => decide (d.params.length = avs.length) && (decide (d.scope.names.map (·.1)).Nodup && ((d.scope.names.map (·.1)).all plainName &&
  (den t (d.scope.names.map (·.1)) (fun e => den lt (d.scope.names.map (·.1)) (fun _ => none3) e) (bodyT d.body)).ss (bindA d.scope.names (d.params.zip avs)) m fun r _ m => k (r.getD (.s .non)) m))
/-- a last number that is not known to be nought or not -/
noncomputable def splitZ (avs : List AV) : List (List AV) := match avs with
  | [a, b, c] => c.i?.elim [avs] fun r => r.elim [avs] fun p => if p.1 = 0 then [[a, b, .int 0 0], [a, b, .int 1 p.2]] else [avs]
  | _ => [avs]
noncomputable def tabN (lt b : Tab) (n : Nat) : Tab := Nat.rec b (fun _ t => { b with op := fun o avs m k => b.op o avs m k || match o with
    | .call c f => if f = ("quotient" : Str) then (splitZ avs).all fun avs => inl lt t c f avs m k else inl lt t c f avs m k
    | _ => false }) n
section
variable {n : Nat} {R : Wor} {T : St → Prop} {t : Tab}
theorem tabE_ok : TabOk n R T tabE := ⟨nofun, nofun, nofun, nofun⟩
theorem zip_at {X : Nat → MV → Prop} {x : Str} {xs : List Str} {avs : List AV} {vs : List MV} (g : GL X avs vs) : ((xs.zip avs).lookup x = none ∧ (xs.zip vs).lookup x = none) ∨ ∃ a v, (xs.zip avs).lookup x = some a ∧ (xs.zip vs).lookup x = some v ∧ GV X a v := by
  induction g generalizing xs with
  | nil => rw [List.zip_nil_right, List.zip_nil_right]; exact .inl ⟨rfl, rfl⟩
  | @cons a v as vs g _ ih =>
    cases xs with
    | nil => exact .inl ⟨rfl, rfl⟩
    | cons y xs =>
      rw [List.zip_cons_cons, List.zip_cons_cons, List.lookup_cons, List.lookup_cons]
      cases x == y with
      | true => exact .inr ⟨a, v, rfl, rfl, g⟩
      | false => exact ih
theorem bind_ok {X : Nat → MV → Prop} {xs : List Str} {avs : List AV} {vs : List MV} (g : GL X avs vs) (names : List (Str × NameKind)) : GE X (bindA names (xs.zip avs)) (bindW names (xs.zip vs)) := by
  induction names with
  | nil => exact .nil
  | cons q names ih =>
    refine .cons ?_ ih
    show GN X (kindA q.2 ((xs.zip avs).lookup q.1)) (kindNm q.2 ((xs.zip vs).lookup q.1))
    rcases zip_at (x := q.1) (xs := xs) g with ⟨e, e'⟩ | ⟨a, v, e, e', gv⟩
    · rw [e, e']
      cases q.2 with
      | globalImplicit => exact .gl
      | «local» => exact .lo
      | _ => exact .no
    · rw [e, e']
      cases q.2 with
      | globalImplicit => exact .gl
      | «local» => exact .v gv
      | cell => exact .c gv
      | _ => exact .no
theorem body_ok {c f : Str} {d : FnRec} (h : (c, f) ∈ fns) (e : FT c f = some d) : (bodyT d.body).out.ss = d.body := by
  have := List.map_inj_left.mp bodies _ h
  unfold bodyOf at this
  rw [e] at this
  exact this
theorem GL.len {X : Nat → MV → Prop} {l : List AV} {vs : List MV} (g : GL X l vs) : l.length = vs.length := by
  induction g with
  | nil => rfl
  | cons _ _ ih => exact congrArg (· + 1) ih
theorem inl_ok {lt : Tab} (hl : TabOk n R (fun _ => False) lt) (ok : TabOk n R T t) {c f : Str} {avs : List AV} {m : Nat} {k : KV} {w : R.W} {σ : St} {vs : List MV} {Q : MV → St → Prop} (h : inl lt t c f avs m k = true) (i : R.I m w σ) (g : GL (R.X w) avs vs) (q : After R w k Q) : OpS (n + 1) σ Q T (.call c f) vs := by
  rw [inl, Bool.and_eq_true, decide_eq_true_eq] at h
  obtain ⟨hf, h⟩ := h
  obtain ⟨d, e, h⟩ := anyO h
  rw [Bool.and_eq_true, Bool.and_eq_true, Bool.and_eq_true, decide_eq_true_eq, decide_eq_true_eq] at h
  obtain ⟨h1, h2, h3, h⟩ := h
  refine ⟨by rw [e]; exact (fun q => by cases q), sat_call e ⟨d.scope.names.map (·.1), h2, h3⟩ rfl (h1.trans g.len) rfl ?_⟩
  rw [← body_ok hf e]
  refine (den_ok (S := ⟨d.scope.names.map (·.1), h2, h3⟩) ok (fun e => den_ok (S := ⟨d.scope.names.map (·.1), h2, h3⟩) hl (fun _ => .none) e) (bodyT d.body)).ss h i (bind_ok g _) fun r as m w' ws σ f h l i _ gf => ?_
  cases gf with
  | next => exact q _ _ _ _ _ h l i (.s .non)
  | ret gv => exact q _ _ _ _ _ h l i gv
theorem split_ok {X : Nat → MV → Prop} {avs : List AV} {vs : List MV} (g : GL X avs vs) : ∃ avs' ∈ splitZ avs, GL X avs' vs := by
  have same : ∃ avs' ∈ [avs], GL X avs' vs := ⟨_, List.mem_singleton.mpr rfl, g⟩
  unfold splitZ
  split
  · rename_i a b c
    cases ei : c.i? with
    | none => exact same
    | some r => cases r with
      | none => exact same
      | some p =>
        show ∃ avs' ∈ (if p.1 = 0 then [[a, b, .int 0 0], [a, b, .int 1 p.2]] else [[a, b, c]]), _
        by_cases hp : p.1 = 0
        · rw [if_pos hp]
          cases g with | cons ga g =>
          cases g with | cons gb g =>
          cases g with | cons gc g =>
          cases g
          obtain ⟨z, rfl, iz⟩ := AV.iE ei gc
          have := iz p rfl
          by_cases hz : z = 0
          · exact ⟨_, .head _, .cons ga (.cons gb (.cons (.s (.int (.of (by omega) (by omega)))) .nil))⟩
          · exact ⟨_, .tail _ (.head _), .cons ga (.cons gb (.cons (.s (.int (.of (by omega) this.2))) .nil))⟩
        · rw [if_neg hp]; exact same
  · exact same
theorem tabN_ok {lt b : Tab} {j : Nat} (hl : ∀ n, TabOk (j + n) R (fun _ => False) lt) (hb : ∀ n, TabOk (j + n) R T b) (n : Nat) : TabOk (j + n) R T (tabN lt b n) := by
  induction n with
  | zero => exact hb 0
  | succ n ih =>
    refine ⟨fun {o avs m k w vs σ Q} h i g q => orE h (fun h => (hb (n + 1)).op h i g q) fun h => ?_, (hb 0).own, (hb 0).met, (hb 0).trap⟩
    cases o with
    | call c f =>
      by_cases c' : f = ("quotient" : Str)
      · have h := (if_pos c').symm.trans h
        obtain ⟨avs', hm, g'⟩ := split_ok g
        exact inl_ok (hl _) ih (List.all_eq_true.mp h _ hm) i g' q
      · exact inl_ok (hl _) ih ((if_neg c').symm.trans h) i g q
    | _ => cases h
end
end Mine
end
section
set_option genCtorIdx false
namespace Mine

/-! tables by rows: an operation; what it answers, by what is known of its values and the mode -/
noncomputable def A0.n? (a : A0) : Option Nat := A0.casesOn a (fun _ => none) (fun _ => none) none (fun _ => none) (fun n => some n) fun _ => none
noncomputable def A0.x? (a : A0) : Option Nat := A0.casesOn a (fun _ => none) (fun _ => none) none (fun _ => none) (fun _ => none) fun k => some k
noncomputable def A0.non? (a : A0) : Bool := A0.casesOn a (fun _ => false) (fun _ => false) true (fun _ => false) (fun _ => false) fun _ => false
noncomputable def leI (a b : Itv) : Bool := b.elim true fun q => a.any fun p => decide (q.1 ≤ p.1) && decide (p.2 ≤ q.2)
/-- a says no less than b -/
noncomputable def A0.le (a b : A0) : Bool := A0.casesOn b (fun r => a.i?.any fun q => leI q r) (fun s => a.s?.any fun t => decide (t = s)) a.non? (fun o => a.b?.any fun p => o.elim true fun c => decide (p = some c)) (fun n => a.n?.any fun j => decide (j = n)) fun k => a.x?.any fun j => decide (j = k)
noncomputable def leT (as bs : List A0) : Bool := List.rec (motive := fun _ => List A0 → Bool) (fun bs => bs.isEmpty) (fun a _ f bs => List.casesOn bs false fun b bs => a.le b && f bs) as bs
noncomputable def AV.le (a b : AV) : Bool := AV.casesOn b (fun b => a.a?.any fun a => a.le b) fun l => a.t?.any fun q => leT q l
noncomputable def leL (as bs : List AV) : Bool := List.rec (motive := fun _ => List AV → Bool) (fun bs => bs.isEmpty) (fun a _ f bs => List.casesOn bs false fun b bs => a.le b && f bs) as bs
section
variable {X : Nat → MV → Prop} {v : MV}
theorem A0.nE {a : A0} {n : Nat} (e : a.n? = some n) (g : G0 X a v) : ∃ b, v = .bytes b ∧ b.length = n := by
  cases g with
  | byt => cases e; exact ⟨_, rfl, rfl⟩
  | _ => exact noO e
theorem A0.xE {a : A0} {n : Nat} (e : a.x? = some n) (g : G0 X a v) : X n v := by
  cases g with
  | x q => cases e; exact q
  | _ => exact noO e
theorem AV.nE {a : AV} {n : Nat} (e : a.a?.bind A0.n? = some n) (g : GV X a v) : ∃ b, v = .bytes b ∧ b.length = n := by
  cases g with
  | s g => exact A0.nE e g
  | tup g => exact noO e
theorem G0.by {b : List UInt8} {n : Nat} (h : b.length = n) : G0 X (.byt n) (.bytes b) := by subst h; exact .byt
theorem A0.le_ok {a b : A0} (h : a.le b = true) (g : G0 X a v) : G0 X b v := by
  cases b with
  | int r =>
    obtain ⟨q, e, h⟩ := anyO h
    obtain ⟨z, rfl, iz⟩ := AV.iE (a := .s a) e (.s g)
    cases r with
    | none => exact .int .any
    | some r =>
      obtain ⟨p, rfl, h2⟩ := anyO (o := q) h
      rw [Bool.and_eq_true, decide_eq_true_eq, decide_eq_true_eq] at h2
      exact .int (.of (Int.le_trans h2.1 (iz p rfl).1) (Int.le_trans (iz p rfl).2 h2.2))
  | str s =>
    obtain ⟨t, e, h⟩ := anyO h
    obtain rfl := A0.sE e g
    obtain rfl := of_decide_eq_true h
    exact .str
  | non =>
    cases g with
    | non => exact .non
    | _ => exact no h
  | bit o =>
    obtain ⟨p, e, h⟩ := anyO h
    obtain ⟨b, rfl, ib⟩ := AV.bE (a := .s a) e (.s g)
    cases o with
    | none => exact .bit .any
    | some c => exact .bit (of_decide_eq_true h ▸ ib)
  | byt n =>
    obtain ⟨j, e, h⟩ := anyO h
    obtain ⟨b, rfl, hb⟩ := A0.nE e g
    exact .by (hb.trans (of_decide_eq_true h))
  | x k =>
    obtain ⟨j, e, h⟩ := anyO h
    obtain rfl := of_decide_eq_true h
    exact .x (A0.xE e g)
theorem leT_ok {as bs : List A0} {vs : List MV} (h : leT as bs = true) (g : Gs X as vs) : Gs X bs vs := by
  induction g generalizing bs with
  | nil => obtain rfl := List.isEmpty_iff.mp h; exact .nil
  | cons g _ ih =>
    cases bs with
    | nil => exact no h
    | cons b bs =>
      have h := Bool.and_eq_true_iff.mp h
      exact .cons (A0.le_ok h.1 g) (ih h.2)
theorem AV.le_ok {a b : AV} (h : a.le b = true) (g : GV X a v) : GV X b v := by
  cases b with
  | s b =>
    obtain ⟨c, e, h⟩ := anyO h
    cases g with
    | s g => cases e; exact .s (A0.le_ok h g)
    | tup g => cases e
  | tup l =>
    obtain ⟨q, e, h⟩ := anyO h
    obtain ⟨vs, rfl, gl⟩ := AV.tE e g
    exact .tup (leT_ok h gl)
theorem leL_ok {as bs : List AV} {vs : List MV} (h : leL as bs = true) (g : GL X as vs) : GL X bs vs := by
  induction g generalizing bs with
  | nil => obtain rfl := List.isEmpty_iff.mp h; exact .nil
  | cons g _ ih =>
    cases bs with
    | nil => exact no h
    | cons b bs =>
      have h := Bool.and_eq_true_iff.mp h
      exact .cons (AV.le_ok h.1 g) (ih h.2)
end
abbrev OV := Option (List (AV × Nat))
structure Row where
  o : Op
  f : List AV → Nat → OV
noncomputable def rowsOp (l : List Row) (o : Op) (avs : List AV) (m : Nat) (k : KV) : Bool := l.any fun e => decide (e.o = o) && (e.f avs m).any fun r => r.all fun p => k p.1 p.2
/-- what holds behind each of the outcomes -/
noncomputable def Outs (R : Wor) (w : R.W) (l : List (AV × Nat)) (Q : MV → St → Prop) : Prop := ∀ p ∈ l, ∀ w' v σ', R.le w w' → R.I p.2 w' σ' → GV (R.X w') p.1 v → Q v σ'
structure Row.Ok (n : Nat) (R : Wor) (T : St → Prop) (e : Row) : Prop where
  ok : ∀ {avs m l w vs σ Q}, e.f avs m = some l → R.I m w σ → GL (R.X w) avs vs → Outs R w l Q → OpS n σ Q T e.o vs
section
variable {n : Nat} {R : Wor} {T : St → Prop} {o : Op} {avs as : List AV} {m m' : Nat} {k : KV} {w : R.W} {σ : St} {vs : List MV} {Q : MV → St → Prop} {l : List Row} {g : Nat → OV} {r : AV} {ms : List Nat}
theorem rows_ok (ok : ∀ e ∈ l, Row.Ok n R T e) (h : rowsOp l o avs m k = true) (i : R.I m w σ) (g : GL (R.X w) avs vs) (q : After R w k Q) : OpS n σ Q T o vs := by
  obtain ⟨e, he, h⟩ := List.any_eq_true.mp h
  rw [Bool.and_eq_true, decide_eq_true_eq] at h
  obtain ⟨r, er, h2⟩ := anyO h.2
  rw [← h.1]
  exact (ok e he).ok er i g fun p hp w' v σ' l i g => q _ _ _ _ _ (List.all_eq_true.mp h2 p hp) l i g
/-- by patterns of the values -/
noncomputable def pat (as : List AV) (g : Nat → OV) (avs : List AV) (m : Nat) : OV := if leL avs as then g m else none
noncomputable def on (m : Nat) (l : List (AV × Nat)) (m' : Nat) : OV := if m' = m then some l else none
noncomputable def keep (ms : List Nat) (r : AV) (m : Nat) : OV := if ms.contains m then some [(r, m)] else none
theorem ofIf {α : Type} {c : Prop} [Decidable c] {a b : α} {P : Prop} (h : (if c then some a else none) = some b) (f : c → a = b → P) : P := by
  by_cases q : c
  · rw [if_pos q] at h; exact f q (Option.some.inj h)
  · rw [if_neg q] at h; cases h
theorem rPat (h : ∀ {m l w vs σ Q}, g m = some l → R.I m w σ → GL (R.X w) as vs → Outs R w l Q → OpS n σ Q T o vs) : Row.Ok n R T ⟨o, pat as g⟩ := ⟨fun {avs m l w vs σ Q} e i gl q => by
  have e : (if leL avs as then g m else none) = some l := e
  by_cases c : leL avs as = true
  · rw [if_pos c] at e; exact h e i (leL_ok c gl) q
  · rw [if_neg c] at e; cases e⟩
theorem rOns {l : List (AV × Nat)} (h : ∀ {w vs σ Q}, R.I m w σ → GL (R.X w) as vs → Outs R w l Q → OpS n σ Q T o vs) : Row.Ok n R T ⟨o, pat as (on m l)⟩ := rPat fun e i g q => ofIf e fun e1 e2 => by subst e1; subst e2; exact h i g q
/-- one outcome -/
theorem rOn (h : ∀ {w vs σ Q}, R.I m w σ → GL (R.X w) as vs → (∀ w' v σ', R.le w w' → R.I m' w' σ' → GV (R.X w') r v → Q v σ') → OpS n σ Q T o vs) : Row.Ok n R T ⟨o, pat as (on m [(r, m')])⟩ := rOns fun i g q => h i g fun w' v σ' l i g => q _ (.head _) _ _ _ l i g
/-- nothing turns -/
theorem rKeep (h : ∀ {m w vs σ Q}, m ∈ ms → R.I m w σ → GL (R.X w) as vs → (∀ v, GV (R.X w) r v → Q v σ) → OpS n σ Q T o vs) : Row.Ok n R T ⟨o, pat as (keep ms r)⟩ := rPat fun e i g q => ofIf e fun e1 e2 => by subst e2; exact h (List.contains_iff_mem.mp e1) i g fun v gv => q _ (.head _) _ _ _ (R.refl _) i gv
variable {X : Nat → MV → Prop} {P : List MV → Prop} {a b c d : AV}
@[elab_as_elim] theorem GL.e0 (g : GL X [] vs) (h : P []) : P vs := by cases g; exact h
@[elab_as_elim] theorem GL.e1 (g : GL X [a] vs) (h : ∀ v, GV X a v → P [v]) : P vs := by
  cases g with | cons g1 g => cases g; exact h _ g1
@[elab_as_elim] theorem GL.e2 (g : GL X [a, b] vs) (h : ∀ u v, GV X a u → GV X b v → P [u, v]) : P vs := by
  cases g with | cons g1 g => exact GL.e1 g fun v g2 => h _ _ g1 g2
@[elab_as_elim] theorem GL.e3 (g : GL X [a, b, c] vs) (h : ∀ u v w, GV X a u → GV X b v → GV X c w → P [u, v, w]) : P vs := by
  cases g with | cons g1 g => exact GL.e2 g fun v w g2 g3 => h _ _ _ g1 g2 g3
@[elab_as_elim] theorem GL.e4 (g : GL X [a, b, c, d] vs) (h : ∀ u v w x, GV X a u → GV X b v → GV X c w → GV X d x → P [u, v, w, x]) : P vs := by
  cases g with | cons g1 g => exact GL.e3 g fun v w x g2 g3 g4 => h _ _ _ _ g1 g2 g3 g4
variable {j : Nat} {v : MV} {M : MV → Prop}
noncomputable def GVS (X : Nat → MV → Prop) (a : AV) (v : MV) : Prop := AV.casesOn a (fun a => A0.casesOn a (fun r => ∃ x, v = .int x ∧ InR r x) (fun s => v = .str s) (v = .none) (fun o => ∃ b, v = .bool b ∧ InB o b) (fun n => ∃ b, v = .bytes b ∧ b.length = n) fun k => X k v) fun l => ∃ vs, v = .tup vs ∧ Gs X l vs
theorem GV.inv (g : GV X a v) : GVS X a v := by
  cases g with
  | s g => cases g with
    | int h => exact ⟨_, rfl, h⟩
    | str => exact rfl
    | non => exact rfl
    | bit h => exact ⟨_, rfl, h⟩
    | byt => exact ⟨_, rfl, rfl⟩
    | x q => exact q
  | tup g => exact ⟨_, rfl, g⟩
theorem GV.xE (g : GV X (.s (.x j)) v) : X j v := g.inv
@[elab_as_elim] theorem GV.iE {r : Itv} (g : GV X (.s (.int r)) v) (h : ∀ x, InR r x → M (.int x)) : M v := by
  obtain ⟨x, rfl, i⟩ := g.inv; exact h x i
@[elab_as_elim] theorem GV.byE (g : GV X (.s (.byt j)) v) (h : ∀ b, b.length = j → M (.bytes b)) : M v := by
  obtain ⟨x, rfl, i⟩ := g.inv; exact h x i
theorem GV.strE {s : Str} (g : GV X (.s (.str s)) v) : v = .str s := g.inv
theorem GV.bitE {c : Bool} (g : GV X (.s (.bit (some c))) v) : v = .bool c := by
  obtain ⟨x, rfl, i⟩ := g.inv; rw [i c rfl]
theorem GV.nonE (g : GV X (.s .non) v) : v = .none := g.inv
theorem GV.i {x : Int} : GV X (.int x x) (.int x) := .s (.int (.of (Int.le_refl _) (Int.le_refl _)))
theorem GV.by {b : List UInt8} (h : b.length = j) : GV X (.s (.byt j)) (.bytes b) := by subst h; exact .s .byt
theorem GV.ii {x lo hi : Int} (h : lo ≤ x) (h' : x ≤ hi) : GV X (.int lo hi) (.int x) := .s (.int (.of h h'))
end

/-! what the built-ins do with plain values -/
noncomputable def absR (r : Itv) : Itv := r.bind fun p => if 0 ≤ p.1 then some p else if p.2 ≤ 0 then some (-p.2, -p.1) else none
noncomputable def with1 (f : AV → OV) (avs : List AV) : OV := List.casesOn avs none fun a r => List.casesOn r (f a) fun _ _ => none
noncomputable def with2 (f : AV → AV → OV) (avs : List AV) : OV := List.casesOn avs none fun a r => with1 (f a) r
noncomputable def with3 (f : AV → AV → AV → OV) (avs : List AV) : OV := List.casesOn avs none fun a r => with2 (f a) r
noncomputable def one (m : Nat) (r : AV) : List (AV × Nat) := [(r, m)]
noncomputable def rAbs : Row := ⟨.blt "abs", fun avs m => with1 (fun x => x.i?.map fun r => one m (.s (.int (absR r)))) avs⟩
noncomputable def rInt : Row := ⟨.blt "int", fun avs m => with1 (fun x => x.i?.map fun r => one m (.s (.int r))) avs⟩
noncomputable def rLent : Row := ⟨.blt "len", fun avs m => with1 (fun x => x.t?.bind fun l => if l.length ≤ 100 then some (one m (.int (l.length : Int) (l.length : Int))) else none) avs⟩
noncomputable def rLen : Row := ⟨.blt "len", fun avs m => with1 (fun x => (x.a?.bind A0.n?).bind fun j => if j ≤ 100 then some (one m (.int (j : Int) (j : Int))) else none) avs⟩
noncomputable def rIdx : Row := ⟨.met "tuple.index", fun avs m => with2 (fun x y => x.t?.bind fun l => y.s?.bind fun s => if l.all (fun a => a.s?.isSome) then (l.findIdx? fun a => a.s? == some s).map fun (j : Nat) => one m (.int (j : Int) (j : Int)) else none) avs⟩
noncomputable def rTo : Row := ⟨.met "int.to_bytes", fun avs m => with3 (fun x y z => x.i?.bind fun r => y.i?.bind fun s => r.bind fun p => s.bind fun q => if 0 ≤ p.1 ∧ q.1 = q.2 ∧ 0 ≤ q.1 ∧ q.1 ≤ 8 ∧ p.2 < 256 ^ q.1.toNat ∧ z.s? = some ("little" : Str) then some (one m (.s (.byt q.1.toNat))) else none) avs⟩
noncomputable def rFrom : Row := ⟨.from, fun avs m => with2 (fun x y => (x.a?.bind A0.n?).bind fun j => if j ≤ 8 ∧ y.s? = some ("little" : Str) then some (one m (.int 0 (256 ^ j - 1))) else none) avs⟩
noncomputable def plainRows : List Row := [rAbs, rInt, rLent, rLen, rIdx, rTo, rFrom]
noncomputable def plainMet (x : AV) (m : Str) (_ : Nat) : Option String := if x.t?.isSome ∧ m = ("index" : Str) then some "tuple.index" else if x.i?.isSome ∧ m = ("to_bytes" : Str) then some "int.to_bytes" else none
theorem Gs.find {X : Nat → MV → Prop} {l : List A0} {vs : List MV} {s : Str} (g : Gs X l vs) (h : l.all (fun a => a.s?.isSome) = true) : vs.findIdx? (eqS s) = l.findIdx? fun a => a.s? == some s := by
  induction g with
  | nil => rfl
  | @cons a v as vs g _ ih =>
    rw [List.all_cons, Bool.and_eq_true] at h
    obtain ⟨t, e⟩ := Option.isSome_iff_exists.mp h.1
    obtain rfl := A0.sE e g
    rw [List.findIdx?_cons, List.findIdx?_cons, ih h.2, e]
    rfl
theorem fromLE_lt (b : List UInt8) : 0 ≤ fromLE b ∧ fromLE b ≤ 256 ^ b.length - 1 := by
  induction b with
  | nil => exact ⟨Int.le_refl _, Int.le_refl _⟩
  | cons c b ih =>
    have h : fromLE (c :: b) = c.toNat + 256 * fromLE b := rfl
    have hc : (c.toNat : Int) < 256 := Int.ofNat_lt.mpr c.toNat_lt
    rw [h, List.length_cons, Int.pow_succ]
    omega
theorem toLE_len (n : Nat) (x : Int) : (toLE n x).length = n := by
  induction n generalizing x with
  | zero => rfl
  | succ n ih => exact congrArg (· + 1) (ih _)
section
variable {n : Nat} {R : Wor} {T : St → Prop} {avs : List AV} {vs : List MV} {X : Nat → MV → Prop}
theorem blt_of {f : Str} {V : Value} {σ : St} {Q : MV → St → Prop} (e : blts.lookup f = some V) (h : BltS V vs σ Q T) : OpS n σ Q T (.blt f) vs := fun V' e' => by cases e.symm.trans e'; exact h
theorem with1_ok {f : AV → OV} {l : List (AV × Nat)} {P : List MV → Prop} (e : with1 f avs = some l) (g : GL X avs vs) (h : ∀ a v, f a = some l → GV X a v → P [v]) : P vs := by
  cases g with
  | nil => cases e
  | cons g g' => cases g' with
    | nil => exact h _ _ e g
    | cons _ _ => cases e
theorem with2_ok {f : AV → AV → OV} {l : List (AV × Nat)} {P : List MV → Prop} (e : with2 f avs = some l) (g : GL X avs vs) (h : ∀ a b v u, f a b = some l → GV X a v → GV X b u → P [v, u]) : P vs := by
  cases g with
  | nil => cases e
  | cons g g' => exact with1_ok (P := fun vs => P (_ :: vs)) e g' fun b u e gu => h _ _ _ _ e g gu
theorem with3_ok {f : AV → AV → AV → OV} {l : List (AV × Nat)} {P : List MV → Prop} (e : with3 f avs = some l) (g : GL X avs vs) (h : ∀ a b c v u w, f a b c = some l → GV X a v → GV X b u → GV X c w → P [v, u, w]) : P vs := by
  cases g with
  | nil => cases e
  | cons g g' => exact with2_ok (P := fun vs => P (_ :: vs)) e g' fun b c u w e gu gw => h _ _ _ _ _ _ e g gu gw
theorem one_q {m : Nat} {r : AV} {l : List (AV × Nat)} {w : R.W} {σ : St} {Q : MV → St → Prop} {v : MV} (e : one m r = l) (q : Outs R w l Q) (i : R.I m w σ) (g : GV (R.X w) r v) : Q v σ := by subst e; exact q _ (.head _) _ _ _ (R.refl _) i g
theorem ok_abs : rAbs.Ok n R T := .mk fun e i g q => with1_ok e g fun a v e g => by
  obtain ⟨r, er, e⟩ := Option.map_eq_some_iff.mp e
  obtain ⟨z, rfl, iz⟩ := AV.iE er g
  refine blt_of (by unfold blts; rfl) (f_abs (one_q e q i (.s (.int fun p' ep => ?_))))
  obtain ⟨p, rfl, hp⟩ := Option.bind_eq_some_iff.mp ep
  have ⟨z1, z2⟩ := iz p rfl
  by_cases c : 0 ≤ p.1
  · rw [if_pos c] at hp
    cases hp
    rw [if_neg (Int.not_lt.mpr (Int.le_trans c z1))]
    exact ⟨z1, z2⟩
  · rw [if_neg c] at hp
    by_cases c' : p.2 ≤ 0
    · rw [if_pos c'] at hp
      cases hp
      by_cases d : z < 0
      · rw [if_pos d]; exact ⟨Int.neg_le_neg z2, Int.neg_le_neg z1⟩
      · rw [if_neg d]; constructor <;> dsimp only <;> omega
    · rw [if_neg c'] at hp; cases hp
theorem ok_int : rInt.Ok n R T := .mk fun e i g q => with1_ok e g fun a v e g => by
  obtain ⟨r, er, e⟩ := Option.map_eq_some_iff.mp e
  obtain ⟨z, rfl, iz⟩ := AV.iE er g
  exact blt_of (by unfold blts; rfl) (f_int (one_q e q i (.s (.int iz))))
theorem ok_lent : rLent.Ok n R T := .mk fun e i g q => with1_ok e g fun a v e g => by
  obtain ⟨l, el, e⟩ := Option.bind_eq_some_iff.mp e
  obtain ⟨vs, rfl, gl⟩ := AV.tE el g
  refine ofIf e fun hj e => blt_of (V := .builtin "len") (by unfold blts; rfl) ?_
  rw [gl.len] at hj e
  exact f_len_tup (Nat.le_trans hj (by decide)) (one_q e q i .i)
theorem ok_len : rLen.Ok n R T := .mk fun e i g q => with1_ok e g fun a v e g => by
  obtain ⟨j, ej, e⟩ := Option.bind_eq_some_iff.mp e
  obtain ⟨b, rfl, hb⟩ := AV.nE ej g
  subst hb
  exact ofIf e fun hj e => blt_of (V := .builtin "len") (by unfold blts; rfl) (f_len_bytes (Nat.le_trans hj (by decide)) (one_q e q i .i))
theorem ok_idx : rIdx.Ok n R T := .mk fun e i g q => with2_ok e g fun a b v u e gx gy => by
  obtain ⟨l, el, e⟩ := Option.bind_eq_some_iff.mp e
  obtain ⟨s, es, e⟩ := Option.bind_eq_some_iff.mp e
  obtain ⟨us, rfl, gl⟩ := AV.tE el gx
  obtain rfl := AV.sE es gy
  by_cases c : l.all (fun a => a.s?.isSome) = true
  · rw [if_pos c] at e
    obtain ⟨j, ej, e⟩ := Option.map_eq_some_iff.mp e
    exact f_index (gl.strs (s := s) c).1 ((gl.find c).trans ej) (one_q e q i .i)
  · rw [if_neg c] at e; cases e
theorem ok_to : rTo.Ok n R T := .mk fun e i g q => with3_ok e g fun a b c v u w e gx gy gz => by
  obtain ⟨r, er, e1⟩ := Option.bind_eq_some_iff.mp e
  obtain ⟨s, es, e2⟩ := Option.bind_eq_some_iff.mp e1
  obtain ⟨p, ep, e3⟩ := Option.bind_eq_some_iff.mp e2
  obtain ⟨t, et, e4⟩ := Option.bind_eq_some_iff.mp e3
  obtain ⟨x, rfl, ix⟩ := AV.iE er gx
  obtain ⟨y, rfl, iy⟩ := AV.iE es gy
  refine ofIf e4 fun h e => ?_
  obtain ⟨h0, h1, h2, h3, h4, h5⟩ := h
  obtain rfl := AV.sE h5 gz
  obtain rfl : y = t.1 := Int.le_antisymm (h1 ▸ (iy t et).2) (iy t et).1
  exact f_toBytes h2 h3 (Int.le_trans h0 (ix p ep).1) (Int.lt_of_le_of_lt (ix p ep).2 h4) (one_q e q i (.by (toLE_len _ _)))
theorem ok_from : rFrom.Ok n R T := .mk fun e i g q => with2_ok e g fun a b v u e gx gy => by
  obtain ⟨j, ej, e⟩ := Option.bind_eq_some_iff.mp e
  obtain ⟨b, rfl, hb⟩ := AV.nE ej gx
  subst hb
  refine ofIf e fun h e => ?_
  obtain rfl := AV.sE h.2 gy
  exact ⟨b, rfl, h.1, one_q e q i (.ii (fromLE_lt b).1 (fromLE_lt b).2)⟩
theorem plain_ok : ∀ e ∈ plainRows, Row.Ok n R T e := List.forall_mem_cons.mpr ⟨ok_abs, List.forall_mem_cons.mpr ⟨ok_int, List.forall_mem_cons.mpr ⟨ok_lent, List.forall_mem_cons.mpr ⟨ok_len, List.forall_mem_cons.mpr ⟨ok_idx, List.forall_mem_cons.mpr ⟨ok_to, List.forall_mem_cons.mpr ⟨ok_from, fun _ h => nomatch h⟩⟩⟩⟩⟩⟩⟩
theorem plainMet_ok {x : AV} {mt : Str} {id : String} {v : MV} {m : Nat} {w : R.W} {σ : St} (h : plainMet x mt m = some id) (g : GV (R.X w) x v) : FindS v mt id σ := by
  unfold plainMet at h
  by_cases c : x.t?.isSome ∧ mt = ("index" : Str)
  · rw [if_pos c] at h
    obtain ⟨l, e⟩ := Option.isSome_iff_exists.mp c.1
    obtain ⟨us, rfl, _⟩ := AV.tE e g
    cases h
    rw [c.2]
    exact m_index
  · rw [if_neg c] at h
    refine ofIf h fun c e => ?_
    obtain ⟨l, e'⟩ := Option.isSome_iff_exists.mp c.1
    obtain ⟨z, rfl, _⟩ := AV.iE e' g
    subst e
    rw [c.2]
    exact m_toBytes
end
end Mine
end
section
set_option genCtorIdx false
namespace Mine

/-! functions that touch nothing -/
noncomputable def tabR (l : List Row) (ow : AV → Str → Nat → Option Str) (mt : AV → Str → Nat → Option String) (tr : Nat → Bool) : Tab := ⟨rowsOp l, ow, mt, tr⟩
noncomputable def tabP : Tab := tabR plainRows (fun _ _ _ => none) plainMet (fun _ => false)
noncomputable def stay (σ : St) : Wor := ⟨Unit, fun _ _ => True, fun _ => trivial, fun _ _ => trivial, fun _ _ _ => False, fun _ _ _ h => h, fun _ _ σ' => σ' = σ⟩
noncomputable def runP (n : Nat) (f : Str) (avs : List AV) (k : AV → Bool) : Bool := (tabN tabE tabP n).op (.call "" f) avs 0 fun a _ => k a
theorem tabP_ok {n : Nat} {R : Wor} {T : St → Prop} : TabOk n R T tabP := ⟨rows_ok plain_ok, fun h => noO h, fun {a m id mo w v σ} h _ g => plainMet_ok (m := mo) h g, fun h => no h⟩
theorem pure_ok {n : Nat} {f : Str} {avs : List AV} {k : AV → Bool} {vs : List MV} {σ : St} {Q : MV → St → Prop} {T : St → Prop} (h : runP n f avs k = true) (g : GL (fun _ _ => False) avs vs) (q : ∀ a v, k a = true → GV (fun _ _ => False) a v → Q v σ) : CalS n "" f vs σ Q T :=
  Nat.zero_add n ▸ ((tabN_ok (R := stay σ) (j := 0) (fun _ => tabE_ok) (fun _ => tabP_ok) n).op h (w := ()) rfl g fun av m' w' v σ' hk _ e gv => e ▸ q av v hk gv : OpS (0 + n) σ Q T (.call "" f) vs).2
/-- what decode may answer -/
noncomputable def opsR : List String := ["add", "sll", "slt", "sltu", "xor", "srl", "or", "and", "mul", "mulh", "mulhsu", "mulhu", "div", "divu", "rem", "remu", "sub", "sra"]
noncomputable def opsN : List String := ["addi", "slli", "slti", "sltiu", "xori", "srli", "ori", "andi", "srai", "lb", "lh", "lw", "lbu", "lhu", "sb", "sh", "sw", "beq", "bne", "blt", "bge", "bltu", "bgeu", "jal", "jalr", "lui", "auipc", "ecall", "ebreak"]
noncomputable def r5 : A0 := .int (some (0, 31))
noncomputable def decs : List AV := opsR.map (fun s => .tup [.str s, r5, r5, r5]) ++ opsN.map fun s => .tup [.str s, r5, r5, .int (some (-8796093022208, 8796093022208))]
theorem decode_look : runP 4 "decode" [.int 0 4294967295] (fun a => a.le (.s .non) || decs.any fun d => a.le d) = true := by kernel_rfl
end Mine
end
section
set_option genCtorIdx false
namespace Mine

/-! what lies where -/
structure Hs (L : List (Nat × MO)) (σ : St) : Prop where
  nd : (L.map (·.1)).Nodup
  at_ : ∀ p ∈ L, σ[p.1]? = some p.2
section
variable {L L' : List (Nat × MO)} {σ : St} {i : Nat} {o : MO}
theorem Hs.get (H : Hs L σ) (j : Nat) (e : L[j]? = some (i, o)) : σ[i]? = some o := H.at_ _ (List.mem_of_getElem? e)
theorem get_lt {σ : St} {i : Nat} {o : MO} (h : σ[i]? = some o) : i < σ.length := (List.getElem?_eq_some_iff.mp h).1
theorem Hs.set (H : Hs L σ) (j : Nat) (e : L[j]? = some (i, o)) (o' : MO) : Hs (L.set j (i, o')) (σ.set i o') := by
  have hj := get_lt (σ := L.map (fun _ => o)) (i := j) (o := o) (by rw [List.getElem?_map, e]; rfl)
  rw [List.length_map] at hj
  have hm : (L.set j (i, o')).map (·.1) = L.map (·.1) := by
    rw [List.map_set]
    have : (L.map (·.1))[j]'(by rw [List.length_map]; exact hj) = i := by
      rw [List.getElem_map]
      rw [List.getElem?_eq_getElem hj] at e
      rw [Option.some.inj e]
    exact (congrArg _ this.symm).trans (List.set_getElem_self _)
  have nd : ((L.set j (i, o')).map (·.1)).Nodup := hm ▸ H.nd
  refine ⟨nd, fun p hp => ?_⟩
  by_cases c : p.1 = i
  · obtain ⟨k, hk⟩ := List.getElem?_of_mem hp
    have e2 : (L.set j (i, o'))[j]? = some (i, o') := List.getElem?_set_self hj
    obtain rfl := inj_of nd hk e2 c
    obtain rfl := Option.some.inj (hk.symm.trans e2)
    exact List.getElem?_set_self (get_lt (H.get _ e))
  · rw [List.getElem?_set_ne fun q => c q.symm]
    rcases List.mem_or_eq_of_mem_set hp with q | rfl
    · exact H.at_ p q
    · exact absurd rfl c
theorem Hs.app (H : Hs L σ) (o : MO) : Hs L (σ ++ [o]) := ⟨H.nd, fun p hp => (List.getElem?_append_left (get_lt (H.at_ p hp))).trans (H.at_ p hp)⟩
theorem get_new : (σ ++ [o])[σ.length]? = some o := List.getElem?_concat_length ..
theorem Hs.new (H : Hs L σ) (o : MO) : Hs ((σ.length, o) :: L) (σ ++ [o]) := ⟨List.nodup_cons.mpr ⟨fun h => by
    obtain ⟨p, hp, e⟩ := List.mem_map.mp h
    exact Nat.lt_irrefl _ (e ▸ get_lt (H.at_ p hp)), H.nd⟩, fun p hp => by
  rcases List.mem_cons.mp hp with rfl | hp
  · exact get_new
  · exact (H.app o).at_ p hp⟩
theorem Hs.perm (H : Hs L σ) (p : L.Perm L') : Hs L' σ := ⟨(p.map _).nodup_iff.mp H.nd, fun q hq => H.at_ q (p.mem_iff.mpr hq)⟩
theorem Hs.sub (H : Hs L σ) (p : L'.Sublist L) : Hs L' σ := ⟨(p.map _).nodup H.nd, fun q hq => H.at_ q (p.mem hq)⟩
end

/-! the machine and its undo log, as plain data -/
structure Mc where
  regs : List Int
  pc : Int
  mem : List UInt8
  out : List UInt8
  status : Int
  done : Bool
structure Mc.Ok (b : Nat) (m : Mc) : Prop where
  len : m.regs.length = 32
  reg : ∀ r ∈ m.regs, 0 ≤ r ∧ r ≤ 4294967295
  mem : m.mem.length = 128
  out : m.out.length ≤ b
inductive Ent where
  | r (k v : Int) | m (a : Int) (b : List UInt8) | out (n : Int) | st (v : Int)
noncomputable def Ent.mv (e : Ent) : MV := Ent.casesOn e (fun k v => .tup [.str "r", .int k, .int v]) (fun a b => .tup [.str "m", .int a, .bytes b]) (fun n => .tup [.str "out", .int n]) fun v => .tup [.str "status", .int v]
noncomputable def pcMv (v : Int) : MV := .tup [.str "pc", .int v]
noncomputable def memPut (l : List UInt8) (a : Int) (b : List UInt8) : List UInt8 := l.take a.toNat ++ b ++ l.drop (a + b.length).toNat
noncomputable def undo1 (e : Ent) (m : Mc) : Mc := Ent.casesOn e (fun k v => { m with regs := m.regs.set k.toNat v }) (fun a b => { m with mem := memPut m.mem (a - 4096) b }) (fun n => { m with out := m.out.take n.toNat }) fun v => { m with status := v, done := false }
noncomputable def Safe (e : Ent) (m : Mc) : Prop := Ent.casesOn e (fun k v => 0 ≤ k ∧ k < 32 ∧ 0 ≤ v ∧ v ≤ 4294967295) (fun a b => 4096 ≤ a ∧ a - 4096 + b.length ≤ 128) (fun n => 0 ≤ n ∧ n ≤ m.out.length) fun _ => True
/-- the entries of one step, the newest first; the place that it began with -/
abbrev Stp := List Ent × Int
noncomputable def Und (es : List Ent) (v : Int) (m k : Mc) : Prop := List.rec (motive := fun _ => Mc → Prop) (fun m => { m with pc := v } = k) (fun e _ f m => Safe e m ∧ f (undo1 e m)) es m
noncomputable def Chain (st : List Stp) : List Mc → Mc → Prop := List.rec (motive := fun _ => List Mc → Mc → Prop) (fun kp _ => kp = []) (fun s _ f kp m => List.casesOn kp False fun k ks => Und s.1 s.2 m k ∧ f ks k) st
noncomputable def addEnt (e : Ent) (st : List Stp) : List Stp := List.casesOn st [] fun s ss => (e :: s.1, s.2) :: ss
section
variable {e : Ent} {m m' k : Mc} {x v : Int} {es : List Ent} {st : List Stp} {kp : List Mc} {b : Nat}
theorem und_pc (x : Int) (h : Und es v m k) : Und es v { m with pc := x } k := by
  induction es generalizing m with
  | nil => exact h
  | cons e es ih => exact ⟨by cases e <;> exact h.1, by cases e <;> exact ih h.2⟩
theorem chain_pc (x : Int) (h : Chain st kp m) : Chain st kp { m with pc := x } := by
  cases st with
  | nil => exact h
  | cons s st => cases kp with
    | nil => exact h
    | cons k ks => exact ⟨und_pc x h.1, h.2⟩
theorem chain_add (h : Chain st kp m) (hs : Safe e m') (he : undo1 e m' = m) : Chain (addEnt e st) kp m' := by
  cases st with
  | nil => exact h
  | cons s st => cases kp with
    | nil => exact h
    | cons k ks => exact ⟨⟨hs, he.symm ▸ h.1⟩, h.2⟩
theorem chain_new (h : Chain st kp m) : Chain (([], m.pc) :: st) (m :: kp) m := ⟨rfl, h⟩
theorem chain_len (h : Chain st kp m) : st.length = kp.length := by
  induction st generalizing kp m with
  | nil => obtain rfl : kp = [] := h; rfl
  | cons s st ih => cases kp with
    | nil => exact h.elim
    | cons k ks => exact congrArg (· + 1) (ih h.2)
theorem chain_take (n : Nat) (h : Chain st kp m) : Chain (st.take n) (kp.take n) m := by
  induction n generalizing st kp m with
  | zero => rw [List.take_zero, List.take_zero]; rfl
  | succ n ih => cases st with
    | nil => obtain rfl : kp = [] := h; rfl
    | cons s st => cases kp with
      | nil => exact h.elim
      | cons k ks => exact ⟨h.1, ih h.2⟩
theorem memPut_len {l b : List UInt8} {a : Int} (h : 0 ≤ a) (h2 : a + b.length ≤ l.length) : (memPut l a b).length = l.length := by
  unfold memPut
  obtain ⟨k, rfl⟩ := Int.eq_ofNat_of_zero_le h
  have h2 : k + b.length ≤ l.length := Int.ofNat_le.mp h2
  rw [List.length_append, List.length_append, List.length_take, List.length_drop]
  show min k l.length + b.length + (l.length - (k + b.length)) = _
  rw [Nat.min_eq_left (Nat.le_trans (Nat.le_add_right _ _) h2), Nat.add_sub_cancel' h2]
theorem undo1_ok (o : m.Ok b) (h : Safe e m) : (undo1 e m).Ok b := by
  cases e with
  | r k v => exact ⟨(List.length_set ..).trans o.len, fun r hr => (List.mem_or_eq_of_mem_set hr).elim (o.reg r) fun e => e ▸ h.2.2, o.mem, o.out⟩
  | m a c => exact ⟨o.len, o.reg, (memPut_len (Int.sub_nonneg_of_le h.1) (by rw [o.mem]; exact h.2)).trans o.mem, o.out⟩
  | out n => exact ⟨o.len, o.reg, o.mem, Nat.le_trans (Nat.le_trans (Nat.le_of_eq (List.length_take ..)) (Nat.min_le_right ..)) o.out⟩
  | st v => exact ⟨o.len, o.reg, o.mem, o.out⟩
end
noncomputable def mfields (m : Mc) (lg : MV) : List (Str × MV) := [("base", .int 4096), ("size", .int 128), ("memory", .ref 6), ("registers", .ref 7), ("pc", .int m.pc), ("output", .ref 8), ("status", .int m.status), ("is_done", .bool m.done), ("log", lg), ("known", .ref 9)]
noncomputable def rfields (most : Nat) (s : Nat) : List (Str × MV) := [("machine", .ref 5), ("most", .int most), ("steps", .ref s)]
noncomputable def stpMvs (t : Stp) : List MV := pcMv t.2 :: t.1.reverse.map Ent.mv
noncomputable def lgOf (on : Bool) : MV := Bool.casesOn on .none (.ref 13)
/-- what stands still while the machine works; what moves -/
structure Fx where
  o1 : MO
  o2 : MO
  o3 : MO
  o4 : MO
  kx : Nat
  s : Nat
  most : Nat
  on : Bool
structure Mh where
  m : Mc
  kn : List (Int × MV)
  sl : List (Nat × Stp)
  kp : List Mc
  b : Nat
noncomputable abbrev Mh.st (h : Mh) : List Stp := h.sl.map (·.2)
noncomputable def slay (sl : List (Nat × Stp)) : List (Nat × MO) := sl.map fun p => (p.1, .list (stpMvs p.2))
noncomputable def lay (F : Fx) (h : Mh) : List (Nat × MO) := (2, F.o2) :: (1, F.o1) :: (3, F.o3) :: (F.kx, F.o4) :: (5, .inst "Machine" (mfields h.m (lgOf F.on))) :: (6, .ba h.m.mem) :: (7, .list (h.m.regs.map .int)) :: (8, .ba h.m.out) :: (9, .idict h.kn) ::
  (13, .inst "Record" (rfields F.most F.s)) :: (F.s, .list (h.sl.reverse.map fun p => .ref p.1)) :: slay h.sl
/-- a word's reading -/
noncomputable def KnOk (v : MV) : Prop := ∃ a ∈ decs, GV (fun _ _ => False) a v
structure Rp (F : Fx) (h : Mh) (σ : St) : Prop where
  hs : Hs (lay F h) σ
  ok : h.m.Ok h.b
  kl : h.kn.length ≤ h.b
  kn : ∀ p ∈ h.kn, KnOk p.2
  sb : ∀ p ∈ h.sl, p.2.1.length ≤ h.b
  len : h.sl.length ≤ F.most
  most : F.most ≤ 6
  off : F.on = false → h.sl = []
  bb : h.b ≤ 900
  ch : Chain h.st h.kp h.m
end Mine
end
section
set_option genCtorIdx false
namespace Mine

/-- worlds whose moving part is G and some values more, named by 20 and on -/
noncomputable def worG (G : Type) (P : List (MV → Prop)) (I : Nat → G × List MV → St → Prop) : Wor where
  W := G × List MV
  le a b := a.2 <+: b.2
  refl w := List.prefix_rfl
  trans h h' := h.trans h'
  X w k v := P.getD k (fun v => w.2[k - 20]? = some v) v
  up := fun {a b} h k v x => by
    unfold List.getD at x ⊢
    cases e : P[k]? with
    | some p => rw [e] at x; exact x
    | none =>
      rw [e] at x
      obtain ⟨r, e⟩ := h
      show b.2[k - 20]? = some v
      have x : a.2[k - 20]? = some v := x
      rw [← e, List.getElem?_append_left (List.getElem?_eq_some_iff.mp x).1]
      exact x
  I := I
/-- several worlds' tables run -/
noncomputable def run (t : Tab) (n : Nat) (c f : Str) (avs : List AV) (m : Nat) (k : KV) : Bool := (tabN tabE t n).op (.call c f) avs m k
theorem run_ok {R : Wor} {T : St → Prop} {t : Tab} {j : Nat} (ok : ∀ n, TabOk (j + n) R T t) {n : Nat} {c f : Str} {avs : List AV} {m : Nat} {k : KV} (h : run t n c f avs m k = true) {w : R.W} {σ : St} {vs : List MV} (i : R.I m w σ) (g : GL (R.X w) avs vs) {Q : MV → St → Prop} (q : After R w k Q) : CalS (j + n) c f vs σ Q T :=
  (tabN_ok (fun _ => tabE_ok) ok n |>.op h i g q : OpS (j + n) σ Q T (.call c f) vs).2
/-- with loops -/
noncomputable def runL (t : Tab) (n : Nat) (c f : Str) (avs : List AV) (m : Nat) (k : KV) : Bool := (tabN t t n).op (.call c f) avs m k
theorem runL_ok {R : Wor} {T : St → Prop} {t : Tab} {j : Nat} (ok : ∀ n T, TabOk (j + n) R T t) {n : Nat} {c f : Str} {avs : List AV} {m : Nat} {k : KV} (h : runL t n c f avs m k = true) {w : R.W} {σ : St} {vs : List MV} (i : R.I m w σ) (g : GL (R.X w) avs vs) {Q : MV → St → Prop} (q : After R w k Q) : CalS (j + n) c f vs σ Q T :=
  (tabN_ok (fun n => ok n _) (fun n => ok n _) n |>.op h i g q : OpS (j + n) σ Q T (.call c f) vs).2
/-- several statements of a def that is walked by hand -/
theorem ss_of {R : Wor} {T : St → Prop} {t : Tab} {n : Nat} {S : Sc} {ss : List Stmt} (he : (bodyT ss).out.ss = ss) (ok : ∀ T, TabOk n R T t) {as : List AN} {m : Nat} {k : Option AV → List AN → Nat → Bool} (h : (den t S.ns (fun e => den t S.ns (fun _ => none3) e) (bodyT ss)).ss as m k = true)
    {w : R.W} {σ : St} {ws : List Nm} (i : R.I m w σ) (g : GE (R.X w) as ws) {K : Fl × Loc → St → Prop} (q : AfterS R w S k K) : ExLS n ⟨S, ws⟩ ss σ K T := by
  have := (den_ok (ok T) (fun e => den_ok (ok _) (fun _ => .none) e) (bodyT ss)).ss h i g q
  rw [he] at this
  exact this
/-- an expression of such a def -/
theorem ev_of {R : Wor} {T : St → Prop} {t : Tab} {n : Nat} {S : Sc} {e : Expr} (he : (toT 20 e).out.e = e) (ok : TabOk n R T t) {as : List AN} {m : Nat} {k : KV} (h : (den t S.ns (fun _ => none3) (toT 20 e)).ev as m k = true)
    {w : R.W} {σ : St} {ws : List Nm} (i : R.I m w σ) (g : GE (R.X w) as ws) {Q : MV → St → Prop} (q : After R w k Q) : EvS n ⟨S, ws⟩ e σ Q T := by
  have := (den_ok ok (fun _ => .none) (toT 20 e)).ev h i g q
  rw [he] at this
  exact this
theorem CalS.up {n n' : Nat} {c f : Str} {vs : List MV} {σ : St} {Q : MV → St → Prop} {T : St → Prop} (h : CalS n c f vs σ Q T) (l : n ≤ n') : CalS n' c f vs σ Q T := fun k w a d Vs h1 h2 h3 F i r => h k w a d Vs h1 h2 h3 (F.le l) i r
abbrev xx (k : Nat) : AV := .s (.x k)
abbrev non : AV := .s .non
abbrev bit (c : Bool) : AV := .s (.bit (some c))
abbrev num : AV := .s (.int none)
theorem GV.xx {X : Nat → MV → Prop} {k : Nat} {v : MV} (h : X k v) : GV X (xx k) v := .s (.x h)
theorem GV.n {X : Nat → MV → Prop} : GV X non .none := .s .non
theorem GV.b {X : Nat → MV → Prop} {c : Bool} : GV X (bit c) (.bool c) := .s (.bit .of)
noncomputable def allM : List Nat := List.range 15
section
variable {n : Nat} {R : Wor} {T : St → Prop} {k : Nat} {a : Str} {ms : List Nat} {r : AV} {m m' : Nat}
/-- a comparison -/
theorem rCmp {o : CmpOp} {a b : AV} {c : Bool} (h : ∀ {m w σ}, m ∈ ms → R.I m w σ → ∀ u v, GV (R.X w) a u → GV (R.X w) b v → CmpS o u v σ c) : Row.Ok n R T ⟨.cmp o, pat [a, b] (keep ms (bit c))⟩ :=
  rKeep fun hm i g q => GL.e2 g fun u v gu gv => CmpQ.mk (h hm i u v gu gv) (q _ .b)
theorem rBin {o : Operator} {a b : AV} (h : ∀ {m w σ Q}, R.I m w σ → ∀ u v, GV (R.X w) a u → GV (R.X w) b v → (∀ x, GV (R.X w) r x → Q x σ) → BinS o u v σ Q T) : Row.Ok n R T ⟨.bin o, pat [a, b] (keep ms r)⟩ :=
  rKeep fun _ i g q => GL.e2 g fun u v gu gv => h i u v gu gv q
theorem rItem {a b : AV} (h : ∀ {m w σ Q}, m ∈ ms → R.I m w σ → ∀ u v, GV (R.X w) a u → GV (R.X w) b v → (∀ x, GV (R.X w) r x → Q x σ) → ItemS u v σ Q T) : Row.Ok n R T ⟨.item, pat [a, b] (keep ms r)⟩ :=
  rKeep fun hm i g q => GL.e2 g fun u v gu gv => h hm i u v gu gv q
end
theorem ft_ne {c f : Str} (h : (FT c f).isSome = true) : FT c f ≠ none := fun e => by rw [e] at h; exact no h
theorem rCall {n : Nat} {R : Wor} {T : St → Prop} {c f : Str} {as : List AV} {m m' : Nat} {r : AV} (hf : (FT c f).isSome = true) (h : ∀ {w vs σ Q}, R.I m w σ → GL (R.X w) as vs → (∀ w' v σ', R.le w w' → R.I m' w' σ' → GV (R.X w') r v → Q v σ') → CalS n c f vs σ Q T) : Row.Ok n R T ⟨.call c f, pat as (on m [(r, m')])⟩ :=
  rOn fun i g q => ⟨ft_ne hf, h i g q⟩
theorem one_int {x y : Int} {X : Nat → MV → Prop} {v : MV} (h : x = y) (g : GV X (.int x y) v) : v = .int x := by
  subst h
  exact GV.iE g fun z i => by rw [Int.le_antisymm (i _ rfl).2 (i _ rfl).1]

theorem hit {α : Type} {P : α → Prop} {a : α} {l : List α} (h : P a) (t : ∀ x ∈ l, P x) : ∀ x ∈ a :: l, P x := List.forall_mem_cons.mpr ⟨h, t⟩
theorem hit0 {α : Type} {P : α → Prop} : ∀ x ∈ ([] : List α), P x := fun _ h => nomatch h
/-- a tuple of what is named -/
noncomputable def vx (f : Nat → MV) (a : A0) : MV := A0.casesOn a (fun _ => .none) (fun s => .str s) .none (fun _ => .none) (fun _ => .none) f
theorem vx_x {X : Nat → MV → Prop} {f : Nat → MV} {k : Nat} (h : ∀ v, X k v → v = f k) : ∀ v, G0 X (.x k) v → v = vx f (.x k) := fun v g => h v (A0.xE rfl g)
theorem vx_s {X : Nat → MV → Prop} {f : Nat → MV} {s : Str} : ∀ v, G0 X (.str s) v → v = vx f (.str s) := fun v g => A0.sE rfl g
theorem tupE {X : Nat → MV → Prop} {l : List A0} {v : MV} (f : Nat → MV) (g : GV X (.tup l) v) (h : ∀ a ∈ l, ∀ v, G0 X a v → v = vx f a) : v = .tup (l.map (vx f)) := by
  obtain ⟨vs, rfl, gs⟩ := g.inv
  refine congrArg MV.tup ?_
  clear g
  induction gs with
  | nil => rfl
  | cons g0 _ ih => rw [List.map_cons, ← h _ (.head _) _ g0, ← ih fun a ha => h a (.tail _ ha)]
/-! built-in methods; methods of the text's own -/
structure Met where
  a : AV
  m : Str
  ms : List Nat
  id : String
noncomputable def metL (l : List Met) (x : AV) (m : Str) (mo : Nat) : Option String := (l.find? fun e => x.le e.a && (decide (m = e.m) && e.ms.contains mo)).map (·.id)
structure Ow where
  a : AV
  ms : List Nat
  c : Str
noncomputable def ownL (l : List Ow) (x : AV) (m : Str) (mo : Nat) : Option Str := (l.find? fun e => x.le e.a && (e.ms.contains mo && ((FT e.c m).isSome && (!isProp e.c m && !isField m)))).map (·.c)
/-- an object -/
structure IsIn (σ : St) (v : MV) (c : Str) (i : Nat) (l : List (Str × MV)) : Prop where
  v : v = .ref i
  e : σ[i]? = some (.inst c l)
  f : l.all (fun p => isField p.1) = true
theorem metL_ok {R : Wor} {l : List Met} (h : ∀ e ∈ l, ∀ {mo w v σ}, mo ∈ e.ms → R.I mo w σ → GV (R.X w) e.a v → FindS v e.m e.id σ) {a : AV} {m : Str} {id : String} {mo : Nat} {w : R.W} {v : MV} {σ : St} (q : metL l a m mo = some id) (i : R.I mo w σ) (g : GV (R.X w) a v) : FindS v m id σ := by
  obtain ⟨e, he, rfl⟩ := Option.map_eq_some_iff.mp q
  have hp := List.find?_some he
  rw [Bool.and_eq_true, Bool.and_eq_true, decide_eq_true_eq] at hp
  rw [hp.2.1]
  exact h e (List.mem_of_find?_eq_some he) (List.contains_iff_mem.mp hp.2.2) i (AV.le_ok hp.1 g)
theorem ownL_ok {R : Wor} {l : List Ow} (h : ∀ e ∈ l, ∀ {mo w v σ}, mo ∈ e.ms → R.I mo w σ → GV (R.X w) e.a v → ∃ i l, IsIn σ v e.c i l) {a : AV} {m c : Str} {mo : Nat} {w : R.W} {v : MV} {σ : St} (q : ownL l a m mo = some c) (i : R.I mo w σ) (g : GV (R.X w) a v) :
    ∃ i l d, v = .ref i ∧ σ[i]? = some (.inst c l) ∧ getK l m = none ∧ isProp c m = false ∧ FT c m = some d := by
  obtain ⟨e, he, rfl⟩ := Option.map_eq_some_iff.mp q
  have hp := List.find?_some he
  rw [Bool.and_eq_true, Bool.and_eq_true, Bool.and_eq_true, Bool.and_eq_true, Bool.not_eq_true', Bool.not_eq_true'] at hp
  obtain ⟨d, ed⟩ := Option.isSome_iff_exists.mp hp.2.2.1
  obtain ⟨j, l, y⟩ := h e (List.mem_of_find?_eq_some he) (List.contains_iff_mem.mp hp.2.1) i (AV.le_ok hp.1 g)
  refine ⟨j, l, d, y.v, y.e, ?_, hp.2.2.2.1, ed⟩
  unfold getK
  rw [List.find?_eq_none.mpr fun p q e => ?_]
  · rfl
  · have := List.all_eq_true.mp y.f p q
    rw [of_decide_eq_true e, hp.2.2.2.2] at this
    exact no this
/-! Record.append -/
noncomputable def kind (e : Ent) : Str := Ent.casesOn e (fun _ _ => "r") (fun _ _ => "m") (fun _ => "out") fun _ => "status"
noncomputable def addSl (e : Ent) (sl : List (Nat × Stp)) : List (Nat × Stp) := List.casesOn sl [] fun p r => (p.1, (e :: p.2.1, p.2.2)) :: r
noncomputable def preE (F : Fx) (h : Mh) (e : Ent) : List (MV → Prop) := [(· = .ref 13), (· = .ref F.s), (· = .ref (h.sl.headD (0, ([], 0))).1), (· = e.mv), (· = .str (kind e))]
noncomputable def InE (F : Fx) (h : Mh) (e : Ent) (m : Nat) (w : Unit × List MV) (σ : St) : Prop := [Hs (lay F h) σ ∧ w.2 = [], Hs (lay F h) σ ∧ ∃ i, w.2 = [.ref i] ∧ σ[i]? = some (.list []), Hs (lay F { h with sl := addSl e h.sl }) σ].getD m False
noncomputable abbrev worE (F : Fx) (h : Mh) (e : Ent) : Wor := worG Unit (preE F h e) (InE F h e)
noncomputable def rowsE (c : Bool) : List Row := [⟨.item, pat [xx 3, .int 0 0] (keep [0] (xx 4))⟩, ⟨.cmp .Eq, pat [xx 4, .s (.str "pc")] (keep [0] (bit false))⟩, ⟨.attr "steps", pat [xx 0] (keep [0, 1] (xx 1))⟩, ⟨.lst, pat [] (on 0 [(xx 20, 1)])⟩, ⟨.cmp .NotEq, pat [xx 1, xx 20] (keep [1] (bit (!c)))⟩] ++
  bif c then [] else [⟨.item, pat [xx 1, .int (-1) (-1)] (keep [1] (xx 2))⟩, ⟨.met "list.append", pat [xx 2, xx 3] (on 1 [(non, 2)])⟩]
noncomputable def tabE1 (c : Bool) : Tab := tabR (rowsE c) (fun _ _ _ => none) (metL (bif c then [] else [⟨xx 2, "append", [1], "list.append"⟩])) (fun _ => false)
section
variable {F : Fx} {h : Mh} {e : Ent} {σ : St} {n : Nat} {T : St → Prop}
theorem Hs01 {m : Nat} {w : Unit × List MV} (i : InE F h e m w σ) (hm : m ∈ [0, 1]) : Hs (lay F h) σ := by
  rcases List.mem_cons.mp hm with rfl | hm
  · exact i.1
  · obtain rfl := List.mem_singleton.mp hm
    exact i.1
theorem addSl_lay {p : Nat × Stp} {r : List (Nat × Stp)} (hs : h.sl = p :: r) : lay F { h with sl := addSl e h.sl } = (lay F h).set 11 (p.1, .list (stpMvs p.2 ++ [e.mv])) := by
  have : stpMvs (e :: p.2.1, p.2.2) = stpMvs p.2 ++ [e.mv] := by
    unfold stpMvs
    rw [List.reverse_cons, List.map_append]
    rfl
  unfold lay
  rw [hs, ← this]
  show _ = _ :: _ :: _ :: _ :: _ :: _ :: _ :: _ :: _ :: _ :: _ :: _ :: _
  rw [List.reverse_cons, List.map_append]
  show _ :: _ :: _ :: _ :: _ :: _ :: _ :: _ :: _ :: _ :: (F.s, MO.list (((p.1, (e :: p.2.1, p.2.2)) :: r).reverse.map _)) :: _ = _
  rw [List.reverse_cons, List.map_append]
  rfl
theorem ne_cons {α : Type} {l : List α} (h : l.isEmpty = false) : ∃ p r, l = p :: r := by
  cases l with
  | nil => exact no h.symm
  | cons p r => exact ⟨p, r, rfl⟩
theorem tabE1_ok {c : Bool} (hc : h.sl.isEmpty = c) (hl : h.sl.length ≤ 100) (hb : ∀ p ∈ h.sl, p.2.1.length ≤ 1000) : TabOk n (worE F h e) T (tabE1 c) where
  op := rows_ok (by
    refine List.forall_mem_append.mpr ⟨hit ?_ (hit ?_ (hit ?_ (hit ?_ (hit ?_ hit0)))), ?_⟩
    · refine rItem fun _ i u v gu gv q => ?_
      obtain rfl : u = e.mv := gu.xE
      rw [one_int rfl gv]
      cases e <;> exact i_tup (by decide) (by decide) rfl (q _ (.xx rfl))
    · refine rCmp fun _ i u v gu gv => ?_
      obtain rfl : u = .str (kind e) := gu.xE
      rw [gv.strE]
      have : (kind e == ("pc" : Str)) = false := by cases e <;> kernel_rfl
      exact this ▸ c_eqS
    · refine rKeep fun hm i g q => GL.e1 g fun u gu => ?_
      obtain rfl : u = .ref 13 := gu.xE
      exact at_field ((Hs01 i hm).get 9 rfl) (by decide +kernel) rfl (q _ (.xx rfl))
    · refine rOn fun {w vs σ Q} i g q => GL.e0 g ?_
      obtain ⟨H, ew⟩ := i
      exact ⟨Nat.zero_le _, q ((), [.ref σ.length]) _ _ (ew ▸ List.nil_prefix) ⟨H.app _, _, rfl, get_new⟩ (.xx rfl)⟩
    · refine rCmp fun {m w σ} hm i u v gu gv => ?_
      obtain rfl := List.mem_singleton.mp hm
      obtain ⟨H, j, ew, ej⟩ := i
      obtain rfl : u = .ref F.s := gu.xE
      obtain rfl : v = .ref j := by
        have e2 : w.2[0]? = some v := gv.xE
        rw [ew] at e2
        exact (Option.some.inj e2).symm
      refine (?_ : (!h.sl.isEmpty) = !c) ▸ ?_
      · rw [hc]
      · have := c_neL (H.get 10 rfl) ej
        rw [List.isEmpty_map, List.isEmpty_reverse] at this
        exact this
    · cases c with
      | true => exact hit0
      | false =>
        obtain ⟨p, r, hs⟩ := ne_cons hc
        refine hit ?_ (hit ?_ hit0)
        · refine rItem fun hm i u v gu gv q => ?_
          obtain rfl := List.mem_singleton.mp hm
          obtain rfl : u = .ref F.s := gu.xE
          rw [one_int rfl gv]
          refine i_last (i.1.get 10 rfl) (v := .ref p.1) ?_ (q _ (.xx (by show _ = MV.ref (h.sl.headD (0, ([], 0))).1; rw [hs]; rfl)))
          rw [hs, List.reverse_cons, List.map_append]
          exact List.getLast?_concat ..
        · refine rOn fun {w vs σ Q} i g q => GL.e2 g fun u v gu gv => ?_
          obtain rfl : u = .ref (h.sl.headD (0, ([], 0))).1 := gu.xE
          obtain rfl : v = e.mv := gv.xE
          rw [hs]
          have e1 : (lay F h)[11]? = some (p.1, .list (stpMvs p.2)) := by unfold lay; rw [hs]; rfl
          refine f_listApp (i.1.get 11 e1) (by have := hb p (hs ▸ .head _); unfold stpMvs sz; rw [List.length_cons, List.length_map, List.length_reverse]; omega) (q w _ _ List.prefix_rfl (show Hs (lay F _) _ from ?_) .n)
          rw [addSl_lay hs]
          exact i.1.set 11 e1 _)
  own := fun h => noO h
  met := metL_ok (by
    cases c with
    | true => exact hit0
    | false =>
      refine hit (fun {mo w v σ} hm i g => ?_) hit0
      obtain rfl := List.mem_singleton.mp hm
      obtain ⟨p, r, hs⟩ := ne_cons hc
      obtain rfl : v = .ref (h.sl.headD (0, ([], 0))).1 := g.xE
      rw [hs]
      exact m_listApp (i.1.get 11 (o := .list (stpMvs p.2)) (by unfold lay; rw [hs]; rfl)))
  trap := fun h => no h
theorem look_e (c : Bool) : run (tabE1 c) 1 "Record" "append" [xx 0, xx 3] 0 (fun _ m => decide (m = bif c then 1 else 2)) = true := by cases c <;> kernel_rfl
theorem sp_append_e (H : Hs (lay F h) σ) (hl : h.sl.length ≤ 100) (hb : ∀ p ∈ h.sl, p.2.1.length ≤ 1000) {Q : MV → St → Prop} (q : ∀ v σ', Hs (lay F { h with sl := addSl e h.sl }) σ' → Q v σ') : CalS 1 "Record" "append" [.ref 13, e.mv] σ Q T := by
  refine run_ok (R := worE F h e) (j := 0) (fun _ => tabE1_ok rfl hl hb) (look_e _) (w := ((), [])) ⟨H, rfl⟩ (.cons (.xx rfl) (.cons (.xx rfl) .nil)) fun av m w v σ hk _ i _ => q _ _ ?_
  rw [of_decide_eq_true hk] at i
  cases hs : h.sl with
  | nil =>
    rw [hs] at i
    have e1 : ({ h with sl := [] } : Mh) = h := by rw [← hs]
    show Hs (lay F { h with sl := [] }) _
    rw [e1]
    exact i.1
  | cons p r =>
    rw [hs] at i
    exact hs ▸ i
/-- a new step -/
theorem push_lay {i : Nat} {t : Stp} (H : Hs ((i, .list (stpMvs t)) :: (lay F h).set 10 (F.s, .list (h.sl.reverse.map (fun p => .ref p.1) ++ [.ref i]))) σ) : Hs (lay F { h with sl := (i, t) :: h.sl }) σ := by
  have e : (((i, t) :: h.sl).reverse.map fun p => MV.ref p.1) = h.sl.reverse.map (fun p => .ref p.1) ++ [.ref i] := by rw [List.reverse_cons, List.map_append]; rfl
  rw [← e] at H
  exact H.perm (List.perm_middle (l₁ := (lay F { h with sl := (i, t) :: h.sl }).take 11) (l₂ := slay h.sl)).symm
theorem rev_pop {α : Type} {l : List α} {k : Nat} (h : l.length = k + 1) : ∃ x, l.reverse = x :: (l.take k).reverse := by
  obtain ⟨x, e⟩ := List.length_eq_one_iff.mp (by rw [List.length_drop, h]; exact Nat.add_sub_cancel_left .. : (l.drop k).length = 1)
  exact ⟨x, by rw [← List.singleton_append (x := x), ← List.reverse_singleton, ← e, ← List.reverse_append, List.take_append_drop]⟩
noncomputable def preP (F : Fx) (h : Mh) (v : Int) : List (MV → Prop) := [(· = .ref 13), (· = .ref F.s), (fun _ => True), (· = pcMv v), (· = .int (h.sl.length + 1 : Nat)), (· = .int F.most)]
noncomputable def InP (F : Fx) (h : Mh) (v : Int) (m : Nat) (w : Unit × List MV) (σ : St) : Prop := [Hs (lay F h) σ ∧ w.2 = [], ∃ i, w.2 = [.ref i] ∧ Hs ((i, .list (stpMvs ([], v))) :: lay F h) σ, ∃ i, Hs (lay F { h with sl := (i, ([], v)) :: h.sl }) σ, ∃ i, Hs (lay F { h with sl := ((i, ([], v)) :: h.sl).take F.most }) σ].getD m False
noncomputable abbrev worP (F : Fx) (h : Mh) (v : Int) : Wor := worG Unit (preP F h v) (InP F h v)
noncomputable def rowsP (c : Bool) : List Row := [⟨.item, pat [xx 3, .int 0 0] (keep [0] (.s (.str "pc")))⟩, ⟨.attr "steps", pat [xx 0] (keep [0, 2] (xx 1))⟩, ⟨.lst, pat [xx 3] (on 0 [(xx 20, 1)])⟩, ⟨.met "list.append", pat [xx 1, xx 20] (on 1 [(non, 2)])⟩,
  ⟨.blt "len", pat [xx 1] (keep [2] (xx 4))⟩, ⟨.attr "most", pat [xx 0] (keep [2] (xx 5))⟩, ⟨.cmp .Gt, pat [xx 4, xx 5] (keep [2] (bit c))⟩] ++ bif c then [⟨.met "list.pop", pat [xx 1, .int 0 0] (on 2 [(xx 2, 3)])⟩] else []
noncomputable def tabP1 (c : Bool) : Tab := tabR (rowsP c) (fun _ _ _ => none) (metL [⟨xx 1, "append", [0], "list.append"⟩, ⟨xx 1, "pop", [2], "list.pop"⟩]) (fun _ => false)
theorem mem2 {P : Nat → Prop} {a b m : Nat} (hm : m ∈ [a, b]) (h : P a) (h' : P b) : P m := by
  rcases List.mem_cons.mp hm with rfl | hm
  · exact h
  · obtain rfl := List.mem_singleton.mp hm
    exact h'
theorem InP.st {v : Int} {m : Nat} {w : Unit × List MV} (i : InP F h v m w σ) (hm : m ∈ [0, 2]) : ∃ l, Hs (lay F { h with sl := l }) σ := mem2 (P := fun m => InP F h v m w σ → _) hm (fun i => ⟨h.sl, i.1⟩) (fun i => let ⟨j, H⟩ := i; ⟨_, H⟩) i
theorem tabP1_ok {v : Int} {c : Bool} (hc : decide (h.sl.length + 1 > F.most) = c) (hl : h.sl.length ≤ F.most) (hM : F.most ≤ 100) : TabOk n (worP F h v) T (tabP1 c) where
  op := rows_ok (by
    refine List.forall_mem_append.mpr ⟨hit ?_ (hit ?_ (hit ?_ (hit ?_ (hit ?_ (hit ?_ (hit ?_ hit0)))))), ?_⟩
    · refine rItem fun _ i u x gu gx q => ?_
      obtain rfl : u = pcMv v := gu.xE
      rw [one_int rfl gx]
      exact i_tup (by decide) (by decide) rfl (q _ (.s .str))
    · refine rKeep fun hm i g q => GL.e1 g fun u gu => ?_
      obtain rfl : u = .ref 13 := gu.xE
      obtain ⟨l, H⟩ := InP.st i hm
      exact at_field (H.get 9 rfl) (by decide +kernel) rfl (q _ (.xx rfl))
    · refine rOn fun {w vs σ Q} i g q => GL.e1 g fun u gu => ?_
      obtain rfl : u = pcMv v := gu.xE
      exact ⟨Nat.le_add_left 1 _, q ((), [.ref σ.length]) _ _ (i.2 ▸ List.nil_prefix) ⟨_, rfl, i.1.new _⟩ (.xx rfl)⟩
    · refine rOn fun {w vs σ Q} i g q => GL.e2 g fun u x gu gx => ?_
      obtain ⟨j, ew, H⟩ := i
      obtain rfl : u = .ref F.s := gu.xE
      have ex : w.2[0]? = some x := gx.xE
      rw [ew] at ex
      obtain rfl := Option.some.inj ex
      exact f_listApp (H.get 11 rfl) (by rw [List.length_map, List.length_reverse]; exact Nat.le_trans (Nat.le_trans hl hM) (by decide)) (q w _ _ List.prefix_rfl ⟨j, push_lay (H.set 11 rfl _)⟩ .n)
    · refine rKeep fun hm i g q => GL.e1 g fun u gu => ?_
      obtain rfl := List.mem_singleton.mp hm
      obtain rfl : u = .ref F.s := gu.xE
      obtain ⟨j, H⟩ := i
      have hz : (((j, (([], v) : Stp)) :: h.sl).reverse.map fun p => MV.ref p.1).length = h.sl.length + 1 := by rw [List.length_map, List.length_reverse]; rfl
      exact blt_of (V := .builtin "len") (by unfold blts; rfl) (f_len_list (H.get 10 rfl) (by rw [hz]; exact Nat.le_trans (Nat.add_le_add_right (Nat.le_trans hl hM) 1) (by decide)) (hz ▸ q _ (.xx rfl)))
    · refine rKeep fun hm i g q => GL.e1 g fun u gu => ?_
      obtain rfl := List.mem_singleton.mp hm
      obtain rfl : u = .ref 13 := gu.xE
      obtain ⟨j, H⟩ := i
      exact at_field (H.get 9 rfl) (by decide +kernel) rfl (q _ (.xx rfl))
    · refine rCmp fun _ _ u x gu gx => ?_
      obtain rfl : u = .int (h.sl.length + 1 : Nat) := gu.xE
      obtain rfl : x = .int F.most := gx.xE
      have : decide (((h.sl.length + 1 : Nat) : Int) > (F.most : Int)) = c := (decide_eq_decide.mpr Int.ofNat_lt).trans hc
      exact this ▸ c_gt
    · cases c with
      | false => exact hit0
      | true => exact hit (rOn fun {w vs σ Q} i g q => GL.e2 g fun u x gu gx => by
        obtain ⟨j, H⟩ := i
        obtain rfl : u = .ref F.s := gu.xE
        rw [one_int rfl gx]
        have hz : ((j, (([], v) : Stp)) :: h.sl).length = F.most + 1 := Nat.le_antisymm (Nat.add_le_add_right hl 1) (of_decide_eq_true hc)
        obtain ⟨y, ey⟩ := rev_pop hz
        have e := H.get 10 (i := F.s) (o := .list (((j, (([], v) : Stp)) :: h.sl).reverse.map fun p => .ref p.1)) rfl
        rw [ey, List.map_cons] at e
        exact f_listPop0 e (by rw [List.length_map, List.length_reverse, List.length_take]; exact Nat.lt_of_le_of_lt (Nat.le_trans (Nat.min_le_left ..) hM) (by decide))
          (q w _ _ List.prefix_rfl ⟨j, (H.set 10 rfl _).sub (List.Sublist.append_left ((List.take_sublist F.most _).map _) ((lay F { h with sl := ((j, (([], v) : Stp)) :: h.sl).take F.most }).take 11))⟩ (.xx trivial))) hit0)
  own := fun h => noO h
  met := metL_ok (hit (fun {mo w v σ} hm i g => by
      obtain rfl := List.mem_singleton.mp hm
      obtain rfl : v = .ref F.s := g.xE
      exact m_listApp (i.1.get 10 rfl)) (hit (fun {mo w v σ} hm i g => by
      obtain rfl := List.mem_singleton.mp hm
      obtain rfl : v = .ref F.s := g.xE
      obtain ⟨j, H⟩ := i
      exact m_listPop (H.get 10 rfl)) hit0))
  trap := fun h => no h
theorem look_p (c : Bool) : run (tabP1 c) 1 "Record" "append" [xx 0, xx 3] 0 (fun _ m => decide (m = bif c then 3 else 2)) = true := by cases c <;> kernel_rfl
theorem sp_append_p {v : Int} (H : Hs (lay F h) σ) (hl : h.sl.length ≤ F.most) (hm : F.most ≤ 100) {Q : MV → St → Prop} (q : ∀ u i σ', Hs (lay F { h with sl := ((i, ([], v)) :: h.sl).take F.most }) σ' → Q u σ') : CalS 1 "Record" "append" [.ref 13, pcMv v] σ Q T := by
  refine run_ok (R := worP F h v) (j := 0) (fun _ => tabP1_ok rfl hl hm) (look_p _) (w := ((), [])) ⟨H, rfl⟩ (.cons (.xx rfl) (.cons (.xx rfl) .nil)) fun av m w u σ hk _ i _ => ?_
  rw [of_decide_eq_true hk] at i
  by_cases c : h.sl.length + 1 > F.most
  · rw [decide_eq_true c] at i
    obtain ⟨j, H⟩ := i
    exact q _ j _ H
  · rw [decide_eq_false c] at i
    obtain ⟨j, H⟩ := i
    have e := List.take_of_length_le (l := (j, (([], v) : Stp)) :: h.sl) (Nat.not_lt.mp c)
    exact q _ j _ (by rw [e]; exact H)
end
end Mine
end
section
set_option genCtorIdx false
namespace Mine

/-! Machine.note -/
noncomputable def tabN1 (c : Bool) : Tab := tabR ([⟨.attr "log", pat [xx 0] (keep [0] (xx 1))⟩, ⟨.cmp .IsNot, pat [xx 1, non] (keep [0] (bit c))⟩] ++ bif c then [⟨.call "Record" "append", pat [xx 1, xx 2] (on 0 [(xx 3, 1)])⟩] else []) (ownL (bif c then [⟨xx 1, [0], "Record"⟩] else [])) (fun _ _ _ => none) (fun _ => false)
noncomputable abbrev worN (F : Fx) (h : Mh) (u : MV) (D : St → Prop) : Wor := worG Unit [(· = .ref 5), (· = lgOf F.on), (· = u), (fun _ => True)] fun m w σ => [Hs (lay F h) σ, D σ].getD m False
section
variable {F : Fx} {h : Mh} {e : Ent} {σ : St} {n : Nat} {T : St → Prop} {u : MV} {D : St → Prop}
theorem isnNone : CmpS .IsNot (lgOf F.on) .none σ F.on := by
  cases F.on with
  | true => exact c_isnRN
  | false => exact c_isnNN
theorem tabN1_ok {c : Bool} (hon : F.on = c) (hc : c = true → ∀ {σ Q}, Hs (lay F h) σ → (∀ v σ', D σ' → Q v σ') → CalS 1 "Record" "append" [.ref 13, u] σ Q T) : TabOk (1 + n) (worN F h u D) T (tabN1 c) where
  op := rows_ok (List.forall_mem_append.mpr ⟨hit (rKeep fun hm i g q => GL.e1 g fun u gu => by
      obtain rfl := List.mem_singleton.mp hm
      obtain rfl : u = .ref 5 := gu.xE
      exact at_field (i.get 4 rfl) (by decide +kernel) rfl (q _ (.xx rfl))) (hit (rCmp fun hm i u v gu gv => by
      obtain rfl : u = lgOf F.on := gu.xE
      rw [gv.nonE]
      exact hon ▸ isnNone) hit0), by
    cases c with
    | false => exact hit0
    | true => exact hit (rCall (by kernel_rfl) fun {w vs σ Q} i g q => GL.e2 g fun a b ga gb => by
        obtain rfl : a = lgOf F.on := ga.xE
        obtain rfl : b = u := gb.xE
        rw [hon]
        exact (hc rfl i fun v σ' d => q w v σ' List.prefix_rfl d (.xx trivial)).up (Nat.le_add_right 1 _)) hit0⟩)
  own := ownL_ok (by
    cases c with
    | false => exact hit0
    | true => exact hit (fun {mo w v σ} hm i g => by
        obtain rfl := List.mem_singleton.mp hm
        obtain rfl : v = lgOf F.on := g.xE
        rw [hon]
        exact ⟨13, _, rfl, i.get 9 rfl, by kernel_rfl⟩) hit0)
  met := fun h => noO h
  trap := fun h => no h
theorem look_n (c : Bool) : run (tabN1 c) 1 "Machine" "note" [xx 0, xx 2] 0 (fun _ m => decide (m = bif c then 1 else 0)) = true := by cases c <;> kernel_rfl
theorem sp_note (H : Hs (lay F h) σ) (hc : F.on = true → ∀ {σ Q}, Hs (lay F h) σ → (∀ v σ', D σ' → Q v σ') → CalS 1 "Record" "append" [.ref 13, u] σ Q T) {Q : MV → St → Prop} (q : ∀ v σ', (bif F.on then D σ' else Hs (lay F h) σ') → Q v σ') : CalS 2 "Machine" "note" [.ref 5, u] σ Q T := by
  refine run_ok (R := worN F h u D) (j := 1) (fun _ => tabN1_ok rfl hc) (look_n _) (w := ((), [])) H (.cons (.xx rfl) (.cons (.xx rfl) .nil)) fun av m w v σ hk _ i _ => q v σ ?_
  rw [of_decide_eq_true hk] at i
  cases e : F.on with
  | true => rw [e] at i; exact i
  | false => rw [e] at i; exact i
end
end Mine
end
section
set_option genCtorIdx false
namespace Mine

theorem addSl_st {e : Ent} {sl : List (Nat × Stp)} : (addSl e sl).map (·.2) = addEnt e (sl.map (·.2)) := by cases sl <;> rfl
theorem addSl_len {e : Ent} {sl : List (Nat × Stp)} : (addSl e sl).length = sl.length := by cases sl <;> rfl
theorem addSl_b {e : Ent} {sl : List (Nat × Stp)} {b : Nat} (h : ∀ p ∈ sl, p.2.1.length ≤ b) : ∀ p ∈ addSl e sl, p.2.1.length ≤ b + 1 := by
  cases sl with
  | nil => exact hit0
  | cons p r => exact hit (Nat.succ_le_succ (h p (.head _))) fun q hq => Nat.le_succ_of_le (h q (.tail _ hq))
theorem Mc.Ok.up {b b' : Nat} {m : Mc} (h : m.Ok b) (hb : b ≤ b') : m.Ok b' := ⟨h.len, h.reg, h.mem, Nat.le_trans h.out hb⟩
section
variable {F : Fx} {h : Mh} {e : Ent} {σ σ' : St} {n : Nat} {T : St → Prop} {Q : MV → St → Prop}
theorem Rp.note (R : Rp F h σ) (hb : h.b < 900) (hs : Safe e h.m) (hu : undo1 e h.m = h.m) (q : ∀ v σ', Rp F { h with sl := addSl e h.sl, b := h.b + 1 } σ' → Q v σ') : CalS 2 "Machine" "note" [.ref 5, e.mv] σ Q T :=
  sp_note (D := Hs (lay F { h with sl := addSl e h.sl })) R.hs (fun _ {σ Q} H q => sp_append_e H (Nat.le_trans (Nat.le_trans R.len R.most) (by decide)) (fun p hp => Nat.le_trans (R.sb p hp) (Nat.le_trans R.bb (by decide))) q) fun v σ' H => q v σ' {
    hs := by
      cases c : F.on with
      | true => rw [c] at H; exact H
      | false =>
        rw [c] at H
        have e1 : ({ h with sl := addSl e h.sl } : Mh) = h := by rw [R.off c]; show ({ h with sl := [] } : Mh) = h; rw [← R.off c]
        show Hs (lay F { h with sl := addSl e h.sl }) _
        rw [e1]
        exact H
    ok := R.ok.up (Nat.le_succ _)
    kl := Nat.le_succ_of_le R.kl
    kn := R.kn
    sb := addSl_b R.sb
    len := Nat.le_trans (Nat.le_of_eq addSl_len) R.len
    most := R.most
    off := fun c => by show addSl e h.sl = []; rw [R.off c]; rfl
    bb := hb
    ch := by
      have := chain_add R.ch hs hu
      rw [← addSl_st] at this
      exact this }
noncomputable def begK (F : Fx) (h : Mh) : List Mc := bif F.on then (h.m :: h.kp).take F.most else h.kp
theorem Rp.begin (R : Rp F h σ) (q : ∀ v sl σ', Rp F { h with sl := sl, kp := begK F h } σ' → Q v σ') : CalS 2 "Machine" "note" [.ref 5, pcMv h.m.pc] σ Q T :=
  sp_note (D := fun σ => ∃ i, Hs (lay F { h with sl := ((i, ([], h.m.pc)) :: h.sl).take F.most }) σ) R.hs (fun _ {σ Q} H q => sp_append_p H R.len (Nat.le_trans R.most (by decide)) fun u i σ' H => q u σ' ⟨i, H⟩) fun v σ' H => by
    cases c : F.on with
    | false =>
      rw [c] at H
      exact q v h.sl σ' { R with hs := H, off := R.off, ch := by unfold begK; rw [c]; exact R.ch }
    | true =>
      rw [c] at H
      obtain ⟨i, H⟩ := H
      exact q v _ σ' { R with
        hs := H
        sb := fun p hp => (List.mem_cons.mp (List.mem_of_mem_take hp)).elim (fun e => by rw [e]; exact Nat.zero_le _) (R.sb p)
        len := Nat.le_trans (Nat.le_of_eq (List.length_take ..)) (Nat.min_le_left ..)
        off := fun c' => by rw [c] at c'; exact no c'.symm
        ch := by
          unfold begK
          rw [c]
          have := chain_take F.most (chain_new R.ch)
          show Chain ((((i, (([], h.m.pc) : Stp)) :: h.sl).take F.most).map (·.2)) _ _
          rw [List.map_take]
          exact this }
/-- the machine's own objects turn -/
theorem Rp.turn (R : Rp F h σ) {m' : Mc} {b' : Nat} (H : Hs (lay F { h with m := m' }) σ') (ok : m'.Ok b') (hb : h.b ≤ b') (hb' : b' ≤ 900) (c : Chain h.st h.kp m') : Rp F { h with m := m', b := b' } σ' :=
  { R with hs := H, ok := ok, kl := Nat.le_trans R.kl hb, sb := fun p hp => Nat.le_trans (R.sb p hp) hb, bb := hb', ch := c }
theorem Rp.app (R : Rp F h σ) (o : MO) : Rp F h (σ ++ [o]) := { R with hs := R.hs.app o }
end
end Mine
end
section
set_option genCtorIdx false
namespace Mine

/-! the machine's reads -/
/-- the machine lies there -/
noncomputable def M5 (σ : St) : Prop := ∃ m lg, σ[5]? = some (.inst "Machine" (mfields m lg))
theorem Rp.m5 {F : Fx} {h : Mh} {σ : St} (R : Rp F h σ) : M5 σ := ⟨_, _, R.hs.get 4 rfl⟩
abbrev pre0 (P : List (MV → Prop)) : List (MV → Prop) := (· = .ref 5) :: (· = .ref 7) :: (· = .ref 6) :: (· = .ref 8) :: (· = .ref 9) :: (fun _ => True) :: P
noncomputable def rowsC : List Row := [⟨.attr "base", pat [xx 0] (keep allM (.int 4096 4096))⟩, ⟨.attr "size", pat [xx 0] (keep allM (.int 128 128))⟩, ⟨.attr "memory", pat [xx 0] (keep allM (xx 2))⟩, ⟨.attr "registers", pat [xx 0] (keep allM (xx 1))⟩, ⟨.attr "output", pat [xx 0] (keep allM (xx 3))⟩, ⟨.attr "known", pat [xx 0] (keep allM (xx 4))⟩, ⟨.attr "pc", pat [xx 0] (keep allM num)⟩]
/-- the tests of a place: z, z - 4096, z - 4096 + k are 6, 7, 8 -/
abbrev preZ (z : Int) (k : Nat) (P : List (MV → Prop)) : List (MV → Prop) := pre0 ((· = .int z) :: (· = .int (z - 4096)) :: (· = .int (z - 4096 + k)) :: P)
noncomputable def rowsZ (s : AV) (c1 c2 : Bool) : List Row := [⟨.bin .Sub, pat [xx 6, .int 4096 4096] (keep allM (xx 7))⟩, ⟨.cmp .Lt, pat [xx 7, .int 0 0] (keep allM (bit c1))⟩, ⟨.bin .Add, pat [xx 7, s] (keep allM (xx 8))⟩, ⟨.cmp .Gt, pat [xx 8, .int 128 128] (keep allM (bit c2))⟩]
section
variable {F : Fx} {h : Mh} {σ : St} {n : Nat} {T : St → Prop} {G : Type} {P : List (MV → Prop)} {I : Nat → G × List MV → St → Prop} {ms : List Nat}
theorem rField {a : Str} {r : AV} (ha : isField a = true) (hR : ∀ {m w σ}, m ∈ ms → I m w σ → ∃ mc lg v, σ[5]? = some (.inst "Machine" (mfields mc lg)) ∧ getK (mfields mc lg) a = some v ∧ GV ((worG G (pre0 P) I).X w) r v) : Row.Ok n (worG G (pre0 P) I) T ⟨.attr a, pat [xx 0] (keep ms r)⟩ :=
  rKeep fun {m w vs σ Q} hm i g q => GL.e1 g fun u gu => by
    obtain rfl : u = .ref 5 := gu.xE
    obtain ⟨_, _, v, H, e, gv⟩ := hR hm i
    exact at_field H ha e (q _ gv)
theorem rowsC_ok (hR : ∀ {m w σ}, I m w σ → M5 σ) : ∀ e ∈ rowsC, Row.Ok n (worG G (pre0 P) I) T e :=
  hit (rField rfl fun _ i => let ⟨_, _, H⟩ := hR i; ⟨_, _, _, H, rfl, .i⟩) (hit (rField rfl fun _ i => let ⟨_, _, H⟩ := hR i; ⟨_, _, _, H, rfl, .i⟩) (hit (rField rfl fun _ i => let ⟨_, _, H⟩ := hR i; ⟨_, _, _, H, rfl, .xx rfl⟩)
    (hit (rField rfl fun _ i => let ⟨_, _, H⟩ := hR i; ⟨_, _, _, H, rfl, .xx rfl⟩) (hit (rField rfl fun _ i => let ⟨_, _, H⟩ := hR i; ⟨_, _, _, H, rfl, .xx rfl⟩) (hit (rField rfl fun _ i => let ⟨_, _, H⟩ := hR i; ⟨_, _, _, H, rfl, .xx rfl⟩) (hit (rField rfl fun _ i => let ⟨_, _, H⟩ := hR i; ⟨_, _, _, H, rfl, .s (.int .any)⟩) hit0))))))
theorem rowsZ_ok {z : Int} {k : Nat} {s : AV} {c1 c2 : Bool} (hs : ∀ {w : G × List MV} {v}, GV ((worG G (preZ z k P) I).X w) s v → v = .int k) (h1 : decide (z - 4096 < 0) = c1) (h2 : decide (z - 4096 + k > 128) = c2) : ∀ e ∈ rowsZ s c1 c2, Row.Ok n (worG G (preZ z k P) I) T e :=
  hit (rBin fun _ u v gu gv q => by
    obtain rfl : u = .int z := gu.xE
    rw [one_int rfl gv]
    exact b_sub (q _ (.xx rfl))) (hit (rCmp fun _ _ u v gu gv => by
    obtain rfl : u = .int (z - 4096) := gu.xE
    rw [one_int rfl gv]
    exact h1 ▸ c_lt) (hit (rBin fun _ u v gu gv q => by
    obtain rfl : u = .int (z - 4096) := gu.xE
    rw [hs gv]
    exact b_add (q _ (.xx rfl))) (hit (rCmp fun _ _ u v gu gv => by
    obtain rfl : u = .int (z - 4096 + k) := gu.xE
    rw [one_int rfl gv]
    exact h2 ▸ c_gt) hit0)))

/-! read -/
noncomputable def own5 : Tab := tabR [] (ownL [⟨xx 0, allM, "Machine"⟩]) (fun _ _ _ => none) fun _ => false
noncomputable def rowsS (k : Nat) : List Row := [⟨.slc true true false, pat [xx 2, xx 7, xx 8] (on 0 [(xx 20, 1)])⟩, ⟨.blt "bytes", pat [xx 20] (keep [1] (.s (.byt k)))⟩]
noncomputable def tabRd (k : Nat) (c1 c2 : Bool) : Tab := tabR (rowsC ++ (rowsZ (.int k k) c1 c2 ++ bif c1 || c2 then [] else rowsS k)) (ownL [⟨xx 0, allM, "Machine"⟩]) (fun _ _ _ => none) fun _ => c1 || c2
noncomputable abbrev InS (F : Fx) (h : Mh) (z : Int) (k : Nat) (m : Nat) (w : Unit × List MV) (σ : St) : Prop := Rp F h σ ∧ [w.2 = [], ∃ i, w.2 = [.ref i] ∧ σ[i]? = some (.ba ((h.m.mem.drop (z - 4096).toNat).take (z - 4096 + k - (z - 4096)).toNat))].getD m False
theorem own5_ok (hR : ∀ {m w σ}, I m w σ → M5 σ) : ∀ e ∈ [(⟨xx 0, allM, "Machine"⟩ : Ow)], ∀ {mo w v σ}, mo ∈ e.ms → I mo w σ → GV ((worG G (pre0 P) I).X w) e.a v → ∃ i l, IsIn σ v e.c i l :=
  hit (fun {mo w v σ} _ i g => let ⟨_, _, H⟩ := hR i; ⟨5, _, g.xE, H, by kernel_rfl⟩) hit0
theorem asub {a b : Int} : a + b - a = b := by omega
theorem cut_len {l : List UInt8} {a : Int} {k : Nat} (h1 : 0 ≤ a) (h2 : a + k ≤ l.length) : ((l.drop a.toNat).take (a + k - a).toNat).length = k := by
  obtain ⟨x, rfl⟩ := Int.eq_ofNat_of_zero_le h1
  have h2 : k + x ≤ l.length := Nat.add_comm k x ▸ Int.ofNat_le.mp h2
  rw [asub, List.length_take, List.length_drop]
  exact Nat.min_eq_left (Nat.le_sub_of_add_le h2)
theorem slice_len {z : Int} {k : Nat} (R : Rp F h σ) (h1 : ¬ z - 4096 < 0) (h2 : ¬ z - 4096 + k > 128) : ((h.m.mem.drop (z - 4096).toNat).take (z - 4096 + k - (z - 4096)).toNat).length = k := cut_len (Int.not_lt.mp h1) (by rw [R.ok.mem]; exact Int.not_lt.mp h2)
theorem slc_get {z : Int} {k : Nat} {Q : MV → St → Prop} (R : Rp F h σ) (h1 : ¬ z - 4096 < 0) (h2 : ¬ z - 4096 + k > 128) (q : Q (.ref σ.length) (σ ++ [.ba ((h.m.mem.drop (z - 4096).toNat).take (z - 4096 + k - (z - 4096)).toNat)])) : SliceS (.ref 6) (some (.int (z - 4096))) (some (.int (z - 4096 + k))) none σ Q T :=
  s_ba (R.hs.get 5 rfl) (Int.not_lt.mp h1) (Int.le_add_of_nonneg_right (Int.natCast_nonneg _)) (by rw [R.ok.mem]; exact Int.not_lt.mp h2) (by rw [R.ok.mem]; decide) q
theorem ghost {w : G × List MV} {v v' : MV} (e : w.2 = [v']) (g : GV ((worG G P I).X w) (xx 20) v) (hP : P[20]? = none) : v = v' := by
  have x := g.xE
  show v = v'
  have : (P.getD 20 fun v => w.2[20 - 20]? = some v) v := x
  unfold List.getD at this
  rw [hP, e] at this
  exact (Option.some.inj this).symm
theorem tabRd_ok {z : Int} {k : Nat} {c1 c2 : Bool} (h1 : decide (z - 4096 < 0) = c1) (h2 : decide (z - 4096 + k > 128) = c2) (hT : (c1 || c2) = true → ∀ {σ}, Rp F h σ → T σ) : TabOk n (worG Unit (preZ z k []) (InS F h z k)) T (tabRd k c1 c2) where
  op := rows_ok (List.forall_mem_append.mpr ⟨rowsC_ok fun i => i.1.m5, List.forall_mem_append.mpr ⟨rowsZ_ok (one_int rfl) h1 h2, by
    cases c : c1 || c2 with
    | true => exact hit0
    | false =>
      obtain ⟨e1, e2⟩ := Bool.or_eq_false_iff.mp c
      subst e1 e2
      have h1 := of_decide_eq_false h1
      have h2 := of_decide_eq_false h2
      exact hit (rOn fun {w vs σ Q} i g q => GL.e3 g fun u x y gu gx gy => by
        obtain rfl : u = .ref 6 := gu.xE
        obtain rfl : x = .int (z - 4096) := gx.xE
        obtain rfl : y = .int (z - 4096 + k) := gy.xE
        exact slc_get i.1 h1 h2 (q ((), [.ref σ.length]) _ _ ((i.2 : w.2 = []) ▸ List.nil_prefix) ⟨i.1.app _, _, rfl, get_new⟩ (.xx rfl))) (hit (rKeep fun hm i g q => GL.e1 g fun u gu => by
        obtain rfl := List.mem_singleton.mp hm
        obtain ⟨R, j, ew, ej⟩ := i
        rw [ghost ew gu rfl]
        exact blt_of (V := .type "bytes") (by unfold blts; rfl) (f_bytes_ba ej (by rw [slice_len R h1 h2]; have : z - 4096 + k ≤ 128 := Int.not_lt.mp h2; unfold sz; omega) (q _ (.by (slice_len R h1 h2))))) hit0)⟩⟩)
  own := ownL_ok (own5_ok fun i => i.1.m5)
  met := fun h => noO h
  trap := fun e i => hT e i.1
theorem look_r (k : Nat) (hk : k ∈ [1, 2, 4]) (c1 c2 : Bool) : run (tabRd k c1 c2) 2 "Machine" "read" [xx 0, xx 6, .int k k] 0 (fun r m => decide (m = 1) && r.le (.s (.byt k))) = true := by
  have : [1, 2, 4].all (fun k => [true, false].all fun c1 => [true, false].all fun c2 => run (tabRd k c1 c2) 2 "Machine" "read" [xx 0, xx 6, .int k k] 0 (fun r m => decide (m = 1) && r.le (.s (.byt k)))) = true := by kernel_rfl
  exact List.all_eq_true.mp (List.all_eq_true.mp (List.all_eq_true.mp this k hk) c1 (by cases c1 <;> decide)) c2 (by cases c2 <;> decide)
theorem sp_read {z : Int} {k : Nat} (hk : k ∈ [1, 2, 4]) (R : Rp F h σ) (hT : ∀ {σ}, ¬ (4096 ≤ z ∧ z + k ≤ 4224) → Rp F h σ → T σ) {Q : MV → St → Prop} (q : ∀ b σ', Rp F h σ' → b.length = k → Q (.bytes b) σ') : CalS 2 "Machine" "read" [.ref 5, .int z, .int k] σ Q T :=
  run_ok (R := worG Unit (preZ z k []) (InS F h z k)) (j := 0) (fun _ => tabRd_ok rfl rfl fun c {σ} R => hT (by
    rw [Bool.or_eq_true, decide_eq_true_eq, decide_eq_true_eq] at c
    omega) R) (look_r k hk _ _) (w := ((), [])) ⟨R, rfl⟩ (.cons (.xx rfl) (.cons (.xx rfl) (.cons .i .nil))) fun av m w v σ hk _ i g => by
      rw [Bool.and_eq_true, decide_eq_true_eq] at hk
      exact GV.byE (AV.le_ok hk.2 g) fun b hb => q b σ i.1 hb
end
end Mine
end
section
set_option genCtorIdx false
namespace Mine

/-! write, put -/
structure Moved (h h' : Mh) : Prop where
  d : h'.m.done = h.m.done
  kp : h'.kp = h.kp
  b : h'.b ≤ h.b + 1
noncomputable abbrev cut (l : List UInt8) (a : Int) (k : Nat) : List UInt8 := (l.drop a.toNat).take (a + k - a).toNat
noncomputable abbrev noted (h : Mh) (e : Ent) : Mh := { h with sl := addSl e h.sl, b := h.b + 1 }
noncomputable def rowsW (k : Nat) : List Row := [⟨.slc true true false, pat [xx 2, xx 7, xx 8] (on 0 [(xx 20, 1)])⟩, ⟨.blt "bytes", pat [xx 20] (keep [1] (xx 9))⟩, ⟨.call "Machine" "note", pat [xx 0, .tup [.str "m", .x 6, .x 9]] (on 1 [(xx 5, 2)])⟩, ⟨.setS, pat [xx 2, xx 7, xx 8, .s (.byt k)] (on 2 [(non, 3)])⟩]
noncomputable def tabW (k : Nat) : Tab := tabR (rLen :: (rowsC ++ (rowsZ (.int k k) false false ++ rowsW k))) (ownL [⟨xx 0, allM, "Machine"⟩]) (fun _ _ _ => none) fun _ => false
noncomputable def InW (F : Fx) (h : Mh) (z : Int) (k : Nat) (m : Nat) (w : Unit × List MV) (σ : St) : Prop := [Rp F h σ ∧ w.2 = [], Rp F h σ ∧ ∃ i, w.2 = [.ref i] ∧ σ[i]? = some (.ba (cut h.m.mem (z - 4096) k)), Rp F (noted h (.m z (cut h.m.mem (z - 4096) k))) σ, ∃ h', Rp F h' σ ∧ Moved h h'].getD m False
noncomputable abbrev preW (h : Mh) (z : Int) (k : Nat) : List (MV → Prop) := preZ z k [(· = .bytes (cut h.m.mem (z - 4096) k))]
noncomputable def rowsU (c : Bool) : List Row := [⟨.cmp .NotEq, pat [xx 6, .int 0 0] (keep [0] (bit c))⟩, ⟨.item, pat [xx 1, xx 6] (keep [0] (xx 7))⟩, ⟨.call "Machine" "note", pat [xx 0, .tup [.str "r", .x 6, .x 7]] (on 0 [(xx 5, 1)])⟩, ⟨.setI, pat [xx 1, xx 6, .int 0 4294967295] (on 1 [(non, 2)])⟩]
noncomputable def tabU (c : Bool) : Tab := tabR (rowsC ++ rowsU c) (ownL [⟨xx 0, allM, "Machine"⟩]) (fun _ _ _ => none) fun _ => false
noncomputable def InU (F : Fx) (h : Mh) (z v : Int) (m : Nat) (w : Unit × List MV) (σ : St) : Prop := [Rp F h σ, Rp F (noted h (.r z v)) σ, ∃ h', Rp F h' σ ∧ Moved h h'].getD m False
theorem cut_put {l b : List UInt8} {a : Int} {k : Nat} (h1 : 0 ≤ a) (h2 : a + k ≤ l.length) (hb : b.length = k) : memPut (memPut l a b) a (cut l a k) = l ∧ memPut l a (cut l a k) = l := by
  have hc := cut_len h1 h2
  obtain ⟨x, rfl⟩ := Int.eq_ofNat_of_zero_le h1
  have h2 : x + k ≤ l.length := Int.ofNat_le.mp h2
  have hx : (l.take x).length = x := (List.length_take ..).trans (Nat.min_eq_left (Nat.le_trans (Nat.le_add_right _ _) h2))
  have e : l.take x ++ cut l x k ++ l.drop (x + k) = l := by
    show l.take x ++ (l.drop x).take ((x : Int) + k - x).toNat ++ l.drop (x + k) = l
    rw [asub, ← List.drop_drop, List.append_assoc]
    show l.take x ++ ((l.drop x).take k ++ (l.drop x).drop k) = l
    rw [List.take_append_drop, List.take_append_drop]
  have m : ∀ {r : List UInt8}, r.length = k → ∀ l, memPut l (x : Int) r = l.take x ++ r ++ l.drop (x + k) := fun hr l => by unfold memPut; rw [hr]; rfl
  refine ⟨?_, (m hc l).trans e⟩
  rw [m hc, m hb, List.append_assoc (l.take x) b, List.take_left' hx, ← List.append_assoc (l.take x) b, List.drop_left' (by rw [List.length_append, hx, hb])]
  exact e
section
variable {F : Fx} {h : Mh} {σ : St} {n : Nat} {T : St → Prop} {Q : MV → St → Prop} {z v : Int} {k : Nat} {e : Ent}
theorem Rp.alt (R : Rp F (noted h e) σ) (c : Chain h.st h.kp h.m) {m' : Mc} {σ' : St} (H : Hs (lay F { noted h e with m := m' }) σ') (ok : m'.Ok (h.b + 1)) (hs : Safe e m') (hu : undo1 e m' = h.m) (hd : m'.done = h.m.done) : ∃ h', Rp F h' σ' ∧ Moved h h' :=
  ⟨_, R.turn H ok (Nat.le_refl _) R.bb (by have := chain_add c hs hu; rw [← addSl_st] at this; exact this), hd, rfl, Nat.le_refl _⟩
theorem InW.rp {m : Nat} {w : Unit × List MV} (i : InW F h z k m w σ) : ∃ h, Rp F h σ := match m, i with
  | 0, i => ⟨_, i.1⟩ | 1, i => ⟨_, i.1⟩ | 2, i => ⟨_, i⟩ | 3, i => let ⟨_, i, _⟩ := i; ⟨_, i⟩ | _ + 4, i => i.elim
theorem InU.rp {m : Nat} {w : Unit × List MV} (i : InU F h z v m w σ) : ∃ h, Rp F h σ := match m, i with
  | 0, i => ⟨_, i⟩ | 1, i => ⟨_, i⟩ | 2, i => let ⟨_, i, _⟩ := i; ⟨_, i⟩ | _ + 3, i => i.elim
theorem tabW_ok (h1 : 0 ≤ z - 4096) (h2 : z - 4096 + k ≤ 128) (R0 : Rp F h σ) (hb : h.b < 900) : TabOk (2 + n) (worG Unit (preW h z k) (InW F h z k)) T (tabW k) where
  op := rows_ok (hit ok_len (List.forall_mem_append.mpr ⟨rowsC_ok fun i => let ⟨h, R⟩ := i.rp; R.m5, List.forall_mem_append.mpr ⟨rowsZ_ok (one_int rfl) (decide_eq_false (Int.not_lt.mpr h1)) (decide_eq_false (Int.not_lt.mpr h2)), by
    have hl : z - 4096 + k ≤ h.m.mem.length := by rw [R0.ok.mem]; exact h2
    have hc := cut_len h1 hl
    exact hit (rOn fun {w vs σ Q} i g q => GL.e3 g fun u x y gu gx gy => by
      obtain rfl : u = .ref 6 := gu.xE
      obtain rfl : x = .int (z - 4096) := gx.xE
      obtain rfl : y = .int (z - 4096 + k) := gy.xE
      exact slc_get i.1 (Int.not_lt.mpr h1) (Int.not_lt.mpr h2) (q ((), [.ref σ.length]) _ _ (i.2 ▸ List.nil_prefix) ⟨i.1.app _, _, rfl, get_new⟩ (.xx rfl))) (hit (rKeep fun hm i g q => GL.e1 g fun u gu => by
      obtain rfl := List.mem_singleton.mp hm
      obtain ⟨R, j, ew, ej⟩ := i
      rw [ghost ew gu rfl]
      exact blt_of (V := .type "bytes") (by unfold blts; rfl) (f_bytes_ba ej (Nat.le_trans (Nat.le_of_eq (List.length_take ..)) (Nat.le_trans (Nat.min_le_right ..) (Nat.le_trans (Nat.le_of_eq (List.length_drop ..)) (Nat.le_trans (Nat.sub_le ..) (by rw [R.ok.mem]; decide))))) (q _ (.xx rfl)))) (hit (rCall (by kernel_rfl) fun {w vs σ Q} i g q => GL.e2 g fun u x gu gx => by
      obtain rfl : u = .ref 5 := gu.xE
      obtain rfl := tupE (fun k' => [.int z, .none, .none, .bytes (cut h.m.mem (z - 4096) k)].getD (k' - 6) .none) gx (hit vx_s (hit (vx_x fun _ h => h) (hit (vx_x fun _ h => h) hit0)))
      exact (i.1.note (e := .m z (cut h.m.mem (z - 4096) k)) hb ⟨Int.le_of_sub_nonneg h1, by rw [hc]; exact h2⟩ (by show ({ h.m with mem := _ } : Mc) = _; rw [(cut_put h1 hl hc).2]) fun v σ' R => q w v σ' List.prefix_rfl R (.xx trivial)).up (Nat.le_add_right _ _)) (hit (rOn fun {w vs σ Q} i g q => GL.e4 g fun u x y b gu gx gy gb => by
      obtain rfl : u = .ref 6 := gu.xE
      obtain rfl : x = .int (z - 4096) := gx.xE
      obtain rfl : y = .int (z - 4096 + k) := gy.xE
      refine GV.byE gb fun b hb => ?_
      subst hb
      have i : Rp F (noted h (.m z (cut h.m.mem (z - 4096) b.length))) σ := i
      exact ss_ba (i.hs.get 5 rfl) h1 (Int.le_add_of_nonneg_right (Int.natCast_nonneg _)) hl asub (by rw [R0.ok.mem]; decide)
        (q w _ _ List.prefix_rfl (i.alt R0.ch (m' := { h.m with mem := memPut h.m.mem (z - 4096) b }) (i.hs.set 5 rfl _) ⟨R0.ok.len, R0.ok.reg, (memPut_len h1 hl).trans R0.ok.mem, Nat.le_succ_of_le R0.ok.out⟩ ⟨Int.le_of_sub_nonneg h1, by rw [hc]; exact h2⟩ (by show ({ h.m with mem := _ } : Mc) = _; rw [(cut_put h1 hl rfl).1]) rfl) .n)) hit0)))⟩⟩))
  own := ownL_ok (own5_ok fun i => let ⟨h, R⟩ := i.rp; R.m5)
  met := fun h => noO h
  trap := fun h => no h
theorem look_w (k : Nat) (hk : k ∈ [1, 2, 3, 4]) : run (tabW k) 2 "Machine" "write" [xx 0, xx 6, .s (.byt k)] 0 (fun _ m => decide (m = 3)) = true := by
  have : [1, 2, 3, 4].all (fun k => run (tabW k) 2 "Machine" "write" [xx 0, xx 6, .s (.byt k)] 0 (fun _ m => decide (m = 3))) = true := by kernel_rfl
  exact List.all_eq_true.mp this k hk
theorem sp_write {b : List UInt8} (hk : b.length ∈ [1, 2, 3, 4]) (R : Rp F h σ) (hb : h.b < 900) (h1 : 4096 ≤ z) (h2 : z - 4096 + b.length ≤ 128) (q : ∀ v h' σ', Rp F h' σ' → Moved h h' → Q v σ') : CalS 4 "Machine" "write" [.ref 5, .int z, .bytes b] σ Q T :=
  run_ok (R := worG Unit (preW h z b.length) (InW F h z b.length)) (j := 2) (fun _ => tabW_ok (Int.sub_nonneg_of_le h1) h2 R hb) (look_w _ hk) (w := ((), [])) ⟨R, rfl⟩ (.cons (.xx rfl) (.cons (.xx rfl) (.cons (.by rfl) .nil))) fun av m w v σ hk _ i g => by
    rw [of_decide_eq_true hk] at i
    obtain ⟨h', R', mv⟩ := i
    exact q v h' σ R' mv
theorem tabU_ok {c : Bool} (hc : (!(z == 0)) = c) (h1 : 0 ≤ z) (h2 : z < 32) (hv : h.m.regs[z.toNat]? = some v) (R0 : Rp F h σ) (hb : h.b < 900) : TabOk (2 + n) (worG Unit (pre0 [(· = .int z), (· = .int v)]) (InU F h z v)) T (tabU c) where
  op := rows_ok (List.forall_mem_append.mpr ⟨rowsC_ok fun {_ w _} i => let ⟨h, R⟩ := InU.rp (w := w) i; R.m5, by
    have hz : z < 2 ^ 63 := Int.lt_of_lt_of_le h2 (by decide)
    have sf : Safe (.r z v) h.m := ⟨h1, h2, R0.ok.reg v (List.mem_of_getElem? hv)⟩
    have same : h.m.regs.set z.toNat v = h.m.regs := by
      obtain ⟨q, e⟩ := List.getElem?_eq_some_iff.mp hv
      rw [← e]
      exact List.set_getElem_self q
    exact hit (rCmp fun _ _ u x gu gx => by
      obtain rfl : u = .int z := gu.xE
      rw [one_int rfl gx]
      exact hc ▸ c_neI) (hit (rItem fun hm i u x gu gx q => by
      obtain rfl := List.mem_singleton.mp hm
      obtain rfl : u = .ref 7 := gu.xE
      obtain rfl : x = .int z := gx.xE
      have i : Rp F h _ := i
      exact i_list (i.hs.get 6 rfl) h1 hz (v := .int v) (by rw [List.getElem?_map, hv]; rfl) (q _ (.xx rfl))) (hit (rCall (by kernel_rfl) fun {w vs σ Q} i g q => GL.e2 g fun u x gu gx => by
      obtain rfl : u = .ref 5 := gu.xE
      obtain rfl := tupE (fun k' => [.int z, .int v].getD (k' - 6) .none) gx (hit vx_s (hit (vx_x fun _ h => h) (hit (vx_x fun _ h => h) hit0)))
      have i : Rp F h _ := i
      exact (i.note (e := .r z v) hb sf (by show ({ h.m with regs := _ } : Mc) = _; rw [same]) fun v σ' R => q w v σ' List.prefix_rfl R (.xx trivial)).up (Nat.le_add_right _ _)) (hit (rOn fun {w vs σ Q} i g q => GL.e3 g fun u x y gu gx gy => by
      obtain rfl : u = .ref 7 := gu.xE
      obtain rfl : x = .int z := gx.xE
      refine GV.iE gy fun y iy => ?_
      have i : Rp F (noted h (.r z v)) σ := i
      have hl : z < (h.m.regs.map MV.int).length := by rw [List.length_map, R0.ok.len]; exact h2
      exact si_list (i.hs.get 6 rfl) h1 hz hl (q w _ _ List.prefix_rfl (i.alt R0.ch (m' := { h.m with regs := h.m.regs.set z.toNat y }) (by show Hs _ (List.set _ 7 (.list ((h.m.regs.map MV.int).set z.toNat (.int y)))); rw [← List.map_set]; exact i.hs.set 6 rfl _)
        ⟨(List.length_set ..).trans R0.ok.len, fun r hr => (List.mem_or_eq_of_mem_set hr).elim (R0.ok.reg r) fun e => e ▸ iy _ rfl, R0.ok.mem, Nat.le_succ_of_le R0.ok.out⟩ sf (by show ({ h.m with regs := _ } : Mc) = _; rw [List.set_set, same]) rfl) .n)) hit0)))⟩)
  own := ownL_ok (own5_ok fun {_ w _} i => let ⟨h, R⟩ := InU.rp (w := w) i; R.m5)
  met := fun h => noO h
  trap := fun h => no h
theorem look_u (c : Bool) : run (tabU c) 1 "Machine" "put" [xx 0, xx 6, num] 0 (fun _ m => decide (m = bif c then 2 else 0)) = true := by cases c <;> kernel_rfl
theorem sp_put {y : Int} (R : Rp F h σ) (hb : h.b < 900) (h1 : 0 ≤ z) (h2 : z < 32) (q : ∀ v h' σ', Rp F h' σ' → Moved h h' → Q v σ') : CalS 3 "Machine" "put" [.ref 5, .int z, .int y] σ Q T := by
  obtain ⟨v, hv⟩ : ∃ v, h.m.regs[z.toNat]? = some v := ⟨_, List.getElem?_eq_getElem (by rw [R.ok.len]; omega)⟩
  refine run_ok (R := worG Unit (pre0 [(· = .int z), (· = .int v)]) (InU F h z v)) (j := 2) (fun _ => tabU_ok rfl h1 h2 hv R hb) (look_u _) (w := ((), [])) R (.cons (.xx rfl) (.cons (.xx rfl) (.cons (.s (.int .any)) .nil))) fun av m w u σ hk _ i g => ?_
  rw [of_decide_eq_true hk] at i
  cases c : (!(z == 0)) with
  | true =>
    rw [c] at i
    obtain ⟨h', R', mv⟩ := i
    exact q u h' σ R' mv
  | false =>
    rw [c] at i
    exact q u h σ i ⟨rfl, rfl, Nat.le_succ _⟩
end
end Mine
end
section
set_option genCtorIdx false
namespace Mine

/-! width_of -/
noncomputable def wdt : List (Str × MV) := [("b", .int 1), ("h", .int 2), ("w", .int 4)]
noncomputable def rWid : Row := ⟨.call "" "width_of", fun avs m => with1 (fun x => x.s?.bind fun s => (if 1 < s.length ∧ s.length ≤ 100 then getK wdt (Txt.item s 1) else none).bind fun v => (AV.of v).map (one m)) avs⟩
section
variable {F : Fx} {h : Mh} {σ : St} {n : Nat} {T : St → Prop} {Q : MV → St → Prop} {R : Wor}
/-- a def that is walked by hand -/
theorem hand {c f : Str} {o : Option FnRec} {d : FnRec} {vs : List MV} {ws : List Nm} (h : FT c f = o) (h' : o = some d) (S : Sc) (hS : S.ns = d.scope.names.map (·.1)) (hl : d.params.length = vs.length) (hw : bindW d.scope.names (d.params.zip vs) = ws)
    (k : ExLS n ⟨S, ws⟩ d.body σ (retQ Q) T) : CalS (n + 1) c f vs σ Q T := sat_call (h.trans h') S hS hl hw k
theorem width_at : FT "" "width_of" = fnAt 40 := by kernel_rfl
theorem sp_width {op : Str} {v : MV} (h1 : 1 < op.length) (h2 : op.length ≤ 100) (hv : getK wdt (Txt.item op 1) = some v) (q : ∀ o, Q v (σ ++ [o])) : CalS (n + 1) "" "width_of" [.str op] σ Q T := by
  refine hand (d := ⟨["op"], _, _⟩) (ws := [.v (.str op)]) width_at rfl ⟨["op"], by decide, by decide +kernel⟩ rfl rfl (by kernel_rfl) ?_
  with_reducible refine x_cons ?_
  with_reducible refine x_ret ?_
  with_reducible refine e_sub ?_
  with_reducible refine e_dict ?_ ?_ ?_ ?_ ?_
  · rfl
  · rfl
  · exact fun h => nomatch h
  · exact Nat.le_of_ble_eq_true rfl
  with_reducible refine p_cons ?_
  with_reducible refine e_int ?_
  with_reducible refine p_cons ?_
  with_reducible refine e_int ?_
  with_reducible refine p_cons ?_
  with_reducible refine e_int ?_
  with_reducible refine p_nil ?_
  refine ⟨get_new, by decide +kernel, by decide, ?_⟩
  with_reducible refine e_sub ?_
  with_reducible refine e_name .hd ?_
  with_reducible refine e_int ?_
  refine ⟨co_str, (i_str (by omega) (Int.ofNat_lt.mpr h1) (Nat.le_trans h2 (by decide)) ?_).run⟩
  refine i_sdict (List.getElem?_set_self (by rw [List.length_append]; exact Nat.lt_succ_self _)) hv ?_
  have : (σ ++ [MO.sdict []]).set σ.length (.sdict wdt) = σ ++ [.sdict wdt] := by rw [List.set_append_right _ _ (Nat.le_refl _), Nat.sub_self]; rfl
  show Q v ((σ ++ [MO.sdict []]).set σ.length (.sdict wdt))
  exact this ▸ q _
theorem ok_wid (hn : 1 ≤ n) (hR : ∀ {m w σ o}, R.I m w σ → R.I m w (σ ++ [o])) : rWid.Ok n R T := .mk fun {avs m l w vs σ Q} e i g q => with1_ok e g fun a v e g => by
  obtain ⟨s, es, e1⟩ := Option.bind_eq_some_iff.mp e
  obtain ⟨u, eu, e2⟩ := Option.bind_eq_some_iff.mp e1
  obtain ⟨a', ea, e3⟩ := Option.map_eq_some_iff.mp e2
  obtain rfl := AV.sE es g
  by_cases c : 1 < s.length ∧ s.length ≤ 100
  · rw [if_pos c] at eu
    exact ⟨ft_ne (by kernel_rfl), (sp_width (n := 0) c.1 c.2 eu fun o => one_q e3 q (hR i) (AV.of_ok ea)).up hn⟩
  · rw [if_neg c] at eu; cases eu
end
end Mine
end
section
set_option genCtorIdx false
namespace Mine

/-! fetched -/
structure Know (h h' : Mh) : Prop where
  m : h'.m = h.m
  sl : h'.sl = h.sl
  kp : h'.kp = h.kp
  b : h'.b ≤ h.b + 1
theorem decs_tup : decs.all (fun a => a.t?.isSome) = true := by kernel_rfl
theorem KnOk.tup {v : MV} (h : KnOk v) : ∃ l, v = .tup l := by
  obtain ⟨a, ha, g⟩ := h
  obtain ⟨l, e⟩ := Option.isSome_iff_exists.mp (List.all_eq_true.mp decs_tup a ha)
  obtain ⟨vs, rfl, _⟩ := AV.tE e g
  exact ⟨vs, rfl⟩
noncomputable def rowsF : List Row := [⟨.call "Machine" "read", pat [xx 0, num, .int 4 4] (on 0 [(.s (.byt 4), 0)])⟩, ⟨.from, pat [.s (.byt 4), .s (.str "little")] (on 0 [(xx 20, 1)])⟩, ⟨.cmp .NotIn, pat [xx 20, xx 4] (on 1 [(bit true, 1), (bit false, 2)])⟩, ⟨.call "" "decode", pat [xx 20] (on 1 [(non, 1), (xx 6, 1)])⟩,
  ⟨.cmp .Is, pat [non, non] (keep [1] (bit true))⟩, ⟨.cmp .Is, pat [xx 6, non] (keep [1] (bit false))⟩, ⟨.setI, pat [xx 4, xx 20, xx 6] (on 1 [(non, 2)])⟩, ⟨.item, pat [xx 4, xx 20] (keep [2] (xx 6))⟩]
noncomputable def tabF : Tab := tabR (rowsC ++ rowsF) (ownL [⟨xx 0, allM, "Machine"⟩]) (fun _ _ _ => none) fun m => [true, true].getD m false
structure Word (w : Unit × List MV) (z : Int) : Prop where
  w : w.2 = [.int z]
  z0 : 0 ≤ z
  z1 : z ≤ 4294967295
noncomputable def InF (F : Fx) (h : Mh) (m : Nat) (w : Unit × List MV) (σ : St) : Prop := [Rp F h σ ∧ w.2 = [], Rp F h σ ∧ ∃ z, Word w z, ∃ h', Rp F h' σ ∧ Know h h' ∧ ∃ z v, Word w z ∧ getK h'.kn z = some v].getD m False
section
variable {F : Fx} {h : Mh} {σ : St} {n : Nat} {T : St → Prop} {Q : MV → St → Prop}
theorem InF.rp {m : Nat} {w : Unit × List MV} (i : InF F h m w σ) : ∃ h, Rp F h σ := match m, i with
  | 0, i => ⟨_, i.1⟩ | 1, i => ⟨_, i.1⟩ | 2, i => let ⟨_, i, _⟩ := i; ⟨_, i⟩ | _ + 3, i => i.elim
theorem getK_mem {l : List (Int × MV)} {x : Int} {v : MV} (h : getK l x = some v) : ∃ p ∈ l, p.2 = v := by
  obtain ⟨p, e, rfl⟩ := Option.map_eq_some_iff.mp h
  exact ⟨p, List.mem_of_find?_eq_some e, rfl⟩
theorem putK_mem {l : List (Int × MV)} {x : Int} {v : MV} {P : MV → Prop} (h : ∀ p ∈ l, P p.2) (hv : P v) : ∀ p ∈ putK l x v, P p.2 := by
  induction l with
  | nil => exact hit hv hit0
  | cons q l ih =>
    show ∀ p ∈ (if q.1 = x then (q.1, v) :: l else q :: putK l x v), P p.2
    by_cases c : q.1 = x
    · rw [if_pos c]; exact hit hv fun p hp => h p (.tail _ hp)
    · rw [if_neg c]; exact hit (h q (.head _)) (ih fun p hp => h p (.tail _ hp))
theorem putK_get {l : List (Int × MV)} {x : Int} {v : MV} : getK (putK l x v) x = some v := by
  unfold getK
  induction l with
  | nil => show (List.find? (fun kv => decide (kv.1 = x)) [(x, v)]).map _ = _; rw [List.find?_cons, decide_eq_true (rfl : (x, v).1 = x)]; rfl
  | cons q l ih =>
    show (((if q.1 = x then (q.1, v) :: l else q :: putK l x v) : List _).find? _).map _ = _
    by_cases c : q.1 = x
    · rw [if_pos c, List.find?_cons, decide_eq_true c]; rfl
    · rw [if_neg c, List.find?_cons, decide_eq_false c]; exact ih
theorem tabF_ok (hb : h.b < 900) (hT : ∀ {σ}, Rp F h σ → T σ) : TabOk (5 + n) (worG Unit (pre0 [KnOk]) (InF F h)) T tabF where
  op := rows_ok (List.forall_mem_append.mpr ⟨rowsC_ok fun i => let ⟨h, R⟩ := i.rp; R.m5, hit (rCall (by kernel_rfl) fun {w vs σ Q} i g q => GL.e3 g fun u x y gu gx gy => by
      obtain rfl : u = .ref 5 := gu.xE
      rw [one_int rfl gy]
      exact GV.iE gx fun z _ => (sp_read (k := 4) (by decide) i.1 (fun _ R => hT R) fun b σ' R hb => q w _ _ List.prefix_rfl ⟨R, i.2⟩ (.by hb)).up (Nat.le_add_right_of_le (by decide))) (hit (rOn fun {w vs σ Q} i g q => GL.e2 g fun u x gu gx => GV.byE gu fun b hb => by
      rw [gx.strE]
      have := fromLE_lt b
      rw [hb] at this
      exact ⟨b, rfl, hb ▸ by decide, q ((), [.int (fromLE b)]) _ _ (i.2 ▸ List.nil_prefix) ⟨i.1, _, rfl, this.1, this.2⟩ (.xx rfl)⟩) (hit (rOns fun {w vs σ Q} i g q => GL.e2 g fun u x gu gx => by
      obtain ⟨R, z, W⟩ := i
      rw [ghost W.w gu rfl]
      obtain rfl : x = .ref 9 := gx.xE
      refine CmpQ.mk (c_ninD (R.hs.get 8 rfl)) ?_
      cases e : getK h.kn z with
      | none => exact q _ (.head _) w _ _ List.prefix_rfl ⟨R, z, W⟩ .b
      | some v => exact q _ (.tail _ (.head _)) w _ _ List.prefix_rfl ⟨h, R, ⟨rfl, rfl, rfl, Nat.le_succ _⟩, z, v, W, e⟩ .b) (hit (rOns fun {w vs σ Q} i g q => GL.e1 g fun u gu => by
      obtain ⟨R, z, W⟩ := i
      rw [ghost W.w gu rfl]
      refine ⟨ft_ne (by kernel_rfl), (pure_ok decode_look (.cons (.ii W.z0 W.z1) .nil) fun a v hk gv => ?_).up (Nat.le_add_right_of_le (by decide))⟩
      refine orE hk (fun c => ?_) fun c => ?_
      · exact q _ (.head _) w _ _ List.prefix_rfl ⟨R, z, W⟩ ((GV.nonE (AV.le_ok c gv)) ▸ .n)
      · obtain ⟨d, hd, c⟩ := List.any_eq_true.mp c
        exact q _ (.tail _ (.head _)) w _ _ List.prefix_rfl ⟨R, z, W⟩ (.xx ⟨d, hd, AV.le_ok c gv⟩)) (hit (rCmp fun _ _ u v gu gv => by rw [gu.nonE, gv.nonE]; exact c_isNN) (hit (rCmp fun _ _ u v gu gv => by
      obtain ⟨l, rfl⟩ := KnOk.tup gu.xE
      rw [gv.nonE]
      exact c_isTN) (hit (rOn fun {w vs σ Q} i g q => GL.e3 g fun u x v gu gx gv => by
      obtain ⟨R, z, W⟩ := i
      rw [ghost W.w gx rfl]
      obtain rfl : u = .ref 9 := gu.xE
      have kv : KnOk v := gv.xE
      exact si_idict (R.hs.get 8 rfl) (Nat.le_trans R.kl (Nat.le_trans R.bb (by decide))) (q w _ _ List.prefix_rfl ⟨{ h with kn := putK h.kn z v, b := h.b + 1 }, { R with
          hs := R.hs.set 8 rfl _
          ok := R.ok.up (Nat.le_succ _)
          kl := Nat.le_trans (putK_len ..) (Nat.succ_le_succ R.kl)
          kn := putK_mem R.kn kv
          sb := fun p hp => Nat.le_succ_of_le (R.sb p hp)
          bb := hb }, ⟨rfl, rfl, rfl, Nat.le_refl _⟩, z, v, W, putK_get⟩ .n)) (hit (rItem fun hm i u x gu gx q => by
      obtain rfl := List.mem_singleton.mp hm
      obtain ⟨h', R, _, z, v, W, e⟩ := i
      rw [ghost W.w gx rfl]
      obtain rfl : u = .ref 9 := gu.xE
      obtain ⟨p, hp, rfl⟩ := getK_mem e
      exact i_idict (R.hs.get 8 rfl) e (q _ (.xx (R.kn p hp)))) hit0)))))))⟩)
  own := ownL_ok (own5_ok fun i => let ⟨h, R⟩ := i.rp; R.m5)
  met := fun h => noO h
  trap := fun {m w σ} c i => match m, c, i with
    | 0, _, i => hT i.1 | 1, _, i => hT i.1 | _ + 2, c, _ => no c
theorem look_f : run tabF 1 "Machine" "fetched" [xx 0] 0 (fun r m => decide (m = 2) && r.le (xx 6)) = true := by kernel_rfl
theorem sp_fetched (R : Rp F h σ) (hb : h.b < 900) (hT : ∀ {σ}, Rp F h σ → T σ) (q : ∀ v h' σ', Rp F h' σ' → Know h h' → KnOk v → Q v σ') : CalS 6 "Machine" "fetched" [.ref 5] σ Q T :=
  run_ok (R := worG Unit (pre0 [KnOk]) (InF F h)) (j := 5) (fun _ => tabF_ok hb hT) look_f (w := ((), [])) ⟨R, rfl⟩ (.cons (.xx rfl) .nil) fun av m w v σ hk _ i g => by
    rw [Bool.and_eq_true, decide_eq_true_eq] at hk
    rw [hk.1] at i
    obtain ⟨h', R', K, _⟩ := i
    exact q v h' σ R' K (AV.le_ok hk.2 g).xE
end
end Mine
end
section
set_option genCtorIdx false
namespace Mine

/-! step -/
structure Bg (F : Fx) (h h1 : Mh) : Prop where
  m : h1.m = h.m
  kp : h1.kp = begK F h
  b : h1.b ≤ h.b + 2
structure Bp (F : Fx) (h h1 : Mh) : Prop extends Bg F h h1 where
  ch : Chain h1.st h1.kp h1.m
  o : h1.m.out.length ≤ h1.b
structure Done (F : Fx) (h : Mh) (d : Bool) (h' : Mh) : Prop where
  d : h'.m.done = d
  kp : h'.kp = begK F h
  b : h'.b ≤ h.b + 4
noncomputable def InM (F : Fx) (h : Mh) (m : Nat) (w : Unit × List MV) (σ : St) : Prop := [Rp F h σ, ∃ h1, Rp F h1 σ ∧ Bg F h h1, ∃ h1, Rp F (noted h1 (.st h.m.status)) σ ∧ Bp F h h1, ∃ h1, Rp F { noted h1 (.st h.m.status) with m := { h1.m with done := true } } σ ∧ Bp F h h1,
  ∃ h', Rp F h' σ ∧ Done F h true h', ∃ h1, Rp F (noted h1 (.out h.m.out.length)) σ ∧ Bp F h h1, ∃ h', Rp F h' σ ∧ Done F h false h', ∃ h', Rp F h' σ ∧ Know h h'].getD m False
abbrev preM (h : Mh) : List (MV → Prop) := pre0 [(· = .int h.m.pc), (· = .int h.m.status), (· = .int h.m.out.length)]
noncomputable abbrev worM (F : Fx) (h : Mh) : Wor := worG Unit (preM h) (InM F h)
noncomputable def rDone (c : Bool) : Row := ⟨.attr "is_done", pat [xx 0] (keep [0] (bit c))⟩
noncomputable def rowsM : List Row := [rDone false, ⟨.attr "pc", pat [xx 0] (keep [7] (xx 6))⟩, ⟨.attr "status", pat [xx 0] (keep [1] (xx 7))⟩, ⟨.item, pat [xx 1, .int 0 31] (keep allM (.int 0 4294967295))⟩, ⟨.blt "len", pat [xx 3] (keep [1] (xx 8))⟩]
noncomputable def rowsM2 : List Row := [⟨.call "Machine" "note", pat [xx 0, .tup [.str "pc", .x 6]] (on 7 [(xx 5, 1)])⟩, ⟨.call "Machine" "note", pat [xx 0, .tup [.str "status", .x 7]] (on 1 [(xx 5, 2)])⟩, ⟨.call "Machine" "note", pat [xx 0, .tup [.str "out", .x 8]] (on 1 [(xx 5, 5)])⟩, ⟨.setA "is_done", pat [xx 0, bit true] (on 2 [(non, 3)])⟩, ⟨.setA "status", pat [xx 0, num] (on 3 [(non, 4)])⟩,
  ⟨.met "bytearray.append", pat [xx 3, .int 0 255] (on 5 [(non, 6)])⟩, ⟨.setA "pc", pat [xx 0, num] (on 1 [(non, 6)])⟩, ⟨.setA "pc", pat [xx 0, num] (on 6 [(non, 6)])⟩, ⟨.call "Machine" "put", pat [xx 0, .int 0 31, num] (on 1 [(xx 5, 6)])⟩, ⟨.call "Machine" "fetched", pat [xx 0] (on 0 (decs.map (·, 7)))⟩]
noncomputable def rowsRW (k : Nat) : List Row := [⟨.call "Machine" "write", pat [xx 0, .int 4096 (4224 - k), .s (.byt k)] (on 1 [(xx 5, 6)])⟩, ⟨.call "Machine" "read", pat [xx 0, .int 4096 (4224 - k), .int k k] (on 1 [(.s (.byt k), 1)])⟩]
noncomputable def tabM : Tab := tabR (rowsC ++ (rowsM ++ (rowsM2 ++ (rowsRW 1 ++ (rowsRW 2 ++ (rowsRW 4 ++ rWid :: plainRows)))))) (ownL [⟨xx 0, allM, "Machine"⟩]) (fun x m mo => (metL [⟨xx 3, "append", [5], "bytearray.append"⟩] x m mo).or (plainMet x m mo)) fun m => m == 7 || m == 0
section
variable {F : Fx} {h : Mh} {σ : St} {n : Nat} {T : St → Prop} {Q : MV → St → Prop}
theorem InM.rp {m : Nat} {w : Unit × List MV} (i : InM F h m w σ) : ∃ h, Rp F h σ := match m, i with
  | 0, i => ⟨_, i⟩ | 1, i => let ⟨_, i, _⟩ := i; ⟨_, i⟩ | 2, i => let ⟨_, i, _⟩ := i; ⟨_, i⟩ | 3, i => let ⟨_, i, _⟩ := i; ⟨_, i⟩ | 4, i => let ⟨_, i, _⟩ := i; ⟨_, i⟩ | 5, i => let ⟨_, i, _⟩ := i; ⟨_, i⟩ | 6, i => let ⟨_, i, _⟩ := i; ⟨_, i⟩ | 7, i => let ⟨_, i, _⟩ := i; ⟨_, i⟩ | _ + 8, i => i.elim
theorem InM.hs {m : Nat} {w : Unit × List MV} (i : InM F h m w σ) : M5 σ := let ⟨h, R⟩ := InM.rp (w := w) i; R.m5
theorem InM.app {m : Nat} {w : Unit × List MV} {o : MO} (i : InM F h m w σ) : InM F h m w (σ ++ [o]) := match m, i with
  | 0, i => Rp.app i o | 1, i => let ⟨h, i, x⟩ := i; ⟨h, i.app o, x⟩ | 2, i => let ⟨h, i, x⟩ := i; ⟨h, i.app o, x⟩ | 3, i => let ⟨h, i, x⟩ := i; ⟨h, i.app o, x⟩ | 4, i => let ⟨h, i, x⟩ := i; ⟨h, i.app o, x⟩ | 5, i => let ⟨h, i, x⟩ := i; ⟨h, i.app o, x⟩ | 6, i => let ⟨h, i, x⟩ := i; ⟨h, i.app o, x⟩ | 7, i => let ⟨h, i, x⟩ := i; ⟨h, i.app o, x⟩ | _ + 8, i => i.elim
theorem tup2 {X : Nat → MV → Prop} {s : Str} {j : Nat} {v u : MV} (g : GV X (.tup [.str s, .x j]) v) (h : ∀ v, X j v → v = u) : v = .tup [.str s, u] := tupE (fun _ => u) g (hit vx_s (hit (vx_x h) hit0))
theorem only {P : Nat → Prop} {a m : Nat} (hm : m ∈ [a]) (h : P m) : P a := List.mem_singleton.mp hm ▸ h
theorem rDone_ok {c : Bool} (hd : h.m.done = c) : (rDone c).Ok n (worM F h) T := rField rfl fun hm i => ⟨_, _, _, (Rp.hs (only (P := fun m => InM F h m _ _) hm i)).get 4 rfl, rfl, hd ▸ .b⟩
theorem rowsM_ok (hd : h.m.done = false) : ∀ e ∈ rowsM, Row.Ok n (worM F h) T e :=
  hit (rDone_ok hd) (hit (rField rfl fun {m w σ} hm i => by
    obtain ⟨h', R, K⟩ : InM F h 7 w σ := only (P := fun m => InM F h m w σ) hm i
    exact ⟨_, _, _, R.hs.get 4 rfl, rfl, .xx (by show MV.int h'.m.pc = _; rw [K.m])⟩) (hit (rField rfl fun {m w σ} hm i => by
    obtain ⟨h', R, K⟩ : InM F h 1 w σ := only (P := fun m => InM F h m w σ) hm i
    exact ⟨_, _, _, R.hs.get 4 rfl, rfl, .xx (by show MV.int h'.m.status = _; rw [K.m])⟩) (hit (rItem fun {m w σ Q} _ i u x gu gx q => by
    obtain ⟨h', R⟩ := InM.rp (w := w) i
    obtain rfl : u = .ref 7 := gu.xE
    refine GV.iE gx fun x ix => ?_
    obtain ⟨x0, x1⟩ := ix _ rfl
    have hx : x.toNat < h'.m.regs.length := by rw [R.ok.len]; omega
    have e := List.getElem?_eq_getElem hx
    have := R.ok.reg _ (List.mem_of_getElem? e)
    exact i_list (R.hs.get 6 rfl) x0 (Int.lt_of_le_of_lt x1 (by decide)) (v := .int _) (by rw [List.getElem?_map, e]; rfl) (q _ (.ii this.1 this.2))) (hit (rKeep fun {m w vs σ Q} hm i g q => GL.e1 g fun u gu => by
    obtain ⟨h', R, K⟩ : InM F h 1 w σ := only (P := fun m => InM F h m w σ) hm i
    obtain rfl : u = .ref 8 := gu.xE
    exact blt_of (V := .builtin "len") (by unfold blts; rfl) (f_len_ba (R.hs.get 7 rfl) (Nat.le_trans R.ok.out (Nat.le_trans R.bb (by decide))) (q _ (.xx (by show MV.int h'.m.out.length = _; rw [K.m]))))) hit0))))
theorem Done.of {h1 h' : Mh} (B : Bg F h h1) (hd : h.m.done = false) (M : Moved h1 h') : Done F h false h' := ⟨by rw [M.d, B.m, hd], M.kp.trans B.kp, Nat.le_trans M.b (Nat.le_trans (Nat.succ_le_succ B.b) (Nat.le_succ _))⟩
theorem mf_sz {m : Mc} {lg : MV} : (mfields m lg).length < sz := (by decide : (10 : Nat) < sz)
theorem setpc {v : Int} {P : St → Prop} (R : Rp F h σ) (q : ∀ h' σ', Rp F h' σ' → h'.m.done = h.m.done → h'.kp = h.kp → h'.b = h.b → P σ') : SetAttrS (.ref 5) "pc" (.int v) σ P T :=
  sa_field (R.hs.get 4 rfl) rfl mf_sz (q { h with m := { h.m with pc := v } } _ (R.turn (m' := { h.m with pc := v }) (R.hs.set 4 rfl _) ⟨R.ok.len, R.ok.reg, R.ok.mem, R.ok.out⟩ (Nat.le_refl _) R.bb (chain_pc v R.ch)) rfl rfl rfl)
theorem rowsM2_ok (hd : h.m.done = false) (hb : h.b < 890) (hT : ∀ {h' σ}, Rp F h' σ → Know h h' → T σ) : ∀ e ∈ rowsM2, Row.Ok (6 + n) (worM F h) T e :=
  hit (rCall (by kernel_rfl) fun {w vs σ Q} i g q => GL.e2 g fun u x gu gx => by
    obtain ⟨h', R, K⟩ : InM F h 7 w σ := i
    obtain rfl : u = .ref 5 := gu.xE
    obtain rfl := tup2 gx (u := .int h'.m.pc) fun v (hy : v = .int h.m.pc) => by rw [hy, K.m]
    exact (R.begin fun v sl σ' R => q w v σ' List.prefix_rfl ⟨_, R, K.m, by show begK F h' = _; unfold begK; rw [K.m, K.kp], Nat.le_succ_of_le K.b⟩ (.xx trivial)).up (Nat.le_add_right_of_le (by decide))) (hit (rCall (by kernel_rfl) fun {w vs σ Q} i g q => GL.e2 g fun u x gu gx => by
    obtain ⟨h', R, K⟩ : InM F h 1 w σ := i
    obtain rfl : u = .ref 5 := gu.xE
    obtain rfl := tup2 gx (u := .int h.m.status) fun _ h => h
    exact (R.note (e := .st h.m.status) (Nat.lt_of_le_of_lt K.b (by omega)) trivial (by rw [K.m]; show ({ h.m with status := _, done := false } : Mc) = _; rw [← hd]) fun v σ' R' => q w v σ' List.prefix_rfl ⟨h', R', K, R.ch, R.ok.out⟩ (.xx trivial)).up (Nat.le_add_right_of_le (by decide))) (hit (rCall (by kernel_rfl) fun {w vs σ Q} i g q => GL.e2 g fun u x gu gx => by
    obtain ⟨h', R, K⟩ : InM F h 1 w σ := i
    obtain rfl : u = .ref 5 := gu.xE
    obtain rfl := tup2 gx (u := .int h.m.out.length) fun _ h => h
    exact (R.note (e := .out h.m.out.length) (Nat.lt_of_le_of_lt K.b (by omega)) ⟨Int.natCast_nonneg _, by rw [K.m]; exact Int.le_refl _⟩ (by rw [K.m]; show ({ h.m with out := h.m.out.take h.m.out.length } : Mc) = _; rw [List.take_length]) fun v σ' R' => q w v σ' List.prefix_rfl ⟨h', R', K, R.ch, R.ok.out⟩ (.xx trivial)).up (Nat.le_add_right_of_le (by decide))) (hit (rOn fun {w vs σ Q} i g q => GL.e2 g fun u x gu gx => by
    obtain ⟨h1, R, K⟩ : InM F h 2 w σ := i
    obtain rfl : u = .ref 5 := gu.xE
    rw [gx.bitE]
    exact sa_field (R.hs.get 4 rfl) rfl mf_sz (q w _ _ List.prefix_rfl ⟨h1, R.turn (m' := { h1.m with done := true }) (R.hs.set 4 rfl _) ⟨R.ok.len, R.ok.reg, R.ok.mem, R.ok.out⟩ (Nat.le_refl _) R.bb (by
      have := chain_add (e := .st h.m.status) K.ch (m' := { h1.m with done := true }) trivial (by rw [K.m]; show ({ h.m with status := h.m.status, done := false } : Mc) = _; rw [← hd])
      rw [← addSl_st] at this; exact this), K⟩ .n)) (hit (rOn fun {w vs σ Q} i g q => GL.e2 g fun u x gu gx => by
    obtain ⟨h1, R, K⟩ : InM F h 3 w σ := i
    obtain rfl : u = .ref 5 := gu.xE
    refine GV.iE gx fun x _ => ?_
    exact sa_field (R.hs.get 4 rfl) rfl mf_sz (q w _ _ List.prefix_rfl ⟨_, R.turn (m' := { h1.m with done := true, status := x }) (R.hs.set 4 rfl _) ⟨R.ok.len, R.ok.reg, R.ok.mem, R.ok.out⟩ (Nat.le_refl _) R.bb (by
      have := chain_add (e := .st h.m.status) K.ch (m' := { h1.m with done := true, status := x }) trivial (by rw [K.m]; show ({ h.m with status := h.m.status, done := false } : Mc) = _; rw [← hd])
      rw [← addSl_st] at this; exact this), rfl, K.kp, Nat.le_trans (Nat.succ_le_succ K.b) (Nat.le_succ _)⟩ .n)) (hit (rOn fun {w vs σ Q} i g q => GL.e2 g fun u x gu gx => by
    obtain ⟨h1, R, K⟩ : InM F h 5 w σ := i
    obtain rfl : u = .ref 8 := gu.xE
    refine GV.iE gx fun x ix => ?_
    obtain ⟨x0, x1⟩ := ix _ rfl
    have ho := Nat.succ_le_succ K.o
    exact f_baApp (R.hs.get 7 rfl) x0 (Int.lt_of_le_of_lt x1 (by decide)) (Nat.lt_of_le_of_lt (Nat.le_of_succ_le_succ ho) (Nat.lt_of_le_of_lt K.b (Nat.lt_trans (Nat.add_lt_add_right hb 2) (by decide)))) (q w _ _ List.prefix_rfl ⟨_, R.turn (m' := { h1.m with out := h1.m.out ++ [UInt8.ofNat x.toNat] }) (R.hs.set 7 rfl _) ⟨R.ok.len, R.ok.reg, R.ok.mem, Nat.le_trans (Nat.le_of_eq (List.length_append ..)) ho⟩ (Nat.le_refl _) R.bb (by
      have := chain_add (e := .out h.m.out.length) K.ch (m' := { h1.m with out := h1.m.out ++ [UInt8.ofNat x.toNat] }) ⟨Int.natCast_nonneg _, by rw [← K.m]; show _ ≤ ((h1.m.out ++ [_]).length : Int); rw [List.length_append]; exact Int.ofNat_le.mpr (Nat.le_add_right _ 1)⟩ (by show ({ h1.m with out := (h1.m.out ++ _).take h.m.out.length } : Mc) = _; rw [← K.m, List.take_left])
      rw [← addSl_st] at this; exact this), by show h1.m.done = _; rw [K.m, hd], K.kp, Nat.le_trans (Nat.succ_le_succ K.b) (Nat.le_succ _)⟩ .n)) (hit (rOn fun {w vs σ Q} i g q => GL.e2 g fun u x gu gx => by
    obtain ⟨h1, R, K⟩ : InM F h 1 w σ := i
    obtain rfl : u = .ref 5 := gu.xE
    exact GV.iE gx fun x _ => setpc R fun h' σ' R' d k b => q w _ _ List.prefix_rfl ⟨h', R', .of K hd ⟨d, k, b ▸ Nat.le_succ _⟩⟩ .n) (hit (rOn fun {w vs σ Q} i g q => GL.e2 g fun u x gu gx => by
    obtain ⟨h1, R, K⟩ : InM F h 6 w σ := i
    obtain rfl : u = .ref 5 := gu.xE
    exact GV.iE gx fun x _ => setpc R fun h' σ' R' d k b => q w _ _ List.prefix_rfl ⟨h', R', d.trans K.d, k.trans K.kp, b ▸ K.b⟩ .n) (hit (rCall (by kernel_rfl) fun {w vs σ Q} i g q => GL.e3 g fun u x y gu gx gy => by
    obtain ⟨h1, R, K⟩ : InM F h 1 w σ := i
    obtain rfl : u = .ref 5 := gu.xE
    exact GV.iE gx fun x ix => GV.iE gy fun y _ => (sp_put R (Nat.lt_of_le_of_lt K.b (by omega)) (ix _ rfl).1 (Int.lt_of_le_of_lt (ix _ rfl).2 (by decide)) fun v h' σ' R' M => q w v σ' List.prefix_rfl ⟨h', R', .of K hd M⟩ (.xx trivial)).up (Nat.le_add_right_of_le (by decide))) (hit (rOns fun {w vs σ Q} i g q => GL.e1 g fun u gu => by
    obtain rfl : u = .ref 5 := gu.xE
    exact ⟨ft_ne (by kernel_rfl), (sp_fetched (T := T) i (Nat.lt_trans hb (by decide)) (fun R => hT R ⟨rfl, rfl, rfl, Nat.le_succ _⟩) fun v h' σ' R K ⟨a, ha, ga⟩ => q (a, 7) (List.mem_map.mpr ⟨a, ha, rfl⟩) w v σ' List.prefix_rfl ⟨h', R, K⟩ (ga.mono fun _ _ h => h.elim)).up (Nat.le_add_right _ _)⟩) hit0)))))))))
theorem rowsRW_ok {k : Nat} (hk : k ∈ [1, 2, 4]) (hd : h.m.done = false) (hb : h.b < 890) : ∀ e ∈ rowsRW k, Row.Ok (6 + n) (worM F h) T e :=
  hit (rCall (by kernel_rfl) fun {w vs σ Q} i g q => GL.e3 g fun u x y gu gx gy => by
    obtain ⟨h1, R, K⟩ : InM F h 1 w σ := i
    obtain rfl : u = .ref 5 := gu.xE
    refine GV.iE gx fun x ix => GV.byE gy fun b eb => ?_
    subst eb
    obtain ⟨x0, x1⟩ := ix _ rfl
    exact (sp_write ((by decide : ∀ k ∈ [1, 2, 4], k ∈ [1, 2, 3, 4]) _ hk) R (Nat.lt_of_le_of_lt K.b (by omega)) x0 (by dsimp only at x1; omega) fun v h' σ' R' M => q w v σ' List.prefix_rfl ⟨h', R', .of K hd M⟩ (.xx trivial)).up (Nat.le_add_right_of_le (by decide))) (hit (rCall (by kernel_rfl) fun {w vs σ Q} i g q => GL.e3 g fun u x y gu gx gy => by
    obtain ⟨h1, R, K⟩ : InM F h 1 w σ := i
    obtain rfl : u = .ref 5 := gu.xE
    rw [one_int rfl gy]
    refine GV.iE gx fun x ix => ?_
    obtain ⟨x0, x1⟩ := ix _ rfl
    exact (sp_read hk R (fun c => absurd ⟨x0, by dsimp only at x1; omega⟩ c) fun b σ' R' hb => q w _ _ List.prefix_rfl ⟨h1, R', K⟩ (.by hb)).up (Nat.le_add_right_of_le (by decide))) hit0)
theorem tabM_ok (hd : h.m.done = false) (hb : h.b < 890) (hT : ∀ {h' σ}, Rp F h' σ → Know h h' → T σ) : TabOk (6 + n) (worM F h) T tabM where
  op := rows_ok (List.forall_mem_append.mpr ⟨rowsC_ok fun i => InM.hs i, List.forall_mem_append.mpr ⟨rowsM_ok hd, List.forall_mem_append.mpr ⟨rowsM2_ok hd hb hT, List.forall_mem_append.mpr ⟨rowsRW_ok (by decide) hd hb, List.forall_mem_append.mpr ⟨rowsRW_ok (by decide) hd hb, List.forall_mem_append.mpr ⟨rowsRW_ok (by decide) hd hb, hit (ok_wid (Nat.le_add_right_of_le (by decide)) fun {_ w _ _} i => InM.app (w := w) i) plain_ok⟩⟩⟩⟩⟩⟩)
  own := ownL_ok (own5_ok fun i => InM.hs i)
  met := fun {a m id mo w v σ} e i g => by
    rcases Option.or_eq_some_iff.mp e with e | ⟨_, e⟩
    · exact metL_ok (hit (fun {mo w v σ} hm i g => by
        obtain ⟨h', R⟩ := InM.rp (w := w) i
        obtain rfl : v = .ref 8 := g.xE
        exact m_baApp (R.hs.get 7 rfl)) hit0) e i g
    · exact plainMet_ok e g
  trap := fun {m w σ} c i => match m, c, i with
    | 0, _, i => hT i ⟨rfl, rfl, rfl, Nat.le_succ _⟩ | 7, _, i => let ⟨_, R, K⟩ := i; hT R K
    | 1, c, _ => no c | 2, c, _ => no c | 3, c, _ => no c | 4, c, _ => no c | 5, c, _ => no c | 6, c, _ => no c | _ + 8, _, i => i.elim
noncomputable def outM (r : AV) (m : Nat) : Bool := (r.le (.s (.str "exit")) && decide (m = 4)) || ((r.le (.s (.str "")) && decide (m = 6)) || (r.le (.s (.str "break")) && decide (m = 7)))
theorem look_m : run tabM 5 "Machine" "step" [xx 0] 0 outM = true := by kernel_rfl
noncomputable def tabO : Tab := tabR [rDone true] (fun _ _ _ => none) (fun _ _ _ => none) fun _ => false
theorem look_o : run tabO 1 "Machine" "step" [xx 0] 0 (fun r m => r.le (.s (.str "exit")) && decide (m = 0)) = true := by kernel_rfl
/-- what a step leaves behind -/
inductive StepOut (F : Fx) (h : Mh) : Str → Mh → Prop
  | over : h.m.done = true → StepOut F h "exit" h
  | stop {h' : Mh} : h.m.done = false → Know h h' → StepOut F h "break" h'
  | go {h' : Mh} : h.m.done = false → Done F h false h' → StepOut F h "" h'
  | fin {h' : Mh} : h.m.done = false → Done F h true h' → StepOut F h "exit" h'
theorem outE {X : Nat → MV → Prop} {r : AV} {v : MV} {s : Str} {m j : Nat} (c : (r.le (.s (.str s)) && decide (m = j)) = true) (g : GV X r v) : v = .str s ∧ m = j := by
  rw [Bool.and_eq_true, decide_eq_true_eq] at c
  exact ⟨(AV.le_ok c.1 g).strE, c.2⟩
theorem sp_step (R : Rp F h σ) (hb : h.b < 890) (hT : ∀ {h' σ}, h.m.done = false → Rp F h' σ → Know h h' → T σ) (q : ∀ s h' σ', Rp F h' σ' → StepOut F h s h' → Q (.str s) σ') : CalS 11 "Machine" "step" [.ref 5] σ Q T := by
  cases hd : h.m.done with
  | true =>
    refine (run_ok (R := worM F h) (j := 0) (fun _ => ⟨rows_ok (hit (rDone_ok hd) hit0), fun h => noO h, fun h => noO h, fun h => no h⟩) look_o (w := ((), [])) R (.cons (.xx rfl) .nil) fun av m w v σ hk _ i g => ?_).up (by decide)
    obtain ⟨rfl, rfl⟩ := outE hk g
    exact q _ h σ i (.over hd)
  | false =>
    refine run_ok (R := worM F h) (j := 6) (fun _ => tabM_ok hd hb (hT hd)) look_m (w := ((), [])) R (.cons (.xx rfl) .nil) fun av m w v σ hk _ i g => ?_
    refine orE hk (fun c => ?_) fun c => orE c (fun c => ?_) fun c => ?_
    · obtain ⟨rfl, rfl⟩ := outE c g
      obtain ⟨h', R', K⟩ := i
      exact q _ h' σ R' (.fin hd K)
    · obtain ⟨rfl, rfl⟩ := outE c g
      obtain ⟨h', R', K⟩ := i
      exact q _ h' σ R' (.go hd K)
    · obtain ⟨rfl, rfl⟩ := outE c g
      obtain ⟨h', R', K⟩ := i
      exact q _ h' σ R' (.stop hd K)
end
end Mine
end
section
set_option genCtorIdx false
namespace Mine

/-! load -/
noncomputable def tabL : Tab := tabR (rowsC ++ (rowsZ (xx 10) false false ++ [⟨.blt "len", pat [xx 9] (keep [0] (xx 10))⟩, ⟨.cmp .Lt, pat [xx 10, .int 0 0] (keep [0] (bit false))⟩, ⟨.setS, pat [xx 2, xx 7, xx 8, xx 9] (on 0 [(non, 1)])⟩])) (ownL [⟨xx 0, allM, "Machine"⟩]) (fun _ _ _ => none) fun _ => false
noncomputable def InL (L : List (Nat × MO)) (mem : List UInt8) (k : Nat) (m : Nat) (w : Unit × List MV) (σ : St) : Prop := σ.length = k ∧ [Hs L σ, Hs (L.set 5 (6, .ba mem)) σ].getD m False
noncomputable abbrev worL (L : List (Nat × MO)) (mem : List UInt8) (z : Int) (b : List UInt8) (k : Nat) : Wor := worG Unit (preZ z b.length [(· = .bytes b), (· = .int b.length)]) (InL L (memPut mem (z - 4096) b) k)
section
variable {L : List (Nat × MO)} {σ : St} {n : Nat} {T : St → Prop} {Q : MV → St → Prop} {mem b : List UInt8} {z : Int} {mc : Mc} {lg : MV}
theorem look_l : run tabL 2 "Machine" "load" [xx 0, xx 6, xx 9] 0 (fun _ m => decide (m = 1)) = true := by kernel_rfl
theorem sp_load (H : Hs L σ) (e5 : L[4]? = some (5, .inst "Machine" (mfields mc lg))) (e6 : L[5]? = some (6, .ba mem)) (hl : mem.length = 128) (h1 : 4096 ≤ z) (h2 : z - 4096 + b.length ≤ 128) (q : ∀ v σ', Hs (L.set 5 (6, .ba (memPut mem (z - 4096) b))) σ' → σ'.length = σ.length → Q v σ') : CalS 2 "Machine" "load" [.ref 5, .int z, .bytes b] σ Q T := by
  have h0 := Int.sub_nonneg_of_le h1
  have hk : b.length ≤ 128 := by omega
  have i5 : ∀ {m w σ'}, InL L (memPut mem (z - 4096) b) σ.length m w σ' → M5 σ' := fun {m w σ'} i => match m, i with
    | 0, i => ⟨_, _, Hs.get i.2 4 e5⟩ | 1, i => ⟨_, _, Hs.get i.2 4 ((List.getElem?_set_ne (by decide)).trans e5)⟩ | _ + 2, i => i.2.elim
  have hz : ∀ {w : Unit × List MV} {v : MV}, GV ((worL L mem z b σ.length).X w) (xx 10) v → v = .int b.length := fun g => g.xE
  refine run_ok (R := worL L mem z b σ.length) (T := T) (j := 0) (fun _ => ⟨rows_ok (List.forall_mem_append.mpr ⟨rowsC_ok fun {_ w _} i => i5 (w := w) i, List.forall_mem_append.mpr ⟨rowsZ_ok hz (decide_eq_false (Int.not_lt.mpr h0)) (decide_eq_false (Int.not_lt.mpr h2)), ?_⟩⟩), ownL_ok (own5_ok fun {_ w _} i => i5 (w := w) i), fun h => noO h, fun h => no h⟩) look_l (w := ((), [])) ⟨rfl, H⟩ (.cons (.xx rfl) (.cons (.xx rfl) (.cons (.xx rfl) .nil))) fun av m w v σ hk _ i _ => (by rw [of_decide_eq_true hk] at i; exact q v σ i.2 i.1)
  exact hit (rKeep fun _ i g q => GL.e1 g fun u gu => by
    obtain rfl : u = .bytes b := gu.xE
    exact blt_of (V := .builtin "len") (by unfold blts; rfl) (f_len_bytes (Nat.le_trans hk (by decide)) (q _ (.xx rfl)))) (hit (rCmp fun _ i u v gu gv => by
    obtain rfl : u = .int b.length := gu.xE
    rw [one_int rfl gv]
    exact (decide_eq_false (Int.not_lt.mpr (Int.natCast_nonneg b.length)) : decide ((b.length : Int) < 0) = false) ▸ c_lt) (hit (rOn fun {w vs σ Q} i g q => GL.e4 g fun u x y c gu gx gy gc => by
    obtain rfl : u = .ref 6 := gu.xE
    obtain rfl : x = .int (z - 4096) := gx.xE
    obtain rfl : y = .int (z - 4096 + b.length) := gy.xE
    obtain rfl : c = .bytes b := gc.xE
    exact ss_ba (Hs.get i.2 5 e6) h0 (Int.le_add_of_nonneg_right (Int.natCast_nonneg _)) (hl ▸ h2) asub (by rw [hl]; decide) (q w _ _ List.prefix_rfl ⟨(List.length_set ..).trans i.1, Hs.set i.2 5 e6 _⟩ .n)) hit0))
end

/-! undo -/
noncomputable abbrev worX (L L' : List (Nat × MO)) (D : St → Prop) (a b : MV) : Wor := worG Unit (pre0 [(· = .ref 13), (· = a), (· = b)]) fun m _ σ => [Hs L σ, Hs L' σ, D σ].getD m False
noncomputable def tabX (l : List Row) : Tab := tabR (⟨.attr "machine", pat [xx 6] (keep [0] (xx 0))⟩ :: (rowsC ++ l)) (ownL [⟨xx 0, [0], "Machine"⟩]) (fun _ _ _ => none) fun _ => false
noncomputable def xR : List Row := [⟨.setI, pat [xx 1, xx 7, xx 8] (on 0 [(non, 1)])⟩]
noncomputable def xM : List Row := [⟨.call "Machine" "load", pat [xx 0, xx 7, xx 8] (on 0 [(xx 5, 1)])⟩]
noncomputable def xO : List Row := [⟨.del, pat [xx 3, xx 7] (on 0 [(non, 1)])⟩]
noncomputable def xS : List Row := [⟨.setA "status", pat [xx 0, xx 7] (on 0 [(non, 2)])⟩, ⟨.setA "is_done", pat [xx 0, bit false] (on 2 [(non, 1)])⟩]
noncomputable def xP : List Row := [⟨.setA "pc", pat [xx 0, xx 7] (on 0 [(non, 1)])⟩]
noncomputable def oneX (_ : AV) (m : Nat) : Bool := decide (m = 1)
theorem look_xR : run (tabX xR) 1 "Record" "undo" [xx 6, .tup [.str "r", .x 7, .x 8]] 0 oneX = true := by kernel_rfl
theorem look_xM : run (tabX xM) 1 "Record" "undo" [xx 6, .tup [.str "m", .x 7, .x 8]] 0 oneX = true := by kernel_rfl
theorem look_xO : run (tabX xO) 1 "Record" "undo" [xx 6, .tup [.str "out", .x 7]] 0 oneX = true := by kernel_rfl
theorem look_xS : run (tabX xS) 1 "Record" "undo" [xx 6, .tup [.str "status", .x 7]] 0 oneX = true := by kernel_rfl
theorem look_xP : run (tabX xP) 1 "Record" "undo" [xx 6, .tup [.str "pc", .x 7]] 0 oneX = true := by kernel_rfl
section
variable {F : Fx} {h : Mh} {σ : St} {n : Nat} {T : St → Prop} {Q : MV → St → Prop} {X : List (Nat × MO)} {m' : Mc} {b : Nat} {e : Ent}
theorem undo_of {l : List Row} {av : AV} {v x y : MV} {D : St → Prop} (H : Hs (lay F h ++ X) σ) (hD : ∀ {σ}, D σ → M5 σ) (look : run (tabX l) 1 "Record" "undo" [xx 6, av] 0 oneX = true) (hv : ∀ {w}, GV ((worX (lay F h ++ X) (lay F { h with m := m' } ++ X) D x y).X w) av v)
    (ok : ∀ {n}, ∀ e ∈ l, Row.Ok (2 + n) (worX (lay F h ++ X) (lay F { h with m := m' } ++ X) D x y) T e) (q : ∀ v σ', Hs (lay F { h with m := m' } ++ X) σ' → Q v σ') : CalS 3 "Record" "undo" [.ref 13, v] σ Q T :=
  have i5 : ∀ {m w σ}, (worX (lay F h ++ X) (lay F { h with m := m' } ++ X) D x y).I m w σ → M5 σ := fun {m w σ} i => match m, i with
    | 0, i => ⟨_, _, Hs.get i 4 rfl⟩ | 1, i => ⟨_, _, Hs.get i 4 rfl⟩ | 2, i => hD i | _ + 3, i => i.elim
  run_ok (R := worX (lay F h ++ X) (lay F { h with m := m' } ++ X) D x y) (j := 2) (fun _ => ⟨rows_ok (hit (rKeep fun {m w vs σ Q} hm i g q => GL.e1 g fun u gu => by
      obtain rfl := List.mem_singleton.mp hm
      obtain rfl : u = .ref 13 := gu.xE
      exact at_field (Hs.get i 9 rfl) rfl rfl (q _ (.xx rfl))) (List.forall_mem_append.mpr ⟨rowsC_ok fun {_ w _} i => i5 (w := w) i, ok⟩)), ownL_ok (hit (fun {mo w v σ} _ i g => let ⟨_, _, H⟩ := i5 (w := w) i; ⟨5, _, g.xE, H, by kernel_rfl⟩) hit0), fun h => noO h, fun h => no h⟩) look (w := ((), [])) H (.cons (.xx rfl) (.cons hv .nil)) fun av m w v σ hk _ i _ => q v σ (by rw [of_decide_eq_true hk] at i; exact i)
theorem gs3 {P : Nat → MV → Prop} {s : Str} {j k : Nat} {u v : MV} (h1 : P j u) (h2 : P k v) : GV P (.tup [.str s, .x j, .x k]) (.tup [.str s, u, v]) := .tup (.cons .str (.cons (.x h1) (.cons (.x h2) .nil)))
theorem gs2 {P : Nat → MV → Prop} {s : Str} {j : Nat} {u : MV} (h1 : P j u) : GV P (.tup [.str s, .x j]) (.tup [.str s, u]) := .tup (.cons .str (.cons (.x h1) .nil))
theorem setf {a : Str} {v : MV} {P : St → Prop} (H : Hs (lay F h ++ X) σ) (ha : isField a = true) (hp : putK (mfields h.m (lgOf F.on)) a v = mfields m' (lgOf F.on)) (h6 : m'.mem = h.m.mem) (h7 : m'.regs = h.m.regs) (h8 : m'.out = h.m.out) (q : ∀ σ', Hs (lay F { h with m := m' } ++ X) σ' → P σ') : SetAttrS (.ref 5) a v σ P T :=
  sa_field (H.get 4 rfl) ha mf_sz (q _ (by
    rw [hp]
    have : lay F { h with m := m' } ++ X = (lay F h ++ X).set 4 (5, .inst "Machine" (mfields m' (lgOf F.on))) := by unfold lay; rw [← h6, ← h7, ← h8]; rfl
    rw [this]
    exact H.set 4 rfl _))
theorem sp_undo (H : Hs (lay F h ++ X) σ) (ok : h.m.Ok b) (hb : b ≤ 1000) (s : Safe e h.m) (q : ∀ v σ', Hs (lay F { h with m := undo1 e h.m } ++ X) σ' → Q v σ') : CalS 3 "Record" "undo" [.ref 13, e.mv] σ Q T := by
  cases e with
  | r k v => exact undo_of (x := .int k) (y := .int v) (D := fun _ => False) H (fun h => h.elim) look_xR (gs3 rfl rfl) (hit (rOn fun {w vs σ Q} i g q => GL.e3 g fun u x y gu gx gy => by
      obtain rfl : u = .ref 7 := gu.xE
      obtain rfl : x = .int k := gx.xE
      obtain rfl : y = .int v := gy.xE
      refine si_list (Hs.get i 6 rfl) s.1 (Int.lt_trans s.2.1 (by decide)) (by rw [List.length_map, ok.len]; exact s.2.1) (q w _ _ List.prefix_rfl ?_ .n)
      show Hs _ (List.set _ 7 (.list ((h.m.regs.map MV.int).set k.toNat (.int v))))
      rw [← List.map_set]
      exact Hs.set i 6 rfl _) hit0) q
  | m a c => exact undo_of (x := .int a) (y := .bytes c) (D := fun _ => False) H (fun h => h.elim) look_xM (gs3 rfl rfl) (hit (rCall (by kernel_rfl) fun {w vs σ Q} i g q => GL.e3 g fun u x y gu gx gy => by
      obtain rfl : u = .ref 5 := gu.xE
      obtain rfl : x = .int a := gx.xE
      obtain rfl : y = .bytes c := gy.xE
      exact (sp_load i rfl rfl ok.mem s.1 s.2 fun v σ' H _ => q w v σ' List.prefix_rfl H (.xx trivial)).up (Nat.le_add_right _ _)) hit0) q
  | out k => exact undo_of (x := .int k) (y := .none) (D := fun _ => False) H (fun h => h.elim) look_xO (gs2 rfl) (hit (rOn fun {w vs σ Q} i g q => GL.e2 g fun u x gu gx => by
      obtain rfl : u = .ref 8 := gu.xE
      obtain rfl : x = .int k := gx.xE
      exact d_ba (Hs.get i 7 rfl) s.1 s.2 (Nat.le_trans ok.out (Nat.le_trans hb (by decide))) (q w _ _ List.prefix_rfl (Hs.set i 7 rfl _) .n)) hit0) q
  | st v => exact undo_of (x := .int v) (y := .none) (D := Hs (lay F { h with m := { h.m with status := v } } ++ X)) H (fun H => ⟨_, _, H.get 4 rfl⟩) look_xS (gs2 rfl) (hit (rOn fun {w vs σ Q} i g q => GL.e2 g fun u x gu gx => by
      obtain rfl : u = .ref 5 := gu.xE
      obtain rfl : x = .int v := gx.xE
      exact setf (m' := { h.m with status := v }) i rfl rfl rfl rfl rfl fun σ' H => q w _ σ' List.prefix_rfl H .n) (hit (rOn fun {w vs σ Q} i g q => GL.e2 g fun u x gu gx => by
      obtain rfl : u = .ref 5 := gu.xE
      rw [gx.bitE]
      have i : Hs (lay F { h with m := { h.m with status := v } } ++ X) σ := i
      exact setf (m' := { h.m with status := v, done := false }) i rfl rfl rfl rfl rfl fun σ' H => q w _ σ' List.prefix_rfl H .n) hit0)) q
theorem sp_undoP {v : Int} (H : Hs (lay F h ++ X) σ) (q : ∀ v' σ', Hs (lay F { h with m := { h.m with pc := v } } ++ X) σ' → Q v' σ') : CalS 3 "Record" "undo" [.ref 13, pcMv v] σ Q T :=
  undo_of (x := .int v) (y := .none) (D := fun _ => False) H (fun h => h.elim) look_xP (gs2 rfl) (hit (rOn fun {w vs σ Q} i g q => GL.e2 g fun u x gu gx => by
      obtain rfl : u = .ref 5 := gu.xE
      obtain rfl : x = .int v := gx.xE
      exact setf (m' := { h.m with pc := v }) i rfl rfl rfl rfl rfl fun σ' H => q w _ σ' List.prefix_rfl H .n) hit0) q
end
end Mine
end
section
set_option genCtorIdx false
namespace Mine

/-! back -/
theorem back_at : FT "Record" "back" = metAt 1 7 := by kernel_rfl
/-- the call of undo over a name -/
noncomputable abbrev undoS (p1 p2 p3 p4 p5 : Pos) : List Stmt := [.Expr (.Call (.Attribute (.Name "self" p1) "undo" p2) [.Name "entry" p3] [] p4) p5]
noncomputable abbrev backSc : Sc := ⟨["self", "entry"], by decide +kernel, by decide +kernel⟩
section
variable {p0 p1 p2 p3 p4 p5 : Pos} {F : Fx} {h : Mh} {σ : St} {n : Nat} {T : St → Prop} {Q : MV → St → Prop} {w : Nm} {j : Nat} {L : List MV} {K : Fl × Loc → St → Prop} {r : List (Nat × Stp)} {m k : Mc} {es : List Ent} {v : Int} {b : Nat}
theorem loop_go {step : Loc → MV → St → (Fl × Loc → St → Prop) → Prop} {nx : Nat → St → Option (Option MV)} {u j : Nat} {ρ : Loc} {v : MV} (e : nx j σ = some (some v)) (h : step ρ v σ (contK (LoopS step nx K u (j + 1)) K)) : LoopS step nx K (u + 1) j ρ σ := by unfold LoopS; rw [e]; exact h
theorem loop_end {step : Loc → MV → St → (Fl × Loc → St → Prop) → Prop} {nx : Nat → St → Option (Option MV)} {u j : Nat} {ρ : Loc} (e : nx j σ = some none) (h : K (.next, ρ) σ) : LoopS step nx K (u + 1) j ρ σ := by unfold LoopS; rw [e]; exact h
theorem nx_at {i p : Nat} {l : List MV} {x : Option MV} (e : σ[i]? = some (.list l)) (hx : l[p]? = x) : nxList i p σ = some x := by unfold nxList; rw [e, ← hx]
/-- one entry undone -/
theorem undo_turn {x : MV} (h24 : p2.endLine = p4.line) (hw : w.isLo = true) (H : Hs (lay F h ++ [(j, .list L)]) σ) (K' : Fl × Loc → St → Prop) (c : ∀ {Q : MV → St → Prop}, (∀ v σ', K' (.next, ⟨backSc, [.v (.ref 13), .v x]⟩) σ' → Q v σ') → CalS 3 "Record" "undo" [.ref 13, x] σ Q fun _ => False) : turn 3 (.Name "entry" p0) (undoS p1 p2 p3 p4 p5) ⟨backSc, [.v (.ref 13), w]⟩ x σ K' := by
  refine a_name (ρ := ⟨backSc, [.v (.ref 13), w]⟩) (ws := [.v (.ref 13), .v x]) (.tl (.hd hw)) ?_
  with_reducible refine x_cons ?_
  with_reducible refine x_expr (fun _ _ _ => rfl) ?_
  with_reducible refine e_meth (Nat.le_of_ble_eq_true rfl) h24 rfl rfl ?_
  with_reducible refine e_name .hd ?_
  obtain ⟨d, hd⟩ := Option.isSome_iff_exists.mp (by kernel_rfl : (FT "Record" "undo").isSome = true)
  refine .own (H.get 9 rfl) (by kernel_rfl) (by kernel_rfl) hd ?_
  with_reducible refine l_cons rfl ?_
  with_reducible refine e_name (.tl .hd) ?_
  with_reducible refine l_nil ?_
  exact c fun _ _ h => x_nil h
theorem back_loop (h24 : p2.endLine = p4.line) (hb : b ≤ 1000) (q : ∀ w σ, Hs (lay F { h with m := k } ++ [(j, .list L)]) σ → K (.next, ⟨backSc, [.v (.ref 13), w]⟩) σ) : ∀ {es : List Ent} {m : Mc} {p u : Nat} {w : Nm} {σ : St}, Und es v m k → m.Ok b → es.length + 2 ≤ u → w.isLo = true → L.drop p = es.map Ent.mv ++ [pcMv v] → Hs (lay F { h with m := m } ++ [(j, .list L)]) σ →
    LoopS (turn 3 (.Name "entry" p0) (undoS p1 p2 p3 p4 p5)) (nxList j) K u p ⟨backSc, [.v (.ref 13), w]⟩ σ := fun {es} => by
  have at0 : ∀ {x : MV} {l : List MV} {p : Nat}, L.drop p = x :: l → L[p]? = some x ∧ L.drop (p + 1) = l := fun {x l p} e => by
    refine ⟨?_, ?_⟩
    · have := congrArg (·[0]?) e
      rw [List.getElem?_drop] at this
      exact this
    · rw [← List.drop_drop, e]; rfl
  have hj : ∀ {m : Mc} {σ : St}, Hs (lay F { h with m := m } ++ [(j, .list L)]) σ → σ[j]? = some (.list L) := fun H => H.at_ _ (List.mem_append_right _ (.head _))
  induction es with
  | nil =>
    intro m p u w σ U ok hu hw hp H
    obtain ⟨u, rfl⟩ := Nat.exists_eq_add_of_le' hu
    obtain ⟨e0, e1⟩ := at0 hp
    have hk : ({ m with pc := v } : Mc) = k := U
    refine loop_go (nx_at (hj H) e0) (undo_turn h24 hw H _ fun q' => sp_undoP H fun _ σ' H' => q' _ _ ?_)
    rw [hk] at H'
    exact loop_end (nx_at (hj H') (List.getElem?_eq_none (List.drop_eq_nil_iff.mp e1))) (q _ _ H')
  | cons e es ih =>
    intro m p u w σ U ok hu hw hp H
    obtain ⟨u, rfl⟩ := Nat.exists_eq_add_of_le' (Nat.le_trans (Nat.le_add_left 1 _) hu)
    obtain ⟨e0, e1⟩ := at0 hp
    exact loop_go (nx_at (hj H) e0) (undo_turn h24 hw H _ fun q' => sp_undo H ok hb U.1 fun _ σ' H' => q' _ _ (ih U.2 (undo1_ok ok U.1) (Nat.le_of_succ_le_succ hu) rfl e1 H'))
theorem und_ok (U : Und es v m k) (ok : m.Ok b) : k.Ok b := by
  induction es generalizing m with
  | nil => obtain rfl : ({ m with pc := v } : Mc) = k := U; exact ⟨ok.len, ok.reg, ok.mem, ok.out⟩
  | cons e es ih => exact ih U.2 (undo1_ok ok U.1)
/-- what back leaves -/
inductive BackOut (h : Mh) : Bool → Mh → Prop
  | no : h.sl = [] → BackOut h false h
  | yes {p : Nat × Stp} {r : List (Nat × Stp)} {k : Mc} {ks : List Mc} : h.sl = p :: r → h.kp = k :: ks → BackOut h true { h with m := k, sl := r, kp := ks }
theorem pop_lay {p : Nat × Stp} {o : MO} (H : Hs ((lay F { h with sl := p :: r }).set 10 (F.s, .list (r.reverse.map fun p => .ref p.1))) σ) : Hs (lay F { h with sl := r } ++ [(σ.length, o)]) (σ ++ [o]) :=
  ((H.sub (List.Sublist.append_left (List.sublist_cons_self ..) ((lay F { h with sl := r }).take 11) : (lay F { h with sl := r }).Sublist _)).new o).perm (List.perm_append_singleton _ _).symm
theorem stp_rev {t : Stp} : (stpMvs t).reverse = t.1.map Ent.mv ++ [pcMv t.2] := by unfold stpMvs; rw [List.reverse_cons, ← List.map_reverse, List.reverse_reverse]
theorem sp_back (R : Rp F h σ) (hb : h.b ≤ 90) (q : ∀ c h' σ', Rp F h' σ' → BackOut h c h' → Q (.bool c) σ') : CalS 4 "Record" "back" [.ref 13] σ Q T := by
  refine hand (d := ⟨["self"], _, _⟩) (ws := [.v (.ref 13), .lo]) back_at rfl backSc rfl rfl (by kernel_rfl) ?_
  with_reducible refine x_cons ?_
  with_reducible refine x_if ?_
  with_reducible refine t_cmp rfl ?_
  with_reducible refine e_attr rfl ?_
  with_reducible refine e_name .hd ?_
  refine at_field (R.hs.get 9 rfl) rfl rfl ?_
  with_reducible refine e_list ?_
  with_reducible refine l_nil ?_
  refine ⟨Nat.zero_le _, ?_⟩
  have c := c_eqL ((R.hs.app (.list [])).get 10 rfl) get_new
  rw [List.isEmpty_map, List.isEmpty_reverse] at c
  refine .mk c ?_
  obtain ⟨m, kn, sl, kp, b⟩ := h
  cases sl with
  | nil =>
    refine ⟨fun _ => ?_, fun e => no e.symm⟩
    with_reducible refine x_cons ?_
    with_reducible refine x_ret ?_
    with_reducible refine e_cb ?_
    exact q false _ _ (R.app _) (.no rfl)
  | cons p r =>
    refine ⟨fun e => no e, fun _ => ?_⟩
    with_reducible refine x_nil ?_
    show ExLS _ _ _ _ _ _
    with_reducible refine x_cons ?_
    with_reducible refine x_for (fun _ _ => rfl) ?_
    with_reducible refine e_slice ?_
    with_reducible refine e_meth (by decide) rfl rfl rfl ?_
    with_reducible refine e_attr rfl ?_
    with_reducible refine e_name .hd ?_
    refine at_field ((R.hs.app _).get 9 rfl) rfl rfl ?_
    have e10 := (R.hs.app (.list [])).get 10 (i := F.s) rfl
    refine .blt (m_listPop e10) ?_
    with_reducible refine l_nil ?_
    have hl : ((p :: r).reverse.map fun p => MV.ref p.1) = (r.reverse.map fun p => .ref p.1) ++ [.ref p.1] := by rw [List.reverse_cons, List.map_append]; rfl
    refine f_listPop e10 (v := .ref p.1) (by rw [hl]; exact List.getLast?_concat ..) (by rw [List.length_map, List.length_reverse]; exact Nat.le_trans R.len (Nat.le_trans R.most (by decide))) ?_
    have H1 := (R.hs.app (.list [])).set 10 rfl (.list (r.reverse.map fun p => .ref p.1))
    rw [hl, List.dropLast_concat]
    with_reducible refine o_none ?_
    with_reducible refine o_none ?_
    with_reducible refine o_some ?_
    with_reducible refine e_neg ?_
    with_reducible refine e_int ?_
    refine ⟨1, rfl, s_rev (H1.get 11 rfl) ?_ (.inl ⟨_, rfl, ⟨_, get_new⟩, ?_⟩)⟩
    · exact Nat.le_trans (Nat.le_of_eq (by unfold stpMvs; rw [List.length_cons, List.length_map, List.length_reverse])) (Nat.le_trans (Nat.succ_le_succ (Nat.le_trans (R.sb p (.head _)) hb)) (by decide))
    cases kp with
    | nil => exact R.ch.elim
    | cons k ks =>
      refine back_loop rfl (h := ⟨m, kn, r, ks, b⟩) (m := m) (k := k) (Nat.le_trans hb (by decide)) (fun w σ' H => ?_) R.ch.1 R.ok (Nat.le_trans (Nat.add_le_add_right (Nat.le_trans (R.sb p (.head _)) hb) 2) (by decide)) rfl stp_rev (pop_lay (h := ⟨m, kn, p :: r, k :: ks, b⟩) H1)
      show ExLS _ _ _ _ _ _
      with_reducible refine x_cons ?_
      with_reducible refine x_ret ?_
      with_reducible refine e_cb ?_
      exact q true _ _ { R with
        hs := H.sub (List.sublist_append_left ..)
        ok := und_ok R.ch.1 R.ok
        sb := fun p hp => R.sb p (.tail _ hp)
        len := Nat.le_of_succ_le R.len
        off := fun e => nomatch R.off e
        ch := R.ch.2 } (.yes rfl rfl)
end
end Mine
end
section
set_option genCtorIdx false
namespace Mine

/-! the law's draws -/
structure Well where
  cells : List Int
  spot : Nat
  seed : Int
noncomputable def Well.o (w : Well) : MO := .list [.ref 1, .int w.spot, .int w.seed]
noncomputable def Well.c (w : Well) : MO := .list (w.cells.map .int)
noncomputable def wl (w : Well) (L : List (Nat × MO)) : List (Nat × MO) := (2, w.o) :: (1, w.c) :: L
noncomputable def top31 : AV := .int 0 2147483646
structure Well.Ok (w : Well) : Prop where
  len : w.cells.length ≤ 60
  ce : ∀ x ∈ w.cells, 0 ≤ x ∧ x ≤ 2147483646
  s0 : 0 ≤ w.seed
  s1 : w.seed ≤ 2147483646
/-- a well with the rest, and the store's length -/
structure Wl (L : List (Nat × MO)) (n : Nat) (w : Well) (σ : St) : Prop where
  ok : w.Ok
  hs : Hs (wl w L) σ
  len : σ.length = n
noncomputable def InD (L : List (Nat × MO)) (k : Nat) (w : Well) (m : Nat) (_ : Unit × List MV) (σ : St) : Prop := [Wl L k w σ, Wl L k { w with spot := w.spot + 1 } σ, ∃ w, Wl L k w σ].getD m False
abbrev preD (w : Well) (s : Int) : List (MV → Prop) := [(· = .ref 2), (· = .ref 1), (· = .int w.spot), (· = .int (w.spot + 1 : Nat)), (· = .int w.cells.length), (· = .int s), (fun v => ∃ z, v = .int z ∧ 0 ≤ z ∧ z < s)]
noncomputable def rowsD (c : Bool) : List Row := [⟨.item, pat [xx 0, .int 0 0] (keep [0] (xx 1))⟩, ⟨.item, pat [xx 0, .int 1 1] (keep [0] (xx 2))⟩, ⟨.item, pat [xx 0, .int 2 2] (keep [0, 1] top31)⟩, ⟨.blt "len", pat [xx 1] (keep [0] (xx 4))⟩, ⟨.cmp .Lt, pat [xx 2, xx 4] (keep [0] (bit c))⟩, ⟨.bin .Add, pat [xx 2, .int 1 1] (keep [0] (xx 3))⟩,
  ⟨.setI, pat [xx 0, .int 1 1, xx 3] (on 0 [(non, 1)])⟩, ⟨.setI, pat [xx 0, .int 2 2, top31] (on 1 [(non, 2)])⟩, ⟨.bin .Mod, pat [top31, xx 5] (keep [2] (xx 6))⟩, rInt] ++ bif c then [⟨.item, pat [xx 1, xx 2] (keep [0] top31)⟩] else []
noncomputable def tabD (c : Bool) : Tab := tabR (rowsD c) (fun _ _ _ => none) (fun _ _ _ => none) fun _ => false
section
variable {L : List (Nat × MO)} {σ : St} {n k : Nat} {T : St → Prop} {Q : MV → St → Prop} {w : Well} {s : Int}
theorem Wl.ref (H : Wl L k w σ) : σ[2]? = some w.o := H.hs.get 0 rfl
theorem tabD_ok {c : Bool} (hs : 0 < s) (hw : w.Ok) (hc : decide ((w.spot : Int) < (w.cells.length : Int)) = c) : TabOk n (worG Unit (preD w s) (InD L k w)) T (tabD c) where
  op := rows_ok (List.forall_mem_append.mpr ⟨hit (rItem fun {m u σ Q} hm i a b ga gb q => by
      have i : Wl L k w σ := only (P := fun m => InD L k w m u σ) hm i
      obtain rfl : a = .ref 2 := ga.xE
      rw [one_int rfl gb]
      exact i_list i.ref (by decide) (by decide) rfl (q _ (.xx rfl))) (hit (rItem fun {m u σ Q} hm i a b ga gb q => by
      have i : Wl L k w σ := only (P := fun m => InD L k w m u σ) hm i
      obtain rfl : a = .ref 2 := ga.xE
      rw [one_int rfl gb]
      exact i_list i.ref (by decide) (by decide) rfl (q _ (.xx rfl))) (hit (rItem fun {m u σ Q} hm i a b ga gb q => by
      obtain ⟨w', e, i⟩ : ∃ w', w'.seed = w.seed ∧ Wl L k w' σ := mem2 (P := fun m => InD L k w m u σ → _) hm (fun i => ⟨w, rfl, i⟩) (fun i => ⟨_, rfl, i⟩) i
      obtain rfl : a = .ref 2 := ga.xE
      rw [one_int rfl gb]
      exact i_list i.ref (by decide) (by decide) rfl (q _ (.ii i.ok.s0 i.ok.s1))) (hit (rKeep fun {m u vs σ Q} hm i g q => GL.e1 g fun a ga => by
      have i : Wl L k w σ := only (P := fun m => InD L k w m u σ) hm i
      obtain rfl : a = .ref 1 := ga.xE
      exact blt_of (V := .builtin "len") (by unfold blts; rfl) (f_len_list (i.hs.get 1 rfl) (by rw [List.length_map]; exact Nat.le_trans hw.len (by decide)) (q _ (.xx (by rw [List.length_map]; rfl))))) (hit (rCmp fun _ _ a b ga gb => by
      obtain rfl : a = .int w.spot := ga.xE
      obtain rfl : b = .int w.cells.length := gb.xE
      exact hc ▸ c_lt) (hit (rBin fun _ a b ga gb q => by
      obtain rfl : a = .int w.spot := ga.xE
      rw [one_int rfl gb]
      exact b_add (q _ (.xx rfl))) (hit (rOn fun {u vs σ Q} i g q => GL.e3 g fun a b c ga gb gc => by
      have i : Wl L k w σ := i
      obtain rfl : a = .ref 2 := ga.xE
      rw [one_int rfl gb]
      obtain rfl : c = .int (w.spot + 1 : Nat) := gc.xE
      exact si_list i.ref (by decide) (by decide) (by decide : (1 : Int) < 3) (q u _ _ List.prefix_rfl ⟨⟨hw.len, hw.ce, hw.s0, hw.s1⟩, i.hs.set 0 rfl _, (List.length_set ..).trans i.len⟩ .n)) (hit (rOn fun {u vs σ Q} i g q => GL.e3 g fun a b c ga gb gc => by
      have i : Wl L k { w with spot := w.spot + 1 } σ := i
      obtain rfl : a = .ref 2 := ga.xE
      rw [one_int rfl gb]
      refine GV.iE gc fun x ix => ?_
      exact si_list i.ref (by decide) (by decide) (by decide : (2 : Int) < 3) (q u _ _ List.prefix_rfl ⟨{ w with spot := w.spot + 1, seed := x }, ⟨hw.len, hw.ce, (ix _ rfl).1, (ix _ rfl).2⟩, i.hs.set 0 rfl _, (List.length_set ..).trans i.len⟩ .n)) (hit (rBin fun {m u σ Q} _ a b ga gb q => by
      refine GV.iE ga fun x _ => ?_
      obtain rfl : b = .int s := gb.xE
      exact b_mod (Int.ne_of_gt hs) (q _ (.xx ⟨_, rfl, by rw [Int.fmod_eq_emod_of_nonneg _ (Int.le_of_lt hs)]; exact Int.emod_nonneg _ (Int.ne_of_gt hs), by rw [Int.fmod_eq_emod_of_nonneg _ (Int.le_of_lt hs)]; exact Int.emod_lt_of_pos _ hs⟩))) (hit ok_int hit0))))))))), by
    cases c with
    | false => exact hit0
    | true => exact hit (rItem fun {m u σ Q} hm i a b ga gb q => by
        have i : Wl L k w σ := only (P := fun m => InD L k w m u σ) hm i
        obtain rfl : a = .ref 1 := ga.xE
        obtain rfl : b = .int w.spot := gb.xE
        have hl := Int.ofNat_lt.mp (of_decide_eq_true hc)
        have := hw.ce _ (List.getElem_mem hl)
        exact i_list (i.hs.get 1 rfl) (Int.natCast_nonneg _) (Int.lt_trans (of_decide_eq_true hc) (Int.lt_of_le_of_lt (Int.ofNat_le.mpr hw.len) (by decide))) (v := .int w.cells[w.spot]) (by rw [List.getElem?_map, Int.toNat_natCast, List.getElem?_eq_getElem hl]; rfl) (q _ (.ii this.1 this.2))) hit0⟩)
  own := fun h => noO h
  met := fun h => noO h
  trap := fun h => no h
theorem look_d (c : Bool) : run (tabD c) 1 "" "_law_draw" [xx 0, xx 5] 0 (fun r m => decide (m = 2) && r.le (xx 6)) = true := by cases c <;> kernel_rfl
theorem sp_draw (H : Wl L k w σ) (hs : 0 < s) (q : ∀ z w' σ', Wl L k w' σ' → 0 ≤ z → z < s → Q (.int z) σ') : CalS 1 "" "_law_draw" [.ref 2, .int s] σ Q T :=
  run_ok (R := worG Unit (preD w s) (InD L k w)) (j := 0) (fun _ => tabD_ok hs H.ok rfl) (look_d _) (w := ((), [])) H (.cons (.xx rfl) (.cons (.xx rfl) .nil)) fun av m u v σ hk _ i g => by
    rw [Bool.and_eq_true, decide_eq_true_eq] at hk
    rw [hk.1] at i
    obtain ⟨w', i⟩ := i
    obtain ⟨z, rfl, h0, h1⟩ : ∃ z, v = .int z ∧ 0 ≤ z ∧ z < s := (AV.le_ok hk.2 g).xE
    exact q z w' σ i h0 h1
end
end Mine
end
section
set_option genCtorIdx false
namespace Mine

/-! the instructions that are drawn -/
noncomputable def drawF (ex : Bool) (k : Nat) (ms : List Nat) (avs : List AV) (m : Nat) : OV := with2 (fun x y => if x.le (xx k) = true ∧ ms.contains m = true then y.i?.bind fun r => r.bind fun p => if p.1 = p.2 ∧ 0 < p.1 then some (bif ex then (List.range p.1.toNat).map (fun j : Nat => (.int j j, m)) else one m (.int 0 (p.1 - 1))) else none else none) avs
noncomputable def rDraw (ex : Bool) (k : Nat) (ms : List Nat) : Row := ⟨.call "" "_law_draw", drawF ex k ms⟩
section
variable {L : List (Nat × MO)} {σ : St} {n k : Nat} {T : St → Prop} {Q : MV → St → Prop} {w : Well} {R : Wor}
theorem ok_draw {ex : Bool} {j : Nat} {ms : List Nat} (hn : 1 ≤ n) (hx : ∀ {w v}, R.X w j v → v = .ref 2) (hD : ∀ {m w σ}, m ∈ ms → R.I m w σ → ∃ L k u, Wl L k u σ ∧ ∀ u' σ', Wl L k u' σ' → R.I m w σ') : (rDraw ex j ms).Ok n R T := .mk fun {avs m l w vs σ Q} e i g q => with2_ok e g fun x y v u e gx gy => by
  by_cases c : x.le (xx j) = true ∧ ms.contains m = true
  · rw [if_pos c] at e
    obtain ⟨r, er, e1⟩ := Option.bind_eq_some_iff.mp e
    obtain ⟨p, ep, e2⟩ := Option.bind_eq_some_iff.mp e1
    obtain ⟨z, rfl, iz⟩ := AV.iE er gy
    refine ofIf e2 fun h e3 => ?_
    obtain ⟨h1, h2⟩ := h
    obtain rfl : z = p.1 := Int.le_antisymm (h1 ▸ (iz p ep).2) (iz p ep).1
    obtain rfl := hx (AV.le_ok c.1 gx).xE
    obtain ⟨L, k, y, H, hI⟩ := hD (List.contains_iff_mem.mp c.2) i
    refine ⟨ft_ne (by kernel_rfl), (sp_draw H h2 fun z w' σ' H' z0 z1 => ?_).up hn⟩
    subst e3
    cases ex with
    | false => exact q _ (.head _) w _ _ (R.refl _) (hI _ _ H') (.ii z0 (Int.le_sub_one_of_lt z1))
    | true =>
      obtain ⟨j, rfl⟩ := Int.eq_ofNat_of_zero_le z0
      exact q _ (List.mem_map.mpr ⟨j, List.mem_range.mpr (by omega), rfl⟩) w _ _ (R.refl _) (hI _ _ H') .i
  · rw [if_neg c] at e; cases e
noncomputable def w32 (a : AV) : Bool := a.le (.int 0 4294967295)
noncomputable def encOk (a : AV) : Bool := a.t?.any fun l => l.all (fun a => a.x?.isNone) && (decide (l.length = 4) && runP 4 "encode" (l.map .s) w32)
/-- an instruction that encode takes -/
inductive DrV : MV → Prop
  | mk {l : List A0} {a b c d : MV} : runP 4 "encode" (l.map .s) w32 = true → Gs (fun _ _ => False) l [a, b, c, d] → DrV (.tup [a, b, c, d])
theorem G0.bare {X X' : Nat → MV → Prop} {a : A0} {v : MV} (g : G0 X a v) (h : a.x?.isNone = true) : G0 X' a v := match g with
  | .int h => .int h | .str => .str | .non => .non | .bit h => .bit h | .byt => .byt | .x _ => no h
theorem Gs.bare {X X' : Nat → MV → Prop} {l : List A0} {vs : List MV} (g : Gs X l vs) (h : l.all (fun a => a.x?.isNone) = true) : Gs X' l vs := by
  induction g with
  | nil => exact .nil
  | cons g _ ih =>
    have h := Bool.and_eq_true_iff.mp h
    exact .cons (g.bare h.1) (ih h.2)
theorem Gs.all {X : Nat → MV → Prop} {l : List A0} {vs : List MV} (g : Gs X l vs) : GL X (l.map .s) vs := by
  induction g with
  | nil => exact .nil
  | cons g _ ih => exact .cons (.s g) ih
theorem encOk_ok {X : Nat → MV → Prop} {a : AV} {v : MV} (h : encOk a = true) (g : GV X a v) : DrV v := by
  obtain ⟨l, e, h⟩ := anyO h
  obtain ⟨vs, rfl, gl⟩ := AV.tE e g
  rw [Bool.and_eq_true, Bool.and_eq_true, decide_eq_true_eq] at h
  have hl := gl.len.symm.trans h.2.1
  match vs, hl, gl with
  | [a, b, c, d], _, gl => exact .mk h.2.2 (gl.bare h.1)
theorem sp_encode {a b c d : MV} (h : DrV (.tup [a, b, c, d])) (q : ∀ z, 0 ≤ z → z ≤ 4294967295 → Q (.int z) σ) : CalS 4 "" "encode" [a, b, c, d] σ Q T := by
  cases h with | mk h g => exact pure_ok h g.all fun a v hk gv => GV.iE (AV.le_ok hk gv) fun z iz => q z (iz _ rfl).1 (iz _ rfl).2
noncomputable abbrev worWl (L : List (Nat × MO)) (k : Nat) : Wor := worG Unit [(· = .ref 2)] fun m _ σ => m = 0 ∧ ∃ w, Wl L k w σ
noncomputable def tabDr : Tab := tabR [rDraw false 0 [0], rDraw true 0 [0], rLent] (fun _ _ _ => none) (fun _ _ _ => none) fun _ => false
theorem look_dr : run tabDr 2 "" "_law_drawn" [xx 0] 0 (fun a m => decide (m = 0) && encOk a) = true := by kernel_rfl
theorem sp_drawn (H : Wl L k w σ) (q : ∀ v w' σ', Wl L k w' σ' → DrV v → Q v σ') : CalS 3 "" "_law_drawn" [.ref 2] σ Q T :=
  have hD : ∀ {m w σ}, m ∈ [0] → (worWl L k).I m w σ → ∃ L' k' u, Wl L' k' u σ ∧ ∀ u' σ', Wl L' k' u' σ' → (worWl L k).I m w σ' := fun _ i => let ⟨e, u, H⟩ := i; ⟨L, k, u, H, fun u' _ H' => ⟨e, u', H'⟩⟩
  run_ok (R := worWl L k) (j := 1) (fun _ => ⟨rows_ok (hit (ok_draw (j := 0) (Nat.le_add_right _ _) (fun h => h) hD) (hit (ok_draw (j := 0) (Nat.le_add_right _ _) (fun h => h) hD) (hit ok_lent hit0))), fun h => noO h, fun h => noO h, fun h => no h⟩) look_dr (w := ((), [])) ⟨rfl, w, H⟩ (.cons (.xx rfl) .nil) fun av m u v σ hk _ i g => by
    rw [Bool.and_eq_true] at hk
    obtain ⟨_, w', i⟩ := i
    exact q v w' σ i (encOk_ok hk.2 g)
end
end Mine
end
section
set_option genCtorIdx false
namespace Mine

/-! the machine made -/
section
variable {σ : St} {n i : Nat} {ρ : Loc} {T : St → Prop} {Q : MV → St → Prop} {K : Fl × Loc → St → Prop} {L : List (Nat × MO)}
theorem EvS.imp {e : Expr} {Q' : MV → St → Prop} (h : EvS n ρ e σ Q T) (hq : ∀ v σ, Q v σ → Q' v σ) : EvS n ρ e σ Q' T := fun k w env F i er => (h k w env F i er).mono (fun _ _ _ _ r => r) hq fun _ h => h
/-- a field set from the outside -/
inductive IniQ (n i : Nat) (ρ : Loc) (a : Str) (ss : List Stmt) (K : Fl × Loc → St → Prop) (T : St → Prop) (v : MV) (σ : St) : Prop
  | mk {c : Str} {l : List (Str × MV)} {L : List (Nat × MO)} (j : Nat) : Hs L σ → L[j]? = some (i, .inst c l) → l.length < sz → (∀ σ', Hs (L.set j (i, .inst c (putK l a v))) σ' → σ'.length = σ.length → ExLS n ρ ss σ' K T) → IniQ n i ρ a ss K T v σ
theorem x_ini {a : Str} {e : Expr} {p q r : Pos} {ss : List Stmt} (self : ρ.at "self" (.v (.ref i))) (ha : isField a = true) (hs : Straight (.Attribute (.Name "self" p) a q) e) (h : EvS n ρ e σ (IniQ n i ρ a ss K T) T) : ExLS n ρ (.Assign [.Attribute (.Name "self" p) a q] e r :: ss) σ K T :=
  x_cons (x_assign rfl hs (h.imp fun v σ ⟨j, H, e, hl, k⟩ => a_attr (e_name self (sa_field (H.get j e) ha hl (k _ (H.set j e _) (List.length_set ..))))))
theorem minit_at : FT "Machine" "__init__" = metAt 41 0 := by kernel_rfl
noncomputable abbrev minitSc : Sc := ⟨["self", "base", "size", "bytearray"], by decide +kernel, by decide +kernel⟩
noncomputable def m0 : Mc := ⟨List.replicate 32 0, 4096, List.replicate 128 0, [], 0, false⟩
noncomputable def lay0 (m : Mc) (L : List (Nat × MO)) : List (Nat × MO) := (9, .idict []) :: (8, .ba m.out) :: (7, .list (m.regs.map .int)) :: (6, .ba m.mem) :: (5, .inst "Machine" (mfields m .none)) :: L
theorem new_at {k : Nat} {o : MO} (H : Hs L σ) (h : σ.length = k) : Hs ((k, o) :: L) (σ ++ [o]) := h ▸ H.new o
theorem len_app {k : Nat} {o : MO} (h : σ.length = k) : (σ ++ [o]).length = k + 1 := by rw [List.length_append, h]; rfl
theorem sp_minit (H : Hs L σ) (h5 : σ.length = 5) (q : ∀ σ', Hs (lay0 m0 L) σ' → σ'.length = 10 → Q .none σ') : CalS (n + 1) "Machine" "__init__" [.ref 5, .int 4096, .int 128] (σ ++ [.inst "Machine" []]) Q T := by
  refine hand (d := ⟨["self", "base", "size"], _, _⟩) (ws := [.v (.ref 5), .v (.int 4096), .v (.int 128), .gl]) minit_at rfl minitSc rfl rfl (by kernel_rfl) ?_
  with_reducible refine x_ini .hd rfl ⟨fun _ _ => rfl, fun _ => rfl⟩ ?_
  with_reducible refine e_name (.tl .hd) ?_
  refine .mk 0 (new_at H h5) rfl (by decide) fun σ H hl => ?_
  have h6 := hl.trans (len_app h5)
  with_reducible refine x_ini .hd rfl ⟨fun _ _ => rfl, fun _ => rfl⟩ ?_
  with_reducible refine e_name (.tl (.tl .hd)) ?_
  refine .mk 0 H rfl (by decide) fun σ H hl => ?_
  have h6 := hl.trans h6
  with_reducible refine x_ini .hd rfl ⟨fun _ _ => rfl, fun _ => rfl⟩ ?_
  with_reducible refine e_blt (V := .type "bytearray") rfl (.tl (.tl (.tl .hd))) (by unfold blts; simp) (.inr ⟨_, rfl⟩) ?_
  with_reducible refine l_cons rfl ?_
  with_reducible refine e_name (.tl (.tl .hd)) ?_
  with_reducible refine l_nil ?_
  refine f_ba (by decide) (by decide) ?_
  rw [h6]
  refine .mk 1 (new_at H h6) rfl (by decide) fun σ H hl => ?_
  have h7 := hl.trans (len_app h6)
  with_reducible refine x_ini .hd rfl ⟨fun _ _ => rfl, fun _ => rfl⟩ ?_
  with_reducible refine e_lmul rfl ?_
  with_reducible refine e_int ?_
  with_reducible refine e_int ?_
  refine ⟨32, rfl, by decide, by decide, ?_⟩
  rw [h7]
  refine .mk 2 (new_at H h7) rfl (by decide) fun σ H hl => ?_
  have h8 := hl.trans (len_app h7)
  with_reducible refine x_ini .hd rfl ⟨fun _ _ => rfl, fun _ => rfl⟩ ?_
  with_reducible refine e_name (.tl .hd) ?_
  refine .mk 2 H rfl (by decide) fun σ H hl => ?_
  have h8 := hl.trans h8
  with_reducible refine x_ini .hd rfl ⟨fun _ _ => rfl, fun _ => rfl⟩ ?_
  with_reducible refine e_blt (V := .type "bytearray") rfl (.tl (.tl (.tl .hd))) (by unfold blts; simp) (.inr ⟨_, rfl⟩) ?_
  with_reducible refine l_nil ?_
  refine f_ba0 ?_
  rw [h8]
  refine .mk 3 (new_at H h8) rfl (by decide) fun σ H hl => ?_
  have h9 := hl.trans (len_app h8)
  with_reducible refine x_ini .hd rfl ⟨fun _ _ => rfl, fun _ => rfl⟩ ?_
  with_reducible refine e_int ?_
  refine .mk 3 H rfl (by decide) fun σ H hl => ?_
  have h9 := hl.trans h9
  with_reducible refine x_ini .hd rfl ⟨fun _ _ => rfl, fun _ => rfl⟩ ?_
  with_reducible refine e_cb ?_
  refine .mk 3 H rfl (by decide) fun σ H hl => ?_
  have h9 := hl.trans h9
  with_reducible refine x_ini .hd rfl ⟨fun _ _ => rfl, fun _ => rfl⟩ ?_
  with_reducible refine e_none ?_
  refine .mk 3 H rfl (by decide) fun σ H hl => ?_
  have h9 := hl.trans h9
  with_reducible refine x_ini .hd rfl ⟨fun _ _ => rfl, fun _ => rfl⟩ ?_
  with_reducible refine e_dict0 ?_
  rw [h9]
  refine .mk 4 (new_at H h9) rfl (by decide) fun σ H hl => ?_
  with_reducible refine x_nil ?_
  exact q σ H (hl.trans (len_app h9))
end
end Mine
end
section
set_option genCtorIdx false
namespace Mine

/-! the machine begun -/
noncomputable abbrev layR (m : Mc) : List (Nat × MO) := [(5, .inst "Machine" (mfields m .none)), (6, .ba m.mem), (7, .list (m.regs.map .int)), (8, .ba m.out), (9, .idict [])]
noncomputable abbrev layB (o3 o4 : MO) (m : Mc) : List (Nat × MO) := (3, o3) :: (4, o4) :: layR m
theorem begun_at : FT "" "_law_begun" = fnAt 49 := by kernel_rfl
noncomputable abbrev begunNs : List Str := ["well", "box_now", "drawn", "place", "op", "a", "b", "c", "cell", "Machine", "_law_base", "range", "_law_draw", "len", "enumerate", "encode"]
noncomputable abbrev begunSc : Sc := ⟨begunNs, by decide +kernel, by decide +kernel⟩
noncomputable abbrev gls : List Nm := [.gl, .gl, .gl, .gl, .gl, .gl, .gl]
noncomputable abbrev compSc : Sc := ⟨[".0", "turn", "_law_drawn", "well"], by decide +kernel, by decide +kernel⟩
section
variable {σ : St} {n k : Nat} {ρ : Loc} {T : St → Prop} {Q : MV → St → Prop} {K : Fl × Loc → St → Prop} {L : List (Nat × MO)} {o3 o4 : MO} {w : Well} {m : Mc}
theorem lay0_perm (H : Hs (lay0 m (wl w [(3, o3), (4, o4)])) σ) : Hs (wl w (layB o3 o4 m)) σ :=
  H.perm ((List.perm_append_comm (l₁ := (layR m).reverse) (l₂ := wl w [(3, o3), (4, o4)])).trans ((List.reverse_perm (layR m)).append_left (wl w [(3, o3), (4, o4)])))
/-- the list of those that are drawn -/
theorem comp_drawn {z : Int} {p1 p2 p3 : Pos} {Q' : St → Prop} (hk : k = 10) (q : ∀ vs w' σ', Wl ((10, .list vs) :: L) 11 w' σ' → (vs.length : Int) = z → (∀ v ∈ vs, DrV v) → Q' σ') : ∀ {u j : Nat} {vs : List MV} {w : Well} {σ : St}, Wl ((10, .list vs) :: L) 11 w σ → vs.length = j → (j : Int) ≤ z → z - j < u → z ≤ 100 → (∀ v ∈ vs, DrV v) →
    CompS 4 ⟨compSc, [.lo, .lo, .gl, .c (.ref 2)]⟩ "turn" (.Call (.Name "_law_drawn" p1) [.Name "well" p2] [] p3) (nxRange z) (.ref 10) Q' u j σ := fun {u} => by
  induction u with
  | zero => intro j vs w σ _ _ h1 h2 _ _; omega
  | succ u ih =>
    intro j vs w σ H hl h1 h2 h3 hv
    unfold CompS nxRange
    by_cases c : (j : Int) < z
    · rw [if_pos c]
      refine ⟨_, .tl (.hd rfl), ?_⟩
      obtain ⟨d, hd⟩ := Option.isSome_iff_exists.mp (by kernel_rfl : (FT "" "_law_drawn").isSome = true)
      refine e_call rfl (.tl (.tl .hd)) hd ?_
      with_reducible refine l_cons rfl ?_
      refine e_cell (.tl (.tl (.tl .hd))) ?_
      with_reducible refine l_nil ?_
      refine (sp_drawn H fun v w' σ' H' dv => f_listApp (H'.hs.get 2 rfl) (by rw [hl]; unfold sz; omega) ?_).up (by decide)
      exact ih (vs := vs ++ [v]) ⟨H'.ok, H'.hs.set 2 rfl _, (List.length_set ..).trans H'.len⟩ (by rw [List.length_append, hl]; rfl) c (by rw [Int.natCast_add]; omega) h3 fun x hx => (List.mem_append.mp hx).elim (hv x) fun e => List.mem_singleton.mp e ▸ dv
    · rw [if_neg c]
      exact q vs w σ H (hl ▸ Int.le_antisymm h1 (Int.not_lt.mp c)) hv
/-- a list gone through with its places -/
theorem enum_loop {step : Loc → MV → St → (Fl × Loc → St → Prop) → Prop} {vs : List MV} {i : Nat} (I : Nat → Loc → St → Prop) (hl : ∀ {j ρ σ}, I j ρ σ → σ[i]? = some (.list vs)) (hs : ∀ {j ρ σ v K'}, I j ρ σ → vs[j]? = some v → (∀ ρ' σ', I (j + 1) ρ' σ' → K' (.next, ρ') σ') → step ρ (.tup [.int j, v]) σ K')
    (q : ∀ {ρ σ}, I vs.length ρ σ → K (.next, ρ) σ) : ∀ {u j : Nat} {ρ : Loc} {σ : St}, I j ρ σ → j ≤ vs.length → vs.length - j < u → LoopS step (nxEnum i) K u j ρ σ := fun {u} => by
  induction u with
  | zero => intro j ρ σ _ _ h; exact absurd h (Nat.not_lt_zero _)
  | succ u ih =>
    intro j ρ σ h h1 h2
    have e : nxEnum i j σ = some ((vs[j]?).map fun v => .tup [.int (j : Nat), v]) := by unfold nxEnum; rw [hl h]
    by_cases c : j < vs.length
    · rw [List.getElem?_eq_getElem c] at e
      exact loop_go e (hs h (List.getElem?_eq_getElem c) fun ρ' σ' h' => ih h' c (by omega))
    · obtain rfl := Nat.le_antisymm h1 (Nat.not_lt.mp c)
      rw [List.getElem?_eq_none (Nat.le_refl _)] at e
      exact loop_end e (q h)
abbrev preB (a b c d : MV) : List (MV → Prop) := [(· = .ref 2), (· = .ref 5), (· = a), (· = b), (· = c), (· = d), (fun _ => True)]
noncomputable def rowsB : List Row := [rTo, ⟨.call "" "encode", pat [xx 2, xx 3, xx 4, xx 5] (keep [0] (.int 0 4294967295))⟩, ⟨.call "Machine" "load", pat [xx 1, .int 4096 4220, .s (.byt 4)] (on 0 [(xx 6, 1)])⟩]
noncomputable abbrev InBg (o3 o4 : MO) (L : List (Nat × MO)) (k m : Nat) (_ : Unit × List MV) (σ : St) : Prop := ∃ mc w, mc.Ok 0 ∧ mc.done = false ∧ Wl (layB o3 o4 mc ++ L) k w σ
noncomputable def tabB : Tab := tabR rowsB (ownL [⟨xx 1, [0], "Machine"⟩]) plainMet fun _ => false
theorem own_b {G : Type} {P : List (MV → Prop)} {I : Nat → G × List MV → St → Prop} (hI : ∀ {m w σ}, m ∈ [0] → I m w σ → M5 σ) (hx : ∀ {w v}, (worG G P I).X w 1 v → v = .ref 5) : ∀ e ∈ [(⟨xx 1, [0], "Machine"⟩ : Ow)], ∀ {mo w v σ}, mo ∈ e.ms → I mo w σ → GV ((worG G P I).X w) e.a v → ∃ i l, IsIn σ v e.c i l :=
  hit (fun {mo w v σ} hm i g => let ⟨_, _, H⟩ := hI hm i; ⟨5, _, hx g.xE, H, by kernel_rfl⟩) hit0
theorem tabB_ok {a b c d : MV} (dv : DrV (.tup [a, b, c, d])) : TabOk (4 + n) (worG Unit (preB a b c d) (InBg o3 o4 L k)) T tabB where
  op := rows_ok (hit ok_to (hit (rKeep fun _ i g q => GL.e4 g fun u x y z gu gx gy gz => by
      obtain rfl : u = a := gu.xE
      obtain rfl : x = b := gx.xE
      obtain rfl : y = c := gy.xE
      obtain rfl : z = d := gz.xE
      exact ⟨ft_ne (by kernel_rfl), (sp_encode dv fun z z0 z1 => q _ (.ii z0 z1)).up (Nat.le_add_right _ _)⟩) (hit (rCall (by kernel_rfl) fun {w vs σ Q} i g q => GL.e3 g fun u x y gu gx gy => by
      obtain ⟨mc, wl', ok, hd, H⟩ := i
      obtain rfl : u = .ref 5 := gu.xE
      refine GV.iE gx fun x ix => GV.byE gy fun b hb => ?_
      obtain ⟨x0, x1⟩ := ix _ rfl
      have h2 : x - 4096 + b.length ≤ 128 := by rw [hb]; dsimp only at x1; omega
      exact (sp_load H.hs rfl rfl ok.mem x0 h2 fun v σ' H' hl => q w v σ' List.prefix_rfl ⟨{ mc with mem := memPut mc.mem (x - 4096) b }, wl', ⟨ok.len, ok.reg, (memPut_len (Int.sub_nonneg_of_le x0) (by rw [ok.mem]; exact h2)).trans ok.mem, ok.out⟩, hd, H.ok, H', hl.trans H.len⟩ (.xx trivial)).up (Nat.le_add_right_of_le (by decide : 2 ≤ 4))) hit0)))
  own := ownL_ok (own_b (P := preB a b c d) (fun _ i => let ⟨_, _, _, _, H⟩ := i; ⟨_, _, H.hs.get 4 rfl⟩) fun h => h)
  met := fun {a m id mo w v σ} h _ g => plainMet_ok (m := mo) h g
  trap := fun h => no h
/-- the registers set -/
noncomputable def tabG : Tab := tabR [⟨.attr "registers", pat [xx 1] (keep [0] (xx 2))⟩, ⟨.setI, pat [xx 2, .int 0 31, .int 0 4294967295] (on 0 [(non, 0)])⟩, rDraw false 0 [0]] (fun _ _ _ => none) (fun _ _ _ => none) fun _ => false
noncomputable abbrev worG2 (o3 o4 : MO) : Wor := worG Unit [(· = .ref 2), (· = .ref 5), (· = .ref 7)] fun m w σ => m = 0 ∧ InBg o3 o4 [] 13 m w σ
theorem tabG_ok : TabOk (4 + n) (worG2 o3 o4) T tabG where
  op := rows_ok (hit (rKeep fun _ i g q => GL.e1 g fun u gu => by
      obtain ⟨_, mc, wl', ok, hd, H⟩ := i
      obtain rfl : u = .ref 5 := gu.xE
      exact at_field (H.hs.get 4 rfl) rfl rfl (q _ (.xx rfl))) (hit (rOn fun {w vs σ Q} i g q => GL.e3 g fun u x y gu gx gy => by
      obtain ⟨_, mc, wl', ok, hd, H⟩ := i
      obtain rfl : u = .ref 7 := gu.xE
      refine GV.iE gx fun x ix => GV.iE gy fun y iy => ?_
      obtain ⟨x0, x1⟩ := ix _ rfl
      refine si_list (H.hs.get 6 rfl) x0 (Int.lt_of_le_of_lt x1 (by decide)) (by rw [List.length_map, ok.len]; exact Int.lt_of_le_of_lt x1 (by decide)) (q w _ _ List.prefix_rfl ⟨rfl, { mc with regs := mc.regs.set x.toNat y }, wl', ⟨(List.length_set ..).trans ok.len, fun r hr => (List.mem_or_eq_of_mem_set hr).elim (ok.reg r) fun e => e ▸ iy _ rfl, ok.mem, ok.out⟩, hd, H.ok, ?_, (List.length_set ..).trans H.len⟩ .n)
      show Hs _ (List.set _ 7 (.list ((mc.regs.map MV.int).set x.toNat (.int y))))
      rw [← List.map_set]
      exact H.hs.set 6 rfl _) (hit (ok_draw (j := 0) (Nat.le_add_right_of_le (by decide)) (fun h => h) fun {m w σ} _ i => let ⟨e, mc, wl', ok, hd, H⟩ := i; ⟨_, _, wl', H, fun u' _ H' => ⟨e, mc, u', ok, hd, H'⟩⟩) hit0)))
  own := fun h => noO h
  met := fun h => noO h
  trap := fun h => no h
/-- as the rows are laid -/
inductive Laid (o3 o4 : MO) (vs : List MV) (j : Nat) (ρ : Loc) (σ : St) : Prop
  | mk {w1 w2 w3 w4 w5 : Nm} {m : Mc} {w : Well} : [w1, w2, w3, w4, w5].all Nm.isLo = true → ρ = ⟨begunSc, .c (.ref 2) :: .v (.ref 5) :: .v (.ref 12) :: w1 :: w2 :: w3 :: w4 :: w5 :: .lo :: gls⟩ → m.Ok 0 → m.done = false → Wl (layB o3 o4 m ++ [(12, .list vs)]) 13 w σ → Laid o3 o4 vs j ρ σ
theorem sp_begun (H : Wl [(3, o3), (4, o4)] 5 w σ) (q : ∀ m w' σ', m.Ok 0 → m.done = false → Wl (layB o3 o4 m) 13 w' σ' → Q (.ref 5) σ') : CalS 5 "" "_law_begun" [.ref 2] σ Q T := by
  refine hand (d := ⟨["well"], _, _⟩) (ws := .c (.ref 2) :: .lo :: .lo :: .lo :: .lo :: .lo :: .lo :: .lo :: .lo :: gls) begun_at rfl begunSc rfl rfl (by kernel_rfl) ?_
  with_reducible refine x_cons ?_
  generalize hK : seqK _ _ _ _ = K1
  with_reducible refine x_assign rfl ⟨fun _ _ => rfl, fun _ => rfl⟩ ?_
  refine e_new (d := ⟨["self", "base", "size"], _, _⟩) rfl (.tl (.tl (.tl (.tl (.tl (.tl (.tl (.tl (.tl .hd))))))))) (by kernel_rfl) (minit_at.trans rfl) (by kernel_rfl) ?_
  with_reducible refine l_cons rfl ?_
  refine e_glob (v := .int 4096) (.tl (.tl (.tl (.tl (.tl (.tl (.tl (.tl (.tl (.tl .hd)))))))))) (by kernel_rfl) ?_
  with_reducible refine l_cons rfl ?_
  with_reducible refine e_int ?_
  with_reducible refine l_nil ?_
  rw [H.len]
  refine sp_minit H.hs H.len fun σ H1 h10 => ⟨rfl, ?_⟩
  have H1 : Wl (layB o3 o4 m0) 10 w σ := ⟨H.ok, lay0_perm H1, h10⟩
  refine a_name (ws := .c (.ref 2) :: .v (.ref 5) :: .lo :: .lo :: .lo :: .lo :: .lo :: .lo :: .lo :: gls) (.tl (.hd rfl)) ?_
  subst hK
  show ExLS _ _ _ _ _ _
  with_reducible refine x_cons ?_
  generalize hK : seqK _ _ _ _ = K1
  have glo : ∀ {b1 b2 b3 b4 b5 b6 b7 b8 b9 : Nm} {j : Nat} {x : Str} {u : Nm}, AtL (begunNs.drop 9) gls x u → AtL begunNs (b1 :: b2 :: b3 :: b4 :: b5 :: b6 :: b7 :: b8 :: b9 :: gls) x u := fun h => .tl (.tl (.tl (.tl (.tl (.tl (.tl (.tl (.tl h))))))))
  refine x_comp (t := e0) (ρc := ⟨compSc, [.lo, .lo, .gl, .c (.ref 2)]⟩) (u := 100) (fun env h1 h2 => ?_) (.tl (.tl .hd)) rfl rfl (glo (j := 0) (.tl (.tl .hd))) ⟨rfl, rfl, by decide, by decide, fun y hy e => ?_, fun y u h => ?_⟩ ?_
  · have hb : env.blockKind = .function := by unfold Env.blockKind; rw [h1]; rfl
    show (pure (env.blockKind == .function && env.kindOf "drawn" == some .local && _ && _) : Sem Bool) = pure true
    rw [hb, h2]
    rfl
  · rcases List.mem_cons.mp hy with rfl | hy
    · cases e
    rcases List.mem_cons.mp hy with rfl | hy
    · cases e
    rcases List.mem_cons.mp hy with rfl | hy
    · cases e
    obtain rfl := List.mem_singleton.mp hy
    exact ⟨_, .hd⟩
  · cases h with
    | hd => exact .lo rfl
    | tl h => cases h with
      | hd => exact .lo rfl
      | tl h => cases h with
        | hd => exact .gl rfl
        | tl h => cases h with
          | hd => exact .c rfl .hd
          | tl h => cases h
  obtain ⟨d, hd⟩ := Option.isSome_iff_exists.mp (by kernel_rfl : (FT "" "_law_draw").isSome = true)
  with_reducible refine e_bin ?_
  with_reducible refine e_int ?_
  refine e_call rfl (glo (j := 0) (.tl (.tl (.tl .hd)))) hd ?_
  with_reducible refine l_cons rfl ?_
  with_reducible refine e_cell .hd ?_
  with_reducible refine l_cons rfl ?_
  with_reducible refine e_int ?_
  with_reducible refine l_nil ?_
  refine (sp_draw H1 (by decide) fun z w1 σ H1 z0 z1 => b_add ?_).up (by decide)
  refine ⟨_, rfl, by omega, by unfold sz; omega, ?_⟩
  rw [H1.len]
  refine comp_drawn (z := 4 + z) (u := 100) (j := 0) (vs := []) rfl (L := layB o3 o4 m0) ?_ ⟨H1.ok, (new_at H1.hs H1.len).perm (List.perm_middle (l₁ := wl w1 [])).symm, len_app H1.len⟩ rfl (by omega) (by omega) (by omega) hit0
  intro vs w2 σ H2 hv dv
  refine a_name (ws := .c (.ref 2) :: .v (.ref 5) :: .v (.ref 10) :: .lo :: .lo :: .lo :: .lo :: .lo :: .lo :: gls) (.tl (.tl (.hd rfl))) ?_
  subst hK
  show ExLS _ _ _ _ _ _
  with_reducible refine x_cons ?_
  generalize hK : seqK _ _ _ _ = K1
  with_reducible refine x_assign rfl ⟨fun _ _ => rfl, fun _ => rfl⟩ ?_
  with_reducible refine e_bin ?_
  with_reducible refine e_name (.tl (.tl .hd)) ?_
  with_reducible refine e_lmul rfl ?_
  with_reducible refine e_tup ?_
  with_reducible refine l_cons rfl ?_
  with_reducible refine e_str ?_
  with_reducible refine l_cons rfl ?_
  with_reducible refine e_int ?_
  with_reducible refine l_cons rfl ?_
  with_reducible refine e_int ?_
  with_reducible refine l_cons rfl ?_
  with_reducible refine e_int ?_
  with_reducible refine l_nil ?_
  refine ⟨by decide, ?_⟩
  with_reducible refine e_bin ?_
  with_reducible refine e_int ?_
  refine e_blt (V := .builtin "len") rfl (glo (j := 0) (.tl (.tl (.tl (.tl .hd))))) (by unfold blts; simp) (.inl ⟨_, rfl⟩) ?_
  with_reducible refine l_cons rfl ?_
  with_reducible refine e_name (.tl (.tl .hd)) ?_
  with_reducible refine l_nil ?_
  have e10 := H2.hs.get 2 (i := 10) (o := .list vs) rfl
  refine f_len_list e10 (by unfold sz; omega) (b_sub ⟨_, rfl, by omega, by omega, ?_⟩)
  rw [H2.len]
  refine b_list ((H2.hs.app _).get 2 (i := 10) (o := .list vs) rfl) (H2.len ▸ get_new) (by rw [List.length_replicate]; unfold sz; omega) ?_
  have hz : vs.length ≤ 9 ∧ 4 ≤ vs.length := by omega
  have dv' : ∀ v ∈ vs ++ List.replicate (16 - (vs.length : Int)).toNat (.tup [.str "addi", .int 5, .int 5, .int 1]), DrV v := fun v hv => (List.mem_append.mp hv).elim (dv v) fun h => by
    rw [(List.mem_replicate.mp h).2]
    exact .mk (l := [.str "addi", .int (some (5, 5)), .int (some (5, 5)), .int (some (1, 1))]) (by kernel_rfl) (.cons .str (.cons (.int (.of (Int.le_refl _) (Int.le_refl _))) (.cons (.int (.of (Int.le_refl _) (Int.le_refl _))) (.cons (.int (.of (Int.le_refl _) (Int.le_refl _))) .nil))))
  have hl : (vs ++ List.replicate (16 - (vs.length : Int)).toNat (MV.tup [.str "addi", .int 5, .int 5, .int 1])).length = 16 := by rw [List.length_append, List.length_replicate]; omega
  have H3 := new_at (o := .list (vs ++ List.replicate (16 - (vs.length : Int)).toNat (.tup [.str "addi", .int 5, .int 5, .int 1]))) (H2.hs.app (.list (List.replicate (16 - (vs.length : Int)).toNat (.tup [.str "addi", .int 5, .int 5, .int 1])))) (len_app H2.len)
  rw [len_app H2.len]
  generalize vs ++ List.replicate (16 - (vs.length : Int)).toNat (MV.tup [.str "addi", .int 5, .int 5, .int 1]) = vs' at dv' hl H3 ⊢
  refine a_name (ws := .c (.ref 2) :: .v (.ref 5) :: .v (.ref 12) :: .lo :: .lo :: .lo :: .lo :: .lo :: .lo :: gls) (.tl (.tl (.hd rfl))) ?_
  subst hK
  show ExLS _ _ _ _ _ _
  with_reducible refine x_cons ?_
  generalize hK : seqK _ _ _ _ = K1
  refine x_for_enum (u := 100) rfl rfl (glo (j := 0) (.tl (.tl (.tl (.tl (.tl .hd)))))) ?_
  with_reducible refine e_name (.tl (.tl .hd)) ?_
  refine ⟨12, rfl, ⟨_, H3.get 0 rfl⟩, enum_loop (Laid o3 o4 vs') (fun i => let ⟨_, _, _, _, H⟩ := i; H.hs.get 9 rfl) ?_ ?_ (.mk rfl rfl ⟨rfl, fun r hr => by rw [List.eq_of_mem_replicate hr]; decide, rfl, Nat.le_refl _⟩ rfl ⟨H2.ok, (H3.sub (.cons_cons _ (.cons_cons _ (.cons_cons _ (.cons _ (List.Sublist.refl _)))))).perm (List.perm_append_singleton _ _).symm, len_app (len_app H2.len)⟩) (Nat.zero_le _) (by rw [hl]; decide)⟩
  · rintro j ρ σ v K' ⟨hw, rfl, ok, hd, H⟩ ev q
    rename_i w1 w2 w3 w4 w5 mc wl'
    have hj : j < 16 := hl ▸ (List.getElem?_eq_some_iff.mp ev).1
    have dj := dv' v (List.mem_of_getElem? ev)
    obtain ⟨x, y, z, u, rfl⟩ : ∃ (x y z u : MV), v = .tup [x, y, z, u] := by cases dj; exact ⟨_, _, _, _, rfl⟩
    rw [List.all_cons, List.all_cons, List.all_cons, List.all_cons, List.all_cons, Bool.and_eq_true, Bool.and_eq_true, Bool.and_eq_true, Bool.and_eq_true, Bool.and_eq_true] at hw
    obtain ⟨h1, h2, h3, h4, h5, _⟩ := hw
    refine a_tup rfl rfl (al_cons ?_)
    refine a_name (ws := .c (.ref 2) :: .v (.ref 5) :: .v (.ref 12) :: .v (.int j) :: w2 :: w3 :: w4 :: w5 :: .lo :: gls) (.tl (.tl (.tl (.hd h1)))) ?_
    refine al_cons (a_tup rfl rfl (al_cons ?_))
    refine a_name (ws := .c (.ref 2) :: .v (.ref 5) :: .v (.ref 12) :: .v (.int j) :: .v x :: w3 :: w4 :: w5 :: .lo :: gls) (.tl (.tl (.tl (.tl (.hd h2))))) ?_
    refine al_cons (a_name (ws := .c (.ref 2) :: .v (.ref 5) :: .v (.ref 12) :: .v (.int j) :: .v x :: .v y :: w4 :: w5 :: .lo :: gls) (.tl (.tl (.tl (.tl (.tl (.hd h3)))))) ?_)
    refine al_cons (a_name (ws := .c (.ref 2) :: .v (.ref 5) :: .v (.ref 12) :: .v (.int j) :: .v x :: .v y :: .v z :: w5 :: .lo :: gls) (.tl (.tl (.tl (.tl (.tl (.tl (.hd h4))))))) ?_)
    refine al_cons (a_name (ws := .c (.ref 2) :: .v (.ref 5) :: .v (.ref 12) :: .v (.int j) :: .v x :: .v y :: .v z :: .v u :: .lo :: gls) (.tl (.tl (.tl (.tl (.tl (.tl (.tl (.hd h5)))))))) ?_)
    refine al_nil (al_nil ?_)
    with_reducible refine x_cons ?_
    with_reducible refine x_expr (fun _ _ _ => rfl) ?_
    refine ev_of (R := worG Unit (preB x y z u) (InBg o3 o4 [(12, .list vs')] 13)) (t := tabB) (n := 4) (as := [.no, .v (xx 1), .no, .v (.int 0 15), .v (xx 2), .v (xx 3), .v (xx 4), .v (xx 5), .no, .no, .gl, .no, .no, .no, .no, .gl]) (m := 0) (k := fun _ m => decide (m = 1)) (by kernel_rfl) (tabB_ok (n := 0) dj) (by kernel_rfl) (w := ((), [])) ⟨mc, wl', ok, hd, H⟩ ?_ ?_
    · exact .cons .no (.cons (.v (.xx rfl)) (.cons .no (.cons (.v (.ii (Int.natCast_nonneg _) (Int.le_of_lt_add_one (Int.ofNat_lt.mpr hj)))) (.cons (.v (.xx rfl)) (.cons (.v (.xx rfl)) (.cons (.v (.xx rfl)) (.cons (.v (.xx rfl)) (.cons .no (.cons .no (.cons .gl (.cons .no (.cons .no (.cons .no (.cons .no (.cons .gl .nil)))))))))))))))
    · intro av m w v σ hk _ i _
      obtain ⟨mc, wl', ok, hd, H⟩ := i
      exact x_nil (q _ _ (.mk rfl rfl ok hd H))
  · rintro ρ σ ⟨hw, rfl, ok, hd, H⟩
    rename_i w1 w2 w3 w4 w5 mc wl'
    subst hK
    show ExLS _ _ _ _ _ _
    refine ss_of (R := worG2 o3 o4) (t := tabG) (n := 4) (as := [.c (xx 0), .v (xx 1), .no, .no, .no, .no, .no, .no, .lo, .no, .gl, .no, .gl, .no, .no, .no]) (m := 0) (k := fun r _ m => r.any fun v => v.le (xx 1)) (by kernel_rfl) (fun _ => tabG_ok (n := 0)) (by kernel_rfl) (w := ((), [])) ⟨rfl, mc, wl', ok, hd, H.ok, H.hs.sub (List.sublist_append_left ..), H.len⟩ ?_ ?_
    · exact .cons (.c (.xx rfl)) (.cons (.v (.xx rfl)) (.cons .no (.cons .no (.cons .no (.cons .no (.cons .no (.cons .no (.cons .lo (.cons .no (.cons .gl (.cons .no (.cons .gl (.cons .no (.cons .no (.cons .no .nil)))))))))))))))
    · intro r as m w ws σ f hk _ i _ gf
      obtain ⟨v, e, hv⟩ := anyO hk
      cases e
      cases gf with | ret gv =>
      obtain ⟨_, mc, wl', ok, hd, H⟩ := i
      obtain rfl := (AV.le_ok hv gv).xE
      exact q mc wl' σ ok hd H
end
end Mine
end
section
set_option genCtorIdx false
namespace Mine

/-! what the law looks at -/
noncomputable def seenL (m : Mc) : List MV := [.tup (m.regs.map .int), .int m.pc, .bytes m.mem, .bytes m.out, .int m.status, .bool m.done]
noncomputable def seen (m : Mc) : MV := .tup (seenL m)
noncomputable def rowsSn : List Row := [⟨.blt "tuple", pat [xx 1] (keep [0] (xx 6))⟩, ⟨.blt "bytes", pat [xx 2] (keep [0] (xx 8))⟩, ⟨.blt "bytes", pat [xx 3] (keep [0] (xx 9))⟩, ⟨.attr "pc", pat [xx 0] (keep [0] (xx 7))⟩, ⟨.attr "status", pat [xx 0] (keep [0] (xx 10))⟩, ⟨.attr "is_done", pat [xx 0] (keep [0] (xx 11))⟩,
  ⟨.bin .Add, pat [.tup [.x 6, .x 7, .x 8, .x 9], .tup [.x 10, .x 11]] (keep [0] (xx 12))⟩]
noncomputable def tabSn : Tab := tabR (rowsSn ++ rowsC) (fun _ _ _ => none) (fun _ _ _ => none) fun _ => false
abbrev preSn (m : Mc) : List (MV → Prop) := pre0 [(· = .tup (m.regs.map .int)), (· = .int m.pc), (· = .bytes m.mem), (· = .bytes m.out), (· = .int m.status), (· = .bool m.done), (· = seen m)]
theorem look_sn : run tabSn 1 "" "_law_seen" [xx 0] 0 (fun r _ => r.le (xx 12)) = true := by kernel_rfl
theorem done_at : FT "" "_law_done" = fnAt 51 := by kernel_rfl
noncomputable abbrev doneSc : Sc := ⟨["box_now", "Trap"], by decide +kernel, by decide +kernel⟩
/-- what a step leaves, whether it went through or not -/
inductive DoneOut (F : Fx) (h : Mh) : Str → Mh → Prop
  | step {s : Str} {h' : Mh} : StepOut F h s h' → DoneOut F h s h'
  | trap {h' : Mh} : h.m.done = false → Know h h' → DoneOut F h "trap" h'
section
variable {F : Fx} {h : Mh} {σ : St} {n : Nat} {T : St → Prop} {Q : MV → St → Prop} {m : Mc}
noncomputable abbrev worSn (m : Mc) (σ : St) : Wor := worG Unit (preSn m) fun _ _ σ' => σ' = σ
theorem rowsSn_ok (R : Rp F h σ) : ∀ e ∈ rowsSn, Row.Ok n (worSn h.m σ) T e :=
  have rf : ∀ {σ' : St}, σ' = σ → Rp F h σ' := fun e => e ▸ R
  hit (rKeep fun {m w vs σ Q} _ i g q => GL.e1 g fun u gu => by
    have R := rf i
    obtain rfl : u = .ref 7 := gu.xE
    exact blt_of (V := .type "tuple") (by unfold blts; rfl) (f_tuple (R.hs.get 6 rfl) (by rw [List.length_map, R.ok.len]; decide) (q _ (.xx rfl)))) (hit (rKeep fun {m w vs σ Q} _ i g q => GL.e1 g fun u gu => by
    have R := rf i
    obtain rfl : u = .ref 6 := gu.xE
    exact blt_of (V := .type "bytes") (by unfold blts; rfl) (f_bytes_ba (R.hs.get 5 rfl) (by rw [R.ok.mem]; decide) (q _ (.xx rfl)))) (hit (rKeep fun {m w vs σ Q} _ i g q => GL.e1 g fun u gu => by
    have R := rf i
    obtain rfl : u = .ref 8 := gu.xE
    exact blt_of (V := .type "bytes") (by unfold blts; rfl) (f_bytes_ba (R.hs.get 7 rfl) (Nat.le_trans R.ok.out (Nat.le_trans R.bb (by decide))) (q _ (.xx rfl)))) (hit (rField rfl fun {m w σ} _ i => ⟨_, _, _, (rf i).hs.get 4 rfl, rfl, .xx rfl⟩) (hit (rField rfl fun {m w σ} _ i => ⟨_, _, _, (rf i).hs.get 4 rfl, rfl, .xx rfl⟩) (hit (rField rfl fun {m w σ} _ i => ⟨_, _, _, (rf i).hs.get 4 rfl, rfl, .xx rfl⟩) (hit (rBin fun _ u v gu gv q => by
    obtain rfl := tupE (fun k => (seenL h.m).getD (k - 6) .none) gu (hit (vx_x fun _ h => h) (hit (vx_x fun _ h => h) (hit (vx_x fun _ h => h) (hit (vx_x fun _ h => h) hit0))))
    obtain rfl := tupE (fun k => (seenL h.m).getD (k - 6) .none) gv (hit (vx_x fun _ h => h) (hit (vx_x fun _ h => h) hit0))
    exact b_tup (fun e => nomatch e) (fun e => nomatch e) (by decide : 6 ≤ sz) (q _ (.xx rfl))) hit0))))))
theorem sp_seen (R : Rp F h σ) (q : Q (seen h.m) σ) : CalS 1 "" "_law_seen" [.ref 5] σ Q T :=
  run_ok (R := worSn h.m σ) (j := 0) (t := tabSn) (fun _ => ⟨rows_ok (List.forall_mem_append.mpr ⟨rowsSn_ok R, rowsC_ok fun i => (i : _ = σ) ▸ R.m5⟩), fun h => noO h, fun h => noO h, fun h => no h⟩) look_sn (w := ((), [])) rfl (.cons (.xx rfl) .nil) fun av m w v σ' hk _ i g => by
    obtain rfl : σ' = σ := i
    obtain rfl : v = seen h.m := (AV.le_ok hk g).xE
    exact q
theorem sp_done (R : Rp F h σ) (hb : h.b < 890) (q : ∀ s h' σ', Rp F h' σ' → DoneOut F h s h' → Q (.str s) σ') : CalS 12 "" "_law_done" [.ref 5] σ Q T := by
  refine hand (d := ⟨["box_now"], _, _⟩) (ws := [.v (.ref 5), .gl]) done_at rfl doneSc rfl rfl (by kernel_rfl) ?_
  with_reducible refine x_cons ?_
  refine x_try rfl (.tl .hd) ?_
  with_reducible refine e_meth (by decide) rfl rfl rfl ?_
  with_reducible refine e_name .hd ?_
  obtain ⟨d, hd⟩ := Option.isSome_iff_exists.mp (by kernel_rfl : (FT "Machine" "step").isSome = true)
  refine .own (R.hs.get 4 rfl) (by kernel_rfl) (by kernel_rfl) hd ?_
  with_reducible refine l_nil ?_
  exact sp_step R hb (fun hd R K => q _ _ _ R (.trap hd K)) fun s h' σ' R' o => q s h' σ' R' (.step o)
end
end Mine
end
section
set_option genCtorIdx false
namespace Mine

/-! the law's desk -/
noncomputable def deskL (most kx : Nat) (on : Bool) : List (Str × MV) := [("most", .int most), ("kept", .ref kx), ("on", .bool on), ("machine", .ref 5), ("book", .ref 13)]
structure Lg where
  w : Well
  kx : Nat
  s : Nat
  on : Bool
  h : Mh
noncomputable def keptO (l : List Mc) : MO := .list (l.reverse.map seen)
noncomputable def Lg.F (most : Nat) (g : Lg) : Fx := ⟨g.w.c, g.w.o, .sdict (deskL most g.kx g.on), keptO g.h.kp, g.kx, g.s, most, g.on⟩
/-- as it stands between two deeds -/
structure Ls (most : Nat) (g : Lg) (σ : St) : Prop where
  rp : Rp (g.F most) g.h σ
  w : g.w.Ok
section
variable {F : Fx} {h h' : Mh} {σ : St} {n : Nat} {T : St → Prop} {Q : MV → St → Prop} {most : Nat} {g : Lg}
/-- another list kept -/
theorem Rp.keep {k : Nat} {o o3 : MO} (R : Rp F h σ) (H : Hs ((k, o) :: lay F h) σ) : Rp { F with o3 := o3, o4 := o, kx := k } h (σ.set 3 o3) :=
  { R with hs := ((H.set 3 rfl o3).sub (.cons_cons _ (.cons_cons _ (.cons_cons _ (.cons_cons _ (.cons _ (List.Sublist.refl _))))))).perm (List.perm_middle (l₁ := [(2, F.o2), (1, F.o1), (3, o3)])).symm }
theorem desk_item {kx : Nat} {on : Bool} {a : Str} {v : MV} (e : σ[3]? = some (.sdict (deskL most kx on))) (hv : getK (deskL most kx on) a = some v) (q : Q v σ) : ItemS (.ref 3) (.str a) σ Q T := i_sdict e hv q
theorem desk_kept {k kx : Nat} {on : Bool} {P : St → Prop} (e : σ[3]? = some (.sdict (deskL most kx on))) (q : P (σ.set 3 (.sdict (deskL most k on)))) : SetItemS (.ref 3) (.str "kept") (.ref k) σ P T := si_sdict e (by decide : 5 ≤ sz) q

/-! one instruction done -/
structure GoW (F : Fx) (g : Lg) (d : Bool) (h : Mh) (σ : St) : Prop where
  rp : Rp F h σ
  d : Done F g.h d h
noncomputable abbrev kept1 (g : Lg) : List MV := g.h.kp.reverse.map seen ++ [seen g.h.m]
noncomputable def InGd (most : Nat) (g : Lg) (d : Bool) (j : Nat) (w : Unit × List MV) (σ : St) : Prop := ∃ h, GoW (g.F most) g d h σ ∧ [w.2 = [], ∃ i, w.2 = [.ref i] ∧ σ[i]? = some (.list [seen g.h.m]), ∃ i k, w.2 = [i, .ref k] ∧ σ[k]? = some (.list (kept1 g)),
  ∃ i j k, w.2 = [i, j, .ref k] ∧ Hs ((k, keptO (begK (g.F most) g.h)) :: lay (g.F most) h) σ, False, ∃ k, w.2 = [.ref k] ∧ Hs ((k, .list []) :: lay (g.F most) h) σ].getD j False
noncomputable def InGe (most : Nat) (g : Lg) (d : Bool) (σ : St) : Prop := ∃ h kx, Rp (Lg.F most { g with kx := kx, h := h }) h σ ∧ Done (g.F most) g.h d h
noncomputable def off (d : Bool) : Nat := bif d then 9 else 3
noncomputable def InG (most : Nat) (g : Lg) (m : Nat) (w : Unit × List MV) (σ : St) : Prop := [Rp (g.F most) g.h σ ∧ w.2 = [], ∃ h, Rp (g.F most) h σ ∧ Know g.h h, False, InGd most g false 0 w σ, InGd most g false 1 w σ, InGd most g false 2 w σ, InGd most g false 3 w σ, InGe most g false σ, InGd most g false 5 w σ, InGd most g true 0 w σ, InGd most g true 1 w σ, InGd most g true 2 w σ, InGd most g true 3 w σ, InGe most g true σ, InGd most g true 5 w σ].getD m False
noncomputable abbrev worGo (most : Nat) (g : Lg) : Wor := worG Unit [(· = .ref 3), (· = .ref 5), (· = seen g.h.m), (· = .ref g.kx)] (InG most g)
noncomputable def rowsGd (most : Nat) (d : Bool) : List Row := [⟨.attr "is_done", pat [xx 1] (keep [off d, off d + 4] (bit d))⟩, ⟨.item, pat [xx 0, .s (.str "kept")] (keep [off d] (xx 3))⟩, ⟨.lst, pat [xx 2] (on (off d) [(xx 20, off d + 1)])⟩, ⟨.bin .Add, pat [xx 3, xx 20] (on (off d + 1) [(xx 21, off d + 2)])⟩] ++
  if most = 0 then [⟨.lst, pat [] (on (off d) [(xx 20, off d + 5)])⟩, ⟨.setI, pat [xx 0, .s (.str "kept"), xx 20] (on (off d + 5) [(non, off d + 4)])⟩] else [⟨.slc true false false, pat [xx 21, .int (-most) (-most)] (on (off d + 2) [(xx 22, off d + 3)])⟩, ⟨.setI, pat [xx 0, .s (.str "kept"), xx 22] (on (off d + 3) [(non, off d + 4)])⟩]
noncomputable def rowsGo (most : Nat) (on' dn : Bool) : List Row := [⟨.item, pat [xx 0, .s (.str "machine")] (keep allM (xx 1))⟩, ⟨.item, pat [xx 0, .s (.str "on")] (keep allM (bit on'))⟩, ⟨.item, pat [xx 0, .s (.str "most")] (keep allM (.int most most))⟩, ⟨.call "" "_law_seen", pat [xx 1] (keep [0, 1] (xx 2))⟩, ⟨.attr "is_done", pat [xx 1] (keep [0] (bit dn))⟩,
  ⟨.cmp .Eq, pat [xx 2, xx 2] (keep allM (bit true))⟩, ⟨.call "" "_law_done", pat [xx 1] (on 0 (bif dn then [(.s (.str "exit"), 1)] else [(.s (.str ""), 3), (.s (.str "exit"), 9), (.s (.str "break"), 1), (.s (.str "trap"), 1)]))⟩]
noncomputable def tabGo (most : Nat) (on' dn : Bool) : Tab := tabR (rowsGo most on' dn ++ bif on' then rowsGd most false ++ rowsGd most true else [⟨.attr "is_done", pat [xx 1] (keep [3] (bit false))⟩, ⟨.attr "is_done", pat [xx 1] (keep [9] (bit true))⟩]) (fun _ _ _ => none) (fun _ _ _ => none) fun _ => false
noncomputable def outGo (on' : Bool) (r : AV) (m : Nat) : Bool := r.le (bit true) && (bif on' then [1, 7, 13] else [1, 3, 9]).contains m
theorem look_go : (List.range 7).all (fun most => [true, false].all fun on' => [true, false].all fun dn => run (tabGo most on' dn) 1 "" "_law_go" [xx 0] 0 (outGo on')) = true := by kernel_rfl
theorem InGd.d3 {d : Bool} {j : Nat} {w : Unit × List MV} (i : InGd most g d j w σ) : ∃ kx, σ[3]? = some (.sdict (deskL most kx g.on)) := let ⟨_, G, _⟩ := i; ⟨_, G.rp.hs.get 2 rfl⟩
theorem InGe.d3 {d : Bool} (i : InGe most g d σ) : ∃ kx, σ[3]? = some (.sdict (deskL most kx g.on)) := let ⟨_, _, R, _⟩ := i; ⟨_, R.hs.get 2 rfl⟩
theorem InG.d3 {m : Nat} {w : Unit × List MV} (i : InG most g m w σ) : ∃ kx, σ[3]? = some (.sdict (deskL most kx g.on)) := match m, i with
  | 0, i => ⟨_, i.1.hs.get 2 rfl⟩ | 1, i => let ⟨_, R, _⟩ := i; ⟨_, R.hs.get 2 rfl⟩ | 2, i => i.elim
  | 3, i => InGd.d3 (w := w) i | 4, i => InGd.d3 (w := w) i | 5, i => InGd.d3 (w := w) i | 6, i => InGd.d3 (w := w) i | 7, i => InGe.d3 i | 8, i => InGd.d3 (w := w) i
  | 9, i => InGd.d3 (w := w) i | 10, i => InGd.d3 (w := w) i | 11, i => InGd.d3 (w := w) i | 12, i => InGd.d3 (w := w) i | 13, i => InGe.d3 i | 14, i => InGd.d3 (w := w) i | _ + 15, i => i.elim
theorem seen_plain (m : Mc) : Plain 3 (seen m) :=
  .tup (.cons (.tup (by induction m.regs with | nil => exact .nil _ | cons r rs ih => exact .cons (.int _ _) ih)) (.cons (.int _ _) (.cons (.bytes _ _) (.cons (.bytes _ _) (.cons (.int _ _) (.cons (.bool _ _) (.nil _)))))))
theorem rowsGo_ok {dn : Bool} (hd : g.h.m.done = dn) (hb : g.h.b < 890) : ∀ e ∈ rowsGo most g.on dn, Row.Ok (12 + n) (worGo most g) T e :=
  hit (rItem fun {m w σ Q} _ i u v gu gv q => by
    obtain ⟨kx, e⟩ := InG.d3 (w := w) i
    obtain rfl : u = .ref 3 := gu.xE
    rw [gv.strE]
    exact desk_item e rfl (q _ (.xx rfl))) (hit (rItem fun {m w σ Q} _ i u v gu gv q => by
    obtain ⟨kx, e⟩ := InG.d3 (w := w) i
    obtain rfl : u = .ref 3 := gu.xE
    rw [gv.strE]
    exact desk_item e rfl (q _ .b)) (hit (rItem fun {m w σ Q} _ i u v gu gv q => by
    obtain ⟨kx, e⟩ := InG.d3 (w := w) i
    obtain rfl : u = .ref 3 := gu.xE
    rw [gv.strE]
    exact desk_item e rfl (q _ .i)) (hit (rKeep fun {m w vs σ Q} hm i g' q => GL.e1 g' fun u gu => by
    obtain rfl : u = .ref 5 := gu.xE
    obtain ⟨h, R, e⟩ : ∃ h, Rp (g.F most) h σ ∧ h.m = g.h.m := mem2 (P := fun m => InG most g m w σ → _) hm (fun i => ⟨_, i.1, rfl⟩) (fun i => let ⟨h, R, K⟩ := i; ⟨h, R, K.m⟩) i
    exact ⟨ft_ne (by kernel_rfl), (sp_seen R (q _ (.xx (by rw [e]; rfl)))).up (Nat.le_add_right_of_le (by decide))⟩) (hit (rKeep fun {m w vs σ Q} hm i g' q => GL.e1 g' fun u gu => by
    obtain rfl : u = .ref 5 := gu.xE
    have R : Rp (g.F most) g.h σ := (only (P := fun m => InG most g m w σ) hm i).1
    exact at_field (R.hs.get 4 rfl) rfl rfl (q _ (hd ▸ .b))) (hit (rCmp fun _ _ u v gu gv => by
    obtain rfl : u = seen g.h.m := gu.xE
    obtain rfl : v = seen g.h.m := gv.xE
    exact c_same (seen_plain _)) (hit (rOns fun {w vs σ Q} i g' q => GL.e1 g' fun u gu => by
    obtain rfl : u = .ref 5 := gu.xE
    obtain ⟨R, ew⟩ : Rp (g.F most) g.h σ ∧ w.2 = [] := i
    refine ⟨ft_ne (by kernel_rfl), (sp_done R hb fun s h' σ' R' o => ?_).up (Nat.le_add_right ..)⟩
    have S : ∀ {s : Str} {l : List (AV × Nat)}, (AV.s (.str s), 1) ∈ l → Outs (worGo most g) w l Q → Know g.h h' → Q (.str s) σ' := fun hm q K => q _ hm w _ _ List.prefix_rfl ⟨h', R', K⟩ (.s .str)
    cases o with
    | trap c K => rw [c] at hd; subst hd; exact S (.tail _ (.tail _ (.tail _ (.head _)))) q K
    | step o => cases o with
      | over c => rw [c] at hd; subst hd; exact S (.head _) q ⟨rfl, rfl, rfl, Nat.le_succ _⟩
      | stop c K => rw [c] at hd; subst hd; exact S (.tail _ (.tail _ (.head _))) q K
      | go c D => rw [c] at hd; subst hd; exact q _ (.head _) w _ _ List.prefix_rfl ⟨h', ⟨R', D⟩, ew⟩ (.s .str)
      | fin c D => rw [c] at hd; subst hd; exact q _ (.tail _ (.head _)) w _ _ List.prefix_rfl ⟨h', ⟨R', D⟩, ew⟩ (.s .str)) hit0))))))
theorem InG.gd {d : Bool} {j : Nat} {w : Unit × List MV} (hj : j ∈ [0, 1, 2, 3, 5]) : InG most g (off d + j) w σ = InGd most g d j w σ := by
  revert hj
  cases d <;> exact fun hj => (hit rfl (hit rfl (hit rfl (hit rfl (hit rfl hit0)))) : ∀ j ∈ [0, 1, 2, 3, 5], InG most g (off _ + j) w σ = InGd most g _ j w σ) j hj
theorem InG.ge {d : Bool} {w : Unit × List MV} : InG most g (off d + 4) w σ = InGe most g d σ := by cases d <;> rfl
theorem begK_on (h1 : g.on = true) : begK (g.F most) g.h = (g.h.m :: g.h.kp).take most := by unfold begK; rw [show (g.F most).on = true from h1]; rfl
theorem keep_last {α β : Type} {f : α → β} {x : α} {l : List α} {k : Nat} (h0 : k ≠ 0) : (l.reverse.map f ++ [f x]).drop (cutAt (-(k : Int)) (l.reverse.map f ++ [f x]).length) = ((x :: l).take k).reverse.map f := by
  have e : l.reverse.map f ++ [f x] = ((x :: l).map f).reverse := by rw [List.map_cons, List.reverse_cons, List.map_reverse]
  rw [e, List.drop_reverse, List.length_reverse, List.map_reverse, List.map_take]
  have : cutAt (-(k : Int)) ((x :: l).map f).length = ((x :: l).map f).length - k := by unfold cutAt; rw [if_pos (by omega)]; omega
  rw [this]
  by_cases c : k ≤ ((x :: l).map f).length
  · rw [Nat.sub_sub_self c]
  · rw [Nat.sub_eq_zero_of_le (Nat.le_of_not_le c), Nat.sub_zero, List.take_length, List.take_of_length_le (Nat.le_of_not_le c)]
theorem go_ready {d : Bool} {k : Nat} {o : MO} (G : GoW (g.F most) g d h σ) (H : Hs ((k, o) :: lay (g.F most) h) σ) (ho : o = keptO (begK (g.F most) g.h)) : InGe most g d (σ.set 3 (.sdict (deskL most k g.on))) :=
  ⟨h, k, by have := G.rp.keep (o3 := .sdict (deskL most k g.on)) H; rw [ho, ← G.d.kp] at this; exact this, G.d⟩
theorem rowsGd_ok {d : Bool} (h1 : g.on = true) (hk : g.h.kp.length ≤ 6) : ∀ e ∈ rowsGd most d, Row.Ok n (worGo most g) T e := by
  have hl : (kept1 g).length ≤ 7 := by rw [List.length_append, List.length_map, List.length_reverse]; exact Nat.succ_le_succ hk
  refine List.forall_mem_append.mpr ⟨hit (rKeep fun {m w vs σ Q} hm i g' q => GL.e1 g' fun u gu => by
    obtain rfl : u = .ref 5 := gu.xE
    obtain ⟨F, h, R, e⟩ : ∃ F h, Rp F h σ ∧ h.m.done = d := mem2 (P := fun m => InG most g m w σ → _) hm (fun i => let ⟨h, G, _⟩ := (InG.gd (j := 0) (by decide)).mp i; ⟨_, h, G.rp, G.d.d⟩) (fun i => let ⟨h, _, R, D⟩ := InG.ge.mp i; ⟨_, h, R, D.d⟩) i
    exact at_field (R.hs.get 4 rfl) rfl rfl (q _ (e ▸ .b))) (hit (rItem fun {m w σ Q} hm i u v gu gv q => by
    obtain ⟨h, G, _⟩ := (InG.gd (j := 0) (by decide)).mp (only (P := fun m => InG most g m w σ) hm i)
    obtain rfl : u = .ref 3 := gu.xE
    rw [gv.strE]
    exact desk_item (G.rp.hs.get 2 rfl) rfl (q _ (.xx rfl))) (hit (rOn fun {w vs σ Q} i g' q => GL.e1 g' fun u gu => by
    obtain ⟨h, G, ew⟩ := (InG.gd (j := 0) (by decide)).mp i
    obtain rfl : u = seen g.h.m := gu.xE
    have ew : w.2 = [] := ew
    exact ⟨(by decide : 1 ≤ sz), q ((), [.ref σ.length]) _ _ (ew ▸ List.nil_prefix) ((InG.gd (j := 1) (by decide)).mpr ⟨h, ⟨G.rp.app _, G.d⟩, _, rfl, get_new⟩) (.xx rfl)⟩) (hit (rOn fun {w vs σ Q} i g' q => GL.e2 g' fun u v gu gv => by
    obtain ⟨h, G, i, ew, ei⟩ := (InG.gd (j := 1) (by decide)).mp i
    obtain rfl : u = .ref g.kx := gu.xE
    have ev : w.2[0]? = some v := gv.xE
    rw [ew] at ev
    obtain rfl := Option.some.inj ev
    exact b_list (G.rp.hs.get 3 rfl) ei (by rw [← List.length_append]; exact Nat.le_trans hl (by decide)) (q ((), [.ref i, .ref σ.length]) _ _ (show w.2 <+: [MV.ref i, .ref σ.length] from ew ▸ List.prefix_append [MV.ref i] [.ref σ.length]) ((InG.gd (j := 2) (by decide)).mpr ⟨h, ⟨G.rp.app _, G.d⟩, _, _, rfl, get_new⟩) (.xx rfl))) hit0))), ?_⟩
  by_cases c : most = 0
  · rw [if_pos c]
    exact hit (rOn fun {w vs σ Q} i g' q => GL.e0 g' (by
      obtain ⟨h, G, ew⟩ := (InG.gd (j := 0) (by decide)).mp i
      have ew : w.2 = [] := ew
      exact ⟨Nat.zero_le _, q ((), [.ref σ.length]) _ _ (ew ▸ List.nil_prefix) ((InG.gd (j := 5) (by decide)).mpr ⟨h, ⟨G.rp.app _, G.d⟩, _, rfl, G.rp.hs.new _⟩) (.xx rfl)⟩)) (hit (rOn fun {w vs σ Q} i g' q => GL.e3 g' fun u v x gu gv gx => by
      obtain ⟨h, G, k, ew, H⟩ := (InG.gd (j := 5) (by decide)).mp i
      obtain rfl : u = .ref 3 := gu.xE
      have ex : w.2[0]? = some x := gx.xE
      rw [ew] at ex
      obtain rfl := Option.some.inj ex
      rw [gv.strE]
      exact desk_kept (G.rp.hs.get 2 rfl) (q w _ _ List.prefix_rfl (InG.ge.mpr (go_ready G H (by rw [begK_on h1, c]; rfl))) .n)) hit0)
  · rw [if_neg c]
    exact hit (rOn fun {w vs σ Q} i g' q => GL.e2 g' fun u x gu gx => by
      obtain ⟨h, G, i, k, ew, ek⟩ := (InG.gd (j := 2) (by decide)).mp i
      have eu : w.2[1]? = some u := gu.xE
      rw [ew] at eu
      obtain rfl := Option.some.inj eu
      rw [one_int rfl gx]
      refine s_drop ek (Nat.le_trans hl (by decide)) ?_
      have H := G.rp.hs.new (keptO (begK (g.F most) g.h))
      unfold keptO at H
      rw [begK_on h1, ← keep_last c] at H
      refine q ((), [i, .ref k, .ref σ.length]) _ _ (show w.2 <+: [i, MV.ref k, .ref σ.length] from ew ▸ List.prefix_append [i, .ref k] [.ref σ.length]) ((InG.gd (j := 3) (by decide)).mpr ⟨h, ⟨G.rp.app _, G.d⟩, _, _, _, rfl, ?_⟩) (.xx rfl)
      unfold keptO
      rw [begK_on h1, ← keep_last c]
      exact H) (hit (rOn fun {w vs σ Q} i g' q => GL.e3 g' fun u v x gu gv gx => by
      obtain ⟨h, G, i, j, k, ew, H⟩ := (InG.gd (j := 3) (by decide)).mp i
      obtain rfl : u = .ref 3 := gu.xE
      have ex : w.2[2]? = some x := gx.xE
      rw [ew] at ex
      obtain rfl := Option.some.inj ex
      rw [gv.strE]
      exact desk_kept (G.rp.hs.get 2 rfl) (q w _ _ List.prefix_rfl (InG.ge.mpr (go_ready G H rfl)) .n)) hit0)
theorem rowsOff_ok (h1 : g.on = false) : ∀ e ∈ [(⟨.attr "is_done", pat [xx 1] (keep [3] (bit false))⟩ : Row), ⟨.attr "is_done", pat [xx 1] (keep [9] (bit true))⟩], Row.Ok n (worGo most g) T e :=
  have f : ∀ {d : Bool} {m : Nat} {w : (worGo most g).W} {vs : List MV} {σ : St} {Q : MV → St → Prop}, (worGo most g).I m w σ → m ∈ [off d] → GL ((worGo most g).X w) [xx 1] vs → (∀ v, GV ((worGo most g).X w) (bit d) v → Q v σ) → OpS n σ Q T (.attr "is_done") vs := fun {d m w vs σ Q} i hm g' q => GL.e1 g' fun u gu => by
    obtain rfl : u = .ref 5 := gu.xE
    obtain ⟨h, G, _⟩ := (InG.gd (j := 0) (by decide)).mp (only (P := fun m => InG most g m w σ) hm i)
    exact at_field (G.rp.hs.get 4 rfl) rfl rfl (q _ (G.d.d ▸ .b))
  hit (rKeep fun hm i g' q => f (d := false) i hm g' q) (hit (rKeep fun hm i g' q => f (d := true) i hm g' q) hit0)
theorem Ls.kp (L : Ls most g σ) : g.h.kp.length ≤ 6 := by
  rw [← chain_len L.rp.ch, List.length_map]
  exact Nat.le_trans L.rp.len L.rp.most
/-- what a deed leaves -/
structure After4 (most : Nat) (g g' : Lg) (σ : St) : Prop where
  ls : Ls most g' σ
  b : g'.h.b ≤ g.h.b + 4
theorem sp_go (L : Ls most g σ) (hb : g.h.b < 890) (q : ∀ g' σ', After4 most g g' σ' → Q (.bool true) σ') : CalS 13 "" "_law_go" [.ref 3] σ Q T := by
  have hm := L.rp.most
  have look := List.all_eq_true.mp (List.all_eq_true.mp (List.all_eq_true.mp look_go most (List.mem_range.mpr (Nat.lt_succ_of_le hm))) g.on (by cases g.on <;> decide)) g.h.m.done (by cases g.h.m.done <;> decide)
  refine run_ok (R := worGo most g) (j := 12) (t := tabGo most g.on g.h.m.done) (fun n => ⟨rows_ok (List.forall_mem_append.mpr ⟨rowsGo_ok rfl hb, ?_⟩), fun h => noO h, fun h => noO h, fun h => no h⟩) look (w := ((), [])) ⟨L.rp, rfl⟩ (.cons (.xx rfl) .nil) fun av m w v σ' hk _ i g' => ?_
  · cases c : g.on with
    | true => exact List.forall_mem_append.mpr ⟨rowsGd_ok c L.kp, rowsGd_ok c L.kp⟩
    | false => exact rowsOff_ok c
  · have hk := Bool.and_eq_true_iff.mp hk
    rw [(AV.le_ok hk.1 g').bitE]
    have hm := List.contains_iff_mem.mp hk.2
    have E : ∀ {d}, InGe most g d σ' → Q (.bool true) σ' := fun ⟨h, kx, R, D⟩ => q { g with kx := kx, h := h } _ ⟨⟨R, L.w⟩, D.b⟩
    have S : ∀ {h}, Rp (g.F most) h σ' → h.kp = g.h.kp → h.b ≤ g.h.b + 4 → Q (.bool true) σ' := fun {h} R e hb => q { g with h := h } _ ⟨⟨(by unfold Lg.F; rw [e] : Lg.F most { g with h := h } = g.F most) ▸ R, L.w⟩, hb⟩
    cases c : g.on with
    | true =>
      rw [c] at hm
      rcases List.mem_cons.mp hm with rfl | hm
      · obtain ⟨h, R, K⟩ := i
        exact S R K.kp (Nat.le_trans K.b (Nat.add_le_add_left (by decide) _))
      · exact mem2 (P := fun m => InG most g m w σ' → _) hm (fun i => E (d := false) i) (fun i => E (d := true) i) i
    | false =>
      rw [c] at hm
      have O : ∀ {d}, InGd most g d 0 w σ' → Q (.bool true) σ' := fun ⟨h, G, _⟩ => S G.rp (G.d.kp.trans (by unfold begK; rw [show (g.F most).on = false from c]; rfl)) G.d.b
      rcases List.mem_cons.mp hm with rfl | hm
      · obtain ⟨h, R, K⟩ := i
        exact S R K.kp (Nat.le_trans K.b (Nat.add_le_add_left (by decide) _))
      · exact mem2 (P := fun m => InG most g m w σ' → _) hm (fun i => O (d := false) i) (fun i => O (d := true) i) i
end
end Mine
end
section
set_option genCtorIdx false
namespace Mine

/-! the Record ended and begun -/
noncomputable def offF (F : Fx) : Fx := { F with on := false }
noncomputable def newF (F : Fx) (s : Nat) : Fx := { F with on := false, s := s }
noncomputable def keptF (most : Nat) (F : Fx) (s k : Nat) (c : Bool) : Fx := { F with on := false, s := s, kx := k, o4 := .list [], o3 := .sdict (deskL most k c) }
noncomputable def noS (h : Mh) : Mh := { h with sl := [], kp := [] }
noncomputable def InT (most : Nat) (F : Fx) (h : Mh) (c0 c : Bool) (m : Nat) (w : Unit × List MV) (σ : St) : Prop := [Hs (lay F h) σ ∧ w.2 = [], Hs (lay (offF F) h) σ ∧ w.2 = [], ∃ i, w.2 = [.ref i] ∧ Hs ((i, .list []) :: lay (offF F) h) σ, ∃ i, w.2 = [.ref i] ∧ Hs (lay (newF F i) (noS h)) σ,
  ∃ i k, w.2 = [.ref i, .ref k] ∧ Hs ((k, .list []) :: lay (newF F i) (noS h)) σ, ∃ i k, Hs (lay (keptF most F i k c0) (noS h)) σ, ∃ i k, Hs (lay (keptF most F i k c) (noS h)) σ, ∃ i k, Hs (lay { keptF most F i k c with on := true } (noS h)) σ].getD m False
noncomputable abbrev worT (most : Nat) (F : Fx) (h : Mh) (c0 c : Bool) : Wor := worG Unit [(· = .ref 3), (· = .ref 13), (· = .ref 5)] (InT most F h c0 c)
noncomputable def rowsT (c : Bool) : List Row := [⟨.item, pat [xx 0, .s (.str "book")] (keep allM (xx 1))⟩, ⟨.attr "machine", pat [xx 1] (keep allM (xx 2))⟩, ⟨.setA "log", pat [xx 2, non] (on 0 [(non, 1)])⟩, ⟨.lst, pat [] (on 1 [(xx 20, 2)])⟩, ⟨.setA "steps", pat [xx 1, xx 20] (on 2 [(non, 3)])⟩, ⟨.lst, pat [] (on 3 [(xx 21, 4)])⟩,
  ⟨.setI, pat [xx 0, .s (.str "kept"), xx 21] (on 4 [(non, 5)])⟩, ⟨.setI, pat [xx 0, .s (.str "on"), bit c] (on 5 [(non, 6)])⟩, ⟨.setA "log", pat [xx 2, xx 1] (on 6 [(non, 7)])⟩]
noncomputable def tabT (c : Bool) : Tab := tabR (rowsT c) (ownL [⟨xx 1, allM, "Record"⟩]) (fun _ _ _ => none) fun _ => false
theorem look_t (c : Bool) : run (tabT c) 2 "" "_law_turn_on" [xx 0, bit c] 0 (fun _ m => decide (m = bif c then 7 else 6)) = true := by cases c <;> kernel_rfl
section
variable {F : Fx} {h : Mh} {σ : St} {n : Nat} {T : St → Prop} {Q : MV → St → Prop} {most : Nat} {g : Lg} {c0 c : Bool}
/-- the desk, the Record and the machine as they lie -/
structure Desk (most : Nat) (σ : St) : Prop where
  d : ∃ k c, σ[3]? = some (.sdict (deskL most k c))
  r : ∃ most s, σ[13]? = some (.inst "Record" (rfields most s))
  m : M5 σ
theorem Hs.desk {L : List (Nat × MO)} (hF : ∃ k c, F.o3 = .sdict (deskL most k c)) (H : Hs (lay F h) σ) : Desk most σ := ⟨let ⟨k, c, e⟩ := hF; ⟨k, c, e ▸ H.get 2 rfl⟩, ⟨_, _, H.get 9 rfl⟩, _, _, H.get 4 rfl⟩
theorem InT.desk {m : Nat} {w : Unit × List MV} (hF : ∃ k c, F.o3 = .sdict (deskL most k c)) (i : InT most F h c0 c m w σ) : Desk most σ := match m, i with
  | 0, i => i.1.desk (L := []) hF | 1, i => Hs.desk (L := []) (F := offF F) hF i.1 | 2, i => let ⟨_, _, H⟩ := i; Hs.desk (L := []) (F := offF F) hF (H.sub (List.sublist_cons_self ..)) | 3, i => let ⟨_, _, H⟩ := i; Hs.desk (L := []) (F := newF F _) hF H
  | 4, i => let ⟨_, _, _, H⟩ := i; Hs.desk (L := []) (F := newF F _) hF (H.sub (List.sublist_cons_self ..)) | 5, i => let ⟨_, _, H⟩ := i; H.desk (L := []) ⟨_, _, rfl⟩ | 6, i => let ⟨_, _, H⟩ := i; H.desk (L := []) ⟨_, _, rfl⟩ | 7, i => let ⟨_, _, H⟩ := i; H.desk (L := []) ⟨_, _, rfl⟩ | _ + 8, i => i.elim
theorem setlog {lg : MV} {m : Mc} {lg0 : MV} {P : St → Prop} (e : σ[5]? = some (.inst "Machine" (mfields m lg0))) (q : P (σ.set 5 (.inst "Machine" (mfields m lg)))) : SetAttrS (.ref 5) "log" lg σ P T := sa_field e rfl mf_sz q
theorem rowsT_ok (hF : ∃ k, F.o3 = .sdict (deskL most k c0)) : ∀ e ∈ rowsT c, Row.Ok n (worT most F h c0 c) T e := by
  have hF' : ∃ k c, F.o3 = .sdict (deskL most k c) := let ⟨k, e⟩ := hF; ⟨k, c0, e⟩
  exact hit (rItem fun {m w σ Q} _ i u v gu gv q => by
    obtain ⟨k, b, e⟩ := (InT.desk (w := w) hF' i).d
    obtain rfl : u = .ref 3 := gu.xE
    rw [gv.strE]
    exact desk_item e rfl (q _ (.xx rfl))) (hit (rKeep fun {m w vs σ Q} _ i g' q => GL.e1 g' fun u gu => by
    obtain ⟨_, _, e⟩ := (InT.desk (w := w) hF' i).r
    obtain rfl : u = .ref 13 := gu.xE
    exact at_field e rfl rfl (q _ (.xx rfl))) (hit (rOn fun {w vs σ Q} i g' q => GL.e2 g' fun u v gu gv => by
    obtain ⟨H, ew⟩ : Hs (lay F h) σ ∧ w.2 = [] := i
    obtain rfl : u = .ref 5 := gu.xE
    rw [gv.nonE]
    exact setlog (H.get 4 rfl) (q w _ _ List.prefix_rfl ⟨H.set 4 rfl _, ew⟩ .n)) (hit (rOn fun {w vs σ Q} i g' q => GL.e0 g' (by
    obtain ⟨H, ew⟩ : Hs (lay (offF F) h) σ ∧ w.2 = [] := i
    exact ⟨Nat.zero_le _, q ((), [.ref σ.length]) _ _ (ew ▸ List.nil_prefix) ⟨_, rfl, H.new _⟩ (.xx rfl)⟩)) (hit (rOn fun {w vs σ Q} i g' q => GL.e2 g' fun u v gu gv => by
    obtain ⟨i, ew, H⟩ : ∃ i, w.2 = [.ref i] ∧ Hs ((i, .list []) :: lay (offF F) h) σ := i
    obtain rfl : u = .ref 13 := gu.xE
    have ev : w.2[0]? = some v := gv.xE
    rw [ew] at ev
    obtain rfl := Option.some.inj ev
    have H1 := H.set 10 rfl (.inst "Record" (rfields F.most i))
    exact sa_field (H.get 10 rfl) rfl (by decide : 3 < sz) (q w _ _ List.prefix_rfl ⟨i, ew, (H1.perm (List.perm_middle (l₁ := (lay (newF F i) (noS h)).take 10)).symm).sub ((List.Sublist.cons_cons _ (List.Sublist.cons _ (List.nil_sublist _))).append_left ((lay (newF F i) (noS h)).take 10))⟩ .n)) (hit (rOn fun {w vs σ Q} i g' q => GL.e0 g' (by
    obtain ⟨i, ew, H⟩ : ∃ i, w.2 = [.ref i] ∧ Hs (lay (newF F i) (noS h)) σ := i
    exact ⟨Nat.zero_le _, q ((), [.ref i, .ref σ.length]) _ _ (show w.2 <+: [MV.ref i, .ref σ.length] from ew ▸ List.prefix_append [MV.ref i] [.ref σ.length]) ⟨_, _, rfl, H.new _⟩ (.xx rfl)⟩)) (hit (rOn fun {w vs σ Q} i g' q => GL.e3 g' fun u v x gu gv gx => by
    obtain ⟨i, k, ew, H⟩ : ∃ i k, w.2 = [.ref i, .ref k] ∧ Hs ((k, .list []) :: lay (newF F i) (noS h)) σ := i
    obtain rfl : u = .ref 3 := gu.xE
    have ex : w.2[1]? = some x := gx.xE
    rw [ew] at ex
    obtain rfl := Option.some.inj ex
    obtain ⟨k0, e⟩ := hF
    rw [gv.strE]
    exact desk_kept (kx := k0) (e ▸ H.get 3 rfl) (q w _ _ List.prefix_rfl ⟨i, k, ((H.set 3 rfl (.sdict (deskL most k c0))).sub (.cons_cons _ (.cons_cons _ (.cons_cons _ (.cons_cons _ (.cons _ (List.Sublist.refl _))))))).perm (List.perm_middle (l₁ := [(2, F.o2), (1, F.o1), (3, .sdict (deskL most k c0))])).symm⟩ .n)) (hit (rOn fun {w vs σ Q} i g' q => GL.e3 g' fun u v x gu gv gx => by
    obtain ⟨i, k, H⟩ : ∃ i k, Hs (lay (keptF most F i k c0) (noS h)) σ := i
    obtain rfl : u = .ref 3 := gu.xE
    rw [gv.strE, gx.bitE]
    exact si_sdict (H.get 2 rfl) (by decide : 5 ≤ sz) (q w _ _ List.prefix_rfl ⟨i, k, H.set 2 rfl _⟩ .n)) (hit (rOn fun {w vs σ Q} i g' q => GL.e2 g' fun u v gu gv => by
    obtain ⟨i, k, H⟩ : ∃ i k, Hs (lay (keptF most F i k c) (noS h)) σ := i
    obtain rfl : u = .ref 5 := gu.xE
    obtain rfl : v = .ref 13 := gv.xE
    exact setlog (H.get 4 rfl) (q w _ _ List.prefix_rfl ⟨i, k, H.set 4 rfl _⟩ .n)) hit0))))))))
theorem sp_turn (L : Ls most g σ) (q : ∀ v g' σ', Ls most g' σ' → g'.h.b = g.h.b → Q v σ') : CalS 2 "" "_law_turn_on" [.ref 3, .bool c] σ Q T := by
  refine run_ok (R := worT most (g.F most) g.h g.on c) (j := 0) (t := tabT c) (fun n => ⟨rows_ok (rowsT_ok ⟨_, rfl⟩), ownL_ok (hit (fun {mo w v σ} _ i g' => let ⟨most, s, e⟩ := (InT.desk (w := w) ⟨_, _, rfl⟩ i).r; ⟨13, _, g'.xE, e, by kernel_rfl⟩) hit0), fun h => noO h, fun h => no h⟩) (look_t c) (w := ((), [])) ⟨L.rp.hs, rfl⟩ (.cons (.xx rfl) (.cons .b .nil)) fun av m w v σ' hk _ i g' => ?_
  have E : ∀ {i k : Nat}, Hs (lay { keptF most (g.F most) i k c with on := c } (noS g.h)) σ' → Q v σ' := fun {i k} H => q v { g with kx := k, s := i, on := c, h := noS g.h } σ' ⟨{ L.rp with hs := H, sb := hit0, len := Nat.zero_le _, off := fun _ => rfl, ch := rfl }, L.w⟩ rfl
  rw [of_decide_eq_true hk] at i
  cases c with
  | true => obtain ⟨i, k, H⟩ := i; exact E H
  | false => obtain ⟨i, k, H⟩ := i; exact E H
end
end Mine
end
section
set_option genCtorIdx false
namespace Mine

/-! the law's way back -/
noncomputable def dueM (g : Lg) : Mc := g.h.kp.headD g.h.m
noncomputable def InK (most : Nat) (g : Lg) (m : Nat) (w : Unit × List MV) (σ : St) : Prop := [Rp (g.F most) g.h σ ∧ w.2 = [], Rp (g.F most) g.h σ ∧ ∃ i, w.2 = [.ref i] ∧ σ[i]? = some (.list []), ∃ h, Rp (g.F most) h σ ∧ BackOut g.h (!g.h.kp.isEmpty) h ∧ ∃ i, w.2 = [i],
  ∃ h, Rp (g.F most) h σ ∧ BackOut g.h (!g.h.kp.isEmpty) h ∧ ∃ i j, w.2 = [i, .ref j] ∧ σ[j]? = some (.list []), ∃ h, Rp (g.F most) h σ ∧ BackOut g.h (!g.h.kp.isEmpty) h ∧ ∃ i j k, w.2 = [i, j, .ref k] ∧ Hs ((k, keptO h.kp) :: lay (g.F most) h) σ,
  ∃ h k, Rp (Lg.F most { g with kx := k, h := h }) h σ ∧ BackOut g.h (!g.h.kp.isEmpty) h].getD m False
noncomputable abbrev worK (most : Nat) (g : Lg) : Wor := worG Unit [(· = .ref 3), (· = .ref 5), (· = .ref 13), (· = .ref g.kx), (· = seen (dueM g))] (InK most g)
noncomputable def rowsK (e : Bool) : List Row := [⟨.item, pat [xx 0, .s (.str "machine")] (keep allM (xx 1))⟩, ⟨.item, pat [xx 0, .s (.str "book")] (keep allM (xx 2))⟩, ⟨.item, pat [xx 0, .s (.str "kept")] (keep [0, 1, 2, 3] (xx 3))⟩, ⟨.lst, pat [] (on 0 [(xx 20, 1)])⟩, ⟨.lst, pat [] (on 2 [(xx 21, 3)])⟩, ⟨.cmp .NotEq, pat [xx 3, xx 20] (keep [1] (bit (!e)))⟩, ⟨.cmp .NotEq, pat [xx 3, xx 21] (keep [3] (bit (!e)))⟩,
  ⟨.call "Record" "back", pat [xx 2] (on 1 [(bit (!e), 2)])⟩, ⟨.slc false true false, pat [xx 3, .int (-1) (-1)] (on 3 [(xx 22, 4)])⟩, ⟨.setI, pat [xx 0, .s (.str "kept"), xx 22] (on 4 [(non, 5)])⟩, ⟨.call "" "_law_seen", pat [xx 1] (keep [5] (xx 4))⟩, ⟨.cmp .Eq, pat [xx 4, xx 4] (keep [5] (bit true))⟩] ++
  bif e then [⟨.call "" "_law_seen", pat [xx 1] (keep [1] (xx 4))⟩] else [⟨.item, pat [xx 3, .int (-1) (-1)] (keep [1] (xx 4))⟩]
noncomputable def tabK (e : Bool) : Tab := tabR (rowsK e) (ownL [⟨xx 2, allM, "Record"⟩]) (fun _ _ _ => none) fun _ => false
theorem look_k (e : Bool) : run (tabK e) 1 "" "_law_back" [xx 0] 0 (fun r m => r.le (bit true) && decide (m = 5)) = true := by cases e <;> kernel_rfl
section
variable {F : Fx} {h : Mh} {σ : St} {n : Nat} {T : St → Prop} {Q : MV → St → Prop} {most : Nat} {g : Lg} {e : Bool}
theorem InK.desk {m : Nat} {w : Unit × List MV} (i : InK most g m w σ) : Desk most σ := match m, i with
  | 0, i => i.1.hs.desk (L := []) ⟨_, _, rfl⟩ | 1, i => i.1.hs.desk (L := []) ⟨_, _, rfl⟩ | 2, i => let ⟨_, R, _⟩ := i; R.hs.desk (L := []) ⟨_, _, rfl⟩ | 3, i => let ⟨_, R, _⟩ := i; R.hs.desk (L := []) ⟨_, _, rfl⟩ | 4, i => let ⟨_, R, _⟩ := i; R.hs.desk (L := []) ⟨_, _, rfl⟩ | 5, i => let ⟨_, _, R, _⟩ := i; R.hs.desk (L := []) ⟨_, _, rfl⟩ | _ + 6, i => i.elim
theorem BackOut.out {c : Bool} (L : Ls most g σ) (B : BackOut g.h c h) : c = !g.h.kp.isEmpty ∧ h.kp = g.h.kp.tail ∧ h.m = dueM g ∧ h.b = g.h.b := by
  unfold dueM
  cases B with
  | no e =>
    have := chain_len L.rp.ch
    rw [List.length_map, e] at this
    rw [List.eq_nil_of_length_eq_zero this.symm]
    exact ⟨rfl, rfl, rfl, rfl⟩
  | yes e e' => rw [e']; exact ⟨rfl, rfl, rfl, rfl⟩
theorem drop_last {α β : Type} {f : α → β} {l : List α} : (l.reverse.map f).take (cutAt (-1) (l.reverse.map f).length) = l.tail.reverse.map f := by
  have : cutAt (-1) (l.reverse.map f).length = l.length - 1 := by rw [List.length_map, List.length_reverse]; unfold cutAt; rw [if_pos (by decide)]; omega
  rw [this, ← List.map_take, List.take_reverse]
  cases l with
  | nil => rfl
  | cons x l => rw [List.length_cons, Nat.add_sub_cancel, Nat.add_sub_cancel_left]; rfl
theorem rowsK_ok (L : Ls most g σ) (hb : g.h.b ≤ 90) (he : g.h.kp.isEmpty = e) : ∀ r ∈ rowsK e, Row.Ok (4 + n) (worK most g) T r := by
  have hk : (g.h.kp.reverse.map seen).length ≤ 6 := by rw [List.length_map, List.length_reverse]; exact L.kp
  have cm : ∀ {h σ j}, Rp (g.F most) h σ → σ[j]? = some (.list []) → CmpS .NotEq (.ref g.kx) (.ref j) σ (!e) := fun R ej => by
    have := c_neL (R.hs.get 3 rfl) ej
    rw [List.isEmpty_map, List.isEmpty_reverse, he] at this
    exact this
  refine List.forall_mem_append.mpr ⟨hit (rItem fun {m w σ Q} _ i u v gu gv q => by
    obtain ⟨k, b, e⟩ := (InK.desk (w := w) i).d
    obtain rfl : u = .ref 3 := gu.xE
    rw [gv.strE]
    exact desk_item e rfl (q _ (.xx rfl))) (hit (rItem fun {m w σ Q} _ i u v gu gv q => by
    obtain ⟨k, b, e⟩ := (InK.desk (w := w) i).d
    obtain rfl : u = .ref 3 := gu.xE
    rw [gv.strE]
    exact desk_item e rfl (q _ (.xx rfl))) (hit (rItem fun {m w σ Q} hm i u v gu gv q => by
    obtain ⟨h, R⟩ : ∃ h, Rp (g.F most) h σ := by
      rcases List.mem_cons.mp hm with rfl | hm
      · exact ⟨_, i.1⟩
      rcases List.mem_cons.mp hm with rfl | hm
      · exact ⟨_, i.1⟩
      · exact mem2 (P := fun m => InK most g m w σ → _) hm (fun i => let ⟨h, R, _⟩ := i; ⟨h, R⟩) (fun i => let ⟨h, R, _⟩ := i; ⟨h, R⟩) i
    obtain rfl : u = .ref 3 := gu.xE
    rw [gv.strE]
    exact desk_item (R.hs.get 2 rfl) rfl (q _ (.xx rfl))) (hit (rOn fun {w vs σ Q} i g' q => GL.e0 g' (by
    obtain ⟨R, ew⟩ : Rp (g.F most) g.h σ ∧ w.2 = [] := i
    exact ⟨Nat.zero_le _, q ((), [.ref σ.length]) _ _ (ew ▸ List.nil_prefix) ⟨R.app _, _, rfl, get_new⟩ (.xx rfl)⟩)) (hit (rOn fun {w vs σ Q} i g' q => GL.e0 g' (by
    obtain ⟨h, R, B, i, ew⟩ : ∃ h, Rp (g.F most) h σ ∧ BackOut g.h (!g.h.kp.isEmpty) h ∧ ∃ i, w.2 = [i] := i
    exact ⟨Nat.zero_le _, q ((), [i, .ref σ.length]) _ _ (show w.2 <+: [i, MV.ref σ.length] from ew ▸ List.prefix_append [i] [.ref σ.length]) ⟨h, R.app _, B, _, _, rfl, get_new⟩ (.xx rfl)⟩)) (hit (rCmp fun {m w σ} hm i u v gu gv => by
    obtain ⟨R, j, ew, ej⟩ : Rp (g.F most) g.h σ ∧ ∃ i, w.2 = [.ref i] ∧ σ[i]? = some (.list []) := only (P := fun m => InK most g m w σ) hm i
    obtain rfl : u = .ref g.kx := gu.xE
    have ev : w.2[0]? = some v := gv.xE
    rw [ew] at ev
    obtain rfl := Option.some.inj ev
    exact cm R ej) (hit (rCmp fun {m w σ} hm i u v gu gv => by
    obtain ⟨h, R, B, i, j, ew, ej⟩ : ∃ h, Rp (g.F most) h σ ∧ BackOut g.h (!g.h.kp.isEmpty) h ∧ ∃ i j, w.2 = [i, .ref j] ∧ σ[j]? = some (.list []) := only (P := fun m => InK most g m w σ) hm i
    obtain rfl : u = .ref g.kx := gu.xE
    have ev : w.2[1]? = some v := gv.xE
    rw [ew] at ev
    obtain rfl := Option.some.inj ev
    exact cm R ej) (hit (rCall (by kernel_rfl) fun {w vs σ Q} i g' q => GL.e1 g' fun u gu => by
    obtain ⟨R, i, ew, _⟩ : Rp (g.F most) g.h σ ∧ ∃ i, w.2 = [.ref i] ∧ σ[i]? = some (.list []) := i
    obtain rfl : u = .ref 13 := gu.xE
    refine (sp_back R hb fun c h' σ' R' B => ?_).up (Nat.le_add_right _ _)
    have hc := (B.out L).1
    subst hc
    exact q w _ _ List.prefix_rfl ⟨h', R', B, _, ew⟩ (he ▸ .b)) (hit (rOn fun {w vs σ Q} i g' q => GL.e2 g' fun u v gu gv => by
    obtain ⟨h, R, B, i, j, ew, ej⟩ : ∃ h, Rp (g.F most) h σ ∧ BackOut g.h (!g.h.kp.isEmpty) h ∧ ∃ i j, w.2 = [i, .ref j] ∧ σ[j]? = some (.list []) := i
    obtain rfl : u = .ref g.kx := gu.xE
    rw [one_int rfl gv]
    refine s_take (R.hs.get 3 rfl) (Nat.le_trans hk (by decide)) ?_
    rw [drop_last, ← (B.out L).2.1]
    exact q ((), [i, .ref j, .ref σ.length]) _ _ (show w.2 <+: [i, MV.ref j, .ref σ.length] from ew ▸ List.prefix_append [i, .ref j] [.ref σ.length]) ⟨h, R.app _, B, _, _, _, rfl, R.hs.new _⟩ (.xx rfl)) (hit (rOn fun {w vs σ Q} i g' q => GL.e3 g' fun u v x gu gv gx => by
    obtain ⟨h, R, B, i, j, k, ew, H⟩ : ∃ h, Rp (g.F most) h σ ∧ BackOut g.h (!g.h.kp.isEmpty) h ∧ ∃ i j k, w.2 = [i, j, .ref k] ∧ Hs ((k, keptO h.kp) :: lay (g.F most) h) σ := i
    obtain rfl : u = .ref 3 := gu.xE
    have ex : w.2[2]? = some x := gx.xE
    rw [ew] at ex
    obtain rfl := Option.some.inj ex
    rw [gv.strE]
    exact desk_kept (R.hs.get 2 rfl) (q w _ _ List.prefix_rfl ⟨h, k, R.keep (o3 := .sdict (deskL most k g.on)) H, B⟩ .n)) (hit (rKeep fun {m w vs σ Q} hm i g' q => GL.e1 g' fun u gu => by
    obtain ⟨h, k, R, B⟩ : ∃ h k, Rp (Lg.F most { g with kx := k, h := h }) h σ ∧ BackOut g.h (!g.h.kp.isEmpty) h := only (P := fun m => InK most g m w σ) hm i
    obtain rfl : u = .ref 5 := gu.xE
    exact ⟨ft_ne (by kernel_rfl), (sp_seen R (q _ (.xx (by rw [(B.out L).2.2.1]; rfl)))).up (Nat.le_add_right_of_le (by decide))⟩) (hit (rCmp fun _ _ u v gu gv => by
    obtain rfl : u = seen (dueM g) := gu.xE
    obtain rfl : v = seen (dueM g) := gv.xE
    exact c_same (seen_plain _)) hit0))))))))))), ?_⟩
  cases e with
  | true => exact hit (rKeep fun {m w vs σ Q} hm i g' q => GL.e1 g' fun u gu => by
      have R : Rp (g.F most) g.h σ := (only (P := fun m => InK most g m w σ) hm i).1
      obtain rfl : u = .ref 5 := gu.xE
      exact ⟨ft_ne (by kernel_rfl), (sp_seen R (q _ (.xx (congrArg seen (by unfold dueM; rw [List.isEmpty_iff.mp he]; rfl : g.h.m = dueM g))))).up (Nat.le_add_right_of_le (by decide))⟩) hit0
  | false => exact hit (rItem fun {m w σ Q} hm i u v gu gv q => by
      have R : Rp (g.F most) g.h σ := (only (P := fun m => InK most g m w σ) hm i).1
      obtain rfl : u = .ref g.kx := gu.xE
      rw [one_int rfl gv]
      obtain ⟨k, ks, ek⟩ := ne_cons he
      exact i_last (R.hs.get 3 rfl) (v := seen (dueM g)) (by unfold dueM; rw [ek, List.reverse_cons, List.map_append]; exact List.getLast?_concat ..) (q _ (.xx rfl))) hit0
theorem sp_lback (L : Ls most g σ) (hb : g.h.b ≤ 90) (q : ∀ g' σ', Ls most g' σ' → g'.h.b = g.h.b → g'.h.kp = g.h.kp.tail → Q (.bool true) σ') : CalS 5 "" "_law_back" [.ref 3] σ Q T :=
  run_ok (R := worK most g) (j := 4) (t := tabK g.h.kp.isEmpty) (fun n => ⟨rows_ok (rowsK_ok L hb rfl), ownL_ok (hit (fun {mo w v σ} _ i g' => let ⟨most, s, e⟩ := (InK.desk (w := w) i).r; ⟨13, _, g'.xE, e, by kernel_rfl⟩) hit0), fun h => noO h, fun h => no h⟩) (look_k _) (w := ((), [])) ⟨L.rp, rfl⟩ (.cons (.xx rfl) .nil) fun av m w v σ' hk _ i g' => by
    rw [Bool.and_eq_true, decide_eq_true_eq] at hk
    rw [(AV.le_ok hk.1 g').bitE]
    rw [hk.2] at i
    obtain ⟨h, k, R, B⟩ := i
    have o := B.out L
    exact q { g with kx := k, h := h } σ' ⟨R, L.w⟩ o.2.2.2 o.2.1
end
end Mine
end
section
set_option genCtorIdx false
namespace Mine

/-! a deed -/
noncomputable def Dd (most B : Nat) (σ : St) : Prop := ∃ g, Ls most g σ ∧ g.h.b ≤ B
noncomputable def InQ (most B : Nat) (m : Nat) (w : Unit × List MV) (σ : St) : Prop := [w.2 = [] ∧ Dd most B σ, Dd most (B + 4) σ, (∃ i x, w.2 = [.ref i] ∧ σ[i]? = some (.list [.int x]) ∧ 0 ≤ x ∧ x < 256) ∧ Dd most B σ, Dd most B σ].getD m False
noncomputable abbrev worQ (most B : Nat) : Wor := worG Unit [(· = .ref 3), (· = .ref 2), (· = .ref 5), (fun _ => True)] (InQ most B)
noncomputable def rowsQ : List Row := [rLent, rDraw false 1 [0, 3], ⟨.item, pat [xx 0, .s (.str "machine")] (keep [0] (xx 2))⟩, ⟨.call "" "_law_go", pat [xx 0] (on 0 [(bit true, 1)])⟩, ⟨.call "" "_law_back", pat [xx 0] (on 0 [(bit true, 0)])⟩, ⟨.call "" "_law_turn_on", pat [xx 0, .s (.bit none)] (on 0 [(xx 3, 0)])⟩, ⟨.lst, pat [.int 0 255] (on 0 [(xx 20, 2)])⟩, ⟨.blt "bytes", pat [xx 20] (on 2 [(.s (.byt 1), 3)])⟩,
  ⟨.bin .Mult, pat [.s (.byt 1), .int 1 4] (on 3 ([1, 2, 3, 4].map fun k => (.s (.byt k), 3)))⟩, ⟨.call "Machine" "put", pat [xx 2, .int 0 31, num] (on 0 [(xx 3, 1)])⟩] ++ [1, 2, 3, 4].map fun k => ⟨.call "Machine" "write", pat [xx 2, .int 4096 4220, .s (.byt k)] (on 3 [(xx 3, 1)])⟩
noncomputable def tabQ : Tab := tabR rowsQ (ownL [⟨xx 2, [0], "Machine"⟩]) (fun _ _ _ => none) fun _ => false
theorem look_q : runL tabQ 2 "" "_law_deed" [xx 0, xx 1] 0 (fun r m => r.le (bit true) && decide (m < 2)) = true := by kernel_rfl
section
variable {F : Fx} {h : Mh} {σ : St} {n B : Nat} {T : St → Prop} {Q : MV → St → Prop} {most : Nat} {g : Lg}
theorem Dd.mono {B' : Nat} (d : Dd most B σ) (h : B ≤ B') : Dd most B' σ := let ⟨g, L, hb⟩ := d; ⟨g, L, Nat.le_trans hb h⟩
theorem Ls.app (L : Ls most g σ) (o : MO) : Ls most g (σ ++ [o]) := ⟨L.rp.app o, L.w⟩
theorem Ls.draw (L : Ls most g σ) : ∃ X k u, Wl X k u σ ∧ ∀ u' σ', Wl X k u' σ' → Ls most { g with w := u' } σ' := ⟨(lay (g.F most) g.h).drop 2, σ.length, g.w, ⟨L.w, L.rp.hs, rfl⟩, fun _ _ H => ⟨{ L.rp with hs := H.hs }, H.ok⟩⟩
theorem Dd.draw (d : Dd most B σ) : ∃ X k u, Wl X k u σ ∧ ∀ u' σ', Wl X k u' σ' → Dd most B σ' := let ⟨g, L, hb⟩ := d; let ⟨X, k, u, H, f⟩ := L.draw; ⟨X, k, u, H, fun u' σ' H' => ⟨_, f u' σ' H', hb⟩⟩
theorem Dd.moved {σ' : St} {h' : Mh} (L : Ls most g σ) (hb : g.h.b ≤ B) (R : Rp (g.F most) h' σ') (M : Moved g.h h') : Dd most (B + 4) σ' := ⟨{ g with h := h' }, ⟨(by unfold Lg.F; rw [M.kp] : Lg.F most { g with h := h' } = g.F most) ▸ R, L.w⟩, Nat.le_trans M.b (Nat.le_trans (Nat.succ_le_succ hb) (Nat.add_le_add_left (by decide : 1 ≤ 4) B))⟩
theorem rowsW_q {k : Nat} (hB : B ≤ 80) (hk : k ∈ [1, 2, 3, 4]) : Row.Ok (13 + n) (worQ most B) T ⟨.call "Machine" "write", pat [xx 2, .int 4096 4220, .s (.byt k)] (on 3 [(xx 3, 1)])⟩ :=
  rCall (by kernel_rfl) fun {w vs σ Q} i g' q => GL.e3 g' fun u x y gu gx gy => by
    obtain ⟨g, L, hb⟩ : Dd most B σ := i
    obtain rfl : u = .ref 5 := gu.xE
    refine GV.iE gx fun x ix => GV.byE gy fun b eb => ?_
    subst eb
    obtain ⟨x0, x1⟩ := ix _ rfl
    exact (sp_write hk L.rp (Nat.lt_of_le_of_lt hb (Nat.lt_of_le_of_lt hB (by decide))) x0 (by have := (by decide : ∀ k ∈ [1, 2, 3, 4], k ≤ 4) _ hk; dsimp only at x1; omega) fun v h' σ' R M => q w v σ' List.prefix_rfl (Dd.moved L hb R M) (.xx trivial)).up (Nat.le_add_right_of_le (by decide))
theorem rowsQ_ok (hB : B ≤ 80) : ∀ e ∈ rowsQ, Row.Ok (13 + n) (worQ most B) T e :=
  List.forall_mem_append.mpr ⟨hit ok_lent (hit (ok_draw (j := 1) (Nat.le_add_right_of_le (by decide)) (fun h => h) fun {m w σ} hm i => mem2 (P := fun m => InQ most B m w σ → ∃ X k u, Wl X k u σ ∧ ∀ u' σ', Wl X k u' σ' → InQ most B m w σ') hm (fun i => let ⟨X, k, u, H, f⟩ := i.2.draw; ⟨X, k, u, H, fun u' σ' H' => ⟨i.1, f u' σ' H'⟩⟩) (fun i => Dd.draw i) i) (hit (rItem fun {m w σ Q} hm i u v gu gv q => by
    obtain ⟨_, g, L, hb⟩ : w.2 = [] ∧ Dd most B σ := only (P := fun m => InQ most B m w σ) hm i
    obtain rfl : u = .ref 3 := gu.xE
    rw [gv.strE]
    exact desk_item (L.rp.hs.get 2 rfl) rfl (q _ (.xx rfl))) (hit (rCall (by kernel_rfl) fun {w vs σ Q} i g' q => GL.e1 g' fun u gu => by
    obtain ⟨_, g, L, hb⟩ : w.2 = [] ∧ Dd most B σ := i
    obtain rfl : u = .ref 3 := gu.xE
    exact (sp_go L (Nat.lt_of_le_of_lt hb (Nat.lt_of_le_of_lt hB (by decide))) fun g' σ' A => q w _ σ' List.prefix_rfl ⟨g', A.ls, Nat.le_trans A.b (Nat.add_le_add_right hb 4)⟩ .b).up (Nat.le_add_right _ _)) (hit (rCall (by kernel_rfl) fun {w vs σ Q} i g' q => GL.e1 g' fun u gu => by
    obtain ⟨ew, g, L, hb⟩ : w.2 = [] ∧ Dd most B σ := i
    obtain rfl : u = .ref 3 := gu.xE
    exact (sp_lback L (Nat.le_trans hb (Nat.le_trans hB (by decide))) fun g' σ' L' eb _ => q w _ σ' List.prefix_rfl ⟨ew, g', L', eb ▸ hb⟩ .b).up (Nat.le_add_right_of_le (by decide))) (hit (rCall (by kernel_rfl) fun {w vs σ Q} i g' q => GL.e2 g' fun u v gu gv => by
    obtain ⟨ew, g, L, hb⟩ : w.2 = [] ∧ Dd most B σ := i
    obtain rfl : u = .ref 3 := gu.xE
    obtain ⟨c, rfl, _⟩ := gv.inv
    exact (sp_turn L fun v g' σ' L' eb => q w v σ' List.prefix_rfl ⟨ew, g', L', eb ▸ hb⟩ (.xx trivial)).up (Nat.le_add_right_of_le (by decide))) (hit (rOn fun {w vs σ Q} i g' q => GL.e1 g' fun u gu => by
    obtain ⟨ew, g, L, hb⟩ : w.2 = [] ∧ Dd most B σ := i
    refine GV.iE gu fun x ix => ?_
    obtain ⟨x0, x1⟩ := ix _ rfl
    exact ⟨(by decide : 1 ≤ sz), q ((), [.ref σ.length]) _ _ (ew ▸ List.nil_prefix) ⟨⟨_, x, rfl, get_new, x0, Int.lt_of_le_of_lt x1 (by decide)⟩, g, L.app _, hb⟩ (.xx rfl)⟩) (hit (rOn fun {w vs σ Q} i g' q => GL.e1 g' fun u gu => by
    obtain ⟨⟨j, x, ew, ej, x0, x1⟩, D⟩ : (∃ i x, w.2 = [.ref i] ∧ σ[i]? = some (.list [.int x]) ∧ 0 ≤ x ∧ x < 256) ∧ Dd most B σ := i
    have eu : w.2[0]? = some u := gu.xE
    rw [ew] at eu
    obtain rfl := Option.some.inj eu
    exact blt_of (V := .type "bytes") (by unfold blts; rfl) (f_bytes_one ej x0 x1 (q w _ _ List.prefix_rfl D (.by rfl)))) (hit (rOns fun {w vs σ Q} i g' q => GL.e2 g' fun u v gu gv => by
    refine GV.byE gu fun b hb => GV.iE gv fun x ix => ?_
    obtain ⟨c, rfl⟩ := List.length_eq_one_iff.mp hb
    obtain ⟨x0, x1⟩ := ix _ rfl
    obtain ⟨k, rfl⟩ := Int.eq_ofNat_of_zero_le (Int.le_trans (by decide) x0)
    refine b_bytes (Int.natCast_nonneg _) (Int.le_trans x1 (by decide)) (q (_, _) (List.mem_map.mpr ⟨k, ?_, rfl⟩) w _ _ List.prefix_rfl i (.by (List.length_replicate ..)))
    exact (by decide : ∀ k, k ≤ 4 → 1 ≤ k → k ∈ [1, 2, 3, 4]) k (Int.ofNat_le.mp x1) (Int.ofNat_le.mp x0)) (hit (rCall (by kernel_rfl) fun {w vs σ Q} i g' q => GL.e3 g' fun u x y gu gx gy => by
    obtain ⟨_, g, L, hb⟩ : w.2 = [] ∧ Dd most B σ := i
    obtain rfl : u = .ref 5 := gu.xE
    exact GV.iE gx fun x ix => GV.iE gy fun y _ => (sp_put L.rp (Nat.lt_of_le_of_lt hb (Nat.lt_of_le_of_lt hB (by decide))) (ix _ rfl).1 (Int.lt_of_le_of_lt (ix _ rfl).2 (by decide)) fun v h' σ' R M => q w v σ' List.prefix_rfl (Dd.moved L hb R M) (.xx trivial)).up (Nat.le_add_right_of_le (by decide))) hit0))))))))),
  List.forall_mem_map.mpr fun k hk => rowsW_q hB hk⟩
theorem sp_deed (hB : B ≤ 80) (D : Dd most B σ) (q : ∀ σ', Dd most (B + 4) σ' → Q (.bool true) σ') : CalS 15 "" "_law_deed" [.ref 3, .ref 2] σ Q T :=
  runL_ok (R := worQ most B) (j := 13) (t := tabQ) (fun n T => ⟨rows_ok (rowsQ_ok hB), ownL_ok (hit (fun {mo w v σ} hm i g' => by
    obtain ⟨_, g, L, hb⟩ : w.2 = [] ∧ Dd most B σ := only (P := fun m => InQ most B m w σ) hm i
    exact ⟨5, _, g'.xE, L.rp.hs.get 4 rfl, by kernel_rfl⟩) hit0), fun h => noO h, fun h => no h⟩) look_q (w := ((), [])) ⟨rfl, D⟩ (.cons (.xx rfl) (.cons (.xx rfl) .nil)) fun av m w v σ' hk _ i g' => by
    rw [Bool.and_eq_true, decide_eq_true_eq] at hk
    rw [(AV.le_ok hk.1 g').bitE]
    match m, hk.2, i with
    | 0, _, i => exact q σ' (i.2.mono (Nat.le_add_right _ _))
    | 1, _, i => exact q σ' i
end
end Mine
end
section
set_option genCtorIdx false
namespace Mine

/-! the Record's small parts -/
theorem len_at : FT "Record" "length" = metAt 1 1 := by kernel_rfl
theorem ison_at : FT "Record" "is_on" = metAt 1 2 := by kernel_rfl
theorem on_at : FT "Record" "on" = metAt 1 3 := by kernel_rfl
theorem rinit_at : FT "Record" "__init__" = metAt 1 0 := by kernel_rfl
noncomputable abbrev sc1 : Sc := ⟨["self"], by decide +kernel, by decide +kernel⟩
section
variable {F : Fx} {h : Mh} {σ : St} {n k most : Nat} {ρ : Loc} {T : St → Prop} {Q : MV → St → Prop} {L : List (Nat × MO)} {g : Lg}
theorem sp_len (R : Rp F h σ) (q : Q (.int h.sl.length) σ) : CalS (n + 1) "Record" "length" [.ref 13] σ Q T := by
  refine hand (d := ⟨["self"], _, _⟩) (ws := [.v (.ref 13), .gl]) len_at rfl ⟨["self", "len"], by decide +kernel, by decide +kernel⟩ rfl rfl (by kernel_rfl) ?_
  with_reducible refine x_cons ?_
  with_reducible refine x_ret ?_
  refine e_blt (V := .builtin "len") rfl (.tl .hd) (by unfold blts; simp) (.inl ⟨_, rfl⟩) ?_
  with_reducible refine l_cons rfl ?_
  with_reducible refine e_attr rfl ?_
  with_reducible refine e_name .hd ?_
  refine at_field (R.hs.get 9 rfl) rfl rfl ?_
  with_reducible refine l_nil ?_
  have hz : (h.sl.reverse.map fun p => MV.ref p.1).length = h.sl.length := by rw [List.length_map, List.length_reverse]
  exact f_len_list (R.hs.get 10 rfl) (hz ▸ Nat.le_trans R.len (Nat.le_trans R.most (by decide))) (hz.symm ▸ q)
theorem sp_ison (R : Rp F h σ) (q : Q (.bool F.on) σ) : CalS (n + 1) "Record" "is_on" [.ref 13] σ Q T := by
  refine hand (d := ⟨["self"], _, _⟩) (ws := [.v (.ref 13)]) ison_at rfl sc1 rfl rfl (by kernel_rfl) ?_
  with_reducible refine x_cons ?_
  with_reducible refine x_ret ?_
  with_reducible refine e_cmp rfl ?_
  with_reducible refine e_attr rfl ?_
  with_reducible refine e_attr rfl ?_
  with_reducible refine e_name .hd ?_
  refine at_field (R.hs.get 9 rfl) rfl rfl ?_
  refine at_field (R.hs.get 4 rfl) rfl rfl ?_
  with_reducible refine e_name .hd ?_
  refine .mk (r := F.on) ?_ q
  show CmpS .Is (lgOf F.on) (.ref 13) σ F.on
  cases F.on with
  | true => exact c_isRR
  | false => exact c_isNR
theorem sp_on (R : Rp F h σ) (q : ∀ σ', Rp { F with on := true } h σ' → Q .none σ') : CalS (n + 1) "Record" "on" [.ref 13] σ Q T := by
  refine hand (d := ⟨["self"], _, _⟩) (ws := [.v (.ref 13)]) on_at rfl sc1 rfl rfl (by kernel_rfl) ?_
  with_reducible refine x_cons ?_
  with_reducible refine x_assign rfl ⟨fun _ _ => rfl, fun _ => rfl⟩ ?_
  with_reducible refine e_name .hd ?_
  with_reducible refine a_attr ?_
  with_reducible refine e_attr rfl ?_
  with_reducible refine e_name .hd ?_
  refine at_field (R.hs.get 9 rfl) rfl rfl ?_
  refine setlog (R.hs.get 4 rfl) ?_
  exact x_nil (q _ { R with hs := R.hs.set 4 rfl _, off := fun e => nomatch e })
theorem sp_rinit (H : Hs L σ) (h13 : σ.length = 13) (q : ∀ σ', Hs ((14, .list []) :: (13, .inst "Record" (rfields k 14)) :: L) σ' → Q .none σ') : CalS (n + 1) "Record" "__init__" [.ref 13, .ref 5, .int k] (σ ++ [.inst "Record" []]) Q T := by
  refine hand (d := ⟨["self", "machine", "most"], _, _⟩) (ws := [.v (.ref 13), .v (.ref 5), .v (.int k)]) rinit_at rfl ⟨["self", "machine", "most"], by decide +kernel, by decide +kernel⟩ rfl rfl (by kernel_rfl) ?_
  with_reducible refine x_ini .hd rfl ⟨fun _ _ => rfl, fun _ => rfl⟩ ?_
  with_reducible refine e_name (.tl .hd) ?_
  refine .mk 0 (new_at H h13) rfl (by decide) fun σ H hl => ?_
  have h14 := hl.trans (len_app h13)
  with_reducible refine x_ini .hd rfl ⟨fun _ _ => rfl, fun _ => rfl⟩ ?_
  with_reducible refine e_name (.tl (.tl .hd)) ?_
  refine .mk 0 H rfl (by decide : 1 < sz) fun σ H hl => ?_
  have h14 := hl.trans h14
  with_reducible refine x_ini .hd rfl ⟨fun _ _ => rfl, fun _ => rfl⟩ ?_
  with_reducible refine e_list ?_
  with_reducible refine l_nil ?_
  refine ⟨Nat.zero_le _, ?_⟩
  rw [h14]
  refine .mk 1 (new_at H h14) rfl (by decide : 2 < sz) fun σ H hl => ?_
  exact x_nil (q σ H)
/-- a look at the desk -/
theorem e_desk {kx : Nat} {c : Bool} {a : Str} {v : MV} {p p' r : Pos} {u : Nat} (hd : ρ.at "desk" (.v (.ref 3))) (e : σ[3]? = some (.sdict (deskL most kx c))) (hv : getK (deskL most kx c) a = some v) (q : Q v σ) : EvS n ρ (.Subscript (.Name "desk" p) (.Constant (.str a) u p') r) σ Q T := e_sub (e_name hd (e_str (desk_item e hv q)))
theorem e_lback {p p' r : Pos} (hd : ρ.at "desk" (.v (.ref 3))) (hg : ρ.at "_law_back" .gl) (hn : 5 ≤ n) (L : Ls most g σ) (hb : g.h.b ≤ 90) (q : ∀ g' σ', Ls most g' σ' → g'.h.b = g.h.b → g'.h.kp = g.h.kp.tail → Q (.bool true) σ') : EvS n ρ (.Call (.Name "_law_back" p) [.Name "desk" p'] [] r) σ Q T := by
  obtain ⟨d, hd'⟩ := Option.isSome_iff_exists.mp (by kernel_rfl : (FT "" "_law_back").isSome = true)
  refine e_call rfl hg hd' (l_cons rfl (e_name hd (l_nil ?_)))
  exact (sp_lback L hb q).up hn
theorem Ls.kls (L : Ls most g σ) : g.h.kp.length = g.h.sl.length := by rw [← chain_len L.rp.ch, List.length_map]
end
end Mine
end
section
set_option genCtorIdx false
namespace Mine

/-! the law's loops -/
noncomputable abbrev lawNs : List Str := ["script", "well", "most", "desk", "turn", "_law_draw", "_law_begun", "Record", "range", "_law_deed", "len", "_law_back"]
noncomputable abbrev lawSc : Sc := ⟨lawNs, by decide +kernel, by decide +kernel⟩
noncomputable abbrev lawWs (v0 v1 v2 v3 v4 : Nm) : List Nm := [v0, v1, v2, v3, v4, .gl, .gl, .gl, .gl, .gl, .gl, .gl]
section
variable {F : Fx} {h : Mh} {σ : St} {n k most B : Nat} {ρ : Loc} {T : St → Prop} {Q : MV → St → Prop} {K : Fl × Loc → St → Prop} {L : List (Nat × MO)} {g : Lg} {v0 v1 v2 v3 v4 : Nm}
theorem while_s {t : Expr} {b : List Stmt} {u : Nat} (h : TstS n ρ t σ (fun c σ => Br c (ExLS n ρ b σ (contK (WhileS n t b K u) K) fun _ => False) (K (.next, ρ) σ)) fun _ => False) : WhileS n t b K (u + 1) ρ σ := h
theorem range_loop {step : Loc → MV → St → (Fl × Loc → St → Prop) → Prop} {z : Int} (I : Nat → Loc → St → Prop) (hs : ∀ {j ρ σ K'}, I j ρ σ → (j : Int) < z → (∀ ρ' σ', I (j + 1) ρ' σ' → K' (.next, ρ') σ') → step ρ (.int j) σ K') (q : ∀ {j ρ σ}, I j ρ σ → (j : Int) ≤ z → K (.next, ρ) σ) :
    ∀ {u j : Nat} {ρ : Loc} {σ : St}, I j ρ σ → (j : Int) ≤ z → z - j < u → LoopS step (nxRange z) K u j ρ σ := fun {u} => by
  induction u with
  | zero => intro j ρ σ _ h1 h2; omega
  | succ u ih =>
    intro j ρ σ h h1 h2
    by_cases c : (j : Int) < z
    · exact loop_go (by unfold nxRange; rw [if_pos c]) (hs h c fun ρ' σ' h' => ih h' c (by omega))
    · exact loop_end (by unfold nxRange; rw [if_neg c]) (q h h1)
/-- a test of such a def -/
theorem ts_of {R : Wor} {t : Tab} {S : Sc} {e : Expr} (he : (toT 20 e).out.e = e) (ok : TabOk n R T t) {as : List AN} {m : Nat} {k : KB} (h : (den t S.ns (fun _ => none3) (toT 20 e)).ts as m k = true)
    {w : R.W} {ws : List Nm} (i : R.I m w σ) (g : GE (R.X w) as ws) {B : Bool → St → Prop} (q : AfterB R w k B) : TstS n ⟨S, ws⟩ e σ B T := by
  have := (den_ok ok (fun _ => .none) (toT 20 e)).ts h i g q
  rw [he] at this
  exact this
/-- the way back to the beginning -/
theorem back_all {p1 p2 p3 p4 p5 p6 p7 p8 p9 p10 p11 p12 : Pos} {u1 u2 : Nat} (hn : 5 ≤ n) (hd : ρ.at "desk" (.v (.ref 3))) (hg : ρ.at "_law_back" .gl) (q : ∀ g σ, Ls most g σ → g.h.b ≤ 90 → K (.next, ρ) σ) : ∀ {u : Nat} {g : Lg} {σ : St}, Ls most g σ → g.h.b ≤ 90 → g.h.kp.length < u →
    WhileS n (.Compare (.Subscript (.Name "desk" p1) (.Constant (.str "kept") u1 p2) p3) [.NotEq] [.List [] p4] p5) [.If (.UnaryOp .Not (.Call (.Name "_law_back" p6) [.Name "desk" p7] [] p8) p9) [.Return (some (.Constant (.bool false) u2 p10)) p11] [] p12] K u ρ σ := fun {u} => by
  induction u with
  | zero => intro g σ _ _ h; exact absurd h (Nat.not_lt_zero _)
  | succ u ih =>
    intro g σ L hb hu
    refine while_s ?_
    with_reducible refine t_cmp rfl ?_
    refine e_desk hd (L.rp.hs.get 2 rfl) rfl ?_
    with_reducible refine e_list ?_
    with_reducible refine l_nil ?_
    refine ⟨Nat.zero_le _, ?_⟩
    have L' := L.app (.list [])
    have c := c_neL (L'.rp.hs.get 3 (i := g.kx) (o := keptO g.h.kp) rfl) get_new
    rw [List.isEmpty_map, List.isEmpty_reverse] at c
    refine .mk c ?_
    cases e : g.h.kp.isEmpty with
    | true => exact ⟨fun e => no e, fun _ => q g _ L' hb⟩
    | false =>
      obtain ⟨x, xs, ek⟩ := ne_cons e
      refine ⟨fun _ => ?_, fun e => no e.symm⟩
      with_reducible refine x_cons ?_
      with_reducible refine x_if ?_
      with_reducible refine t_not ?_
      with_reducible refine t_call ?_
      refine e_lback hd hg hn L' hb fun g' σ' L2 eb ek' => .bool ⟨fun e => no e, fun _ => ?_⟩
      refine x_nil (x_nil (ih L2 (eb ▸ hb) ?_))
      rw [ek', ek]
      rw [ek] at hu
      exact Nat.lt_of_succ_lt_succ hu
/-- the test behind a deed -/
noncomputable def valsV (g : Lg) : List MV := [.int g.h.sl.length, .ref g.kx, .int g.h.sl.length, .bool g.on, .bool g.on]
noncomputable abbrev InV (most B m : Nat) (w : Unit × List MV) (σ : St) : Prop := m < 6 ∧ ∃ g, Ls most g σ ∧ g.h.b ≤ B ∧ w.2 = (valsV g).take m
noncomputable abbrev worV (most B : Nat) : Wor := worG Unit [(· = .ref 3), (· = .ref 13)] (InV most B)
noncomputable def rowsV : List Row := [⟨.item, pat [xx 0, .s (.str "book")] (keep allM (xx 1))⟩, ⟨.attr "length", pat [xx 1] (on 0 [(xx 20, 1)])⟩, ⟨.item, pat [xx 0, .s (.str "kept")] (on 1 [(xx 21, 2)])⟩, ⟨.blt "len", pat [xx 21] (on 2 [(xx 22, 3)])⟩, ⟨.cmp .NotEq, pat [xx 20, xx 22] (keep [3] (bit false))⟩,
  ⟨.attr "is_on", pat [xx 1] (on 3 [(xx 23, 4)])⟩, ⟨.item, pat [xx 0, .s (.str "on")] (on 4 [(xx 24, 5)])⟩, ⟨.cmp .NotEq, pat [xx 23, xx 24] (keep [5] (bit false))⟩]
noncomputable def tabV : Tab := tabR rowsV (fun _ _ _ => none) (fun _ _ _ => none) fun _ => false
theorem law_at : FT "" "law" = fnAt 56 := by kernel_rfl
theorem val_next {j : Nat} {v : MV} {w : Unit × List MV} (ew : w.2 = (valsV g).take j) (hv : (valsV g)[j]? = some v) : w.2 <+: (valsV g).take (j + 1) ∧ ((valsV g).take (j + 1))[j]? = some v := by
  rw [ew, List.take_succ, hv]
  refine ⟨List.prefix_append .., ?_⟩
  have hl : ((valsV g).take j).length = j := by rw [List.length_take]; exact Nat.min_eq_left (Nat.le_of_lt (List.getElem?_eq_some_iff.mp hv).1)
  have := List.getElem?_concat_length (l := (valsV g).take j) (a := v)
  rw [hl] at this
  exact this
theorem AttrS.up {n n' : Nat} {v : MV} {a : Str} (h : AttrS n v a σ Q T) (l : n ≤ n') : AttrS n' v a σ Q T := fun k w V ex F i r => h k w V ex (F.le l) i r
theorem rowsV_ok : ∀ e ∈ rowsV, Row.Ok (2 + n) (worV most B) T e := by
  have go : ∀ {j : Nat} {v : MV} {w : Unit × List MV} {σ : St} {Q : MV → St → Prop} {g : Lg}, Ls most g σ → g.h.b ≤ B → w.2 = (valsV g).take j → (valsV g)[j]? = some v → j < 5 → (∀ w' v σ', (worV most B).le w w' → (worV most B).I (j + 1) w' σ' → GV ((worV most B).X w') (xx (20 + j)) v → Q v σ') → Q v σ := fun {j v w σ Q g} L hb ew hv hj q => by
    obtain ⟨p, e⟩ := val_next ew hv
    exact q ((), (valsV g).take (j + 1)) v σ p ⟨Nat.succ_lt_succ hj, g, L, hb, rfl⟩ (.xx (by
      show List.getD _ (20 + j) (fun v => ((valsV g).take (j + 1))[20 + j - 20]? = some v) v
      rw [Nat.add_sub_cancel_left, List.getD_eq_getElem?_getD, List.getElem?_eq_none (Nat.le_add_right_of_le (by decide))]
      exact e))
  have prop : ∀ {a : Str} {v : MV} {g : Lg} {σ : St} {Q : MV → St → Prop}, Ls most g σ → isProp "Record" a = true → (FT "Record" a).isSome = true → (∀ {T}, Q v σ → CalS 1 "Record" a [.ref 13] σ Q T) → Q v σ → AttrS (2 + n) (.ref 13) a σ Q T := fun {a v g σ Q} L hp hf c q => by
    obtain ⟨d, hd⟩ := Option.isSome_iff_exists.mp hf
    exact (at_prop (n := 1) (L.rp.hs.get 9 rfl) hp hd (c q)).up (Nat.le_add_right _ _)
  exact hit (rItem fun {m w σ Q} _ i u v gu gv q => by
    obtain ⟨_, g, L, hb, ew⟩ := i
    obtain rfl : u = .ref 3 := gu.xE
    rw [gv.strE]
    exact desk_item (L.rp.hs.get 2 rfl) rfl (q _ (.xx rfl))) (hit (rOn fun {w vs σ Q} i g' q => GL.e1 g' fun u gu => by
    obtain ⟨_, g, L, hb, ew⟩ := i
    obtain rfl : u = .ref 13 := gu.xE
    exact prop L (by kernel_rfl) (by kernel_rfl) (fun h => sp_len (n := 0) L.rp h) (go (j := 0) L hb ew rfl (by decide) q)) (hit (rOn fun {w vs σ Q} i g' q => GL.e2 g' fun u v gu gv => by
    obtain ⟨_, g, L, hb, ew⟩ := i
    obtain rfl : u = .ref 3 := gu.xE
    rw [gv.strE]
    exact desk_item (L.rp.hs.get 2 rfl) rfl (go (j := 1) L hb ew rfl (by decide) q)) (hit (rOn fun {w vs σ Q} i g' q => GL.e1 g' fun u gu => by
    obtain ⟨_, g, L, hb, ew⟩ := i
    have eu : w.2[1]? = some u := gu.xE
    rw [ew] at eu
    obtain rfl : u = .ref g.kx := (Option.some.inj (show some (MV.ref g.kx) = some u from eu)).symm
    have hz : (g.h.kp.reverse.map seen).length = g.h.sl.length := by rw [List.length_map, List.length_reverse, L.kls]
    exact blt_of (V := .builtin "len") (by unfold blts; rfl) (f_len_list (L.rp.hs.get 3 rfl) (hz ▸ Nat.le_trans L.rp.len (Nat.le_trans L.rp.most (by decide))) (hz ▸ go (j := 2) L hb ew rfl (by decide) q))) (hit (rCmp fun {m w σ} hm i u v gu gv => by
    obtain rfl := List.mem_singleton.mp hm
    obtain ⟨_, g, L, hb, ew⟩ := i
    have eu : w.2[0]? = some u := gu.xE
    have ev : w.2[2]? = some v := gv.xE
    rw [ew] at eu ev
    obtain rfl : u = .int g.h.sl.length := (Option.some.inj (show some (MV.int g.h.sl.length) = some u from eu)).symm
    obtain rfl : v = .int g.h.sl.length := (Option.some.inj (show some (MV.int g.h.sl.length) = some v from ev)).symm
    have := c_neI (x := (g.h.sl.length : Int)) (y := g.h.sl.length) (σ := σ)
    rw [beq_self_eq_true] at this
    exact this) (hit (rOn fun {w vs σ Q} i g' q => GL.e1 g' fun u gu => by
    obtain ⟨_, g, L, hb, ew⟩ := i
    obtain rfl : u = .ref 13 := gu.xE
    exact prop L (by kernel_rfl) (by kernel_rfl) (fun h => sp_ison (n := 0) L.rp h) (go (j := 3) L hb ew rfl (by decide) q)) (hit (rOn fun {w vs σ Q} i g' q => GL.e2 g' fun u v gu gv => by
    obtain ⟨_, g, L, hb, ew⟩ := i
    obtain rfl : u = .ref 3 := gu.xE
    rw [gv.strE]
    exact desk_item (L.rp.hs.get 2 rfl) rfl (go (j := 4) L hb ew rfl (by decide) q)) (hit (rCmp fun {m w σ} hm i u v gu gv => by
    obtain rfl := List.mem_singleton.mp hm
    obtain ⟨_, g, L, hb, ew⟩ := i
    have eu : w.2[3]? = some u := gu.xE
    have ev : w.2[4]? = some v := gv.xE
    rw [ew] at eu ev
    obtain rfl : u = .bool g.on := (Option.some.inj (show some (MV.bool g.on) = some u from eu)).symm
    obtain rfl : v = .bool g.on := (Option.some.inj (show some (MV.bool g.on) = some v from ev)).symm
    have := c_neB (a := g.on) (b := g.on) (σ := σ)
    rw [beq_self_eq_true] at this
    exact this) hit0)))))))
end
end Mine
end
section
set_option genCtorIdx false
namespace Mine

/-! the law -/
noncomputable def deskI (most : Nat) (m b : MV) : List (Str × MV) := [("most", .int most), ("kept", .ref 4), ("on", .bool true), ("machine", m), ("book", b)]
noncomputable abbrev cellSc : Sc := ⟨[".0", "cell", "int"], by decide +kernel, by decide +kernel⟩
section
variable {σ : St} {n most : Nat} {T : St → Prop} {Q : MV → St → Prop} {K : Fl × Loc → St → Prop}
theorem comp_cells {src : List Int} {p1 p2 p3 p4 p5 : Pos} {u1 : Nat} {Q' : St → Prop} (hl : src.length ≤ 60) (q : ∀ acc : List Int, acc.length ≤ 60 → (∀ x ∈ acc, 0 ≤ x ∧ x ≤ 2147483646) → Q' [.list (src.map .int), .list (acc.map .int)]) : ∀ {u j : Nat} {acc : List Int}, acc.length = j → j ≤ src.length → src.length - j < u → (∀ x ∈ acc, 0 ≤ x ∧ x ≤ 2147483646) →
    CompS n ⟨cellSc, [.lo, .lo, .gl]⟩ "cell" (.BinOp (.Call (.Name "int" p1) [.Name "cell" p2] [] p3) .Mod (.Constant (.int 2147483647) u1 p4) p5) (nxList 0) (.ref 1) Q' u j [.list (src.map .int), .list (acc.map .int)] := fun {u} => by
  induction u with
  | zero => intro j acc _ _ h _; exact absurd h (Nat.not_lt_zero _)
  | succ u ih =>
    intro j acc ha h1 h2 hv
    unfold CompS
    have e : nxList 0 j [.list (src.map .int), .list (acc.map .int)] = some ((src.map MV.int)[j]?) := nx_at rfl rfl
    rw [e]
    by_cases c : j < src.length
    · have e : (src.map MV.int)[j]? = some (.int src[j]) := by rw [List.getElem?_map, List.getElem?_eq_getElem c]; rfl
      rw [e]
      refine ⟨_, .tl (.hd rfl), ?_⟩
      with_reducible refine e_bin ?_
      refine e_blt (V := .type "int") rfl (.tl (.tl .hd)) (mem_of_lookup (by unfold blts; rfl)) (.inr ⟨_, rfl⟩) ?_
      with_reducible refine l_cons rfl ?_
      with_reducible refine e_name (.tl .hd) ?_
      with_reducible refine l_nil ?_
      refine f_int ?_
      with_reducible refine e_int ?_
      refine b_mod (by decide) (f_listApp rfl (by rw [List.length_map, ha]; exact Nat.le_trans (Nat.le_of_lt c) (Nat.le_trans hl (by decide))) ?_)
      have := ih (acc := acc ++ [src[j].fmod 2147483647]) (by rw [List.length_append, ha]; rfl) c (by omega) fun x hx => (List.mem_append.mp hx).elim (hv x) fun e => by
        rw [List.mem_singleton.mp e, Int.fmod_eq_emod_of_nonneg _ (by decide)]
        exact ⟨Int.emod_nonneg _ (by decide), Int.le_of_lt_add_one (Int.emod_lt_of_pos _ (by decide))⟩
      rw [List.map_append] at this
      exact this
    · rw [List.getElem?_eq_none (by rw [List.length_map]; exact Nat.not_lt.mp c)]
      exact q acc (by rw [ha]; exact Nat.le_trans h1 hl) hv
theorem sp_law {xs : List Int} (hx : xs.length ≤ 63) (q : ∀ σ', Q (.bool true) σ') : CalS 17 "" "law" [.ro (xs.map .int)] [] Q T := by
  refine hand (d := ⟨["script"], _, _⟩) (ws := lawWs (.v (.ro (xs.map .int))) .lo .lo .lo .lo) law_at rfl lawSc rfl rfl (by kernel_rfl) ?_
  have glo : ∀ {b1 b2 b3 b4 b5 : Nm} {x : Str} {u : Nm}, AtL (lawNs.drop 5) [.gl, .gl, .gl, .gl, .gl, .gl, .gl] x u → AtL lawNs (lawWs b1 b2 b3 b4 b5) x u := fun h => .tl (.tl (.tl (.tl (.tl h))))
  with_reducible refine x_cons ?_
  generalize hK : seqK _ _ _ _ = K1
  with_reducible refine x_assign rfl ⟨fun _ _ => rfl, fun _ => rfl⟩ ?_
  with_reducible refine e_list ?_
  with_reducible refine l_cons rfl ?_
  refine e_comp (ρc := ⟨cellSc, [.lo, .lo, .gl]⟩) (u := 100) (fun _ _ => rfl) ⟨rfl, rfl, by decide, by decide, fun y hy e => ?_, fun y u h => ?_⟩ ?_
  · rcases List.mem_cons.mp hy with rfl | hy
    · cases e
    rcases List.mem_cons.mp hy with rfl | hy
    · cases e
    obtain rfl := List.mem_singleton.mp hy
    cases e
  · cases h with
    | hd => exact .lo rfl
    | tl h => cases h with
      | hd => exact .lo rfl
      | tl h => cases h with
        | hd => exact .gl rfl
        | tl h => cases h
  with_reducible refine e_slice ?_
  with_reducible refine e_name .hd ?_
  with_reducible refine o_none ?_
  with_reducible refine o_some ?_
  with_reducible refine e_int ?_
  with_reducible refine o_none ?_
  refine s_ro (by rw [List.length_map]; exact Nat.le_trans hx (by decide)) ⟨_, _, rfl, rfl, ?_⟩
  rw [List.length_map, ← List.map_take]
  show CompS _ _ _ _ _ (.ref 1) _ _ _ [.list _, .list (([] : List Int).map .int)]
  have h60 : (xs.take (cutAt 60 xs.length)).length ≤ 60 := Nat.le_trans (Nat.le_of_eq (List.length_take ..)) (Nat.min_le_left ..)
  generalize xs.take (cutAt 60 xs.length) = src at h60 ⊢
  refine comp_cells (acc := []) h60 (fun acc hl hv => ?_) rfl (Nat.zero_le _) (Nat.lt_of_le_of_lt (Nat.sub_le ..) (Nat.lt_of_le_of_lt h60 (by decide))) hit0
  with_reducible refine l_cons rfl ?_
  with_reducible refine e_int ?_
  with_reducible refine l_cons rfl ?_
  with_reducible refine e_int ?_
  with_reducible refine l_nil ?_
  refine ⟨(by decide : 3 ≤ sz), ?_⟩
  refine a_name (ws := lawWs (.v (.ro (xs.map .int))) (.v (.ref 2)) .lo .lo .lo) (.tl (.hd rfl)) ?_
  subst hK
  show ExLS _ ⟨lawSc, lawWs (.v (.ro (xs.map .int))) (.v (.ref 2)) .lo .lo .lo⟩ _ ([MO.list (src.map .int), .list (acc.map .int)] ++ [.list [.ref 1, .int 0, .int 877]]) _ _
  have H : Wl [] 3 ⟨acc, 0, 877⟩ ([.list (src.map .int), .list (acc.map .int)] ++ [.list [.ref 1, .int 0, .int 877]]) := ⟨⟨hl, hv, (by decide : (0 : Int) ≤ 877), (by decide : (877 : Int) ≤ 2147483646)⟩, ⟨(by decide : ([2, 1] : List Nat).Nodup), hit rfl (hit rfl hit0)⟩, rfl⟩
  generalize [MO.list (src.map .int), .list (acc.map .int)] ++ [MO.list [.ref 1, .int 0, .int 877]] = σ at H ⊢
  with_reducible refine x_cons ?_
  generalize hK : seqK _ _ _ _ = K1
  with_reducible refine x_assign rfl ⟨fun _ _ => rfl, fun _ => rfl⟩ ?_
  obtain ⟨d, hd⟩ := Option.isSome_iff_exists.mp (by kernel_rfl : (FT "" "_law_draw").isSome = true)
  refine e_call rfl (glo .hd) hd ?_
  with_reducible refine l_cons rfl ?_
  with_reducible refine e_name (.tl .hd) ?_
  with_reducible refine l_cons rfl ?_
  with_reducible refine e_int ?_
  with_reducible refine l_nil ?_
  refine (sp_draw (s := 7) H (by decide) fun z w σ H z0 z1 => ?_).up (by decide : 1 ≤ 16)
  obtain ⟨most, rfl⟩ := Int.eq_ofNat_of_zero_le z0
  have hm : most ≤ 6 := Int.le_of_lt_add_one (a := (most : Int)) (b := 6) z1 |> Int.ofNat_le.mp
  refine a_name (ws := lawWs (.v (.ro (xs.map .int))) (.v (.ref 2)) (.v (.int most)) .lo .lo) (.tl (.tl (.hd rfl))) ?_
  subst hK
  show ExLS _ ⟨lawSc, lawWs (.v (.ro (xs.map .int))) (.v (.ref 2)) (.v (.int most)) .lo .lo⟩ _ _ _ _
  with_reducible refine x_cons ?_
  generalize hK : seqK _ _ _ _ = K1
  with_reducible refine x_assign rfl ⟨fun _ _ => rfl, fun _ => rfl⟩ ?_
  with_reducible refine e_dict ?_ ?_ ?_ ?_ ?_
  · rfl
  · rfl
  · exact fun h => nomatch h
  · exact Nat.le_of_ble_eq_true rfl
  rw [H.len]
  with_reducible refine p_cons ?_
  with_reducible refine e_name (.tl (.tl .hd)) ?_
  with_reducible refine p_cons ?_
  with_reducible refine e_list ?_
  with_reducible refine l_nil ?_
  refine ⟨Nat.zero_le _, ?_⟩
  with_reducible refine p_cons ?_
  with_reducible refine e_cb ?_
  with_reducible refine p_cons ?_
  with_reducible refine e_none ?_
  with_reducible refine p_cons ?_
  with_reducible refine e_none ?_
  with_reducible refine p_nil ?_
  have H3 := new_at (o := .sdict []) H.hs H.len
  rw [len_app H.len]
  have H4 : Hs ((4, .list []) :: (3, .sdict []) :: wl w []) _ := new_at (o := .list []) H3 (len_app H.len)
  refine ⟨H4.get 1 rfl, (by decide +kernel : (["most", "kept", "on", "machine", "book"] : List Str).Nodup), (by decide : 5 ≤ 15), ?_⟩
  refine a_name (ws := lawWs (.v (.ro (xs.map .int))) (.v (.ref 2)) (.v (.int most)) (.v (.ref 3)) .lo) (.tl (.tl (.tl (.hd rfl)))) ?_
  subst hK
  show ExLS _ ⟨lawSc, lawWs (.v (.ro (xs.map .int))) (.v (.ref 2)) (.v (.int most)) (.v (.ref 3)) .lo⟩ _ _ _ _
  have H5 : Hs ((4, .list []) :: (3, .sdict (deskI most .none .none)) :: wl w []) _ := H4.set 1 rfl _
  have H6 : Wl [(3, .sdict (deskI most .none .none)), (4, .list [])] 5 w _ := ⟨H.ok, H5.perm ((List.perm_append_comm (l₁ := [_, _]) (l₂ := wl w [])).trans ((List.Perm.swap _ _ []).append_left (wl w []))), (List.length_set ..).trans (len_app (len_app H.len))⟩
  with_reducible refine x_cons ?_
  generalize hK : seqK _ _ _ _ = K1
  with_reducible refine x_assign rfl ⟨fun _ _ => rfl, fun _ => rfl⟩ ?_
  obtain ⟨d, hd⟩ := Option.isSome_iff_exists.mp (by kernel_rfl : (FT "" "_law_begun").isSome = true)
  refine e_call rfl (glo (.tl .hd)) hd ?_
  with_reducible refine l_cons rfl ?_
  with_reducible refine e_name (.tl .hd) ?_
  with_reducible refine l_nil ?_
  refine (sp_begun H6 fun m w σ ok hdn H => ?_).up (by decide : 5 ≤ 16)
  with_reducible refine a_sub ?_
  with_reducible refine e_name (.tl (.tl (.tl .hd))) ?_
  with_reducible refine e_str ?_
  refine si_sdict (H.hs.get 2 rfl) (by decide : 5 ≤ sz) ?_
  have H7 : Hs (wl w (layB (.sdict (deskI most (.ref 5) .none)) (.list []) m)) (σ.set 3 (.sdict (putK (deskI most .none .none) "machine" (.ref 5)))) := H.hs.set 2 rfl _
  have hl : (σ.set 3 (.sdict (putK (deskI most .none .none) "machine" (.ref 5)))).length = 13 := (List.length_set ..).trans H.len
  generalize σ.set 3 (.sdict (putK (deskI most .none .none) "machine" (.ref 5))) = σ at H7 hl ⊢
  subst hK
  show ExLS _ ⟨lawSc, lawWs (.v (.ro (xs.map .int))) (.v (.ref 2)) (.v (.int most)) (.v (.ref 3)) .lo⟩ _ _ _ _
  with_reducible refine x_cons ?_
  generalize hK : seqK _ _ _ _ = K1
  with_reducible refine x_assign rfl ⟨fun _ _ => rfl, fun _ => rfl⟩ ?_
  refine e_new (d := ⟨["self", "machine", "most"], _, _⟩) rfl (glo (.tl (.tl .hd))) (by kernel_rfl) (rinit_at.trans rfl) (by kernel_rfl) ?_
  with_reducible refine l_cons rfl ?_
  with_reducible refine e_sub ?_
  with_reducible refine e_name (.tl (.tl (.tl .hd))) ?_
  with_reducible refine e_str ?_
  refine i_sdict (H7.get 2 rfl) (v := .ref 5) rfl ?_
  with_reducible refine l_cons rfl ?_
  with_reducible refine e_name (.tl (.tl .hd)) ?_
  with_reducible refine l_nil ?_
  rw [hl]
  refine (sp_rinit (n := 0) H7 hl fun σ H8 => ⟨rfl, ?_⟩).up (by decide)
  with_reducible refine a_sub ?_
  with_reducible refine e_name (.tl (.tl (.tl .hd))) ?_
  with_reducible refine e_str ?_
  refine si_sdict (H8.get 4 rfl) (by decide : 5 ≤ sz) ?_
  have H9 : Hs ((14, .list []) :: (13, .inst "Record" (rfields most 14)) :: wl w (layB (.sdict (deskL most 4 true)) (.list []) m)) _ := H8.set 4 rfl (.sdict (deskL most 4 true))
  have R : Rp { Lg.F most ⟨w, 4, 14, true, ⟨m, [], [], [], 0⟩⟩ with on := false } ⟨m, [], [], [], 0⟩ (σ.set 3 (.sdict (putK (deskI most (.ref 5) .none) "book" (.ref 13)))) := ⟨H9.perm ((List.perm_append_comm (l₁ := [(14, MO.list []), (13, MO.inst "Record" (rfields most 14))]) (l₂ := wl w (layB (.sdict (deskL most 4 true)) (.list []) m))).trans ((List.Perm.swap (13, MO.inst "Record" (rfields most 14)) (14, .list []) []).append_left (wl w (layB (.sdict (deskL most 4 true)) (.list []) m)))), ok, Nat.le_refl _, hit0, hit0, Nat.zero_le _, hm, fun _ => rfl, (by decide : 0 ≤ 900), rfl⟩
  subst hK
  show ExLS _ ⟨lawSc, lawWs (.v (.ro (xs.map .int))) (.v (.ref 2)) (.v (.int most)) (.v (.ref 3)) .lo⟩ _ _ _ _
  with_reducible refine x_cons ?_
  generalize hK : seqK _ _ _ _ = K1
  generalize σ.set 3 (.sdict (putK (deskI most (.ref 5) .none) "book" (.ref 13))) = σ at R ⊢
  with_reducible refine x_if ?_
  with_reducible refine t_boolop ?_
  with_reducible refine all_cons ?_
  with_reducible refine t_attr ?_
  with_reducible refine e_attr rfl ?_
  refine e_desk (.tl (.tl (.tl .hd))) (R.hs.get 2 rfl) rfl ?_
  obtain ⟨d1, hd1⟩ := Option.isSome_iff_exists.mp (by kernel_rfl : (FT "Record" "is_on").isSome = true)
  refine at_prop (R.hs.get 9 rfl) (by kernel_rfl) hd1 (sp_ison R (.bool ⟨fun _ => ?_, fun e => no e.symm⟩))
  with_reducible refine all_cons ?_
  with_reducible refine t_cmp rfl ?_
  with_reducible refine e_attr rfl ?_
  refine e_desk (.tl (.tl (.tl .hd))) (R.hs.get 2 rfl) rfl ?_
  obtain ⟨d2, hd2⟩ := Option.isSome_iff_exists.mp (by kernel_rfl : (FT "Record" "length").isSome = true)
  refine at_prop (R.hs.get 9 rfl) (by kernel_rfl) hd2 (sp_len R ?_)
  with_reducible refine e_int ?_
  refine .mk c_neI ⟨fun _ => ?_, fun e => no e.symm⟩
  with_reducible refine all_cons ?_
  with_reducible refine t_call ?_
  with_reducible refine e_meth (by decide) rfl rfl rfl ?_
  refine e_desk (.tl (.tl (.tl .hd))) (R.hs.get 2 rfl) rfl ?_
  obtain ⟨d3, hd3⟩ := Option.isSome_iff_exists.mp (by kernel_rfl : (FT "Record" "back").isSome = true)
  refine .own (R.hs.get 9 rfl) (by kernel_rfl) (by kernel_rfl) hd3 ?_
  with_reducible refine l_nil ?_
  refine (sp_back R (by decide : 0 ≤ 90) fun c h σ R B => ?_).up (by decide : 4 ≤ 16)
  cases B with | yes e _ => cases e | no _ =>
  refine .bool ⟨fun _ => all_nil ⟨fun e => no e, fun _ => x_nil ?_⟩, fun e => no e.symm⟩
  subst hK
  show ExLS _ ⟨lawSc, lawWs (.v (.ro (xs.map .int))) (.v (.ref 2)) (.v (.int most)) (.v (.ref 3)) .lo⟩ _ _ _ _
  with_reducible refine x_cons ?_
  generalize hK : seqK _ _ _ _ = K1
  with_reducible refine x_expr (fun _ _ _ => rfl) ?_
  with_reducible refine e_meth (by decide) rfl rfl rfl ?_
  refine e_desk (.tl (.tl (.tl .hd))) (R.hs.get 2 rfl) rfl ?_
  obtain ⟨d4, hd4⟩ := Option.isSome_iff_exists.mp (by kernel_rfl : (FT "Record" "on").isSome = true)
  refine .own (R.hs.get 9 rfl) (by kernel_rfl) (by kernel_rfl) hd4 ?_
  with_reducible refine l_nil ?_
  refine sp_on R fun σ R => ?_
  have L : Ls most ⟨w, 4, 14, true, ⟨m, [], [], [], 0⟩⟩ σ := ⟨R, H.ok⟩
  subst hK
  show ExLS _ ⟨lawSc, lawWs (.v (.ro (xs.map .int))) (.v (.ref 2)) (.v (.int most)) (.v (.ref 3)) .lo⟩ _ _ _ _
  with_reducible refine x_cons ?_
  generalize hK : seqK _ _ _ _ = K1
  refine x_for_range (u := 100) rfl rfl (glo (.tl (.tl (.tl .hd)))) ?_
  with_reducible refine e_bin ?_
  with_reducible refine e_int ?_
  obtain ⟨d5, hd5⟩ := Option.isSome_iff_exists.mp (by kernel_rfl : (FT "" "_law_draw").isSome = true)
  refine e_call rfl (glo .hd) hd5 ?_
  with_reducible refine l_cons rfl ?_
  with_reducible refine e_name (.tl .hd) ?_
  with_reducible refine l_cons rfl ?_
  with_reducible refine e_int ?_
  with_reducible refine l_nil ?_
  obtain ⟨X, k, u, HX, fX⟩ := L.draw
  refine (sp_draw (s := 10) HX (by decide) fun z w' σ H' z0 z1 => b_add ⟨_, rfl, by omega, by unfold sz; omega, ?_⟩).up (by decide : 1 ≤ 16)
  have L := fX w' σ H'
  have hB : ∀ {j : Nat}, (j : Int) < 6 + z → 4 * j ≤ 80 := fun h => by omega
  refine range_loop (fun j ρ σ => Dd most (4 * j) σ ∧ ∃ wt : Nm, wt.isLo = true ∧ ρ = ⟨lawSc, lawWs (.v (.ro (xs.map .int))) (.v (.ref 2)) (.v (.int most)) (.v (.ref 3)) wt⟩) ?_ ?_ ⟨⟨_, L, Nat.le_refl _⟩, _, rfl, rfl⟩ (by omega) (by omega)
  · rintro j _ σ K' ⟨D, wt, hw, rfl⟩ hj q
    refine a_name (ws := lawWs (.v (.ro (xs.map .int))) (.v (.ref 2)) (.v (.int most)) (.v (.ref 3)) (.v (.int j))) (.tl (.tl (.tl (.tl (.hd hw))))) ?_
    with_reducible refine x_cons ?_
    with_reducible refine x_if ?_
    with_reducible refine t_not ?_
    with_reducible refine t_call ?_
    obtain ⟨d6, hd6⟩ := Option.isSome_iff_exists.mp (by kernel_rfl : (FT "" "_law_deed").isSome = true)
    refine e_call rfl (glo (.tl (.tl (.tl (.tl .hd))))) hd6 ?_
    with_reducible refine l_cons rfl ?_
    with_reducible refine e_name (.tl (.tl (.tl .hd))) ?_
    with_reducible refine l_cons rfl ?_
    with_reducible refine e_name (.tl .hd) ?_
    with_reducible refine l_nil ?_
    refine (sp_deed (hB hj) D fun σ D => .bool ⟨fun e => no e, fun _ => x_nil ?_⟩).up (by decide : 15 ≤ 16)
    show ExLS _ _ _ _ _ _
    with_reducible refine x_cons ?_
    with_reducible refine x_if ?_
    obtain ⟨g, L, hb⟩ := D
    refine ts_of (R := worV most (4 * j + 4)) (t := tabV) (n := 16) (as := [.no, .no, .no, .v (xx 0), .no, .no, .no, .no, .no, .no, .gl, .no]) (m := 0) (k := fun c _ => !c) (by kernel_rfl) ⟨rows_ok (rowsV_ok (n := 14)), fun h => noO h, fun h => noO h, fun h => no h⟩ (by kernel_rfl) (w := ((), [])) ⟨by decide, g, L, hb, rfl⟩ ?_ ?_
    · exact .cons .no (.cons .no (.cons .no (.cons (.v (.xx rfl)) (.cons .no (.cons .no (.cons .no (.cons .no (.cons .no (.cons .no (.cons .gl (.cons .no .nil)))))))))))
    · intro c m w σ hc _ i
      obtain ⟨_, g, L, hb, _⟩ := i
      refine ⟨fun e => by rw [e] at hc; exact no hc, fun _ => x_nil (x_nil (q _ _ ⟨⟨g, L, hb⟩, _, rfl, rfl⟩))⟩
  · rintro j _ σ ⟨⟨g, L, hb⟩, wt, hw, rfl⟩ hj
    have hb : g.h.b ≤ 90 := by omega
    subst hK
    show ExLS _ ⟨lawSc, lawWs (.v (.ro (xs.map .int))) (.v (.ref 2)) (.v (.int most)) (.v (.ref 3)) wt⟩ _ _ _ _
    have hd : Loc.at ⟨lawSc, lawWs (.v (.ro (xs.map .int))) (.v (.ref 2)) (.v (.int most)) (.v (.ref 3)) wt⟩ "desk" (.v (.ref 3)) := .tl (.tl (.tl .hd))
    have hg : Loc.at ⟨lawSc, lawWs (.v (.ro (xs.map .int))) (.v (.ref 2)) (.v (.int most)) (.v (.ref 3)) wt⟩ "_law_back" .gl := glo (.tl (.tl (.tl (.tl (.tl (.tl .hd))))))
    with_reducible refine x_cons ?_
    generalize hK : seqK _ _ _ _ = K1
    refine x_while (u := 7) (back_all (by decide) hd hg (fun g σ L hb => ?_) L hb (Nat.lt_succ_of_le L.kp))
    subst hK
    show ExLS _ ⟨lawSc, lawWs (.v (.ro (xs.map .int))) (.v (.ref 2)) (.v (.int most)) (.v (.ref 3)) wt⟩ _ _ _ _
    with_reducible refine x_cons ?_
    with_reducible refine x_ret ?_
    exact e_lback hd hg (by decide) L hb fun _ σ' _ _ _ => q σ'
end
end Mine
end
section
set_option genCtorIdx false
namespace Mine

/-! the top, from the look -/
theorem vI_ok {V : Value} {i : Int} (h : vI V = some i) : ∃ t, V = .int i t := by
  cases V with
  | int j t => cases h; exact ⟨t, rfl⟩
  | _ => cases h
theorem vS_ok {V : Value} {s : Str} (h : vS V = some s) : ∃ t, V = .str s t := by
  cases V with
  | str j t => cases h; exact ⟨t, rfl⟩
  | _ => cases h
theorem mI_ok {v : MV} {i : Int} (h : mI v = some i) : v = .int i := by
  cases v with
  | int j => cases h; rfl
  | _ => cases h
theorem mS_ok {v : MV} {i : Str} (h : mS v = some i) : v = .str i := by
  cases v with
  | str j => cases h; rfl
  | _ => cases h
theorem mT_ok {v : MV} {i : List MV} (h : mT v = some i) : v = .tup i := by
  cases v with
  | tup j => cases h; rfl
  | _ => cases h
theorem relB_ok {w : Wd} {m : MV} {V : Value} (h : relB m V = true) : VRel w m V := by
  rcases Bool.or_eq_true_iff.mp h with h | h
  · obtain ⟨i, h1, h2⟩ := (Option.any_eq_true _ _).mp h
    obtain ⟨t, rfl⟩ := vI_ok (of_decide_eq_true h2)
    exact mI_ok h1 ▸ .int i t
  · obtain ⟨i, h1, h2⟩ := (Option.any_eq_true _ _).mp h
    obtain ⟨t, rfl⟩ := vS_ok (of_decide_eq_true h2)
    exact mS_ok h1 ▸ .str i t
theorem relBs_ok {w : Wd} {ms : List MV} : ∀ {vs : List Value}, relBs ms vs = true → VRels w ms vs := by
  induction ms with
  | nil => exact fun {vs} h => match vs, h with | [], _ => .nil
  | cons m ms ih => exact fun {vs} h => match vs, h with
    | V :: vs, h => have ⟨h1, h2⟩ := Bool.and_eq_true_iff.mp h; .cons (relB_ok h1) (ih h2)
theorem tupIn_ok {K : Frag} {h : Heap} (X : K.In h) {a : Addr} {vs : List Value} (e : tupIn K a = some vs) : TupAt h a vs := by
  obtain ⟨o, ho, e⟩ := Option.bind_eq_some_iff.mp e
  obtain ⟨oc, od, data, sl⟩ := o
  cases data with
  | seq us n =>
    have e : (if oc = .type "tuple" ∧ od = none then some us.toList else none) = some vs := e
    split at e
    · rename_i c; cases e; exact .mk (X _ _ ho) c.1 c.2 rfl
    · cases e
  | _ => cases e
theorem conB_ok {K : Frag} {w : Wd} (X : K.In w.h) (hn : ∀ a, ¬ Mut w.ι a) {v : MV} {V : Value} (e : conB K v V = true) : VRel w v V := by
  rcases Bool.or_eq_true_iff.mp e with e | e
  · exact relB_ok e
  · obtain ⟨l, h1, e1⟩ := (Option.any_eq_true _ _).mp e
    obtain ⟨a, h2, e2⟩ := (Option.any_eq_true _ _).mp e1
    obtain ⟨vs, h3, e3⟩ := (Option.any_eq_true _ _).mp e2
    cases refOf_ok h2
    exact mT_ok h1 ▸ .tup (tupIn_ok X h3) (hn a) (relBs_ok e3)
theorem lookF_ok {l : List Stmt} {f : Str} {d : FnRec} (h : lookF l f = some d) : ∃ s ∈ l, fnOfStmt s = some (f, d) := by
  obtain ⟨s, hs, e⟩ := List.exists_of_findSome?_eq_some h
  refine ⟨s, hs, ?_⟩
  cases q : fnOfStmt s with
  | none => rw [q] at e; cases e
  | some nd =>
    obtain ⟨n, d'⟩ := nd
    rw [q] at e
    have e : (if f = n then some d' else none) = some d := e
    split at e
    · rename_i c; cases e; cases c; rfl
    · cases e
theorem con_ok {x : Str} {v : MV} (h : GC x = some v) : x ≠ ("__name__" : Str) ∧ ∃ s ∈ top, conOf s = some (x, v) := by
  unfold GC at h
  split at h
  · cases h
  · rename_i hx
    refine ⟨hx, ?_⟩
    obtain ⟨s, hs, e⟩ := List.exists_of_findSome?_eq_some h
    refine ⟨s, hs, ?_⟩
    cases q : conOf s with
    | none => rw [q] at e; cases e
    | some nd =>
      obtain ⟨n, d'⟩ := nd
      rw [q] at e
      have e : (if x = n then some d' else none) = some v := e
      split at e
      · rename_i c; cases e; cases c; rfl
      · cases e
theorem plain_top : (top.all fun s => (fnOfStmt s).all fun nd => plainDef nd.2) = true := by kernel_rfl
theorem plain_met : ((lookC top "Record" ++ lookC top "Machine").all fun s => (fnOfStmt s).all fun nd => plainDef nd.2 && !isField nd.1) = true := by kernel_rfl
theorem no_cls : (FT "" "Record").isNone && (FT "" "Machine").isNone = true := by kernel_rfl
theorem blt_boot : (blts.all fun p => decide (bootBuiltins p.1 = some p.2) && decide (p.1 ≠ ("__name__" : Str))) = true := by kernel_rfl
theorem exc_boot : bootBuiltins "Exception" = some (.type "Exception") := by kernel_rfl
structure TopB (K : Frag) : Prop where
  con : top.all (conS K) = true
  record : clsB K "Record" 82 = true
  machine : clsB K "Machine" 400 = true
  blt : (blts.all fun p => decide (nsIn K mainGlobals p.1 = some none)) = true
  len : propB K 82 "length" = true
  on : propB K 82 "is_on" = true
  law : (K.lookup 479).isSome = true
  exc : excOk K 123 103 = true
  set : findIn K (.ref 123) "__setattr__" = some (some (.builtin "object.__setattr__"))
  tw : takerIn K 123 "word" = some none
  ta : takerIn K 123 "at" = some none
  mgT : nsIn K mainGlobals "Trap" = some (some (.ref 123))
  mgD : nsIn K mainGlobals "DebugFault" = some (some (.ref 103))
  ga : specialIn K (.ref 103) "__getattribute__" = some (some (.builtin "type.__getattribute__"))
  rd : readsIn K 103 (.type "type") = true
  mgE : nsIn K mainGlobals "Exception" = some none
theorem topB_ok {K : Frag} (h : topB K = true) : TopB K :=
  have ⟨h1, h⟩ := allE h
  have ⟨h2, h⟩ := allE h
  have ⟨h3, h⟩ := allE h
  have ⟨h4, h⟩ := allE h
  have ⟨h5, h⟩ := allE h
  have ⟨h6, h⟩ := allE h
  have ⟨h7, h⟩ := allE h
  have ⟨h8, h⟩ := allE h
  have ⟨h9, h⟩ := allE h
  have ⟨h10, h⟩ := allE h
  have ⟨h11, h⟩ := allE h
  have ⟨h12, h⟩ := allE h
  have ⟨h13, h⟩ := allE h
  have ⟨h14, h⟩ := allE h
  have ⟨h15, h⟩ := allE h
  ⟨h1, h2, h3, h4, h5, h6, h7, h8, of_decide_eq_true h9, of_decide_eq_true h10, of_decide_eq_true h11, of_decide_eq_true h12, of_decide_eq_true h13, of_decide_eq_true h14, h15, of_decide_eq_true (allE h).1⟩
theorem field_of {a : Str} (h : isField a = true) : a ∈ fieldNames := List.contains_iff_mem.mp h
theorem cls_ok {g : Gx} {c : Str} {a : Addr} (mgOf : ∀ n v, nsIn g.K mainGlobals n = some (some v) → g.mg n = some v) (no : FT "" c = none) (h : clsB g.K c a = true) : ClsTop g c a :=
  have ⟨h1, h⟩ := allE h
  have ⟨h2, h⟩ := allE h
  have ⟨h3, h⟩ := allE h
  have ⟨h4, h⟩ := allE h
  have ⟨h5, h⟩ := allE h
  have ⟨h6, h⟩ := allE h
  have ⟨h7, h⟩ := allE h
  have h8 := (allE h).1
  ⟨mgOf _ _ (of_decide_eq_true h1), no, h2, of_decide_eq_true h3, of_decide_eq_true h4, of_decide_eq_true h5, h6, h7, fun x hx => of_decide_eq_true (List.all_eq_true.mp h8 x (field_of hx))⟩
theorem at_cls {c : Str} {a : Addr} {C : Cls} (h : C.at c = some a) : (c = ("Record" : Str) ∧ a = C.record) ∨ (c = ("Machine" : Str) ∧ a = C.machine) := by
  unfold Cls.at at h
  split at h
  · rename_i e; cases h; exact .inl ⟨e, rfl⟩
  · split at h
    · rename_i e; cases h; exact .inr ⟨e, rfl⟩
    · cases h
theorem findObj_prop {K : Frag} {a p : Addr} {f : Str} {od : Option Obj} (h1 : (clsIn K a).isSome = true) (h2 : findIn K (.ref a) f = some (some (.ref p))) (h3 : specialIn K (.ref p) "__get__" = some (some (.builtin "property.__get__"))) (h4 : takesIn K (.ref p) = some true) :
    findObj K a od f = some (.bind (.builtin "property.__get__") (.ref p)) := by
  obtain ⟨cd, hcd⟩ := Option.isSome_iff_exists.mp h1
  unfold findObj
  rw [hcd, h2]
  show Option.bind (specialIn K (.ref p) "__get__") _ = _
  rw [h3]
  show Option.bind (takesIn K (.ref p)) _ = _
  rw [h4]
  rfl
theorem prop_ok {g : Gx} {c : Str} {a : Addr} {f : Str} {d : FnRec} (h : propB g.K a f = true) (hs : seenDef g.K (propFn g.K (findIn g.K (.ref a) f)) = some (d, true)) : PropTop g c a f d := by
  obtain ⟨h1, h2⟩ := Bool.and_eq_true_iff.mp h
  obtain ⟨p, hp, h2⟩ := (Option.any_eq_true _ _).mp h2
  obtain ⟨h3, h4⟩ := Bool.and_eq_true_iff.mp h2
  have hp := refOf_ok hp
  obtain ⟨fa, e, ho⟩ := seen_ok hs
  rw [hp] at e
  obtain ⟨l, hl, e⟩ := Option.map_eq_some_iff.mp e
  cases l with
  | nil => cases e
  | cons v r => cases e; exact ⟨p, fa, r, hp, fun _ => findObj_prop h1 hp (of_decide_eq_true h3) (of_decide_eq_true h4), hl, ho⟩
theorem val_ok {v : Option CFound} {a : Addr} (h : valOf v = some (some (.ref a))) : v = some (.val (.ref a)) := by
  cases v with
  | none => cases h
  | some v => cases v with
    | val v => cases h; rfl
    | get => cases h
theorem exc_init {K : Frag} {v : Option (Option Value)} {i : Nat} {base fld : Str} {ps : List Str} {d : FnRec} (hd : metAt i 0 = some d) (hp : plainDef d = true) (hf : ExcForm d base fld ps) (h : seenDef K v = (metAt i 0).map (·, true)) : ∃ f, v = some (some (.ref f)) ∧ ExcInit K (some (.ref f)) base fld ps := by
  rw [hd] at h
  obtain ⟨a, e, ho⟩ := seen_ok h
  exact ⟨a, e, .mk rfl ho hp hf⟩
end Mine
end
section
set_option genCtorIdx false
namespace Mine

theorem allLoc {sc : Scope} {l : List Str} (h : (l.all fun x => decide (sc.names.lookup x = some .local)) = true) (x : Str) (hx : x ∈ l) : sc.names.lookup x = some .local := of_decide_eq_true (List.all_eq_true.mp h x hx)
theorem trap_at : ∃ d, metAt 4 0 = some d ∧ plainDef d = true ∧ ExcForm d "DebugFault" "at" ["self", "word", "at"] := ⟨⟨["self", "word", "at"], _, _⟩, by rfl, by kernel_rfl,
  ⟨⟨_, _, _, _, _, _, _, _, _, _, rfl, rfl, rfl⟩, by kernel_rfl, fun x hx => allLoc (by kernel_rfl) x hx, by decide +kernel⟩⟩
theorem fault_at : ∃ d, metAt 3 0 = some d ∧ plainDef d = true ∧ ExcForm d "Exception" "word" ["self", "word"] := ⟨⟨["self", "word"], _, _⟩, by rfl, by kernel_rfl,
  ⟨⟨_, _, _, _, _, _, _, _, _, _, rfl, rfl, rfl⟩, by kernel_rfl, fun x hx => allLoc (by kernel_rfl) x hx, by decide +kernel⟩⟩
noncomputable def gOf (w : World) (h : Heap) (K : Frag) (mg mb : Str → Option Value) : Gx := ⟨PySem.Challenge.rw_og0214_01.row.prog, w, ⟨82, 400, 123⟩, 103, h, K, mg, mb⟩
/-- a function of the top, as seen -/
theorem fn_seen {K : Frag} (h : top.map (seenTop K) = top.map expTop) {f : Str} {d : FnRec} (hf : FT "" f = some d) : plainDef d = true ∧ ∃ a, nsIn K mainGlobals f = some (some (.ref a)) ∧ FnObj K a d := by
  obtain ⟨s, hs, e⟩ := lookF_ok (l := top) ((if_pos rfl).symm.trans hf)
  have p := List.all_eq_true.mp plain_top s hs
  have r := List.map_inj_left.mp h s hs
  unfold seenTop expTop at r
  rw [e] at p r
  exact ⟨p, seen_ok r⟩
theorem met_seen {K : Frag} {c : Str} {a : Addr} (hc : c ≠ ("" : Str)) (hm : ∀ s ∈ lookC top c, s ∈ lookC top "Record" ++ lookC top "Machine") (h : (lookC top c).map (seenMet K c a) = (lookC top c).map expTop) {f : Str} {d : FnRec} (hf : FT c f = some d) :
    plainDef d = true ∧ isField f = false ∧ seenDef K (if isProp c f then propFn K (findIn K (.ref a) f) else findIn K (.ref a) f) = some (d, true) := by
  obtain ⟨s, hs, e⟩ := lookF_ok (l := lookC top c) ((if_neg hc).symm.trans hf)
  have p := List.all_eq_true.mp plain_met s (hm s hs)
  have r := List.map_inj_left.mp h s hs
  unfold seenMet expTop at r
  rw [e] at p r
  obtain ⟨p1, p2⟩ := Bool.and_eq_true_iff.mp p
  exact ⟨p1, (Bool.not_eq_true' _).mp p2, r⟩
theorem top_of {w : World} {h : Heap} {K : Frag} {mg mb : Str → Option Value} {p : Program} {loose : List Str} (X : K.In h) (hw : lookK K = want) (R : TopRead p loose mg mb h) : Top (gOf w h K mg mb) := by
  obtain ⟨e1, hw⟩ := Prod.mk.inj hw
  obtain ⟨e2, hw⟩ := Prod.mk.inj hw
  obtain ⟨e3, hw⟩ := Prod.mk.inj hw
  obtain ⟨e4, hw⟩ := Prod.mk.inj hw
  obtain ⟨e5, e6⟩ := Prod.mk.inj hw
  obtain ⟨i1, e4⟩ := List.cons.inj e4
  have i2 := (List.cons.inj e4).1
  obtain ⟨fb, e5⟩ := List.cons.inj e5
  have bs := (List.cons.inj e5).1
  have B := topB_ok e6
  have mgOf : ∀ n v, nsIn K mainGlobals n = some (some v) → mg n = some v := fun n v e => mg_of X R.g e
  have mgNo : ∀ n, nsIn K mainGlobals n = some none → mg n = none := fun n e => ns_none_of X R.g e
  have hno := Bool.and_eq_true_iff.mp no_cls
  have hmet : ∀ c a, (⟨82, 400, 123⟩ : Cls).at c = some a → ∀ f d, FT c f = some d → plainDef d = true ∧ isField f = false ∧ seenDef K (if isProp c f then propFn K (findIn K (.ref a) f) else findIn K (.ref a) f) = some (d, true) := fun c a hc => by
    rcases at_cls hc with ⟨rfl, rfl⟩ | ⟨rfl, rfl⟩
    · exact fun f d => met_seen (by decide) (fun s hs => List.mem_append_left _ hs) e2
    · exact fun f d => met_seen (by decide) (fun s hs => List.mem_append_right _ hs) e3
  exact {
    kin := X
    low := by
      obtain ⟨o, ho⟩ := Option.isSome_iff_exists.mp B.law
      exact Nat.lt_of_le_of_lt (by decide) (Heap.lt_size (X _ _ ho))
    lim := R.nolimit
    nsg := R.g
    nsb := R.b
    consts := fun {x v} hv => by
      obtain ⟨hx, s, hs, e⟩ := con_ok hv
      have c := List.all_eq_true.mp B.con s hs
      unfold conS at c
      rw [e] at c
      have c : (decide (x = ("__name__" : Str)) || (nsIn K mainGlobals x).any fun o => o.any fun V => conB K v V) = true := c
      rw [decide_eq_false hx, Bool.false_or] at c
      obtain ⟨o, ho, c⟩ := (Option.any_eq_true _ _).mp c
      obtain ⟨V, hV, c⟩ := (Option.any_eq_true _ _).mp c
      exact ⟨V, mgOf _ _ (hV ▸ ho), conB_ok (w := (gOf w h K mg mb).w₀) X (fun a ⟨p, hp, _⟩ => nomatch hp) c⟩
    fns := fun {f d} hf => (fn_seen e1 hf).imp id fun ⟨a, h1, h2⟩ => ⟨a, mgOf _ _ h1, h2⟩
    cls := fun {c a} hc => by
      rcases at_cls hc with ⟨rfl, rfl⟩ | ⟨rfl, rfl⟩
      · exact cls_ok mgOf (Option.isNone_iff_eq_none.mp hno.1) B.record
      · exact cls_ok mgOf (Option.isNone_iff_eq_none.mp hno.2) B.machine
    meth := fun {c a} hc {f d} hf => by
      obtain ⟨h1, h2, h3⟩ := hmet c a hc f d hf
      exact ⟨h1, h2, fun hp => by rw [hp] at h3; exact seen_ok h3⟩
    prop := fun {c a} hc {f d} hf hp => by
      obtain ⟨_, _, h3⟩ := hmet c a hc f d hf
      rw [hp] at h3
      obtain ⟨hr, hfn⟩ := Bool.and_eq_true_iff.mp hp
      have hr := of_decide_eq_true hr
      rcases at_cls hc with ⟨-, rfl⟩ | ⟨q, -⟩
      · rcases Bool.or_eq_true_iff.mp hfn with q | q
        · obtain rfl := of_decide_eq_true q; exact prop_ok B.len h3
        · obtain rfl := of_decide_eq_true q; exact prop_ok B.on h3
      · rw [hr] at q; exact absurd q (by decide)
    blt := fun p hp => by
      obtain ⟨h1, h2⟩ := Bool.and_eq_true_iff.mp (List.all_eq_true.mp blt_boot p hp)
      exact ⟨mgNo _ (of_decide_eq_true (List.all_eq_true.mp B.blt p hp)), (R.builtins _ (of_decide_eq_true h2)).trans (of_decide_eq_true h1)⟩
    fb := fb
    trap := by
      obtain ⟨d1, q1, q2, q3⟩ := trap_at
      obtain ⟨f1, r1, r2⟩ := exc_init q1 q2 q3 i1
      obtain ⟨d2, q1, q2, q3⟩ := fault_at
      obtain ⟨f2, r3, r4⟩ := exc_init q1 q2 q3 i2
      exact ⟨B.exc, B.set, B.tw, B.ta, ⟨_, r1, r2⟩, mgOf _ _ B.mgT, mgOf _ _ B.mgD, B.ga, B.rd, ⟨_, val_ok r3, r4⟩, mgNo _ B.mgE, (R.builtins _ (by decide +kernel)).trans exc_boot, bs⟩ }
end Mine
end
section
set_option genCtorIdx false
namespace Mine
/-- the very context of a claim's call: the caller, and nothing below it -/
noncomputable def Γ₀ : PySem.Ctx := ⟨.builtin "claim.caller" {}, none, none, [], none⟩

noncomputable abbrev lawR : OpenRow := PySem.Challenge.rw_og0214_01.row
/-- all that was there stays -/
structure Stays (s s' : Shared) : Prop where
  keep : ∀ b o, s.heap.get? b = some o → s'.heap.get? b = some o
  os : s'.os = s.os
/-- the claim's thread ends with True -/
theorem thread_ends {w : World} {s : Shared} {mg : Str → Option Value} {a : Addr} {vs : List Value} (hz : s.asleep) (hg : s.gens = #[]) (G : s.heap.Ns mainGlobals mg) (ha : mg "law" = some (.ref a))
    (run : ∀ p, Sem.wp (model lawR.prog w) Γ₀ (PySem.call (.ref a) vs) (fun v _ s' => v = .bool true ∧ Stays s s' ∧ s'.gens = s.gens) (fun _ _ _ => False) p s) :
    ∃ n s', schedN (denote table) lawR.prog w n (.single s (callStub "law" vs)) = .halted (.done (.ret (.bool true))) s' ∧ Stays s s' ∧ s'.heap.life = s.heap.life := by
  have tree : Sem.wp (model lawR.prog w) Γ₀ (callStub "law" vs).cur (Sem.finPost (model lawR.prog w) Γ₀ fun r s' => (r = .ok (.ret (.bool true)) ∧ Stays s s') ∧ leftWithCleanup s'.gens = false)
      (fun e _ s' => ((.error e : Result) = .ok (.ret (.bool true)) ∧ Stays s s') ∧ leftWithCleanup s'.gens = false) default s := by
    unfold callStub
    dsimp only
    rw [Sem.wp_bind']
    refine (Sem.wp_nsGet _ _ _ _ s (a := mainNs) G "law" _).mpr ?_
    rw [ha]
    show Sem.wp _ _ (PySem.call (.ref a) vs >>= ret) _ _ _ _
    rw [Sem.wp_bind']
    refine Sem.wp_mono _ _ _ (fun v p s' h => ?_) (fun _ _ _ h => h.elim) _ _ (run default)
    obtain ⟨rfl, h, e⟩ := h
    exact ⟨⟨rfl, h⟩, leftWithCleanup_false_of_bare (AllBare.of_eq (e.trans hg))⟩
  obtain ⟨n, r, s', s'', hs, hr, hf, rfl, h⟩ := wp_halts_full hz tree
  obtain ⟨e1, _, _, e2, _⟩ := Shared.forget_eq hf
  exact ⟨n, s'', hs, ⟨fun b o e => e1 ▸ h.keep b o e, e2.trans h.os⟩, runN_life _ _ _ hr⟩

/-- the run of the law, from what the rules say of it -/
theorem law_run {w : World} {K : Frag} {mg mb : Str → Option Value} {s : Shared} (T : Top (gOf w s.heap K mg mb)) {a : Addr} (ha : mg "law" = some (.ref a)) {xs : List Int} (hx : xs.length ≤ 63) {Vs : List Value} (rv : VRels ⟨[], s⟩ [.ro (xs.map .int)] Vs)
    (p : Pos) : Sem.wp (model lawR.prog w) Γ₀ (PySem.call (.ref a) Vs) (fun v _ s' => v = .bool true ∧ Stays s s' ∧ s'.gens = s.gens) (fun _ _ _ => False) p s := by
  obtain ⟨d, hd⟩ : ∃ d, FT "" "law" = some d := Option.isSome_iff_exists.mp (by kernel_rfl)
  obtain ⟨hp, a', ha', ho⟩ := T.fns hd
  obtain rfl : a = a' := by
    have e : some (Value.ref a) = some (.ref a') := ha.symm.trans ha'
    cases e; rfl
  have F : Fit ⟨gOf w s.heap K mg mb, ⟨none, 301, some [], none, 4⟩, []⟩ 17 := ⟨rfl, rfl, (by decide : 301 + 4 * 17 + 8 < recursionLimit), (by decide : 4 + 20 * 17 + 40 < cLine), T⟩
  have hIn : Γ₀.In ⟨none, 301, some [], none, 4⟩ := ⟨rfl, by decide +kernel, fun l h => by cases h; rfl, (fun g h => nomatch h), by decide +kernel⟩
  have hCalm : Calm Γ₀ := ⟨by decide +kernel, fun _ hx => nomatch hx⟩
  have iv : Inv ⟨gOf w s.heap K mg mb, ⟨none, 301, some [], none, 4⟩, []⟩ ⟨[], s⟩ [] := ⟨rfl, List.nodup_nil, List.nodup_nil, (fun _ hp => nomatch hp), Nat.le_refl _, (fun {i o} e => by simp at e), fun b o e => e, (fun _ he => nomatch he)⟩
  have R := RunC.call (sp_law (T := fun _ => False) (Q := fun v _ => v = .bool true) hx (fun _ => rfl) ⟨gOf w s.heap K mg mb, ⟨none, 301, some [], none, 4⟩, []⟩ ⟨[], s⟩ a d Vs hd hp ho F iv rv)
  refine Sem.wp_mono _ _ _ ?_ ?_ p s (R Γ₀ p hIn hCalm)
  · rintro V p' s' ⟨st, r, e⟩
    subst e
    refine VRel.boolE r ?_
    exact ⟨rfl, ⟨st.inv.keep, st.ext.os⟩, st.ext.gens⟩
  · rintro e p' s' ⟨st, r, e1⟩
    exact e1.elim
theorem ints_of {R : WRecords} : ∀ {ds : List WData}, WShape.hasItems R ds .int = true → ∃ xs : List Int, ds = xs.map WData.int
  | [], _ => ⟨[], rfl⟩
  | d :: ds, h => by
    have h : (WShape.has R d .int && WShape.hasItems R ds .int) = true := by simpa [WShape.hasItems] using h
    rw [Bool.and_eq_true] at h
    obtain ⟨i, rfl⟩ := hasW_int h.1
    obtain ⟨xs, rfl⟩ := ints_of h.2
    exact ⟨i :: xs, rfl⟩
theorem pre_ints {args : List WData} (h : lawR.claim.pre args = true) : ∃ xs : List Int, args = [.list (xs.map WData.int)] ∧ xs.length ≤ 63 := by
  obtain ⟨h1, h2⟩ := pre_splitW (r := lawR.toRowW) h
  obtain ⟨d, r, rfl, hd, hr⟩ := hasAllW_cons (e := .list .int) (es := []) h1
  obtain rfl := hasAllW_nil hr
  obtain ⟨ds, rfl, hds⟩ := hasW_list hd
  obtain ⟨xs, rfl⟩ := ints_of hds
  refine ⟨xs, rfl, ?_⟩
  w_cond h2
  rename_i a b
  rw [List.length_map] at a
  omega
theorem reads_ints {R : WRecords} {cl : Str → Option Addr} {w : Wd} : ∀ {xs : List Int} {vs : List Value} {as : List Addr}, ReadsAllW R cl w.h vs (xs.map WData.int) as → VRels w (xs.map MV.int) vs
  | [], _, _, r => by cases r; exact .nil
  | x :: xs, _, _, r => by
    cases r with
    | cons r1 r2 =>
      cases r1
      exact .cons (.int _ _) (reads_ints r2)
theorem reads_ro {R : WRecords} {cl : Str → Option Addr} {s : Shared} {xs : List Int} {vs : List Value} {as : List Addr} (r : ReadsAllW R cl s.heap vs [.list (xs.map WData.int)] as) : VRels ⟨[], s⟩ [.ro (xs.map MV.int)] vs := by
  cases r with
  | cons r1 r2 =>
    cases r2
    cases r1 with
    | list h1 h2 h3 h4 =>
      rename_i a o us n as'
      obtain ⟨us⟩ := us
      exact .cons (.ro h1 h2 h3 (fun ⟨p, hp, _⟩ => nomatch hp) (reads_ints (w := ⟨[], s⟩) h4)) .nil
end Mine
end
section
set_option genCtorIdx false
namespace Mine

theorem law_promised : PySem.Challenge.rw_og0214_01.row.toRowW.promised := by w_witness2
set_option maxHeartbeats 4000000 in
theorem main : PySem.Challenge.rw_og0214_01.Holds := by
  refine holds_law (by kernel_rfl) fun said => ?_
  refine ⟨said, law_promised, ⟨⟨rfl, rfl, rfl, rfl, rfl, by decide +kernel⟩, by decide +kernel, rfl⟩, law_promised.witness, fun w => ?_⟩
  obtain ⟨there, far⟩ := head_left.behind (XP := XL headView []) (fun s e => xl_of s e) (by decide +kernel) w
  refine ⟨there, fun s hs => ?_⟩
  obtain ⟨s₀, hf, hg0, s₁, hT, hz, hgens, hns, G, y⟩ := far s hs
  refine ⟨s₀, hf, hg0, s₁, hT, fun n hn => ?_, (fun x hx => nomatch hx), (fun x hx => nomatch hx), fun args hpre hlay ord hord => ?_⟩
  · cases List.mem_singleton.mp hn
    exact pinned_of_view hns G (by rfl) (by rfl) (by rfl)
  obtain ⟨xs, rfl, hx⟩ := pre_ints hpre
  obtain ⟨⟨vs, s₂⟩, laid⟩ := Option.isSome_iff_exists.mp (layAllW_isSome (P := w.params) (ord := ord) G.has _ _ s₁ (pre_splitW (r := lawR.toRowW) hpre).1)
  have kp := layAllW_keeps _ _ _ laid
  obtain ⟨l1, _, l3, l4⟩ := layAllW_rest _ _ _ laid
  obtain ⟨as, reads, _⟩ := reads_layAllW hord _ _ _ laid hlay s₂.heap (fun _ _ e => e)
  have hgens : s₁.gens = #[] := Array.eq_empty_of_size_eq_zero (of_decide_eq_true hgens)
  have R := topRead_of (G.keeps XL.keeps kp).T
  have T := top_of (w := w) ((fragOf_in s₁.heap).keeps kp) y R
  obtain ⟨d, hd⟩ : ∃ d, FT "" "law" = some d := Option.isSome_iff_exists.mp (by kernel_rfl)
  obtain ⟨_, a, ha, _⟩ := T.fns hd
  obtain ⟨n, s₃, run, h, life⟩ := thread_ends (Shared.asleep_of_life l4 hz) (l1.trans hgens) R.g ha (law_run T ha hx (reads_ro reads))
  obtain ⟨bs, reads', _⟩ := reads_layAllW hord _ _ _ laid hlay s₃.heap h.keep
  refine ⟨vs, s₂, laid, n, _, s₃, run, .inl ⟨.bool true, rfl, fun _ => rfl, ⟨.bool true, _, [], bs, .bool true, reads', by wrow_post, fun _ => ⟨List.nodup_nil, (fun _ h => nomatch h), (fun _ h => nomatch h)⟩, fun _ _ => ident_freeW rfl rfl rfl _ _⟩, (fun _ h => nomatch h), (fun b o e _ _ _ => .inl (h.keep b o e)), (fun _ h => nomatch h)⟩,
    (fun _ i x hx => by rw [hgens] at hx; exact nomatch hx), fun q => Bool.noConfusion (show false = true from q), congrArg _ (life.trans l4), Shared.rest_eq (h.os.trans l3)⟩
end Mine
theorem PySem.Challenge.cw_og0214_01_holds : PySem.Challenge.rw_og0214_01.Holds :=
  Mine.main
end
