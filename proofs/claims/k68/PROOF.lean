import PyProof.Rows.All
import HandS.ForMost
import HandS.ForExc
import HandS.Gcd
import HandS.Wide
import HandS.DictComp
import HandS.CallSlots
import HandS.ExcSuper
import HandS.ExcValue
import KE.KDictKeyed
import KE.KDictWalk
import KE.KDictZip
import KE.KDictCopyH
import HandS.TupAny
import HandS.TupMul
import HandS.Zip
import HandS.Rev
import HandS.Style
import HandS.NoneIn
import HandS.Small
import KE.GoesEnum
import PyProof.Rows.TupTab
import HandS.Codes
import HandS.TupLen
import HandS.RaiseMore
import HandS.Strs
import HandS.Deep
import HandS.Defaults
import HandS.Head0
import HandS.Head1
import HandS.Head2
import HandS.Ends
import HandS.EndBits
import HandS.HeadHook1
import HandS.HeadHook2
import HandS.Words
import HandS.Head3
import PySem.Challenge.RW_doublingbook_k68_whole_lots_exchanged_wi
set_option Elab.async false
set_option linter.all false
set_option maxRecDepth 100000
set_option maxHeartbeats 4000000
/-! QL1: data trees, their place in the heap. -/
namespace QL
open PySem PySem.Spec PyProof.Rows L2

/-- data: what the program handles, without the heap; ref: a mutable object by its number -/
inductive Ty where | int | str | bool | tuple | list | dict | none
  deriving DecidableEq, Inhabited
def Ty.name : Ty → String
  | .int => "int" | .str => "str" | .bool => "bool" | .tuple => "tuple" | .list => "list" | .dict => "dict" | .none => "NoneType"
inductive D where
  | non | bl (b : Bool) | int (i : Int) | str (x : List Nat)
  | tup (xs : List D) | lst (xs : List D) | dct (ks vs : List D)
  | ref (k : Nat) | ty (n : Ty) | gl (x : Nat) | exc (c : Nat) (v : D)
  deriving Inhabited
def toS (x : List Nat) : Str := ⟨x.toArray⟩
theorem toS_inj {x y : List Nat} (h : toS x = toS y) : x = y := by
  have := congrArg (fun z : Str => z.cps.toList) h
  simpa [toS] using this

mutual
def D.beq : D → D → Bool
  | .non, .non => true
  | .bl a, .bl b => a == b
  | .int a, .int b => decide (a = b)
  | .str a, .str b => decide (a = b)
  | .tup a, .tup b => D.beqs a b
  | .lst a, .lst b => D.beqs a b
  | .dct a c, .dct b d => D.beqs a b && D.beqs c d
  | .ref a, .ref b => a == b
  | .ty a, .ty b => decide (a = b)
  | .gl a, .gl b => a == b
  | .exc a c, .exc b d => a == b && D.beq c d
  | _, _ => false
def D.beqs : List D → List D → Bool
  | [], [] => true
  | x :: xs, y :: ys => D.beq x y && D.beqs xs ys
  | _, _ => false
end
mutual
theorem D.beq_eq : ∀ {a b : D}, D.beq a b = true → a = b
  | .non, b, h => by cases b <;> simp [D.beq] at h; rfl
  | .bl a, b, h => by cases b <;> simp [D.beq] at h; rw [h]
  | .int a, b, h => by cases b <;> simp [D.beq] at h; rw [h]
  | .str a, b, h => by cases b <;> simp [D.beq] at h; rw [h]
  | .tup a, b, h => by cases b <;> simp [D.beq] at h; rw [D.beqs_eq h]
  | .lst a, b, h => by cases b <;> simp [D.beq] at h; rw [D.beqs_eq h]
  | .dct a c, b, h => by cases b <;> simp [D.beq] at h; rw [D.beqs_eq h.1, D.beqs_eq h.2]
  | .ref a, b, h => by cases b <;> simp [D.beq] at h; rw [h]
  | .ty a, b, h => by cases b <;> simp [D.beq] at h; rw [h]
  | .gl a, b, h => by cases b <;> simp [D.beq] at h; rw [h]
  | .exc a c, b, h => by cases b <;> simp [D.beq] at h; rw [h.1, D.beq_eq h.2]
theorem D.beqs_eq : ∀ {a b : List D}, D.beqs a b = true → a = b
  | [], b, h => by cases b <;> simp [D.beqs] at h; rfl
  | x :: xs, b, h => by
    cases b with
    | nil => simp [D.beqs] at h
    | cons y ys =>
      simp [D.beqs] at h
      rw [D.beq_eq h.1, D.beqs_eq h.2]
end
mutual
theorem D.beq_refl : ∀ a : D, D.beq a a = true
  | .non => by simp [D.beq]
  | .bl a => by simp [D.beq]
  | .int a => by simp [D.beq]
  | .str a => by simp [D.beq]
  | .tup a => by simp [D.beq, D.beqs_refl a]
  | .lst a => by simp [D.beq, D.beqs_refl a]
  | .dct a c => by simp [D.beq, D.beqs_refl a, D.beqs_refl c]
  | .ref a => by simp [D.beq]
  | .ty a => by simp [D.beq]
  | .gl a => by simp [D.beq]
  | .exc a c => by simp [D.beq, D.beq_refl c]
theorem D.beqs_refl : ∀ a : List D, D.beqs a a = true
  | [] => by simp [D.beqs]
  | x :: xs => by simp [D.beqs, D.beq_refl x, D.beqs_refl xs]
end
theorem D.beq_iff {a b : D} : D.beq a b = true ↔ a = b := ⟨D.beq_eq, fun h => by rw [h]; exact D.beq_refl b⟩
instance : DecidableEq D := fun a b => decidable_of_iff (D.beq a b = true) D.beq_iff

/-- a mutable object -/
inductive AO where
  | lst (xs : List D) | dct (ks vs : List D) | ins (c : Nat) (fs : List (Nat × D))
  deriving DecidableEq, Inhabited
abbrev Ob := List AO

/-- where the program's own globals stand -/
structure Bs where
  P : Program
  w : World
  K : PySem.W.Frag
  g : Nat → Option Addr

/-- the raw dict object -/
def DictO (a : Addr) (es : Array DictEntry) (ep : Nat) : HO := .ext fun h => h.DictRaw a es ep
/-- an exception object of an own class -/
def ExcO (a : Addr) (C : Addr) (d : Option Addr) : HO := .ext fun h => ∃ (oe : Obj) (vs : Array Value), h.get? a = some oe ∧ Zc (.ref C) d oe ∧ oe.data = .fields vs

mutual
/-- the key that a datum is -/
def toKey : D → Option NestedKey
  | .non => some .none
  | .int i => some (.num i)
  | .str x => some (.text (toS x))
  | .tup xs => (toKeys xs).map .tup
  | _ => none
def toKeys : List D → Option (List NestedKey)
  | [] => some []
  | x :: xs => match toKey x, toKeys xs with
    | some k, some ks => some (k :: ks)
    | _, _ => none
end
mutual
theorem toKey_inj : ∀ {a b : D} {k : NestedKey}, toKey a = some k → toKey b = some k → a = b
  | .non, b, k, h1, h2 => by
    simp [toKey] at h1; subst h1
    cases b with
    | non => rfl
    | tup ys => simp [toKey] at h2
    | _ => simp [toKey] at h2
  | .int i, b, k, h1, h2 => by
    simp [toKey] at h1; subst h1
    cases b with
    | int j => simp [toKey] at h2; rw [h2]
    | tup ys => simp [toKey] at h2
    | _ => simp [toKey] at h2
  | .str x, b, k, h1, h2 => by
    simp [toKey] at h1; subst h1
    cases b with
    | str y => simp [toKey] at h2; rw [toS_inj h2]
    | tup ys => simp [toKey] at h2
    | _ => simp [toKey] at h2
  | .tup xs, b, k, h1, h2 => by
    simp only [toKey, Option.map_eq_some_iff] at h1
    obtain ⟨ks, e1, rfl⟩ := h1
    cases b with
    | tup ys =>
      simp only [toKey, Option.map_eq_some_iff] at h2
      obtain ⟨ls, e2, e3⟩ := h2
      injection e3 with e3
      subst e3
      rw [toKeys_inj e1 e2]
    | _ => simp [toKey] at h2
  | .bl b, _, _, h1, _ => by simp [toKey] at h1
  | .lst _, _, _, h1, _ => by simp [toKey] at h1
  | .dct _ _, _, _, h1, _ => by simp [toKey] at h1
  | .ref _, _, _, h1, _ => by simp [toKey] at h1
  | .ty _, _, _, h1, _ => by simp [toKey] at h1
  | .gl _, _, _, h1, _ => by simp [toKey] at h1
  | .exc _ _, _, _, h1, _ => by simp [toKey] at h1
theorem toKeys_inj : ∀ {a b : List D} {k : List NestedKey}, toKeys a = some k → toKeys b = some k → a = b
  | [], b, k, h1, h2 => by
    simp [toKeys] at h1; subst h1
    cases b with
    | nil => rfl
    | cons y ys =>
      simp only [toKeys] at h2
      split at h2 <;> simp at h2
  | x :: xs, b, k, h1, h2 => by
    simp only [toKeys] at h1
    split at h1
    · rename_i k0 ks0 e1 e2
      cases h1
      cases b with
      | nil => simp [toKeys] at h2
      | cons y ys =>
        simp only [toKeys] at h2
        split at h2
        · rename_i l0 ls0 e3 e4
          simp only [Option.some.injEq, List.cons.injEq] at h2
          obtain ⟨rfl, rfl⟩ := h2
          rw [toKey_inj e1 e3, toKeys_inj e2 e4]
        · cases h2
    · cases h1
end
def hashD (w : World) (d : D) : Int := match toKey d with
  | some k => k.hash w
  | none => 0
/-- a tuple that may be a key -/
def keyTup (d : D) : Bool := match d with
  | .tup _ => (match toKey d with
    | some k => Nat.ble k.depth 8
    | none => false)
  | _ => false
/-- a plain key -/
def keyLeaf (d : D) : Bool := match d with
  | .int _ => true
  | .str _ => true
  | _ => false
def keysOk (ks : List D) : Bool := ks.all keyTup || ks.all keyLeaf

/-- where the mutable objects stand (by number); what is fenced: made here, not yet data -/
structure MF where
  m : List Addr
  f : List Addr
def MF.out (M : MF) (a : Addr) : Prop := a ∉ M.m ∧ a ∉ M.f
mutual
/-- the value v stands for the data d -/
inductive VR (B : Bs) (M : MF) (H : Hp) : V → D → Prop
  | non : VR B M H .non .non
  | bl (b) : VR B M H (.bl b) (.bl b)
  | int (i) : VR B M H (.int i) (.int i)
  | str (x) : VR B M H (.str (toS x)) (.str x)
  | ty (n) : VR B M H (.ty (Ty.name n)) (.ty n)
  | gl {x a} : B.g x = some a → VR B M H (.ref a) (.gl x)
  | ref {k a} : M.m[k]? = some a → VR B M H (.ref a) (.ref k)
  | tup {a vs ds} : H a = some (.tup vs) → M.out a → VRs B M H vs ds → VR B M H (.ref a) (.tup ds)
  | ktup {a vs ds} : SqT B.K (fun _ => none) a vs → VRs B M H vs ds → VR B M H (.ref a) (.tup ds)
  | lst {a vs ds} : Rd H a (.lst vs) → M.out a → VRs B M H vs ds → VR B M H (.ref a) (.lst ds)
  | dct {a es ep ks vs} : H a = some (DictO a es ep) → M.out a → (a == sysModules) = false → es.size ≤ sizeLine → DEs B M H es.toList ks vs → ks.Nodup → keysOk ks = true → VR B M H (.ref a) (.dct ks vs)
inductive VRs (B : Bs) (M : MF) (H : Hp) : List V → List D → Prop
  | nil : VRs B M H [] []
  | cons {v d vs ds} : VR B M H v d → VRs B M H vs ds → VRs B M H (v :: vs) (d :: ds)
inductive DEs (B : Bs) (M : MF) (H : Hp) : List DictEntry → List D → List D → Prop
  | nil : DEs B M H [] [] []
  | cons {e es k ks v vs x y} : RelV x e.key → RelV y e.val → VR B M H x k → VR B M H y v → e.hash = hashD B.w k → DEs B M H es ks vs → DEs B M H (e :: es) (k :: ks) (v :: vs)
end

/-- a step: new mutable objects, all other tracked things kept -/
structure Stp (M : MF) (H : Hp) (M' : MF) (H' : Hp) : Prop where
  fen : M'.f = M.f
  ext : ∃ L, M'.m = M.m ++ L ∧ ∀ p ∈ L, p ∉ M.m ∧ H p = none
  keep : ∀ b o, b ∉ M.m → H b = some o → H' b = some o
theorem Stp.refl (M : MF) (H : Hp) : Stp M H M H := ⟨rfl, ⟨[], by simp, by simp⟩, fun _ _ _ e => e⟩
theorem Stp.trans {M M1 M2 : MF} {H H1 H2 : Hp} (a : Stp M H M1 H1) (b : Stp M1 H1 M2 H2) : Stp M H M2 H2 := by
  obtain ⟨fa, ⟨L, eL, hL⟩, ka⟩ := a
  obtain ⟨fb, ⟨L2, eL2, hL2⟩, kb⟩ := b
  refine ⟨fb.trans fa, ⟨L ++ L2, by rw [eL2, eL, List.append_assoc], fun p hp => ?_⟩, fun q o hq e => ?_⟩
  · rcases List.mem_append.mp hp with h | h
    · exact hL p h
    · obtain ⟨h1, h2⟩ := hL2 p h
      have h3 : p ∉ M.m := fun z => h1 (by rw [eL]; exact List.mem_append_left _ z)
      refine ⟨h3, ?_⟩
      cases q : H p with
      | none => rfl
      | some o =>
        have := ka p o h3 q
        rw [h2] at this
        cases this
  · refine kb q o (fun z => ?_) (ka q o hq e)
    rw [eL] at z
    rcases List.mem_append.mp z with h | h
    · exact hq h
    · rw [(hL q h).2] at e; cases e
theorem Stp.at {M M' : MF} {H H' : Hp} (s : Stp M H M' H') {k : Nat} {a : Addr} (h : M.m[k]? = some a) : M'.m[k]? = some a := by
  obtain ⟨_, ⟨L, e, _⟩, _⟩ := s
  have hk : k < M.m.length := (List.getElem?_eq_some_iff.mp h).1
  rw [e, List.getElem?_append_left hk]; exact h
theorem Stp.out {M M' : MF} {H H' : Hp} (s : Stp M H M' H') {a : Addr} {o : HO} (h : M.out a) (e : H a = some o) : M'.out a := by
  obtain ⟨f, ⟨L, eL, hL⟩, _⟩ := s
  refine ⟨fun z => ?_, by rw [f]; exact h.2⟩
  rw [eL] at z
  rcases List.mem_append.mp z with z | z
  · exact h.1 z
  · rw [(hL a z).2] at e; cases e
/-- a new object that is no mutable one -/
theorem Stp.new {M : MF} {H : Hp} {p : Addr} {o : HO} (h : H p = none) : Stp M H M (upd H p o) :=
  ⟨rfl, ⟨[], by simp, by simp⟩, fun b u _ e => by rw [upd_ne (ne_of_none e h)]; exact e⟩
/-- a mutable object changes -/
theorem Stp.wr {M : MF} {H : Hp} {p : Addr} {o : HO} (h : p ∈ M.m) : Stp M H M (upd H p o) :=
  ⟨rfl, ⟨[], by simp, by simp⟩, fun b u n e => by rw [upd_ne (fun z => n (by rw [z]; exact h))]; exact e⟩
theorem Rd.step {M M' : MF} {H H' : Hp} (s : Stp M H M' H') {a : Addr} {u : HO} (h : M.out a) (r : Rd H a u) : Rd H' a u ∧ M'.out a := by
  rcases r with r | ⟨o, r⟩
  · exact ⟨.inl (s.keep a _ h.1 r), s.out h r⟩
  · exact ⟨.inr ⟨o, s.keep a _ h.1 r⟩, s.out h r⟩
section
variable {B : Bs} {M M' : MF} {H H' : Hp}
mutual
theorem VR.step (s : Stp M H M' H') : ∀ {v : V} {d : D}, VR B M H v d → VR B M' H' v d
  | _, _, .non => .non
  | _, _, .bl b => .bl b
  | _, _, .int i => .int i
  | _, _, .str x => .str x
  | _, _, .ty n => .ty n
  | _, _, .gl e => .gl e
  | _, _, .ref e => .ref (s.at e)
  | _, _, .tup e n r => .tup (s.keep _ _ n.1 e) (s.out n e) (VRs.step s r)
  | _, _, .ktup e r => .ktup e (VRs.step s r)
  | _, _, .lst e n r => .lst (Rd.step s n e).1 (Rd.step s n e).2 (VRs.step s r)
  | _, _, .dct e n y z r nd kk => .dct (s.keep _ _ n.1 e) (s.out n e) y z (DEs.step s r) nd kk
theorem VRs.step (s : Stp M H M' H') : ∀ {v : List V} {d : List D}, VRs B M H v d → VRs B M' H' v d
  | _, _, .nil => .nil
  | _, _, .cons r t => .cons (VR.step s r) (VRs.step s t)
theorem DEs.step (s : Stp M H M' H') : ∀ {es : List DictEntry} {k v : List D}, DEs B M H es k v → DEs B M' H' es k v
  | _, _, _, .nil => .nil
  | _, _, _, .cons a b r t e q => .cons a b (VR.step s r) (VR.step s t) e (DEs.step s q)
end
theorem VRs.length : ∀ {v : List V} {d : List D}, VRs B M H v d → v.length = d.length
  | _, _, .nil => rfl
  | _, _, .cons _ t => congrArg (· + 1) (VRs.length t)
theorem VRs.get : ∀ {v : List V} {d : List D} {i : Nat} {x : D}, VRs B M H v d → d[i]? = some x → ∃ y, v[i]? = some y ∧ VR B M H y x
  | _, _, _, _, .nil, e => by simp at e
  | _, _, 0, _, .cons r _, e => by simp at e; subst e; exact ⟨_, rfl, r⟩
  | _, _, i + 1, _, .cons _ t, e => by
    obtain ⟨y, h1, h2⟩ := VRs.get (i := i) t (by simpa using e)
    exact ⟨y, by simpa using h1, h2⟩
theorem VRs.getV : ∀ {v : List V} {d : List D} {i : Nat} {y : V}, VRs B M H v d → v[i]? = some y → ∃ x, d[i]? = some x ∧ VR B M H y x
  | _, _, _, _, .nil, e => by simp at e
  | _, _, 0, _, .cons r _, e => by simp at e; subst e; exact ⟨_, rfl, r⟩
  | _, _, i + 1, _, .cons _ t, e => by
    obtain ⟨y, h1, h2⟩ := VRs.getV (i := i) t (by simpa using e)
    exact ⟨y, by simpa using h1, h2⟩
theorem VRs.append : ∀ {v v' : List V} {d d' : List D}, VRs B M H v d → VRs B M H v' d' → VRs B M H (v ++ v') (d ++ d')
  | _, _, _, _, .nil, s => s
  | _, _, _, _, .cons r t, s => .cons r (VRs.append t s)
theorem VRs.set {y : V} {x : D} (r : VR B M H y x) : ∀ {v : List V} {d : List D} (i : Nat), VRs B M H v d → VRs B M H (v.set i y) (d.set i x)
  | _, _, _, .nil => .nil
  | _, _, 0, .cons _ t => .cons r t
  | _, _, i + 1, .cons q t => .cons q (VRs.set r i t)
theorem VRs.take : ∀ {v : List V} {d : List D} (n : Nat), VRs B M H v d → VRs B M H (v.take n) (d.take n)
  | _, _, 0, _ => .nil
  | _, _, _ + 1, .nil => .nil
  | _, _, n + 1, .cons r t => .cons r (VRs.take n t)
theorem VRs.drop : ∀ {v : List V} {d : List D} (n : Nat), VRs B M H v d → VRs B M H (v.drop n) (d.drop n)
  | _, _, 0, r => r
  | _, _, _ + 1, .nil => .nil
  | _, _, n + 1, .cons _ t => VRs.drop n t
end
/-- a tuple's, a list's own place -/
theorem VR.tupI {B : Bs} {M : MF} {H : Hp} {v : V} {ds : List D} (r : VR B M H v (.tup ds)) : ∃ a vs, v = .ref a ∧ SqT B.K H a vs ∧ VRs B M H vs ds := by
  cases r with
  | tup e n r => exact ⟨_, _, rfl, SqT.of e, r⟩
  | ktup e r =>
    refine ⟨_, _, rfl, ?_, r⟩
    rcases e with (e | ⟨o, e⟩) | e
    · cases e
    · cases e
    · exact .inr e
theorem VR.lstI {B : Bs} {M : MF} {H : Hp} {v : V} {ds : List D} (r : VR B M H v (.lst ds)) : ∃ a vs, v = .ref a ∧ Rd H a (.lst vs) ∧ VRs B M H vs ds := by
  cases r with
  | lst e n r => exact ⟨_, _, rfl, e, r⟩
/-- the mutable objects -/
inductive ORo (B : Bs) (M : MF) (H : Hp) (a : Addr) : AO → Prop
  | lst {vs ds} : H a = some (.lst vs) → VRs B M H vs ds → ORo B M H a (.lst ds)
  | dct {es ep ks vs} : H a = some (DictO a es ep) → (a == sysModules) = false → es.size ≤ sizeLine → DEs B M H es.toList ks vs → ks.Nodup → keysOk ks = true → ORo B M H a (.dct ks vs)
theorem ORo.some {B : Bs} {M : MF} {H : Hp} {a : Addr} {o : AO} (r : ORo B M H a o) : H a ≠ none := by
  cases r with
  | lst h _ => rw [h]; exact fun z => nomatch z
  | dct h _ _ _ _ _ => rw [h]; exact fun z => nomatch z
structure OR (B : Bs) (M : MF) (H : Hp) (S : Ob) : Prop where
  len : M.m.length = S.length
  nd : M.m.Nodup
  fen : ∀ a ∈ M.f, a ∉ M.m ∧ H a ≠ none
  at_ : ∀ (k : Nat) (o : AO) (a : Addr), S[k]? = some o → M.m[k]? = some a → ORo B M H a o
theorem OR.get {B : Bs} {M : MF} {H : Hp} {S : Ob} (r : OR B M H S) {k : Nat} {o : AO} (h : S[k]? = some o) : ∃ a, M.m[k]? = some a ∧ ORo B M H a o := by
  have hk : k < M.m.length := by rw [r.len]; exact (List.getElem?_eq_some_iff.mp h).1
  exact ⟨M.m[k], by simp [hk], r.at_ k o _ h (by simp [hk])⟩
theorem OR.here {B : Bs} {M : MF} {H : Hp} {S : Ob} (r : OR B M H S) : ∀ a ∈ M.m, H a ≠ none := fun a ha => by
  obtain ⟨k, hk, e⟩ := List.getElem_of_mem ha
  have hs : k < S.length := by rw [← r.len]; exact hk
  exact (r.at_ k S[k] a (by simp [hs]) (by simp [hk, e])).some
/-- a new thing that is no mutable one -/
theorem ORo.keep {B : Bs} {M M' : MF} {H H' : Hp} {a : Addr} {o : AO} (s : Stp M H M' H') (e : H' a = H a) (r : ORo B M H a o) : ORo B M' H' a o := by
  cases r with
  | lst h q => exact .lst (e.trans h) (q.step s)
  | dct h y z q nd kk => exact .dct (e.trans h) y z (q.step s) nd kk
theorem OR.fresh {B : Bs} {M : MF} {H : Hp} {S : Ob} (r : OR B M H S) {p : Addr} (h : H p = none) : M.out p := ⟨fun z => r.here p z h, fun z => (r.fen p z).2 h⟩
theorem OR.new {B : Bs} {M : MF} {H : Hp} {S : Ob} {p : Addr} {o : HO} (r : OR B M H S) (h : H p = none) : OR B M (upd H p o) S :=
  ⟨r.len, r.nd, fun a ha => ⟨(r.fen a ha).1, by
    have := (r.fen a ha).2
    by_cases e : a = p
    · subst e; rw [upd_same]; exact fun z => nomatch z
    · rw [upd_ne e]; exact this⟩, fun k u a h1 h2 => (r.at_ k u a h1 h2).keep (Stp.new h) (upd_ne fun z => r.here a (List.mem_of_getElem? h2) (by rw [z]; exact h))⟩
/-- a new tuple, a new plain list -/
theorem VR.newTup {B : Bs} {M : MF} {H : Hp} {S : Ob} {p : Addr} {vs : List V} {ds : List D} (h : H p = none) (o : OR B M H S) (r : VRs B M H vs ds) : VR B M (upd H p (.tup vs)) (.ref p) (.tup ds) :=
  .tup upd_same (o.fresh h) (r.step (Stp.new h))
theorem VR.newLst {B : Bs} {M : MF} {H : Hp} {S : Ob} {p : Addr} {vs : List V} {ds : List D} (h : H p = none) (o : OR B M H S) (r : VRs B M H vs ds) : VR B M (upd H p (.lst vs)) (.ref p) (.lst ds) :=
  .lst (.inl upd_same) (o.fresh h) (r.step (Stp.new h))
/-! ### what is fenced changes -/
section
variable {B : Bs} {M : MF} {H : Hp} {p : Addr} {o : HO}
theorem Rd.fen (hp : p ∈ M.f) {a : Addr} {u : HO} (h : M.out a) (r : Rd H a u) : Rd (upd H p o) a u := by
  have ne : a ≠ p := fun z => h.2 (by rw [z]; exact hp)
  rcases r with r | ⟨o, r⟩
  · exact .inl (by rw [upd_ne ne]; exact r)
  · exact .inr ⟨o, by rw [upd_ne ne]; exact r⟩
mutual
theorem VR.fen (hp : p ∈ M.f) : ∀ {v : V} {d : D}, VR B M H v d → VR B M (upd H p o) v d
  | _, _, .non => .non
  | _, _, .bl b => .bl b
  | _, _, .int i => .int i
  | _, _, .str x => .str x
  | _, _, .ty n => .ty n
  | _, _, .gl e => .gl e
  | _, _, .ref e => .ref e
  | _, _, .tup e n r => .tup (by rw [upd_ne (fun z => n.2 (by rw [z]; exact hp))]; exact e) n (VRs.fen hp r)
  | _, _, .ktup e r => .ktup e (VRs.fen hp r)
  | _, _, .lst e n r => .lst (Rd.fen hp n e) n (VRs.fen hp r)
  | _, _, .dct e n y z r nd kk => .dct (by rw [upd_ne (fun z => n.2 (by rw [z]; exact hp))]; exact e) n y z (DEs.fen hp r) nd kk
theorem VRs.fen (hp : p ∈ M.f) : ∀ {v : List V} {d : List D}, VRs B M H v d → VRs B M (upd H p o) v d
  | _, _, .nil => .nil
  | _, _, .cons r t => .cons (VR.fen hp r) (VRs.fen hp t)
theorem DEs.fen (hp : p ∈ M.f) : ∀ {es : List DictEntry} {k v : List D}, DEs B M H es k v → DEs B M (upd H p o) es k v
  | _, _, _, .nil => .nil
  | _, _, _, .cons a b r t e q => .cons a b (VR.fen hp r) (VR.fen hp t) e (DEs.fen hp q)
end
theorem OR.fenW {S : Ob} (r : OR B M H S) (hp : p ∈ M.f) : OR B M (upd H p o) S := by
  refine ⟨r.len, r.nd, fun a ha => ⟨(r.fen a ha).1, ?_⟩, fun k u a h1 h2 => ?_⟩
  · by_cases e : a = p
    · subst e; rw [upd_same]; exact fun z => nomatch z
    · rw [upd_ne e]; exact (r.fen a ha).2
  · have ne : a ≠ p := fun z => (r.fen p hp).1 (by rw [← z]; exact List.mem_of_getElem? h2)
    cases r.at_ k u a h1 h2 with
    | lst h q => exact .lst (by rw [upd_ne ne]; exact h) (q.fen hp)
    | dct h y z q nd kk => exact .dct (by rw [upd_ne ne]; exact h) y z (q.fen hp) nd kk
end
/-! ### fewer, more are fenced -/
section
variable {B : Bs} {M M' : MF} {H : Hp}
mutual
theorem VR.sub (hm : M'.m = M.m) (hf : ∀ a, a ∉ M.f → a ∉ M'.f) : ∀ {v : V} {d : D}, VR B M H v d → VR B M' H v d
  | _, _, .non => .non
  | _, _, .bl b => .bl b
  | _, _, .int i => .int i
  | _, _, .str x => .str x
  | _, _, .ty n => .ty n
  | _, _, .gl e => .gl e
  | _, _, .ref e => .ref (by rw [hm]; exact e)
  | _, _, .tup e n r => .tup e ⟨by rw [hm]; exact n.1, hf _ n.2⟩ (VRs.sub hm hf r)
  | _, _, .ktup e r => .ktup e (VRs.sub hm hf r)
  | _, _, .lst e n r => .lst e ⟨by rw [hm]; exact n.1, hf _ n.2⟩ (VRs.sub hm hf r)
  | _, _, .dct e n y z r nd kk => .dct e ⟨by rw [hm]; exact n.1, hf _ n.2⟩ y z (DEs.sub hm hf r) nd kk
theorem VRs.sub (hm : M'.m = M.m) (hf : ∀ a, a ∉ M.f → a ∉ M'.f) : ∀ {v : List V} {d : List D}, VRs B M H v d → VRs B M' H v d
  | _, _, .nil => .nil
  | _, _, .cons r t => .cons (VR.sub hm hf r) (VRs.sub hm hf t)
theorem DEs.sub (hm : M'.m = M.m) (hf : ∀ a, a ∉ M.f → a ∉ M'.f) : ∀ {es : List DictEntry} {k v : List D}, DEs B M H es k v → DEs B M' H es k v
  | _, _, _, .nil => .nil
  | _, _, _, .cons a b r t e q => .cons a b (VR.sub hm hf r) (VR.sub hm hf t) e (DEs.sub hm hf q)
end
theorem ORo.sub (hm : M'.m = M.m) (hf : ∀ a, a ∉ M.f → a ∉ M'.f) {a : Addr} {o : AO} (r : ORo B M H a o) : ORo B M' H a o := by
  cases r with
  | lst h q => exact .lst h (q.sub hm hf)
  | dct h y z q nd kk => exact .dct h y z (q.sub hm hf) nd kk
end
/-- a new thing is fenced -/
def MF.add (M : MF) (p : Addr) : MF := ⟨M.m, p :: M.f⟩
section
variable {B : Bs} {M : MF} {H : Hp} {p : Addr} {o : HO} {S : Ob}
mutual
theorem VR.addF (h : H p = none) : ∀ {v : V} {d : D}, VR B M H v d → VR B (M.add p) (upd H p o) v d
  | _, _, .non => .non
  | _, _, .bl b => .bl b
  | _, _, .int i => .int i
  | _, _, .str x => .str x
  | _, _, .ty n => .ty n
  | _, _, .gl e => .gl e
  | _, _, .ref e => .ref e
  | _, _, .tup e n r => .tup (by rw [upd_ne (ne_of_none e h)]; exact e) ⟨n.1, fun z => (List.mem_cons.mp z).elim (ne_of_none e h) n.2⟩ (VRs.addF h r)
  | _, _, .ktup e r => .ktup e (VRs.addF h r)
  | _, _, .lst e n r => by
    have ne : ∀ {q : Addr} {u : HO}, Rd H q u → q ≠ p := fun {q u} r => by
      rcases r with r | ⟨o, r⟩
      · exact ne_of_none r h
      · exact ne_of_none r h
    refine .lst ?_ ⟨n.1, fun z => (List.mem_cons.mp z).elim (ne e) n.2⟩ (VRs.addF h r)
    rcases e with e | ⟨o, e⟩
    · exact .inl (by rw [upd_ne (ne_of_none e h)]; exact e)
    · exact .inr ⟨o, by rw [upd_ne (ne_of_none e h)]; exact e⟩
  | _, _, .dct e n y z r nd kk => .dct (by rw [upd_ne (ne_of_none e h)]; exact e) ⟨n.1, fun z => (List.mem_cons.mp z).elim (ne_of_none e h) n.2⟩ y z (DEs.addF h r) nd kk
theorem VRs.addF (h : H p = none) : ∀ {v : List V} {d : List D}, VRs B M H v d → VRs B (M.add p) (upd H p o) v d
  | _, _, .nil => .nil
  | _, _, .cons r t => .cons (VR.addF h r) (VRs.addF h t)
theorem DEs.addF (h : H p = none) : ∀ {es : List DictEntry} {k v : List D}, DEs B M H es k v → DEs B (M.add p) (upd H p o) es k v
  | _, _, _, .nil => .nil
  | _, _, _, .cons a b r t e q => .cons a b (VR.addF h r) (VR.addF h t) e (DEs.addF h q)
end
theorem OR.addF (r : OR B M H S) (h : H p = none) : OR B (M.add p) (upd H p o) S := by
  refine ⟨r.len, r.nd, fun a ha => ?_, fun k u a h1 h2 => ?_⟩
  · rcases List.mem_cons.mp ha with rfl | ha
    · exact ⟨(r.fresh h).1, by rw [upd_same]; exact fun z => nomatch z⟩
    · refine ⟨(r.fen a ha).1, ?_⟩
      rw [upd_ne (fun z => (r.fen a ha).2 (by rw [z]; exact h))]
      exact (r.fen a ha).2
  · have ne : a ≠ p := fun z => r.here a (List.mem_of_getElem? h2) (by rw [z]; exact h)
    cases r.at_ k u a h1 h2 with
    | lst h q => exact .lst (by rw [upd_ne ne]; exact h) (q.addF ‹_›)
    | dct h y z q nd kk => exact .dct (by rw [upd_ne ne]; exact h) y z (q.addF ‹_›) nd kk
theorem OR.drop {M0 : MF} (r : OR B M H S) (hm : M0.m = M.m) (hf : ∀ a, a ∈ M0.f → a ∈ M.f) : OR B M0 H S :=
  ⟨by rw [hm]; exact r.len, by rw [hm]; exact r.nd, fun a ha => by rw [hm]; exact r.fen a (hf a ha), fun k u a h1 h2 => (r.at_ k u a h1 (by rw [← hm]; exact h2)).sub hm fun a h z => h (hf a z)⟩
end
end QL
set_option Elab.async false
set_option linter.all false
set_option maxRecDepth 100000
set_option maxHeartbeats 4000000
/-! QL2: results, the judgements. -/
namespace QL
open PySem PySem.Spec L2
open PyProof.Rows hiding St

/-- what a computation comes to: a value, an error (class, its datum), or nothing is said -/
inductive Res (α : Type) where
  | ok (a : α) (S : Ob) | exc (c : Nat) (v : D) (S : Ob) | fail
def Res.bind {α β : Type} (r : Res α) (k : α → Ob → Res β) : Res β := match r with
  | .ok a S => k a S
  | .exc c v S => .exc c v S
  | .fail => .fail
@[simp] theorem Res.bind_ok {α β : Type} (a : α) (S : Ob) (k : α → Ob → Res β) : (Res.ok a S).bind k = k a S := rfl
@[simp] theorem Res.bind_exc {α β : Type} (c : Nat) (v : D) (S : Ob) (k : α → Ob → Res β) : (Res.exc c v S : Res α).bind k = .exc c v S := rfl
@[simp] theorem Res.bind_fail {α β : Type} (k : α → Ob → Res β) : (Res.fail : Res α).bind k = .fail := rfl
theorem Res.bind_assoc {α β γ : Type} (r : Res α) (k : α → Ob → Res β) (l : β → Ob → Res γ) : (r.bind k).bind l = r.bind fun a S => (k a S).bind l := by cases r <;> rfl

abbrev Env := List (Option D)
/-- the frame's slots -/
structure AR (B : Bs) (M : MF) (H : Hp) (σ : St) (ρ : Env) : Prop where
  len : σ.length = ρ.length
  at_ : ∀ (i : Nat) (d : D), ρ[i]? = some (some d) → ∃ v, σ[i]? = some (some v) ∧ VR B M H v d
theorem AR.step {B : Bs} {M M' : MF} {H H' : Hp} {σ : St} {ρ : Env} (s : Stp M H M' H') (r : AR B M H σ ρ) : AR B M' H' σ ρ :=
  ⟨r.len, fun i d e => let ⟨v, h1, h2⟩ := r.at_ i d e; ⟨v, h1, h2.step s⟩⟩
theorem AR.set {B : Bs} {M : MF} {H : Hp} {σ : St} {ρ : Env} (r : AR B M H σ ρ) {v : V} {d : D} (q : VR B M H v d) (i : Nat) : AR B M H (σ.set i (some v)) (ρ.set i (some d)) := by
  refine ⟨by rw [List.length_set, List.length_set, r.len], fun j e h => ?_⟩
  rw [List.getElem?_set] at h ⊢
  by_cases hij : i = j
  · subst hij
    rw [if_pos rfl] at h ⊢
    by_cases hl : i < ρ.length
    · rw [if_pos hl] at h
      rw [if_pos (by rw [r.len]; exact hl)]
      cases h
      exact ⟨v, rfl, q⟩
    · rw [if_neg hl] at h; cases h
  · rw [if_neg hij] at h ⊢
    exact r.at_ j e h
theorem AR.clear {B : Bs} {M : MF} {H : Hp} {σ : St} {ρ : Env} (r : AR B M H σ ρ) (i : Nat) (x : Option V) : AR B M H (σ.set i x) (ρ.set i none) := by
  refine ⟨by rw [List.length_set, List.length_set, r.len], fun j e h => ?_⟩
  rw [List.getElem?_set] at h ⊢
  by_cases hij : i = j
  · subst hij
    rw [if_pos rfl] at h
    split at h <;> cases h
  · rw [if_neg hij] at h ⊢
    exact r.at_ j e h

/-- an error as data: c its class, v its datum -/
def XR (B : Bs) (M : MF) (H : Hp) (c : Nat) (v : D) (cls : Value) (d : Option Addr) : Prop :=
  ∃ C, B.g c = some C ∧ cls = .ref C ∧ ((d = none ∧ v = .non) ∨ ∃ a f x, d = some a ∧ H a = some (.xd [(f, x)]) ∧ VR B M H x v)

/-- the wish behind a computation -/
def Post (B : Bs) (W : WX) (σ : St) (M : MF) (H : Hp) {α β : Type} (rel : MF → Hp → β → α → Prop) (r : Res α) (Q : β → Hp → Prop) : Prop := match r with
  | .ok d S' => ∀ v H' M', Stp M H M' H' → OR B M' H' S' → rel M' H' v d → Q v H'
  | .exc c x S' => ∀ cls d H' M', Stp M H M' H' → OR B M' H' S' → XR B M' H' c x cls d → W cls d σ H'
  | .fail => False
abbrev PostV (B : Bs) (W : WX) (σ : St) (M : MF) (H : Hp) (r : Res D) (Q : VK) : Prop := Post B W σ M H (VR B) r Q
abbrev PostL (B : Bs) (W : WX) (σ : St) (M : MF) (H : Hp) (r : Res (List D)) (Q : List V → Hp → Prop) : Prop := Post B W σ M H (VRs B) r Q

section
variable {B : Bs} {W : WX} {σ : St} {M : MF} {H : Hp} {α β γ δ : Type}
theorem Post.mono {rel : MF → Hp → β → α → Prop} {r : Res α} {Q Q' : β → Hp → Prop} (h : Post B W σ M H rel r Q) (q : ∀ v H', Q v H' → Q' v H') : Post B W σ M H rel r Q' := by
  cases r with
  | ok d S => exact fun v H' M' a b c => q _ _ (h v H' M' a b c)
  | exc c x S => exact h
  | fail => exact h
theorem Post.step {rel : MF → Hp → β → α → Prop} {r : Res α} {Q : β → Hp → Prop} {M1 : MF} {H1 : Hp} (h : Post B W σ M H rel r Q) (s : Stp M H M1 H1) : Post B W σ M1 H1 rel r Q := by
  cases r with
  | ok d S => exact fun v H' M' a b c => h v H' M' (s.trans a) b c
  | exc c x S => exact fun cls d H' M' a b e => h cls d H' M' (s.trans a) b e
  | fail => exact h
/-- two computations in a row -/
theorem Post.bind {rel : MF → Hp → β → α → Prop} {rel2 : MF → Hp → δ → γ → Prop} {r : Res α} {k : α → Ob → Res γ} {Q : δ → Hp → Prop} (h : Post B W σ M H rel2 (r.bind k) Q) :
    Post B W σ M H rel r (fun v H1 => ∃ x S1 M1, Stp M H M1 H1 ∧ OR B M1 H1 S1 ∧ rel M1 H1 v x ∧ Post B W σ M1 H1 rel2 (k x S1) Q) := by
  cases r with
  | ok d S => exact fun v H' M' a b c => ⟨d, S, M', a, b, c, Post.step h a⟩
  | exc c x S => exact h
  | fail => exact h
theorem Post.ret {rel : MF → Hp → β → α → Prop} {d : α} {S : Ob} {Q : β → Hp → Prop} (h : Post B W σ M H rel (.ok d S) Q) {v : β} {H' : Hp} {M' : MF} (s : Stp M H M' H') (o : OR B M' H' S) (r : rel M' H' v d) : Q v H' := h v H' M' s o r
end

/-- an expression's reading by a function on data -/
abbrev Den := Env → Ob → Res D
abbrev DenL := Env → Ob → Res (List D)
def tA (B : Bs) (W : WX) (f : Den) : TE := fun σ H Q => ∃ ρ S M, OR B M H S ∧ AR B M H σ ρ ∧ PostV B W σ M H (f ρ S) Q
def tAL (B : Bs) (W : WX) (f : DenL) : TA := fun σ H Q => ∃ ρ S M, OR B M H S ∧ AR B M H σ ρ ∧ PostL B W σ M H (f ρ S) Q

/-- what an expression's function is: as a value, as a test -/
structure AE (B : Bs) (W : WX) (X : Cx) (e : Expr) (f : Den) : Prop where
  val : PE X e (tA B W f)
  tst : PT X e (tB (tA B W f))
theorem _root_.L2.PE.imp {X : Cx} {e : Expr} {t t' : TE} (h : PE X e t) (i : ∀ σ H Q, t' σ H Q → t σ H Q) : PE X e t' := ⟨fun pins s σ H Q I q => h.run pins s σ H Q I (i σ H Q q)⟩
theorem _root_.L2.PT.imp {X : Cx} {e : Expr} {t t' : TT} (h : PT X e t) (i : ∀ σ H Q, t' σ H Q → t σ H Q) : PT X e t' := ⟨fun pins s σ H Q I q => h.run pins s σ H Q I (i σ H Q q)⟩
theorem _root_.L2.PA.imp {X : Cx} {es : List Expr} {t t' : TA} (h : PA X es t) (i : ∀ σ H Q, t' σ H Q → t σ H Q) : PA X es t' := ⟨fun pos pins s σ H Q I q => h.run pos pins s σ H Q I (i σ H Q q)⟩
theorem _root_.L2.PS.imp {X : Cx} {st : Stmt} {t t' : TS} (h : PS X st t) (i : ∀ D σ H, t' D σ H → t D σ H) : PS X st t' := ⟨fun pins s σ H D I q => h.run pins s σ H D I (i D σ H q)⟩
theorem _root_.L2.PSs.imp {X : Cx} {st : List Stmt} {t t' : TS} (h : PSs X st t) (i : ∀ D σ H, t' D σ H → t D σ H) : PSs X st t' := ⟨fun pins s σ H D I q => h.run pins s σ H D I (i D σ H q)⟩
/-- from the value alone -/
theorem AE.of {B : Bs} {W : WX} {X : Cx} {e : Expr} {f : Den} (h : PE X e (tA B W f)) (he : ∀ whole, isTrue e X.env whole = (do let v ← whole; standAt e.pos; holding [v] (truthy v))) : AE B W X e f := ⟨h, pt_val h he⟩
end QL
set_option Elab.async false
set_option linter.all false
set_option maxRecDepth 100000
set_option maxHeartbeats 4000000
/-! QL3: the language, what it comes to. -/
namespace QL
open PySem PySem.Spec L2
open PyProof.Rows hiding St

inductive BO where | add | sub | mul | fdv | mod | pow
  deriving DecidableEq
inductive CO where | eq | ne | lt | le | gt | ge | isin | notin | is | isnot
  deriving DecidableEq
/-- built-in functions and types, called -/
inductive Bi where | len | abs | int | min | max | tuple | list | dict | sorted | sum | all | any | isi | gcd | str | repr | dictz | listz | listi
  deriving DecidableEq
/-- methods of built-in types -/
inductive Me where | append | pop | get | index | items | extend | join | keys | values
  deriving DecidableEq
/-- what is walked -/
inductive It1 where | val | range | zip | enum | rev | items
  deriving DecidableEq
/-- targets -/
inductive Tg where
  | nm (i : Nat) | tp (ts : List Tg)

inductive LE where
  | var (i : Nat) | cst (d : D) | glb (x : Nat)
  | tup (es : List LE) | lst (m : Bool) (es : List LE) | dic (m : Bool) (kvs : List LE)
  | bin (o : BO) (a b : LE) | cmp (o : CO) (a b : LE) | chn (o : CO) (o' : CO) (a b c : LE)
  | neg (a : LE) | not (a : LE) | and (a b : LE) | or (a b : LE) | ite (c a b : LE)
  | ix (a i : LE) | slc (a : LE) (lo hi : Option LE)
  | call (f : Nat) (es : List LE) (ks : List Nat)
  | blt (m : Bool) (b : Bi) (es : List LE) | mth (m : Me) (o : LE) (es : List LE)
  | lc (m : Bool) (tg : Tg) (w : It1) (it : List LE) (ifs : List LE) (e : LE) (own : List Nat)
  | lc2 (m : Bool) (tg : Tg) (w : It1) (it : List LE) (ifs : List LE) (tg2 : Tg) (w2 : It1) (it2 : List LE) (ifs2 : List LE) (e : LE) (own own2 : List Nat)
  | dc (m : Bool) (tg : Tg) (w : It1) (it : List LE) (ifs : List LE) (k v : LE) (own : List Nat)

inductive LS where
  | set (i : Nat) (e : LE) | asg (tg : Tg) (e : LE) | seti (o i e : LE)
  | aug (i : Nat) (o : BO) (e : LE) | augi (o i : LE) (op : BO) (e : LE)
  | expr (e : LE) | ret (e : LE) | retN
  | ite (c : LE) (a b : List LS) | forr (tg : Tg) (w : It1) (it : List LE) (b : List LS) | whil (c : LE) (b : List LS)
  | brk | cont | pass
  | raise (c : Nat) (es : List LE)
  | bad

/-! ### operations on data -/
mutual
/-- data of None, truths, numbers, texts, tuples, lists -/
def D.flat : D → Bool
  | .non => true
  | .bl _ => true
  | .int _ => true
  | .str x => x.all fun c => Nat.blt c 1114112
  | .tup xs => D.flats xs
  | .lst xs => D.flats xs
  | _ => false
def D.flats : List D → Bool
  | [] => true
  | x :: xs => D.flat x && D.flats xs
end
mutual
def D.dep : D → Nat
  | .tup xs => D.deps xs + 1
  | .lst xs => D.deps xs + 1
  | _ => 0
def D.deps : List D → Nat
  | [] => 0
  | x :: xs => max (D.dep x) (D.deps xs)
end
mutual
/-- == -/
def D.eqv : D → D → Bool
  | .non, .non => true
  | .bl a, .bl b => a == b
  | .bl a, .int j => decide ((if a then 1 else 0) = j)
  | .int i, .bl b => decide (i = (if b then 1 else 0))
  | .int i, .int j => decide (i = j)
  | .str x, .str y => decide (x = y)
  | .lst xs, .lst ys => D.eqvs xs ys
  | .tup xs, .tup ys => D.eqvs xs ys
  | _, _ => false
def D.eqvs : List D → List D → Bool
  | [], [] => true
  | x :: xs, y :: ys => D.eqv x y && D.eqvs xs ys
  | _, _ => false
end
mutual
def D.pd : D → PyData
  | .bl b => .bool b
  | .int i => .int i
  | .str x => .str (toS x)
  | .tup xs => .tuple (D.pds xs)
  | .lst xs => .list (D.pds xs)
  | _ => .none
def D.pds : List D → List PyData
  | [] => []
  | x :: xs => D.pd x :: D.pds xs
end

/-- a mutable list or dict read as it stands -/
def rd (S : Ob) : D → D
  | .ref k => match S[k]? with
    | some (.lst xs) => .lst xs
    | some (.dct ks vs) => .dct ks vs
    | _ => .ref k
  | d => d
def eqD (S : Ob) (x y : D) : Option Bool :=
  if (rd S x).flat && (rd S y).flat && Nat.ble (min (rd S x).dep (rd S y).dep) 60 then some ((rd S x).eqv (rd S y)) else none
/-- the place of a key -/
def at? (ks vs : List D) (k : D) : Option D := (ks.zip vs).lookup k
def inD (S : Ob) (x y : D) : Option Bool := match rd S y with
  | .tup ys => if (rd S x).flat && D.flats ys && Nat.ble (rd S x).dep 60 then some (ys.any fun z => z.eqv (rd S x)) else none
  | .lst ys => if (rd S x).flat && D.flats ys && Nat.ble (rd S x).dep 60 then some (ys.any fun z => z.eqv (rd S x)) else none
  | .dct ks _ => if keysOk (x :: ks) then some (decide (x ∈ ks)) else none
  | .str z => match x with
    | .str [c] => some (decide (c ∈ z))
    | _ => none
  | _ => none
def boolsOf : List D → Option (List Bool)
  | [] => some []
  | .bl b :: r => (boolsOf r).map (b :: ·)
  | _ => none
def intsOf : List D → Option (List Int)
  | [] => some []
  | .int b :: r => (intsOf r).map (b :: ·)
  | _ => none
def cmpD (S : Ob) (o : CO) (x y : D) : Option Bool := match o with
  | .eq => eqD S x y
  | .ne => (eqD S x y).map (!·)
  | .isin => inD S x y
  | .notin => (inD S x y).map (!·)
  | .is => match y with
    | .non => some (match x with | .non => true | _ => false)
    | _ => none
  | .isnot => match y with
    | .non => some (match x with | .non => false | _ => true)
    | _ => none
  | .lt => match x, y with
    | .int i, .int j => some (decide (i < j))
    | .tup xs, .tup ys => match intsOf xs, intsOf ys with
      | some ns, some ms => some (HT.lexLt ns ms)
      | _, _ => none
    | _, _ => none
  | .le => match x, y with
    | .int i, .int j => some (decide (i ≤ j))
    | _, _ => none
  | .gt => match x, y with
    | .int i, .int j => some (decide (j < i))
    | _, _ => none
  | .ge => match x, y with
    | .int i, .int j => some (decide (j ≤ i))
    | _, _ => none
def mulOk (i j : Int) : Bool := Nat.ble (i.natAbs.log2 + j.natAbs.log2) 999999
def divOk (j : Int) : Bool := decide (j ≠ 0) && Nat.ble j.natAbs.log2 8999
def lim : Nat := 1000000
def repD (xs : List D) (k : Int) : List D := (List.replicate k.toNat xs).flatten
def binD (S : Ob) (o : BO) (x y : D) : Option D := match o, rd S x, rd S y with
  | .add, .int i, .int j => some (.int (i + j))
  | .add, .str i, .str j => if Nat.ble (i.length + j.length) lim then some (.str (i ++ j)) else none
  | .add, .tup i, .tup j => if Nat.ble (i.length + j.length) lim then some (.tup (i ++ j)) else none
  | .add, .lst i, .lst j => if Nat.ble (i.length + j.length) lim then some (.lst (i ++ j)) else none
  | .sub, .int i, .int j => some (.int (i - j))
  | .mul, .int i, .int j => if mulOk i j then some (.int (i * j)) else none
  | .mul, .tup xs, .int k => if decide (0 ≤ k) && decide (k ≤ 1000) && Nat.ble xs.length 1000 then some (.tup (repD xs k)) else none
  | .mul, .lst xs, .int k => if decide (0 ≤ k) && decide (k ≤ 1000) && Nat.ble xs.length 1000 then some (.lst (repD xs k)) else none
  | .fdv, .int i, .int j => if divOk j then some (.int (i.fdiv j)) else none
  | .mod, .int i, .int j => if decide (j ≠ 0) then some (.int (i.fmod j)) else none
  | .pow, .int i, .int j => if decide (0 ≤ j) && decide (j ≤ 1000000) && decide (i.natAbs < 2 ^ 64) then some (.int (i ^ j.toNat)) else none
  | _, _, _ => none
/-- the place that an index names -/
def ixOf (n : Nat) (i : Int) : Option Nat := L2.ixN n i
def ixD (S : Ob) (x y : D) : Option D := match rd S x, y with
  | .tup xs, .int i => (ixOf xs.length i).bind fun j => xs[j]?
  | .lst xs, .int i => (ixOf xs.length i).bind fun j => xs[j]?
  | .str z, .int i => if Nat.ble z.length lim then (ixOf z.length i).bind fun j => z[j]?.map fun c => .str [c] else none
  | .dct ks vs, k => if keysOk (k :: ks) then at? ks vs k else none
  | _, _ => none
def cutD {α : Type} (xs : List α) (lo hi : Option Int) : List α := (xs.drop (HT.sIx xs.length 0 lo)).take (HT.sIx xs.length xs.length hi - HT.sIx xs.length 0 lo)
def slcD (S : Ob) (x : D) (lo hi : Option Int) : Option D := match rd S x with
  | .tup xs => some (.tup (cutD xs lo hi))
  | .lst xs => some (.lst (cutD xs lo hi))
  | .str z => if Nat.ble z.length lim then some (.str (cutD z lo hi)) else none
  | _ => none
def insI (a : Int) : List Int → List Int
  | [] => [a]
  | b :: r => match decide (a ≤ b) with
    | true => a :: b :: r
    | false => b :: insI a r
def sortI : List Int → List Int
  | [] => []
  | a :: r => insI a (sortI r)
/-- pairs (k, v), later ones over earlier ones -/
def putD (ks vs : List D) (k v : D) : List D × List D := match ks, vs with
  | x :: ks, y :: vs => if x = k then (x :: ks, v :: vs) else let r := putD ks vs k v; (x :: r.1, y :: r.2)
  | _, _ => ([k], [v])
def pairsOf : List D → Option (List (D × D))
  | [] => some []
  | .tup [k, v] :: r => (pairsOf r).map ((k, v) :: ·)
  | _ => none
/-- pairs stored one behind the other -/
def foldP : List (D × D) → List D → List D → List D × List D
  | [], ks, vs => (ks, vs)
  | (k, v) :: r, ks, vs => let p := putD ks vs k v; foldP r p.1 p.2
def dctP (ps : List (D × D)) : Option D := if keysOk (ps.map (·.1)) && Nat.ble ps.length lim then (let p := foldP ps [] []; some (.dct p.1 p.2)) else none
def seqOf : D → Option (List D)
  | .tup xs => some xs
  | .lst xs => some xs
  | _ => none
/-- the class of a datum, among built-in ones -/
def tyOf (S : Ob) (d : D) : Option Ty := match rd S d with
  | .non => some .none
  | .bl _ => some .bool
  | .int _ => some .int
  | .str _ => some .str
  | .tup _ => some .tuple
  | .lst _ => some .list
  | .dct _ _ => some .dict
  | _ => none
def subTy (a b : Ty) : Bool := decide (a = b) || (decide (a = .bool) && decide (b = .int))
def isiAny (a : Ty) : List D → Option Bool
  | [] => some false
  | .ty b :: r => (isiAny a r).map fun q => subTy a b || q
  | _ => none
def isiD (S : Ob) (x t : D) : Option Bool := match tyOf S x, t with
  | some a, .ty b => some (subTy a b)
  | some a, .tup ts => isiAny a ts
  | _, _ => none
def bltD (S : Ob) (b : Bi) (xs : List D) : Option D := match b, xs with
  | .len, [x] => match rd S x with
    | .tup ys => some (.int ys.length)
    | .lst ys => some (.int ys.length)
    | .dct ks _ => some (.int ks.length)
    | .str z => if Nat.ble z.length lim then some (.int z.length) else none
    | _ => none
  | .abs, [.int i] => some (.int (if i < 0 then -i else i))
  | .int, [.int i] => some (.int i)
  | .int, [.bl k] => some (.int (if k then 1 else 0))
  | .min, [.int i, .int j] => some (.int (if j < i then j else i))
  | .max, [.int i, .int j] => some (.int (if j > i then j else i))
  | .tuple, [x] => match rd S x with
    | .tup ys => some (.tup ys)
    | .lst ys => some (.tup ys)
    | _ => none
  | .list, [x] => match rd S x with
    | .tup ys => some (.lst ys)
    | .lst ys => some (.lst ys)
    | _ => none
  | .dict, [x] => match rd S x with
    | .lst ys => (pairsOf ys).bind dctP
    | _ => none
  | .dictz, [x, y] => match seqOf (rd S x), seqOf (rd S y) with
    | some xs, some ys => dctP (xs.zip ys)
    | _, _ => none
  | .sorted, [x] => match rd S x with
    | .lst ys => (intsOf ys).bind fun ns => if Nat.ble ns.length 63 then some (.lst ((sortI ns).map .int)) else none
    | _ => none
  | .sum, [x] => match rd S x with
    | .lst ys => (intsOf ys).map fun ns => .int ns.sum
    | _ => none
  | .all, [x] => match rd S x with
    | .lst ys => (boolsOf ys).map fun bs => .bl (bs.all id)
    | _ => none
  | .any, [x] => match rd S x with
    | .lst ys => (boolsOf ys).map fun bs => .bl (bs.any id)
    | _ => none
  | .isi, [x, t] => (isiD S x t).map .bl
  | .gcd, [.int i, .int j] => some (.int ((Nat.gcd i.natAbs j.natAbs : Nat) : Int))
  | .repr, [x] => if (rd S x).flat && PyData.showable (rd S x).pd && Nat.ble (rd S x).dep 60 && Nat.ble (PyData.shown (rd S x).pd).length lim then some (.str (PyData.shown (rd S x).pd).cps.toList) else none
  | .str, [.int i] => if decide (i.natAbs.log2 < 1920) then some (.str (Str.ofString (toString i)).cps.toList) else none
  | .str, [.str z] => some (.str z)
  | _, _ => none
end QL
set_option Elab.async false
set_option linter.all false
set_option maxRecDepth 100000
set_option maxHeartbeats 4000000
/-! QL4: what an expression, a statement, a def comes to. -/
namespace QL
open PySem PySem.Spec L2
open PyProof.Rows hiding St

/-! ### targets -/
mutual
def asgTg : Tg → D → Env → Option Env
  | .nm i, d, ρ => some (ρ.set i (some d))
  | .tp ts, .tup ds, ρ => asgTgs ts ds ρ
  | .tp ts, .lst ds, ρ => asgTgs ts ds ρ
  | .tp _, _, _ => none
def asgTgs : List Tg → List D → Env → Option Env
  | [], [], ρ => some ρ
  | t :: ts, d :: ds, ρ => (asgTg t d ρ).bind (asgTgs ts ds)
  | _, _, _ => none
end
mutual
def tgIx : Tg → List Nat
  | .nm i => [i]
  | .tp ts => tgIxs ts
def tgIxs : List Tg → List Nat
  | [] => []
  | t :: ts => tgIx t ++ tgIxs ts
end
def wipeE (ρ : Env) : List Nat → Env
  | [] => ρ
  | v :: vs => (wipeE ρ vs).set v none

/-! ### what is walked -/
def rangeL (lo : Int) (n : Nat) (c : Int) : List D := (List.range n).map fun (i : Nat) => .int (lo + (i : Int) * c)
/-- how many turns from i to j by c -/
def turnsOf (i j c : Int) : Nat := if 0 < c then (j - i + (c - 1)).toNat / c.toNat else (i - j + (-c - 1)).toNat / (-c).toNat
@[irreducible] def small (i : Int) : Bool := decide (-(2 ^ 62) ≤ i) && decide (i < 2 ^ 62)
def itD (S : Ob) (w : It1) (xs : List D) : Option (List D) := match w, xs with
  | .val, [x] => match rd S x with
    | .tup ys => some ys
    | .lst ys => some ys
    | .dct ks _ => (match x with
      | .ref _ => none
      | _ => some ks)
    | .str z => some (z.map fun c => .str [c])
    | _ => none
  | .range, [.int j] => if small j then some (rangeL 0 j.toNat 1) else none
  | .range, [.int i, .int j] => if small i && small j then some (rangeL i (j - i).toNat 1) else none
  | .range, [.int i, .int j, .int c] => if small i && small j && small c && decide (c = -1) then some (rangeL i (i - j).toNat c) else none
  | .zip, [x, y] => match rd S x, rd S y with
    | .tup xs, .tup ys => some ((xs.zip ys).map fun p => .tup [p.1, p.2])
    | .tup xs, .lst ys => some ((xs.zip ys).map fun p => .tup [p.1, p.2])
    | .lst xs, .tup ys => some ((xs.zip ys).map fun p => .tup [p.1, p.2])
    | .lst xs, .lst ys => some ((xs.zip ys).map fun p => .tup [p.1, p.2])
    | _, _ => none
  | .zip, [x, y, z] => match seqOf (rd S x), seqOf (rd S y), seqOf (rd S z) with
    | some xs, some ys, some zs => some ((xs.zip (ys.zip zs)).map fun p => .tup [p.1, p.2.1, p.2.2])
    | _, _, _ => none
  | .enum, [x] => match rd S x with
    | .tup xs => some ((List.range xs.length).zip xs |>.map fun p => .tup [.int (p.1 : Nat), p.2])
    | .lst xs => some ((List.range xs.length).zip xs |>.map fun p => .tup [.int (p.1 : Nat), p.2])
    | _ => none
  | .rev, [x] => match rd S x with
    | .tup xs => some xs.reverse
    | .lst xs => some xs.reverse
    | _ => none
  | .items, [.dct ks vs] => some ((ks.zip vs).map fun p => .tup [p.1, p.2])
  | _, _ => none
/-- the mutable objects that are walked, as they stand -/
def guards (S : Ob) (xs : List D) : List (Nat × AO) := xs.filterMap fun x => match x with
  | .ref k => (S[k]?).map fun o => (k, o)
  | _ => none
def gdOk (gs : List (Nat × AO)) (S : Ob) : Bool := gs.all fun p => decide (S[p.1]? = some p.2)

/-! ### loops -/
/-- within a comprehension nothing is raised -/
def Res.bindN {α β : Type} (r : Res α) (k : α → Ob → Res β) : Res β := match r with
  | .ok a S => k a S
  | .exc _ _ _ => .fail
  | .fail => .fail
@[simp] theorem Res.bindN_ok {α β : Type} (a : α) (S : Ob) (k : α → Ob → Res β) : (Res.ok a S).bindN k = k a S := rfl
@[simp] theorem Res.bindN_exc {α β : Type} (c : Nat) (v : D) (S : Ob) (k : α → Ob → Res β) : (Res.exc c v S : Res α).bindN k = .fail := rfl
@[simp] theorem Res.bindN_fail {α β : Type} (k : α → Ob → Res β) : (Res.fail : Res α).bindN k = .fail := rfl
def lcL (gs : List (Nat × AO)) (step : D → Ob → Res (Option D)) : List D → List D → Ob → Res (List D)
  | [], acc, S => if gdOk gs S then .ok acc S else .fail
  | x :: xs, acc, S => if gdOk gs S && Nat.blt acc.length lim then (step x S).bindN fun y S1 => lcL gs step xs (match y with | some d => acc ++ [d] | none => acc) S1 else .fail
def lc2L (gs : List (Nat × AO)) (step : D → List D → Ob → Res (List D)) : List D → List D → Ob → Res (List D)
  | [], acc, S => if gdOk gs S then .ok acc S else .fail
  | x :: xs, acc, S => if gdOk gs S then (step x acc S).bindN fun acc1 S1 => lc2L gs step xs acc1 S1 else .fail
def dcL (gs : List (Nat × AO)) (step : D → Ob → Res (Option (D × D))) : List D → List D → List D → Ob → Res (List D × List D)
  | [], ks, vs, S => if gdOk gs S then .ok (ks, vs) S else .fail
  | x :: xs, ks, vs, S => if gdOk gs S && Nat.blt ks.length lim then (step x S).bindN fun y S1 => (match y with
    | some (k, v) => if keysOk (k :: ks) then let p := putD ks vs k v; dcL gs step xs p.1 p.2 S1 else .fail
    | none => dcL gs step xs ks vs S1) else .fail

inductive SR where
  | nx (ρ : Env) (S : Ob) | rt (d : D) (S : Ob) | bk (ρ : Env) (S : Ob) | ct (ρ : Env) (S : Ob) | exc (ρ : Env) (c : Nat) (v : D) (S : Ob) | fail
/-- an expression ahead of what follows -/
def Res.st {α : Type} (r : Res α) (ρ : Env) (k : α → Ob → SR) : SR := match r with
  | .ok a S => k a S
  | .exc c v S => .exc ρ c v S
  | .fail => .fail
@[simp] theorem Res.st_ok {α : Type} (ρ : Env) (a : α) (S : Ob) (k : α → Ob → SR) : (Res.ok a S).st ρ k = k a S := rfl
@[simp] theorem Res.st_exc {α : Type} (ρ : Env) (c : Nat) (v : D) (S : Ob) (k : α → Ob → SR) : (Res.exc c v S : Res α).st ρ k = .exc ρ c v S := rfl
@[simp] theorem Res.st_fail {α : Type} (ρ : Env) (k : α → Ob → SR) : (Res.fail : Res α).st ρ k = .fail := rfl
def SR.seq (r : SR) (k : Env → Ob → SR) : SR := match r with
  | .nx ρ S => k ρ S
  | r => r
def forL (gs : List (Nat × AO)) (tg : D → Env → Option Env) (body : Env → Ob → SR) : List D → Env → Ob → SR
  | [], ρ, S => if gdOk gs S then .nx ρ S else .fail
  | x :: xs, ρ, S => if gdOk gs S then (match tg x ρ with
    | some ρ1 => (match body ρ1 S with
      | .nx ρ2 S2 => forL gs tg body xs ρ2 S2
      | .ct ρ2 S2 => forL gs tg body xs ρ2 S2
      | .bk ρ2 S2 => .nx ρ2 S2
      | r => r)
    | none => .fail) else .fail
def whileL (test : Env → Ob → Res D) (body : Env → Ob → SR) : Nat → Env → Ob → SR
  | 0, _, _ => .fail
  | n + 1, ρ, S => (test ρ S).st ρ fun t S1 => match t with
    | .bl true => (match body ρ S1 with
      | .nx ρ2 S2 => whileL test body n ρ2 S2
      | .ct ρ2 S2 => whileL test body n ρ2 S2
      | .bk ρ2 S2 => .nx ρ2 S2
      | r => r)
    | .bl false => .nx ρ S1
    | _ => .fail

/-! ### methods, stores -/
/-- whose method it is -/
inductive RT where | lst | tup | dct
  deriving DecidableEq
def rcv (m : Me) (g : Bool) (d : D) : Option RT := match m, d with
  | .append, .lst _ => some .lst
  | .pop, .lst _ => some .lst
  | .get, .dct _ _ => some .dct
  | .index, .lst _ => some .lst
  | .index, .tup _ => match g with
    | true => some .tup
    | false => none
  | _, _ => none
/-- the first place of an equal one -/
def idxD (ys : List D) (x : D) : Option D := if x.flat && D.flats ys && Nat.ble x.dep 60 && Nat.ble (D.deps ys) 60 then (ys.findIdx? fun z => z.eqv x).map fun j => .int (j : Nat) else none
/-- a list, a dict changed; what the method tells -/
def mthD (S : Ob) (t : RT) (m : Me) (o : D) (xs : List D) : Option (D × Ob) := match t, m, o, xs with
  | .lst, .append, .ref k, [x] => match S[k]? with
    | some (.lst ys) => if Nat.blt ys.length lim then some (.non, S.set k (.lst (ys ++ [x]))) else none
    | _ => none
  | .lst, .pop, .ref k, [] => match S[k]? with
    | some (.lst ys) => (ys[ys.length - 1]?).map fun y => (y, S.set k (.lst ys.dropLast))
    | _ => none
  | .lst, .pop, .ref k, [.int i] => match S[k]? with
    | some (.lst ys) => (ixOf ys.length i).bind fun j => (ys[j]?).map fun y => (y, S.set k (.lst (ys.eraseIdx j)))
    | _ => none
  | .dct, .get, o, [x] => match rd S o with
    | .dct ks vs => if keysOk (x :: ks) then some ((at? ks vs x).getD .non, S) else none
    | _ => none
  | .dct, .get, o, [x, y] => match rd S o with
    | .dct ks vs => if keysOk (x :: ks) then some ((at? ks vs x).getD y, S) else none
    | _ => none
  | .tup, .index, .tup ys, [x] => (idxD ys x).map fun j => (j, S)
  | .lst, .index, o, [x] => match rd S o with
    | .lst ys => (idxD ys x).map fun j => (j, S)
    | _ => none
  | _, _, _, _ => none
/-- o[i] = d -/
def setD (S : Ob) (o i d : D) : Option Ob := match o with
  | .ref k => match S[k]?, i with
    | some (.lst ys), .int j => (ixOf ys.length j).map fun p => S.set k (.lst (ys.set p d))
    | some (.dct ks vs), i => if keysOk (i :: ks) && Nat.blt ks.length lim then let p := putD ks vs i d; some (S.set k (.dct p.1 p.2)) else none
    | _, _ => none
  | _ => none
def Opt.res {α : Type} (o : Option α) (S : Ob) : Res α := match o with
  | some a => .ok a S
  | none => .fail

/-- the program's defs, constants -/
structure LDef where
  np : Nat
  dflts : List D
  nslots : Nat
  body : List LS
  frz : Bool
/-- a program: its defs, constants by number; error classes: have they a datum? -/
structure LProg where
  defs : List (Nat × LDef)
  consts : List (Nat × D)
  excs : List (Nat × Bool)
  fuel : Nat
def look {α : Type} : List (Nat × α) → Nat → Option α
  | [], _ => none
  | (k, a) :: r, n => match Nat.beq k n with
    | true => some a
    | false => look r n

/-- a call's function: the def's number, the arguments, the parameters that the last ones go to -/
abbrev CF := Nat → List D → List Nat → Ob → Res D

/-- new data: plain, or a mutable object -/
def mkO (m : Bool) (d : D) (S : Ob) : Res D := match m with
  | false => .ok d S
  | true => match d with
    | .lst xs => .ok (.ref S.length) (S ++ [.lst xs])
    | .dct ks vs => .ok (.ref S.length) (S ++ [.dct ks vs])
    | _ => .fail
def toInt? : Option D → Option (Option Int)
  | none => some none
  | some (.int i) => some (some i)
  | _ => none
/-- a dict's display -/
def dispO (m : Bool) (ps : List (D × D)) (S : Ob) : Res D := if ps.all (fun p => keyLeaf p.1) && Nat.ble ps.length 15 then mkO m (.dct (foldP ps [] []).1 (foldP ps [] []).2) S else .fail
/-- a slice's end: an int, or left out -/
def ckI (d : Option D) (S : Ob) : Res (Option D) := match toInt? d with
  | some _ => .ok d S
  | none => .fail
/-- a module's constant -/
def isG : LE → Bool
  | .glb _ => true
  | _ => false
/-- what is walked, and what must stay as it is -/
def itOf (w : It1) (r : Res (List D)) : Res (List D × List (Nat × AO)) := r.bind fun xs S => match itD S w xs with
  | some ys => .ok (ys, guards S xs) S
  | none => .fail
section
variable (P : LProg) (cf : CF)
mutual
def evE : LE → Env → Ob → Res D
  | .var i, ρ, S => match ρ[i]? with
    | some (some d) => .ok d S
    | _ => .fail
  | .cst d, _, S => .ok d S
  | .glb x, _, S => Opt.res (look P.consts x) S
  | .tup es, ρ, S => (evEs es ρ S).bind fun ds S => .ok (.tup ds) S
  | .lst m es, ρ, S => (evEs es ρ S).bind fun ds S => mkO m (.lst ds) S
  | .dic m kvs, ρ, S => (evPs kvs ρ S).bindN fun ps S => dispO m ps S
  | .bin o a b, ρ, S => (evE a ρ S).bind fun x S => (evE b ρ S).bind fun y S => Opt.res (binD S o x y) S
  | .cmp o a b, ρ, S => (evE a ρ S).bind fun x S => (evE b ρ S).bind fun y S => Opt.res ((cmpD S o x y).map .bl) S
  | .chn o o' a b c, ρ, S => (evE a ρ S).bind fun x S => (evE b ρ S).bind fun y S => match cmpD S o x y with
    | some true => (evE c ρ S).bind fun z S => Opt.res ((cmpD S o' y z).map .bl) S
    | some false => .ok (.bl false) S
    | none => .fail
  | .neg a, ρ, S => (evE a ρ S).bind fun x S => match x with
    | .int i => .ok (.int (-i)) S
    | _ => .fail
  | .not a, ρ, S => (evE a ρ S).bind fun x S => match x with
    | .bl b => .ok (.bl (!b)) S
    | _ => .fail
  | .and a b, ρ, S => (evE a ρ S).bind fun x S => match x with
    | .bl true => evE b ρ S
    | .bl false => .ok (.bl false) S
    | _ => .fail
  | .or a b, ρ, S => (evE a ρ S).bind fun x S => match x with
    | .bl true => .ok (.bl true) S
    | .bl false => evE b ρ S
    | _ => .fail
  | .ite c a b, ρ, S => (evE c ρ S).bind fun x S => match x with
    | .bl true => evE a ρ S
    | .bl false => evE b ρ S
    | _ => .fail
  | .ix a i, ρ, S => (evE a ρ S).bind fun x S => (evE i ρ S).bind fun y S => Opt.res (ixD S x y) S
  | .slc a lo hi, ρ, S => (evE a ρ S).bind fun x S => ((evO lo ρ S).bind ckI).bind fun l S => ((evO hi ρ S).bind ckI).bind fun h S => match toInt? l, toInt? h with
    | some l, some h => Opt.res (slcD S x l h) S
    | _, _ => .fail
  | .call f es ks, ρ, S => (evEs es ρ S).bind fun ds S => cf f ds ks S
  | .blt m b es, ρ, S => (evEs es ρ S).bind fun ds S => (Opt.res (bltD S b ds) S).bind fun d S => mkO m d S
  | .mth m o es, ρ, S => (evE o ρ S).bind fun x S => match rcv m (isG o) (rd S x) with
    | some t => (evEs es ρ S).bind fun ds S => match mthD S t m x ds with
      | some (d, S) => .ok d S
      | none => .fail
    | none => .fail
  | .lc m tg w it ifs e own, ρ, S => (itOf w (evEs it ρ S)).bind fun p S => (lcL p.2 (fun x S => match asgTg tg x (wipeE ρ own) with
        | some ρ1 => (evC ifs ρ1 S).bind fun b S => if b then (evE e ρ1 S).bind fun d S => .ok (some d) S else .ok none S
        | none => .fail) p.1 [] S).bind fun ds S => mkO m (.lst ds) S
  | .lc2 m tg w it ifs tg2 w2 it2 ifs2 e own own2, ρ, S => (itOf w (evEs it ρ S)).bind fun p S => (lc2L p.2 (fun x acc S => match asgTg tg x (wipeE ρ own) with
        | some ρ1 => (evC ifs ρ1 S).bind fun b S => if b then (itOf w2 (evEs it2 ρ1 S)).bind fun p2 S => lcL p2.2 (fun x2 S => match asgTg tg2 x2 (wipeE ρ1 own2) with
            | some ρ2 => (evC ifs2 ρ2 S).bind fun b S => if b then (evE e ρ2 S).bind fun d S => .ok (some d) S else .ok none S
            | none => .fail) p2.1 acc S else .ok acc S
        | none => .fail) p.1 [] S).bind fun ds S => mkO m (.lst ds) S
  | .dc m tg w it ifs k v own, ρ, S => (itOf w (evEs it ρ S)).bind fun p S => (dcL p.2 (fun x S => match asgTg tg x (wipeE ρ own) with
        | some ρ1 => (evC ifs ρ1 S).bind fun b S => if b then (evE k ρ1 S).bind fun kd S => (evE v ρ1 S).bind fun vd S => .ok (some (kd, vd)) S else .ok none S
        | none => .fail) p.1 [] [] S).bind fun p S => mkO m (.dct p.1 p.2) S
def evEs : List LE → Env → Ob → Res (List D)
  | [], _, S => .ok [] S
  | e :: es, ρ, S => (evE e ρ S).bind fun d S => (evEs es ρ S).bind fun ds S => .ok (d :: ds) S
def evO : Option LE → Env → Ob → Res (Option D)
  | none, _, S => .ok none S
  | some e, ρ, S => (evE e ρ S).bind fun d S => .ok (some d) S
/-- a display's pairs -/
def evPs : List LE → Env → Ob → Res (List (D × D))
  | [], _, S => .ok [] S
  | [_], _, _ => .fail
  | k :: v :: r, ρ, S => (evE k ρ S).bind fun kd S => (evE v ρ S).bind fun vd S => (evPs r ρ S).bind fun ps S => .ok ((kd, vd) :: ps) S
/-- a comprehension's tests -/
def evC : List LE → Env → Ob → Res Bool
  | [], _, S => .ok true S
  | e :: es, ρ, S => (evE e ρ S).bind fun d S => match d with
    | .bl true => evC es ρ S
    | .bl false => .ok false S
    | _ => .fail
end

/-- a op= b: ints -/
def augD (o : BO) (x y : D) : Option D := match o, x, y with
  | .add, .int i, .int j => some (.int (i + j))
  | .sub, .int i, .int j => some (.int (i - j))
  | _, _, _ => none
mutual
def evS : LS → Env → Ob → SR
  | .set i e, ρ, S => (evE P cf e ρ S).st ρ fun d S => .nx (ρ.set i (some d)) S
  | .asg tg e, ρ, S => (evE P cf e ρ S).st ρ fun d S => match asgTg tg d ρ with
    | some ρ1 => .nx ρ1 S
    | none => .fail
  | .seti o i e, ρ, S => (evE P cf e ρ S).st ρ fun d S => (evE P cf o ρ S).st ρ fun x S => (evE P cf i ρ S).st ρ fun y S => match setD S x y d with
    | some S => .nx ρ S
    | none => .fail
  | .aug i o e, ρ, S => match ρ[i]? with
    | some (some x) => (evE P cf e ρ S).st ρ fun y S => match augD o x y with
      | some z => .nx (ρ.set i (some z)) S
      | none => .fail
    | _ => .fail
  | .augi _ _ _ _, _, _ => .fail
  | .expr e, ρ, S => (evE P cf e ρ S).st ρ fun _ S => .nx ρ S
  | .ret e, ρ, S => (evE P cf e ρ S).st ρ fun d S => .rt d S
  | .retN, _, S => .rt .non S
  | .ite c a b, ρ, S => (evE P cf c ρ S).st ρ fun t S => match t with
    | .bl true => evSs a ρ S
    | .bl false => evSs b ρ S
    | _ => .fail
  | .forr tg w it b, ρ, S => (itOf w (evEs P cf it ρ S)).st ρ fun p S => forL p.2 (asgTg tg) (fun ρ S => evSs b ρ S) p.1 ρ S
  | .whil c b, ρ, S => whileL (fun ρ S => evE P cf c ρ S) (fun ρ S => evSs b ρ S) P.fuel ρ S
  | .brk, ρ, S => .bk ρ S
  | .cont, ρ, S => .ct ρ S
  | .pass, ρ, S => .nx ρ S
  | .bad, _, _ => .fail
  | .raise c es, ρ, S => (evEs P cf es ρ S).st ρ fun ds S => match look P.excs c, ds with
    | some false, [.str _] => .exc ρ c .non S
    | some true, [.str _] => .exc ρ c .non S
    | some true, [.str _, v] => .exc ρ c v S
    | _, _ => .fail
def evSs : List LS → Env → Ob → SR
  | [], ρ, S => .nx ρ S
  | s :: ss, ρ, S => (evS s ρ S).seq fun ρ S => evSs ss ρ S
end
end

/-! ### a def's end: what it made is forgotten -/
mutual
/-- all mutable ones that it names stand below n -/
def D.under (n : Nat) : D → Bool
  | .tup xs => D.unders n xs
  | .lst xs => D.unders n xs
  | .dct ks vs => D.unders n ks && D.unders n vs
  | .ref k => Nat.blt k n
  | .exc _ v => D.under n v
  | _ => true
def D.unders (n : Nat) : List D → Bool
  | [] => true
  | x :: xs => D.under n x && D.unders n xs
end
def AO.under (n : Nat) : AO → Bool
  | .lst xs => D.unders n xs
  | .dct ks vs => D.unders n ks && D.unders n vs
  | .ins _ fs => D.unders n (fs.map (·.2))
/-- a value with the def's own lists and dicts as plain data -/
def thaw (n : Nat) (S : Ob) : Nat → D → Option D
  | 0, d => if d.under n then some d else none
  | m + 1, d => if d.under n then some d else match d with
    | .ref k => match S[k]? with
      | some (.lst xs) => (xs.mapM (thaw n S m)).map .lst
      | some (.dct ks vs) => if D.unders n ks && keysOk ks then (vs.mapM (thaw n S m)).map (.dct ks) else none
      | _ => none
    | .tup xs => (xs.mapM (thaw n S m)).map .tup
    | _ => none
def keptOb (n : Nat) (S0 S : Ob) : Bool := ((S.take n).zip S0).all fun p => decide (p.1 = p.2) || p.1.under n
def finD (frz : Bool) (S0 : Ob) (v : D) (S : Ob) : Res D := match frz with
  | false => .ok v S
  | true => if S.length = S0.length then .ok v S else
    (if keptOb S0.length S0 S && Nat.ble S0.length S.length then match thaw S0.length S 4 v with
      | some v' => .ok v' (S.take S0.length)
      | none => .fail
    else .fail)
/-- a def's end, told apart -/
def finS (frz : Bool) (S0 : Ob) : SR → Res D
  | .nx _ S => finD frz S0 .non S
  | .rt v S => finD frz S0 v S
  | .exc _ c v S => .exc c v S
  | _ => .fail
def runDef (P : LProg) (cf : CF) (d : LDef) (xs : List D) (S : Ob) : Res D := finS d.frz S (evSs P cf d.body (xs.map some ++ List.replicate (d.nslots - xs.length) none) S)
/-- where the i-th parameter's value stands among the arguments and the defaults -/
def srcAt (np na dl n : Nat) (ks : List Nat) (i : Nat) : Option Nat := if Nat.blt i np then some i else match look (ks.zipIdx np) i with
  | some j => some j
  | none => if Nat.ble n (i + dl) then some (na + (i + dl - n)) else none
def optAll {α : Type} : List (Option α) → Option (List α)
  | [] => some []
  | some a :: r => (optAll r).map (a :: ·)
  | none :: _ => none
def ndB : List Nat → Bool
  | [] => true
  | k :: ks => ks.all (fun x => !Nat.beq x k) && ndB ks
def bindIx (n dl na : Nat) (ks : List Nat) : Option (List Nat) :=
  if Nat.ble ks.length na && Nat.ble (na - ks.length) n && Nat.ble dl n && ks.all (fun x => Nat.ble (na - ks.length) x && Nat.blt x n) && ndB ks then optAll ((List.range n).map (srcAt (na - ks.length) na dl n ks)) else none
/-- the parameters' values: by place, by name, by default -/
def bindD (d : LDef) (ds : List D) (ks : List Nat) : Option (List D) := (bindIx d.np d.dflts.length ds.length ks).map fun ixs => ixs.map fun i => ((ds ++ d.dflts)[i]?).getD .non
def callN (P : LProg) : Nat → CF
  | 0 => fun _ _ _ _ => .fail
  | n + 1 => fun f ds ks S => match look P.defs f with
    | some d => (match bindD d ds ks with
      | some xs => runDef P (callN P n) d xs S
      | none => .fail)
    | none => .fail
end QL
set_option Elab.async false
set_option linter.all false
set_option maxRecDepth 100000
set_option maxHeartbeats 4000000
/-! QL5: operations. -/
namespace QL
open PySem PySem.Spec L2
open PyProof.Rows hiding St

/-- the constants of a context -/
abbrev bs (X : Cx) (g : Nat → Option Addr) : Bs := ⟨X.prog, X.w, X.K, g⟩

section
variable {B : Bs} {M : MF} {H : Hp} {S : Ob} {v : V} {x : D}
theorem rd_cases (S : Ob) (x : D) : (∃ k xs, x = .ref k ∧ S[k]? = some (.lst xs) ∧ rd S x = .lst xs) ∨ (∃ k ks vs, x = .ref k ∧ S[k]? = some (.dct ks vs) ∧ rd S x = .dct ks vs) ∨ rd S x = x := by
  cases x with
  | ref k =>
    cases e : S[k]? with
    | none => right; right; simp [rd, e]
    | some o =>
      cases o with
      | lst xs => left; exact ⟨k, xs, rfl, e, by simp [rd, e]⟩
      | dct ks vs => right; left; exact ⟨k, ks, vs, rfl, e, by simp [rd, e]⟩
      | ins c fs => right; right; simp [rd, e]
  | _ => right; right; rfl
theorem VR.rdL (o : OR B M H S) (r : VR B M H v x) {ds : List D} (e : rd S x = .lst ds) : ∃ a vs, v = .ref a ∧ Rd H a (.lst vs) ∧ VRs B M H vs ds := by
  rcases rd_cases S x with ⟨k, xs, rfl, h1, h2⟩ | ⟨k, ks, vs, rfl, h1, h2⟩ | h
  · rw [h2] at e; cases e
    cases r with
    | ref hk =>
      cases o.at_ k _ _ h1 hk with
      | lst h q => exact ⟨_, _, rfl, .inl h, q⟩
  · rw [h2] at e; cases e
  · rw [h] at e; subst e; exact r.lstI
theorem VR.rdT (r : VR B M H v x) {ds : List D} (e : rd S x = .tup ds) : ∃ a vs, v = .ref a ∧ SqT B.K H a vs ∧ VRs B M H vs ds := by
  rcases rd_cases S x with ⟨k, xs, rfl, h1, h2⟩ | ⟨k, ks, vs, rfl, h1, h2⟩ | h
  · rw [h2] at e; cases e
  · rw [h2] at e; cases e
  · rw [h] at e; subst e; exact r.tupI
theorem rd_eq {d : D} (h : ∀ xs, d ≠ .lst xs) (h2 : ∀ ks vs, d ≠ .dct ks vs) (e : rd S x = d) : x = d := by
  rcases rd_cases S x with ⟨k, xs, rfl, h1, q⟩ | ⟨k, ks, vs, rfl, h1, q⟩ | q
  · rw [q] at e; exact absurd e.symm (h xs)
  · rw [q] at e; exact absurd e.symm (h2 ks vs)
  · rw [q] at e; exact e
theorem VR.rdI (r : VR B M H v x) {i : Int} (e : rd S x = .int i) : v = .int i := by
  have := rd_eq (by intro _ z; cases z) (by intro _ _ z; cases z) e
  subst this; cases r; rfl
theorem VR.rdS (r : VR B M H v x) {z : List Nat} (e : rd S x = .str z) : v = .str (toS z) := by
  have := rd_eq (by intro _ z; cases z) (by intro _ _ z; cases z) e
  subst this; cases r; rfl
theorem VR.intI {i : Int} (r : VR B M H v (.int i)) : v = .int i := by cases r; rfl
theorem VR.strI {i : List Nat} (r : VR B M H v (.str i)) : v = .str (toS i) := by cases r; rfl
theorem VR.blI {b : Bool} (r : VR B M H v (.bl b)) : v = .bl b := by cases r; rfl
theorem VR.nonI (r : VR B M H v .non) : v = .non := by cases r; rfl
end
theorem toS_len (x : List Nat) : (toS x).length = x.length := by show x.toArray.size = _; simp
theorem toS_app (x y : List Nat) : toS x ++ toS y = toS (x ++ y) := by
  show Str.mk (x.toArray ++ y.toArray) = Str.mk (x ++ y).toArray
  simp
theorem lim_le {n : Nat} (h : Nat.ble n lim = true) : n ≤ sizeLine := by
  have h1 := Nat.le_of_ble_eq_true h
  have h2 := sizeLine_eq
  have h3 : lim = 1000000 := rfl
  omega
theorem lim_lt {n : Nat} (h : Nat.blt n lim = true) : n < sizeLine := by
  have h1 := Nat.le_of_ble_eq_true (show Nat.ble (n + 1) lim = true from h)
  have h2 := sizeLine_eq
  have h3 : lim = 1000000 := rfl
  omega

/-- an operation's reading by a function on data -/
def rBin (B : Bs) (g : Ob → D → D → Option D) : R2 := fun v u H Q => ∃ M S x y d, OR B M H S ∧ VR B M H v x ∧ VR B M H u y ∧ g S x y = some d ∧ ∀ w H' M', Stp M H M' H' → OR B M' H' S → VR B M' H' w d → Q w H'
section
variable {X : Cx} {g : Nat → Option Addr} {M : MF} {H : Hp} {S : Ob} {Q : VK}
/-- the ends: a value, a new tuple, a new list -/
theorem fin_val {d : D} (o : OR (bs X g) M H S) (h : ∀ w H' M', Stp M H M' H' → OR (bs X g) M' H' S → VR (bs X g) M' H' w d → Q w H') {w : V} (r : VR (bs X g) M H w d) : Q w H := h w H M (Stp.refl M H) o r
theorem fin_tup {ds : List D} {vs : List V} {p : Addr} (o : OR (bs X g) M H S) (h : ∀ w H' M', Stp M H M' H' → OR (bs X g) M' H' S → VR (bs X g) M' H' w (.tup ds) → Q w H') (hp : H p = none) (r : VRs (bs X g) M H vs ds) : Q (.ref p) (upd H p (.tup vs)) :=
  h _ _ M (Stp.new hp) (o.new hp) (VR.newTup hp o r)
theorem fin_lst {ds : List D} {vs : List V} {p : Addr} (o : OR (bs X g) M H S) (h : ∀ w H' M', Stp M H M' H' → OR (bs X g) M' H' S → VR (bs X g) M' H' w (.lst ds) → Q w H') (hp : H p = none) (r : VRs (bs X g) M H vs ds) : Q (.ref p) (upd H p (.lst vs)) :=
  h _ _ M (Stp.new hp) (o.new hp) (VR.newLst hp o r)
end

section
variable {X : Cx} {pins : List (Addr × Obj)} {σ : St} {H : Hp} {s : Shared}
theorem Inv.lstR (I : Inv X pins σ H s) {a : Addr} {xs : List V} (h : Rd H a (.lst xs)) : xs.length ≤ sizeLine ∧ ∃ (its : List Value) (n : Nat), Vals xs its ∧ xs.length = its.length ∧ s.heap.get? a = some { cls := .type "list", data := .seq its.toArray n } := by
  obtain ⟨z, its, n, r, e⟩ := h.ok I.hok
  exact ⟨z, its, n, r, r.length, e⟩
end
section
variable {X : Cx}
/-- list + list, read -/
theorem op_catR : OpR X (binaryOp .Add) (fun x y H Q => ∃ l b xs zs, x = .ref l ∧ y = .ref b ∧ Rd H l (.lst xs) ∧ Rd H b (.lst zs) ∧ xs.length + zs.length ≤ sizeLine ∧ ∀ p, H p = none → Q (.ref p) (upd H p (.lst (xs ++ zs)))) := by
  intro pins s σ H x y v u Q I rx ry h
  obtain ⟨l, b, xs, zs, rfl, rfl, hH, hB, hz, q⟩ := h
  cases rx
  cases ry
  obtain ⟨z, its, n, r, hl, e⟩ := Inv.lstR I hH
  obtain ⟨z2, its2, n2, r2, hl2, e2⟩ := Inv.lstR I hB
  refine PySem.P.add_list e e2 ?_ (by rw [List.size_toArray, List.size_toArray]; omega)
  have ea : its.toArray ++ its2.toArray = (its ++ its2).toArray := by simp
  rw [ea]
  exact ⟨.ref _, _, I.lnew (t' := s.toks) (r.append r2) (by rw [List.length_append]; omega), rfl, q _ I.fresh⟩
theorem op_fdvW : OpR X (binaryOp .FloorDiv) (rI (fun _ j => j ≠ 0 ∧ j.natAbs.log2 < 9000) fun i j => .int (i.fdiv j)) := opI fun _ _ _ _ _ _ _ hc q => floordiv_int hc.1 q (.inl (PyProof.noPylong_of_log2 hc.2))
end
theorem tuple_mulS (l : Addr) (items : Array Value) (n : Nat) (dd : Option Addr) (sl : Array (Option Value)) (x : Int) (u : Tok) (c0 : (decide (x < -(2 ^ 63)) || decide (x ≥ 2 ^ 63)) = false) (c1 : (items.isEmpty || x == 1) = true) :
    Meets (Builtin.«tuple.__mul__» ⟨[.ref l, .int x u], []⟩) (fun _ R s => s.heap.get? l = some { cls := .type "tuple", dict := dd, data := .seq items n, slots := sl } ∧
      R (.ok (.ret (Value.ref l))) s) :=
  .of_wp fun prog w A R s h => by
    obtain ⟨hp, g, d, t, os⟩ := s
    obtain ⟨hl, h⟩ := h
    have f1 := AutoSeq1.idx_int
    wp_walk using wpAny_loadPart' hl
    repeat (first
      | (refine wpAny_ite_false (decide_eq_false (by rw [c0]; exact Bool.false_ne_true)) ?_; wp_walk using wpAny_loadPart' hl)
      | (refine wpAny_ite_true (decide_eq_true c1) ?_; wp_walk using wpAny_loadPart' hl))
    exact ⟨_, rfl, h⟩
theorem tuple_mulZ (l : Addr) (items : Array Value) (n : Nat) (dd : Option Addr) (sl : Array (Option Value)) (u : Tok) (c1 : (items.isEmpty || (0 : Int) == 1) = false) :
    Meets (Builtin.«tuple.__mul__» ⟨[.ref l, .int 0 u], []⟩) (fun _ R s => s.heap.get? l = some { cls := .type "tuple", dict := dd, data := .seq items n, slots := sl } ∧
      R (.ok (.ret (Value.ref s.heap.objs.size))) { s with heap := s.heap.push { cls := Value.type "tuple", data := Data.seq #[] }, toks := s.toks }) :=
  .of_wp fun prog w A R s h => by
    obtain ⟨hp, g, d, t, os⟩ := s
    obtain ⟨hl, h⟩ := h
    have f1 := AutoSeq1.idx_int
    wp_walk using wpAny_loadPart' hl
    repeat (first
      | (refine wpAny_ite_false (decide_eq_false (by decide)) ?_; wp_walk using wpAny_loadPart' hl)
      | (refine wpAny_ite_false (decide_eq_false (by rw [c1]; exact Bool.false_ne_true)) ?_; wp_walk using wpAny_loadPart' hl)
      | (refine wpAny_ite_true (by simp) ?_; wp_walk using wpAny_loadPart' hl))
    exact ⟨_, rfl, h⟩

section
variable {X : Cx}
/-- t * k -/
theorem op_repA : OpR X (binaryOp .Mult) (fun x y H Q => ∃ l k xs, x = .ref l ∧ y = .int k ∧ SqT X.K H l xs ∧ 0 ≤ k ∧ k ≤ 1000 ∧ xs.length ≤ 1000 ∧ (xs = [] ∨ k = 1 → Q (.ref l) H) ∧ (¬ (xs = [] ∨ k = 1) → ∀ p, H p = none → Q (.ref p) (upd H p (.tup (List.replicate k.toNat xs).flatten)))) := by
  intro pins s σ H x y v u Q I rx ry h
  obtain ⟨l, k, xs, rfl, rfl, hT, h1, h2, hz, q1, q2⟩ := h
  by_cases hb : xs ≠ [] ∧ 2 ≤ k
  · exact op_repT pins s σ H _ _ v u Q I rx ry ⟨l, k, xs, rfl, rfl, hT, hb.1, hb.2, h2, hz, q2 (by rintro (h | h); exact hb.1 h; omega)⟩
  · cases rx
    obtain ⟨t, rfl⟩ := ry
    obtain ⟨its, r, ⟨⟨cls, dd, data, sl⟩, ho, hc, n, hd⟩, hs⟩ := I.tuple hT
    simp only at hc hd
    subst hc hd
    have hie : its.toArray.isEmpty = decide (xs = []) := by
      cases r with
      | nil => rfl
      | cons _ _ => simp
    have c0 : (decide (k < -(2 ^ 63)) || decide (k ≥ 2 ^ 63)) = false := by
      rw [decide_eq_false (by omega), decide_eq_false (by omega)] <;> rfl
    by_cases h3 : xs = [] ∨ k = 1
    · have c1 : (its.toArray.isEmpty || k == 1) = true := by
        rw [hie, Bool.or_eq_true, decide_eq_true_eq, beq_iff_eq]
        exact h3
      refine wpAny_binaryOp_repeat_ref (T := "tuple") (U := "int") (by decide) ⟨_, ho, rfl⟩ (fun s' => typeIs_int s' k t) noFill_tuple_mul F.fills_int_mul F.slot_int_rmul repeat_tuple F.slot_int_index.lookup
        (call_meets F.slot_int_rmul (typeIs_int s k t) F.entry_int_rmul (F.args_int_rmul_2 _ _) (int_rmul_tuple k t l its.toArray n dd sl)
          ⟨ho, rfl, ⟨_, ho, rfl⟩, call_meets F.slot_tuple_mul ⟨_, ho, rfl⟩ F.entry_tuple_mul (F.args_tuple_mul_2 _ _) (tuple_mulS l its.toArray n dd sl k t c0 c1) ⟨ho, ?_⟩⟩)
      exact ⟨.ref l, H, I, rfl, q1 h3⟩
    · have hk : k = 0 := by
        by_cases hx : xs = []
        · exact absurd (.inl hx) h3
        · have : ¬ 2 ≤ k := fun z => hb ⟨hx, z⟩
          have : k ≠ 1 := fun z => h3 (.inr z)
          omega
      subst hk
      have c1 : (its.toArray.isEmpty || (0 : Int) == 1) = false := by
        rw [hie, decide_eq_false (fun z => h3 (.inl z))]
        rfl
      refine wpAny_binaryOp_repeat_ref (T := "tuple") (U := "int") (by decide) ⟨_, ho, rfl⟩ (fun s' => typeIs_int s' 0 t) noFill_tuple_mul F.fills_int_mul F.slot_int_rmul repeat_tuple F.slot_int_index.lookup
        (call_meets F.slot_int_rmul (typeIs_int s 0 t) F.entry_int_rmul (F.args_int_rmul_2 _ _) (int_rmul_tuple 0 t l its.toArray n dd sl)
          ⟨ho, rfl, ⟨_, ho, rfl⟩, call_meets F.slot_tuple_mul ⟨_, ho, rfl⟩ F.entry_tuple_mul (F.args_tuple_mul_2 _ _) (tuple_mulZ l its.toArray n dd sl t c1) ⟨ho, ?_⟩⟩)
      refine ⟨.ref s.heap.objs.size, _, I.laid (t' := s.toks) (o := .tup []) (fun b ob q => Heap.get?_push_of_some _ q) (Nat.le_refl _) ?_, rfl, ?_⟩
      · exact ⟨Nat.zero_le _, [], .nil, IsTup.new _ _⟩
      · have := q2 h3 _ (I.hok.fresh (Nat.le_refl _))
        simpa using this
/-- list * k, read -/
theorem op_repR : OpR X (binaryOp .Mult) (fun x y H Q => ∃ l k xs, x = .ref l ∧ y = .int k ∧ Rd H l (.lst xs) ∧ 0 ≤ k ∧ k ≤ 1000 ∧ xs.length ≤ 1000 ∧ ∀ p, H p = none → Q (.ref p) (upd H p (.lst (List.replicate k.toNat xs).flatten))) := by
  intro pins s σ H x y v u Q I rx ry h
  obtain ⟨l, k, xs, rfl, rfl, hH, h1, h2, hz0, q⟩ := h
  have hz : xs.length * k.toNat ≤ sizeLine := by
    have a1 : xs.length * k.toNat ≤ 1000 * 1000 := Nat.mul_le_mul hz0 (by omega)
    rw [sizeLine_eq]
    omega
  cases rx
  obtain ⟨t, rfl⟩ := ry
  obtain ⟨z, its, n, r, hl, e⟩ := Inv.lstR I hH
  have hlen : its.toArray.size * k.toNat ≤ sizeLine := by rw [List.size_toArray, ← hl]; exact hz
  have hcap : ¬ its.toArray.size * k.toNat > (2 ^ 63 - 1) / 8 := by
    have : (sizeLine : Nat) ≤ (2 ^ 63 - 1) / 8 := by decide
    omega
  have hfit : ¬ (!Builtin.List.listFitsIndex k) = true := by
    rw [fitsIndex_both (by omega) (by omega)]
    exact Bool.false_ne_true
  have hlong : ¬ Builtin.List.listTooLong (its.toArray.size * k.toNat) = true := by
    rw [notLongL hlen]
    exact Bool.false_ne_true
  have hnew : List.foldl (fun x1 x2 => x1 ++ x2) #[] (List.replicate (if its.toArray.isEmpty = true then 0 else k.toNat) its.toArray) = (List.replicate k.toNat its).flatten.toArray := by
    have f0 : ∀ m : Nat, List.foldl (fun x1 x2 => x1 ++ x2) #[] (List.replicate m its.toArray) = (List.replicate m its).flatten.toArray := fun m => by
      have := foldl_rep its m []
      rw [List.nil_append] at this
      exact this
    rw [f0]
    cases its with
    | nil => simp
    | cons a r' => rw [if_neg (by simp)]
  refine wpAny_binaryOp_repeat_ref (T := "list") (U := "int") (by decide) ⟨_, e, rfl⟩ (fun s' => typeIs_int s' k t) noFill_list_mul F.fills_int_mul F.slot_int_rmul repeat_list F.slot_int_index.lookup
    (call_meets F.slot_int_rmul (typeIs_int s k t) F.entry_int_rmul (F.args_int_rmul_2 _ _) (int___rmul___int_list k t l its.toArray n)
      ⟨e, rfl, ⟨_, e, rfl⟩, call_meets F.slot_list_mul ⟨_, e, rfl⟩ F.entry_list_mul (F.args_list_mul_2 _ _) (AutoListH.list___mul___list_int_3 l its.toArray n k t hfit hcap hlong) ⟨e, ?_⟩⟩)
  rw [hnew]
  exact ⟨.ref _, _, I.lnew (t' := s.toks) (r.rep k.toNat) (by rw [PyProof.Rows.lm_len_rep_flat, Nat.mul_comm]; exact hz), rfl, q _ I.fresh⟩
def boOp : BO → Operator
  | .add => .Add | .sub => .Sub | .mul => .Mult | .fdv => .FloorDiv | .mod => .Mod | .pow => .Pow
theorem VRs.rep {B : Bs} {M : MF} {H : Hp} {vs : List V} {ds : List D} (r : VRs B M H vs ds) : ∀ m : Nat, VRs B M H (List.replicate m vs).flatten (List.replicate m ds).flatten
  | 0 => by simpa using VRs.nil
  | m + 1 => by
    rw [List.replicate_succ, List.replicate_succ, List.flatten_cons, List.flatten_cons]
    exact r.append (VRs.rep r m)
theorem and3 {a b c : Bool} (h : (a && b && c) = true) : a = true ∧ b = true ∧ c = true := by
  cases a <;> cases b <;> cases c <;> simp_all
theorem op_bin {g : Nat → Option Addr} (o : BO) : OpR X (binaryOp (boOp o)) (rBin (bs X g) fun S => binD S o) := by
  intro pins s σ H v u vv uu Q I rx ry h
  obtain ⟨M, S, x, y, d, hO, hx, hy, hd, q⟩ := h
  change binD S o x y = some d at hd
  unfold binD at hd
  split at hd <;> rename_i e1 e2
  · cases hd
    have := VR.rdI hx e1; subst this
    have := VR.rdI hy e2; subst this
    exact op_add pins s σ H _ _ vv uu Q I rx ry ⟨_, _, rfl, rfl, fin_val hO q (.int _)⟩
  · split at hd
    · rename_i hl
      cases hd
      have := VR.rdS hx e1; subst this
      have := VR.rdS hy e2; subst this
      refine op_add_str pins s σ H _ _ vv uu Q I rx ry ⟨_, _, rfl, rfl, ?_, ?_⟩
      · rw [toS_len, toS_len]; exact lim_le hl
      · rw [toS_app]; exact fin_val hO q (.str _)
    · cases hd
  · split at hd
    · rename_i i j hl
      cases hd
      obtain ⟨a, vs, rfl, sa, ra⟩ := VR.rdT hx e1
      obtain ⟨b, us, rfl, sb, rb⟩ := VR.rdT hy e2
      refine op_catA pins s σ H _ _ vv uu Q I rx ry ⟨_, _, _, _, rfl, rfl, sa, sb, ?_, fun z => ?_, fun z z2 => ?_, fun _ _ p hp => ?_⟩
      · rw [ra.length, rb.length]; exact lim_le hl
      · subst z
        cases ra
        have := rd_eq (by intro _ z; cases z) (by intro _ _ z; cases z) e2
        subst this
        exact fin_val hO q hy
      · subst z2
        cases rb
        have := rd_eq (by intro _ z; cases z) (by intro _ _ z; cases z) e1
        subst this
        rw [List.append_nil] at q
        exact fin_val hO q hx
      · exact fin_tup hO q hp (ra.append rb)
    · cases hd
  · split at hd
    · rename_i i j hl
      cases hd
      obtain ⟨a, vs, rfl, sa, ra⟩ := VR.rdL hO hx e1
      obtain ⟨b, us, rfl, sb, rb⟩ := VR.rdL hO hy e2
      refine op_catR pins s σ H _ _ vv uu Q I rx ry ⟨_, _, _, _, rfl, rfl, sa, sb, ?_, fun p hp => ?_⟩
      · rw [ra.length, rb.length]; exact lim_le hl
      · exact fin_lst hO q hp (ra.append rb)
    · cases hd
  · cases hd
    have := VR.rdI hx e1; subst this
    have := VR.rdI hy e2; subst this
    exact op_sub pins s σ H _ _ vv uu Q I rx ry ⟨_, _, rfl, rfl, fin_val hO q (.int _)⟩
  · split at hd
    · rename_i hl
      cases hd
      have := VR.rdI hx e1; subst this
      have := VR.rdI hy e2; subst this
      refine op_mulW pins s σ H _ _ vv uu Q I rx ry ⟨_, _, rfl, rfl, ?_, fin_val hO q (.int _)⟩
      have := Nat.le_of_ble_eq_true hl
      unfold CMulW
      omega
    · cases hd
  · split at hd
    · rename_i hl
      cases hd
      obtain ⟨h1, h2, h3⟩ := and3 hl
      have := VR.rdI hy e2; subst this
      obtain ⟨a, vs, rfl, sa, ra⟩ := VR.rdT hx e1
      have hle := ra.length
      refine op_repA pins s σ H _ _ vv uu Q I rx ry ⟨_, _, _, rfl, rfl, sa, of_decide_eq_true h1, of_decide_eq_true h2, ?_, fun z => ?_, fun _ p hp => ?_⟩
      · rw [hle]; exact Nat.le_of_ble_eq_true h3
      · have := rd_eq (by intro _ z; cases z) (by intro _ _ z; cases z) e1
        subst this
        have e : ∀ (xs : List D) (k : Int), (xs = [] ∨ k = 1) → repD xs k = xs := by
          rintro xs k (rfl | rfl)
          · unfold repD; simp
          · show (List.replicate 1 xs).flatten = xs
            simp
        refine fin_val hO q ?_
        rw [e _ _ (z.imp (fun z => by subst z; cases ra; rfl) id)]
        exact hx
      · exact fin_tup hO q hp (VRs.rep ra _)
    · cases hd
  · split at hd
    · rename_i hl
      cases hd
      obtain ⟨h1, h2, h3⟩ := and3 hl
      have := VR.rdI hy e2; subst this
      obtain ⟨a, vs, rfl, sa, ra⟩ := VR.rdL hO hx e1
      refine op_repR pins s σ H _ _ vv uu Q I rx ry ⟨_, _, _, rfl, rfl, sa, of_decide_eq_true h1, of_decide_eq_true h2, ?_, fun p hp => ?_⟩
      · rw [ra.length]; exact Nat.le_of_ble_eq_true h3
      · exact fin_lst hO q hp (VRs.rep ra _)
    · cases hd
  · split at hd
    · rename_i hl
      cases hd
      have := VR.rdI hx e1; subst this
      have := VR.rdI hy e2; subst this
      refine op_fdvW pins s σ H _ _ vv uu Q I rx ry ⟨_, _, rfl, rfl, ?_, fin_val hO q (.int _)⟩
      obtain ⟨h1, h2⟩ := Bool.and_eq_true_iff.mp hl
      have := Nat.le_of_ble_eq_true h2
      exact ⟨of_decide_eq_true h1, by omega⟩
    · cases hd
  · split at hd
    · rename_i hl
      cases hd
      have := VR.rdI hx e1; subst this
      have := VR.rdI hy e2; subst this
      exact op_modN pins s σ H _ _ vv uu Q I rx ry ⟨_, _, rfl, rfl, of_decide_eq_true hl, fin_val hO q (.int _)⟩
    · cases hd
  · split at hd
    · rename_i hl
      cases hd
      obtain ⟨h1, h2, h3⟩ := and3 hl
      have := VR.rdI hx e1; subst this
      have := VR.rdI hy e2; subst this
      exact op_pow pins s σ H _ _ vv uu Q I rx ry ⟨_, _, rfl, rfl, ⟨of_decide_eq_true h1, of_decide_eq_true h2, of_decide_eq_true h3⟩, fin_val hO q (.int _)⟩
    · cases hd
  · cases hd
end
end QL
set_option Elab.async false
set_option linter.all false
set_option maxRecDepth 100000
set_option maxHeartbeats 4000000
/-! QL6: data, comparisons. -/
namespace QL
open PySem PySem.Spec L2
open PyProof.Rows hiding St

mutual
theorem VR.dp {B : Bs} {M : MF} {H : Hp} : ∀ {d : D} {v : V}, VR B M H v d → d.flat = true → Dp B.K H v d.pd
  | .non, _, r, _ => by cases r; simp only [D.pd]; exact .non
  | .bl b, _, r, _ => by cases r; simp only [D.pd]; exact .bl b
  | .int i, _, r, _ => by cases r; simp only [D.pd]; exact .int i
  | .str x, _, r, _ => by cases r; simp only [D.pd]; exact .str _
  | .tup xs, _, r, f => by
    obtain ⟨a, vs, rfl, h, q⟩ := r.tupI
    simp only [D.flat] at f
    simp only [D.pd]
    exact .tup h (VRs.dp q f)
  | .lst xs, _, r, f => by
    obtain ⟨a, vs, rfl, h, q⟩ := r.lstI
    simp only [D.flat] at f
    simp only [D.pd]
    exact .lst (.inl h) (VRs.dp q f)
  | .dct _ _, _, _, f => by simp [D.flat] at f
  | .ref _, _, _, f => by simp [D.flat] at f
  | .ty _, _, _, f => by simp [D.flat] at f
  | .gl _, _, _, f => by simp [D.flat] at f
  | .exc _ _, _, _, f => by simp [D.flat] at f
theorem VRs.dp {B : Bs} {M : MF} {H : Hp} : ∀ {ds : List D} {vs : List V}, VRs B M H vs ds → D.flats ds = true → DpAll B.K H vs (D.pds ds)
  | [], _, .nil, _ => by simp only [D.pds]; exact .nil
  | d :: ds, _, .cons r t, f => by
    simp only [D.flats, Bool.and_eq_true] at f
    simp only [D.pds]
    exact .cons (VR.dp r f.1) (VRs.dp t f.2)
end
mutual
theorem pd_lay : ∀ {d : D}, d.flat = true → PyData.canLay0 d.pd = true
  | .non, _ => by simp [D.pd, PyData.canLay0]
  | .bl b, _ => by simp [D.pd, PyData.canLay0]
  | .int i, _ => by simp [D.pd, PyData.canLay0]
  | .str x, f => by
    simp only [D.flat] at f
    simp only [D.pd, PyData.canLay0, PyData.strOk, toS, List.all_toArray]
    rw [List.all_eq_true] at f ⊢
    intro c hc
    have := f c hc
    have := Nat.le_of_ble_eq_true (show Nat.ble (c + 1) 1114112 = true from this)
    exact decide_eq_true (by omega)
  | .tup xs, f => by
    simp only [D.flat] at f
    simp only [D.pd, PyData.canLay0]
    exact pds_lay f
  | .lst xs, f => by
    simp only [D.flat] at f
    simp only [D.pd, PyData.canLay0]
    exact pds_lay f
  | .dct _ _, f => by simp [D.flat] at f
  | .ref _, f => by simp [D.flat] at f
  | .ty _, f => by simp [D.flat] at f
  | .gl _, f => by simp [D.flat] at f
  | .exc _ _, f => by simp [D.flat] at f
theorem pds_lay : ∀ {d : List D}, D.flats d = true → PyData.canLayAll0 (D.pds d) = true
  | [], _ => by simp [D.pds, PyData.canLayAll0]
  | d :: ds, f => by
    simp only [D.flats, Bool.and_eq_true] at f
    simp only [D.pds, PyData.canLayAll0, Bool.and_eq_true]
    exact ⟨pd_lay f.1, pds_lay f.2⟩
end
mutual
theorem pd_dep : ∀ d : D, d.flat = true → PyData.depth d.pd = d.dep
  | .non, _ => by simp [D.pd, PyData.depth, D.dep]
  | .bl b, _ => by simp [D.pd, PyData.depth, D.dep]
  | .int i, _ => by simp [D.pd, PyData.depth, D.dep]
  | .str x, _ => by simp [D.pd, PyData.depth, D.dep]
  | .tup xs, f => by
    simp only [D.flat] at f
    simp only [D.pd, PyData.depth, D.dep, pds_dep xs f]
  | .lst xs, f => by
    simp only [D.flat] at f
    simp only [D.pd, PyData.depth, D.dep, pds_dep xs f]
  | .dct _ _, f => by simp [D.flat] at f
  | .ref _, f => by simp [D.flat] at f
  | .ty _, f => by simp [D.flat] at f
  | .gl _, f => by simp [D.flat] at f
  | .exc _ _, f => by simp [D.flat] at f
theorem pds_dep : ∀ d : List D, D.flats d = true → PyData.depthAll (D.pds d) = D.deps d
  | [], _ => by simp [D.pds, PyData.depthAll, D.deps]
  | d :: ds, f => by
    simp only [D.flats, Bool.and_eq_true] at f
    simp only [D.pds, PyData.depthAll, D.deps, pd_dep d f.1, pds_dep ds f.2]
end
mutual
theorem pd_eqv : ∀ (d e : D), d.flat = true → e.flat = true → PyData.eqv d.pd e.pd = d.eqv e
  | .non, e, _, f => by cases e <;> simp_all [D.pd, PyData.eqv, D.eqv, D.flat]
  | .bl b, e, _, f => by cases e <;> simp_all [D.pd, PyData.eqv, D.eqv, D.flat] <;> rfl
  | .int i, e, _, f => by cases e <;> simp_all [D.pd, PyData.eqv, D.eqv, D.flat] <;> rfl
  | .str x, e, _, f => by
    cases e with
    | str y =>
      simp only [D.pd, PyData.eqv, D.eqv]
      by_cases h : x = y
      · subst h; simp
      · rw [decide_eq_false h]
        exact beq_eq_false_iff_ne.mpr fun z => h (toS_inj z)
    | _ => simp_all [D.pd, PyData.eqv, D.eqv, D.flat]
  | .tup xs, e, h, f => by
    cases e with
    | tup ys =>
      simp only [D.flat] at h f
      simp only [D.pd, PyData.eqv, D.eqv]
      exact pds_eqv xs ys h f
    | _ => simp_all [D.pd, PyData.eqv, D.eqv, D.flat]
  | .lst xs, e, h, f => by
    cases e with
    | lst ys =>
      simp only [D.flat] at h f
      simp only [D.pd, PyData.eqv, D.eqv]
      exact pds_eqv xs ys h f
    | _ => simp_all [D.pd, PyData.eqv, D.eqv, D.flat]
  | .dct _ _, _, f, _ => by simp [D.flat] at f
  | .ref _, _, f, _ => by simp [D.flat] at f
  | .ty _, _, f, _ => by simp [D.flat] at f
  | .gl _, _, f, _ => by simp [D.flat] at f
  | .exc _ _, _, f, _ => by simp [D.flat] at f
theorem pds_eqv : ∀ (d e : List D), D.flats d = true → D.flats e = true → PyData.eqvAll (D.pds d) (D.pds e) = D.eqvs d e
  | [], [], _, _ => by simp [D.pds, PyData.eqvAll, D.eqvs]
  | [], _ :: _, _, _ => by simp [D.pds, PyData.eqvAll, D.eqvs]
  | _ :: _, [], _, _ => by simp [D.pds, PyData.eqvAll, D.eqvs]
  | d :: ds, e :: es, h, f => by
    simp only [D.flats, Bool.and_eq_true] at h f
    simp only [D.pds, PyData.eqvAll, D.eqvs, pd_eqv d e h.1 f.1, pds_eqv ds es h.2 f.2]
end
theorem any_pds (d : D) (hd : d.flat = true) : ∀ ys : List D, D.flats ys = true → ((D.pds ys).any fun z => PyData.eqv z d.pd) = ys.any fun z => z.eqv d
  | [], _ => by simp [D.pds]
  | y :: ys, f => by
    simp only [D.flats, Bool.and_eq_true] at f
    simp only [D.pds, List.any_cons, pd_eqv y d f.1 hd, any_pds d hd ys f.2]
section
variable {X : Cx} {g : Nat → Option Addr} {pins : List (Addr × Obj)} {σ : St} {H : Hp} {s : Shared}
/-- a datum as it is read -/
theorem rd_dp {M : MF} {S : Ob} (hO : OR (bs X g) M H S) {v : V} {x : D} (r : VR (bs X g) M H v x) (f : (rd S x).flat = true) : Dp X.K H v (rd S x).pd := by
  rcases rd_cases S x with ⟨k, xs, rfl, h1, h2⟩ | ⟨k, ks, vs, rfl, h1, h2⟩ | h
  · rw [h2] at f ⊢
    obtain ⟨a, vs, rfl, q1, q2⟩ := VR.rdL hO r h2
    simp only [D.flat] at f
    simp only [D.pd]
    exact .lst (.inl q1) (q2.dp f)
  · rw [h2] at f; simp [D.flat] at f
  · rw [h] at f ⊢; exact r.dp f
end
def coOp : CO → CmpOp
  | .eq => .Eq | .ne => .NotEq | .lt => .Lt | .le => .LtE | .gt => .Gt | .ge => .GtE | .isin => .In | .notin => .NotIn | .is => .Is | .isnot => .IsNot
end QL
set_option Elab.async false
set_option linter.all false
set_option maxRecDepth 100000
set_option maxHeartbeats 4000000
/-! QL7: dicts. -/
namespace QL
open PySem PySem.Spec L2
open PyProof.Rows hiding St

def keyF : D → Option L2.Key
  | .int i => some (.inl i)
  | .str x => some (.inr (toS x))
  | _ => none
theorem keyF_inj {a b : D} {k : L2.Key} (h1 : keyF a = some k) (h2 : keyF b = some k) : a = b := by
  cases a <;> cases b <;> simp [keyF] at h1 h2
  · rw [← h1] at h2; cases h2; rfl
  · rw [← h1] at h2; cases h2
  · rw [← h1] at h2; cases h2
  · rw [← h1] at h2; injection h2 with h2; rw [toS_inj h2]
theorem keyLeaf_F {d : D} (h : keyLeaf d = true) : ∃ k, keyF d = some k := by
  cases d <;> simp [keyLeaf] at h
  · exact ⟨_, rfl⟩
  · exact ⟨_, rfl⟩
theorem keyTup_N {d : D} (h : keyTup d = true) : ∃ xs ks, d = .tup xs ∧ toKey d = some (.tup ks) ∧ (NestedKey.tup ks).depth ≤ 8 := by
  cases d with
  | tup xs =>
    unfold keyTup at h
    simp only at h
    split at h
    · rename_i k e
      simp only [toKey, Option.map_eq_some_iff] at e
      obtain ⟨ks, e1, rfl⟩ := e
      exact ⟨xs, ks, rfl, by simp only [toKey, e1, Option.map_some], Nat.le_of_ble_eq_true h⟩
    · cases h
  | _ => simp [keyTup] at h
mutual
theorem VR.key {X : Cx} {g : Nat → Option Addr} {pins : List (Addr × Obj)} {σ : St} {H : Hp} {s : Shared} {M : MF} (I : L2.Inv X pins σ H s) : ∀ {d : D} {v : V} {u : Value} {k : NestedKey}, VR (bs X g) M H v d → toKey d = some k → RelV v u → NestedIs s.heap k u
  | .non, _, _, _, r, e, q => by
    simp only [toKey, Option.some.injEq] at e; subst e
    cases r; cases q; exact .none
  | .int i, _, _, _, r, e, q => by
    simp only [toKey, Option.some.injEq] at e; subst e
    cases r; obtain ⟨t, rfl⟩ := q; exact .int i t
  | .str x, _, _, _, r, e, q => by
    simp only [toKey, Option.some.injEq] at e; subst e
    cases r; obtain ⟨t, rfl⟩ := q; exact .text _ t
  | .tup xs, _, _, _, r, e, q => by
    simp only [toKey, Option.map_eq_some_iff] at e
    obtain ⟨ks, e1, rfl⟩ := e
    obtain ⟨a, vs, rfl, h, rs⟩ := r.tupI
    cases q
    obtain ⟨its, rv, ⟨o, ho, hc, n, hd⟩, _⟩ := I.tuple h
    exact .tup ho hc hd (by simpa using VRs.key I rs e1 rv)
  | .bl _, _, _, _, _, e, _ => by simp [toKey] at e
  | .lst _, _, _, _, _, e, _ => by simp [toKey] at e
  | .dct _ _, _, _, _, _, e, _ => by simp [toKey] at e
  | .ref _, _, _, _, _, e, _ => by simp [toKey] at e
  | .ty _, _, _, _, _, e, _ => by simp [toKey] at e
  | .gl _, _, _, _, _, e, _ => by simp [toKey] at e
  | .exc _ _, _, _, _, _, e, _ => by simp [toKey] at e
theorem VRs.key {X : Cx} {g : Nat → Option Addr} {pins : List (Addr × Obj)} {σ : St} {H : Hp} {s : Shared} {M : MF} (I : L2.Inv X pins σ H s) : ∀ {d : List D} {v : List V} {u : List Value} {k : List NestedKey}, VRs (bs X g) M H v d → toKeys d = some k → Vals v u → NestedAll s.heap k u
  | [], _, _, _, r, e, q => by
    simp only [toKeys, Option.some.injEq] at e; subst e
    cases r; cases q; exact .nil
  | d :: ds, _, _, _, r, e, q => by
    simp only [toKeys] at e
    split at e
    · rename_i k0 ks0 e1 e2
      cases e
      cases r with
      | cons r1 r2 =>
        cases q with
        | cons q1 q2 => exact .cons (VR.key I r1 e1 q1) (VRs.key I r2 e2 q2)
    · cases e
end

/-! ### plain keys -/
inductive AL (B : Bs) (M : MF) (H : Hp) : List (L2.Key × Value) → List D → List D → Prop
  | nil : AL B M H [] [] []
  | cons {k u kvs d ds v vs y} : keyF d = some k → RelV y u → VR B M H y v → AL B M H kvs ds vs → AL B M H ((k, u) :: kvs) (d :: ds) (v :: vs)
section
variable {B : Bs} {M : MF} {H : Hp}
theorem AL.keys : ∀ {kvs ks vs}, AL B M H kvs ks vs → kvs.map (fun p => some p.1) = ks.map keyF
  | _, _, _, .nil => rfl
  | _, _, _, .cons e _ _ t => by simp [e, AL.keys t]
theorem AL.length : ∀ {kvs ks vs}, AL B M H kvs ks vs → kvs.length = ks.length ∧ ks.length = vs.length
  | _, _, _, .nil => ⟨rfl, rfl⟩
  | _, _, _, .cons _ _ _ t => by obtain ⟨a, b⟩ := AL.length t; exact ⟨by simp [a], by simp [b]⟩
theorem AL.look {k : L2.Key} {d : D} (hk : keyF d = some k) : ∀ {kvs ks vs}, AL B M H kvs ks vs → (∀ v, at? ks vs d = some v → ∃ u y, valueAt kvs k = some u ∧ RelV y u ∧ VR B M H y v) ∧ (at? ks vs d = none → valueAt kvs k = none)
  | _, _, _, .nil => ⟨fun v h => by simp [at?] at h, fun _ => rfl⟩
  | _, _, _, .cons (k := k1) (u := u1) (kvs := kvs1) (d := d1) (ds := ds1) (v := v1) (vs := vs1) (y := y1) e r q t => by
    have ih := AL.look hk t
    by_cases hd : d = d1
    · subst hd
      have ek : k1 = k := by rw [e] at hk; exact Option.some.inj hk
      subst ek
      have a1 : at? (d :: ds1) (v1 :: vs1) d = some v1 := by simp [at?]
      have a2 : valueAt ((k1, u1) :: kvs1) k1 = some u1 := by simp [valueAt]
      exact ⟨fun v h => by rw [a1] at h; cases h; exact ⟨_, _, a2, r, q⟩, fun h => by rw [a1] at h; cases h⟩
    · have nk : ¬ k1 = k := fun z => by subst z; exact hd (keyF_inj hk e)
      have a1 : at? (d1 :: ds1) (v1 :: vs1) d = at? ds1 vs1 d := by
        have : (d == d1) = false := beq_eq_false_iff_ne.mpr hd
        simp [at?, List.lookup, this]
      have a2 : valueAt ((k1, u1) :: kvs1) k = valueAt kvs1 k := by simp [valueAt, nk]
      rw [a1, a2]
      exact ih
theorem AL.step {M' : MF} {H' : Hp} (st : Stp M H M' H') : ∀ {kvs ks vs}, AL B M H kvs ks vs → AL B M' H' kvs ks vs
  | _, _, _, .nil => .nil
  | _, _, _, .cons e r q t => .cons e r (q.step st) (AL.step st t)
end
theorem putD_new {k v : D} : ∀ {ks vs : List D}, ks.length = vs.length → k ∉ ks → putD ks vs k v = (ks ++ [k], vs ++ [v])
  | [], [], _, _ => rfl
  | [], _ :: _, h, _ => by simp at h
  | _ :: _, [], h, _ => by simp at h
  | x :: ks, y :: vs, h, n => by
    simp only [List.mem_cons, not_or] at n
    unfold putD
    rw [if_neg (fun z => n.1 z.symm), putD_new (by simpa using h) n.2]
    rfl
theorem putD_keys {k v : D} : ∀ {ks vs : List D}, ks.length = vs.length → k ∈ ks → (putD ks vs k v).1 = ks
  | [], [], _, m => by simp at m
  | [], _ :: _, h, _ => by simp at h
  | _ :: _, [], h, _ => by simp at h
  | x :: ks, y :: vs, h, m => by
    unfold putD
    by_cases e : x = k
    · rw [if_pos e]
    · rw [if_neg e]
      simp only [List.mem_cons] at m
      have m2 : k ∈ ks := m.resolve_left fun z => e z.symm
      show x :: (putD ks vs k v).1 = x :: ks
      rw [putD_keys (by simpa using h) m2]
theorem putD_len {k v : D} : ∀ {ks vs : List D}, ks.length = vs.length → (putD ks vs k v).1.length = (putD ks vs k v).2.length ∧ (putD ks vs k v).1.length ≤ ks.length + 1
  | [], [], _ => by simp [putD]
  | [], _ :: _, h => by simp at h
  | _ :: _, [], h => by simp at h
  | x :: ks, y :: vs, h => by
    unfold putD
    by_cases e : x = k
    · rw [if_pos e]; exact ⟨by simpa using h, by simp⟩
    · rw [if_neg e]
      obtain ⟨a, b⟩ := putD_len (k := k) (v := v) (ks := ks) (vs := vs) (by simpa using h)
      exact ⟨by simp [a], by simpa using b⟩
theorem putD_nodup {k v : D} {ks vs : List D} (h : ks.length = vs.length) (nd : ks.Nodup) : (putD ks vs k v).1.Nodup := by
  by_cases m : k ∈ ks
  · rw [putD_keys h m]; exact nd
  · rw [putD_new h m]
    exact List.nodup_append.mpr ⟨nd, by simp, fun a ha b hb z => by simp only [List.mem_singleton] at hb; subst hb; subst z; exact m ha⟩
section
variable {B : Bs} {M : MF} {H : Hp}
theorem AL.notin {k : L2.Key} {d : D} (hk : keyF d = some k) {kvs ks vs} (a : AL B M H kvs ks vs) (n : d ∉ ks) : ∀ p ∈ kvs, p.1 ≠ k := by
  induction a with
  | nil => simp
  | cons e r q t ih =>
    simp only [List.mem_cons, not_or] at n
    intro p hp
    rcases List.mem_cons.mp hp with rfl | hp
    · exact fun z => n.1 (by simp only at z; subst z; exact keyF_inj hk e)
    · exact ih n.2 p hp
theorem AL.put {k : L2.Key} {d v : D} {u : Value} {y : V} (hk : keyF d = some k) (ru : RelV y u) (rv : VR B M H y v) : ∀ {kvs ks vs}, AL B M H kvs ks vs → ks.Nodup → AL B M H (stored kvs k u) (putD ks vs d v).1 (putD ks vs d v).2 := by
  intro kvs ks vs a nd
  have hl := a.length
  by_cases m : d ∈ ks
  · -- in its place
    have key : ∀ {kvs ks vs}, AL B M H kvs ks vs → ks.Nodup → d ∈ ks → AL B M H (kvs.map fun kv => if kv.1 = k then (kv.1, u) else kv) (putD ks vs d v).1 (putD ks vs d v).2 ∧ kvs.any (fun kv => decide (kv.1 = k)) = true := by
      intro kvs ks vs a
      induction a with
      | nil => intro _ m; simp at m
      | @cons k1 u1 kvs1 d1 ds1 v1 vs1 y1 e r q t ih =>
        intro nd m
        obtain ⟨n1, n2⟩ := List.nodup_cons.mp nd
        by_cases e1 : d1 = d
        · subst e1
          have ek : k1 = k := by rw [e] at hk; exact Option.some.inj hk
          subst ek
          have hn := t.notin hk n1
          have hmap : kvs1.map (fun kv => if kv.1 = k1 then (kv.1, u) else kv) = kvs1 := by
            refine (List.map_congr_left fun p hp => ?_).trans (List.map_id _)
            rw [if_neg (hn p hp)]
            rfl
          constructor
          · rw [List.map_cons, if_pos rfl, hmap]
            unfold putD
            rw [if_pos rfl]
            exact .cons e ru rv t
          · simp
        · have nk : ¬ k1 = k := fun z => by subst z; exact e1 (keyF_inj e hk)
          have m2 : d ∈ ds1 := (List.mem_cons.mp m).resolve_left fun z => e1 z.symm
          obtain ⟨i1, i2⟩ := ih n2 m2
          constructor
          · rw [List.map_cons, if_neg nk]
            unfold putD
            rw [if_neg e1]
            exact .cons e r q i1
          · rw [List.any_cons, i2, Bool.or_true]
    obtain ⟨h1, h2⟩ := key a nd m
    unfold stored
    rw [if_pos h2]
    exact h1
  · have hn := a.notin hk m
    have h2 : ¬ kvs.any (fun kv => decide (kv.1 = k)) = true := by
      rw [List.any_eq_true]
      rintro ⟨p, hp, z⟩
      exact hn p hp (of_decide_eq_true z)
    unfold stored
    rw [if_neg h2, putD_new hl.2 m]
    clear h2 hn m nd hl
    induction a with
    | nil => exact .cons hk ru rv .nil
    | cons e r q t ih => exact .cons e r q ih
/-- from the raw entries, and back -/
theorem AL.of_des {es : List DictEntry} {ks vs : List D} (de : DEs B M H es ks vs) : (∀ k ∈ ks, keyLeaf k = true) → ∃ kvs, AL B M H kvs ks vs ∧ Pairs (mixKind B.P B.w) es kvs ∧ ∀ e ∈ es, ∃ k, keyIs k e.key = true ∧ e.hash = keyH B.w k := by
  induction es generalizing ks vs with
  | nil => cases de; exact fun _ => ⟨[], .nil, .nil, by simp⟩
  | cons e es ih =>
    cases de with
    | cons r1 r2 q1 q2 hh t =>
      rename_i k ks v vs x y
      intro hk
      obtain ⟨kvs, a, p, c⟩ := ih t fun z hz => hk z (List.mem_cons_of_mem _ hz)
      obtain ⟨key, ek⟩ := keyLeaf_F (hk k List.mem_cons_self)
      have his : keyIs key e.key = true ∧ e.hash = keyH B.w key := by
        cases k with
        | int i =>
          simp only [keyF, Option.some.injEq] at ek; subst ek
          cases q1
          obtain ⟨t, he⟩ := r1
          refine ⟨by rw [he]; exact keyIs_int i t, ?_⟩
          rw [hh]; simp [hashD, toKey, NestedKey.hash, keyH]
        | str i =>
          simp only [keyF, Option.some.injEq] at ek; subst ek
          cases q1
          obtain ⟨t, he⟩ := r1
          refine ⟨by rw [he]; exact keyIs_str _ t, ?_⟩
          rw [hh]; simp [hashD, toKey, NestedKey.hash, keyH]
        | _ => simp [keyF] at ek
      refine ⟨(key, e.val) :: kvs, .cons ek r2 q2 a, .cons his.1 rfl p, fun z hz => ?_⟩
      rcases List.mem_cons.mp hz with rfl | hz
      · exact ⟨key, his⟩
      · exact c z hz
theorem AL.to_des {es : List DictEntry} {kvs : List (L2.Key × Value)} {ks vs : List D} (a : AL B M H kvs ks vs) : Pairs (mixKind B.P B.w) es kvs → (∀ e ∈ es, ∃ k, keyIs k e.key = true ∧ e.hash = keyH B.w k) → DEs B M H es ks vs := by
  induction a generalizing es with
  | nil => intro p _; cases p; exact .nil
  | @cons k u kvs d ds v vs y e r q t ih =>
    intro p c
    cases p with
    | @cons e0 _ es0 _ p1 p2 p3 =>
      have hk0 : keyIs k e0.key = true := p1
      obtain ⟨k', hk', hh⟩ := c e0 List.mem_cons_self
      have ekk : k' = k := (mixKind B.P B.w).inj e0.key k' k hk' hk0
      subst ekk
      have rest := ih p3 fun z hz => c z (List.mem_cons_of_mem _ hz)
      have p2' : e0.val = u := p2
      rcases keyIs_shape hk0 with ⟨i, t, rfl, ei⟩ | ⟨z, t, rfl, ez⟩
      · have ed : d = .int i := by
          cases d <;> simp [keyF] at e
          rw [e]
        subst ed
        exact .cons (x := .int i) (y := y) ⟨t, ei⟩ (by rw [p2']; exact r) (.int i) q (by rw [hh]; simp [hashD, toKey, NestedKey.hash, keyH]) rest
      · cases d <;> simp [keyF] at e
        rename_i w
        subst e
        exact .cons (x := .str (toS w)) (y := y) ⟨t, ez⟩ (by rw [p2']; exact r) (.str w) q (by rw [hh]; simp [hashD, toKey, NestedKey.hash, keyH]) rest
end

/-! ### tuple keys -/
inductive AT (B : Bs) (M : MF) (H : Hp) : List (NestedKey × Addr × Value) → List D → List D → Prop
  | nil : AT B M H [] [] []
  | cons {k b u xs d ds v vs y} : toKey d = some k → keyTup d = true → VR B M H (.ref b) d → RelV y u → VR B M H y v → AT B M H xs ds vs → AT B M H ((k, b, u) :: xs) (d :: ds) (v :: vs)
section
variable {B : Bs} {M : MF} {H : Hp}
theorem AT.keys : ∀ {xs ks vs}, AT B M H xs ks vs → xs.map (fun p => some p.1) = ks.map toKey
  | _, _, _, .nil => rfl
  | _, _, _, .cons e _ _ _ _ t => by simp [e, AT.keys t]
theorem AT.length : ∀ {kvs ks vs}, AT B M H kvs ks vs → kvs.length = ks.length ∧ ks.length = vs.length
  | _, _, _, .nil => ⟨rfl, rfl⟩
  | _, _, _, .cons _ _ _ _ _ t => by obtain ⟨a, b⟩ := AT.length t; exact ⟨by simp [a], by simp [b]⟩
theorem AT.look {k : NestedKey} {d : D} (hk : toKey d = some k) : ∀ {kvs ks vs}, AT B M H kvs ks vs → (∀ v, at? ks vs d = some v → ∃ b u y, atKey kvs k = some (b, u) ∧ RelV y u ∧ VR B M H y v) ∧ (at? ks vs d = none → atKey kvs k = none)
  | _, _, _, .nil => ⟨fun v h => by simp [at?] at h, fun _ => rfl⟩
  | _, _, _, .cons (k := k1) (b := b1) (u := u1) (xs := kvs1) (d := d1) (ds := ds1) (v := v1) (vs := vs1) (y := y1) e kt rb r q t => by
    have ih := AT.look hk t
    by_cases hd : d = d1
    · subst hd
      have ek : k1 = k := by rw [e] at hk; exact Option.some.inj hk
      subst ek
      have a1 : at? (d :: ds1) (v1 :: vs1) d = some v1 := by simp [at?]
      have a2 : atKey ((k1, b1, u1) :: kvs1) k1 = some (b1, u1) := by simp [atKey]
      exact ⟨fun v h => by rw [a1] at h; cases h; exact ⟨_, _, _, a2, r, q⟩, fun h => by rw [a1] at h; cases h⟩
    · have nk : ¬ k1 = k := fun z => by subst z; exact hd (toKey_inj hk e)
      have a1 : at? (d1 :: ds1) (v1 :: vs1) d = at? ds1 vs1 d := by
        have : (d == d1) = false := beq_eq_false_iff_ne.mpr hd
        simp [at?, List.lookup, this]
      have a2 : atKey ((k1, b1, u1) :: kvs1) k = atKey kvs1 k := by simp [atKey, nk]
      rw [a1, a2]
      exact ih
theorem AT.notin {k : NestedKey} {d : D} (hk : toKey d = some k) {kvs ks vs} (a : AT B M H kvs ks vs) (n : d ∉ ks) : ∀ p ∈ kvs, p.1 ≠ k := by
  induction a with
  | nil => simp
  | cons e kt rb r q t ih =>
    simp only [List.mem_cons, not_or] at n
    intro p hp
    rcases List.mem_cons.mp hp with rfl | hp
    · exact fun z => n.1 (by simp only at z; subst z; exact toKey_inj hk e)
    · exact ih n.2 p hp
theorem at_any (k : NestedKey) : ∀ kvs : List (NestedKey × Addr × Value), (atKey kvs k).isSome = kvs.any fun kv => decide (kv.1 = k)
  | [] => rfl
  | p :: r => by
    have ih := at_any k r
    unfold atKey at ih ⊢
    by_cases e : p.1 = k
    · simp [List.find?_cons, e]
    · simp only [List.find?_cons, e, decide_false, List.any_cons, Bool.false_or]
      exact ih
theorem AT.put {k : NestedKey} {d v : D} {b : Addr} {u : Value} {y : V} (hk : toKey d = some k) (kt : keyTup d = true) (rb : VR B M H (.ref b) d) (ru : RelV y u) (rv : VR B M H y v) : ∀ {kvs ks vs}, AT B M H kvs ks vs → ks.Nodup → AT B M H (storedH kvs k b u) (putD ks vs d v).1 (putD ks vs d v).2 := by
  intro kvs ks vs a nd
  have hl := a.length
  by_cases m : d ∈ ks
  · have key : ∀ {kvs ks vs}, AT B M H kvs ks vs → ks.Nodup → d ∈ ks → AT B M H (kvs.map (putAt k u)) (putD ks vs d v).1 (putD ks vs d v).2 ∧ kvs.any (fun kv => decide (kv.1 = k)) = true := by
      intro kvs ks vs a
      induction a with
      | nil => intro _ m; simp at m
      | @cons k1 b1 u1 kvs1 d1 ds1 v1 vs1 y1 e kt1 rb1 r q t ih =>
        intro nd m
        obtain ⟨n1, n2⟩ := List.nodup_cons.mp nd
        by_cases e1 : d1 = d
        · subst e1
          have ek : k1 = k := by rw [e] at hk; exact Option.some.inj hk
          subst ek
          have hn := t.notin hk n1
          have hmap : kvs1.map (putAt k1 u) = kvs1 := by
            refine (List.map_congr_left fun p hp => ?_).trans (List.map_id _)
            unfold putAt
            rw [if_neg (hn p hp)]
            rfl
          constructor
          · rw [List.map_cons, hmap]
            unfold putD putAt
            rw [if_pos rfl, if_pos rfl]
            exact .cons e kt1 rb1 ru rv t
          · simp
        · have nk : ¬ k1 = k := fun z => by subst z; exact e1 (toKey_inj e hk)
          have m2 : d ∈ ds1 := (List.mem_cons.mp m).resolve_left fun z => e1 z.symm
          obtain ⟨i1, i2⟩ := ih n2 m2
          constructor
          · rw [List.map_cons]
            unfold putD
            rw [if_neg e1]
            have : putAt k u (k1, b1, u1) = (k1, b1, u1) := by unfold putAt; rw [if_neg nk]
            rw [this]
            exact .cons e kt1 rb1 r q i1
          · rw [List.any_cons, i2, Bool.or_true]
    obtain ⟨h1, h2⟩ := key a nd m
    unfold storedH
    rw [at_any, if_pos h2]
    exact h1
  · have hn := a.notin hk m
    have h2 : ¬ kvs.any (fun kv => decide (kv.1 = k)) = true := by
      rw [List.any_eq_true]
      rintro ⟨p, hp, z⟩
      exact hn p hp (of_decide_eq_true z)
    unfold storedH
    rw [at_any, if_neg h2, putD_new hl.2 m]
    clear h2 hn m nd hl
    induction a with
    | nil => exact .cons hk kt rb ru rv .nil
    | cons e k1 rb1 r q t ih => exact .cons e k1 rb1 r q ih
theorem AT.of_des {es : List DictEntry} {ks vs : List D} (de : DEs B M H es ks vs) : (∀ k ∈ ks, keyTup k = true) → ∃ xs, AT B M H xs ks vs ∧ es = xs.map (entryOfKey (nestedKind B.P B.w)) := by
  induction es generalizing ks vs with
  | nil => cases de; exact fun _ => ⟨[], .nil, rfl⟩
  | cons e es ih =>
    cases de with
    | cons r1 r2 q1 q2 hh t =>
      rename_i k ks v vs x y
      intro hk
      obtain ⟨xs, a, p⟩ := ih t fun z hz => hk z (List.mem_cons_of_mem _ hz)
      have kt := hk k List.mem_cons_self
      obtain ⟨zs, nk, rfl, ek, _⟩ := keyTup_N kt
      obtain ⟨b, ws, rfl, _, _⟩ := q1.tupI
      have eb : e.key = .ref b := r1
      refine ⟨(.tup nk, b, e.val) :: xs, .cons ek kt q1 r2 q2 a, ?_⟩
      rw [List.map_cons, ← p]
      congr 1
      obtain ⟨h1, h2, h3⟩ := e
      simp only at eb hh
      subst eb
      rw [hh]
      show _ = (⟨(NestedKey.tup nk).hash B.w, .ref b, h3⟩ : DictEntry)
      simp [hashD, ek]
theorem AT.to_des {xs : List (NestedKey × Addr × Value)} {ks vs : List D} (a : AT B M H xs ks vs) : DEs B M H (xs.map (entryOfKey (nestedKind B.P B.w))) ks vs := by
  induction a with
  | nil => exact .nil
  | @cons k b u xs d ds v vs y e kt rb r q t ih =>
    refine .cons (x := .ref b) (y := y) rfl r rb q ?_ ih
    show k.hash B.w = _
    simp [hashD, e]
theorem AT.step {M' : MF} {H' : Hp} (st : Stp M H M' H') : ∀ {kvs ks vs}, AT B M H kvs ks vs → AT B M' H' kvs ks vs
  | _, _, _, .nil => .nil
  | _, _, _, .cons e k rb r q t => .cons e k (rb.step st) r (q.step st) (AT.step st t)
end
theorem nodup_map {α β : Type} {f : α → β} : ∀ {l : List α}, (∀ x ∈ l, ∀ y ∈ l, f x = f y → x = y) → l.Nodup → (l.map f).Nodup
  | [], _, _ => List.nodup_nil
  | a :: l, h, nd => by
    obtain ⟨h1, h2⟩ := List.nodup_cons.mp nd
    rw [List.map_cons, List.nodup_cons]
    refine ⟨fun z => ?_, nodup_map (fun x hx y hy => h x (List.mem_cons_of_mem _ hx) y (List.mem_cons_of_mem _ hy)) h2⟩
    obtain ⟨b, hb, e⟩ := List.mem_map.mp z
    have := h b (List.mem_cons_of_mem _ hb) a List.mem_cons_self e
    subst this
    exact h1 hb
theorem nodup_of {α β : Type} {f : α → β} {l : List α} (h : (l.map f).Nodup) : l.Nodup := (List.pairwise_map.mp h).imp fun h e => h (by rw [e])
theorem DEs.length {B : Bs} {M : MF} {H : Hp} : ∀ {es ks vs}, DEs B M H es ks vs → es.length = ks.length ∧ ks.length = vs.length
  | _, _, _, .nil => ⟨rfl, rfl⟩
  | _, _, _, .cons _ _ _ _ _ t => by obtain ⟨a, b⟩ := DEs.length t; exact ⟨by simp [a], by simp [b]⟩
theorem keysOk_cases {k : D} {ks : List D} (h : keysOk (k :: ks) = true) : (keyTup k = true ∧ ∀ x ∈ ks, keyTup x = true) ∨ (keyLeaf k = true ∧ ∀ x ∈ ks, keyLeaf x = true) := by
  unfold keysOk at h
  rcases Bool.or_eq_true_iff.mp h with h | h
  · left
    rw [List.all_cons, Bool.and_eq_true, List.all_eq_true] at h
    exact h
  · right
    rw [List.all_cons, Bool.and_eq_true, List.all_eq_true] at h
    exact h
section
variable {X : Cx} {g : Nat → Option Addr} {pins : List (Addr × Obj)} {σ : St} {H : Hp} {s : Shared} {M : MF} {d : Addr} {es : Array DictEntry} {ep : Nat} {ks vs : List D}
theorem Inv.raw (I : L2.Inv X pins σ H s) (h : H d = some (DictO d es ep)) : s.heap.DictRaw d es ep := (I.hok d _ h).1
theorem dict_flat (I : L2.Inv X pins σ H s) (h : H d = some (DictO d es ep)) (de : DEs (bs X g) M H es.toList ks vs) (nd : ks.Nodup) (kl : ∀ k ∈ ks, keyLeaf k = true) : ∃ kvs, AL (bs X g) M H kvs ks vs ∧ s.heap.DictOf (mixKind X.prog X.w) d kvs := by
  obtain ⟨kvs, a, p, c⟩ := AL.of_des de kl
  obtain ⟨o, ho, hx, hd⟩ := Inv.raw I h
  refine ⟨kvs, a, o, es, ep, ho, hx, hd, fun e he => ?_, p, ?_⟩
  · obtain ⟨k, h1, h2⟩ := c e (by simpa using he)
    exact ⟨k, h1, h2⟩
  · have := a.keys
    have nn : (kvs.map (fun p => some p.1)).Nodup := by
      rw [this]
      refine nodup_map ?_ nd
      intro x hx y hy e
      obtain ⟨k1, e1⟩ := keyLeaf_F (kl x hx)
      exact keyF_inj e1 (by rw [← e, e1])
    have e2 : kvs.map (fun p => some p.1) = (kvs.map (·.1)).map some := by simp
    rw [e2] at nn
    exact nodup_of nn
theorem dict_tup (I : L2.Inv X pins σ H s) (h : H d = some (DictO d es ep)) (de : DEs (bs X g) M H es.toList ks vs) (nd : ks.Nodup) (kl : ∀ k ∈ ks, keyTup k = true) : ∃ xs, AT (bs X g) M H xs ks vs ∧ s.heap.DictOfH (nestedKind X.prog X.w) d xs := by
  obtain ⟨xs, a, p⟩ := AT.of_des de kl
  obtain ⟨o, ho, hx, hd⟩ := Inv.raw I h
  refine ⟨xs, a, o, es, ep, ho, hx, hd, p, ?_, ?_⟩
  · have key : ∀ {xs ks vs}, AT (bs X g) M H xs ks vs → ∀ x ∈ xs, (nestedKind X.prog X.w).is s.heap x.1 x.2.1 := by
      intro xs ks vs a
      induction a with
      | nil => simp
      | @cons k b u xs d0 ds v vs y e kt rb r q t ih =>
        intro x hx
        rcases List.mem_cons.mp hx with rfl | hx
        · obtain ⟨_, nk, rfl, ek, hdp⟩ := keyTup_N kt
          rw [ek] at e; cases e
          exact ⟨VR.key I rb ek rfl, hdp⟩
        · exact ih x hx
    exact key a
  · have := a.keys
    have nn : (xs.map (fun p => some p.1)).Nodup := by
      rw [this]
      refine nodup_map ?_ nd
      intro x hx y hy e
      obtain ⟨_, nk, _, e1, _⟩ := keyTup_N (kl x hx)
      exact toKey_inj e1 (by rw [← e, e1])
    have e2 : xs.map (fun p => some p.1) = (xs.map (·.1)).map some := by simp
    rw [e2] at nn
    exact nodup_of nn
end
end QL
set_option Elab.async false
set_option linter.all false
set_option maxRecDepth 100000
set_option maxHeartbeats 4000000
/-! QL8: what a dict does. -/
namespace QL
open PySem PySem.Spec L2
open PyProof.Rows hiding St
section
variable {X : Cx} {g : Nat → Option Addr} {pins : List (Addr × Obj)} {σ : St} {H : Hp} {s : Shared} {M : MF} {d : Addr} {es : Array DictEntry} {ep : Nat} {ks vs : List D} {k : D} {v : V} {u : Value} {E : Value → Shared → Prop} {Q : VK}
theorem key_tup (I : L2.Inv X pins σ H s) (kt : keyTup k = true) (rk : VR (bs X g) M H v k) (ru : RelV v u) : ∃ a nk, v = .ref a ∧ u = .ref a ∧ toKey k = some nk ∧ (nestedKind X.prog X.w).is s.heap nk a := by
  obtain ⟨xs, nk, rfl, e, hd⟩ := keyTup_N kt
  obtain ⟨a, ws, rfl, _, _⟩ := rk.tupI
  cases ru
  exact ⟨a, _, rfl, rfl, e, VR.key I rk e rfl, hd⟩
theorem key_leaf (kl : keyLeaf k = true) (rk : VR (bs X g) M H v k) (ru : RelV v u) : ∃ key, keyF k = some key ∧ keyIs key u = true := by
  cases k <;> simp [keyLeaf] at kl
  · cases rk; obtain ⟨t, rfl⟩ := ru; exact ⟨_, rfl, keyIs_int _ t⟩
  · cases rk; obtain ⟨t, rfl⟩ := ru; exact ⟨_, rfl, keyIs_str _ t⟩
theorem dict_getItem (I : L2.Inv X pins σ H s) (hu : X.A.units + 64 < cLine) (h : H d = some (DictO d es ep)) (de : DEs (bs X g) M H es.toList ks vs) (nd : ks.Nodup) (kk : keysOk (k :: ks) = true) (rk : VR (bs X g) M H v k) (ru : RelV v u) {x : D} (hat : at? ks vs k = some x)
    (q : ∀ y, VR (bs X g) M H y x → Q y H) : wpAny (model X.prog X.w) X.A (getItem (.ref d) u) (EP X pins σ Q) E s := by
  rcases keysOk_cases kk with ⟨k1, k2⟩ | ⟨k1, k2⟩
  · obtain ⟨a, nk, rfl, rfl, ek, his⟩ := key_tup I k1 rk ru
    obtain ⟨xs, al, hm⟩ := dict_tup I h de nd k2
    obtain ⟨b, uu, y, e1, r1, q1⟩ := (al.look ek).1 x hat
    exact wpAny_getItem_heap (show X.A.in1.units + 8 < cLine by show X.A.units + 1 + 8 < _; omega) his hm e1 ⟨y, H, I.tok _, r1, q y q1⟩
  · obtain ⟨key, ek, his⟩ := key_leaf k1 rk ru
    obtain ⟨kvs, al, hm⟩ := dict_flat I h de nd k2
    obtain ⟨uu, y, e1, r1, q1⟩ := (al.look ek).1 x hat
    exact wpAny_getItem_of his hm.mapOf e1 ⟨y, H, I.tok _, r1, q y q1⟩
theorem at_mem {x : D} (hl : ks.length = vs.length) : (at? ks vs k).isSome = decide (k ∈ ks) := by
  induction ks generalizing vs with
  | nil => simp [at?]
  | cons a ks ih =>
    cases vs with
    | nil => simp at hl
    | cons b vs =>
      have ih := ih (vs := vs) (by simpa using hl)
      by_cases e : k = a
      · subst e; simp [at?]
      · have hb : (k == a) = false := beq_eq_false_iff_ne.mpr e
        have : at? (a :: ks) (b :: vs) k = at? ks vs k := by simp [at?, List.lookup, hb]
        rw [this, ih]
        simp [e]
theorem dict_in (I : L2.Inv X pins σ H s) (hu : X.A.units + 64 < cLine) (h : H d = some (DictO d es ep)) (ns : (d == sysModules) = false) (de : DEs (bs X g) M H es.toList ks vs) (nd : ks.Nodup) (kk : keysOk (k :: ks) = true) (rk : VR (bs X g) M H v k) (ru : RelV v u) {Q : Value → Shared → Prop}
    (q : ∀ t, Q (.bool (decide (k ∈ ks))) { s with toks := t }) : wpAny (model X.prog X.w) X.A (compareOp .In u (.ref d)) Q E s := by
  have hl := (DEs.length de).2
  rw [← at_mem (x := .non) hl] at q
  rcases keysOk_cases kk with ⟨k1, k2⟩ | ⟨k1, k2⟩
  · obtain ⟨a, nk, rfl, rfl, ek, his⟩ := key_tup I k1 rk ru
    obtain ⟨xs, al, hm⟩ := dict_tup I h de nd k2
    refine wpAny_in_heap (show X.A.in1.units + 8 < cLine by show X.A.units + 1 + 8 < _; omega) his ns hm ?_
    cases e : at? ks vs k with
    | none => rw [(al.look ek).2 e]; rw [e] at q; exact q _
    | some x => obtain ⟨b, uu, y, e1, _, _⟩ := (al.look ek).1 x e; rw [e1]; rw [e] at q; exact q _
  · obtain ⟨key, ek, his⟩ := key_leaf k1 rk ru
    obtain ⟨kvs, al, hm⟩ := dict_flat I h de nd k2
    refine wpAny_in_of his ns hm.mapOf ?_
    cases e : at? ks vs k with
    | none => rw [show valueAt kvs key = none from (al.look ek).2 e]; rw [e] at q; exact q _
    | some x => obtain ⟨uu, y, e1, _, _⟩ := (al.look ek).1 x e; rw [show valueAt kvs key = some uu from e1]; rw [e] at q; exact q _
end
end QL
set_option Elab.async false
set_option linter.all false
set_option maxRecDepth 100000
set_option maxHeartbeats 4000000
/-! QL9: zip, enumerate over sequences of either kind. -/
namespace QL
open PySem PySem.Spec L2
open PyProof.Rows hiding St

theorem vals_getV {xs : List V} {us : List Value} {i : Nat} {u : Value} (r : Vals xs us) (e : us[i]? = some u) : ∃ x, xs[i]? = some x ∧ RelV x u := by
  cases h : xs[i]? with
  | none => rw [r.none_of h] at e; cases e
  | some x =>
    obtain ⟨u', h1, h2⟩ := r.get h
    rw [e] at h1; cases h1
    exact ⟨x, rfl, h2⟩
/-- a list (false), a tuple (true) -/
def SqB (K : PySem.W.Frag) : Bool → Hp → Addr → List V → Prop
  | true => SqT K
  | false => SqL K
def ItB : Bool → Heap → Addr → Addr → Nat → Prop
  | true => Heap.IsTupleIter
  | false => Heap.IsListIter
def HsB : Bool → Heap → Addr → Array Value → Prop
  | true => Heap.IsTuple
  | false => Heap.IsList
def oB (b : Bool) (a : Addr) : Obj := { cls := .type (if b then "tuple_iterator" else "list_iterator"), data := .fields #[.ref a, .int 0 0] }
section
variable {X : Cx} {pins : List (Addr × Obj)} {σ : L2.St} {H : Hp} {s : Shared} {b : Bool} {a : Addr} {xs ys : List V}
theorem seqB (I : L2.Inv X pins σ H s) (h : SqB X.K b H a xs) : ∃ its : List Value, Vals xs its ∧ HsB b s.heap a its.toArray ∧ a < s.heap.objs.size := by
  cases b with
  | true => obtain ⟨its, r, p, _⟩ := I.tuple h; exact ⟨its, r, p, let ⟨_, e, _⟩ := p; Heap.lt_size e⟩
  | false => obtain ⟨its, r, p, _⟩ := I.list h; exact ⟨its, r, p.isList, p.lt⟩
theorem seqB_inj (I : L2.Inv X pins σ H s) (h : SqB X.K b H a xs) (h' : SqB X.K b H a ys) : xs = ys := by
  cases b with
  | true => exact I.tuple_inj h h'
  | false => exact I.list_inj h h'
end
theorem begB (b : Bool) (a : Addr) (items : Array Value) : Begins (.ref a) (oB b a) fun h => HsB b h a items := by
  cases b with
  | true => exact begins_tuple a items
  | false => exact begins_list a items
def sB (b : Bool) (it a : Addr) (items : Array Value) : Nat → Heap → Prop := fun i h => ItB b h it a i ∧ HsB b h a items
theorem drB {prog : Program} {w : World} {A : Around} (hh : A.handled = none) (b : Bool) (it a : Addr) (hne : a ≠ it) (items : Array Value) : Draws prog w A it [it, a] items.size (fun i v => items[i]? = some v) (sB b it a items) := by
  cases b with
  | true => exact Draws.tuple hh it a hne items
  | false => exact Draws.list hh it a hne items
theorem ItB.obj {b : Bool} {h : Heap} {it a : Addr} {i : Nat} (x : ItB b h it a i) : ∃ o, h.get? it = some o ∧ ∀ v, o.data ≠ .cell v := by
  cases b with
  | true => obtain ⟨o, e, _, d⟩ := x; exact ⟨o, e, fun v q => by rw [d] at q; cases q⟩
  | false => obtain ⟨o, e, _, d⟩ := x; exact ⟨o, e, fun v q => by rw [d] at q; cases q⟩
theorem ItB.at {b : Bool} {h h' : Heap} {it a : Addr} {i : Nat} (x : ItB b h it a i) (k : ∀ o, h.get? it = some o → h'.get? it = some o) : ItB b h' it a i := by
  cases b with
  | true => obtain ⟨o, e, r⟩ := x; exact ⟨o, k o e, r⟩
  | false => obtain ⟨o, e, r⟩ := x; exact ⟨o, k o e, r⟩
theorem ItB.beg {b : Bool} {h : Heap} {it a : Addr} (e : h.get? it = some (oB b a)) : ItB b h it a 0 := by
  cases b with
  | true => exact ⟨_, e, rfl, rfl⟩
  | false => exact ⟨_, e, rfl, rfl⟩

/-- an iterator that gives out new tuples -/
def ItN (go stop : Nat → Hp → Prop) (R : Nat → Hp → List V → Prop) : It := ⟨go, fun i H v H' => ∃ T vs, v = .ref T ∧ H T = none ∧ H' = upd H T (.tup vs) ∧ R i H vs, stop⟩
theorem turn_gen {P : Program} {w : World} {K : PySem.W.Frag} {elts : List Expr} {kk : Nat} {tpos : Pos} {go stop : Nat → Hp → Prop} {R : Nat → Hp → List V → Prop} {z : Addr} {fpI wr : List Addr} {tn : Nat → Heap → Prop}
    (mem : z ∈ fpI) (hwr : ∀ b ∈ wr, b ∈ fpI) (obj : ∀ i h, tn i h → ∀ b ∈ fpI, ∃ o, h.get? b = some o ∧ ∀ v, o.data ≠ .cell v)
    (keep : ∀ i h h', tn i h → (∀ b ∈ fpI, ∀ o, h.get? b = some o → h'.get? b = some o) → tn i h')
    (self : ∀ (A : Around) (i : Nat) (s : Shared) (Q : Value → Shared → Prop) (E : Value → Shared → Prop), tn i s.heap → Q (.ref z) s → wpAny (model P w) A (pyIter (.ref z)) Q E s)
    (item : ∀ (X : Cx), X.prog = P → X.w = w → X.K = K → ∀ (i : Nat) (pins : List (Addr × Obj)) (s : Shared) (σ : L2.St) (H : Hp), X.A.handled = none → L2.Inv X pins σ H s → tn i s.heap → go i H →
      ∃ fp n Pt St Mid, WalksT P w X.A z fp wr n Pt St Mid ∧ i < n ∧ St i s.heap ∧ (∀ h, St (i + 1) h → tn (i + 1) h) ∧ ∀ vals : Array Value, Pt i vals → ∃ vs, Vals vs vals.toList ∧ vs.length ≤ sizeLine ∧ R i H vs)
    (done : ∀ (X : Cx), X.prog = P → X.w = w → X.K = K → ∀ (i : Nat) (pins : List (Addr × Obj)) (s : Shared) (σ : L2.St) (H : Hp), X.A.handled = none → L2.Inv X pins σ H s → tn i s.heap → stop i H →
      ∃ fp n Pt St Mid, WalksT P w X.A z fp wr n Pt St Mid ∧ St n s.heap) :
    Turn P w K (.Tuple elts kk tpos) (ItN go stop R) fpI z tn where
  mem := mem
  obj := obj
  keep := keep
  item := by
    intro X hP hw hK hc i pins s σ H E I hf st hg
    obtain ⟨fp, n, Pt, St, Mid, W, hi, hS, back, vals⟩ := item X hP hw hK i pins s σ H (I.ok.hd hc) I st hg
    subst hP hw hK
    refine W.item i s _ E hi hS fun T us h' tk hp hT hI hM hk => ⟨.ref T, rfl, ?_⟩
    refine W.go elts kk tpos i T { s with heap := h', toks := tk } _ E hM fun h'' hS' hk' => ?_
    obtain ⟨vs, rv, hz, hR⟩ := vals us hp
    have hTw : T ∉ wr := W.apart i T _ hM
    have hlt : ∀ b ∈ fpI, b < s.heap.objs.size := fun b hb => by obtain ⟨o, e, _⟩ := obj i _ st b hb; exact Heap.lt_size e
    have new : ObjOk X.prog X.w (upd H T (.tup vs)) h'' T (.tup vs) := by
      obtain ⟨o, e, c, m, d⟩ := hI
      exact ⟨hz, us.toList, rv, o, hk' T o hTw e, c, m, by simpa using d⟩
    have I1 : L2.Inv X pins σ (upd H T (.tup vs)) { s with heap := h'', toks := tk } :=
      I.turnedNew (t' := tk) (ch := wr) (fun c o hb q => hk' c o hb (hk c o hb q)) (fun b hb => hf b (hwr b hb)) hT new
    refine ⟨.ref T, _, I1, rfl, ⟨T, vs, rfl, I.hok.fresh hT, rfl, hR⟩, back _ hS', fun c hc => ?_⟩
    rw [upd_ne (Nat.ne_of_lt (Nat.lt_of_lt_of_le (hlt c hc) hT))]
    exact (hf c hc).1
  done := by
    intro X hP hw hK hc i pins s σ H E I hf st hg
    obtain ⟨fp, n, Pt, St, Mid, W, hS⟩ := done X hP hw hK i pins s σ H (I.ok.hd hc) I st hg
    subst hP hw hK
    exact W.done s _ E hS fun h' tk hk => ⟨rfl, I.turnedL (t' := tk) (ch := wr) hk fun b hb => hf b (hwr b hb)⟩
  self := self

/-! ### zip of two -/
def Jz2 (K : PySem.W.Frag) (b1 b2 : Bool) (l1 l2 : Addr) : It := ItN
  (fun i H => ∃ xs ys, SqB K b1 H l1 xs ∧ SqB K b2 H l2 ys ∧ i < min xs.length ys.length)
  (fun i H => ∃ xs ys, SqB K b1 H l1 xs ∧ SqB K b2 H l2 ys ∧ i = min xs.length ys.length)
  (fun i H vs => ∃ x y, vs = [x, y] ∧ (∀ xs, SqB K b1 H l1 xs → xs[i]? = some x) ∧ ∀ ys, SqB K b2 H l2 ys → ys[i]? = some y)
theorem turn_z2 {P : Program} {w : World} {K : PySem.W.Frag} {elts : List Expr} {kk : Nat} {tpos : Pos} {b1 b2 : Bool} {l1 l2 N : Addr} (h1 : l1 < N) (h2 : l2 < N) :
    Turn P w K (.Tuple elts kk tpos) (Jz2 K b1 b2 l1 l2) [N + 4, N + 2, N + 3, N, N + 1] (N + 4) (fun i h => IsZip h (N + 4) (N + 2) (N + 3) .none ∧ IsTupOf2 h (N + 2) (.ref N) (.ref (N + 1)) ∧ (∃ x y, IsTupOf2 h (N + 3) x y) ∧ ItB b1 h N l1 i ∧ ItB b2 h (N + 1) l2 i) := by
  have S : ZipSep2 (N + 4) (N + 2) (N + 3) N (N + 1) [N, l1] [N + 1, l2] := zip_sep2 (fp1 := [l1]) (fp2 := [l2]) (by simpa using h1) (by simpa using h2)
  refine turn_gen (wr := [N + 4, N + 3, N, N + 1]) (by simp) (by simp) (fun i h st c hc => ?_) (fun i h h' st k => ?_) (fun A i s Q E st h => wpAny_pyIter_zip st.1 h) ?_ ?_
  · obtain ⟨hz, hTI, ⟨x, y, hTO⟩, q1, q2⟩ := st
    have e' : c = N + 4 ∨ c = N + 2 ∨ c = N + 3 ∨ c = N ∨ c = N + 1 := by simpa using hc
    rcases e' with q | q | q | q | q
    · rw [q]; exact ⟨_, hz, fun v q => nomatch q⟩
    · rw [q]; exact ⟨_, hTI, fun v q => nomatch q⟩
    · rw [q]; exact ⟨_, hTO, fun v q => nomatch q⟩
    · rw [q]; exact q1.obj
    · rw [q]; exact q2.obj
  · obtain ⟨hz, hTI, ⟨x, y, hTO⟩, q1, q2⟩ := st
    exact ⟨k _ (by simp) _ hz, k _ (by simp) _ hTI, ⟨x, y, k _ (by simp) _ hTO⟩, q1.at fun o q => k _ (by simp) o q, q2.at fun o q => k _ (by simp) o q⟩
  · intro X hP hw hK i pins s σ H hh I st hg
    subst hP hw hK
    obtain ⟨hz, hTI, hTO, q1, q2⟩ := st
    obtain ⟨xs, ys, hx, hy, hi⟩ := hg
    obtain ⟨its, rv, p, _⟩ := seqB I hx
    obtain ⟨its2, rv2, p2, _⟩ := seqB I hy
    have e1 := rv.length
    have e2 := rv2.length
    refine ⟨_, _, _, _, _, WalksT.zipD2 S (drB (A := X.A.in1) hh b1 N l1 (Nat.ne_of_lt h1) its.toArray) (drB (A := X.A.in1) hh b2 (N + 1) l2 (Nat.ne_of_lt (Nat.lt_succ_of_lt h2)) its2.toArray), ?_, ⟨hz, hTI, hTO, ⟨q1, p⟩, ⟨q2, p2⟩⟩, fun h st => ⟨st.1, st.2.1, st.2.2.1, st.2.2.2.1.1, st.2.2.2.2.1⟩, ?_⟩
    · simp only [List.size_toArray]; omega
    · rintro vals ⟨x1, x2, g1, g2, rfl⟩
      obtain ⟨x, hx1, r1⟩ := vals_getV (i := i) rv (by simpa using g1)
      obtain ⟨y, hy1, r2⟩ := vals_getV (i := i) rv2 (by simpa using g2)
      exact ⟨[x, y], .cons r1 (.cons r2 .nil), (by show 2 ≤ sizeLine; decide), x, y, rfl, fun l hl => by rw [seqB_inj I hl hx]; exact hx1, fun l hl => by rw [seqB_inj I hl hy]; exact hy1⟩
  · intro X hP hw hK i pins s σ H hh I st hg
    subst hP hw hK
    obtain ⟨hz, hTI, hTO, q1, q2⟩ := st
    obtain ⟨xs, ys, hx, hy, hi⟩ := hg
    obtain ⟨its, rv, p, _⟩ := seqB I hx
    obtain ⟨its2, rv2, p2, _⟩ := seqB I hy
    have e1 := rv.length
    have e2 := rv2.length
    have ei : i = min its.toArray.size its2.toArray.size := by simp only [List.size_toArray]; omega
    refine ⟨_, _, _, _, _, WalksT.zipD2 S (drB (A := X.A.in1) hh b1 N l1 (Nat.ne_of_lt h1) its.toArray) (drB (A := X.A.in1) hh b2 (N + 1) l2 (Nat.ne_of_lt (Nat.lt_succ_of_lt h2)) its2.toArray), ?_⟩
    rw [← ei]
    exact ⟨hz, hTI, hTO, ⟨q1, p⟩, ⟨q2, p2⟩⟩

/-! ### zip of three -/
def Jz3 (K : PySem.W.Frag) (b1 b2 b3 : Bool) (l1 l2 l3 : Addr) : It := ItN
  (fun i H => ∃ xs ys zs, SqB K b1 H l1 xs ∧ SqB K b2 H l2 ys ∧ SqB K b3 H l3 zs ∧ i < min (min xs.length ys.length) zs.length)
  (fun i H => ∃ xs ys zs, SqB K b1 H l1 xs ∧ SqB K b2 H l2 ys ∧ SqB K b3 H l3 zs ∧ i = min (min xs.length ys.length) zs.length)
  (fun i H vs => ∃ x y u, vs = [x, y, u] ∧ (∀ xs, SqB K b1 H l1 xs → xs[i]? = some x) ∧ (∀ ys, SqB K b2 H l2 ys → ys[i]? = some y) ∧ ∀ zs, SqB K b3 H l3 zs → zs[i]? = some u)
theorem turn_z3 {P : Program} {w : World} {K : PySem.W.Frag} {elts : List Expr} {kk : Nat} {tpos : Pos} {b1 b2 b3 : Bool} {l1 l2 l3 N : Addr} (h1 : l1 < N) (h2 : l2 < N) (h3 : l3 < N) :
    Turn P w K (.Tuple elts kk tpos) (Jz3 K b1 b2 b3 l1 l2 l3) [N + 5, N + 3, N + 4, N, N + 1, N + 2] (N + 5) (fun i h => IsZip h (N + 5) (N + 3) (N + 4) .none ∧ IsTupOf3 h (N + 3) (.ref N) (.ref (N + 1)) (.ref (N + 2)) ∧ (∃ x y u, IsTupOf3 h (N + 4) x y u) ∧ ItB b1 h N l1 i ∧ ItB b2 h (N + 1) l2 i ∧ ItB b3 h (N + 2) l3 i) := by
  have S : ZipSep3 (N + 5) (N + 3) (N + 4) N (N + 1) (N + 2) [N, l1] [N + 1, l2] [N + 2, l3] := zip_sep3 (fp1 := [l1]) (fp2 := [l2]) (fp3 := [l3]) (by simpa using h1) (by simpa using h2) (by simpa using h3)
  have n2 : l2 ≠ N + 1 := Nat.ne_of_lt (Nat.lt_succ_of_lt h2)
  have n3 : l3 ≠ N + 2 := Nat.ne_of_lt (Nat.lt_succ_of_lt (Nat.lt_succ_of_lt h3))
  refine turn_gen (wr := [N + 5, N + 4, N, N + 1, N + 2]) (by simp) (by simp) (fun i h st c hc => ?_) (fun i h h' st k => ?_) (fun A i s Q E st h => wpAny_pyIter_zip st.1 h) ?_ ?_
  · obtain ⟨hz, hTI, ⟨x, y, u, hTO⟩, q1, q2, q3⟩ := st
    have e' : c = N + 5 ∨ c = N + 3 ∨ c = N + 4 ∨ c = N ∨ c = N + 1 ∨ c = N + 2 := by simpa using hc
    rcases e' with q | q | q | q | q | q
    · rw [q]; exact ⟨_, hz, fun v q => nomatch q⟩
    · rw [q]; exact ⟨_, hTI, fun v q => nomatch q⟩
    · rw [q]; exact ⟨_, hTO, fun v q => nomatch q⟩
    · rw [q]; exact q1.obj
    · rw [q]; exact q2.obj
    · rw [q]; exact q3.obj
  · obtain ⟨hz, hTI, ⟨x, y, u, hTO⟩, q1, q2, q3⟩ := st
    exact ⟨k _ (by simp) _ hz, k _ (by simp) _ hTI, ⟨x, y, u, k _ (by simp) _ hTO⟩, q1.at fun o q => k _ (by simp) o q, q2.at fun o q => k _ (by simp) o q, q3.at fun o q => k _ (by simp) o q⟩
  · intro X hP hw hK i pins s σ H hh I st hg
    subst hP hw hK
    obtain ⟨hz, hTI, hTO, q1, q2, q3⟩ := st
    obtain ⟨xs, ys, zs, hx, hy, hu, hi⟩ := hg
    obtain ⟨its, rv, p, _⟩ := seqB I hx
    obtain ⟨its2, rv2, p2, _⟩ := seqB I hy
    obtain ⟨its3, rv3, p3, _⟩ := seqB I hu
    have e1 := rv.length
    have e2 := rv2.length
    have e3 := rv3.length
    refine ⟨_, _, _, _, _, WalksT.zipD3 S (drB (A := X.A.in1) hh b1 N l1 (Nat.ne_of_lt h1) its.toArray) (drB (A := X.A.in1) hh b2 (N + 1) l2 n2 its2.toArray) (drB (A := X.A.in1) hh b3 (N + 2) l3 n3 its3.toArray), ?_, ⟨hz, hTI, hTO, ⟨q1, p⟩, ⟨q2, p2⟩, ⟨q3, p3⟩⟩, fun h st => ⟨st.1, st.2.1, st.2.2.1, st.2.2.2.1.1, st.2.2.2.2.1.1, st.2.2.2.2.2.1⟩, ?_⟩
    · simp only [List.size_toArray]; omega
    · rintro vals ⟨x1, x2, x3, g1, g2, g3, rfl⟩
      obtain ⟨x, hx1, r1⟩ := vals_getV (i := i) rv (by simpa using g1)
      obtain ⟨y, hy1, r2⟩ := vals_getV (i := i) rv2 (by simpa using g2)
      obtain ⟨u, hu1, r3⟩ := vals_getV (i := i) rv3 (by simpa using g3)
      exact ⟨[x, y, u], .cons r1 (.cons r2 (.cons r3 .nil)), (by show 3 ≤ sizeLine; decide), x, y, u, rfl, fun l hl => by rw [seqB_inj I hl hx]; exact hx1, fun l hl => by rw [seqB_inj I hl hy]; exact hy1, fun l hl => by rw [seqB_inj I hl hu]; exact hu1⟩
  · intro X hP hw hK i pins s σ H hh I st hg
    subst hP hw hK
    obtain ⟨hz, hTI, hTO, q1, q2, q3⟩ := st
    obtain ⟨xs, ys, zs, hx, hy, hu, hi⟩ := hg
    obtain ⟨its, rv, p, _⟩ := seqB I hx
    obtain ⟨its2, rv2, p2, _⟩ := seqB I hy
    obtain ⟨its3, rv3, p3, _⟩ := seqB I hu
    have e1 := rv.length
    have e2 := rv2.length
    have e3 := rv3.length
    have ei : i = min (min its.toArray.size its2.toArray.size) its3.toArray.size := by simp only [List.size_toArray]; omega
    refine ⟨_, _, _, _, _, WalksT.zipD3 S (drB (A := X.A.in1) hh b1 N l1 (Nat.ne_of_lt h1) its.toArray) (drB (A := X.A.in1) hh b2 (N + 1) l2 n2 its2.toArray) (drB (A := X.A.in1) hh b3 (N + 2) l3 n3 its3.toArray), ?_⟩
    rw [← ei]
    exact ⟨hz, hTI, hTO, ⟨q1, p⟩, ⟨q2, p2⟩, ⟨q3, p3⟩⟩

/-! ### enumerate -/
def Jen (K : PySem.W.Frag) (b : Bool) (l : Addr) : It := ItN
  (fun i H => ∃ xs, SqB K b H l xs ∧ i < xs.length)
  (fun i H => ∃ xs, SqB K b H l xs ∧ i = xs.length)
  (fun i H vs => ∃ x, vs = [.int (i : Nat), x] ∧ ∀ xs, SqB K b H l xs → xs[i]? = some x)
theorem turn_en {P : Program} {w : World} {K : PySem.W.Frag} {elts : List Expr} {kk : Nat} {tpos : Pos} {b : Bool} {l N : Addr} (h1 : l < N) :
    Turn P w K (.Tuple elts kk tpos) (Jen K b l) [N + 1, N] (N + 1) (fun i h => (∃ old, IsEnum h (N + 1) N (0 + (i : Int)) old) ∧ ItB b h N l i) := by
  have n1 : l ≠ N := Nat.ne_of_lt h1
  have e1 : N + 1 ≠ N := Nat.succ_ne_self N
  have e2 : N + 1 ∉ [N, l] := fun hm => by
    have : N + 1 = N ∨ N + 1 = l := by simpa using hm
    rcases this with q | q
    · exact e1 q
    · rw [← q] at h1; exact absurd h1 (Nat.not_lt.mpr (Nat.le_succ N))
  refine turn_gen (wr := [N + 1, N]) (by simp) (by simp) (fun i h st c hc => ?_) (fun i h h' st k => ?_) (fun A i s Q E st h => by obtain ⟨⟨old, he⟩, _⟩ := st; exact wpAny_pyIter_enum he h) ?_ ?_
  · obtain ⟨⟨old, he⟩, q1⟩ := st
    have e' : c = N + 1 ∨ c = N := by simpa using hc
    rcases e' with q | q
    · rw [q]; exact ⟨_, he, fun v q => nomatch q⟩
    · rw [q]; exact q1.obj
  · obtain ⟨⟨old, he⟩, q1⟩ := st
    exact ⟨⟨old, k _ (by simp) _ he⟩, q1.at fun o q => k _ (by simp) o q⟩
  · intro X hP hw hK i pins s σ H hh I st hg
    subst hP hw hK
    obtain ⟨he, q1⟩ := st
    obtain ⟨xs, hx, hi⟩ := hg
    obtain ⟨its, rv, p, _⟩ := seqB I hx
    have el := rv.length
    refine ⟨_, _, _, _, _, WalksT.enumFrom 0 (drB (A := X.A.in1) hh b N l n1 its.toArray) (N + 1) e1 e2 (by simp), ?_, ⟨he, q1, p⟩, fun h st => ⟨st.1, st.2.1⟩, ?_⟩
    · simp only [List.size_toArray]; omega
    · rintro vals ⟨t, x1, g1, rfl⟩
      obtain ⟨x, hx1, r1⟩ := vals_getV (i := i) rv (by simpa using g1)
      exact ⟨[.int (i : Nat), x], .cons ⟨t, by simp⟩ (.cons r1 .nil), (by show 2 ≤ sizeLine; decide), x, rfl, fun l hl => by rw [seqB_inj I hl hx]; exact hx1⟩
  · intro X hP hw hK i pins s σ H hh I st hg
    subst hP hw hK
    obtain ⟨he, q1⟩ := st
    obtain ⟨xs, hx, hi⟩ := hg
    obtain ⟨its, rv, p, _⟩ := seqB I hx
    have el := rv.length
    have ei : i = its.toArray.size := by simp only [List.size_toArray]; omega
    refine ⟨_, _, _, _, _, WalksT.enumFrom 0 (drB (A := X.A.in1) hh b N l n1 its.toArray) (N + 1) e1 e2 (by simp), ?_⟩
    rw [← ei]
    exact ⟨he, q1, p⟩
end QL
set_option Elab.async false
set_option linter.all false
set_option maxRecDepth 100000
set_option maxHeartbeats 4000000
/-! QL10: what is walked. -/
namespace QL
open PySem PySem.Spec L2
open PyProof.Rows hiding St

/-- a later state -/
structure Later (B : Bs) (M : MF) (H : Hp) (M' : MF) (H' : Hp) : Prop where
  vr : ∀ v d, VR B M H v d → VR B M' H' v d
  out : ∀ a o, M.out a → H a = some o → H' a = some o ∧ M'.out a
section
variable {B : Bs} {M M' M'' : MF} {H H' H'' : Hp}
theorem Later.refl : Later B M H M H := ⟨fun _ _ r => r, fun _ _ o e => ⟨e, o⟩⟩
theorem Later.trans (a : Later B M H M' H') (b : Later B M' H' M'' H'') : Later B M H M'' H'' := ⟨fun v d r => b.vr v d (a.vr v d r), fun c o h e => let ⟨h1, h2⟩ := a.out c o h e; b.out c o h2 h1⟩
theorem Later.of_stp (s : Stp M H M' H') : Later B M H M' H' := ⟨fun _ _ r => r.step s, fun a o h e => ⟨s.keep a o h.1 e, s.out h e⟩⟩
theorem Later.fen {p : Addr} {o : HO} (hp : p ∈ M.f) : Later B M H M (upd H p o) := ⟨fun _ _ r => r.fen hp, fun a u h e => ⟨by rw [upd_ne (fun z => h.2 (by rw [z]; exact hp))]; exact e, h⟩⟩
theorem Later.addF {p : Addr} {o : HO} (hp : H p = none) : Later B M H (M.add p) (upd H p o) := ⟨fun _ _ r => r.addF hp, fun a u h e => ⟨by rw [upd_ne (ne_of_none e hp)]; exact e, h.1, fun z => (List.mem_cons.mp z).elim (ne_of_none e hp) h.2⟩⟩
theorem VRs.later (l : Later B M H M' H') : ∀ {vs : List V} {ds : List D}, VRs B M H vs ds → VRs B M' H' vs ds
  | _, _, .nil => .nil
  | _, _, .cons r t => .cons (l.vr _ _ r) (VRs.later l t)
theorem AR.later (l : Later B M H M' H') {σ : L2.St} {ρ : Env} (r : AR B M H σ ρ) : AR B M' H' σ ρ := ⟨r.len, fun i d e => let ⟨v, h1, h2⟩ := r.at_ i d e; ⟨v, h1, l.vr _ _ h2⟩⟩
end
/-- J goes through ys as long as gs stand -/
def Walks (B : Bs) (J : It) (ys : List D) (gs : List (Nat × AO)) (M : MF) (H : Hp) : Prop :=
  ∀ M' H' S', Later B M H M' H' → OR B M' H' S' → gdOk gs S' = true →
    J.stop ys.length H' ∧ ∀ i x, ys[i]? = some x → J.go i H' ∧ ∀ v H'', J.yld i H' v H'' → Stp M' H' M' H'' ∧ OR B M' H'' S' ∧ VR B M' H'' v x
theorem Walks.later {B : Bs} {J : It} {ys : List D} {gs : List (Nat × AO)} {M M1 : MF} {H H1 : Hp} (w : Walks B J ys gs M H) (l : Later B M H M1 H1) : Walks B J ys gs M1 H1 := fun M' H' S' l' => w M' H' S' (l.trans l')

theorem gd_rd {S S' : Ob} {xs : List D} {x : D} (g : gdOk (guards S xs) S' = true) (hx : x ∈ xs) (h : ∀ k, x = .ref k → S[k]? ≠ none) : rd S' x = rd S x := by
  cases x with
  | ref k =>
    have h := h k rfl
    cases e : S[k]? with
    | none => exact absurd e h
    | some o =>
      have hm : (k, o) ∈ guards S xs := List.mem_filterMap.mpr ⟨.ref k, hx, by simp [e]⟩
      have := List.all_eq_true.mp g _ hm
      have := of_decide_eq_true this
      simp only [rd, e]
      rw [show S'[k]? = some o from this]
  | _ => rfl
theorem seqOf_cases {d : D} {ys : List D} (h : seqOf d = some ys) : d = .lst ys ∨ d = .tup ys := by
  cases d <;> simp [seqOf] at h
  · exact .inr (by rw [h])
  · exact .inl (by rw [h])
theorem seqOf_ref {S : Ob} {x : D} {ys : List D} (h : seqOf (rd S x) = some ys) : ∀ k, x = .ref k → S[k]? ≠ none := by
  rintro k rfl e
  simp [rd, e, seqOf] at h
section
variable {B : Bs} {M : MF} {H : Hp} {S : Ob} {v : V} {x : D} {ys : List D}
/-- a sequence's place, also later -/
theorem seq_at (o : OR B M H S) (r : VR B M H v x) (e : seqOf (rd S x) = some ys) : ∃ b a, v = .ref a ∧ (b = true ↔ rd S x = .tup ys) ∧ ∀ M' H' S', Later B M H M' H' → OR B M' H' S' → rd S' x = rd S x → ∃ vs, SqB B.K b H' a vs ∧ VRs B M' H' vs ys := by
  rcases seqOf_cases e with e | e
  · obtain ⟨a, vs, rfl, _, _⟩ := VR.rdL o r e
    refine ⟨false, a, rfl, ⟨fun z => Bool.noConfusion z, fun z => (by rw [e] at z; cases z)⟩, fun M' H' S' l o' er => ?_⟩
    obtain ⟨a', vs', ea, h1, h2⟩ := VR.rdL o' (l.vr _ _ r) (er.trans e)
    cases ea
    exact ⟨vs', .inl h1, h2⟩
  · obtain ⟨a, vs, rfl, _, _⟩ := VR.rdT (S := S) r e
    refine ⟨true, a, rfl, ⟨fun _ => e, fun _ => rfl⟩, fun M' H' S' l o' er => ?_⟩
    obtain ⟨a', vs', ea, h1, h2⟩ := VR.rdT (S := S') (l.vr _ _ r) (er.trans e)
    cases ea
    exact ⟨vs', h1, h2⟩
end
/-- a tuple just given out -/
theorem new_out {B : Bs} {M : MF} {H : Hp} {S : Ob} {T : Addr} {vs : List V} {ds : List D} (o : OR B M H S) (h : H T = none) (r : VRs B M H vs ds) : Stp M H M (upd H T (.tup vs)) ∧ OR B M (upd H T (.tup vs)) S ∧ VR B M (upd H T (.tup vs)) (.ref T) (.tup ds) :=
  ⟨Stp.new h, o.new h, VR.newTup h o r⟩
section
variable {B : Bs} {M : MF} {H : Hp} {S : Ob} {v v2 v3 : V} {x x2 x3 : D} {ys ys2 ys3 : List D} {gs : List (Nat × AO)}
/-- the walks of each kind -/
def Jsq (K : PySem.W.Frag) : Bool → Addr → It
  | true => Itt K
  | false => Itl K
theorem Jsq.all {K : PySem.W.Frag} {b : Bool} {a : Addr} : Jsq K b a = ⟨fun i H => ∃ xs x, SqB K b H a xs ∧ xs[i]? = some x, fun i H x H' => H' = H ∧ ∀ xs, SqB K b H a xs → xs[i]? = some x, fun i H => ∃ xs, SqB K b H a xs ∧ xs.length ≤ i⟩ := by
  cases b <;> rfl
theorem walk_sq (o : OR B M H S) (r : VR B M H v x) (e : seqOf (rd S x) = some ys) (hg : ∀ S', gdOk gs S' = true → rd S' x = rd S x) : ∃ b a, v = .ref a ∧ (b = true ↔ rd S x = .tup ys) ∧ (∃ vs, SqB B.K b H a vs) ∧ Walks B (Jsq B.K b a) ys gs M H := by
  obtain ⟨b, a, rfl, eb, q⟩ := seq_at o r e
  obtain ⟨vs0, h0, _⟩ := q M H S Later.refl o rfl
  refine ⟨b, a, rfl, eb, ⟨vs0, h0⟩, fun M' H' S' l o' g => ?_⟩
  obtain ⟨vs, h1, h2⟩ := q M' H' S' l o' (hg S' g)
  rw [Jsq.all]
  refine ⟨⟨vs, h1, Nat.le_of_eq h2.length⟩, fun i y hy => ?_⟩
  obtain ⟨u, hu, ru⟩ := h2.get hy
  refine ⟨⟨vs, u, h1, hu⟩, fun w H'' yl => ?_⟩
  obtain ⟨rfl, yl⟩ := yl
  have := yl vs h1
  rw [hu] at this; cases this
  exact ⟨Stp.refl _ _, o', ru⟩
theorem walk_z2 (o : OR B M H S) (r : VR B M H v x) (r2 : VR B M H v2 x2) (e : seqOf (rd S x) = some ys) (e2 : seqOf (rd S x2) = some ys2) (hg : ∀ S', gdOk gs S' = true → rd S' x = rd S x ∧ rd S' x2 = rd S x2) :
    ∃ b a b2 a2, v = .ref a ∧ v2 = .ref a2 ∧ (∃ vs, SqB B.K b H a vs) ∧ (∃ vs, SqB B.K b2 H a2 vs) ∧ Walks B (Jz2 B.K b b2 a a2) ((ys.zip ys2).map fun p => .tup [p.1, p.2]) gs M H := by
  obtain ⟨b, a, rfl, _, q⟩ := seq_at o r e
  obtain ⟨b2, a2, rfl, _, q2⟩ := seq_at o r2 e2
  obtain ⟨vs0, h0, _⟩ := q M H S Later.refl o rfl
  obtain ⟨vs02, h02, _⟩ := q2 M H S Later.refl o rfl
  refine ⟨b, a, b2, a2, rfl, rfl, ⟨vs0, h0⟩, ⟨vs02, h02⟩, fun M' H' S' l o' g => ?_⟩
  obtain ⟨vs, h1, h2⟩ := q M' H' S' l o' (hg S' g).1
  obtain ⟨us, k1, k2⟩ := q2 M' H' S' l o' (hg S' g).2
  have l1 := h2.length
  have l2 := k2.length
  refine ⟨⟨vs, us, h1, k1, by simp only [List.length_map, List.length_zip]; omega⟩, fun i y hy => ?_⟩
  rw [List.getElem?_map] at hy
  cases hz : (ys.zip ys2)[i]? with
  | none => rw [hz] at hy; cases hy
  | some p =>
    rw [hz] at hy; cases hy
    obtain ⟨g1, g2⟩ := List.getElem?_zip_eq_some.mp hz
    obtain ⟨u, hu, ru⟩ := h2.get g1
    obtain ⟨w, hw, rw'⟩ := k2.get g2
    have i1 := (List.getElem?_eq_some_iff.mp hu).1
    have i2 := (List.getElem?_eq_some_iff.mp hw).1
    refine ⟨⟨vs, us, h1, k1, by omega⟩, fun z H'' yl => ?_⟩
    obtain ⟨T, zs, rfl, hT, rfl, p1, p2, rfl, y1, y2⟩ := yl
    have y1 := y1 vs h1
    have y2 := y2 us k1
    rw [hu] at y1; cases y1
    rw [hw] at y2; cases y2
    exact new_out o' hT (.cons ru (.cons rw' .nil))
theorem walk_z3 (o : OR B M H S) (r : VR B M H v x) (r2 : VR B M H v2 x2) (r3 : VR B M H v3 x3) (e : seqOf (rd S x) = some ys) (e2 : seqOf (rd S x2) = some ys2) (e3 : seqOf (rd S x3) = some ys3)
    (hg : ∀ S', gdOk gs S' = true → rd S' x = rd S x ∧ rd S' x2 = rd S x2 ∧ rd S' x3 = rd S x3) :
    ∃ b a b2 a2 b3 a3, v = .ref a ∧ v2 = .ref a2 ∧ v3 = .ref a3 ∧ (∃ vs, SqB B.K b H a vs) ∧ (∃ vs, SqB B.K b2 H a2 vs) ∧ (∃ vs, SqB B.K b3 H a3 vs) ∧ Walks B (Jz3 B.K b b2 b3 a a2 a3) ((ys.zip (ys2.zip ys3)).map fun p => .tup [p.1, p.2.1, p.2.2]) gs M H := by
  obtain ⟨b, a, rfl, _, q⟩ := seq_at o r e
  obtain ⟨b2, a2, rfl, _, q2⟩ := seq_at o r2 e2
  obtain ⟨b3, a3, rfl, _, q3⟩ := seq_at o r3 e3
  obtain ⟨vs0, h0, _⟩ := q M H S Later.refl o rfl
  obtain ⟨vs02, h02, _⟩ := q2 M H S Later.refl o rfl
  obtain ⟨vs03, h03, _⟩ := q3 M H S Later.refl o rfl
  refine ⟨b, a, b2, a2, b3, a3, rfl, rfl, rfl, ⟨vs0, h0⟩, ⟨vs02, h02⟩, ⟨vs03, h03⟩, fun M' H' S' l o' g => ?_⟩
  obtain ⟨vs, h1, h2⟩ := q M' H' S' l o' (hg S' g).1
  obtain ⟨us, k1, k2⟩ := q2 M' H' S' l o' (hg S' g).2.1
  obtain ⟨ws, m1, m2⟩ := q3 M' H' S' l o' (hg S' g).2.2
  have l1 := h2.length
  have l2 := k2.length
  have l3 := m2.length
  refine ⟨⟨vs, us, ws, h1, k1, m1, by simp only [List.length_map, List.length_zip]; omega⟩, fun i y hy => ?_⟩
  rw [List.getElem?_map] at hy
  cases hz : (ys.zip (ys2.zip ys3))[i]? with
  | none => rw [hz] at hy; cases hy
  | some p =>
    rw [hz] at hy; cases hy
    obtain ⟨g1, g23⟩ := List.getElem?_zip_eq_some.mp hz
    obtain ⟨g2, g3⟩ := List.getElem?_zip_eq_some.mp g23
    obtain ⟨u, hu, ru⟩ := h2.get g1
    obtain ⟨w, hw, rw'⟩ := k2.get g2
    obtain ⟨t, ht, rt⟩ := m2.get g3
    have i1 := (List.getElem?_eq_some_iff.mp hu).1
    have i2 := (List.getElem?_eq_some_iff.mp hw).1
    have i3 := (List.getElem?_eq_some_iff.mp ht).1
    refine ⟨⟨vs, us, ws, h1, k1, m1, by omega⟩, fun z H'' yl => ?_⟩
    obtain ⟨T, zs, rfl, hT, rfl, p1, p2, p3, rfl, y1, y2, y3⟩ := yl
    have y1 := y1 vs h1
    have y2 := y2 us k1
    have y3 := y3 ws m1
    rw [hu] at y1; cases y1
    rw [hw] at y2; cases y2
    rw [ht] at y3; cases y3
    exact new_out o' hT (.cons ru (.cons rw' (.cons rt .nil)))
theorem walk_en (o : OR B M H S) (r : VR B M H v x) (e : seqOf (rd S x) = some ys) (hg : ∀ S', gdOk gs S' = true → rd S' x = rd S x) :
    ∃ b a, v = .ref a ∧ (∃ vs, SqB B.K b H a vs) ∧ Walks B (Jen B.K b a) ((List.range ys.length).zip ys |>.map fun p => .tup [.int (p.1 : Nat), p.2]) gs M H := by
  obtain ⟨b, a, rfl, _, q⟩ := seq_at o r e
  obtain ⟨vs0, h0, _⟩ := q M H S Later.refl o rfl
  refine ⟨b, a, rfl, ⟨vs0, h0⟩, fun M' H' S' l o' g => ?_⟩
  obtain ⟨vs, h1, h2⟩ := q M' H' S' l o' (hg S' g)
  have l1 := h2.length
  refine ⟨⟨vs, h1, by simp only [List.length_map, List.length_zip, List.length_range]; omega⟩, fun i y hy => ?_⟩
  rw [List.getElem?_map] at hy
  cases hz : ((List.range ys.length).zip ys)[i]? with
  | none => rw [hz] at hy; cases hy
  | some p =>
    rw [hz] at hy; cases hy
    obtain ⟨g1, g2⟩ := List.getElem?_zip_eq_some.mp hz
    obtain ⟨u, hu, ru⟩ := h2.get g2
    have i1 := (List.getElem?_eq_some_iff.mp hu).1
    have ep : p.1 = i := by
      have := (List.getElem?_eq_some_iff.mp g1).2
      simpa using this.symm
    refine ⟨⟨vs, h1, by omega⟩, fun z H'' yl => ?_⟩
    obtain ⟨T, zs, rfl, hT, rfl, p1, rfl, y1⟩ := yl
    have y1 := y1 vs h1
    rw [hu] at y1; cases y1
    show Stp _ _ _ _ ∧ OR _ _ _ _ ∧ VR _ _ _ _ (.tup [.int (p.1 : Nat), p.2])
    rw [ep]
    exact new_out o' hT (.cons (.int _) (.cons ru .nil))
/-- reversed -/
def Jrv (K : PySem.W.Frag) : Bool → Addr → Nat → It
  | true => RT.ItvT K
  | false => Itv K
theorem Jrv.all {K : PySem.W.Frag} {b : Bool} {a : Addr} {n : Nat} : Jrv K b a n = ⟨fun i H => i < n ∧ ∃ (xs : List V) (x : V), SqB K b H a xs ∧ xs[n - 1 - i]? = some x, fun i H x H' => H' = H ∧ ∀ xs, SqB K b H a xs → xs[n - 1 - i]? = some x, fun i _ => n ≤ i⟩ := by
  cases b <;> rfl
theorem walk_rv (o : OR B M H S) (r : VR B M H v x) (e : seqOf (rd S x) = some ys) (hg : ∀ S', gdOk gs S' = true → rd S' x = rd S x) : ∃ b a, v = .ref a ∧ (∃ vs, SqB B.K b H a vs ∧ vs.length = ys.length) ∧ Walks B (Jrv B.K b a ys.length) ys.reverse gs M H := by
  obtain ⟨b, a, rfl, eb, q⟩ := seq_at o r e
  obtain ⟨vs0, h0, h00⟩ := q M H S Later.refl o rfl
  refine ⟨b, a, rfl, ⟨vs0, h0, h00.length⟩, fun M' H' S' l o' g => ?_⟩
  obtain ⟨vs, h1, h2⟩ := q M' H' S' l o' (hg S' g)
  rw [Jrv.all]
  refine ⟨by simp, fun i y hy => ?_⟩
  have hi : i < ys.length := by have := (List.getElem?_eq_some_iff.mp hy).1; simpa using this
  rw [List.getElem?_reverse hi] at hy
  obtain ⟨u, hu, ru⟩ := h2.get hy
  refine ⟨⟨hi, vs, u, h1, hu⟩, fun w H'' yl => ?_⟩
  obtain ⟨rfl, yl⟩ := yl
  have := yl vs h1
  rw [hu] at this; cases this
  exact ⟨Stp.refl _ _, o', ru⟩
theorem walk_rg {lo : Int} {n : Nat} : Walks B (Itr lo n) (rangeL lo n 1) gs M H := by
  intro M' H' S' l o' g
  refine ⟨by simp [rangeL, Itr], fun i y hy => ?_⟩
  unfold rangeL at hy
  rw [List.getElem?_map] at hy
  cases hz : (List.range n)[i]? with
  | none => rw [hz] at hy; cases hy
  | some p =>
    rw [hz] at hy; cases hy
    obtain ⟨h1, h2⟩ := List.getElem?_eq_some_iff.mp hz
    have ep : p = i := by simpa using h2.symm
    subst ep
    refine ⟨by simpa [Itr] using h1, fun z H'' yl => ?_⟩
    obtain ⟨rfl, rfl⟩ := yl
    refine ⟨Stp.refl _ _, o', ?_⟩
    show VR _ _ _ _ (.int (lo + (p : Int) * 1))
    rw [Int.mul_one]
    exact .int _
theorem walk_rc {lo c : Int} {n : Nat} : Walks B (Itc lo c n) (rangeL lo n c) gs M H := by
  intro M' H' S' l o' g
  refine ⟨by simp [rangeL, Itc], fun i y hy => ?_⟩
  unfold rangeL at hy
  rw [List.getElem?_map] at hy
  cases hz : (List.range n)[i]? with
  | none => rw [hz] at hy; cases hy
  | some p =>
    rw [hz] at hy; cases hy
    obtain ⟨h1, h2⟩ := List.getElem?_eq_some_iff.mp hz
    have ep : p = i := by simpa using h2.symm
    subst ep
    refine ⟨by simpa [Itc] using h1, fun z H'' yl => ?_⟩
    obtain ⟨rfl, rfl⟩ := yl
    exact ⟨Stp.refl _ _, o', .int _⟩
theorem walk_str {x : List Nat} : Walks B (Its (toS x)) (x.map fun c => .str [c]) gs M H := by
  intro M' H' S' l o' g
  refine ⟨by simp [Its, toS], fun i y hy => ?_⟩
  rw [List.getElem?_map] at hy
  cases hz : x[i]? with
  | none => rw [hz] at hy; cases hy
  | some p =>
    rw [hz] at hy; cases hy
    obtain ⟨h1, h2⟩ := List.getElem?_eq_some_iff.mp hz
    refine ⟨by simpa [Its, toS] using h1, fun z H'' yl => ?_⟩
    obtain ⟨rfl, c, hc, rfl⟩ := yl
    have : c = p := by simpa [toS, hz] using hc.symm
    subst this
    exact ⟨Stp.refl _ _, o', .str [c]⟩
end
end QL
set_option Elab.async false
set_option linter.all false
set_option maxRecDepth 100000
set_option maxHeartbeats 4000000
/-! QL11: dicts walked; what is walked begins. -/
namespace QL
open PySem PySem.Spec L2
open PyProof.Rows hiding St

/-! ### items of a dict that stays as it is -/
def Jdi (d : Addr) (es : Array DictEntry) (ep : Nat) : It := ItN
  (fun i H => H d = some (DictO d es ep) ∧ i < es.size) (fun i H => H d = some (DictO d es ep) ∧ i = es.size)
  (fun i H vs => ∃ e x y, es[i]? = some e ∧ vs = [x, y] ∧ RelV x e.key ∧ RelV y e.val)
theorem Inv.rawD {X : Cx} {pins : List (Addr × Obj)} {σ : L2.St} {H : Hp} {s : Shared} {d : Addr} {es : Array DictEntry} {ep : Nat} (I : L2.Inv X pins σ H s) (h : H d = some (DictO d es ep)) : s.heap.DictRaw d es ep := (I.hok d _ h).1
theorem relV_ex : ∀ u : Value, (∃ x, RelV x u) ∨ absV u = none := by
  intro u
  cases h : absV u with
  | none => exact .inr rfl
  | some x =>
    left
    refine ⟨x, ?_⟩
    cases u <;> simp [absV] at h <;> subst h <;> first | rfl | exact ⟨_, rfl⟩
theorem turn_di {P : Program} {w : World} {K : PySem.W.Frag} {elts : List Expr} {kk : Nat} {tpos : Pos} {d N : Addr} {es : Array DictEntry} {ep : Nat} (h1 : d < N) (hr : ∀ e ∈ es.toList, (∃ x, RelV x e.key) ∧ ∃ y, RelV y e.val) :
    Turn P w K (.Tuple elts kk tpos) (Jdi d es ep) [N] N (fun i h => ∃ ok ov, IsItemIter h N d i es.size ep ok ov) := by
  have n1 : d ≠ N := Nat.ne_of_lt h1
  refine turn_gen (wr := [N]) (by simp) (by simp) (fun i h st c hc => ?_) (fun i h h' st k => ?_) (fun A i s Q E st h => by obtain ⟨_, _, he⟩ := st; exact wpAny_pyIter_itemiter he h) ?_ ?_
  · obtain ⟨ok, ov, he⟩ := st
    have e' : c = N := by simpa using hc
    rw [e']; exact ⟨_, he, fun v q => nomatch q⟩
  · obtain ⟨ok, ov, he⟩ := st
    exact ⟨ok, ov, k _ (by simp) _ he⟩
  · intro X hP hw hK i pins s σ H hh I st hg
    subst hP hw hK
    obtain ⟨hd, hi⟩ := hg
    refine ⟨_, _, _, _, _, WalksT.rawItems hh N d n1 es ep, hi, ⟨st, Inv.rawD I hd⟩, fun h st => st.1, ?_⟩
    rintro vals ⟨hi, rfl⟩
    obtain ⟨⟨x, rx⟩, y, ry⟩ := hr es[i] (by simp)
    exact ⟨[x, y], .cons rx (.cons ry .nil), (by show 2 ≤ sizeLine; decide), es[i], x, y, by simp [hi], rfl, rx, ry⟩
  · intro X hP hw hK i pins s σ H hh I st hg
    subst hP hw hK
    obtain ⟨hd, rfl⟩ := hg
    exact ⟨_, _, _, _, _, WalksT.rawItems hh N d n1 es ep, st, Inv.rawD I hd⟩
theorem DEs.rels {B : Bs} {M : MF} {H : Hp} : ∀ {es ks vs}, DEs B M H es ks vs → ∀ e ∈ es, (∃ x, RelV x e.key) ∧ ∃ y, RelV y e.val
  | _, _, _, .nil, _, h => by cases h
  | _, _, _, .cons a b _ _ _ t, e, h => by
    rcases List.mem_cons.mp h with rfl | h
    · exact ⟨⟨_, a⟩, _, b⟩
    · exact DEs.rels t e h
theorem DEs.get {B : Bs} {M : MF} {H : Hp} {k v : D} : ∀ {es : List DictEntry} {ks vs : List D} {i : Nat}, DEs B M H es ks vs → ks[i]? = some k → vs[i]? = some v → ∃ e x y, es[i]? = some e ∧ RelV x e.key ∧ RelV y e.val ∧ VR B M H x k ∧ VR B M H y v
  | _, _, _, _, .nil, h, _ => by simp at h
  | _, _, _, 0, .cons a b r q _ t, h1, h2 => by simp at h1 h2; subst h1 h2; exact ⟨_, _, _, rfl, a, b, r, q⟩
  | _, _, _, i + 1, .cons a b r q _ t, h1, h2 => by
    obtain ⟨e, x, y, g⟩ := DEs.get (i := i) t (by simpa using h1) (by simpa using h2)
    exact ⟨e, x, y, by simpa using g.1, g.2⟩
/-! ### keys -/
def Jdk (d : Addr) (es : Array DictEntry) (ep : Nat) : It :=
  ⟨fun i H => H d = some (DictO d es ep) ∧ i < es.size, fun i H v H' => H' = H ∧ ∃ e, es[i]? = some e ∧ RelV v e.key, fun i H => H d = some (DictO d es ep) ∧ es.size ≤ i⟩
theorem turn_dk {P : Program} {w : World} {K : PySem.W.Frag} {tg : Expr} {d it : Addr} {es : Array DictEntry} {ep : Nat} (hr : ∀ e ∈ es.toList, (∃ x, RelV x e.key) ∧ ∃ y, RelV y e.val) :
    Turn P w K tg (Jdk d es ep) [it] it (fun i h => h.IsKeyIter it d i es.size ep) where
  mem := by simp
  obj := fun i h st b hb => by
    have e : b = it := by simpa using hb
    subst e
    obtain ⟨oi, e, c, dd⟩ := st
    exact ⟨oi, e, fun v z => by rw [dd] at z; cases z⟩
  keep := fun i h h' st k => st.at fun oi e => k it (by simp) oi e
  item := by
    intro X hP hw hK hc i pins s σ H E I hf st hg
    subst hP hw hK
    obtain ⟨hd, hi⟩ := hg
    obtain ⟨f0, f1, f2, f3, f4, f5⟩ := hf it (by simp)
    obtain ⟨od, ho, hx, hdt⟩ := Inv.rawD I hd
    obtain ⟨⟨x, rx⟩, _⟩ := hr es[i] (by simp)
    refine next_key_item st ho hdt rfl (show es[i]? = some es[i] by simp [hi]) fun h' st' sb => ?_
    have I1 : L2.Inv X pins σ H { s with heap := h' } := I.turned (t' := s.toks) (fun b ob hb e => (sb.2 b hb).trans e) f0 f1 f3 f4 f5
    obtain ⟨oi, e, c, dd⟩ := id st'
    exact ⟨_, rfl, go_of (s := { s with heap := h' }) e c dd (by decide) ⟨x, H, I1, rx, ⟨rfl, es[i], by simp [hi], rx⟩, st', fun b hb => (hf b hb).1⟩⟩
  done := by
    intro X hP hw hK hc i pins s σ H E I hf st hg
    subst hP hw hK
    obtain ⟨hd, hi⟩ := hg
    obtain ⟨f0, f1, f2, f3, f4, f5⟩ := hf it (by simp)
    obtain ⟨od, ho, hx, hdt⟩ := Inv.rawD I hd
    exact next_key_end (I.ok.hd hc) st ho hdt rfl hi fun h' eb => ⟨rfl, I.turned (t' := s.toks) (fun b ob hb e => eb b ob hb e) f0 f1 f3 f4 f5⟩
  self := fun A i s Q E st h => wpAny_pyIter_keyiter st h
section
variable {B : Bs} {M : MF} {H : Hp} {v : V} {ks vs : List D} {gs : List (Nat × AO)}
theorem walk_di (r : VR B M H v (.dct ks vs)) : ∃ d es ep, v = .ref d ∧ H d = some (DictO d es ep) ∧ (d == sysModules) = false ∧ (∀ e ∈ es.toList, (∃ x, RelV x e.key) ∧ ∃ y, RelV y e.val) ∧ Walks B (Jdi d es ep) ((ks.zip vs).map fun p => .tup [p.1, p.2]) gs M H := by
  cases r with
  | dct e n y z q nd kk =>
    rename_i a es ep
    refine ⟨a, es, ep, rfl, e, y, q.rels, fun M' H' S' l o' g => ?_⟩
    have e' := (l.out _ _ n e).1
    have hl := DEs.length q
    have h1 : es.size = ks.length := by rw [← hl.1]; simp
    refine ⟨⟨e', by simp only [List.length_map, List.length_zip]; omega⟩, fun i x hx => ?_⟩
    rw [List.getElem?_map] at hx
    cases hz : (ks.zip vs)[i]? with
    | none => rw [hz] at hx; cases hx
    | some p =>
      rw [hz] at hx; cases hx
      obtain ⟨g1, g2⟩ := List.getElem?_zip_eq_some.mp hz
      obtain ⟨en, x, y, k1, k2, k3, k4, k5⟩ := DEs.get (i := i) q g1 g2
      have i1 := (List.getElem?_eq_some_iff.mp g1).1
      refine ⟨⟨e', by omega⟩, fun w H'' yl => ?_⟩
      obtain ⟨T, zs, rfl, hT, rfl, en', x', y', m1, rfl, m2, m3⟩ := yl
      have : en' = en := by rw [← Array.getElem?_toList, k1] at m1; cases m1; rfl
      subst this
      rw [m2.inj k2, m3.inj k3]
      exact new_out o' hT (.cons (l.vr _ _ k4) (.cons (l.vr _ _ k5) .nil))
theorem walk_dk (r : VR B M H v (.dct ks vs)) : ∃ d es ep, v = .ref d ∧ H d = some (DictO d es ep) ∧ (d == sysModules) = false ∧ (∀ e ∈ es.toList, (∃ x, RelV x e.key) ∧ ∃ y, RelV y e.val) ∧ Walks B (Jdk d es ep) ks gs M H := by
  cases r with
  | dct e n y z q nd kk =>
    rename_i a es ep
    refine ⟨a, es, ep, rfl, e, y, q.rels, fun M' H' S' l o' g => ?_⟩
    have e' := (l.out _ _ n e).1
    have hl := DEs.length q
    have h1 : es.size = ks.length := by rw [← hl.1]; simp
    refine ⟨⟨e', Nat.le_of_eq h1⟩, fun i x hx => ?_⟩
    have i1 := (List.getElem?_eq_some_iff.mp hx).1
    obtain ⟨u, hu⟩ : ∃ u, vs[i]? = some u := ⟨vs[i]'(by omega), by simp [show i < vs.length by omega]⟩
    obtain ⟨en, x, y, k1, k2, k3, k4, k5⟩ := DEs.get (i := i) q hx hu
    refine ⟨⟨e', by omega⟩, fun w H'' yl => ?_⟩
    obtain ⟨rfl, en', m1, m2⟩ := yl
    have : en' = en := by rw [← Array.getElem?_toList, k1] at m1; cases m1; rfl
    subst this
    rw [m2.inj k2]
    exact ⟨Stp.refl _ _, o', l.vr _ _ k4⟩
end

/-! ### what is walked begins -/
abbrev RI := List V → Hp → (It → Hp → Prop) → Prop
/-- a value walked -/
def IterV (X : Cx) (tg : Expr) (r : V → Hp → (It → Hp → Prop) → Prop) : Prop := ∀ (pins : List (Addr × Obj)) (s : Shared) (σ : L2.St) (H : Hp) (v : V) (u : Value) (R : It → Hp → Prop),
  L2.Inv X pins σ H s → RelV v u → r v H R → wpAny (model X.prog X.w) X.A (pyIter u) (PIE X pins σ tg R) X.xe s
/-- a built-in iterator made and walked -/
def IterC (X : Cx) (tg : Expr) (T : String) (r : RI) : Prop := ∀ (pins : List (Addr × Obj)) (s : Shared) (σ : L2.St) (H : Hp) (vs : List V) (us : List Value) (R : It → Hp → Prop),
  L2.Inv X pins σ H s → Vals vs us → r vs H R → wpAny (model X.prog X.w) X.A (call (.type T) us) (fun v s1 => wpAny (model X.prog X.w) X.A (pyIter v) (PIE X pins σ tg R) X.xe s1) X.xe s
/-- its reading -/
def rIt (B : Bs) (w : It1) : RI := fun vs H R => ∃ M S xs ys, OR B M H S ∧ VRs B M H vs xs ∧ itD S w xs = some ys ∧ ∀ J H' M', Stp M H M' H' → OR B M' H' S → Walks B J ys (guards S xs) M' H' → R J H'
section
variable {X : Cx} {g : Nat → Option Addr} {tg : Expr}
theorem gd1 {S S' : Ob} {xs : List D} {x : D} {ys : List D} (hx : x ∈ xs) (e : seqOf (rd S x) = some ys) (gd : gdOk (guards S xs) S' = true) : rd S' x = rd S x := gd_rd gd hx (seqOf_ref e)
theorem pi_at {pins : List (Addr × Obj)} {σ : L2.St} {H : Hp} {s : Shared} {R : It → Hp → Prop} {J : It} {fp : List Addr} {it : Addr} {tn : Nat → Heap → Prop} {h' : Heap} {tk : Nat} (I : L2.Inv X pins σ H s) (hk : ∀ b o, s.heap.get? b = some o → h'.get? b = some o)
    (T : Turn X.prog X.w X.K tg J fp it tn) (st : tn 0 h') (hf : ∀ b ∈ fp, s.heap.objs.size ≤ b) (q : R J H) : PIE X pins σ tg R (.ref it) { s with heap := h', toks := tk } :=
  ⟨it, fp, tn, J, H, rfl, I.kept hk, T, st, fun b hb => I.fpOk (hf b hb) (I.hok.fresh (hf b hb)), q⟩
theorem iter_sq {b : Bool} : IterV X tg (fun v H R => ∃ a, v = .ref a ∧ (∃ vs, SqB X.K b H a vs) ∧ R (Jsq X.K b a) H) := by
  intro pins s σ H v u R I rv h
  obtain ⟨a, rfl, ⟨vs, hq⟩, q⟩ := h
  cases rv
  obtain ⟨its, r, p, _⟩ := seqB I hq
  cases b with
  | true => exact wpAny_pyIter_tuple (show s.heap.IsTuple a its.toArray from p) (pi_one (tk := s.toks) I _ (turn_tuple a _) ⟨_, Heap.get?_push_size _ rfl, rfl, rfl⟩ q)
  | false => exact wpAny_pyIter_list (show s.heap.IsList a its.toArray from p) (pi_one (tk := s.toks) I _ (turn_list a _) ⟨_, Heap.get?_push_size _ rfl, rfl, rfl⟩ q)
/-- a list, a tuple, a text, a dict's keys -/
theorem iter_val : IterV X tg (fun v H R => rIt (bs X g) .val [v] H R) := by
  intro pins s σ H v u R I rv h
  obtain ⟨M, S, xs, ys, o, rs, e, q⟩ := h
  cases rs with
  | cons r t =>
    cases t
    rename_i x
    have q := fun J w => q J H M (Stp.refl _ _) o w
    unfold itD at e
    simp only at e
    split at e
    · rename_i zs e1
      cases e
      have es : seqOf (rd S x) = some ys := by rw [e1]; rfl
      obtain ⟨b, a, rfl, eb, hv, hw⟩ := walk_sq o r es (gs := guards S [x]) fun S' g => gd1 (by simp) es g
      exact iter_sq (b := b) pins s σ H _ u R I rv ⟨a, rfl, hv, q _ hw⟩
    · rename_i zs e1
      cases e
      have es : seqOf (rd S x) = some ys := by rw [e1]; rfl
      obtain ⟨b, a, rfl, eb, hv, hw⟩ := walk_sq o r es (gs := guards S [x]) fun S' g => gd1 (by simp) es g
      exact iter_sq (b := b) pins s σ H _ u R I rv ⟨a, rfl, hv, q _ hw⟩
    · rename_i ks vs e1
      split at e
      · cases e
      · rename_i hnr
        cases e
        have : x = .dct ys vs := by
          rcases rd_cases S x with ⟨k, zs, rfl, h1, h2⟩ | ⟨k, ks, vs, rfl, h1, h2⟩ | h
          · exact absurd rfl (hnr k)
          · exact absurd rfl (hnr k)
          · exact h.symm.trans e1
        subst this
        obtain ⟨d, es, ep, rfl, hd, hs, hr, hw⟩ := walk_dk r (gs := guards S [.dct ys vs])
        obtain rfl : u = Value.ref d := rv
        obtain ⟨od, ho, hx, hdt⟩ := Inv.rawD I hd
        exact iter_keys hs ho hx hdt (pi_one (tk := s.toks) I _ (turn_dk hr) ⟨_, Heap.get?_push_size _ rfl, rfl, rfl⟩ (q _ hw))
    · rename_i z e1
      cases e
      have := VR.rdS r e1
      subst this
      obtain ⟨t, rfl⟩ := rv
      have hw := q _ (walk_str (B := bs X g) (M := M) (H := H) (gs := guards S [x]) (x := z))
      cases ha : (toS z).cps.all (· < 128)
      · exact wpAny_pyIter_wide ha (pi_one (tk := s.toks) I _ (turn_str _ (toS z) t "str_iterator" (.inr rfl)) ⟨_, Heap.get?_push_size _ rfl, rfl, rfl⟩ hw)
      · exact wpAny_pyIter_ascii ha (pi_one (tk := s.toks) I _ (turn_str _ (toS z) t "str_ascii_iterator" (.inl rfl)) ⟨_, Heap.get?_push_size _ rfl, rfl, rfl⟩ hw)
    · cases e

theorem some_int {x : D} {i : Int} {B : Bs} {M : MF} {H : Hp} {v : V} {u : Value} (e : x = .int i) (r : VR B M H v x) (q : RelV v u) : ∃ t, u = .int i t := by
  subst e; cases r; exact q
theorem small_le {i : Int} (h : small i = true) : -(2 ^ 62) ≤ i ∧ i < 2 ^ 62 := by
  simp only [small, Bool.and_eq_true, decide_eq_true_eq] at h; exact h

theorem itD_range {S : Ob} {xs ys : List D} (e : itD S .range xs = some ys) : (∃ j, xs = [.int j] ∧ small j = true ∧ ys = rangeL 0 j.toNat 1) ∨ (∃ i j, xs = [.int i, .int j] ∧ small i = true ∧ small j = true ∧ ys = rangeL i (j - i).toNat 1) ∨
    ∃ i j, xs = [.int i, .int j, .int (-1)] ∧ small i = true ∧ small j = true ∧ ys = rangeL i (i - j).toNat (-1) := by
  unfold itD at e
  split at e <;> try (rename_i h1; cases h1)
  all_goals first | (exfalso; simp at e; done) | skip
  · split at e
    · rename_i h
      cases e
      exact .inl ⟨_, rfl, h, rfl⟩
    · cases e
  · split at e
    · rename_i h
      cases e
      rw [Bool.and_eq_true] at h
      exact .inr (.inl ⟨_, _, rfl, h.1, h.2, rfl⟩)
    · cases e
  · split at e
    · rename_i h
      cases e
      simp only [Bool.and_eq_true, decide_eq_true_eq] at h
      obtain ⟨⟨⟨h1, h2⟩, _⟩, rfl⟩ := h
      exact .inr (.inr ⟨_, _, rfl, h1, h2, rfl⟩)
    · cases e
/-- range -/
theorem iter_range : IterC X tg "range" (rIt (bs X g) .range) := by
  intro pins s σ H vs us R I rv h
  obtain ⟨M, S, xs, ys, o, rs, e, q⟩ := h
  have q := fun J w => q J H M (Stp.refl _ _) o w
  rcases itD_range e with ⟨j, rfl, h1, rfl⟩ | ⟨i, j, rfl, h1, h2, rfl⟩ | ⟨i, j, rfl, h1, h2, rfl⟩
  · cases rs with
    | cons r t =>
      cases t; cases r
      cases rv with
      | cons ru rr =>
        cases rr
        obtain ⟨t, rfl⟩ := ru
        obtain ⟨s1, s2⟩ := small_le h1
        exact call_range_1 (range_it I (by omega) (by omega) s1 s2 (by simpa using q _ walk_rg))
  · cases rs with
    | cons r t =>
      cases t with
      | cons r2 t =>
        cases t; cases r; cases r2
        cases rv with
        | cons ru rr =>
          cases rr with
          | cons ru2 rr =>
            cases rr
            obtain ⟨t, rfl⟩ := ru
            obtain ⟨t', rfl⟩ := ru2
            obtain ⟨s1, s2⟩ := small_le h1
            obtain ⟨s3, s4⟩ := small_le h2
            exact call_range_2 (range_it I s1 s2 s3 s4 (q _ walk_rg))
  · cases rs with
    | cons r t =>
      cases t with
      | cons r2 t =>
        cases t with
        | cons r3 t =>
          cases t; cases r; cases r2; cases r3
          cases rv with
          | cons ru rr =>
            cases rr with
            | cons ru2 rr =>
              cases rr with
              | cons ru3 rr =>
                cases rr
                obtain ⟨t, rfl⟩ := ru
                obtain ⟨t', rfl⟩ := ru2
                obtain ⟨t'', rfl⟩ := ru3
                obtain ⟨s1, s2⟩ := small_le h1
                obtain ⟨s3, s4⟩ := small_le h2
                obtain ⟨c0, c1, c2, c3⟩ := RgC.neg s1 s2 s3 s4
                refine call_range_3 c0 ?_ (.inl (PyProof.noPylong_small c1))
                refine wpAny_pyIter_range (IsRange.new ..) c2 ?_
                have I2 : L2.Inv X pins σ H { s with heap := s.heap.push { cls := .type "range", data := .fields #[.int i t, .int j t', .int (-1) t''] } } := I.kept (t' := s.toks) fun b o e => Heap.get?_push_of_some _ e
                refine pi_one (tk := s.toks) I2 _ (turn_rangeC _ i (-1) (i - j).toNat) ?_ (q _ walk_rc)
                have e1 : i + ((0 : Nat) : Int) * (-1) = i := by simp
                have e2 : (((i - j).toNat : Nat) : Int) - ((0 : Nat) : Int) = Builtin.Range.rangeSize i j (-1) := by rw [c3]; simp
                show IsRangeIter _ _ (i + ((0 : Nat) : Int) * (-1)) ((((i - j).toNat : Nat) : Int) - ((0 : Nat) : Int)) (-1)
                rw [e1, e2]
                exact Heap.get?_push_size _ rfl
theorem seqOf_z {S : Ob} {x y : D} {ys : List D} (e : (match rd S x, rd S y with
    | .tup xs, .tup ys => some ((xs.zip ys).map fun p => D.tup [p.1, p.2])
    | .tup xs, .lst ys => some ((xs.zip ys).map fun p => D.tup [p.1, p.2])
    | .lst xs, .tup ys => some ((xs.zip ys).map fun p => D.tup [p.1, p.2])
    | .lst xs, .lst ys => some ((xs.zip ys).map fun p => D.tup [p.1, p.2])
    | _, _ => none) = some ys) : ∃ zs us, seqOf (rd S x) = some zs ∧ seqOf (rd S y) = some us ∧ ys = (zs.zip us).map fun p => D.tup [p.1, p.2] := by
  split at e <;> first | (cases e; done) | skip
  all_goals
    rename_i h1 h2
    cases e
    exact ⟨_, _, by rw [h1]; rfl, by rw [h2]; rfl, rfl⟩
theorem itD_zip {S : Ob} {xs ys : List D} (e : itD S .zip xs = some ys) : (∃ x y zs us, xs = [x, y] ∧ seqOf (rd S x) = some zs ∧ seqOf (rd S y) = some us ∧ ys = (zs.zip us).map fun p => .tup [p.1, p.2]) ∨
    ∃ x y z zs us ws, xs = [x, y, z] ∧ seqOf (rd S x) = some zs ∧ seqOf (rd S y) = some us ∧ seqOf (rd S z) = some ws ∧ ys = (zs.zip (us.zip ws)).map fun p => .tup [p.1, p.2.1, p.2.2] := by
  unfold itD at e
  split at e <;> try (rename_i h1; cases h1)
  all_goals first | (exfalso; simp at e; done) | skip
  · obtain ⟨zs, us, h1, h2, h3⟩ := seqOf_z e
    exact .inl ⟨_, _, zs, us, rfl, h1, h2, h3⟩
  · split at e
    · rename_i h1 h2 h3
      cases e
      exact .inr ⟨_, _, _, _, _, _, rfl, h1, h2, h3, rfl⟩
    · cases e
/-- zip -/
theorem iter_zip {elts : List Expr} {kk : Nat} {tpos : Pos} : IterC X (.Tuple elts kk tpos) "zip" (rIt (bs X g) .zip) := by
  intro pins s σ H vs us R I rv h
  obtain ⟨M, S, xs, ys, o, rs, e, q⟩ := h
  have q := fun J w => q J H M (Stp.refl _ _) o w
  rcases itD_zip e with ⟨x, y, zs, us', rfl, h1, h2, rfl⟩ | ⟨x, y, z, zs, us', ws, rfl, h1, h2, h3, rfl⟩
  · cases rs with
    | cons r t =>
      cases t with
      | cons r2 t =>
        cases t
        obtain ⟨b, a, b2, a2, rfl, rfl, ⟨l1, q1⟩, ⟨l2, q2⟩, w⟩ := walk_z2 o r r2 h1 h2 (gs := guards S [x, y]) fun S' gd => ⟨gd1 (by simp) h1 gd, gd1 (by simp) h2 gd⟩
        cases rv with
        | cons ru rr =>
          cases rr with
          | cons ru2 rr =>
            cases rr; cases ru; cases ru2
            obtain ⟨its, rv, p1, n1⟩ := seqB I q1
            obtain ⟨its2, rv2, p2, n2⟩ := seqB I q2
            refine zip_begins2 (begB b a its.toArray) (begB b2 a2 its2.toArray) p1 p2 fun h' hz hTI hTO g1 g2 hsz hk => wpAny_pyIter_zip hz ?_
            refine pi_at (tk := s.toks) I hk (turn_z2 n1 n2) ⟨hz, hTI, ⟨_, _, hTO⟩, ItB.beg g1, ItB.beg g2⟩ (fun c hc => ?_) (q _ w)
            have e' : c = s.heap.objs.size + 4 ∨ c = s.heap.objs.size + 2 ∨ c = s.heap.objs.size + 3 ∨ c = s.heap.objs.size ∨ c = s.heap.objs.size + 1 := by simpa using hc
            rcases e' with z | z | z | z | z <;> rw [z] <;> first | exact Nat.le_refl _ | exact Nat.le_add_right _ _
  · cases rs with
    | cons r t =>
      cases t with
      | cons r2 t =>
        cases t with
        | cons r3 t =>
          cases t
          obtain ⟨b, a, b2, a2, b3, a3, rfl, rfl, rfl, ⟨l1, q1⟩, ⟨l2, q2⟩, ⟨l3, q3⟩, w⟩ := walk_z3 o r r2 r3 h1 h2 h3 (gs := guards S [x, y, z]) fun S' gd => ⟨gd1 (by simp) h1 gd, gd1 (by simp) h2 gd, gd1 (by simp) h3 gd⟩
          cases rv with
          | cons ru rr =>
            cases rr with
            | cons ru2 rr =>
              cases rr with
              | cons ru3 rr =>
                cases rr; cases ru; cases ru2; cases ru3
                obtain ⟨its, rv, p1, n1⟩ := seqB I q1
                obtain ⟨its2, rv2, p2, n2⟩ := seqB I q2
                obtain ⟨its3, rv3, p3, n3⟩ := seqB I q3
                refine zip_begins3 (begB b a its.toArray) (begB b2 a2 its2.toArray) (begB b3 a3 its3.toArray) p1 p2 p3 fun h' hz hTI hTO g1 g2 g3 hsz hk => wpAny_pyIter_zip hz ?_
                refine pi_at (tk := s.toks) I hk (turn_z3 n1 n2 n3) ⟨hz, hTI, ⟨_, _, _, hTO⟩, ItB.beg g1, ItB.beg g2, ItB.beg g3⟩ (fun c hc => ?_) (q _ w)
                have e' : c = s.heap.objs.size + 5 ∨ c = s.heap.objs.size + 3 ∨ c = s.heap.objs.size + 4 ∨ c = s.heap.objs.size ∨ c = s.heap.objs.size + 1 ∨ c = s.heap.objs.size + 2 := by simpa using hc
                rcases e' with z | z | z | z | z | z <;> rw [z] <;> first | exact Nat.le_refl _ | exact Nat.le_add_right _ _
theorem itD_seq {S : Ob} {w : It1} {xs ys : List D} (hw : w = .enum ∨ w = .rev) (e : itD S w xs = some ys) : ∃ x zs, xs = [x] ∧ seqOf (rd S x) = some zs ∧ ys = (if w = .enum then ((List.range zs.length).zip zs |>.map fun p => D.tup [.int (p.1 : Nat), p.2]) else zs.reverse) := by
  unfold itD at e
  rcases hw with rfl | rfl
  all_goals
    split at e <;> try (rename_i h1; cases h1)
    all_goals first | (exfalso; simp at e; done) | skip
    split at e
    · rename_i h1
      cases e
      exact ⟨_, _, rfl, by rw [h1]; rfl, rfl⟩
    · rename_i h1
      cases e
      exact ⟨_, _, rfl, by rw [h1]; rfl, rfl⟩
    · cases e
theorem en_new {v : Value} {o : Obj} {H : Heap → Prop} (Bg : Begins v o H) :
    Meets (Builtin.«enumerate.__new__» ⟨[.type "enumerate", v], []⟩) (fun _ R s => H s.heap ∧
      R (.ok (.ret (.ref (s.heap.push o).objs.size))) { s with heap := (s.heap.push o).push { cls := .type "enumerate", data := .fields #[.none, .bool false, .ref s.heap.objs.size, rawInt 0, .none, .none] } }) :=
  .of_wp fun prog w A R s h => by
    obtain ⟨hp, g, d, tk, os⟩ := s; obtain ⟨h1, h⟩ := h
    have hsub := sub_enumerate
    have q1 : ∀ {A' : Around} {E : Value → Shared → Prop} {Q : Value → Shared → Prop}, Q (.ref hp.objs.size) ⟨hp.push o, g, d, tk, os⟩ → wpAny (model prog w) A' (pyIter v) Q E ⟨hp, g, d, tk, os⟩ :=
      fun q => Bg.iter prog w _ _ ⟨hp, g, d, tk, os⟩ _ h1 q
    wp_walk using q1
    refine wpAny_stack_any fun st => wpAny_pure ?_
    split
    · rename_i c _ _ _ _ _
      cases (c == Value.type "enumerate")
      · wp_walk using q1
        exact ⟨_, rfl, h⟩
      · wp_walk using q1
        exact ⟨_, rfl, h⟩
    · wp_walk using q1
      exact ⟨_, rfl, h⟩
theorem en_call {prog : Program} {w : World} {A : Around} {E : Value → Shared → Prop} {s : Shared} {v : Value} {o : Obj} {H : Heap → Prop} {Q : Value → Shared → Prop} (Bg : Begins v o H) (h1 : H s.heap)
    (h : ∀ h', IsEnum h' (s.heap.objs.size + 1) s.heap.objs.size 0 .none → h'.get? s.heap.objs.size = some o → (∀ b o, s.heap.get? b = some o → h'.get? b = some o) → Q (.ref (s.heap.objs.size + 1)) { s with heap := h' }) :
    wpAny (model prog w) A (call (.type "enumerate") [v]) Q E s := by
  refine callType_new F.called_enumerate (by decide) (F.typeCall_enumerate_1 _) (F.newCall_enumerate_1 _) (fun obj => F.args_object_init_2 obj _) F.entry_enumerate_new
    (en_new Bg) ⟨h1, ?_⟩
  have hz : (s.heap.push o).objs.size = s.heap.objs.size + 1 := Heap.size_push ..
  show _ ∧ _
  rw [hz]
  have he : IsEnum ((s.heap.push o).push { cls := .type "enumerate", data := .fields #[.none, .bool false, .ref s.heap.objs.size, rawInt 0, .none, .none] }) (s.heap.objs.size + 1) s.heap.objs.size 0 .none := by
    have := Heap.get?_push_size (s.heap.push o) (o := { cls := .type "enumerate", data := .fields #[.none, .bool false, .ref s.heap.objs.size, rawInt 0, .none, .none] }) rfl
    rw [hz] at this; exact this
  exact ⟨⟨_, he, rfl⟩, h _ he (Heap.get?_push_of_some _ (Heap.get?_push_size _ Bg.free)) fun b o x => Heap.get?_push_of_some _ (Heap.get?_push_of_some _ x)⟩
/-- enumerate -/
theorem iter_enum {elts : List Expr} {kk : Nat} {tpos : Pos} : IterC X (.Tuple elts kk tpos) "enumerate" (rIt (bs X g) .enum) := by
  intro pins s σ H vs us R I rv h
  obtain ⟨M, S, xs, ys, o, rs, e, q⟩ := h
  have q := fun J w => q J H M (Stp.refl _ _) o w
  obtain ⟨x, zs, rfl, h1, rfl⟩ := itD_seq (.inl rfl) e
  cases rs with
  | cons r t =>
    cases t
    obtain ⟨b, a, rfl, ⟨l1, q1⟩, w⟩ := walk_en o r h1 (gs := guards S [x]) fun S' gd => gd1 (by simp) h1 gd
    cases rv with
    | cons ru rr =>
      cases rr; cases ru
      obtain ⟨its, rv, p1, n1⟩ := seqB I q1
      refine en_call (begB b a its.toArray) p1 fun h' he hi hk => wpAny_pyIter_enum he ?_
      refine pi_at (tk := s.toks) I hk (turn_en n1) ⟨⟨.none, he⟩, ItB.beg hi⟩ (fun c hc => ?_) (q _ w)
      have e' : c = s.heap.objs.size + 1 ∨ c = s.heap.objs.size := by simpa using hc
      rcases e' with z | z <;> rw [z] <;> first | exact Nat.le_refl _ | exact Nat.le_add_right _ _
/-- reversed -/
theorem iter_rev : IterC X tg "reversed" (rIt (bs X g) .rev) := by
  intro pins s σ H vs us R I rv h
  obtain ⟨M, S, xs, ys, o, rs, e, q⟩ := h
  have q := fun J w => q J H M (Stp.refl _ _) o w
  obtain ⟨x, zs, rfl, h1, rfl⟩ := itD_seq (.inr rfl) e
  cases rs with
  | cons r t =>
    cases t
    obtain ⟨b, a, rfl, ⟨vs, q1, hl⟩, w⟩ := walk_rv o r h1 (gs := guards S [x]) fun S' gd => gd1 (by simp) h1 gd
    have w := q _ w
    cases rv with
    | cons ru rr =>
      cases rr; cases ru
      cases b with
      | false =>
        obtain ⟨its, rv, p', hz⟩ := I.list q1
        have hl2 := rv.length
        have e1 : ((its.toArray.size : Nat) : Int) - 1 = (zs.length : Int) - 1 - ((0 : Nat) : Int) := by simp only [List.size_toArray]; omega
        refine call_reversed_list p'.isList (wpAny_pyIter_revIter (l := a) (i := ((its.toArray.size : Nat) : Int) - 1) ⟨_, Heap.get?_push_size _ rfl, rfl, rfl⟩ ?_)
        refine pi_one (tk := s.toks) I _ (turn_rev a _ zs.length) ⟨Nat.zero_le _, ?_⟩ w
        rw [← e1]
        exact ⟨_, Heap.get?_push_size _ rfl, rfl, rfl⟩
      | true =>
        obtain ⟨its, rv, p', hz⟩ := I.tuple q1
        have hl2 := rv.length
        have hn := line63
        have e1 : ((its.toArray.size : Nat) : Int) - 1 = (zs.length : Int) - 1 - ((0 : Nat) : Int) := by simp only [List.size_toArray]; omega
        refine RT.call_reversed_tup p' (fun A E Q k => len_tuple p' (by simp only [List.size_toArray] <;> omega) k) (RT.iter_rt (t := a) (i := ((its.toArray.size : Nat) : Int) - 1) ⟨_, Heap.get?_push_size _ rfl, rfl, rfl⟩ ?_)
        refine pi_one (tk := s.toks + 1 + 1) I _ (RT.turn_rt a _ zs.length) ⟨Nat.zero_le _, ?_⟩ w
        rw [← e1]
        exact ⟨_, Heap.get?_push_size _ rfl, rfl, rfl⟩
end
end QL
set_option Elab.async false
set_option linter.all false
set_option maxRecDepth 100000
set_option maxHeartbeats 4000000
/-! QL12: comparisons. -/
namespace QL
open PySem PySem.Spec L2
open PyProof.Rows hiding St
section
variable {X : Cx} {g : Nat → Option Addr} {pins : List (Addr × Obj)} {σ : L2.St} {H : Hp} {s : Shared} {M : MF} {d : Addr} {es : Array DictEntry} {ep : Nat} {ks vs : List D} {k : D} {v : V} {u : Value} {E : Value → Shared → Prop}
theorem dict_notin (I : L2.Inv X pins σ H s) (hu : X.A.units + 64 < cLine) (h : H d = some (DictO d es ep)) (ns : (d == sysModules) = false) (de : DEs (bs X g) M H es.toList ks vs) (nd : ks.Nodup) (kk : keysOk (k :: ks) = true) (rk : VR (bs X g) M H v k) (ru : RelV v u) {Q : Value → Shared → Prop}
    (q : ∀ t, Q (.bool (!decide (k ∈ ks))) { s with toks := t }) : wpAny (model X.prog X.w) X.A (compareOp .NotIn u (.ref d)) Q E s := by
  have hl := (DEs.length de).2
  rw [← at_mem (x := .non) hl] at q
  rcases keysOk_cases kk with ⟨k1, k2⟩ | ⟨k1, k2⟩
  · obtain ⟨a, nk, rfl, rfl, ek, his⟩ := key_tup I k1 rk ru
    obtain ⟨xs, al, hm⟩ := dict_tup I h de nd k2
    refine PyProof.Rows.wpAny_notIn_heap (show X.A.in1.units + 8 < cLine by show X.A.units + 1 + 8 < _; omega) his ns hm ?_
    cases e : at? ks vs k with
    | none => rw [(al.look ek).2 e]; rw [e] at q; exact q _
    | some x => obtain ⟨b, uu, y, e1, _, _⟩ := (al.look ek).1 x e; rw [e1]; rw [e] at q; exact q _
  · obtain ⟨key, ek, his⟩ := key_leaf k1 rk ru
    obtain ⟨kvs, al, hm⟩ := dict_flat I h de nd k2
    refine wpAny_notIn_of his ns hm.mapOf ?_
    cases e : at? ks vs k with
    | none => rw [show valueAt kvs key = none from (al.look ek).2 e]; rw [e] at q; exact q _
    | some x => obtain ⟨uu, y, e1, _, _⟩ := (al.look ek).1 x e; rw [show valueAt kvs key = some uu from e1]; rw [e] at q; exact q _
/-- a dict's own place -/
theorem VR.rdD {S : Ob} {x : D} (o : OR (bs X g) M H S) (r : VR (bs X g) M H v x) (e : rd S x = .dct ks vs) : ∃ d es ep, v = .ref d ∧ H d = some (DictO d es ep) ∧ (d == sysModules) = false ∧ es.size ≤ sizeLine ∧ DEs (bs X g) M H es.toList ks vs ∧ ks.Nodup ∧ keysOk ks = true := by
  rcases rd_cases S x with ⟨k, xs, rfl, h1, h2⟩ | ⟨k, ks', vs', rfl, h1, h2⟩ | h
  · rw [h2] at e; cases e
  · rw [h2] at e; cases e
    cases r with
    | ref hk =>
      cases o.at_ k _ _ h1 hk with
      | dct h y z q nd kk => exact ⟨_, _, _, rfl, h, y, z, q, nd, kk⟩
  · rw [h] at e; subst e
    cases r with
    | dct e n y z q nd kk => exact ⟨_, _, _, rfl, e, y, z, q, nd, kk⟩
theorem ints_of : ∀ {xs : List D} {ns : List Int} {vs : List V}, intsOf xs = some ns → VRs (bs X g) M H vs xs → vs = ns.map V.int
  | [], ns, _, e, .nil => by simp [intsOf] at e; subst e; rfl
  | x :: xs, ns, _, e, .cons r t => by
    cases x <;> simp [intsOf] at e
    obtain ⟨ms, e1, rfl⟩ := e
    cases r
    rw [ints_of e1 t]
    rfl
end
theorem op_cmp {X : Cx} {g : Nat → Option Addr} (hu : X.A.units + 70 < cLine) (o : CO) : OpR X (compareOp (coOp o)) (rBin (bs X g) fun S x y => (cmpD S o x y).map .bl) := by
  intro pins s σ H v u vv uu Q I rx ry h
  obtain ⟨M, S, x, y, d, hO, hx, hy, hd, q⟩ := h
  change (cmpD S o x y).map D.bl = some d at hd
  cases hb : cmpD S o x y with
  | none => rw [hb] at hd; cases hd
  | some b =>
  rw [hb] at hd; cases hd
  have fin : EP X pins σ Q (.bool b) s := ⟨.bl b, H, I, rfl, fin_val hO q (.bl b)⟩
  have finT : ∀ t, EP X pins σ Q (.bool b) { s with toks := t } := fun t => ⟨.bl b, H, I.tok _, rfl, fin_val hO q (.bl b)⟩
  -- ==
  have heq : ∀ c, eqD S x y = some c → ∃ as cs, Reads s.heap vv (rd S x).pd as ∧ Reads s.heap uu (rd S y).pd cs ∧ (rd S x).pd.canLay0 = true ∧ (rd S y).pd.canLay0 = true ∧ X.A.units + min (rd S x).pd.depth (rd S y).pd.depth < cLine ∧ PyData.eqv (rd S x).pd (rd S y).pd = c := fun c hc => by
    unfold eqD at hc
    split at hc
    · rename_i hf
      cases hc
      obtain ⟨f1, f2, f3⟩ := and3 hf
      obtain ⟨as, r1⟩ := Dp.reads I _ _ _ (rd_dp hO hx f1) rx
      obtain ⟨cs, r2⟩ := Dp.reads I _ _ _ (rd_dp hO hy f2) ry
      refine ⟨as, cs, r1, r2, pd_lay f1, pd_lay f2, ?_, pd_eqv _ _ f1 f2⟩
      rw [pd_dep _ f1, pd_dep _ f2]
      have := Nat.le_of_ble_eq_true f3
      omega
    · cases hc
  -- in
  have hin : ∀ c, inD S x y = some c → (∃ as cs ds, (Reads s.heap uu (.list ds) as ∨ Reads s.heap uu (.tuple ds) as) ∧ Reads s.heap vv (rd S x).pd cs ∧ PyData.canLayAll0 ds = true ∧ (rd S x).pd.canLay0 = true ∧ X.A.units + 1 + min (PyData.depthAll ds) (rd S x).pd.depth < cLine ∧ (ds.any fun z => PyData.eqv z (rd S x).pd) = c) ∨
      (∃ ks vs, rd S y = .dct ks vs ∧ keysOk (x :: ks) = true ∧ decide (x ∈ ks) = c) ∨ (∃ z a, y = .str z ∧ x = .str [a] ∧ decide (a ∈ z) = c) := fun c hc => by
    unfold inD at hc
    split at hc
    · rename_i ys e1
      split at hc
      · rename_i hf
        cases hc
        obtain ⟨f1, f2, f3⟩ := and3 hf
        have fy : (rd S y).flat = true := by rw [e1]; exact f2
        obtain ⟨as, r1⟩ := Dp.reads I _ _ _ (rd_dp hO hx f1) rx
        obtain ⟨cs, r2⟩ := Dp.reads I _ _ _ (rd_dp hO hy fy) ry
        rw [e1] at r2
        refine .inl ⟨cs, as, D.pds ys, .inr r2, r1, pds_lay f2, pd_lay f1, ?_, any_pds _ f1 _ f2⟩
        rw [pd_dep _ f1]
        have := Nat.le_of_ble_eq_true f3
        omega
      · cases hc
    · rename_i ys e1
      split at hc
      · rename_i hf
        cases hc
        obtain ⟨f1, f2, f3⟩ := and3 hf
        have fy : (rd S y).flat = true := by rw [e1]; exact f2
        obtain ⟨as, r1⟩ := Dp.reads I _ _ _ (rd_dp hO hx f1) rx
        obtain ⟨cs, r2⟩ := Dp.reads I _ _ _ (rd_dp hO hy fy) ry
        rw [e1] at r2
        refine .inl ⟨cs, as, D.pds ys, .inl r2, r1, pds_lay f2, pd_lay f1, ?_, any_pds _ f1 _ f2⟩
        rw [pd_dep _ f1]
        have := Nat.le_of_ble_eq_true f3
        omega
      · cases hc
    · rename_i ks vs e1
      split at hc
      · rename_i hf
        cases hc
        exact .inr (.inl ⟨ks, vs, e1, hf, rfl⟩)
      · cases hc
    · rename_i z e1
      split at hc
      · rename_i a
        cases hc
        have := rd_eq (by intro _ z; cases z) (by intro _ _ z; cases z) e1
        exact .inr (.inr ⟨z, a, this, rfl, rfl⟩)
      · cases hc
    · cases hc
  unfold cmpD at hb
  cases o with
  | eq =>
    obtain ⟨as, cs, r1, r2, l1, l2, hr, e⟩ := heq b hb
    exact SeqAt.compareEq_reads r1 r2 l1 l2 hr (by rw [e]; exact fin)
  | ne =>
    simp only [Option.map_eq_some_iff] at hb
    obtain ⟨c, hc, rfl⟩ := hb
    obtain ⟨as, cs, r1, r2, l1, l2, hr, e⟩ := heq c hc
    exact SeqAt.compareNe_reads r1 r2 l1 l2 hr (by rw [e]; exact fin)
  | lt =>
    simp only at hb
    split at hb
    · cases hb
      cases hx; cases hy
      exact op_lt pins s σ H _ _ vv uu Q I rx ry ⟨_, _, rfl, rfl, fin_val hO q (.bl _)⟩
    · rename_i xs ys
      split at hb
      · rename_i ns ms e1 e2
        cases hb
        obtain ⟨a, vs, rfl, ha, ra⟩ := hx.tupI
        obtain ⟨b, us, rfl, hb', rb⟩ := hy.tupI
        have := ints_of e1 ra; subst this
        have := ints_of e2 rb; subst this
        exact op_ltT (by omega) pins s σ H _ _ vv uu Q I rx ry ⟨a, b, ns, ms, rfl, rfl, ha, hb', fin_val hO q (.bl _)⟩
      · cases hb
    · cases hb
  | le =>
    simp only at hb
    split at hb
    · cases hb
      cases hx; cases hy
      exact op_le pins s σ H _ _ vv uu Q I rx ry ⟨_, _, rfl, rfl, fin_val hO q (.bl _)⟩
    · cases hb
  | gt =>
    simp only at hb
    split at hb
    · cases hb
      cases hx; cases hy
      exact op_gt pins s σ H _ _ vv uu Q I rx ry ⟨_, _, rfl, rfl, fin_val hO q (.bl _)⟩
    · cases hb
  | ge =>
    simp only at hb
    split at hb
    · cases hb
      cases hx; cases hy
      exact op_ge pins s σ H _ _ vv uu Q I rx ry ⟨_, _, rfl, rfl, fin_val hO q (.bl _)⟩
    · cases hb
  | isin =>
    rcases hin b hb with ⟨as, cs, ds, r1, r2, l1, l2, hr, e⟩ | ⟨ks, vs, e1, kk, e⟩ | ⟨z, a, rfl, rfl, e⟩
    · rcases r1 with r1 | r1
      · exact SeqAt.in_list_reads r1 r2 l1 l2 hr (by rw [e]; exact fin)
      · exact SeqAt.in_tuple_reads r1 r2 l1 l2 hr (by rw [e]; exact fin)
    · obtain ⟨dd, es, ep, rfl, hd, ns, _, de, nd, _⟩ := VR.rdD hO hy e1
      obtain rfl : uu = Value.ref dd := ry
      exact dict_in I (by omega) hd ns de nd kk hx rx fun t => by rw [e]; exact finT t
    · cases hx; cases hy
      exact op_in_sign pins s σ H _ _ vv uu Q I rx ry ⟨a, toS z, rfl, rfl, by rw [show (toS z).cps.toList = z by simp [toS], e]; exact fin_val hO q (.bl _)⟩
  | notin =>
    simp only [Option.map_eq_some_iff] at hb
    obtain ⟨c, hc, rfl⟩ := hb
    rcases hin c hc with ⟨as, cs, ds, r1, r2, l1, l2, hr, e⟩ | ⟨ks, vs, e1, kk, e⟩ | ⟨z, a, rfl, rfl, e⟩
    · rcases r1 with r1 | r1
      · exact SeqAt.notIn_list_reads r1 r2 l1 l2 hr (by rw [e]; exact fin)
      · exact SeqAt.notIn_tuple_reads r1 r2 l1 l2 hr (by rw [e]; exact fin)
    · obtain ⟨dd, es, ep, rfl, hd, ns, _, de, nd, _⟩ := VR.rdD hO hy e1
      obtain rfl : uu = Value.ref dd := ry
      exact dict_notin I (by omega) hd ns de nd kk hx rx fun t => by rw [e]; exact finT t
    · cases hx; cases hy
      exact op_notIn_sign pins s σ H _ _ vv uu Q I rx ry ⟨a, toS z, rfl, rfl, by rw [show (toS z).cps.toList = z by simp [toS], e]; exact fin_val hO q (.bl _)⟩
  | is =>
    simp only at hb
    split at hb
    · cases hy
      cases hb
      refine op_isN pins s σ H _ _ vv uu Q I rx ry ⟨rfl, ?_⟩
      clear heq hin fin finT
      cases hx <;> (have z := fin_val hO q (.bl _); simpa using z)
    · cases hb
  | isnot =>
    simp only at hb
    split at hb
    · cases hy
      cases hb
      refine op_notN pins s σ H _ _ vv uu Q I rx ry ⟨rfl, ?_⟩
      clear heq hin fin finT
      cases hx <;> (have z := fin_val hO q (.bl _); simpa using z)
    · cases hb
end QL
set_option Elab.async false
set_option linter.all false
set_option maxRecDepth 100000
set_option maxHeartbeats 4000000
/-! QL13: subscripts, slices, stores. -/
namespace QL
open PySem PySem.Spec L2
open PyProof.Rows hiding St
section
variable {X : Cx} {g : Nat → Option Addr}
theorem VRs.atI {B : Bs} {M : MF} {H : Hp} {vs : List V} {ds : List D} {i : Int} {x : D} (r : VRs B M H vs ds) (e : ((ixOf ds.length i).bind fun j => ds[j]?) = some x) : ∃ y, L2.atI vs i = some y ∧ VR B M H y x := by
  unfold L2.atI
  rw [r.length]
  change ((L2.ixN ds.length i).bind fun j => ds[j]?) = some x at e
  cases h : L2.ixN ds.length i with
  | none => rw [h] at e; cases e
  | some j =>
    rw [h] at e
    exact r.get e
/-- o[i] -/
theorem ix_d (hu : X.A.units + 70 < cLine) : IxR X (rBin (bs X g) ixD) := by
  intro value slice pins s σ H v u vv uu Q I rx ry h hs
  obtain ⟨M, S, x, y, d, hO, hx, hy, hd, q⟩ := h
  unfold ixD at hd
  split at hd
  · rename_i xs i e1
    obtain ⟨a, vs, rfl, sa, ra⟩ := VR.rdT hx e1
    cases hy
    obtain ⟨w, h1, h2⟩ := ra.atI hd
    exact ix_tup value slice pins s σ H _ _ vv uu Q I rx ry ⟨a, vs, i, w, rfl, rfl, sa, h1, fin_val hO q h2⟩ hs
  · rename_i xs i e1
    obtain ⟨a, vs, rfl, sa, ra⟩ := VR.rdL hO hx e1
    cases hy
    obtain ⟨w, h1, h2⟩ := ra.atI hd
    exact ix_list value slice pins s σ H _ _ vv uu Q I rx ry ⟨a, vs, i, w, rfl, rfl, .inl sa, h1, fin_val hO q h2⟩ hs
  · rename_i z i e1
    split at hd
    · rename_i hl
      have := VR.rdS hx e1
      subst this
      cases hy
      cases h1 : ixOf z.length i with
      | none => rw [h1] at hd; cases hd
      | some j =>
        rw [h1] at hd
        simp only [Option.bind_some, Option.map_eq_some_iff] at hd
        obtain ⟨c, hc, rfl⟩ := hd
        refine ix_str value slice pins s σ H _ _ vv uu Q I rx ry ⟨toS z, i, c, rfl, rfl, by rw [toS_len]; exact lim_le hl, ?_, fin_val hO q (.str [c])⟩ hs
        unfold L2.atI
        have e2 : (toS z).cps.toList = z := by simp [toS]
        rw [e2]
        change L2.ixN z.length i = some j at h1
        rw [h1]
        exact hc
    · cases hd
  · rename_i ks vs k _ e1
    split at hd
    · rename_i kk
      obtain ⟨dd, es, ep, rfl, hdd, ns, _, de, nd, _⟩ := VR.rdD hO hx e1
      obtain rfl : vv = Value.ref dd := rx
      obtain ⟨o, ho, hc, hdt⟩ := Inv.rawD I hdd
      refine tail_any (T := "dict") ⟨o, ho, hc.1⟩ F.slot_dict_getitem.lookup (dict_getItem I (by omega) hdd de nd kk hy ry hd fun w r => fin_val hO q r) hs
    · cases hd
  · cases hd
/-- o[lo:hi] -/
def rCut (B : Bs) : V → Option Int → Option Int → Hp → VK → Prop := fun v lo hi H Q => ∃ M S x d, OR B M H S ∧ VR B M H v x ∧ slcD S x lo hi = some d ∧ ∀ w H' M', Stp M H M' H' → OR B M' H' S → VR B M' H' w d → Q w H'
theorem VRs.cut {B : Bs} {M : MF} {H : Hp} {vs : List V} {ds : List D} (r : VRs B M H vs ds) (lo hi : Option Int) : VRs B M H (cutV vs lo hi) (cutD ds lo hi) := by
  unfold cutV cutD
  rw [r.length]
  exact (r.drop _).take _
theorem slc_d : SlR X (rCut (bs X g)) := by
  intro pins s σ H v vv vl vu lo hi sl Q I rx hs pl pu h
  obtain ⟨M, S, x, d, hO, hx, hd, q⟩ := h
  unfold slcD at hd
  split at hd
  · rename_i xs e1
    cases hd
    obtain ⟨a, vs, rfl, sa, ra⟩ := VR.rdT hx e1
    refine sl_tupA pins s σ H _ vv vl vu lo hi sl Q I rx hs pl pu ⟨a, vs, rfl, sa, fun z => ?_, fun _ p hp => fin_tup hO q hp (ra.cut lo hi)⟩
    have e2 : cutD xs lo hi = xs := by
      unfold cutD
      rw [← ra.length, z.1, z.2, ra.length]
      simp
    have e3 : x = .tup xs := rd_eq (by intro _ z; cases z) (by intro _ _ z; cases z) e1
    rw [e2] at q
    subst e3
    exact fin_val hO q hx
  · rename_i xs e1
    cases hd
    obtain ⟨a, vs, rfl, sa, ra⟩ := VR.rdL hO hx e1
    exact sl_list pins s σ H _ vv vl vu lo hi sl Q I rx hs pl pu ⟨a, vs, rfl, .inl sa, fun p hp => fin_lst hO q hp (ra.cut lo hi)⟩
  · rename_i z e1
    split at hd
    · rename_i hl
      cases hd
      have := VR.rdS hx e1
      subst this
      refine sl_str pins s σ H _ vv vl vu lo hi sl Q I rx hs pl pu ⟨toS z, rfl, by rw [toS_len]; exact lim_le hl, ?_⟩
      have e2 : cutS (toS z) lo hi = toS (cutD z lo hi) := by
        show Str.mk _ = Str.mk _
        rw [toS_len]
        have : (toS z).cps.toList = z := by simp [toS]
        rw [this]
        rfl
      rw [e2]
      exact fin_val hO q (.str _)
    · cases hd
  · cases hd
end

/-! ### a dict's store -/
theorem keysOk_put {k v : D} {ks vs : List D} (hl : ks.length = vs.length) (h : keysOk (k :: ks) = true) : keysOk (putD ks vs k v).1 = true := by
  by_cases hk : k ∈ ks
  · rw [putD_keys hl hk]
    rcases keysOk_cases h with ⟨_, h⟩ | ⟨_, h⟩
    · unfold keysOk; rw [List.all_eq_true.mpr h]; rfl
    · unfold keysOk; rw [List.all_eq_true.mpr h, Bool.or_true]
  · rw [putD_new hl hk]
    rcases keysOk_cases h with ⟨h1, h⟩ | ⟨h1, h⟩
    · unfold keysOk; rw [List.all_append, List.all_eq_true.mpr h]; simp [h1]
    · unfold keysOk; rw [List.all_append, List.all_append, List.all_eq_true.mpr h]; simp [h1]
section
variable {X : Cx} {g : Nat → Option Addr} {pins : List (Addr × Obj)} {σ : L2.St} {H : Hp} {s : Shared} {M : MF} {d : Addr} {es : Array DictEntry} {ep : Nat} {ks vs : List D} {k x : D} {v y : V} {u r : Value} {E : Value → Shared → Prop} {Q : Unit → Shared → Prop} {A : Around}
theorem dict_set (I : L2.Inv X pins σ H s) (hu : A.units + 64 < cLine) (h : H d = some (DictO d es ep)) (hz : Nat.blt ks.length lim = true) (de : DEs (bs X g) M H es.toList ks vs) (nd : ks.Nodup) (kk : keysOk (k :: ks) = true) (rk : VR (bs X g) M H v k) (ru : RelV v u) (rx : VR (bs X g) M H y x) (rr : RelV y r)
    (q : ∀ h' tk es' ep', h'.DictRaw d es' ep' → Heap.SameBut d s.heap h' → DEs (bs X g) M H es'.toList (putD ks vs k x).1 (putD ks vs k x).2 → es'.size ≤ sizeLine → Q () { s with heap := h', toks := tk }) :
    wpAny (model X.prog X.w) A (dictSet d u r) Q E s ∧ wpAny (model X.prog X.w) A (setItem (.ref d) u r) Q E s := by
  have hl := (DEs.length de).2
  have hl1 := (DEs.length de).1
  have hz' := lim_lt hz
  have hsz : ∀ {es' : Array DictEntry}, DEs (bs X g) M H es'.toList (putD ks vs k x).1 (putD ks vs k x).2 → es'.size ≤ sizeLine := fun {es'} de' => by
    have e1 := (DEs.length de').1
    have e2 := (putD_len (k := k) (v := x) hl).2
    have e3 : es'.toList.length = es'.size := by simp
    omega
  rcases keysOk_cases kk with ⟨k1, k2⟩ | ⟨k1, k2⟩
  · obtain ⟨a, nk, rfl, rfl, ek, his⟩ := key_tup I k1 rk ru
    obtain ⟨xs, al, hm⟩ := dict_tup I h de nd k2
    have hx : xs.length ≤ sizeLine := by have := al.length; omega
    have fin : ∀ h' tk, h'.DictOfH (nestedKind X.prog X.w) d (storedH xs nk a r) → Heap.SameBut d s.heap h' → Q () { s with heap := h', toks := tk } := fun h' tk hm' hs => by
      obtain ⟨o, es', ep', ho, hc, hd, he, _, _⟩ := hm'
      have de' : DEs (bs X g) M H es'.toList (putD ks vs k x).1 (putD ks vs k x).2 := by
        rw [he]
        exact AT.to_des (al.put ek k1 rk rr rx nd)
      exact q h' tk es' ep' ⟨o, ho, hc, hd⟩ hs de' (hsz de')
    exact ⟨wpAny_dictSet_heap (hsz := hx) (show A.units + 8 < cLine by omega) his hm fun h' hm' hs => fin h' _ hm' hs, wpAny_setItem_heap (hsz := hx) (show A.in1.units + 8 < cLine by show A.units + 1 + 8 < _; omega) his hm fun h' hm' hs => fin h' _ hm' hs⟩
  · obtain ⟨key, ek, his⟩ := key_leaf k1 rk ru
    obtain ⟨kvs, al, hm⟩ := dict_flat I h de nd k2
    have hx : kvs.length ≤ sizeLine := by have := al.length; omega
    have fin : ∀ h' tk, h'.DictOf (mixKind X.prog X.w) d (stored kvs key r) → Heap.SameBut d s.heap h' → Q () { s with heap := h', toks := tk } := fun h' tk hm' hs => by
      obtain ⟨o, es', ep', ho, hc, hd, hk, hp, _⟩ := hm'
      have de' : DEs (bs X g) M H es'.toList (putD ks vs k x).1 (putD ks vs k x).2 :=
        AL.to_des (al.put ek rr rx nd) hp fun e he => by
          obtain ⟨k, h1, h2⟩ := hk e (by simpa using he)
          exact ⟨k, h1, h2⟩
      exact q h' tk es' ep' ⟨o, ho, hc, hd⟩ hs de' (hsz de')
    exact ⟨wpAny_dictSet_pairs (hsz := hx) his hm fun h' hm' hs => fin h' _ hm' hs, wpAny_setItem_pairs (hsz := hx) his hm fun h' hm' hs => fin h' _ hm' hs⟩
/-- a dict that is written -/
theorem Inv.dWrite {h' : Heap} {tk : Nat} {es' : Array DictEntry} {ep' : Nat} (I : L2.Inv X pins σ H s) (h : H d = some (DictO d es ep)) (hr : h'.DictRaw d es' ep') (hs : Heap.SameBut d s.heap h') : L2.Inv X pins σ (upd H d (DictO d es' ep')) { s with heap := h', toks := tk } :=
  d_write I (by rw [h]; exact True.intro) hs (let ⟨o, ho, _⟩ := hr; ⟨o, ho⟩) ⟨hr, (let ⟨o, ho, _⟩ := hr; ⟨o, ho⟩), fun h1 h2 a e => a.at e⟩
end

/-! ### mutable objects change -/
section
variable {B : Bs} {M : MF} {H : Hp} {S : Ob} {k : Nat} {a : Addr} {o : HO} {u : AO}
theorem OR.wr (r : OR B M H S) (ha : M.m[k]? = some a) (hu : ORo B M (upd H a o) a u) : Stp M H M (upd H a o) ∧ OR B M (upd H a o) (S.set k u) := by
  have hm : a ∈ M.m := List.mem_of_getElem? ha
  have st : Stp M H M (upd H a o) := Stp.wr hm
  refine ⟨st, ⟨by rw [List.length_set]; exact r.len, r.nd, fun b hb => ⟨(r.fen b hb).1, ?_⟩, fun j w b h1 h2 => ?_⟩⟩
  · have ne : b ≠ a := fun z => (r.fen b hb).1 (by rw [z]; exact hm)
    rw [upd_ne ne]; exact (r.fen b hb).2
  · rw [List.getElem?_set] at h1
    by_cases hj : k = j
    · subst hj
      rw [ha] at h2; cases h2
      rw [if_pos rfl] at h1
      split at h1
      · cases h1; exact hu
      · cases h1
    · rw [if_neg hj] at h1
      have ne : b ≠ a := fun z => by
        subst z
        obtain ⟨i1, e1⟩ := List.getElem?_eq_some_iff.mp ha
        exact hj ((List.getElem?_inj i1 r.nd).mp (ha.trans h2.symm))
      exact (r.at_ j w b h1 h2).keep st (upd_ne ne)
theorem OR.wrL {vs us : List V} {xs ys : List D} (r : OR B M H S) (ha : M.m[k]? = some a) (hu : VRs B M H us ys) : Stp M H M (upd H a (.lst us)) ∧ OR B M (upd H a (.lst us)) (S.set k (.lst ys)) :=
  r.wr ha (.lst upd_same (hu.step (Stp.wr (List.mem_of_getElem? ha))))
end
/-- o[i] = v -/
def rSet (B : Bs) : TSet := fun o i v H Q => ∃ M S x y d S', OR B M H S ∧ VR B M H o x ∧ VR B M H i y ∧ VR B M H v d ∧ setD S x y d = some S' ∧ ∀ H' M', Stp M H M' H' → OR B M' H' S' → Q H'
theorem set_d {X : Cx} {g : Nat → Option Addr} (hu : X.A.units + 70 < cLine) : PSet X (rSet (bs X g)) := by
  intro pins s σ H o i v ov iv u Q I ro ri rv h
  obtain ⟨M, S, x, y, d, S', hO, hx, hy, hd, e, q⟩ := h
  unfold setD at e
  split at e
  · rename_i k
    cases hx with
    | ref hk =>
    rename_i a
    split at e
    · rename_i ys j e1
      cases hp : ixOf ys.length j with
      | none => rw [hp] at e; cases e
      | some p =>
        rw [hp] at e; cases e
        cases hy
        cases hO.at_ k _ _ e1 hk with
        | lst h1 h2 =>
          rename_i vs
          refine set_list pins s σ H _ _ v ov iv u Q I ro ri rv ⟨a, vs, j, p, rfl, rfl, h1, by rw [h2.length]; exact hp, ?_⟩
          obtain ⟨st, o'⟩ := hO.wrL (vs := vs) (xs := ys) hk (h2.set hd p)
          exact q _ M st o'
    · rename_i ks vs e1
      split at e
      · rename_i hf
        rw [Bool.and_eq_true] at hf
        cases e
        cases hO.at_ k _ _ e1 hk with
        | dct h1 ns sz de nd kk =>
          obtain rfl : ov = Value.ref a := ro
          have hl := (DEs.length de).2
          refine (dict_set I (show X.A.units + 64 < cLine by omega) h1 hf.2 de nd hf.1 hy ri hd rv fun h' tk es' ep' hr hs de' hz => ?_).2
          have z := hO.wr (o := DictO a es' ep') hk (ORo.dct upd_same ns hz (de'.step (Stp.wr (List.mem_of_getElem? hk))) (putD_nodup hl nd) (keysOk_put hl hf.1))
          exact ⟨_, Inv.dWrite I h1 hr hs, q _ M z.1 z.2⟩
      · cases e
    · cases e
  · cases e
end QL
set_option Elab.async false
set_option linter.all false
set_option maxRecDepth 100000
set_option maxHeartbeats 4000000
/-! QL14: dict(zip(x, y)), x and y lists or tuples. -/
namespace QL
open PySem PySem.Spec L2
open PyProof.Rows hiding St
section
variable {prog : Program} {w : World} {A : Around} {E : Value → Shared → Prop} {s : Shared} {b : Bool}
theorem nxB_item {it l : Addr} {i : Nat} {items : Array Value} {x : Value} {Q : Value → Shared → Prop} (hit : ItB b s.heap it l i) (hl : HsB b s.heap l items) (hx : items[i]? = some x)
    (hQ : ∀ h', ItB b h' it l (i + 1) → Heap.SameBut it s.heap h' → Q x { s with heap := h' }) : wpAny (model prog w) A (Builtin.SmallTypes.nextOf (.ref it)) Q E s := by
  cases b with
  | true => exact wpAny_nextOf_tuple_item hit hl hx hQ
  | false => exact wpAny_nextOf_list_item hit hl hx hQ
theorem nxB_end {it l : Addr} {i : Nat} {items : Array Value} {Q : Value → Shared → Prop} (hh : A.handled = none) (hit : ItB b s.heap it l i) (hl : HsB b s.heap l items) (hx : items[i]? = none)
    (hE : ∀ h' e, Heap.ExtBut it s.heap h' → (∃ o, h'.get? e = some o ∧ o.cls = .type "StopIteration") → E (.ref e) { s with heap := h' }) : wpAny (model prog w) A (Builtin.SmallTypes.nextOf (.ref it)) Q E s := by
  cases b with
  | true => exact wpAny_nextOf_tuple_end hh hit hl hx hE
  | false => exact wpAny_nextOf_list_end hh hit hl hx hE
end
theorem ItB.ext {b : Bool} {h h' : Heap} {it a c : Addr} {i : Nat} (x : ItB b h it a i) (k : Heap.ExtBut c h h') (n : it ≠ c) : ItB b h' it a i := x.at fun o e => k it o n e
theorem HsB.at {b : Bool} {h h' : Heap} {a : Addr} {items : Array Value} (x : HsB b h a items) (k : ∀ o, h.get? a = some o → h'.get? a = some o) : HsB b h' a items := by
  cases b with
  | true => obtain ⟨o, e, r⟩ := x; exact ⟨o, k o e, r⟩
  | false => obtain ⟨o, e, r⟩ := x; exact ⟨o, k o e, r⟩
theorem HsB.ext {b : Bool} {h h' : Heap} {a c : Addr} {items : Array Value} (x : HsB b h a items) (k : Heap.ExtBut c h h') (n : a ≠ c) : HsB b h' a items := x.at fun o e => k a o n e
theorem ItB.live {b : Bool} {h : Heap} {it a : Addr} {i : Nat} (x : ItB b h it a i) : ∃ o, h.get? it = some o := let ⟨o, e, _⟩ := x.obj; ⟨o, e⟩
theorem HsB.live {b : Bool} {h : Heap} {a : Addr} {items : Array Value} (x : HsB b h a items) : ∃ o, h.get? a = some o := by
  cases b with
  | true => obtain ⟨o, e, _⟩ := x; exact ⟨o, e⟩
  | false => obtain ⟨o, e, _⟩ := x; exact ⟨o, e⟩
section
variable {prog : Program} {w : World} {A : Around} {E : Value → Shared → Prop} {s : Shared} {b1 b2 : Bool} {z TI TO T i1 i2 l1 l2 : Addr} {f : Bool} {oT : Obj} {k1 k2 : Nat} {xs ys : Array Value} {x y : Value}
/-- next, the tuple given out before still there -/
theorem zB_item_held {Q : Option Value → Shared → Prop} (D : ZipApart z TI TO i1 i2 l1 l2)
    (hz : IsZipHeld s.heap z TI TO T f) (hT : s.heap.get? T = some oT) (hTI : IsPair s.heap TI (.ref i1) (.ref i2))
    (h1 : ItB b1 s.heap i1 l1 k1) (h2 : ItB b2 s.heap i2 l2 k2) (hl1 : HsB b1 s.heap l1 xs) (hl2 : HsB b2 s.heap l2 ys) (hx : xs[k1]? = some x) (hy : ys[k2]? = some y)
    (hQ : ∀ h', IsZipHeld h' z TI TO T true → ItB b1 h' i1 l1 (k1 + 1) → ItB b2 h' i2 l2 (k2 + 1) → IsPair h' s.heap.objs.size x y →
      (∀ c o, c ≠ z → c ≠ i1 → c ≠ i2 → s.heap.get? c = some o → h'.get? c = some o) → Q (some (.ref s.heap.objs.size)) { s with heap := h' }) :
    wpAny (model prog w) A (pyNext (.ref z)) Q E s := by
  have hTy : s.TypeIs (.ref z) "zip" := ⟨_, hz, rfl⟩
  unfold pyNext
  refine wpAny_bind (wpAny_attempt (wpAny_callSpecial?_slot (name := Str.ofString "__next__") hTy F.slot_zip_next (wpAny_call_entry F.slot_zip_next hTy F.entry_zip_next ?_ (F.args_zip_next_1 _))))
  show wpAny _ _ (field (.ref z) 2 >>= _) _ _ _
  refine wpAny_bind (wpAny_field hz rfl (x := .bool false) rfl ?_)
  show wpAny _ _ (field (.ref z) 3 >>= _) _ _ _
  refine wpAny_bind (wpAny_field hz rfl (x := .ref TI) rfl ?_)
  refine wpAny_bind (wpAny_seqItems hTI rfl ?_)
  show wpAny _ _ (Builtin.SmallTypes.ownedTupleIsFree (.ref z) >>= _) _ _ _
  refine wpAny_bind (wpAny_tupleHeld_zip hz hT fun g1 hz₁ s1 => ?_)
  simp only [Bool.false_eq_true, if_false]
  refine wpAny_bind ?_
  rw [← Array.forIn_toList]
  simp only [List.forIn_cons, List.forIn_nil]
  refine wpAny_bind (wpAny_bind (wpAny_holding ?_))
  show wpAny _ _ (Builtin.SmallTypes.nextOf (.ref i1) >>= _) _ _ _
  refine wpAny_bind (nxB_item (s := { s with heap := g1 }) (h1.ext s1.extBut D.i1z) (hl1.ext s1.extBut D.l1z) hx fun g2 t1 s2 => wpAny_pure ?_)
  refine wpAny_pure ?_
  refine wpAny_bind (wpAny_bind (wpAny_holding ?_))
  show wpAny _ _ (Builtin.SmallTypes.nextOf (.ref i2) >>= _) _ _ _
  refine wpAny_bind (nxB_item (s := { s with heap := g2 }) ((h2.ext s1.extBut D.i2z).ext s2.extBut D.i12.symm) ((hl2.ext s1.extBut D.l2z).ext s2.extBut D.l2i1) hy fun g3 t2 s3 => wpAny_pure ?_)
  refine wpAny_pure (wpAny_pure ?_)
  show wpAny _ _ (newTuple [x, y] >>= _) _ _ _
  refine wpAny_bind (wpAny_newTuple ?_)
  have hsz : g3.objs.size = s.heap.objs.size := by rw [s3.1, s2.1, s1.1]
  have hz₃ : IsZipHeld g3 z TI TO T true := s3.extBut _ _ D.i2z.symm (s2.extBut _ _ D.i1z.symm hz₁)
  have hk : ∀ c o, c ≠ z → c ≠ i1 → c ≠ i2 → s.heap.get? c = some o → g3.get? c = some o := fun c o c1 c2 c3 e => s3.extBut _ _ c3 (s2.extBut _ _ c2 (s1.extBut _ _ c1 e))
  have t13 : ItB b1 g3 i1 l1 (k1 + 1) := t1.ext s3.extBut D.i12
  refine wpAny_pure ⟨_, rfl, wpAny_pure ?_⟩
  show Q (some (.ref g3.objs.size)) _
  have hp : IsPair (g3.push { cls := .type "tuple", data := .seq #[x, y] }) g3.objs.size x y := Heap.get?_push_size _ rfl
  rw [hsz] at hp ⊢
  exact hQ _ (Heap.get?_push_of_some _ hz₃) (t13.at fun o e => Heap.get?_push_of_some _ e) (t2.at fun o e => Heap.get?_push_of_some _ e) hp fun c o c1 c2 c3 e => Heap.get?_push_of_some _ (hk c o c1 c2 c3 e)
theorem zB_end_held {Q : Option Value → Shared → Prop} (hh : A.handled = none) (D : ZipApart z TI TO i1 i2 l1 l2)
    (hz : IsZipHeld s.heap z TI TO T f) (hT : s.heap.get? T = some oT) (hTI : IsPair s.heap TI (.ref i1) (.ref i2))
    (h1 : ItB b1 s.heap i1 l1 k1) (h2 : ItB b2 s.heap i2 l2 k2) (hl1 : HsB b1 s.heap l1 xs) (hl2 : HsB b2 s.heap l2 ys) (hend : xs[k1]? = none ∨ ys[k2]? = none)
    (hQ : ∀ h', (∀ c o, c ≠ z → c ≠ i1 → c ≠ i2 → s.heap.get? c = some o → h'.get? c = some o) → Q none { s with heap := h' }) : wpAny (model prog w) A (pyNext (.ref z)) Q E s := by
  have hTy : s.TypeIs (.ref z) "zip" := ⟨_, hz, rfl⟩
  unfold pyNext
  have fin : ∀ h' e, (∀ c o, c ≠ z → c ≠ i1 → c ≠ i2 → s.heap.get? c = some o → h'.get? c = some o) → (∃ o, h'.get? e = some o ∧ o.cls = .type "StopIteration") →
      (fun (e : Value) s' => wpAny (model prog w) A (do if ← isInstance e (.type "StopIteration") then pure none else throw e) Q E s') (.ref e) { s with heap := h' } → True := fun _ _ _ _ _ => True.intro
  refine wpAny_bind (wpAny_attempt (wpAny_callSpecial?_slot (name := Str.ofString "__next__") hTy F.slot_zip_next (wpAny_call_entry F.slot_zip_next hTy F.entry_zip_next ?_ (F.args_zip_next_1 _))))
  show wpAny _ _ (field (.ref z) 2 >>= _) _ _ _
  refine wpAny_bind (wpAny_field hz rfl (x := .bool false) rfl ?_)
  show wpAny _ _ (field (.ref z) 3 >>= _) _ _ _
  refine wpAny_bind (wpAny_field hz rfl (x := .ref TI) rfl ?_)
  refine wpAny_bind (wpAny_seqItems hTI rfl ?_)
  show wpAny _ _ (Builtin.SmallTypes.ownedTupleIsFree (.ref z) >>= _) _ _ _
  refine wpAny_bind (wpAny_tupleHeld_zip hz hT fun g1 hz₁ s1 => ?_)
  simp only [Bool.false_eq_true, if_false]
  refine wpAny_bind ?_
  rw [← Array.forIn_toList]
  simp only [List.forIn_cons, List.forIn_nil]
  refine wpAny_bind (wpAny_bind (wpAny_holding ?_))
  show wpAny _ _ (Builtin.SmallTypes.nextOf (.ref i1) >>= _) _ _ _
  cases hx : xs[k1]? with
  | none =>
    refine wpAny_bind (nxB_end (s := { s with heap := g1 }) hh (h1.ext s1.extBut D.i1z) (hl1.ext s1.extBut D.l1z) hx fun g2 e s2 he => ?_)
    obtain ⟨o, ho, hc⟩ := he
    refine wpAny_bind (wpAny_isInstance (T := "StopIteration") (b := true) ⟨o, ho, hc⟩ isSubtype_stop ?_)
    exact wpAny_pure (hQ g2 fun c o c1 c2 _ x => s2 _ _ c2 (s1.extBut _ _ c1 x))
  | some x =>
    have hy : ys[k2]? = none := by rcases hend with h | h; rw [hx] at h; cases h; exact h
    refine wpAny_bind (nxB_item (s := { s with heap := g1 }) (h1.ext s1.extBut D.i1z) (hl1.ext s1.extBut D.l1z) hx fun g2 t1 s2 => wpAny_pure ?_)
    refine wpAny_pure ?_
    refine wpAny_bind (wpAny_bind (wpAny_holding ?_))
    show wpAny _ _ (Builtin.SmallTypes.nextOf (.ref i2) >>= _) _ _ _
    refine wpAny_bind (nxB_end (s := { s with heap := g2 }) hh ((h2.ext s1.extBut D.i2z).ext s2.extBut D.i12.symm) ((hl2.ext s1.extBut D.l2z).ext s2.extBut D.l2i1) hy fun g3 e s3 he => ?_)
    obtain ⟨o, ho, hc⟩ := he
    refine wpAny_bind (wpAny_isInstance (T := "StopIteration") (b := true) ⟨o, ho, hc⟩ isSubtype_stop ?_)
    exact wpAny_pure (hQ g3 fun c o c1 c2 c3 x => s3 _ _ c3 (s2.extBut _ _ c2 (s1.extBut _ _ c1 x)))
end
theorem PairArg_zB {prog : Program} {w : World} (b1 b2 : Bool) (N l1 l2 : Addr) (m1 : l1 < N) (m2 : l2 < N) (xs ys : Array Value) :
    PairArg prog w "zip" (N + 4) [N + 4, N + 2, N + 3, N, N + 1, l1, l2] [N + 4, N + 3, N, N + 1] (min xs.size ys.size) (fun i k v => xs[i]? = some k ∧ ys[i]? = some v)
      (fun h => IsZip h (N + 4) (N + 2) (N + 3) .none ∧ IsPair h (N + 2) (.ref N) (.ref (N + 1)) ∧ (∃ a b, IsPair h (N + 3) a b) ∧ ItB b1 h N l1 0 ∧ ItB b2 h (N + 1) l2 0 ∧ HsB b1 h l1 xs ∧ HsB b2 h l2 ys) := by
  have D : ZipApart (N + 4) (N + 2) (N + 3) N (N + 1) l1 l2 := PySem.W.ktu_apart N l1 l2 m1 m2
  have S : ZipSep2 (N + 4) (N + 2) (N + 3) N (N + 1) [N, l1] [N + 1, l2] := zip_sep2 (fp1 := [l1]) (fp2 := [l2]) (by simpa using m1) (by simpa using m2)
  have e1 : l1 ≠ N := Nat.ne_of_lt m1
  have e2 : l2 ≠ N + 1 := Nat.ne_of_lt (Nat.lt_succ_of_lt m2)
  generalize hz : N + 4 = z at D S ⊢
  generalize hTI : N + 2 = TI at D S ⊢
  generalize hTO : N + 3 = TO at D S ⊢
  generalize hi2 : N + 1 = i2 at D S e2 ⊢
  clear m1 m2
  exact {
    type := fun s ok => ⟨_, ok.1, rfl⟩
    notDict := by decide
    keep := fun h h' ok hk => by
      obtain ⟨hz, hTI, ⟨a, b, hTO⟩, h1, h2, hl1, hl2⟩ := ok
      exact ⟨hk _ _ hz, hk _ _ hTI, ⟨a, b, hk _ _ hTO⟩, h1.at fun o e => hk _ o e, h2.at fun o e => hk _ o e, hl1.at fun o e => hk _ o e, hl2.at fun o e => hk _ o e⟩
    there := fun h ok b hb => by
      obtain ⟨hz, hTI, ⟨a, c, hTO⟩, h1, h2, hl1, hl2⟩ := ok
      simp only [List.mem_cons, List.not_mem_nil, or_false] at hb
      rcases hb with q | q | q | q | q | q | q <;> rw [q]
      · exact ⟨_, hz⟩
      · exact ⟨_, hTI⟩
      · exact ⟨_, hTO⟩
      · exact h1.live
      · exact h2.live
      · exact hl1.live
      · exact hl2.live
    sub := fun b hb => by simp at hb ⊢; rcases hb with q | q | q | q <;> simp [q]
    noKeys := fun A s Q E hA ok h => getAttrOr_miss_zip ok.1 rfl rfl rfl zip_no_keys (by decide +kernel) hA h
    iter := fun A s d Q E hA ok hd hdf h => by
      obtain ⟨hz, hTI, ⟨a, b, hTO⟩, h1, h2, hl1, hl2⟩ := ok
      simp only [List.mem_cons, List.not_mem_nil, or_false, not_or] at hdf
      obtain ⟨dz, dTI, dTO, di1, di2, dl1, dl2⟩ := hdf
      refine wpAny_pyIter_zip hz (h z [z, TO, N, i2] (fun i h => IsPair h TI (.ref N) (.ref i2) ∧ ItB b1 h N l1 i ∧ ItB b2 h i2 l2 i ∧ HsB b1 h l1 xs ∧ HsB b2 h l2 ys ∧
        ((IsZip h z TI TO .none ∧ ∃ a b, IsPair h TO a b) ∨ ∃ T f oT, IsZipHeld h z TI TO T f ∧ h.get? T = some oT ∧ T ≠ z ∧ T ≠ N ∧ T ≠ i2 ∧ T ≠ d)) s.heap s.toks ?_
        ⟨hTI, h1, h2, hl1, hl2, .inl ⟨hz, a, b, hTO⟩⟩ (fun _ _ e => e) fun b hb => .inl hb)
      exact {
        off := fun hm => by
          simp only [List.mem_cons, List.not_mem_nil, or_false] at hm
          rcases hm with e | e | e | e
          · exact dz e
          · exact dTO e
          · exact di1 e
          · exact di2 e
        frame := fun i h₁ h₂ st hk => by
          obtain ⟨hTI, h1, h2, hl1, hl2, hz⟩ := st
          refine ⟨hk _ _ (Ne.symm dTI) hTI, h1.at fun o e => hk _ o (Ne.symm di1) e, h2.at fun o e => hk _ o (Ne.symm di2) e, hl1.at fun o e => hk _ o (Ne.symm dl1) e, hl2.at fun o e => hk _ o (Ne.symm dl2) e, ?_⟩
          rcases hz with ⟨hz, a, b, hTO⟩ | ⟨T, f, oT, hz, hT, r1, r2, r3, r4⟩
          · exact .inl ⟨hk _ _ (Ne.symm dz) hz, a, b, hk _ _ (Ne.symm dTO) hTO⟩
          · exact .inr ⟨T, f, oT, hk _ _ (Ne.symm dz) hz, hk _ _ r4 hT, r1, r2, r3, r4⟩
        item := fun i s₁ Q₁ E₁ hi st hds hQ => by
          obtain ⟨hTI, h1, h2, hl1, hl2, hz⟩ := st
          have hix : i < xs.size := Nat.lt_of_lt_of_le hi (Nat.min_le_left ..)
          have hiy : i < ys.size := Nat.lt_of_lt_of_le hi (Nat.min_le_right ..)
          have lt : ∀ {c o}, s₁.heap.get? c = some o → s₁.heap.objs.size ≠ c := fun e => Nat.ne_of_gt (Heap.lt_size e)
          have n1 : s₁.heap.objs.size ≠ N := let ⟨_, e⟩ := h1.live; lt e
          have n2 : s₁.heap.objs.size ≠ i2 := let ⟨_, e⟩ := h2.live; lt e
          rcases hz with ⟨hz, a, b, hTO⟩ | ⟨T, f, oT, hz, hT, r1, r2, r3, r4⟩
          · refine wpAny_pyNext_zipD2_item S (drB (A := A.in1) hA b1 N l1 e1 xs) (drB (A := A.in1) hA b2 i2 l2 e2 ys) hz hTI hTO ⟨h1, hl1⟩ ⟨h2, hl2⟩ hix hiy fun x1 x2 h' tk p1 p2 a1 a2 a3 a4 a5 a6 hk => ?_
            exact hQ s₁.heap.objs.size _ _ h' tk ⟨p1, p2⟩ (.inl ⟨_, a5, rfl, _, rfl⟩)
              ⟨hk _ _ D.TIz D.TITO D.TIi1 D.TIi2 hTI, a3.1, a4.1, a3.2, a4.2,
                .inr ⟨s₁.heap.objs.size, false, _, a1, a5, lt hz, n1, n2, Nat.ne_of_gt hds⟩⟩
              fun c o hc e => hk c o (fun x => hc (by simp [x])) (fun x => hc (by simp [x])) (fun x => hc (by simp [x])) (fun x => hc (by simp [x])) e
          · refine zB_item_held D hz hT hTI h1 h2 hl1 hl2 (Array.getElem?_eq_getElem hix) (Array.getElem?_eq_getElem hiy) fun h' a1 a3 a4 a5 hk => ?_
            exact hQ s₁.heap.objs.size _ _ h' s₁.toks ⟨Array.getElem?_eq_getElem hix, Array.getElem?_eq_getElem hiy⟩ (.inl ⟨_, a5, rfl, _, rfl⟩)
              ⟨hk _ _ D.TIz D.TIi1 D.TIi2 hTI, a3, a4, hl1.at fun o e => hk _ o D.l1z D.l1i1 D.l1i2 e, hl2.at fun o e => hk _ o D.l2z D.l2i1 D.l2i2 e,
                .inr ⟨T, true, oT, a1, hk _ _ r1 r2 r3 hT, r1, r2, r3, r4⟩⟩
              fun c o hc e => hk c o (fun x => hc (by simp [x])) (fun x => hc (by simp [x])) (fun x => hc (by simp [x])) e
        done := fun s₁ Q₁ E₁ st hQ => by
          obtain ⟨hTI, h1, h2, hl1, hl2, hz⟩ := st
          have hend : xs[min xs.size ys.size]? = none ∨ ys[min xs.size ys.size]? = none := by
            rcases Nat.le_total xs.size ys.size with h | h
            · exact .inl (Array.getElem?_eq_none (by rw [Nat.min_eq_left h]; exact Nat.le_refl _))
            · exact .inr (Array.getElem?_eq_none (by rw [Nat.min_eq_right h]; exact Nat.le_refl _))
          rcases hz with ⟨hz, a, b, hTO⟩ | ⟨T, f, oT, hz, hT, r1, r2, r3, r4⟩
          · exact wpAny_pyNext_zipD2_end S (drB (A := A.in1) hA b1 N l1 e1 xs) (drB (A := A.in1) hA b2 i2 l2 e2 ys) hz hTI hTO ⟨h1, hl1⟩ ⟨h2, hl2⟩ (Nat.min_le_left ..) (Nat.min_le_right ..) (by omega)
              fun h' tk hk => hQ h' tk fun c o hc e => hk c o (fun x => hc (by simp [x])) (fun x => hc (by simp [x])) (fun x => hc (by simp [x])) (fun x => hc (by simp [x])) e
          · exact zB_end_held hA D hz hT hTI h1 h2 hl1 hl2 hend fun h' hk => hQ h' s₁.toks fun c o hc e => hk c o (fun x => hc (by simp [x])) (fun x => hc (by simp [x])) (fun x => hc (by simp [x])) e } }
end QL
set_option Elab.async false
set_option linter.all false
set_option maxRecDepth 100000
set_option maxHeartbeats 4000000
/-! QL15: built-in functions. -/
namespace QL
open PySem PySem.Spec L2
open PyProof.Rows hiding St
theorem insI_perm (a : Int) : ∀ l : List Int, (insI a l).Perm (a :: l)
  | [] => .refl _
  | b :: r => by
    unfold insI
    split
    · exact .refl _
    · exact ((insI_perm a r).cons b).trans (List.Perm.swap a b r)
theorem sortI_perm : ∀ l : List Int, (sortI l).Perm l
  | [] => .refl _
  | a :: r => (insI_perm a (sortI r)).trans ((sortI_perm r).cons a)
theorem insI_pw (a : Int) : ∀ {l : List Int}, l.Pairwise (· ≤ ·) → (insI a l).Pairwise (· ≤ ·)
  | [], _ => by simp [insI]
  | b :: r, h => by
    unfold insI
    have h' := List.pairwise_cons.mp h
    split
    · rename_i e
      have e := of_decide_eq_true e
      refine List.pairwise_cons.mpr ⟨fun x hx => ?_, h⟩
      rcases List.mem_cons.mp hx with rfl | hx
      · exact e
      · exact Int.le_trans e (h'.1 x hx)
    · rename_i e
      have e := of_decide_eq_false e
      refine List.pairwise_cons.mpr ⟨fun x hx => ?_, insI_pw a h'.2⟩
      rcases List.mem_cons.mp ((insI_perm a r).mem_iff.mp hx) with rfl | hx
      · omega
      · exact h'.1 x hx
theorem sortI_pw : ∀ l : List Int, (sortI l).Pairwise (· ≤ ·)
  | [] => .nil
  | a :: r => insI_pw a (sortI_pw r)
theorem sortI_uniq {ns ms : List Int} (p : ms.Perm ns) (h : ms.Pairwise (· ≤ ·)) : ms = sortI ns :=
  List.Perm.eq_of_pairwise (fun a b _ _ h1 h2 => Int.le_antisymm h1 h2) h (sortI_pw ns) (p.trans (sortI_perm ns).symm)

/-! ### new data -/
section
variable {B : Bs} {W : WX} {σ : L2.St} {M : MF} {H : Hp} {S : Ob} {Q : VK} {p : Addr}
theorem Stp.newM {o : HO} (h : H p = none) (nm : p ∉ M.m) : Stp M H ⟨M.m ++ [p], M.f⟩ (upd H p o) :=
  ⟨rfl, ⟨[p], rfl, fun q hq => by rw [List.mem_singleton.mp hq]; exact ⟨nm, h⟩⟩, fun b u _ e => by rw [upd_ne (ne_of_none e h)]; exact e⟩
theorem OR.newM {o : HO} {u : AO} (r : OR B M H S) (h : H p = none) (hu : ORo B ⟨M.m ++ [p], M.f⟩ (upd H p o) p u) : Stp M H ⟨M.m ++ [p], M.f⟩ (upd H p o) ∧ OR B ⟨M.m ++ [p], M.f⟩ (upd H p o) (S ++ [u]) ∧ VR B ⟨M.m ++ [p], M.f⟩ (upd H p o) (.ref p) (.ref S.length) := by
  have out := r.fresh h
  have st : Stp M H ⟨M.m ++ [p], M.f⟩ (upd H p o) := Stp.newM h out.1
  refine ⟨st, ⟨by simp [r.len], List.nodup_append.mpr ⟨r.nd, by simp, fun a ha b hb => by rw [List.mem_singleton.mp hb]; exact fun z => out.1 (by rw [← z]; exact ha)⟩, fun a ha => ?_, fun j w a h1 h2 => ?_⟩, .ref ?_⟩
  · have ne : a ≠ p := fun z => (r.fen a ha).2 (by rw [z]; exact h)
    refine ⟨fun z => ?_, by rw [upd_ne ne]; exact (r.fen a ha).2⟩
    rcases List.mem_append.mp z with z | z
    · exact (r.fen a ha).1 z
    · exact ne (List.mem_singleton.mp z)
  · by_cases hj : j < S.length
    · rw [List.getElem?_append_left hj] at h1
      change (M.m ++ [p])[j]? = some a at h2
      rw [List.getElem?_append_left (by rw [r.len]; exact hj)] at h2
      exact (r.at_ j w a h1 h2).keep st (upd_ne fun z => r.here a (List.mem_of_getElem? h2) (by rw [z]; exact h))
    · have ej : j = S.length := by
        have := (List.getElem?_eq_some_iff.mp h1).1
        simp at this; omega
      subst ej
      simp at h1
      change (M.m ++ [p])[S.length]? = some a at h2
      rw [← r.len] at h2
      simp at h2
      subst h1 h2
      exact hu
  · show (M.m ++ [p])[S.length]? = some p
    rw [← r.len]; simp
variable {m : Bool}
theorem mk_lst {us : List V} {ds : List D} (o : OR B M H S) (hp : H p = none) (r : VRs B M H us ds) (h : PostV B W σ M H (mkO m (.lst ds) S) Q) : Q (.ref p) (upd H p (.lst us)) := by
  cases m with
  | false => exact h _ _ M (Stp.new hp) (o.new hp) (VR.newLst hp o r)
  | true =>
    have out := o.fresh hp
    obtain ⟨h1, h2, h3⟩ := o.newM (o := .lst us) (u := .lst ds) hp (.lst upd_same (r.step (Stp.newM hp out.1)))
    exact h _ _ _ h1 h2 h3
theorem mk_dct {es : Array DictEntry} {ep : Nat} {ks vs : List D} (o : OR B M H S) (hp : H p = none) (ns : (p == sysModules) = false) (sz : es.size ≤ sizeLine) (de : DEs B M H es.toList ks vs) (nd : ks.Nodup) (kk : keysOk ks = true)
    (h : PostV B W σ M H (mkO m (.dct ks vs) S) Q) : Q (.ref p) (upd H p (DictO p es ep)) := by
  have out := o.fresh hp
  cases m with
  | false => exact h _ _ M (Stp.new hp) (o.new hp) (.dct upd_same out ns sz (de.step (Stp.new hp)) nd kk)
  | true =>
    obtain ⟨h1, h2, h3⟩ := o.newM (o := DictO p es ep) (u := .dct ks vs) hp (.dct upd_same ns sz (de.step (Stp.newM hp out.1)) nd kk)
    exact h _ _ _ h1 h2 h3
theorem mk_val {d : D} {w : V} (o : OR B M H S) (r : VR B M H w d) (h : PostV B W σ M H (mkO m d S) Q) (n1 : ∀ xs, d ≠ .lst xs) (n2 : ∀ ks vs, d ≠ .dct ks vs) : Q w H := by
  cases m with
  | false => exact h _ _ M (Stp.refl _ _) o r
  | true =>
    cases d <;> first | exact absurd rfl (n1 _) | exact absurd rfl (n2 _ _) | exact h.elim
theorem mk_tup {us : List V} {ds : List D} (o : OR B M H S) (hp : H p = none) (r : VRs B M H us ds) (h : PostV B W σ M H (mkO m (.tup ds) S) Q) : Q (.ref p) (upd H p (.tup us)) := by
  cases m with
  | false => exact h _ _ M (Stp.new hp) (o.new hp) (VR.newTup hp o r)
  | true => exact h.elim
end

/-! ### the functions -/
def biF : Bi → Option Value
  | .len => some (.builtin "len") | .abs => some (.builtin "abs") | .min => some (.builtin "min") | .max => some (.builtin "max") | .sorted => some (.builtin "sorted") | .sum => some (.builtin "sum")
  | .all => some (.builtin "all") | .any => some (.builtin "any") | .isi => some (.builtin "isinstance") | .repr => some (.builtin "repr") | .gcd => some (.builtin "math.gcd")
  | .int => some (.type "int") | .tuple => some (.type "tuple") | .list => some (.type "list") | .str => some (.type "str") | .dict => some (.type "dict")
  | .dictz => none | .listz => none | .listi => none
def rBlt (B : Bs) (m : Bool) (b : Bi) : List V → Hp → VK → Prop := fun vs H Q => ∃ W σ M S xs, OR B M H S ∧ VRs B M H vs xs ∧ PostV B W σ M H ((Opt.res (bltD S b xs) S).bind fun d S => mkO m d S) Q
theorem Opt.inv {B : Bs} {W : WX} {σ : L2.St} {M : MF} {H : Hp} {o : Option D} {S : Ob} {m : Bool} {Q : VK} (h : PostV B W σ M H ((Opt.res o S).bind fun d S => mkO m d S) Q) : ∃ d, o = some d ∧ PostV B W σ M H (mkO m d S) Q := by
  cases o with
  | none => exact h.elim
  | some d => exact ⟨d, rfl, h⟩
theorem VRs.one {B : Bs} {M : MF} {H : Hp} {vs : List V} {x : D} (r : VRs B M H vs [x]) : ∃ v, vs = [v] ∧ VR B M H v x := by
  cases r with
  | cons a t => cases t; exact ⟨_, rfl, a⟩
theorem VRs.two {B : Bs} {M : MF} {H : Hp} {vs : List V} {x y : D} (r : VRs B M H vs [x, y]) : ∃ v u, vs = [v, u] ∧ VR B M H v x ∧ VR B M H u y := by
  cases r with
  | cons a t => obtain ⟨u, rfl, b⟩ := t.one; exact ⟨_, _, rfl, a, b⟩
section
variable {X : Cx} {g : Nat → Option Addr} {pins : List (Addr × Obj)} {σ : L2.St} {H : Hp} {s : Shared} {M : MF} {S : Ob} {v : V} {u : Value} {x : D}
/-- what isinstance asks -/
theorem kit_d (I : L2.Inv X pins σ H s) (o : OR (bs X g) M H S) (r : VR (bs X g) M H v x) (ru : RelV v u) {t : Ty} (e : tyOf S x = some t) : ∃ P : Heap → Prop, PySem.W.KitX X.K u (.type t.name) P ∧ P s.heap ∧ u ≠ .builtin "__main__.__loader__#opaque" := by
  unfold tyOf at e
  split at e
  · rename_i h; cases e
    have := rd_eq (by intro _ z; cases z) (by intro _ _ z; cases z) h; subst this; cases r
    cases (show u = Value.none from ru); exact ⟨_, PySem.W.kitx_none, True.intro, fun z => nomatch z⟩
  · rename_i h; cases e
    have := rd_eq (by intro _ z; cases z) (by intro _ _ z; cases z) h; subst this; cases r
    cases (show u = Value.bool _ from ru); exact ⟨_, PySem.W.kitx_bool, True.intro, fun z => nomatch z⟩
  · rename_i h; cases e
    have := VR.rdI r h; subst this
    obtain ⟨t, q⟩ := (show ∃ t, u = Value.int _ t from ru); cases q; exact ⟨_, PySem.W.kitx_int, True.intro, fun z => nomatch z⟩
  · rename_i h; cases e
    have := VR.rdS r h; subst this
    obtain ⟨t, q⟩ := (show ∃ t, u = Value.str _ t from ru); cases q; exact ⟨_, PySem.W.kitx_str, True.intro, fun z => nomatch z⟩
  · rename_i h; cases e
    obtain ⟨a, vs, rfl, sa, _⟩ := VR.rdT (S := S) r h
    obtain rfl : u = Value.ref a := ru
    obtain ⟨its, _, ⟨o, h1, h2, _⟩, _⟩ := I.tuple sa
    exact ⟨_, PySem.W.kitx_tuple, ⟨o, h1, h2⟩, fun z => nomatch z⟩
  · rename_i h; cases e
    obtain ⟨a, vs, rfl, sa, _⟩ := VR.rdL o r h
    obtain rfl : u = Value.ref a := ru
    obtain ⟨its, _, p, _⟩ := I.list (.inl sa)
    obtain ⟨o, h1, h2, _⟩ := p.isList
    exact ⟨_, PySem.W.kitx_list, ⟨o, h1, h2⟩, fun z => nomatch z⟩
  · rename_i h; cases e
    obtain ⟨d, es, ep, rfl, hd, _⟩ := VR.rdD o r h
    obtain rfl : u = Value.ref d := ru
    obtain ⟨o, h1, h2, _⟩ := Inv.rawD I hd
    exact ⟨_, PySem.W.kitx_dict, ⟨o, h1, h2.1⟩, fun z => nomatch z⟩
  · cases e
theorem kit_one (K : PySem.W.Frag) (a b : Ty) : PySem.W.kitOne K (.type a.name) (.type b.name) = some (subTy a b) := by
  cases a <;> cases b <;> rfl
theorem kit_any (K : PySem.W.Frag) (a : Ty) {M : MF} {H : Hp} : ∀ {ts : List D} {b : Bool} {vs : List V} {us : List Value}, isiAny a ts = some b → VRs (bs X g) M H vs ts → Vals vs us → PySem.W.kitAny K (.type a.name) us = some b
  | [], b, _, _, e, .nil, rv => by
    cases rv
    simp only [isiAny] at e
    exact e
  | t :: ts, b, _, _, e, .cons r q, rv => by
    cases rv with
    | cons ru rr =>
      cases t <;> simp only [isiAny] at e <;> try (cases e; done)
      rename_i n
      cases r
      cases (show _ = Value.type n.name from ru)
      simp only [Option.map_eq_some_iff] at e
      obtain ⟨c, hc, rfl⟩ := e
      have ih := kit_any K a hc q rr
      simp only [PySem.W.kitAny, kit_one]
      cases h : subTy a n with
      | true => simp
      | false => simpa using ih
end
theorem bools_of {B : Bs} {M : MF} {H : Hp} : ∀ {xs : List D} {ns : List Bool} {vs : List V}, boolsOf xs = some ns → VRs B M H vs xs → vs = ns.map V.bl
  | [], ns, _, e, .nil => by simp [boolsOf] at e; subst e; rfl
  | x :: xs, ns, _, e, .cons r t => by
    cases x <;> simp [boolsOf] at e
    obtain ⟨ms, e1, rfl⟩ := e
    cases r
    rw [bools_of e1 t]
    rfl
theorem VRs.ints {B : Bs} {M : MF} {H : Hp} : ∀ ns : List Int, VRs B M H (ns.map V.int) (ns.map D.int)
  | [] => .nil
  | n :: ns => .cons (.int n) (VRs.ints ns)
theorem shown_back (x : Str) : toS x.cps.toList = x := by show Str.mk _ = x; simp
section
variable {X : Cx} {g : Nat → Option Addr} {m : Bool}
theorem cr_len : CallR X (.builtin "len") (rBlt (bs X g) m .len) := by
  intro pins s σ H vs us Q I rv h
  obtain ⟨W, τ, M, S, xs, o, rs, h⟩ := h
  obtain ⟨d, hd, h⟩ := Opt.inv h
  unfold bltD at hd
  split at hd <;> try (rename_i h1; cases h1)
  all_goals first | (exfalso; simp at hd; done) | skip
  obtain ⟨v, rfl, r⟩ := rs.one
  split at hd
  · rename_i e
    cases hd
    obtain ⟨a, ws, rfl, sa, ra⟩ := VR.rdT (S := S) r e
    exact call_len_seq pins s σ H _ us Q I rv ⟨a, ws, rfl, .inr sa, by rw [ra.length]; exact mk_val o (.int _) h (by intro _ z; cases z) (by intro _ _ z; cases z)⟩
  · rename_i e
    cases hd
    obtain ⟨a, ws, rfl, sa, ra⟩ := VR.rdL o r e
    exact call_len_seq pins s σ H _ us Q I rv ⟨a, ws, rfl, .inl (.inl sa), by rw [ra.length]; exact mk_val o (.int _) h (by intro _ z; cases z) (by intro _ _ z; cases z)⟩
  · rename_i ks ws e
    cases hd
    obtain ⟨a, es, ep, rfl, hd, ns, sz, de, nd, kk⟩ := VR.rdD o r e
    have hq := mk_val o (.int _) h (by intro _ z; cases z) (by intro _ _ z; cases z)
    cases rv with
    | cons ru rt =>
      cases rt
      obtain rfl : _ = Value.ref a := ru
      have hl := DEs.length de
      have h3 : es.toList.length = es.size := by simp
      have hs := sizeLine_eq
      unfold keysOk at kk
      rw [Bool.or_eq_true, List.all_eq_true, List.all_eq_true] at kk
      rcases kk with kk | kk
      · obtain ⟨ys, al, hm⟩ := dict_tup I hd de nd kk
        have := al.length
        refine call_len_dictH ns hm (by omega) ⟨.int ((ks.length : Nat) : Int), H, I.tok _, ⟨_, by rw [al.length.1]⟩, hq⟩
      · obtain ⟨ys, al, hm⟩ := dict_flat I hd de nd kk
        have := al.length
        refine call_len_dict ns hm (by omega) ⟨.int ((ks.length : Nat) : Int), H, I.tok _, ⟨_, by rw [al.length.1]⟩, hq⟩
  · rename_i z e
    split at hd
    · rename_i hl
      cases hd
      have := VR.rdS r e
      subst this
      exact call_len_str pins s σ H _ us Q I rv ⟨toS z, rfl, by rw [toS_len]; exact lim_le hl, by rw [toS_len]; exact mk_val o (.int _) h (by intro _ z; cases z) (by intro _ _ z; cases z)⟩
    · cases hd
  · cases hd

end
mutual
theorem pd_nod : ∀ d : D, PyData.hasDict d.pd = false
  | .tup xs => by simp only [D.pd, PyData.hasDict]; exact pds_nod xs
  | .lst xs => by simp only [D.pd, PyData.hasDict]; exact pds_nod xs
  | .non => by simp [D.pd, PyData.hasDict]
  | .bl _ => by simp [D.pd, PyData.hasDict]
  | .int _ => by simp [D.pd, PyData.hasDict]
  | .str _ => by simp [D.pd, PyData.hasDict]
  | .dct _ _ => by simp [D.pd, PyData.hasDict]
  | .ref _ => by simp [D.pd, PyData.hasDict]
  | .ty _ => by simp [D.pd, PyData.hasDict]
  | .gl _ => by simp [D.pd, PyData.hasDict]
  | .exc _ _ => by simp [D.pd, PyData.hasDict]
theorem pds_nod : ∀ d : List D, PyData.hasDictAll (D.pds d) = false
  | [] => by simp [D.pds, PyData.hasDictAll]
  | x :: xs => by simp [D.pds, PyData.hasDictAll, pd_nod x, pds_nod xs]
end
section
variable {X : Cx} {g : Nat → Option Addr} {m : Bool}
theorem cr_all' (hc : X.calm = true) (hu : X.A.units + 70 < cLine) (hg : X.A.guards = some []) : ∀ {b : Bi} {f : Value}, biF b = some f → b ≠ .len → b ≠ .dict → CallR X f (rBlt (bs X g) m b) := by
  intro b f hf nl nd pins s σ H vs us Q I rv h
  obtain ⟨W, τ, M, S, xs, o, rs, h⟩ := h
  obtain ⟨d, hd, h⟩ := Opt.inv h
  unfold bltD at hd
  split at hd
  · exact absurd rfl nl
  · -- abs
    cases hf; cases hd
    obtain ⟨v, rfl, r⟩ := rs.one
    cases r
    exact call_abs pins s σ H _ us Q I rv ⟨_, rfl, mk_val o (.int _) h (by intro _ z; cases z) (by intro _ _ z; cases z)⟩
  · -- int
    cases hf; cases hd
    obtain ⟨v, rfl, r⟩ := rs.one
    cases r
    exact call_int1 pins s σ H _ us Q I rv (.inl ⟨_, rfl, mk_val o (.int _) h (by intro _ z; cases z) (by intro _ _ z; cases z)⟩)
  · cases hf; cases hd
    obtain ⟨v, rfl, r⟩ := rs.one
    cases r
    exact call_int1 pins s σ H _ us Q I rv (.inr ⟨_, rfl, mk_val o (.int _) h (by intro _ z; cases z) (by intro _ _ z; cases z)⟩)
  · -- min
    cases hf; cases hd
    obtain ⟨v, u, rfl, r, r2⟩ := rs.two
    cases r; cases r2
    exact call_min2 hc pins s σ H _ us Q I rv ⟨_, _, rfl, mk_val o (.int _) h (by intro _ z; cases z) (by intro _ _ z; cases z)⟩
  · cases hf; cases hd
    obtain ⟨v, u, rfl, r, r2⟩ := rs.two
    cases r; cases r2
    exact call_max2 hc pins s σ H _ us Q I rv ⟨_, _, rfl, mk_val o (.int _) h (by intro _ z; cases z) (by intro _ _ z; cases z)⟩
  · -- tuple
    cases hf
    obtain ⟨v, rfl, r⟩ := rs.one
    split at hd
    · rename_i e
      cases hd
      obtain ⟨a, ws, rfl, sa, ra⟩ := VR.rdT (S := S) r e
      have e3 := rd_eq (by intro _ z; cases z) (by intro _ _ z; cases z) e
      subst e3
      exact call_tuple_of pins s σ H _ us Q I rv ⟨a, ws, rfl, .inr ⟨sa, mk_val o r h (by intro _ z; cases z) (by intro _ _ z; cases z)⟩⟩
    · rename_i e
      cases hd
      obtain ⟨a, ws, rfl, sa, ra⟩ := VR.rdL o r e
      exact call_tuple_of pins s σ H _ us Q I rv ⟨a, ws, rfl, .inl ⟨.inl sa, fun l hl => mk_tup o hl ra h⟩⟩
    · cases hd
  · -- list
    cases hf
    obtain ⟨v, rfl, r⟩ := rs.one
    split at hd
    · rename_i e
      cases hd
      obtain ⟨a, ws, rfl, sa, ra⟩ := VR.rdT (S := S) r e
      exact call_list_of pins s σ H _ us Q I rv ⟨a, ws, rfl, .inr sa, fun l hl => mk_lst o hl ra h⟩
    · rename_i e
      cases hd
      obtain ⟨a, ws, rfl, sa, ra⟩ := VR.rdL o r e
      exact call_list_of pins s σ H _ us Q I rv ⟨a, ws, rfl, .inl (.inl sa), fun l hl => mk_lst o hl ra h⟩
    · cases hd
  · exact absurd rfl nd
  · cases hf
  · -- sorted
    cases hf
    obtain ⟨v, rfl, r⟩ := rs.one
    split at hd
    · rename_i ys e
      obtain ⟨a, ws, rfl, sa, ra⟩ := VR.rdL o r e
      cases hi : intsOf ys with
      | none => rw [hi] at hd; cases hd
      | some ns =>
        rw [hi] at hd
        simp only [Option.bind_some] at hd
        split at hd
        · rename_i hl
          cases hd
          have := ints_of hi ra
          subst this
          refine cr_sorted pins s σ H _ us Q I rv ⟨a, ns, rfl, .inl sa, Nat.lt_succ_of_le (Nat.le_of_ble_eq_true hl), fun ns' p pm pw hp => ?_⟩
          rw [sortI_uniq pm pw]
          exact mk_lst o hp (VRs.ints _) h
        · cases hd
    · cases hd
  · -- sum
    cases hf
    obtain ⟨v, rfl, r⟩ := rs.one
    split at hd
    · rename_i ys e
      obtain ⟨a, ws, rfl, sa, ra⟩ := VR.rdL o r e
      simp only [Option.map_eq_some_iff] at hd
      obtain ⟨ns, hi, rfl⟩ := hd
      have := ints_of hi ra
      subst this
      exact cr_sum hc pins s σ H _ us Q I rv ⟨a, ns, rfl, .inl sa, mk_val o (.int _) h (by intro _ z; cases z) (by intro _ _ z; cases z)⟩
    · cases hd
  · -- all
    cases hf
    obtain ⟨v, rfl, r⟩ := rs.one
    split at hd
    · rename_i ys e
      obtain ⟨a, ws, rfl, sa, ra⟩ := VR.rdL o r e
      simp only [Option.map_eq_some_iff] at hd
      obtain ⟨ns, hi, rfl⟩ := hd
      have := bools_of hi ra
      subst this
      exact cr_all hc pins s σ H _ us Q I rv ⟨a, ns, rfl, .inl sa, mk_val o (.bl _) h (by intro _ z; cases z) (by intro _ _ z; cases z)⟩
    · cases hd
  · cases hf
    obtain ⟨v, rfl, r⟩ := rs.one
    split at hd
    · rename_i ys e
      obtain ⟨a, ws, rfl, sa, ra⟩ := VR.rdL o r e
      simp only [Option.map_eq_some_iff] at hd
      obtain ⟨ns, hi, rfl⟩ := hd
      have := bools_of hi ra
      subst this
      exact cr_any hc pins s σ H _ us Q I rv ⟨a, ns, rfl, .inl sa, mk_val o (.bl _) h (by intro _ z; cases z) (by intro _ _ z; cases z)⟩
    · cases hd
  · -- isinstance
    cases hf
    obtain ⟨v, u, rfl, r, r2⟩ := rs.two
    simp only [Option.map_eq_some_iff] at hd
    obtain ⟨b, hb, rfl⟩ := hd
    have hq := mk_val o (.bl b) h (by intro _ z; cases z) (by intro _ _ z; cases z)
    obtain ⟨u1, u2, rfl, q1, q2⟩ := vals2 rv
    unfold isiD at hb
    split at hb
    · rename_i t n e
      cases hb
      cases r2
      obtain ⟨P, Z, p, hx⟩ := kit_d I o r q1 e
      obtain rfl : u2 = Value.type n.name := q2
      exact PySem.W.kia_one Z I.kIn p (kit_one _ _ _) hx fun tk => ⟨.bl _, H, I.tok tk, rfl, hq⟩
    · rename_i t ts e
      obtain ⟨P, Z, p, hx⟩ := kit_d I o r q1 e
      obtain ⟨a, ws, rfl, sa, ra⟩ := r2.tupI
      obtain rfl : u2 = Value.ref a := q2
      obtain ⟨its, rvs, ⟨ob, h1, h2, n, h3⟩, _⟩ := I.tuple sa
      obtain ⟨oc, od, dt, sl⟩ := ob
      simp only at h2 h3
      subst h2 h3
      exact PySem.W.kia_tup Z I.kIn p h1 (kit_any X.K _ hb ra rvs) hx fun tk => ⟨.bl b, H, I.tok tk, rfl, hq⟩
    · cases hb
  · -- gcd
    cases hf; cases hd
    obtain ⟨v, u, rfl, r, r2⟩ := rs.two
    cases r; cases r2
    exact cr_gcd pins s σ H _ us Q I rv ⟨_, _, rfl, mk_val o (.int _) h (by intro _ z; cases z) (by intro _ _ z; cases z)⟩
  · -- repr
    cases hf
    obtain ⟨v, rfl, r⟩ := rs.one
    rename_i x
    split at hd
    · rename_i hl
      cases hd
      simp only [Bool.and_eq_true] at hl
      obtain ⟨⟨⟨f, sh⟩, dp⟩, ln⟩ := hl
      have hq : Q (.str (PyData.shown (rd S x).pd)) H := by
        have := mk_val o (.str (PyData.shown (rd S x).pd).cps.toList) h (by intro _ z; cases z) (by intro _ _ z; cases z)
        rw [shown_back] at this
        exact this
      obtain ⟨u, rfl, q1⟩ := vals1 rv
      have ln := lim_le ln
      have fin : ∀ h' t tk, (∀ b ob, s.heap.get? b = some ob → h'.get? b = some ob) → EP X pins σ Q (.str (PyData.shown (rd S x).pd) t) { s with heap := h', toks := tk } := fun h' t tk hk => ⟨.str _, H, I.kept hk, ⟨_, rfl⟩, hq⟩
      have hdp := rd_dp o r f
      obtain ⟨as, rr⟩ := Dp.reads I _ _ _ hdp q1
      have hdep := pd_dep _ f
      cases e : rd S x <;> rw [e] at f hdp rr sh ln fin hdep dp
      case non =>
        simp only [D.pd] at hdp fin
        cases hdp
        cases (show u = Value.none from q1)
        exact PySem.P.repr_of_none (fin _ _ _ fun _ _ e => e)
      case bl b =>
        simp only [D.pd] at hdp fin
        cases hdp
        cases (show u = Value.bool b from q1)
        have z := PySem.P.repr_of_bool (prog := X.prog) (w := X.w) (A := X.A) (E := X.xe) (s := s) (b := b) (Q := EP X pins σ Q)
        refine z ?_
        have := fin s.heap s.toks (s.toks + 1) fun _ _ e => e
        cases b <;> exact this
      case int i =>
        simp only [D.pd] at hdp fin sh
        cases hdp
        obtain ⟨t, rfl⟩ := (show ∃ t, u = Value.int i t from q1)
        exact PySem.P.repr_of_int (by simpa [PyData.showable] using sh) (fin _ _ _ fun _ _ e => e)
      case str z =>
        simp only [D.pd] at hdp fin ln
        cases hdp
        obtain ⟨t, rfl⟩ := (show ∃ t, u = Value.str (toS z) t from q1)
        exact PySem.P.repr_of_str (fin _ _ _ fun _ _ e => e) ln
      case tup zs =>
        have hnd : PyData.hasDict (D.tup zs).pd = false := pd_nod _
        cases hdp
        rename_i a ws h1 h2
        obtain rfl : u = Value.ref a := q1
        refine repr_of_reads' rr sh (PyData.noDict_hsm hnd) hg ?_ (fun _ _ e => e) (fun h' t tk hk => fin h' t tk hk) ln
        have := Nat.le_of_ble_eq_true dp
        rw [hdep]; omega
      case lst zs =>
        have hnd : PyData.hasDict (D.lst zs).pd = false := pd_nod _
        cases hdp
        rename_i a ws h1 h2
        obtain rfl : u = Value.ref a := q1
        refine repr_of_reads' rr sh (PyData.noDict_hsm hnd) hg ?_ (fun _ _ e => e) (fun h' t tk hk => fin h' t tk hk) ln
        have := Nat.le_of_ble_eq_true dp
        rw [hdep]; omega
      all_goals simp [D.flat] at f
    · cases hd
  · -- str
    cases hf
    obtain ⟨v, rfl, r⟩ := rs.one
    split at hd
    · rename_i hl
      cases hd
      cases r
      refine call_str_int pins s σ H _ us Q I rv ⟨_, rfl, of_decide_eq_true hl, ?_⟩
      have := mk_val o (.str _) h (by intro _ z; cases z) (by intro _ _ z; cases z)
      rw [shown_back] at this
      exact this
    · cases hd
  · cases hf; cases hd
    obtain ⟨v, rfl, r⟩ := rs.one
    cases r
    exact SkE.call_str_str pins s σ H _ us Q I rv ⟨_, rfl, mk_val o (.str _) h (by intro _ z; cases z) (by intro _ _ z; cases z)⟩
  · cases hd
end
end QL
set_option Elab.async false
set_option linter.all false
set_option maxRecDepth 100000
set_option maxHeartbeats 4000000
/-! QL16: dicts of pairs. -/
namespace QL
open PySem PySem.Spec L2
open PyProof.Rows hiding St
/-- pairs of values stand for pairs of data -/
inductive PR (B : Bs) (M : MF) (H : Hp) : List (Value × Value) → List (D × D) → Prop
  | nil : PR B M H [] []
  | cons {u r v y k x us ps} : RelV v u → VR B M H v k → RelV y r → VR B M H y x → PR B M H us ps → PR B M H ((u, r) :: us) ((k, x) :: ps)
section
variable {B : Bs} {M : MF} {H : Hp}
theorem PR.length : ∀ {us ps}, PR B M H us ps → us.length = ps.length
  | _, _, .nil => rfl
  | _, _, .cons _ _ _ _ t => congrArg (· + 1) t.length
theorem PR.zip : ∀ {xs ys : List D} {vs us : List V} {as bs : List Value}, VRs B M H vs xs → Vals vs as → VRs B M H us ys → Vals us bs → PR B M H (as.zip bs) (xs.zip ys)
  | _, _, _, _, _, _, .nil, .nil, _, _ => .nil
  | _, _, _, _, _, _, .cons _ _, .cons _ _, .nil, .nil => .nil
  | _, _, _, _, _, _, .cons a r, .cons b s, .cons c t, .cons d u => .cons b a d c (PR.zip r s t u)
theorem foldP_inv {ps : List (D × D)} : ∀ {ks vs : List D}, ks.length = vs.length → ks.Nodup → (foldP ps ks vs).1.length = (foldP ps ks vs).2.length ∧ (foldP ps ks vs).1.Nodup ∧ (foldP ps ks vs).1.length ≤ ks.length + ps.length ∧ ∀ x ∈ (foldP ps ks vs).1, x ∈ ks ∨ x ∈ ps.map (·.1) := by
  induction ps with
  | nil => intro ks vs h1 h2; exact ⟨h1, h2, Nat.le_refl _, fun x hx => .inl hx⟩
  | cons p r ih =>
    intro ks vs h1 h2
    obtain ⟨k, x⟩ := p
    have l := putD_len (k := k) (v := x) h1
    obtain ⟨a, b, c, d⟩ := ih (ks := (putD ks vs k x).1) (vs := (putD ks vs k x).2) l.1 (putD_nodup h1 h2)
    refine ⟨a, b, ?_, fun z hz => ?_⟩
    · show (foldP r (putD ks vs k x).1 (putD ks vs k x).2).1.length ≤ ks.length + (r.length + 1)
      omega
    · rcases d z hz with m | m
      · by_cases hk : k ∈ ks
        · rw [putD_keys h1 hk] at m; exact .inl m
        · rw [putD_new h1 hk] at m
          rcases List.mem_append.mp m with m | m
          · exact .inl m
          · exact .inr (by rw [List.mem_singleton.mp m]; exact List.mem_cons_self)
      · exact .inr (List.mem_cons_of_mem _ m)
theorem PR.leaf : ∀ {us ps}, PR B M H us ps → (∀ p ∈ ps, keyLeaf p.1 = true) → ∃ kvs : List (L2.Key × Value), kvs.length = us.length ∧ (∀ (i : Nat) u r, us[i]? = some (u, r) → ∃ k, kvs[i]? = some (k, r) ∧ keyIs k u = true) ∧
    ∀ {acc ks vs}, AL B M H acc ks vs → ks.Nodup → AL B M H (merged acc kvs) (foldP ps ks vs).1 (foldP ps ks vs).2
  | _, _, .nil, _ => ⟨[], rfl, by simp, fun a _ => a⟩
  | _, _, .cons (u := u) (r := r) (k := k) (x := x) ru rk rr rx t, h => by
    obtain ⟨kvs, l, ix, al⟩ := t.leaf fun p hp => h p (List.mem_cons_of_mem _ hp)
    have kl := h _ List.mem_cons_self
    obtain ⟨key, ek⟩ := keyLeaf_F kl
    have his : keyIs key u = true := by
      cases k with
      | int i => simp only [keyF, Option.some.injEq] at ek; subst ek; cases rk; obtain ⟨t, rfl⟩ := ru; exact keyIs_int i t
      | str i => simp only [keyF, Option.some.injEq] at ek; subst ek; cases rk; obtain ⟨t, rfl⟩ := ru; exact keyIs_str _ t
      | _ => simp [keyLeaf] at kl
    refine ⟨(key, r) :: kvs, by simp [l], fun i u' r' e => ?_, fun {acc ks vs} a nd => ?_⟩
    · cases i with
      | zero => simp at e; obtain ⟨rfl, rfl⟩ := e; exact ⟨key, by simp, his⟩
      | succ i => obtain ⟨k', e1, e2⟩ := ix i u' r' (by simpa using e); exact ⟨k', by simpa using e1, e2⟩
    · exact al (a.put ek rr rx nd) (putD_nodup a.length.2 nd)
theorem PR.tups : ∀ {us ps}, PR B M H us ps → (∀ p ∈ ps, keyTup p.1 = true) → ∃ xs : List (NestedKey × Addr × Value), xs.length = us.length ∧ (∀ (i : Nat) u r, us[i]? = some (u, r) → ∃ k b, xs[i]? = some (k, b, r) ∧ u = .ref b) ∧
    (∀ x ∈ xs, x.1.depth ≤ 8 ∧ ∃ d, VR B M H (.ref x.2.1) d ∧ toKey d = some x.1) ∧
    ∀ {acc ks vs}, AT B M H acc ks vs → ks.Nodup → AT B M H (storedAllH acc xs) (foldP ps ks vs).1 (foldP ps ks vs).2
  | _, _, .nil, _ => ⟨[], rfl, by simp, by simp, fun a _ => a⟩
  | _, _, .cons (u := u) (r := r) (k := k) (x := x) ru rk rr rx t, h => by
    obtain ⟨xs, l, ix, hx, al⟩ := t.tups fun p hp => h p (List.mem_cons_of_mem _ hp)
    have kt := h _ List.mem_cons_self
    obtain ⟨ys, nk, e0, ek, hd⟩ := keyTup_N kt
    simp only at e0 ek
    subst e0
    obtain ⟨b, ws, rfl, _, _⟩ := rk.tupI
    obtain rfl : u = Value.ref b := ru
    refine ⟨(.tup nk, b, r) :: xs, by simp [l], fun i u' r' e => ?_, fun z hz => ?_, fun {acc ks vs} a nd => ?_⟩
    · cases i with
      | zero => simp at e; obtain ⟨rfl, rfl⟩ := e; exact ⟨_, b, rfl, rfl⟩
      | succ i => obtain ⟨k', b', e1, e2⟩ := ix i u' r' (by simpa using e); exact ⟨k', b', by simpa using e1, e2⟩
    · rcases List.mem_cons.mp hz with rfl | hz
      · exact ⟨hd, _, rk, ek⟩
      · exact hx z hz
    · exact al (a.put ek kt rk rr rx nd) (putD_nodup a.length.2 nd)
end
theorem sysM_ne {s : Shared} {X : Cx} {pins : List (Addr × Obj)} {σ : L2.St} {H : Hp} (I : L2.Inv X pins σ H s) : (s.heap.objs.size == sysModules) = false := beq_eq_false_iff_ne.mpr (Nat.ne_of_gt I.big)
section
variable {X : Cx} {g : Nat → Option Addr} {pins : List (Addr × Obj)} {σ τ : L2.St} {H : Hp} {s : Shared} {M : MF} {S : Ob} {m : Bool} {Q : VK} {W : WX} {T : String} {a : Addr} {fp wr : List Addr} {n : Nat} {Rel : Nat → Value → Value → Prop} {OK : Heap → Prop}
/-- dict(..) of pairs -/
theorem dict_pairs (P : PairArg X.prog X.w T a fp wr n Rel OK) (hc : X.calm = true) (hu : X.A.units + 70 < cLine) (I : L2.Inv X pins σ H s) (ok : OK s.heap) (o : OR (bs X g) M H S) {us : List (Value × Value)} {ps : List (D × D)} (pr : PR (bs X g) M H us ps) (hn : us.length = n)
    (hrel : ∀ i k v, Rel i k v → us[i]? = some (k, v)) (hwr : ∀ b ∈ wr, H b = none) (hwf : ∀ b ∈ wr, FpOk X pins H b) {d : D} (hd : dctP ps = some d) (h : PostV (bs X g) W τ M H (mkO m d S) Q) :
    wpAny (model X.prog X.w) X.A (call (.type "dict") [.ref a]) (EP X pins σ Q) X.xe s := by
  unfold dctP at hd
  split at hd
  · rename_i hk
    cases hd
    rw [Bool.and_eq_true] at hk
    have hl := lim_le hk.2
    have hlen := pr.length
    have hnl : n ≤ sizeLine := by omega
    have fi := foldP_inv (ps := ps) (ks := []) (vs := []) rfl .nil
    have hp : H s.heap.objs.size = none := I.hok.fresh (Nat.le_refl _)
    have kk : keysOk (foldP ps [] []).1 = true := by
      have hk := hk.1
      unfold keysOk at hk ⊢
      rw [Bool.or_eq_true, List.all_eq_true, List.all_eq_true] at hk ⊢
      rcases hk with hk | hk
      · exact .inl fun x hx => (fi.2.2.2 x hx).elim (fun z => by cases z) (hk x)
      · exact .inr fun x hx => (fi.2.2.2 x hx).elim (fun z => by cases z) (hk x)
    have fin : ∀ h' tk es ep, h'.DictRaw s.heap.objs.size es ep → (∀ b ob, b ∉ wr → s.heap.get? b = some ob → h'.get? b = some ob) → DEs (bs X g) M H es.toList (foldP ps [] []).1 (foldP ps [] []).2 → EP X pins σ Q (.ref s.heap.objs.size) { s with heap := h', toks := tk } := fun h' tk es ep hr hk' de => by
      have sz : es.size ≤ sizeLine := by
        have e1 := (DEs.length de).1
        have e3 : es.toList.length = es.size := by simp
        have := fi.2.2.1
        simp only [List.length_nil] at this
        omega
      have new : ObjOk X.prog X.w (upd H s.heap.objs.size (DictO s.heap.objs.size es ep)) h' s.heap.objs.size (DictO s.heap.objs.size es ep) :=
        ⟨hr, (let ⟨o, ho, _⟩ := hr; ⟨o, ho⟩), fun h1 h2 a e => a.at e⟩
      have I' : L2.Inv X pins σ (upd H s.heap.objs.size (DictO s.heap.objs.size es ep)) { s with heap := h', toks := tk } := I.turnedNew (t' := tk) (ch := wr) hk' hwf (Nat.le_refl _) new
      exact ⟨.ref _, _, I', rfl, mk_dct o hp (sysM_ne I) sz de fi.2.1 kk h⟩
    have hk1 := hk.1
    unfold keysOk at hk1
    rw [Bool.or_eq_true, List.all_eq_true, List.all_eq_true] at hk1
    rcases hk1 with hk1 | hk1
    · obtain ⟨xs, lx, ix, hx, al⟩ := pr.tups fun p hp => hk1 _ (List.mem_map.mpr ⟨p, hp, rfl⟩)
      refine call_dict_pairsH (knd := nestedKind X.prog X.w) (ps := xs) P (I.ok.hd hc) (show X.A.in1.in1.units + 8 < cLine by show X.A.units + 1 + 1 + 8 < _; omega) ok ⟨lx.trans hn, fun i k v hr => ix i k v (hrel i k v hr)⟩ ?_ hnl fun h' tk hm hk' => ?_
      · intro h' hk' x hx'
        obtain ⟨hd, dd, rd', ek⟩ := hx x hx'
        have key := VR.key I rd' ek (u := .ref x.2.1) rfl
        refine ⟨?_, hd⟩
        have I2 : L2.Inv X pins σ H { s with heap := h' } := I.turnedL (t' := s.toks) (ch := s.heap.objs.size :: wr) (fun b ob hb e => hk' b ob (fun z => hb (by rw [z]; exact List.mem_cons_self)) (fun z => hb (List.mem_cons_of_mem _ z)) e) fun b hb => by
          rcases List.mem_cons.mp hb with rfl | hb
          · exact I.fpOk (Nat.le_refl _) hp
          · exact hwf b hb
        exact VR.key I2 rd' ek (u := .ref x.2.1) rfl
      · obtain ⟨ob, es, ep, ho, hc', hdt, he, _, _⟩ := hm
        refine fin h' tk es ep ⟨ob, ho, hc', hdt⟩ hk' ?_
        rw [he]
        exact AT.to_des (al .nil .nil)
    · obtain ⟨kvs, lx, ix, al⟩ := pr.leaf fun p hp => hk1 _ (List.mem_map.mpr ⟨p, hp, rfl⟩)
      refine call_dict_pairs (knd := mixKind X.prog X.w) (kvs := kvs) P (I.ok.hd hc) ok ⟨lx.trans hn, fun i k v hr => ix i k v (hrel i k v hr)⟩ hnl fun h' tk hm hk' => ?_
      obtain ⟨ob, es, ep, ho, hc', hdt, hkk, hpp, _⟩ := hm
      refine fin h' tk es ep ⟨ob, ho, hc', hdt⟩ hk' ?_
      exact AL.to_des (al .nil .nil) hpp fun e he => by
        obtain ⟨k, h1, h2⟩ := hkk e (by simpa using he)
        exact ⟨k, h1, h2⟩
  · cases hd
/-- dict(list of pairs) -/
theorem pairs_of {M : MF} {H : Hp} (I : L2.Inv X pins σ H s) : ∀ {ys : List D} {ps : List (D × D)} {vs : List V} {us : List Value}, pairsOf ys = some ps → VRs (bs X g) M H vs ys → Vals vs us →
    ∃ (Ts : List Addr) (qs : List (Value × Value)), us = Ts.map Value.ref ∧ Ts.length = qs.length ∧ PR (bs X g) M H qs ps ∧ ∀ (j : Nat) T p, Ts[j]? = some T → qs[j]? = some p → PairAt s.heap T p.1 p.2
  | [], ps, _, _, e, .nil, rv => by cases rv; simp [pairsOf] at e; subst e; exact ⟨[], [], rfl, rfl, .nil, by simp⟩
  | y :: ys, ps, _, _, e, .cons r t, rv => by
    cases rv with
    | cons ru rr =>
      unfold pairsOf at e
      split at e
      · rename_i heq; cases heq
      · rename_i k x r' heq
        cases heq
        simp only [Option.map_eq_some_iff] at e
        obtain ⟨ps', e', rfl⟩ := e
        obtain ⟨Ts, qs, rfl, hl, pr, at_⟩ := pairs_of I e' t rr
        obtain ⟨b, ws, rfl, sb, rb⟩ := r.tupI
        obtain ⟨v1, v2, rfl, r1, r2⟩ := rb.two
        cases (show _ = Value.ref b from ru)
        obtain ⟨its, rv, p, _⟩ := I.tuple sb
        obtain ⟨u1, u2, rfl, q1, q2⟩ := vals2 rv
        refine ⟨b :: Ts, (u1, u2) :: qs, rfl, by simp [hl], .cons q1 r1 q2 r2 pr, fun j T p' h1 h2 => ?_⟩
        cases j with
        | zero => simp at h1 h2; subst h1 h2; exact .inl p
        | succ j => exact at_ j T p' (by simpa using h1) (by simpa using h2)
      · cases e
theorem cr_dict (hc : X.calm = true) (hu : X.A.units + 70 < cLine) : CallR X (.type "dict") (rBlt (bs X g) m .dict) := by
  intro pins s σ H vs us Q I rv h
  obtain ⟨W, τ, M, S, xs, o, rs, h0⟩ := h
  obtain ⟨d, hd, h⟩ := Opt.inv h0
  clear h0
  unfold bltD at hd
  split at hd <;> try (rename_i h1; cases h1)
  all_goals first | (exfalso; simp at hd; done) | skip
  obtain ⟨v, rfl, r⟩ := rs.one
  split at hd
  · rename_i ys e
    obtain ⟨a, ws, rfl, sa, ra⟩ := VR.rdL o r e
    cases hp : pairsOf ys with
    | none => rw [hp] at hd; cases hd
    | some ps =>
      rw [hp] at hd
      simp only [Option.bind_some] at hd
      obtain ⟨u, rfl, q1⟩ := vals1 rv
      obtain rfl : u = Value.ref a := q1
      obtain ⟨its, rvs, hL, _⟩ := I.list (.inl sa)
      obtain ⟨Ts, qs, rfl, hl, pr, at_⟩ := pairs_of I hp ra rvs
      obtain ⟨ob, n, ho, hcl, hdd, hdt⟩ := hL
      refine dict_pairs (wr := []) (PairArg.list a (Ts.map Value.ref).toArray (fun j => Ts.getD j 0) qs) hc hu I ⟨⟨ob, n, ho, hcl, hdd, hdt⟩, by simp [hl], fun j k v hj => ?_⟩ o pr rfl (fun i k v hr => hr) (by simp) (by simp) hd h
      have hj' := (List.getElem?_eq_some_iff.mp hj).1
      have hT : Ts[j]? = some (Ts[j]'(by omega)) := by simp
      have eT : Ts.getD j 0 = Ts[j]'(by omega) := by simp [List.getD, hT]
      refine ⟨by simp [eT, show j < Ts.length by omega], ?_⟩
      show PairAt s.heap (Ts.getD j 0) k v
      rw [eT]
      exact at_ j _ (k, v) hT hj
  · cases hd
/-- dict(zip(x, y)) -/
def tDz (B : Bs) (m : Bool) (t : TA) : TE := fun σ H Q => t σ H fun vs H1 => rBlt B m .dictz vs H1 Q
theorem pe_dictz {e1 e2 : Expr} {ta : TA} {p p' pos pos' : Pos} (hc : X.calm = true) (hu : X.A.units + 70 < cLine) (hg1 : Gl X "dict") (hm1 : X.mg "dict" = none) (hg : Gl X "zip") (hm : X.mg "zip" = none) (ha : PA X [e1, e2] ta)
    (hs : starEach [e1, e2] X.env = (false, eval e1 X.env) :: starEach [e2] X.env := by rfl) (hpl : (backTo pos (starEach [e2] X.env)).any (·.1) = false := by rfl) :
    PE X (.Call (.Name "dict" p') [.Call (.Name "zip" p) [e1, e2] [] pos] [] pos') (tDz (bs X g) m ta) := by
  refine ⟨fun pins s σ H Q I h => ?_⟩
  refine Call_ (ld_blt I hg1 hm1 boot_dict (PyProof.Rows.callWith_type1 (args_cons (Call_ (ld_blt I hg hm PyProof.Rows.boot_zip (PyProof.Rows.callWith_type1 (thn (ha.run pos pins s σ H _ I h) fun us s1 ⟨vs, H1, I1, r1, q1⟩ => ?_) hs hpl)) rfl) rfl) rfl rfl))
  obtain ⟨W, τ, M, S, xs, o, rs, h0⟩ := q1
  obtain ⟨d, hd, h⟩ := Opt.inv h0
  clear h0
  unfold bltD at hd
  split at hd <;> try (rename_i h1; cases h1)
  all_goals first | (exfalso; simp at hd; done) | skip
  obtain ⟨v, v2, rfl, r, r2⟩ := rs.two
  split at hd
  · rename_i zs ws h1 h2
    obtain ⟨b, a, rfl, _, q⟩ := seq_at o r h1
    obtain ⟨b2, a2, rfl, _, q2⟩ := seq_at o r2 h2
    obtain ⟨l1, g1, g2⟩ := q M H1 S Later.refl o rfl
    obtain ⟨l2, g3, g4⟩ := q2 M H1 S Later.refl o rfl
    obtain ⟨u1, u2, rfl, ru, ru2⟩ := vals2 r1
    obtain rfl : u1 = Value.ref a := ru
    obtain rfl : u2 = Value.ref a2 := ru2
    obtain ⟨its, rv, p1, n1⟩ := seqB I1 g1
    obtain ⟨its2, rv2, p2, n2⟩ := seqB I1 g3
    refine zip_begins2 (begB b a its.toArray) (begB b2 a2 its2.toArray) p1 p2 fun h' hz hTI hTO k1 k2 hsz hk => args_nil ?_
    have I2 : L2.Inv X pins σ H1 { s1 with heap := h' } := I1.kept (t' := s1.toks) hk
    have fresh : ∀ c ∈ [s1.heap.objs.size + 4, s1.heap.objs.size + 3, s1.heap.objs.size, s1.heap.objs.size + 1], FpOk X pins H1 c := fun c hc => by
      have e' : c = s1.heap.objs.size + 4 ∨ c = s1.heap.objs.size + 3 ∨ c = s1.heap.objs.size ∨ c = s1.heap.objs.size + 1 := by simpa using hc
      have hle : s1.heap.objs.size ≤ c := by rcases e' with z | z | z | z <;> rw [z] <;> first | exact Nat.le_refl _ | exact Nat.le_add_right _ _
      exact I1.fpOk hle (I1.hok.fresh hle)
    refine dict_pairs (us := its.zip its2) (PairArg_zB b b2 s1.heap.objs.size a a2 n1 n2 its.toArray its2.toArray) hc hu I2 ⟨hz, hTI, ⟨_, _, hTO⟩, ItB.beg k1, ItB.beg k2, p1.at fun o e => hk _ o e, p2.at fun o e => hk _ o e⟩ o (PR.zip g2 rv g4 rv2) ?_ (fun i k v hr => ?_) (fun b hb => (fresh b hb).1) fresh hd h
    · simp
    · exact List.getElem?_zip_eq_some.mpr ⟨by simpa using hr.1, by simpa using hr.2⟩
  · cases hd
end
end QL
set_option Elab.async false
set_option linter.all false
set_option maxRecDepth 100000
set_option maxHeartbeats 4000000
/-! QL17: methods. -/
namespace QL
open PySem PySem.Spec L2
open PyProof.Rows hiding St
def RT.name : RT → String
  | .lst => "list" | .tup => "tuple" | .dct => "dict"
def Me.name : Me → Str
  | .append => "append" | .pop => "pop" | .get => "get" | .index => "index" | .items => "items" | .extend => "extend" | .join => "join" | .keys => "keys" | .values => "values"
def mId : RT → Me → Option String
  | .lst, .append => some "list.append" | .lst, .pop => some "list.pop" | .lst, .index => some "list.index" | .tup, .index => some "tuple.index" | .dct, .get => some "dict.get" | _, _ => none
theorem mId_facts {t : RT} {m : Me} {id : String} (h : mId t m = some id) : PlainAttrs t.name ∧ Slot t.name m.name id ∧ typeOf (.builtin id) = pure (.type "method_descriptor") := by
  cases t <;> cases m <;> simp only [mId] at h <;> cases h
  · exact ⟨F.plainAttrs_list, F.slot_list_append, F.type_list_append⟩
  · exact ⟨F.plainAttrs_list, F.slot_list_pop, F.type_list_pop⟩
  · exact ⟨F.plainAttrs_list, F.slot_list_index, F.type_list_index⟩
  · exact ⟨F.plainAttrs_tuple, F.slot_tuple_index, F.type_tuple_index⟩
  · exact ⟨F.plainAttrs_dict, F.slot_dict_get, F.type_dict_get⟩
def rMth (B : Bs) (t : RT) (m : Me) : V → List V → Hp → VK → Prop := fun v vs H Q => ∃ W σ M S x xs, OR B M H S ∧ VR B M H v x ∧ VRs B M H vs xs ∧ PostV B W σ M H (match mthD S t m x xs with
  | some (d, S) => .ok d S
  | none => .fail) Q
theorem mth_inv {B : Bs} {W : WX} {σ : L2.St} {M : MF} {H : Hp} {o : Option (D × Ob)} {Q : VK} (h : PostV B W σ M H (match o with
  | some (d, S) => .ok d S
  | none => .fail) Q) : ∃ d S, o = some (d, S) ∧ ∀ w H' M', Stp M H M' H' → OR B M' H' S → VR B M' H' w d → Q w H' := by
  cases o with
  | none => exact h.elim
  | some p => exact ⟨p.1, p.2, rfl, fun w H' M' a b c => h w H' M' a b c⟩
theorem VRs.dropLast {B : Bs} {M : MF} {H : Hp} {vs : List V} {ds : List D} (r : VRs B M H vs ds) : VRs B M H vs.dropLast ds.dropLast := by
  rw [List.dropLast_eq_take, List.dropLast_eq_take, r.length]
  exact r.take _
theorem VRs.erase {B : Bs} {M : MF} {H : Hp} : ∀ {vs : List V} {ds : List D} (i : Nat), VRs B M H vs ds → VRs B M H (vs.eraseIdx i) (ds.eraseIdx i)
  | _, _, _, .nil => .nil
  | _, _, 0, .cons _ t => t
  | _, _, i + 1, .cons r t => .cons r (VRs.erase i t)
theorem pds_get : ∀ (ys : List D) (j : Nat), (D.pds ys)[j]? = (ys[j]?).map D.pd
  | [], _ => by simp [D.pds]
  | y :: ys, 0 => by simp [D.pds]
  | y :: ys, j + 1 => by simp only [D.pds, List.getElem?_cons_succ]; exact pds_get ys j
theorem flats_get {ys : List D} (f : D.flats ys = true) {j : Nat} {y : D} (h : ys[j]? = some y) : y.flat = true := by
  induction ys generalizing j with
  | nil => simp at h
  | cons x xs ih =>
    simp only [D.flats, Bool.and_eq_true] at f
    cases j with
    | zero => simp at h; subst h; exact f.1
    | succ j => exact ih f.2 (by simpa using h)
section
variable {X : Cx} {g : Nat → Option Addr}
theorem and4 {a b c d : Bool} (h : (a && b && c && d) = true) : a = true ∧ b = true ∧ c = true ∧ d = true := by
  cases a <;> cases b <;> cases c <;> cases d <;> simp_all
theorem idx_inv {ys : List D} {x d : D} (h : idxD ys x = some d) : ∃ j z, d = .int (j : Nat) ∧ x.flat = true ∧ D.flats ys = true ∧ x.dep ≤ 60 ∧ D.deps ys ≤ 60 ∧ ys[j]? = some z ∧ z.eqv x = true ∧ ∀ m z', m < j → ys[m]? = some z' → z'.eqv x = false := by
  unfold idxD at h
  split at h
  · rename_i hf
    obtain ⟨f1, f2, f3, f4⟩ := and4 hf
    simp only [Option.map_eq_some_iff] at h
    obtain ⟨j, hj, rfl⟩ := h
    obtain ⟨h1, h2, h3⟩ := List.findIdx?_eq_some_iff_getElem.mp hj
    refine ⟨j, ys[j], rfl, f1, f2, Nat.le_of_ble_eq_true f3, Nat.le_of_ble_eq_true f4, by simp [h1], h2, fun m z' hm hz => ?_⟩
    have := h3 m hm
    obtain ⟨hl, e⟩ := List.getElem?_eq_some_iff.mp hz
    rw [e] at this
    simpa using this
  · cases h
theorem mt_all (hu : X.A.units + 70 < cLine) : ∀ {t : RT} {m : Me} {id : String}, mId t m = some id → MtR X id (rMth (bs X g) t m) := by
  intro t m id hid pins s σ H v vs vv us Q I rx rv h
  obtain ⟨W, τ, M, S, x, xs, o, r, rs, h0⟩ := h
  obtain ⟨d, S', hd, q⟩ := mth_inv h0
  clear h0
  unfold mthD at hd
  split at hd
  · -- append
    cases hid
    rename_i k x
    cases r with
    | ref hk =>
    rename_i a
    split at hd
    · rename_i ys e1
      split at hd
      · rename_i hl
        cases hd
        obtain ⟨w, rfl, rw'⟩ := rs.one
        cases o.at_ k _ _ e1 hk with
        | lst h1 h2 =>
          rename_i ws
          refine mt_append pins s σ H _ _ vv us Q I rx rv ⟨a, ws, w, rfl, rfl, h1, by rw [h2.length]; exact lim_lt hl, ?_⟩
          obtain ⟨st, o'⟩ := o.wrL (vs := ws) (xs := ys) hk (h2.append (.cons rw' .nil))
          exact q _ _ M st o' .non
      · cases hd
    · cases hd
  · -- pop
    cases hid
    rename_i k
    cases r with
    | ref hk =>
    rename_i a
    split at hd
    · rename_i ys e1
      simp only [Option.map_eq_some_iff] at hd
      obtain ⟨y, hy, e⟩ := hd
      cases e
      cases rs
      cases o.at_ k _ _ e1 hk with
      | lst h1 h2 =>
        rename_i ws
        obtain ⟨w, hw, rw'⟩ := h2.get hy
        refine mt_pop pins s σ H _ _ vv us Q I rx rv ⟨a, ws, w, rfl, rfl, h1, by rw [h2.length]; exact hw, ?_⟩
        obtain ⟨st, o'⟩ := o.wrL (vs := ws) (xs := ys) hk h2.dropLast
        exact q _ _ M st o' (rw'.step st)
    · cases hd
  · -- pop(i)
    cases hid
    rename_i k i
    cases r with
    | ref hk =>
    rename_i a
    split at hd
    · rename_i ys e1
      cases hj : ixOf ys.length i with
      | none => rw [hj] at hd; cases hd
      | some j =>
        rw [hj] at hd
        simp only [Option.bind_some, Option.map_eq_some_iff] at hd
        obtain ⟨y, hy, e⟩ := hd
        cases e
        obtain ⟨w0, rfl, rw0⟩ := rs.one
        cases rw0
        cases o.at_ k _ _ e1 hk with
        | lst h1 h2 =>
          rename_i ws
          obtain ⟨w, hw, rw'⟩ := h2.get hy
          obtain ⟨g1, g2, g3, g4⟩ := ixN_seq (show L2.ixN ys.length i = some j from hj)
          obtain ⟨z, _⟩ := I.hok a _ h1
          have hl := h2.length
          have hs := sizeLine_eq
          have hn := line63
          refine mt_popAt pins s σ H _ _ vv us Q I rx rv ⟨a, ws, i, j, w, rfl, rfl, h1, by omega, by omega, by rw [hl]; exact g1, hw, ?_⟩
          obtain ⟨st, o'⟩ := o.wrL (vs := ws) (xs := ys) hk (h2.erase j)
          exact q _ _ M st o' (rw'.step st)
    · cases hd
  · -- get
    cases hid
    rename_i od xk
    split at hd
    · rename_i ks ws e1
      split at hd
      · rename_i kk
        cases hd
        obtain ⟨w, rfl, rw'⟩ := rs.one
        obtain ⟨dd, es, ep, rfl, hdd, ns, _, de, nd, _⟩ := VR.rdD o r e1
        obtain rfl : vv = Value.ref dd := rx
        obtain ⟨u, rfl, ru⟩ := vals1 rv
        obtain ⟨ob, ho, hcx, hdt⟩ := Inv.rawD I hdd
        rcases keysOk_cases kk with ⟨k1, k2⟩ | ⟨k1, k2⟩
        · obtain ⟨a, nk, rfl, rfl, ek, his⟩ := key_tup I k1 rw' ru
          obtain ⟨ys, al, hm⟩ := dict_tup I hdd de nd k2
          refine call_meetsIn PySem.F.slot_dict_get ⟨ob, ho, hcx.1⟩ PySem.F.entry_dict_get (PySem.F.args_dict_get_2 _ _) (meetsH_dict_get (nestedKind X.prog X.w) dd a ns) ⟨show X.A.in1.units + 8 < cLine by show X.A.units + 1 + 8 < _; omega, nk, ys, his, hm, ?_⟩
          cases e : at? ks ws xk with
          | none =>
            rw [(al.look ek).2 e]; rw [e] at q
            exact ⟨.non, H, I.tok _, rfl, q _ _ M (Stp.refl _ _) o .non⟩
          | some z =>
            obtain ⟨b, uu, y, e1, r1, r2⟩ := (al.look ek).1 z e
            rw [e1]; rw [e] at q
            exact ⟨y, H, I.tok _, r1, q _ _ M (Stp.refl _ _) o r2⟩
        · obtain ⟨key, ek, his⟩ := key_leaf k1 rw' ru
          obtain ⟨kvs, al, hm⟩ := dict_flat I hdd de nd k2
          refine call_meetsIn PySem.F.slot_dict_get ⟨ob, ho, hcx.1⟩ PySem.F.entry_dict_get (PySem.F.args_dict_get_2 _ _) (meets_dict_get (mixKind X.prog X.w) dd his ns) ⟨_, hm.mapOf, ?_⟩
          cases e : at? ks ws xk with
          | none =>
            rw [show valueAt kvs key = none from (al.look ek).2 e]; rw [e] at q
            exact ⟨.non, H, I.tok _, rfl, q _ _ M (Stp.refl _ _) o .non⟩
          | some z =>
            obtain ⟨uu, y, e1, r1, r2⟩ := (al.look ek).1 z e
            rw [show valueAt kvs key = some uu from e1]; rw [e] at q
            exact ⟨y, H, I.tok _, r1, q _ _ M (Stp.refl _ _) o r2⟩
      · cases hd
    · cases hd
  · cases hid
    rename_i od xk xd
    split at hd
    · rename_i ks ws e1
      split at hd
      · rename_i kk
        cases hd
        obtain ⟨w, w2, rfl, rw', rw2⟩ := rs.two
        obtain ⟨dd, es, ep, rfl, hdd, ns, _, de, nd, _⟩ := VR.rdD o r e1
        obtain rfl : vv = Value.ref dd := rx
        obtain ⟨u, u2, rfl, ru, ru2⟩ := vals2 rv
        obtain ⟨ob, ho, hcx, hdt⟩ := Inv.rawD I hdd
        rcases keysOk_cases kk with ⟨k1, k2⟩ | ⟨k1, k2⟩
        · obtain ⟨a, nk, rfl, rfl, ek, his⟩ := key_tup I k1 rw' ru
          obtain ⟨ys, al, hm⟩ := dict_tup I hdd de nd k2
          refine call_meetsIn PySem.F.slot_dict_get ⟨ob, ho, hcx.1⟩ PySem.F.entry_dict_get (PySem.F.args_dict_get_3 _ _ _) (meetsH_dict_get_default (nestedKind X.prog X.w) dd a ns u2) ⟨show X.A.in1.units + 8 < cLine by show X.A.units + 1 + 8 < _; omega, nk, ys, his, hm, ?_⟩
          cases e : at? ks ws xk with
          | none =>
            rw [(al.look ek).2 e]; rw [e] at q
            exact ⟨_, H, I.tok _, ru2, q _ _ M (Stp.refl _ _) o rw2⟩
          | some z =>
            obtain ⟨b, uu, y, e1, r1, r2⟩ := (al.look ek).1 z e
            rw [e1]; rw [e] at q
            exact ⟨y, H, I.tok _, r1, q _ _ M (Stp.refl _ _) o r2⟩
        · obtain ⟨key, ek, his⟩ := key_leaf k1 rw' ru
          obtain ⟨kvs, al, hm⟩ := dict_flat I hdd de nd k2
          refine call_meetsIn PySem.F.slot_dict_get ⟨ob, ho, hcx.1⟩ PySem.F.entry_dict_get (PySem.F.args_dict_get_3 _ _ _) (meets_dict_get_default (mixKind X.prog X.w) dd his ns u2) ⟨_, hm.mapOf, ?_⟩
          cases e : at? ks ws xk with
          | none =>
            rw [show valueAt kvs key = none from (al.look ek).2 e]; rw [e] at q
            exact ⟨_, H, I.tok _, ru2, q _ _ M (Stp.refl _ _) o rw2⟩
          | some z =>
            obtain ⟨uu, y, e1, r1, r2⟩ := (al.look ek).1 z e
            rw [show valueAt kvs key = some uu from e1]; rw [e] at q
            exact ⟨y, H, I.tok _, r1, q _ _ M (Stp.refl _ _) o r2⟩
      · cases hd
    · cases hd
  · -- tuple.index
    cases hid
    rename_i ys x
    simp only [Option.map_eq_some_iff] at hd
    obtain ⟨dd, hd, e⟩ := hd
    cases e
    obtain ⟨j, z, rfl, f1, f2, p1, p2, hz, hzj, hno⟩ := idx_inv hd
    obtain ⟨w, rfl, rw'⟩ := rs.one
    obtain ⟨a, ws, rfl, sa, ra⟩ := r.tupI
    obtain rfl : vv = Value.ref a := rx
    obtain ⟨u, rfl, ru⟩ := vals1 rv
    obtain ⟨as, r1⟩ := Dp.reads I _ _ _ (rw'.dp f1) ru
    obtain ⟨its, rvs, ⟨⟨cls, dd, dt, sl⟩, ho, hc, n, hdt⟩, hlen⟩ := I.tuple sa
    simp only at hc hdt
    subst hc hdt
    obtain ⟨bs', h4⟩ := Dp.readsAll I _ ws its (ra.dp f2) rvs
    have hxs := pds_lay f2
    have hmap : its.map (SeqAt.readOf s.heap) = D.pds ys := SeqAt.readsAll_map _ its bs' hxs h4
    have hvl := rvs.length
    have hl2 := ra.length
    have hjl := (List.getElem?_eq_some_iff.mp hz).1
    have at_ : ∀ (m : Nat) (hm : m < its.toArray.size) (z' : D), ys[m]? = some z' → SeqAt.readOf s.heap its.toArray[m] = z'.pd := by
      intro m hm z' hz'
      have hml : m < its.length := by simpa using hm
      have e0 : (D.pds ys)[m]? = some z'.pd := by rw [pds_get, hz']; rfl
      rw [← hmap, List.getElem?_map, List.getElem?_eq_getElem hml] at e0
      have e1 : SeqAt.readOf s.heap its[m] = z'.pd := Option.some.inj e0
      simpa using e1
    have hroom : X.A.units + 1 + min (PyData.depthAll (D.pds ys)) x.pd.depth < cLine := by
      rw [pd_dep _ f1]; omega
    have hj : j < its.toArray.size := by simp only [List.size_toArray]; omega
    refine call_meets PySem.F.slot_tuple_index ⟨_, ho, rfl⟩ PySem.F.entry_tuple_index (PySem.F.args_tuple_index_2 _ _)
      (TI.tuple_indexAt a its.toArray n dd sl u (fun w => PyData.eqv (SeqAt.readOf s.heap w) x.pd) j hj ?_ ?_) ⟨ho, SeqAt.items_eqAt (vs := its.toArray) (show ReadsAll s.heap its.toArray.toList (D.pds ys) bs' from h4) r1 hxs (pd_lay f1) hroom, ?_⟩
    · show PyData.eqv (SeqAt.readOf s.heap its.toArray[j]) x.pd = true
      rw [at_ j hj z hz, pd_eqv _ _ (flats_get f2 hz) f1]
      exact hzj
    · intro m hm hmj
      have hmd : m < ys.length := by omega
      have hz' : ys[m]? = some ys[m] := List.getElem?_eq_getElem hmd
      show PyData.eqv (SeqAt.readOf s.heap its.toArray[m]) x.pd = false
      rw [at_ m hm _ hz', pd_eqv _ _ (flats_get f2 hz') f1]
      exact hno m _ hmj hz'
    · exact ⟨.int (j : Nat), H, I.tok _, ⟨_, rfl⟩, q _ _ M (Stp.refl _ _) o (.int _)⟩
  · -- list.index
    cases hid
    rename_i x
    split at hd
    · rename_i ys e0
      simp only [Option.map_eq_some_iff] at hd
      obtain ⟨dd, hd, e⟩ := hd
      cases e
      obtain ⟨j, z, rfl, f1, f2, p1, p2, hz, hzj, hno⟩ := idx_inv hd
      obtain ⟨w, rfl, rw'⟩ := rs.one
      obtain ⟨a, ws, rfl, sa, ra⟩ := VR.rdL o r e0
      refine mt_indexD (by omega) pins s σ H _ _ vv us Q I rx rv ⟨a, w, x.pd, D.pds ys, j, z.pd, rfl, rfl, .lst (.inl sa) (ra.dp f2), rw'.dp f1, ?_, ?_, by rw [pds_get, hz]; rfl, ?_, fun m z' hm hz' => ?_, q _ _ M (Stp.refl _ _) o (.int _)⟩
      · show (PyData.canLay0 (.list (D.pds ys)) && decide (PyData.depth (.list (D.pds ys)) ≤ 64)) = true
        rw [Bool.and_eq_true]
        refine ⟨by simp only [PyData.canLay0]; exact pds_lay f2, decide_eq_true ?_⟩
        simp only [PyData.depth]
        rw [pds_dep _ f2]; omega
      · show (PyData.canLay0 x.pd && decide (PyData.depth x.pd ≤ 64)) = true
        rw [Bool.and_eq_true]
        refine ⟨pd_lay f1, decide_eq_true ?_⟩
        rw [pd_dep _ f1]; omega
      · rw [pd_eqv _ _ (flats_get f2 hz) f1]; exact hzj
      · rw [pds_get] at hz'
        cases hy : ys[m]? with
        | none => rw [hy] at hz'; cases hz'
        | some y =>
          rw [hy] at hz'; cases hz'
          rw [pd_eqv _ _ (flats_get f2 hy) f1]
          exact hno m y hm hy
    · cases hd
  · cases hd
end
end QL
set_option Elab.async false
set_option linter.all false
set_option maxRecDepth 100000
set_option maxHeartbeats 4000000
/-! QL18: expressions, by parts. -/
namespace QL
open PySem PySem.Spec L2
open PyProof.Rows hiding St
def isBO : Expr → Bool
  | .BoolOp _ _ _ => true
  | _ => false
/-- an expression's function: as a value, as a test, as a test whatever its whole is -/
structure AX (B : Bs) (W : WX) (X : Cx) (e : Expr) (f : Den) : Prop where
  val : PE X e (tA B W f)
  tst : PT X e (tB (tA B W f))
  whl : isBO e = true → PW X e (tB (tA B W f))
theorem AX.of {B : Bs} {W : WX} {X : Cx} {e : Expr} {f : Den} (h : PE X e (tA B W f)) (he : ∀ whole, isTrue e X.env whole = (do let v ← whole; standAt e.pos; holding [v] (truthy v)) := by intro _; rfl) (hb : isBO e = false := by rfl) : AX B W X e f :=
  ⟨h, pt_val h he, fun z => by rw [hb] at z; cases z⟩
section
variable {B : Bs} {W : WX} {X : Cx} {f f1 f2 f3 : Den} {fs : DenL} {e a b c : Expr} {es : List Expr} {pos p : Pos}
theorem tA.ok {σ : L2.St} {H : Hp} {Q : VK} {ρ : Env} {S : Ob} {M : MF} (o : OR B M H S) (r : AR B M H σ ρ) (h : PostV B W σ M H (f ρ S) Q) : tA B W f σ H Q := ⟨ρ, S, M, o, r, h⟩
/-- nothing is said -/
theorem AX.bad : AX B W X e (fun _ _ => .fail) :=
  ⟨⟨fun _ _ _ _ _ _ h => by obtain ⟨_, _, _, _, _, h⟩ := h; exact h.elim⟩, ⟨fun _ _ _ _ _ _ h => by obtain ⟨_, _, _, _, _, h⟩ := h; exact h.elim⟩, fun _ => ⟨fun _ _ _ _ _ _ _ h => by obtain ⟨_, _, _, _, _, h⟩ := h; exact h.elim⟩⟩
theorem ax_var {i : Nat} {x : Str} (hN : X.N[i]? = some x) (hv : Vis X.env.scope x) (hd : (x == ("__debug__" : Str)) = false) (hcd : (x == ("__classdict__" : Str)) = false) : AX B W X (.Name x pos) (fun ρ S => match ρ[i]? with
    | some (some d) => .ok d S
    | _ => .fail) := by
  refine AX.of ((pe_var hN hv hd hcd).imp fun σ H Q h => ?_)
  obtain ⟨ρ, S, M, o, r, h⟩ := h
  dsimp only at h
  cases e : ρ[i]? with
  | none => rw [e] at h; exact h.elim
  | some od =>
    cases od with
    | none => rw [e] at h; exact h.elim
    | some d =>
      rw [e] at h
      obtain ⟨v, h1, h2⟩ := r.at_ i d e
      exact ⟨v, h1, h v H M (Stp.refl _ _) o h2⟩
/-- a constant -/
theorem ax_cst {d : D} {v : V} (h : PE X e (tC v)) (hr : ∀ M H, VR B M H v d) (he : ∀ whole, isTrue e X.env whole = (do let v ← whole; standAt e.pos; holding [v] (truthy v)) := by intro _; rfl) (hb : isBO e = false := by rfl) : AX B W X e (fun _ S => .ok d S) := by
  refine AX.of (h.imp fun σ H Q h => ?_) he hb
  obtain ⟨ρ, S, M, o, r, h⟩ := h
  exact h v H M (Stp.refl _ _) o (hr M H)
/-! ### argument lists -/
def isSt : Expr → Bool
  | .Starred _ _ => true
  | _ => false
theorem st_cons {e : Expr} {es : List Expr} {env : PySem.Env} (h : isSt e = false) : starEach (e :: es) env = (false, eval e env) :: starEach es env := by
  cases e <;> first | rfl | cases h
theorem st_plain {pos : Pos} {env : PySem.Env} : ∀ {es : List Expr}, es.all (fun e => !isSt e) = true → (backTo pos (starEach es env)).any (·.1) = false
  | [], _ => by rfl
  | e :: es, h => by
    rw [List.all_cons, Bool.and_eq_true] at h
    rw [st_cons (by simpa using h.1)]
    have ih := st_plain (pos := pos) (env := env) h.2
    show (false || (backTo pos (starEach es env)).any (·.1)) = false
    rw [ih]; rfl
theorem aa_nil : PA X [] (tAL B W (fun _ S => .ok [] S)) := by
  refine pa_nil.imp fun σ H Q h => ?_
  obtain ⟨ρ, S, M, o, r, h⟩ := h
  exact h [] H M (Stp.refl _ _) o .nil
theorem aa_cons (ha : PE X e (tA B W f)) (hr : PA X es (tAL B W fs)) (hs : isSt e = false) : PA X (e :: es) (tAL B W (fun ρ S => (f ρ S).bind fun d S => (fs ρ S).bind fun ds S => .ok (d :: ds) S)) := by
  refine (pa_cons ha hr (st_cons hs)).imp fun σ H Q h => ?_
  obtain ⟨ρ, S, M, o, r, h⟩ := h
  refine ⟨ρ, S, M, o, r, (Post.bind h).mono fun v H1 ⟨x, S1, M1, s1, o1, r1, h1⟩ => ?_⟩
  refine ⟨ρ, S1, M1, o1, r.step s1, (Post.bind h1).mono fun vs H2 ⟨xs, S2, M2, s2, o2, r2, h2⟩ => ?_⟩
  exact h2 (v :: vs) H2 M2 (Stp.refl _ _) o2 (.cons (r1.step s2) r2)
/-! ### displays -/
theorem VRs.lenOk {M : MF} {H : Hp} {vs : List V} {ds : List D} (r : VRs B M H vs ds) (h : ds.length ≤ sizeLine) : vs.length ≤ sizeLine := by rw [r.length]; exact h
theorem evs_len {W : WX} {fs : DenL} {σ : L2.St} {M : MF} {H : Hp} {ρ : Env} {S : Ob} {Q : List V → Hp → Prop} (h : PostL B W σ M H (fs ρ S) Q) {n : Nat} (hn : ∀ ds S', fs ρ S = .ok ds S' → ds.length ≤ n) : PostL B W σ M H (fs ρ S) (fun vs H' => vs.length ≤ n ∧ Q vs H') := by
  cases e : fs ρ S with
  | ok ds S' => rw [e] at h; exact fun v H' M' s o r => ⟨by rw [r.length]; exact hn _ _ e, h v H' M' s o r⟩
  | exc c x S' => rw [e] at h; exact h
  | fail => rw [e] at h; exact h.elim
theorem ax_tup {k : Nat} (hp : PA X es (tAL B W fs)) (hn : ∀ ρ S ds S', fs ρ S = .ok ds S' → ds.length ≤ sizeLine) : AX B W X (.Tuple es k pos) (fun ρ S => (fs ρ S).bind fun ds S => .ok (.tup ds) S) := by
  refine AX.of ((pe_tup hp).imp fun σ H Q h => ?_)
  obtain ⟨ρ, S, M, o, r, h⟩ := h
  refine ⟨ρ, S, M, o, r, (evs_len (Post.bind h) (hn ρ S)).mono fun vs H1 ⟨hl, xs, S1, M1, s1, o1, r1, h1⟩ => ⟨hl, fun p hp => ?_⟩⟩
  exact h1 _ _ M1 (Stp.new hp) (o1.new hp) (VR.newTup hp o1 r1)
theorem ax_lst {m : Bool} (hp : PA X es (tAL B W fs)) (hn : ∀ ρ S ds S', fs ρ S = .ok ds S' → ds.length ≤ sizeLine) : AX B W X (.List es pos) (fun ρ S => (fs ρ S).bind fun ds S => mkO m (.lst ds) S) := by
  refine AX.of ((pe_lst hp).imp fun σ H Q h => ?_)
  obtain ⟨ρ, S, M, o, r, h⟩ := h
  refine ⟨ρ, S, M, o, r, (evs_len (Post.bind h) (hn ρ S)).mono fun vs H1 ⟨hl, xs, S1, M1, s1, o1, r1, h1⟩ => ⟨hl, fun p hp => ?_⟩⟩
  exact mk_lst o1 hp r1 h1
/-! ### operations -/
theorem bin_post {r : Ob → D → D → Option D} {σ : L2.St} {H : Hp} {Q : VK} (h : tA B W (fun ρ S => (f1 ρ S).bind fun x S => (f2 ρ S).bind fun y S => Opt.res (r S x y) S) σ H Q) : tOp (rBin B r) (tA B W f1) (tA B W f2) σ H Q := by
  obtain ⟨ρ, S, M, o, ra, h⟩ := h
  refine ⟨ρ, S, M, o, ra, (Post.bind h).mono fun v H1 ⟨x, S1, M1, s1, o1, r1, h1⟩ => ?_⟩
  refine ⟨ρ, S1, M1, o1, ra.step s1, (Post.bind h1).mono fun u H2 ⟨y, S2, M2, s2, o2, r2, h2⟩ => ?_⟩
  cases e : r S2 x y with
  | none => rw [e] at h2; exact h2.elim
  | some d => rw [e] at h2; exact ⟨M2, S2, x, y, d, o2, r1.step s2, r2, e, fun w H' M' a b c => h2 w H' M' a b c⟩
end
section
variable {W : WX} {X : Cx} {g : Nat → Option Addr} {f f1 f2 f3 : Den} {fs : DenL} {e a b c : Expr} {es : List Expr} {pos p : Pos}
theorem ax_bin {o : BO} (ha : AX (bs X g) W X a f1) (hb : AX (bs X g) W X b f2) : AX (bs X g) W X (.BinOp a (boOp o) b pos) (fun ρ S => (f1 ρ S).bind fun x S => (f2 ρ S).bind fun y S => Opt.res (binD S o x y) S) :=
  AX.of ((pe_op (op_bin o) ha.val hb.val).imp fun σ H Q h => bin_post h)
theorem ax_cmp (hu : X.A.units + 70 < cLine) {o : CO} (ha : AX (bs X g) W X a f1) (hb : AX (bs X g) W X b f2) (hm : behindInMarks (coOp o) b = false) : AX (bs X g) W X (.Compare a [coOp o] [b] pos) (fun ρ S => (f1 ρ S).bind fun x S => (f2 ρ S).bind fun y S => Opt.res ((cmpD S o x y).map .bl) S) :=
  ⟨(pe_cmpR (op_cmp hu o) ha.val hb.val hm).imp fun σ H Q h => bin_post h, (pt_cmpR (op_cmp hu o) ha.val hb.val hm).imp fun σ H Q h => bin_post h, fun z => by cases z⟩
theorem chn_post {o o' : CO} {σ : L2.St} {H : Hp} {Q : VK} (h : tA (bs X g) W (fun ρ S => (f1 ρ S).bind fun x S => (f2 ρ S).bind fun y S => match cmpD S o x y with
    | some true => (f3 ρ S).bind fun z S => Opt.res ((cmpD S o' y z).map .bl) S
    | some false => .ok (.bl false) S
    | none => .fail) σ H Q) : tChain (rBin (bs X g) fun S x y => (cmpD S o x y).map .bl) (rBin (bs X g) fun S x y => (cmpD S o' x y).map .bl) (tA (bs X g) W f1) (tA (bs X g) W f2) (tA (bs X g) W f3) σ H Q := by
  obtain ⟨ρ, S, M, oo, ra, h⟩ := h
  refine ⟨ρ, S, M, oo, ra, (Post.bind h).mono fun v H1 ⟨x, S1, M1, s1, o1, r1, h1⟩ => ?_⟩
  refine ⟨ρ, S1, M1, o1, ra.step s1, (Post.bind h1).mono fun u H2 ⟨y, S2, M2, s2, o2, r2, h2⟩ => ?_⟩
  cases e : cmpD S2 o x y with
  | none => rw [e] at h2; exact h2.elim
  | some b =>
    refine ⟨M2, S2, x, y, .bl b, o2, r1.step s2, r2, by simp [e], fun w H' M' a b' c => ?_⟩
    cases c
    refine ⟨b, rfl, ?_⟩
    cases b with
    | false =>
      rw [e] at h2
      exact h2 _ _ M' a b' (.bl false)
    | true =>
      rw [e] at h2
      refine ⟨ρ, S2, M', b', (ra.step s1).step (s2.trans a), (Post.bind (Post.step h2 a)).mono fun w3 H3 ⟨z, S3, M3, s3, o3, r3, h3⟩ => ?_⟩
      cases e3 : (cmpD S3 o' y z).map D.bl with
      | none => rw [e3] at h3; exact h3.elim
      | some d => rw [e3] at h3; exact ⟨M3, S3, y, z, d, o3, (r2.step a).step s3, r3, e3, fun w H' M' a b c => h3 w H' M' a b c⟩
theorem ax_chn (hu : X.A.units + 70 < cLine) {o o' : CO} (ha : AX (bs X g) W X a f1) (hb : AX (bs X g) W X b f2) (hc : AX (bs X g) W X c f3) (hm : lastMarks [coOp o, coOp o'] [b, c] = false) :
    AX (bs X g) W X (.Compare a [coOp o, coOp o'] [b, c] pos) (fun ρ S => (f1 ρ S).bind fun x S => (f2 ρ S).bind fun y S => match cmpD S o x y with
    | some true => (f3 ρ S).bind fun z S => Opt.res ((cmpD S o' y z).map .bl) S
    | some false => .ok (.bl false) S
    | none => .fail) :=
  ⟨(pe_chain (op_cmp hu o) (op_cmp hu o') ha.val hb.val hc.val hm).imp fun σ H Q h => chn_post h, (pt_chain (op_cmp hu o) (op_cmp hu o') ha.val hb.val hc.val hm).imp fun σ H Q h => chn_post h, fun z => by cases z⟩
theorem ax_ix (hu : X.A.units + 70 < cLine) (ha : AX (bs X g) W X a f1) (hb : AX (bs X g) W X b f2) (hs : PlainIx b) : AX (bs X g) W X (.Subscript a b pos) (fun ρ S => (f1 ρ S).bind fun x S => (f2 ρ S).bind fun y S => Opt.res (ixD S x y) S) :=
  AX.of ((pe_ix (ix_d hu) ha.val hb.val hs).imp fun σ H Q h => bin_post h)
end
section
variable {B : Bs} {W : WX} {X : Cx} {f f1 f2 f3 : Den} {fs : DenL} {e a b c : Expr} {es : List Expr} {pos p : Pos}
theorem ax_neg (ha : AX B W X a f) : AX B W X (.UnaryOp .USub a pos) (fun ρ S => (f ρ S).bind fun x S => match x with
    | .int i => .ok (.int (-i)) S
    | _ => .fail) := by
  refine AX.of ((pe_un un_neg ha.val).imp fun σ H Q h => ?_)
  obtain ⟨ρ, S, M, o, r, h⟩ := h
  refine ⟨ρ, S, M, o, r, (Post.bind h).mono fun v H1 ⟨x, S1, M1, s1, o1, r1, h1⟩ => ?_⟩
  cases r1 <;> first | exact h1.elim | skip
  exact ⟨_, rfl, h1 _ _ M1 (Stp.refl _ _) o1 (.int _)⟩
/-! ### and, or, not -/
theorem test_post {k : Bool → Ob → Res D} {σ : L2.St} {M : MF} {H : Hp} {S : Ob} {ρ : Env} {Q : VK} (h : PostV B W σ M H ((f ρ S).bind fun x S => match x with
    | .bl b => k b S
    | _ => .fail) Q) : PostV B W σ M H (f ρ S) (fun v H1 => ∃ b S1 M1, v = .bl b ∧ Stp M H M1 H1 ∧ OR B M1 H1 S1 ∧ PostV B W σ M1 H1 (k b S1) Q) :=
  (Post.bind h).mono fun v H1 ⟨x, S1, M1, s1, o1, r1, h1⟩ => by
    cases r1 <;> first | exact h1.elim | skip
    exact ⟨_, S1, M1, rfl, s1, o1, h1⟩
theorem and_eq {x : D} {r1 r2 : Res D} : (match x with
    | .bl true => r1
    | .bl false => r2
    | _ => .fail) = (match x with
    | .bl b => if b = true then r1 else r2
    | _ => .fail) := by
  cases x <;> try rfl
  rename_i b
  cases b <;> rfl
theorem ax_not (ha : AX B W X a f) : AX B W X (.UnaryOp .Not a pos) (fun ρ S => (f ρ S).bind fun x S => match x with
    | .bl b => .ok (.bl (!b)) S
    | _ => .fail) := by
  refine ⟨(pe_not ha.val).imp fun σ H Q h => ?_, (pt_not ha.tst).imp fun σ H Q h => ?_, fun z => by cases z⟩
  · obtain ⟨ρ, S, M, o, r, h⟩ := h
    refine ⟨ρ, S, M, o, r, (test_post (k := fun b S => .ok (.bl (!b)) S) h).mono fun v H1 ⟨b, S1, M1, e, s1, o1, h1⟩ => ⟨b, e, ?_⟩⟩
    exact h1 _ _ M1 (Stp.refl _ _) o1 (.bl _)
  · obtain ⟨ρ, S, M, o, r, h⟩ := h
    refine ⟨ρ, S, M, o, r, (test_post (k := fun b S => .ok (.bl (!b)) S) h).mono fun v H1 ⟨b, S1, M1, e, s1, o1, h1⟩ => ⟨b, e, ?_⟩⟩
    obtain ⟨k, e1, q⟩ := h1 (.bl (!b)) _ M1 (Stp.refl _ _) o1 (.bl _)
    cases e1
    exact q
def fAnd (f1 f2 : Den) : Den := fun ρ S => (f1 ρ S).bind fun x S => match x with
    | .bl true => f2 ρ S
    | .bl false => .ok (.bl false) S
    | _ => .fail
def fOr (f1 f2 : Den) : Den := fun ρ S => (f1 ρ S).bind fun x S => match x with
    | .bl true => .ok (.bl true) S
    | .bl false => f2 ρ S
    | _ => .fail
theorem fAnd_post {ρ : Env} {S : Ob} {M : MF} {σ : L2.St} {H : Hp} {Q : VK} (h : PostV B W σ M H (fAnd f1 f2 ρ S) Q) : PostV B W σ M H (f1 ρ S) (fun v H1 => ∃ b S1 M1, v = .bl b ∧ Stp M H M1 H1 ∧ OR B M1 H1 S1 ∧ PostV B W σ M1 H1 (if b = true then f2 ρ S1 else .ok (.bl false) S1) Q) := by
  unfold fAnd at h
  simp only [and_eq] at h
  exact test_post h
theorem fOr_post {ρ : Env} {S : Ob} {M : MF} {σ : L2.St} {H : Hp} {Q : VK} (h : PostV B W σ M H (fOr f1 f2 ρ S) Q) : PostV B W σ M H (f1 ρ S) (fun v H1 => ∃ b S1 M1, v = .bl b ∧ Stp M H M1 H1 ∧ OR B M1 H1 S1 ∧ PostV B W σ M1 H1 (if b = true then .ok (.bl true) S1 else f2 ρ S1) Q) := by
  unfold fOr at h
  simp only [and_eq] at h
  exact test_post h
theorem and_v {σ : L2.St} {H : Hp} {Q : VK} (h : tA B W (fAnd f1 f2) σ H Q) : tAndV (tA B W f1) (tA B W f2) σ H Q := by
  obtain ⟨ρ, S, M, o, r, h⟩ := h
  refine ⟨ρ, S, M, o, r, (fAnd_post h).mono fun v H1 ⟨b, S1, M1, e, s1, o1, h1⟩ => ⟨b, e, ?_⟩⟩
  cases b with
  | true => exact ⟨ρ, S1, M1, o1, r.step s1, h1⟩
  | false => exact h1 _ _ M1 (Stp.refl _ _) o1 (.bl _)
theorem and_t {σ : L2.St} {H : Hp} {Q : Bool → Hp → Prop} (h : tB (tA B W (fAnd f1 f2)) σ H Q) : tAnd (tB (tA B W f1)) (tB (tA B W f2)) σ H Q := by
  obtain ⟨ρ, S, M, o, r, h⟩ := h
  refine ⟨ρ, S, M, o, r, (fAnd_post h).mono fun v H1 ⟨b, S1, M1, e, s1, o1, h1⟩ => ⟨b, e, ?_⟩⟩
  cases b with
  | true => exact ⟨ρ, S1, M1, o1, r.step s1, h1⟩
  | false =>
    obtain ⟨k, e1, q⟩ := h1 (.bl false) _ M1 (Stp.refl _ _) o1 (.bl _)
    cases e1
    exact q
theorem or_v {σ : L2.St} {H : Hp} {Q : VK} (h : tA B W (fOr f1 f2) σ H Q) : tOrV (tA B W f1) (tA B W f2) σ H Q := by
  obtain ⟨ρ, S, M, o, r, h⟩ := h
  refine ⟨ρ, S, M, o, r, (fOr_post h).mono fun v H1 ⟨b, S1, M1, e, s1, o1, h1⟩ => ⟨b, e, ?_⟩⟩
  cases b with
  | false => exact ⟨ρ, S1, M1, o1, r.step s1, h1⟩
  | true => exact h1 _ _ M1 (Stp.refl _ _) o1 (.bl _)
theorem or_t {σ : L2.St} {H : Hp} {Q : Bool → Hp → Prop} (h : tB (tA B W (fOr f1 f2)) σ H Q) : tOr (tB (tA B W f1)) (tB (tA B W f2)) σ H Q := by
  obtain ⟨ρ, S, M, o, r, h⟩ := h
  refine ⟨ρ, S, M, o, r, (fOr_post h).mono fun v H1 ⟨b, S1, M1, e, s1, o1, h1⟩ => ⟨b, e, ?_⟩⟩
  cases b with
  | false => exact ⟨ρ, S1, M1, o1, r.step s1, h1⟩
  | true =>
    obtain ⟨k, e1, q⟩ := h1 (.bl true) _ M1 (Stp.refl _ _) o1 (.bl _)
    cases e1
    exact q
theorem ax_and2 (ha : AX B W X a f1) (hb : AX B W X b f2) : AX B W X (.BoolOp .And [a, b] pos) (fAnd f1 f2) :=
  have w : PW X (.BoolOp .And [a, b] pos) (tB (tA B W (fAnd f1 f2))) := ⟨fun wh pins s σ H Q I h => (pw_and ha.tst (pw_and1 hb.tst)).run wh pins s σ H Q I (and_t h)⟩
  ⟨(pe_and ha.val (pe_one hb.val)).imp fun σ H Q h => and_v h, w.pt, fun _ => w⟩
theorem ax_andN {rest : List Expr} (ha : AX B W X a f1) (hb : AX B W X (.BoolOp .And (b :: rest) pos) f2) : AX B W X (.BoolOp .And (a :: b :: rest) pos) (fAnd f1 f2) :=
  have w : PW X (.BoolOp .And (a :: b :: rest) pos) (tB (tA B W (fAnd f1 f2))) := ⟨fun wh pins s σ H Q I h => (pw_and ha.tst (hb.whl rfl)).run wh pins s σ H Q I (and_t h)⟩
  ⟨(pe_and ha.val hb.val).imp fun σ H Q h => and_v h, w.pt, fun _ => w⟩
theorem ax_or2 (ha : AX B W X a f1) (hb : AX B W X b f2) : AX B W X (.BoolOp .Or [a, b] pos) (fOr f1 f2) :=
  have w : PW X (.BoolOp .Or [a, b] pos) (tB (tA B W (fOr f1 f2))) := ⟨fun wh pins s σ H Q I h => (pw_or ha.tst (pw_or1 hb.tst)).run wh pins s σ H Q I (or_t h)⟩
  ⟨(pe_or ha.val (pe_one hb.val)).imp fun σ H Q h => or_v h, w.pt, fun _ => w⟩
theorem ax_orN {rest : List Expr} (ha : AX B W X a f1) (hb : AX B W X (.BoolOp .Or (b :: rest) pos) f2) : AX B W X (.BoolOp .Or (a :: b :: rest) pos) (fOr f1 f2) :=
  have w : PW X (.BoolOp .Or (a :: b :: rest) pos) (tB (tA B W (fOr f1 f2))) := ⟨fun wh pins s σ H Q I h => (pw_or ha.tst (hb.whl rfl)).run wh pins s σ H Q I (or_t h)⟩
  ⟨(pe_or ha.val hb.val).imp fun σ H Q h => or_v h, w.pt, fun _ => w⟩
/-! ### a if t else b -/
def fIte (f1 f2 f3 : Den) : Den := fun ρ S => (f1 ρ S).bind fun x S => match x with
    | .bl true => f2 ρ S
    | .bl false => f3 ρ S
    | _ => .fail
theorem ite_p {σ : L2.St} {H : Hp} {Q : VK} (h : tA B W (fIte f1 f2 f3) σ H Q) : tB (tA B W f1) σ H (fun c H1 => if c = true then tA B W f2 σ H1 Q else tA B W f3 σ H1 Q) := by
  obtain ⟨ρ, S, M, o, r, h⟩ := h
  unfold fIte at h
  simp only [and_eq] at h
  refine ⟨ρ, S, M, o, r, (test_post (k := fun b S => if b = true then f2 ρ S else f3 ρ S) h).mono fun v H1 ⟨b, S1, M1, e, s1, o1, h1⟩ => ⟨b, e, ?_⟩⟩
  cases b with
  | true => exact ⟨ρ, S1, M1, o1, r.step s1, h1⟩
  | false => exact ⟨ρ, S1, M1, o1, r.step s1, h1⟩
theorem pt_ite {c a b : Expr} {tc ta tb : TT} (hc : PT X c tc) (ha : PT X a ta) (hb : PT X b tb) : PT X (.IfExp c a b pos) (fun σ H Q => tc σ H fun k H1 => if k = true then ta σ H1 Q else tb σ H1 Q) := by
  refine ⟨fun pins s σ H Q I h => ?_⟩
  show wpAny _ _ (do if ← isTrue c X.env (eval c X.env) then isTrue a X.env (eval a X.env) else isTrue b X.env (eval b X.env)) _ _ s
  refine wpAny_bind (thn (hc.run pins s σ H _ I h) fun d s1 ⟨H1, I1, q1⟩ => ?_)
  cases d with
  | true => exact ha.run pins s1 σ H1 Q I1 q1
  | false => exact hb.run pins s1 σ H1 Q I1 q1
theorem ax_ite (hc : AX B W X c f1) (ha : AX B W X a f2) (hb : AX B W X b f3) : AX B W X (.IfExp c a b pos) (fIte f1 f2 f3) := by
  refine ⟨(pe_ifExp hc.tst ha.val hb.val).imp fun σ H Q h => ite_p h, (pt_ite hc.tst ha.tst hb.tst).imp fun σ H Q h => ?_, fun z => by cases z⟩
  exact ite_p h
end
/-! ### slices -/
section
variable {W : WX} {X : Cx} {g : Nat → Option Addr} {f f1 f2 f3 : Den} {fs : DenL} {e a b c : Expr} {es : List Expr} {pos p : Pos}
def fOpt (f : Den) : Env → Ob → Res (Option D) := fun ρ S => (f ρ S).bind fun d S => .ok (some d) S
def tAO (B : Bs) (W : WX) (f : Env → Ob → Res (Option D)) : TO := fun σ H Q => ∃ ρ S M, OR B M H S ∧ AR B M H σ ρ ∧ Post B W σ M H (fun _ _ (x : Option Int) (y : Option D) => toInt? y = some x) ((f ρ S).bind ckI) Q
theorem ao_none : PO X none (tAO (bs X g) W (fun _ S => .ok none S)) := by
  refine ⟨fun pins s σ H Q I h => po_none.run pins s σ H Q I ?_⟩
  obtain ⟨ρ, S, M, o, r, h⟩ := h
  exact h none H M (Stp.refl _ _) o rfl
theorem ao_some (he : AX (bs X g) W X e f) : PO X (some e) (tAO (bs X g) W (fOpt f)) := by
  refine ⟨fun pins s σ H Q I h => (po_some he.val).run pins s σ H Q I ?_⟩
  obtain ⟨ρ, S, M, o, r, h⟩ := h
  unfold fOpt at h
  rw [Res.bind_assoc] at h
  refine ⟨ρ, S, M, o, r, (Post.bind h).mono fun v H1 ⟨x, S1, M1, s1, o1, r1, h1⟩ => ?_⟩
  cases r1 <;> first | exact h1.elim | skip
  exact ⟨_, rfl, h1 (some _) _ M1 (Stp.refl _ _) o1 rfl⟩
theorem ax_slc {lo hi : Option Expr} {fl fh : Env → Ob → Res (Option D)} (ha : AX (bs X g) W X a f1) (hl : PO X lo (tAO (bs X g) W fl)) (hh : PO X hi (tAO (bs X g) W fh)) :
    AX (bs X g) W X (.Subscript a (.Slice lo hi none p) pos) (fun ρ S => (f1 ρ S).bind fun x S => ((fl ρ S).bind ckI).bind fun l S => ((fh ρ S).bind ckI).bind fun h S => match toInt? l, toInt? h with
    | some l, some h => Opt.res (slcD S x l h) S
    | _, _ => .fail) := by
  refine AX.of ((pe_slice (slc_d (g := g)) ha.val hl hh).imp fun σ H Q h => ?_)
  obtain ⟨ρ, S, M, o, r, h⟩ := h
  refine ⟨ρ, S, M, o, r, (Post.bind h).mono fun v H1 ⟨x, S1, M1, s1, o1, r1, h1⟩ => ?_⟩
  refine ⟨ρ, S1, M1, o1, r.step s1, (Post.bind h1).mono fun l H2 ⟨ld, S2, M2, s2, o2, r2, h2⟩ => ?_⟩
  refine ⟨ρ, S2, M2, o2, (r.step s1).step s2, (Post.bind h2).mono fun u H3 ⟨hd, S3, M3, s3, o3, r3, h3⟩ => ?_⟩
  rw [r2, r3] at h3
  cases e : slcD S3 x l u with
  | none => simp only [e] at h3; exact h3.elim
  | some d => simp only [e] at h3; exact ⟨M3, S3, x, d, o3, (r1.step s2).step s3, e, fun w H' M' a b c => h3 w H' M' a b c⟩
end
end QL
set_option Elab.async false
set_option linter.all false
set_option maxRecDepth 100000
set_option maxHeartbeats 4000000
/-! QL19: calls of built-ins, what is walked. -/
namespace QL
open PySem PySem.Spec L2
open PyProof.Rows hiding St
section
variable {W : WX} {X : Cx} {g : Nat → Option Addr} {f f1 f2 f3 : Den} {fs : DenL} {e a b c : Expr} {es : List Expr} {pos p : Pos}
def fBlt (m : Bool) (b : Bi) (fs : DenL) : Den := fun ρ S => (fs ρ S).bind fun ds S => (Opt.res (bltD S b ds) S).bind fun d S => mkO m d S
theorem blt_post {m : Bool} {b : Bi} {σ : L2.St} {H : Hp} {Q : VK} (h : tA (bs X g) W (fBlt m b fs) σ H Q) : tAL (bs X g) W fs σ H (fun vs H1 => rBlt (bs X g) m b vs H1 Q) := by
  obtain ⟨ρ, S, M, o, r, h⟩ := h
  exact ⟨ρ, S, M, o, r, (Post.bind h).mono fun vs H1 ⟨xs, S1, M1, s1, o1, r1, h1⟩ => ⟨W, σ, M1, S1, xs, o1, r1, h1⟩⟩
theorem cr_blt (hc : X.calm = true) (hu : X.A.units + 70 < cLine) (hg : X.A.guards = some []) {m : Bool} {b : Bi} {v : Value} (hf : biF b = some v) : CallR X v (rBlt (bs X g) m b) := by
  by_cases h1 : b = .len
  · subst h1; cases hf; exact cr_len
  · by_cases h2 : b = .dict
    · subst h2; cases hf; exact cr_dict hc hu
    · exact cr_all' hc hu hg hf h1 h2
theorem ax_bltB (hc : X.calm = true) (hu : X.A.units + 70 < cLine) (hgd : X.A.guards = some []) {m : Bool} {b : Bi} {id : String} (hf : biF b = some (.builtin id)) {x : Str} (hg : Gl X x) (hm : X.mg x = none) (hv : bootBuiltins x = some (.builtin id)) (ha : PA X (e :: es) (tAL (bs X g) W fs))
    (hn : x ≠ "__name__") (hdb : (x == ("__debug__" : Str)) = false) (hs : (e :: es).all (fun e => !isSt e) = true) : AX (bs X g) W X (.Call (.Name x p) (e :: es) [] pos) (fBlt m b fs) := by
  have h2 := hs
  rw [List.all_cons, Bool.and_eq_true] at h2
  exact AX.of ((pe_callB (cr_blt hc hu hgd hf) hg hm hv ha hn hdb (st_cons (by simpa using h2.1)) (st_plain h2.2)).imp fun σ H Q h => blt_post h)
theorem ax_bltT (hc : X.calm = true) (hu : X.A.units + 70 < cLine) (hgd : X.A.guards = some []) {m : Bool} {b : Bi} {T : String} (hf : biF b = some (.type T)) {x : Str} (hg : Gl X x) (hm : X.mg x = none) (hv : bootBuiltins x = some (.type T)) (ha : PA X (e :: es) (tAL (bs X g) W fs))
    (hn : x ≠ "__name__") (hdb : (x == ("__debug__" : Str)) = false) (hs : (e :: es).all (fun e => !isSt e) = true) : AX (bs X g) W X (.Call (.Name x p) (e :: es) [] pos) (fBlt m b fs) := by
  have h2 := hs
  rw [List.all_cons, Bool.and_eq_true] at h2
  exact AX.of ((pe_callTy (cr_blt hc hu hgd hf) hg hm hv ha hn hdb (st_cons (by simpa using h2.1)) (st_plain h2.2)).imp fun σ H Q h => blt_post h)
theorem ax_gcd (hc : X.calm = true) (hu : X.A.units + 70 < cLine) (hgd : X.A.guards = some []) {m : Bool} {x : Str} (hg : Gl X x) (hm : X.mg x = some (.builtin "math.gcd")) (ha : PA X (e :: es) (tAL (bs X g) W fs))
    (hdb : (x == ("__debug__" : Str)) = false) (hs : (e :: es).all (fun e => !isSt e) = true) : AX (bs X g) W X (.Call (.Name x p) (e :: es) [] pos) (fBlt m .gcd fs) := by
  have h2 := hs
  rw [List.all_cons, Bool.and_eq_true] at h2
  exact AX.of ((pe_callBfun (cr_blt hc hu hgd rfl) hg hm ha hdb (st_cons (by simpa using h2.1)) (st_plain h2.2)).imp fun σ H Q h => blt_post h)
theorem ax_dictz (hc : X.calm = true) (hu : X.A.units + 70 < cLine) {m : Bool} {e1 e2 : Expr} {p' pos' : Pos} (hg1 : Gl X "dict") (hm1 : X.mg "dict" = none) (hg : Gl X "zip") (hm : X.mg "zip" = none) (ha : PA X [e1, e2] (tAL (bs X g) W fs)) (hs : [e1, e2].all (fun e => !isSt e) = true) :
    AX (bs X g) W X (.Call (.Name "dict" p') [.Call (.Name "zip" p) [e1, e2] [] pos] [] pos') (fBlt m .dictz fs) := by
  have h2 := hs
  rw [List.all_cons, Bool.and_eq_true] at h2
  exact AX.of ((pe_dictz (g := g) hc hu hg1 hm1 hg hm ha (st_cons (by simpa using h2.1)) (st_plain h2.2)).imp fun σ H Q h => blt_post h)

/-! ### methods -/
/-- the receiver is no call without arguments -/
def noCall : Expr → Bool
  | .Call _ [] [] _ => false
  | _ => true
theorem base_of {o : Expr} (h : noCall o = true) (m : Str) (env : PySem.Env) (w : Sem Value) : attributeBase o m env w = w := by
  cases o with
  | Call f as ks ps =>
    cases as with
    | nil =>
      cases ks with
      | nil => cases h
      | cons _ _ => cases f <;> rfl
    | cons _ _ => cases f <;> rfl
  | _ => rfl
def fMth (m : Me) (gl : Bool) (f : Den) (fs : DenL) : Den := fun ρ S => (f ρ S).bind fun x S => match rcv m gl (rd S x) with
    | some t => (fs ρ S).bind fun ds S => match mthD S t m x ds with
      | some (d, S) => .ok d S
      | none => .fail
    | none => .fail
theorem rcv_id {m : Me} {gl : Bool} {d : D} {t : RT} (h : rcv m gl d = some t) : ∃ id, mId t m = some id := by
  unfold rcv at h
  split at h <;> try (cases h; done)
  · cases h; exact ⟨_, rfl⟩
  · cases h; exact ⟨_, rfl⟩
  · cases h; exact ⟨_, rfl⟩
  · cases h; exact ⟨_, rfl⟩
  · split at h
    · cases h; exact ⟨_, rfl⟩
    · cases h
/-- what is asked of a tuple whose method is called -/
def TupK (X : Cx) (v : V) : Prop := ∃ a o, v = .ref a ∧ X.K.lookup a = some o ∧ o.cls = .type "tuple" ∧ o.dict = none
theorem rcv_ok {pins : List (Addr × Obj)} {σ : L2.St} {H : Hp} {s : Shared} {M : MF} {S : Ob} {v : V} {u : Value} {x : D} {m : Me} {gl : Bool} {t : RT} (I : L2.Inv X pins σ H s) (o : OR (bs X g) M H S) (r : VR (bs X g) M H v x) (ru : RelV v u) (h : rcv m gl (rd S x) = some t) (hk : t = .tup → TupK X v) :
    s.TypeIs u t.name ∧ ∀ a, u = .ref a → ∃ ob, s.heap.get? a = some ob ∧ ob.dict = none := by
  have lst : ∀ {ys}, rd S x = .lst ys → s.TypeIs u "list" ∧ ∀ a, u = .ref a → ∃ ob, s.heap.get? a = some ob ∧ ob.dict = none := fun {ys} e => by
    obtain ⟨a, vs, rfl, sa, _⟩ := VR.rdL o r e
    obtain rfl : u = Value.ref a := ru
    obtain ⟨its, _, p, _⟩ := I.list (.inl sa)
    refine ⟨p.isList.typeIs, fun b eb => ?_⟩
    cases eb
    obtain ⟨ob, n, e, c, hd, _⟩ := p
    exact ⟨ob, e, hd⟩
  cases e : rd S x with
  | lst ys =>
    have := lst e
    rw [e] at h
    cases m <;> simp only [rcv] at h <;> cases h <;> exact this
  | dct ks vs =>
    rw [e] at h
    cases m <;> simp only [rcv] at h <;> cases h
    obtain ⟨d, es, ep, rfl, hd, _⟩ := VR.rdD o r e
    obtain rfl : u = Value.ref d := ru
    obtain ⟨ob, ho, hc, _⟩ := Inv.rawD I hd
    exact ⟨⟨ob, ho, hc.1⟩, fun b eb => by cases eb; exact ⟨ob, ho, hc.2.1⟩⟩
  | tup ys =>
    rw [e] at h
    cases m <;> simp only [rcv] at h <;> try (cases h; done)
    cases gl <;> cases h
    obtain ⟨a, ob, rfl, ho, hc, hd⟩ := hk rfl
    obtain rfl : u = Value.ref a := ru
    exact ⟨⟨ob, I.kIn a ob ho, hc⟩, fun b eb => by cases eb; exact ⟨ob, I.kIn a ob ho, hd⟩⟩
  | _ => rw [e] at h; cases m <;> simp [rcv] at h
/-- few arguments -/
theorem few_of {pos : Pos} {env : PySem.Env} {es : List Expr} (h : es.all (fun e => !isSt e) = true) (hl : decide (es.length < 30) = true) : ((backTo pos (starEach es env)).all (fun x => !x.1) && (backToKw pos (keywordEach [] env)).all (fun x => x.1.isSome)
      && decide (es.length + ([] : List Keyword).length + (if ([] : List Keyword).isEmpty then 0 else 1) < 30)) = true := by
  have h1 : ∀ {es : List Expr}, es.all (fun e => !isSt e) = true → (backTo pos (starEach es env)).all (fun x => !x.1) = true := by
    intro es
    induction es with
    | nil => intro _; rfl
    | cons e es ih =>
      intro h
      rw [List.all_cons, Bool.and_eq_true] at h
      rw [st_cons (by simpa using h.1)]
      show (!false && (backTo pos (starEach es env)).all (fun x => !x.1)) = true
      rw [ih h.2]; rfl
  rw [h1 h]
  show (true && true && decide (es.length + 0 + 0 < 30)) = true
  simpa using hl
theorem args_mono {e : Expr} {es : List Expr} {env : PySem.Env} {pos : Pos} (h : isSt e = false) : backTo pos (starEach (e :: es) env) = (false, eval e env) :: backTo pos (starEach es env) ∨ True := .inr trivial
theorem ax_mth (hu : X.A.units + 70 < cLine) {m : Me} {gl : Bool} {o : Expr} {apos cpos : Pos} (ho : PE X o (tA (bs X g) W f)) (hk : gl = true → ∀ (pins : List (Addr × Obj)) (s : Shared) (σ : L2.St) (H : Hp) (Q : VK), L2.Inv X pins σ H s → tA (bs X g) W f σ H Q → wpAny (model X.prog X.w) X.A (eval o X.env) (EP X pins σ fun v H' => TupK X v ∧ Q v H') X.xe s)
    (ha : PA X es (tAL (bs X g) W fs)) (h0 : es = [] → fs = fun _ S => .ok [] S) (hb : noCall o = true) (hs : es.all (fun e => !isSt e) = true) (hl : decide (es.length < 30) = true) (hline : (apos.endLine == cpos.line) = true) :
    AX (bs X g) W X (.Call (.Attribute o m.name apos) es [] cpos) (fMth m gl f fs) := by
  refine AX.of ⟨fun pins s σ H Q I h => ?_⟩
  obtain ⟨ρ, S, M, oo, r, h⟩ := h
  have step : wpAny (model X.prog X.w) X.A (eval o X.env) (EP X pins σ fun v H1 => (gl = true → TupK X v) ∧ ∃ x S1 M1, Stp M H M1 H1 ∧ OR (bs X g) M1 H1 S1 ∧ VR (bs X g) M1 H1 v x ∧ PostV (bs X g) W σ M1 H1 (match rcv m gl (rd S1 x) with
    | some t => (fs ρ S1).bind fun ds S => match mthD S t m x ds with
      | some (d, S) => .ok d S
      | none => .fail
    | none => .fail) Q) X.xe s := by
    cases gl with
    | false => exact thn (ho.run pins s σ H _ I ⟨ρ, S, M, oo, r, Post.bind h⟩) fun u s1 ⟨v, H1, I1, r1, q⟩ => ⟨v, H1, I1, r1, (fun z => by cases z), q⟩
    | true => exact thn (hk rfl pins s σ H _ I ⟨ρ, S, M, oo, r, Post.bind h⟩) fun u s1 ⟨v, H1, I1, r1, q0, q⟩ => ⟨v, H1, I1, r1, (fun _ => q0), q⟩
  refine wpAny_Call_method_late (base_of hb _ _ _) (few_of hs hl) hline rfl (thn step fun u s1 ⟨v, H1, I1, rv, htk, x, S1, M1, st1, o1, r1, h1⟩ => ?_)
  cases e : rcv m gl (rd S1 x) with
  | none => rw [e] at h1; exact h1.elim
  | some t =>
    rw [e] at h1
    dsimp only at h1
    obtain ⟨id, hid⟩ := rcv_id e
    obtain ⟨pa, sl, ty⟩ := mId_facts hid
    obtain ⟨t1, t2⟩ := rcv_ok I1 o1 r1 rv e fun z => htk (by
      subst z
      cases gl with
      | true => rfl
      | false =>
        cases m <;> cases hd : rd S1 x <;> rw [hd] at e <;> simp [rcv] at e)
    refine ⟨t.name, id, pa, sl, ty, t1, t2, ?_⟩
    have fin : ∀ (us : List Value) (s2 : Shared) (vs : List V) (H2 : Hp), L2.Inv X pins σ H2 s2 → Vals vs us → rMth (bs X g) t m v vs H2 Q → wpAny (model X.prog X.w) X.A (call (.builtin id) (u :: us)) (EP X pins σ Q) X.xe s2 :=
      fun us s2 vs H2 I2 r2 q2 => mt_all hu hid pins s2 σ H2 v vs u us Q I2 rv r2 q2
    have hP := Post.bind (rel := VRs (bs X g)) h1
    cases es with
    | nil =>
      refine Calls.callWith_builtin rfl (PySem.evalArgs_none ?_)
      have e0 := h0 rfl
      subst e0
      exact fin [] s1 [] H1 I1 .nil ⟨W, σ, M1, S1, x, [], o1, r1, .nil, h1⟩
    | cons e0 es0 =>
      have h2 := hs
      rw [List.all_cons, Bool.and_eq_true] at h2
      have hse := st_cons (env := X.env) (es := es0) (show isSt e0 = false by simpa using h2.1)
      have hA := ha.run cpos pins s1 σ H1 _ I1 ⟨ρ, S1, M1, o1, r.step st1, hP⟩
      rw [hse] at hA ⊢
      refine Calls.callWith_builtin (by show (false || (backTo cpos (starEach es0 X.env)).any (·.1)) = false; rw [st_plain h2.2] <;> rfl) (Calls.evalArgs_plain ?_)
      exact thn hA fun us s2 ⟨vs, H2, I2, r2, ds, S2, M2, st2, o2, q2, h2⟩ => fin us s2 vs H2 I2 r2 ⟨W, σ, M2, S2, x, ds, o2, r1.step st2, q2, h2⟩
end
end QL
set_option Elab.async false
set_option linter.all false
set_option maxRecDepth 100000
set_option maxHeartbeats 4000000
/-! QL20: iterables; comprehensions. -/
namespace QL
open PySem PySem.Spec L2
open PyProof.Rows hiding St
abbrev DenI := Env → Ob → Res (List D × List (Nat × AO))
def fIt (w : It1) (fs : DenL) : DenI := fun ρ S => itOf w (fs ρ S)
abbrev relI (B : Bs) : MF → Hp → It → List D × List (Nat × AO) → Prop := fun M H J p => Walks B J p.1 p.2 M H
def iA (B : Bs) (W : WX) (f : DenI) : TI := fun σ H R => ∃ ρ S M, OR B M H S ∧ AR B M H σ ρ ∧ Post B W σ M H (relI B) (f ρ S) R
section
variable {W : WX} {X : Cx} {g : Nat → Option Addr} {f : Den} {fs : DenL} {e a b c tg : Expr} {es : List Expr} {pos p : Pos}
theorem it_post {w : It1} {ρ : Env} {S : Ob} {M : MF} {σ : L2.St} {H : Hp} {R : It → Hp → Prop} (h : Post (bs X g) W σ M H (relI (bs X g)) (fIt w fs ρ S) R) : PostL (bs X g) W σ M H (fs ρ S) (fun vs H1 => rIt (bs X g) w vs H1 R) := by
  unfold fIt itOf at h
  refine (Post.bind h).mono fun vs H1 ⟨xs, S1, M1, s1, o1, r1, h1⟩ => ?_
  cases e : itD S1 w xs with
  | none => rw [e] at h1; exact h1.elim
  | some ys => rw [e] at h1; exact ⟨M1, S1, xs, ys, o1, r1, e, fun J H' M' a b w' => h1 J H' M' a b w'⟩
theorem ai_val (he : PE X e (tA (bs X g) W f)) : PI X tg e (iA (bs X g) W (fIt .val fun ρ S => (f ρ S).bind fun d S => (Res.ok [] S).bind fun ds S => .ok (d :: ds) S)) := by
  refine ⟨fun pins s σ H R I h => ?_⟩
  obtain ⟨ρ, S, M, o, r, h⟩ := h
  have h := it_post h
  refine thn (he.run pins s σ H _ I ⟨ρ, S, M, o, r, (Post.bind (rel := VR (bs X g)) h)⟩) fun u s1 ⟨v, H1, I1, rv, x, S1, M1, st1, o1, r1, h1⟩ => ?_
  exact iter_val (g := g) pins s1 σ H1 v u R I1 rv (h1 [v] H1 M1 (Stp.refl _ _) o1 (.cons r1 .nil))
theorem ai_call {T : String} {w : It1} (hi : IterC X tg T (rIt (bs X g) w)) {x : Str} (hg : Gl X x) (hm : X.mg x = none) (hv : bootBuiltins x = some (.type T)) (ha : PA X (e :: es) (tAL (bs X g) W fs)) (hn : x ≠ "__name__") (hdb : (x == ("__debug__" : Str)) = false) (hs : (e :: es).all (fun e => !isSt e) = true) :
    PI X tg (.Call (.Name x p) (e :: es) [] pos) (iA (bs X g) W (fIt w fs)) := by
  refine ⟨fun pins s σ H R I h => ?_⟩
  obtain ⟨ρ, S, M, o, r, h⟩ := h
  have h2 := hs
  rw [List.all_cons, Bool.and_eq_true] at h2
  refine Call_ (ld_blt I hg hm hv (PyProof.Rows.callWith_type1 (thn (ha.run pos pins s σ H _ I ⟨ρ, S, M, o, r, it_post h⟩) fun us s1 ⟨vs, H1, I1, r1, q1⟩ => hi pins s1 σ H1 vs us R I1 r1 q1) (st_cons (by simpa using h2.1)) (st_plain h2.2)) hn hdb)
theorem ai_items {elts : List Expr} {kk : Nat} {tpos apos cpos : Pos} (he : PE X e (tA (bs X g) W f)) (hb : noCall e = true) (hline : (apos.endLine == cpos.line) = true) :
    PI X (.Tuple elts kk tpos) (.Call (.Attribute e "items" apos) [] [] cpos) (iA (bs X g) W (fIt .items fun ρ S => (f ρ S).bind fun d S => (Res.ok [] S).bind fun ds S => .ok (d :: ds) S)) := by
  refine ⟨fun pins s σ H R I h => ?_⟩
  obtain ⟨ρ, S, M, o, r, h⟩ := h
  have h := it_post h
  refine wpAny_Call_method (T := "dict") (id := "dict.items") (base_of hb _ _ _) rfl hline F.plainAttrs_dict F.slot_dict_items F.type_dict_items (thn (he.run pins s σ H _ I ⟨ρ, S, M, o, r, (Post.bind (rel := VR (bs X g)) h)⟩) fun u s1 ⟨v, H1, I1, rv, x, S1, M1, st1, o1, r1, h1⟩ => ?_)
  obtain ⟨M2, S2, xs, ys, o2, r2, e2, q⟩ := h1 [v] H1 M1 (Stp.refl _ _) o1 (.cons r1 .nil)
  unfold itD at e2
  split at e2 <;> try (rename_i h1; cases h1)
  all_goals first | (exfalso; simp at e2; done) | skip
  rename_i ks vs
  cases e2
  cases r2 with
  | cons r3 t =>
  cases t
  obtain ⟨d, es, ep, rfl, hd, hs, hr, w⟩ := walk_di r3 (gs := guards S2 [.dct ks vs])
  obtain rfl : u = Value.ref d := rv
  have q := q _ H1 M2 (Stp.refl _ _) o2 w
  have hraw := Inv.rawD I1 hd
  obtain ⟨ob, ho, hx, hdt⟩ := id hraw
  refine ⟨⟨ob, ho, hx.1⟩, fun b z => by cases z; exact ⟨ob, ho, hx.2.1⟩, ?_⟩
  have I2 : L2.Inv X pins σ H1 { s1 with heap := s1.heap.push { cls := .type "dict_items", data := .fields #[.ref d] } } := I1.kept (t' := s1.toks) fun b ob q => Heap.get?_push_of_some _ q
  have hlt : d < (s1.heap.push { cls := .type "dict_items", data := .fields #[.ref d] }).objs.size := by rw [Heap.size_push]; exact Nat.lt_succ_of_lt (Heap.lt_size ho)
  have fin : wpAny (model X.prog X.w) X.A (pyIter (.ref s1.heap.objs.size)) (PIE X pins σ (.Tuple elts kk tpos) R) X.xe { s1 with heap := s1.heap.push { cls := .type "dict_items", data := .fields #[.ref d] } } := by
    refine wpAny_pyIter_items_raw (d := d) (es := es) (ep := ep) ⟨_, Heap.get?_push_size _ rfl, rfl, rfl⟩ (hraw.at fun o e => Heap.get?_push_of_some _ e) (pi_one (tk := s1.toks) I2 _ (turn_di hlt hr) ⟨.none, .none, ?_⟩ q)
    exact Heap.get?_push_size _ rfl
  show wpAny _ _ (callWith cpos (.builtin "dict.items") [.ref d] [] []) _ X.xe s1
  exact method_meetsIn F.slot_dict_items F.entry_dict_items rfl (PySem.evalArgs_none ⟨rfl, ⟨ob, ho, hx.1⟩, F.args_dict_items_1 _, _, meets_dict_items_raw d hs, ⟨es, ep, hraw⟩, fin⟩)
/-- nothing is said -/
theorem ai_bad : PI X tg e (iA (bs X g) W (fun _ _ => .fail)) := ⟨fun _ _ _ _ _ _ h => by obtain ⟨_, _, _, _, _, h⟩ := h; exact h.elim⟩

end

/-! ### a list taken apart -/
section
variable {prog : Program} {w : World} {A : Around} {E : Value → Shared → Prop} {s : Shared}
theorem draw_list {it t : Addr} {items : Array Value} (hne : t ≠ it) : ∀ (n i : Nat) (s : Shared) (Q : List Value → Shared → Prop), s.heap.IsListIter it t i → s.heap.IsList t items → i + n ≤ items.size →
    (∀ h', h'.IsListIter it t (i + n) → Heap.SameBut it s.heap h' → Q ((items.toList.drop i).take n) { s with heap := h' }) → wpAny (model prog w) A (draw (.ref it) n) Q E s
  | 0, i, s, Q, hit, _, _, hQ => by
    show wpAny _ _ (pure []) Q E s
    exact wpAny_pure (by simpa using hQ s.heap hit (Heap.SameBut.refl ..))
  | n + 1, i, s, Q, hit, ht, hle, hQ => by
    have hlt : i < items.size := by omega
    show wpAny _ _ (pyNext (.ref it) >>= _) Q E s
    refine wpAny_bind (wpAny_pyNext_list_item hit ht (x := items[i]) (by simp [hlt]) fun h₁ hit₁ hs₁ => ?_)
    refine wpAny_bind (wpAny_holding (draw_list hne n (i + 1) _ _ hit₁ (ht.extBut hs₁.extBut hne) (by omega) fun h₂ hit₂ hs₂ => wpAny_pure ?_))
    have hd : items.toList.drop i = items[i] :: items.toList.drop (i + 1) := by simp [List.drop_eq_getElem_cons, hlt]
    have := hQ h₂ (by rw [show i + (n + 1) = i + 1 + n by omega]; exact hit₂) (hs₁.trans hs₂)
    rw [hd, List.take_succ_cons] at this
    exact this
theorem unpackItems_list {t : Addr} {items : Array Value} {Q : List Value → Shared → Prop} (hh : A.handled = none) (ht : s.heap.IsList t items)
    (hQ : ∀ h', Heap.ExtBut s.heap.objs.size s.heap h' → Q items.toList { s with heap := h' }) : wpAny (model prog w) A (unpackItems (.ref t) items.size none) Q E s := by
  have hlt : t ≠ s.heap.objs.size := by obtain ⟨o, ho, _⟩ := ht; exact Nat.ne_of_lt (Heap.lt_size ho)
  unfold unpackItems
  refine wpAny_bind ?_
  · unfold notIterableAtAll
    refine wpAny_bind (wpAny_specialOf ht.typeIs F.slot_list_iter.lookup ?_)
    refine wpAny_pure ?_
    simp only [Bool.false_eq_true, if_false]
    refine wpAny_bind (wpAny_holding (wpAny_pyIter_list ht ?_))
    refine wpAny_bind (wpAny_holding (draw_list hlt items.size 0 _ _ ⟨_, Heap.get?_push_size _ rfl, rfl, rfl⟩ (ht.push _) (by omega) fun h₁ hit₁ hs₁ => ?_))
    have hall : List.take items.size (List.drop 0 items.toList) = items.toList := by
      rw [List.drop_zero]; exact List.take_of_length_le (by simp)
    rw [hall]
    rw [if_neg (by simp)]
    have ht₁ : h₁.IsList t items := (ht.push _).extBut hs₁.extBut hlt
    refine wpAny_bind (wpAny_holding (wpAny_pyNext_list_end hh hit₁ ht₁ (by simp) fun h₂ he₂ => ?_))
    simp only [Option.isSome_none, Bool.false_eq_true, if_false]
    refine wpAny_pure (hQ h₂ fun b o hb e => he₂ b o hb (hs₁.extBut b o hb (Heap.get?_push_of_some _ e)))
theorem assign_Tuple_list {env : PySem.Env} {elts : List Expr} {x1} {pos : Pos} {t : Addr} {items : Array Value} {Q : Unit → Shared → Prop} (hh : A.handled = none) (ht : s.heap.IsList t items)
    (hn : (assignEach elts env).length = items.size) (hstar : (assignEach elts env).findIdx? (·.1) = none)
    (h : ∀ h', Heap.ExtBut s.heap.objs.size s.heap h' → wpAny (model prog w) A (assignInOrder ((assignEach elts env).map (·.2)) items.toList) Q E { s with heap := h' }) :
    wpAny (model prog w) A (assign (.Tuple elts x1 pos) env (.ref t)) Q E s := by
  rw [PyProof.Rows.assign_Tuple]
  refine wpAny_bind (wpAny_standAt ?_)
  unfold unpack
  rw [hn, hstar]
  exact wpAny_bind (wpAny_holding (unpackItems_list hh ht h))
end
/-- a tuple or a list taken apart -/
def gSeq (K : PySem.W.Frag) (n : Nat) (t : TGs) : TG := fun v σ H Q => ∃ b a xs, v = .ref a ∧ SqB K b H a xs ∧ xs.length = n ∧ t xs σ H Q
theorem pg_seq {X : Cx} {es : List Expr} {k : Nat} {pos : Pos} {t : TGs} {n : Nat} (hc : X.calm = true) (h : PGs X es t)
    (hn : (assignEach es X.env).length = n) (hst : (assignEach es X.env).findIdx? (·.1) = none) : PG X (.Tuple es k pos) (gSeq X.K n t) := by
  refine ⟨fun pins s σ H v u Q I r hw => ?_⟩
  obtain ⟨b, a, xs, e1, hq, hl, hw⟩ := hw
  subst e1
  cases r
  obtain ⟨its, rv, ht, hz⟩ := seqB I hq
  cases b with
  | true =>
    refine PyProof.Rows.assign_Tuple_tuple (I.ok.hd hc) ht (by simp [hn, ← hl, rv.length]) hst fun h' hx => ?_
    have I1 : L2.Inv X pins σ H { s with heap := h' } := I.kept (t' := s.toks) fun b o e => hx b o (Nat.ne_of_lt (Heap.lt_size e)) e
    exact h.run pins _ σ H xs _ Q I1 (by simpa using rv) hw
  | false =>
    refine assign_Tuple_list (I.ok.hd hc) ht (by simp [hn, ← hl, rv.length]) hst fun h' hx => ?_
    have I1 : L2.Inv X pins σ H { s with heap := h' } := I.kept (t' := s.toks) fun b o e => hx b o (Nat.ne_of_lt (Heap.lt_size e)) e
    exact h.run pins _ σ H xs _ Q I1 (by simpa using rv) hw

/-! ### targets -/
/-- what a text's names are -/
structure CC where
  N : List Str
  sc : Scope
  fn : Str → Bool
structure OkC (c : CC) (X : Cx) : Prop where
  N : X.N = c.N
  sc : X.env.scope = c.sc
  fn : ∀ x, c.fn x = true → X.fn x = true
  nd : X.N.Nodup
  calm : X.calm = true
def strB (x y : Str) : Bool := decide (x = y)
def isLoc (c : CC) (x : Str) : Bool := match c.sc.names.lookup x with
  | some .local => true
  | some .cell => c.fn x
  | _ => false
def isVis (c : CC) (x : Str) : Bool := match c.sc.names.lookup x with
  | some .local => true
  | some .cell => true
  | some .free => true
  | _ => false
def slotIs (c : CC) (i : Nat) (x : Str) : Bool := match c.N[i]? with
  | some y => decide (y = x)
  | none => false
mutual
def chkT (c : CC) : Tg → Expr → Bool
  | .nm i, .Name x _ => slotIs c i x && isLoc c x
  | .tp ts, .Tuple es _ _ => chkTs c ts es
  | _, _ => false
def chkTs (c : CC) : List Tg → List Expr → Bool
  | [], [] => true
  | t :: ts, e :: es => !isSt e && chkT c t e && chkTs c ts es
  | _, _ => false
end
theorem asgEach_cons {e : Expr} {es : List Expr} {env : PySem.Env} (h : isSt e = false) : assignEach (e :: es) env = (false, assign e env) :: assignEach es env := by
  cases e <;> first | rfl | cases h
def gA (B : Bs) (t : Tg) : TG := fun v σ H Q => ∃ ρ M S x ρ', OR B M H S ∧ AR B M H σ ρ ∧ VR B M H v x ∧ asgTg t x ρ = some ρ' ∧ ∀ σ', AR B M H σ' ρ' → σ'.length = σ.length → (∀ j, j ∉ tgIx t → σ'[j]? = σ[j]?) → Q σ' H
def gAs (B : Bs) (ts : List Tg) : TGs := fun vs σ H Q => ∃ ρ M S xs ρ', OR B M H S ∧ AR B M H σ ρ ∧ VRs B M H vs xs ∧ asgTgs ts xs ρ = some ρ' ∧ ∀ σ', AR B M H σ' ρ' → σ'.length = σ.length → (∀ j, j ∉ tgIxs ts → σ'[j]? = σ[j]?) → Q σ' H
theorem _root_.L2.PG.imp {X : Cx} {e : Expr} {t t' : TG} (h : PG X e t) (i : ∀ v σ H Q, t' v σ H Q → t v σ H Q) : PG X e t' := ⟨fun pins s σ H v u Q I r q => h.run pins s σ H v u Q I r (i v σ H Q q)⟩
theorem _root_.L2.PGs.imp {X : Cx} {e : List Expr} {t t' : TGs} (h : PGs X e t) (i : ∀ v σ H Q, t' v σ H Q → t v σ H Q) : PGs X e t' := ⟨fun pins s σ H v u Q I r q => h.run pins s σ H v u Q I r (i v σ H Q q)⟩
theorem each_len {env : PySem.Env} {c : CC} : ∀ {ts : List Tg} {es : List Expr}, chkTs c ts es = true → (assignEach es env).length = ts.length ∧ (assignEach es env).findIdx? (·.1) = none
  | [], [], _ => ⟨rfl, rfl⟩
  | [], _ :: _, h => by simp [chkTs] at h
  | _ :: _, [], h => by simp [chkTs] at h
  | t :: ts, e :: es, h => by
    simp only [chkTs, Bool.and_eq_true] at h
    obtain ⟨⟨h1, h2⟩, h3⟩ := h
    obtain ⟨a, b⟩ := each_len (env := env) h3
    rw [asgEach_cons (by simpa using h1)]
    refine ⟨by simp [a], ?_⟩
    rw [List.findIdx?_cons]
    simp [b]
section
variable {B : Bs} {X : Cx} {c : CC}
mutual
theorem pg_of (hB : B.K = X.K) (ok : OkC c X) : ∀ {t : Tg} {e : Expr}, chkT c t e = true → PG X e (gA B t)
  | .nm i, e, h => by
    cases e <;> simp only [chkT] at h <;> try (cases h; done)
    rename_i x pos
    rw [Bool.and_eq_true] at h
    obtain ⟨h1, h2⟩ := h
    have hN : X.N[i]? = some x := by
      unfold slotIs at h1
      rw [ok.N]
      cases e : c.N[i]? with
      | none => rw [e] at h1; cases h1
      | some y => rw [e] at h1; rw [of_decide_eq_true h1]
    have hl : L2.Loc X.env.scope x ∧ (X.fn x = true ∨ X.env.scope.names.lookup x = some .local) := by
      unfold isLoc at h2
      unfold L2.Loc
      rw [ok.sc]
      cases e : c.sc.names.lookup x with
      | none => rw [e] at h2; cases h2
      | some k =>
        rw [e] at h2
        cases k <;> first | (cases h2; done) | skip
        · exact ⟨.inl rfl, .inr rfl⟩
        · exact ⟨.inr rfl, .inl (ok.fn x h2)⟩
    refine (pg_name ok.nd hN hl.1 hl.2).imp fun v σ H Q h => ?_
    obtain ⟨ρ, M, S, d, ρ', o, r, q, e, k⟩ := h
    simp only [asgTg, Option.some.injEq] at e
    subst e
    refine k _ (r.set q i) (by rw [List.length_set]) fun j hj => ?_
    rw [List.getElem?_set_ne]
    exact fun z => hj (by simp [tgIx, z])
  | .tp ts, e, h => by
    cases e <;> simp only [chkT] at h <;> try (cases h; done)
    rename_i es k pos
    obtain ⟨l1, l2⟩ := each_len (env := X.env) h
    refine (pg_seq ok.calm (pgs_of hB ok h) l1 l2).imp fun v σ H Q h => ?_
    obtain ⟨ρ, M, S, d, ρ', o, r, q, e, k⟩ := h
    have fin : ∀ {xs : List D} {b : Bool} {a : Addr} {vs : List V}, v = .ref a → SqB X.K b H a vs → VRs B M H vs xs → asgTgs ts xs ρ = some ρ' → gSeq X.K ts.length (gAs B ts) v σ H Q := by
      intro xs b a vs ev sa ra e
      have hlen : xs.length = ts.length := by
        have : ∀ {ts : List Tg} {xs : List D} {ρ ρ' : Env}, asgTgs ts xs ρ = some ρ' → xs.length = ts.length := by
          intro ts
          induction ts with
          | nil => intro xs ρ ρ' e; cases xs <;> simp [asgTgs] at e; rfl
          | cons t ts ih =>
            intro xs ρ ρ' e
            cases xs with
            | nil => simp [asgTgs] at e
            | cons x xs =>
              simp only [asgTgs, Option.bind_eq_some_iff] at e
              obtain ⟨_, _, e⟩ := e
              simp [ih e]
        exact this e
      exact ⟨b, a, vs, ev, sa, by rw [ra.length]; exact hlen, ρ, M, S, xs, ρ', o, r, ra, e, fun σ' r' l' k' => k σ' r' l' (fun j hj => k' j (by simpa [tgIx] using hj))⟩
    cases d <;> simp only [asgTg] at e <;> try (cases e; done)
    · obtain ⟨a, vs, ev, sa, ra⟩ := q.tupI
      rw [hB] at sa
      exact fin (b := true) ev sa ra e
    · obtain ⟨a, vs, ev, sa, ra⟩ := q.lstI
      exact fin (b := false) ev (.inl sa) ra e
theorem pgs_of (hB : B.K = X.K) (ok : OkC c X) : ∀ {ts : List Tg} {es : List Expr}, chkTs c ts es = true → PGs X es (gAs B ts)
  | [], es, h => by
    cases es <;> simp only [chkTs] at h <;> try (cases h; done)
    refine pgs_nil.imp fun vs σ H Q h => ?_
    obtain ⟨ρ, M, S, xs, ρ', o, r, q, e, k⟩ := h
    cases xs <;> simp only [asgTgs] at e <;> try (cases e; done)
    cases e
    cases q
    exact ⟨rfl, k σ r rfl fun _ _ => rfl⟩
  | t :: ts, es, h => by
    cases es <;> simp only [chkTs] at h <;> try (cases h; done)
    rename_i e es
    simp only [Bool.and_eq_true] at h
    obtain ⟨⟨h1, h2⟩, h3⟩ := h
    refine (pgs_cons (pg_of hB ok h2) (pgs_of hB ok h3) (by rw [asgEach_cons (by simpa using h1)]; rfl)).imp fun vs σ H Q h => ?_
    obtain ⟨ρ, M, S, xs, ρ', o, r, q, e, k⟩ := h
    cases xs <;> simp only [asgTgs] at e <;> try (cases e; done)
    rename_i x xs
    cases q with
    | cons q1 q2 =>
    rename_i v vs
    simp only [Option.bind_eq_some_iff] at e
    obtain ⟨ρ1, e1, e2⟩ := e
    refine ⟨v, vs, rfl, ρ, M, S, x, ρ1, o, r, q1, e1, fun σ1 r1 l1 k1 => ⟨ρ1, M, S, xs, ρ', o, r1, q2, e2, fun σ2 r2 l2 k2 => k σ2 r2 (l2.trans l1) fun j hj => ?_⟩⟩
    simp only [tgIxs, List.mem_append, not_or] at hj
    rw [k2 j hj.2, k1 j hj.1]
end
end
/-- slots outside vs as they were -/
theorem wipe_eq {σ σ' : L2.St} (hl : σ'.length = σ.length) : ∀ {vs : List Nat}, (∀ j, j ∉ vs → σ'[j]? = σ[j]?) → wipe σ' vs = wipe σ vs := by
  intro vs h
  apply List.ext_getElem?
  intro j
  by_cases hj : j ∈ vs
  · have key : ∀ {τ : L2.St} {vs : List Nat}, j ∈ vs → (wipe τ vs)[j]? = if j < τ.length then some none else none := by
      intro τ vs
      induction vs with
      | nil => intro h; cases h
      | cons v vs ih =>
        intro h
        unfold wipe
        by_cases hv : v = j
        · subst hv
          rw [List.getElem?_set]
          simp [wipe_length]
        · rw [List.getElem?_set_ne hv]
          exact ih ((List.mem_cons.mp h).resolve_left fun z => hv z.symm)
    rw [key hj, key hj, hl]
  · rw [wipe_out hj, wipe_out hj, h j hj]
theorem AR.wipe {B : Bs} {M : MF} {H : Hp} {σ : L2.St} {ρ : Env} (r : AR B M H σ ρ) : ∀ vs : List Nat, AR B M H (L2.wipe σ vs) (wipeE ρ vs)
  | [] => r
  | v :: vs => by unfold L2.wipe wipeE; exact (AR.wipe r vs).clear v none
end QL
set_option Elab.async false
set_option linter.all false
set_option maxRecDepth 100000
set_option maxHeartbeats 4000000
/-! QL21: comprehensions. -/
namespace QL
open PySem PySem.Spec L2
open PyProof.Rows hiding St
/-- it comes to a value, of which K is true -/
def RP {α : Type} (r : Res α) (K : α → Ob → Prop) : Prop := match r with
  | .ok a S => K a S
  | _ => False
theorem RP.bind {α β : Type} {r : Res α} {f : α → Ob → Res β} {K : β → Ob → Prop} (h : RP (r.bind f) K) : RP r fun x S => RP (f x S) K := by
  cases r <;> exact h
theorem RP.bindN {α β : Type} {r : Res α} {f : α → Ob → Res β} {K : β → Ob → Prop} (h : RP (r.bindN f) K) : RP r fun x S => RP (f x S) K := by
  cases r <;> exact h
theorem RP.mono {α : Type} {r : Res α} {K K' : α → Ob → Prop} (h : RP r K) (k : ∀ x S, K x S → K' x S) : RP r K' := by
  cases r <;> first | exact k _ _ h | exact h
abbrev Wn : WX := fun _ _ _ _ => False
theorem RP.post {α β : Type} {B : Bs} {rel : MF → Hp → β → α → Prop} {r : Res α} {K : α → Ob → Prop} (h : RP r K) (σ : L2.St) (M : MF) (H : Hp) : Post B Wn σ M H rel r (fun v H' => ∃ x S' M', Stp M H M' H' ∧ OR B M' H' S' ∧ rel M' H' v x ∧ K x S') := by
  cases r with
  | ok a S => exact fun v H' M' a1 a2 a3 => ⟨_, _, M', a1, a2, a3, h⟩
  | exc _ _ _ => exact h.elim
  | fail => exact h.elim
theorem lcL_ne {gs : List (Nat × AO)} {st : D → Ob → Res (Option D)} : ∀ {xs : List D} {acc : List D} {S : Ob} {c v S'}, lcL gs st xs acc S ≠ .exc c v S'
  | [], acc, S, c, v, S', h => by unfold lcL at h; split at h <;> cases h
  | x :: xs, acc, S, c, v, S', h => by
    unfold lcL at h
    split at h
    · cases e : st x S with
      | ok a S1 => rw [e] at h; exact lcL_ne h
      | exc _ _ _ => rw [e] at h; cases h
      | fail => rw [e] at h; cases h
    · cases h
theorem lc2L_ne {gs : List (Nat × AO)} {st : D → List D → Ob → Res (List D)} : ∀ {xs : List D} {acc : List D} {S : Ob} {c v S'}, lc2L gs st xs acc S ≠ .exc c v S'
  | [], acc, S, c, v, S', h => by unfold lc2L at h; split at h <;> cases h
  | x :: xs, acc, S, c, v, S', h => by
    unfold lc2L at h
    split at h
    · cases e : st x acc S with
      | ok a S1 => rw [e] at h; exact lc2L_ne h
      | exc _ _ _ => rw [e] at h; cases h
      | fail => rw [e] at h; cases h
    · cases h
theorem dcL_ne {gs : List (Nat × AO)} {st : D → Ob → Res (Option (D × D))} : ∀ {xs : List D} {ks vs : List D} {S : Ob} {c v S'}, dcL gs st xs ks vs S ≠ .exc c v S'
  | [], ks, vs, S, c, v, S', h => by unfold dcL at h; split at h <;> cases h
  | x :: xs, ks, vs, S, c, v, S', h => by
    unfold dcL at h
    split at h
    · cases e : st x S with
      | ok a S1 =>
        rw [e] at h
        simp only [Res.bindN_ok] at h
        cases a with
        | none => exact dcL_ne h
        | some p =>
          simp only at h
          split at h
          · exact dcL_ne h
          · cases h
      | exc _ _ _ => rw [e] at h; cases h
      | fail => rw [e] at h; cases h
    · cases h
theorem RP.of_post {α : Type} {B : Bs} {W : WX} {σ : L2.St} {M : MF} {H : Hp} {β : Type} {rel : MF → Hp → β → D → Prop} {r : Res α} {k : α → Ob → Res D} {Q : β → Hp → Prop} (h : Post B W σ M H rel (r.bind k) Q) (ne : ∀ c v S', r ≠ .exc c v S') : RP r fun x S => Post B W σ M H rel (k x S) Q := by
  cases r with
  | ok a S => exact h
  | exc c v S => exact absurd rfl (ne c v S)
  | fail => exact h.elim

/-! ### a list in the making -/
section
variable {B : Bs} {M M' : MF} {H : Hp} {p : Addr} {f0 : List Addr}
mutual
theorem VR.mut (hf : M.f = p :: f0) (hm : M'.m = M.m ++ [p]) (hf' : M'.f = f0) : ∀ {v : V} {d : D}, VR B M H v d → VR B M' H v d
  | _, _, .non => .non
  | _, _, .bl b => .bl b
  | _, _, .int i => .int i
  | _, _, .str x => .str x
  | _, _, .ty n => .ty n
  | _, _, .gl e => .gl e
  | _, _, .ref e => .ref (by rw [hm, List.getElem?_append_left (List.getElem?_eq_some_iff.mp e).1]; exact e)
  | _, _, .tup e n r => .tup e (mut_out hf hm hf' n) (VRs.mut hf hm hf' r)
  | _, _, .ktup e r => .ktup e (VRs.mut hf hm hf' r)
  | _, _, .lst e n r => .lst e (mut_out hf hm hf' n) (VRs.mut hf hm hf' r)
  | _, _, .dct e n y z r nd kk => .dct e (mut_out hf hm hf' n) y z (DEs.mut hf hm hf' r) nd kk
theorem VRs.mut (hf : M.f = p :: f0) (hm : M'.m = M.m ++ [p]) (hf' : M'.f = f0) : ∀ {v : List V} {d : List D}, VRs B M H v d → VRs B M' H v d
  | _, _, .nil => .nil
  | _, _, .cons r t => .cons (VR.mut hf hm hf' r) (VRs.mut hf hm hf' t)
theorem DEs.mut (hf : M.f = p :: f0) (hm : M'.m = M.m ++ [p]) (hf' : M'.f = f0) : ∀ {es : List DictEntry} {k v : List D}, DEs B M H es k v → DEs B M' H es k v
  | _, _, _, .nil => .nil
  | _, _, _, .cons a b r t e q => .cons a b (VR.mut hf hm hf' r) (VR.mut hf hm hf' t) e (DEs.mut hf hm hf' q)
theorem mut_out (hf : M.f = p :: f0) (hm : M'.m = M.m ++ [p]) (hf' : M'.f = f0) {a : Addr} (n : M.out a) : M'.out a := by
  refine ⟨fun z => ?_, fun z => n.2 (by rw [hf]; exact List.mem_cons_of_mem _ (by rw [← hf']; exact z))⟩
  rw [hm] at z
  rcases List.mem_append.mp z with z | z
  · exact n.1 z
  · exact n.2 (by rw [hf, List.mem_singleton.mp z]; exact List.mem_cons_self)
end
end
/-- within a comprehension: its own object at p -/
structure CS (B : Bs) (M1 : MF) (H1 : Hp) (p : Addr) (M : MF) (H : Hp) (S : Ob) : Prop where
  or : OR B M H S
  f : M.f = p :: M1.f
  lat : Later B M1 H1 M H
  stp : Stp M1 H1 ⟨M.m, M1.f⟩ H
  nd : H1 p = none
  nf : p ∉ M1.f
section
variable {B : Bs} {M1 M M' : MF} {H1 H H' : Hp} {p : Addr} {S S' : Ob}
theorem CS.start {o : HO} (r : OR B M1 H1 S) (h : H1 p = none) : CS B M1 H1 p (M1.add p) (upd H1 p o) S :=
  ⟨r.addF h, rfl, Later.addF h, ⟨rfl, ⟨[], by simp [MF.add], by simp⟩, fun b u _ e => by rw [upd_ne (ne_of_none e h)]; exact e⟩, h, (r.fresh h).2⟩
theorem CS.step (c : CS B M1 H1 p M H S) (s : Stp M H M' H') (o : OR B M' H' S') : CS B M1 H1 p M' H' S' := by
  refine ⟨o, s.fen.trans c.f, c.lat.trans (Later.of_stp s), c.stp.trans ?_, c.nd, c.nf⟩
  obtain ⟨_, ⟨L, e, hL⟩, k⟩ := s
  exact ⟨rfl, ⟨L, e, hL⟩, k⟩
theorem CS.here (c : CS B M1 H1 p M H S) (s : Stp M H M' H') {o : HO} (e : H p = some o) : H' p = some o := s.keep p o (c.or.fen p (by rw [c.f]; exact List.mem_cons_self)).1 e
theorem CS.wr {o : HO} (c : CS B M1 H1 p M H S) : CS B M1 H1 p M (upd H p o) S ∧ Later B M H M (upd H p o) := by
  have hp : p ∈ M.f := by rw [c.f]; exact List.mem_cons_self
  refine ⟨⟨c.or.fenW hp, c.f, c.lat.trans (Later.fen hp), ⟨c.stp.fen, ?_, fun b u n e => ?_⟩, c.nd, c.nf⟩, Later.fen hp⟩
  · obtain ⟨L, e, hL⟩ := c.stp.ext
    exact ⟨L, e, hL⟩
  · rw [upd_ne (ne_of_none e c.nd)]; exact c.stp.keep b u n e
variable {W : WX} {σ : L2.St} {Q : VK} {m : Bool}
theorem CS.out (c : CS B M1 H1 p M H S) : p ∉ M.m ∧ p ∉ M1.f := ⟨(c.or.fen p (by rw [c.f]; exact List.mem_cons_self)).1, c.nf⟩
theorem CS.newM (c : CS B M1 H1 p M H S) {u : AO} (hu : ORo B ⟨M.m ++ [p], M1.f⟩ H p u) : Stp M1 H1 ⟨M.m ++ [p], M1.f⟩ H ∧ OR B ⟨M.m ++ [p], M1.f⟩ H (S ++ [u]) ∧ VR B ⟨M.m ++ [p], M1.f⟩ H (.ref p) (.ref S.length) := by
  have o := c.or
  have np := c.out.1
  refine ⟨⟨rfl, ?_, c.stp.keep⟩, ⟨by simp [o.len], List.nodup_append.mpr ⟨o.nd, by simp, fun a ha b hb => by rw [List.mem_singleton.mp hb]; exact fun z => np (by rw [← z]; exact ha)⟩, fun a ha => ?_, fun j w a h1 h2 => ?_⟩, .ref ?_⟩
  · obtain ⟨L, e, hL⟩ := c.stp.ext
    refine ⟨L ++ [p], by show M.m ++ [p] = _; rw [show M.m = _ from e, List.append_assoc], fun q hq => ?_⟩
    rcases List.mem_append.mp hq with hq | hq
    · exact hL q hq
    · rw [List.mem_singleton.mp hq]
      exact ⟨fun z => np (by rw [show M.m = _ from e]; exact List.mem_append_left _ z), c.nd⟩
  · have ha' : a ∈ M.f := by rw [c.f]; exact List.mem_cons_of_mem _ ha
    refine ⟨fun z => ?_, (o.fen a ha').2⟩
    rcases List.mem_append.mp z with z | z
    · exact (o.fen a ha').1 z
    · exact c.nf (by rw [← List.mem_singleton.mp z]; exact ha)
  · by_cases hj : j < S.length
    · rw [List.getElem?_append_left hj] at h1
      change (M.m ++ [p])[j]? = some a at h2
      rw [List.getElem?_append_left (by rw [o.len]; exact hj)] at h2
      cases o.at_ j w a h1 h2 with
      | lst h q => exact .lst h (q.mut (M' := ⟨M.m ++ [p], M1.f⟩) c.f rfl rfl)
      | dct h y z q nd kk => exact .dct h y z (q.mut (M' := ⟨M.m ++ [p], M1.f⟩) c.f rfl rfl) nd kk
    · have ej : j = S.length := by
        have := (List.getElem?_eq_some_iff.mp h1).1
        simp at this; omega
      subst ej
      simp at h1
      change (M.m ++ [p])[S.length]? = some a at h2
      rw [← o.len] at h2
      simp at h2
      subst h1 h2
      exact hu
  · show (M.m ++ [p])[S.length]? = some p
    rw [← o.len]; simp
theorem CS.sub (c : CS B M1 H1 p M H S) : ∀ a, a ∉ M.f → a ∉ (⟨M.m, M1.f⟩ : MF).f := fun a h z => h (by rw [c.f]; exact List.mem_cons_of_mem _ z)
theorem CS.lst {us : List V} {ds : List D} (c : CS B M1 H1 p M H S) (e : H p = some (.lst us)) (r : VRs B M H us ds) (h : PostV B W σ M1 H1 (mkO m (.lst ds) S) Q) : Q (.ref p) H := by
  cases m with
  | false =>
    refine h _ H ⟨M.m, M1.f⟩ c.stp (c.or.drop rfl fun a z => by rw [c.f]; exact List.mem_cons_of_mem _ z) (.lst (.inl e) ⟨c.out.1, c.nf⟩ (r.sub (M := M) (M' := ⟨M.m, M1.f⟩) rfl c.sub))
  | true =>
    obtain ⟨h1, h2, h3⟩ := c.newM (u := .lst ds) (.lst e (r.mut (M' := ⟨M.m ++ [p], M1.f⟩) c.f rfl rfl))
    exact h _ _ _ h1 h2 h3
theorem CS.dct {es : Array DictEntry} {ep : Nat} {ks vs : List D} (c : CS B M1 H1 p M H S) (e : H p = some (DictO p es ep)) (ns : (p == sysModules) = false) (sz : es.size ≤ sizeLine) (r : DEs B M H es.toList ks vs) (nd : ks.Nodup) (kk : keysOk ks = true) (h : PostV B W σ M1 H1 (mkO m (.dct ks vs) S) Q) : Q (.ref p) H := by
  cases m with
  | false =>
    refine h _ H ⟨M.m, M1.f⟩ c.stp (c.or.drop rfl fun a z => by rw [c.f]; exact List.mem_cons_of_mem _ z) (.dct e ⟨c.out.1, c.nf⟩ ns sz (r.sub (M := M) (M' := ⟨M.m, M1.f⟩) rfl c.sub) nd kk)
  | true =>
    obtain ⟨h1, h2, h3⟩ := c.newM (u := .dct ks vs) (.dct e ns sz (r.mut (M' := ⟨M.m ++ [p], M1.f⟩) c.f rfl rfl) nd kk)
    exact h _ _ _ h1 h2 h3
end
/-! ### the loops -/
abbrev relB : MF → Hp → Bool → Bool → Prop := fun _ _ x y => x = y
def tAC (B : Bs) (f : Env → Ob → Res Bool) : TT := fun σ H Q => ∃ ρ S M, OR B M H S ∧ AR B M H σ ρ ∧ Post B Wn σ M H relB (f ρ S) Q
def stpL (tg : Tg) (fc : Env → Ob → Res Bool) (fe : Den) (ρ0 : Env) : D → Ob → Res (Option D) := fun x S => match asgTg tg x ρ0 with
  | some ρ1 => (fc ρ1 S).bind fun b S => if b then (fe ρ1 S).bind fun d S => .ok (some d) S else .ok none S
  | none => .fail
section
variable {B : Bs} {M1 M0 : MF} {H1 H0 : Hp} {p : Addr} {S0 : Ob} {J : It} {ys : List D} {gs : List (Nat × AO)} {tg : Tg} {fc : Env → Ob → Res Bool} {fe : Den} {σ : L2.St} {ρ : Env} {vs : List Nat} {ds0 : List D} {us0 : List V} {K : List D → Ob → Prop} {Fin : Hp → Prop}
theorem lc_loop (c0 : CS B M1 H1 p M0 H0 S0) (wk : Walks B J ys gs M0 H0) (ar : AR B M0 H0 σ ρ) (htg : ∀ j ∈ tgIx tg, j ∈ vs) (e0 : H0 p = some (.lst us0)) (r0 : VRs B M0 H0 us0 ds0) (h : RP (lcL gs (stpL tg fc fe (wipeE ρ vs)) ys ds0 S0) K)
    (fin : ∀ M H S ds us, CS B M1 H1 p M H S → Later B M0 H0 M H → H p = some (.lst us) → VRs B M H us ds → K ds S → Fin H) :
    ∃ W1 : Nat → Nat → Hp → Prop, (∃ m, W1 0 m H0) ∧ ∀ j k H, W1 j k H →
      (J.stop j H ∧ Fin H) ∨ (J.go j H ∧ ∃ Nx1 : Hp → Prop, (∀ H', Nx1 H' → ∃ k', k' < k ∧ W1 (j + 1) k' H') ∧ ∀ x H', J.yld j H x H' → gA B tg x (L2.wipe σ vs) H' fun σ3 H5 => L2.wipe σ3 vs = L2.wipe σ vs ∧ tAC B fc σ3 H5 fun b H6 =>
        if b = true then tA B Wn fe σ3 H6 fun y H7 => ∃ acc, H7 p = some (.lst acc) ∧ acc.length < sizeLine ∧ Nx1 (upd H7 p (.lst (acc ++ [y]))) else Nx1 H6) := by
  refine ⟨fun j k H => k = ys.length - j ∧ j ≤ ys.length ∧ ∃ M S ds us, CS B M1 H1 p M H S ∧ Later B M0 H0 M H ∧ H p = some (.lst us) ∧ VRs B M H us ds ∧ RP (lcL gs (stpL tg fc fe (wipeE ρ vs)) (ys.drop j) ds S) K,
    ⟨_, rfl, Nat.zero_le _, M0, S0, ds0, us0, c0, Later.refl, e0, r0, h⟩, ?_⟩
  rintro j k H ⟨rfl, hj, M, S, ds, us, c, lt, e, r, h⟩
  by_cases hlt : j < ys.length
  · rw [List.drop_eq_getElem_cons hlt] at h
    unfold lcL at h
    split at h
    · rename_i hg
      rw [Bool.and_eq_true] at hg
      obtain ⟨w1, w2⟩ := wk M H S lt c.or hg.1
      obtain ⟨g1, g2⟩ := w2 j ys[j] (by simp [hlt])
      have h := RP.bindN h
      refine .inr ⟨g1, fun H' => ∃ M S ds us, CS B M1 H1 p M H' S ∧ Later B M0 H0 M H' ∧ H' p = some (.lst us) ∧ VRs B M H' us ds ∧ RP (lcL gs (stpL tg fc fe (wipeE ρ vs)) (ys.drop (j + 1)) ds S) K, fun H' q => ⟨ys.length - (j + 1), by omega, rfl, hlt, q⟩, fun x H' yl => ?_⟩
      obtain ⟨s2, o2, rx⟩ := g2 x H' yl
      have c2 := c.step s2 o2
      have lt2 := lt.trans (Later.of_stp s2)
      have e2 := c.here s2 e
      have r2 := r.step s2
      have ar2 := (ar.later lt2).wipe vs
      unfold stpL at h
      cases ea : asgTg tg ys[j] (wipeE ρ vs) with
      | none => rw [ea] at h; exact h.elim
      | some ρ1 =>
        rw [ea] at h
        dsimp only at h
        refine ⟨wipeE ρ vs, M, S, ys[j], ρ1, o2, ar2, rx, ea, fun σ' ar3 l3 k3 => ⟨?_, ?_⟩⟩
        · refine wipe_eq (by rw [l3, wipe_length]) fun i hi => ?_
          rw [k3 i (fun z => hi (htg i z)), wipe_out hi]
        · refine ⟨ρ1, S, M, o2, ar3, ((RP.bind h).post σ' M H').mono fun b H3 ⟨b', S3, M3, s3, o3, eb, h3⟩ => ?_⟩
          cases eb
          have c3 := c2.step s3 o3
          have lt3 := lt2.trans (Later.of_stp s3)
          have e3 := c2.here s3 e2
          have r3 := r2.step s3
          cases b with
          | false =>
            rw [if_neg Bool.false_ne_true]
            exact ⟨M3, S3, ds, us, c3, lt3, e3, r3, h3⟩
          | true =>
            rw [if_pos rfl]
            rw [if_pos rfl] at h3
            refine ⟨ρ1, S3, M3, o3, ar3.step s3, ((RP.bind h3).post σ' M3 H3).mono fun y H4 ⟨d, S4, M4, s4, o4, ry, h4⟩ => ?_⟩
            have c4 := c3.step s4 o4
            have e4 := c3.here s4 e3
            have r4 := r3.step s4
            obtain ⟨c5, l5⟩ := c4.wr (o := .lst (us ++ [y]))
            refine ⟨us, e4, by rw [r.length]; exact lim_lt hg.2, M4, S4, ds ++ [d], us ++ [y], c5, (lt3.trans (Later.of_stp s4)).trans l5, upd_same, VRs.later l5 (r4.append (.cons ry .nil)), h4⟩
    · exact h.elim
  · have ej : j = ys.length := by omega
    subst ej
    rw [List.drop_length] at h
    unfold lcL at h
    split at h
    · rename_i hg
      exact .inl ⟨(wk M H S lt c.or hg).1, fin M H S ds us c lt e r h⟩
    · exact h.elim
end
end QL
set_option Elab.async false
set_option linter.all false
set_option maxRecDepth 100000
set_option maxHeartbeats 4000000
/-! QL22: list comprehensions. -/
namespace QL
open PySem PySem.Spec L2
open PyProof.Rows hiding St
def fC1 (f : Den) : Env → Ob → Res Bool := fun ρ S => (f ρ S).bind fun d S => match d with
  | .bl true => .ok true S
  | .bl false => .ok false S
  | _ => .fail
section
variable {B : Bs} {X : Cx} {c : Expr} {f : Den}
theorem apts_nil : PTs X [] (tAC B (fun _ S => .ok true S)) := by
  refine ⟨fun pins s σ H Q I h => pts_nil.run pins s σ H Q I ?_⟩
  obtain ⟨ρ, S, M, o, r, h⟩ := h
  exact h true H M (Stp.refl _ _) o rfl
theorem apts_one (h : AX B Wn X c f) : PTs X [c] (tAC B (fC1 f)) := by
  refine ⟨fun pins s σ H Q I q => (pts_one h.tst).run pins s σ H Q I ?_⟩
  obtain ⟨ρ, S, M, o, r, h⟩ := q
  refine ⟨ρ, S, M, o, r, (Post.bind h).mono fun v H1 ⟨x, S1, M1, s1, o1, r1, h1⟩ => ?_⟩
  cases x with
  | bl b =>
    cases r1
    refine ⟨b, rfl, ?_⟩
    cases b with
    | true => exact h1 true H1 M1 (Stp.refl _ _) o1 rfl
    | false => exact h1 false H1 M1 (Stp.refl _ _) o1 rfl
  | _ => exact h1.elim
end
section
variable {B : Bs} {W : WX} {tg tg2 : Tg} {fi fi2 : DenI} {fc fc2 : Env → Ob → Res Bool} {fe : Den} {vs vs2 : List Nat} {m : Bool}
def fLc (m : Bool) (tg : Tg) (fi : DenI) (fc : Env → Ob → Res Bool) (fe : Den) (vs : List Nat) : Den := fun ρ S => (fi ρ S).bind fun p S => (lcL p.2 (stpL tg fc fe (wipeE ρ vs)) p.1 [] S).bind fun ds S => mkO m (.lst ds) S
theorem lc_t (htg : ∀ j ∈ tgIx tg, j ∈ vs) {σ : L2.St} {H : Hp} {Q : VK} (h : tA B W (fLc m tg fi fc fe vs) σ H Q) : tLc (iA B W fi) (gA B tg) (tAC B fc) (tA B Wn fe) vs σ H Q := by
  obtain ⟨ρ, S, M, o, r, h⟩ := h
  refine ⟨ρ, S, M, o, r, (Post.bind h).mono fun J H1 ⟨p, S1, M1, s1, o1, wk, h1⟩ D hD => ?_⟩
  exact lc_loop (CS.start o1 hD) (wk.later (Later.addF hD)) ((r.step s1).later (Later.addF hD)) htg upd_same .nil (RP.of_post h1 fun c v S' => lcL_ne) fun M H S ds us c lt e r k => c.lst e r k
def stpL2 (tg : Tg) (fc : Env → Ob → Res Bool) (tg2 : Tg) (fi2 : DenI) (fc2 : Env → Ob → Res Bool) (fe : Den) (vs2 : List Nat) (ρ0 : Env) : D → List D → Ob → Res (List D) := fun x acc S => match asgTg tg x ρ0 with
  | some ρ1 => (fc ρ1 S).bind fun b S => if b then (fi2 ρ1 S).bind fun p2 S => lcL p2.2 (stpL tg2 fc2 fe (wipeE ρ1 vs2)) p2.1 acc S else .ok acc S
  | none => .fail
def fLc2 (m : Bool) (tg : Tg) (fi : DenI) (fc : Env → Ob → Res Bool) (tg2 : Tg) (fi2 : DenI) (fc2 : Env → Ob → Res Bool) (fe : Den) (vs vs2 : List Nat) : Den := fun ρ S => (fi ρ S).bind fun p S => (lc2L p.2 (stpL2 tg fc tg2 fi2 fc2 fe vs2 (wipeE ρ vs)) p.1 [] S).bind fun ds S => mkO m (.lst ds) S
theorem lc2_t (htg : ∀ j ∈ tgIx tg, j ∈ vs) (htg2 : ∀ j ∈ tgIx tg2, j ∈ vs2) {σ : L2.St} {H : Hp} {Q : VK} (h : tA B W (fLc2 m tg fi fc tg2 fi2 fc2 fe vs vs2) σ H Q) : tLc2 (iA B W fi) (gA B tg) (tAC B fc) (iA B Wn fi2) (gA B tg2) (tAC B fc2) (tA B Wn fe) vs vs2 σ H Q := by
  obtain ⟨ρ, S, M, o, r, h⟩ := h
  refine ⟨ρ, S, M, o, r, (Post.bind h).mono fun J H1 ⟨p, S1, M1, s1, o1, wk, h1⟩ D hD => ?_⟩
  obtain ⟨ys, gs⟩ := p
  have h0 := RP.of_post h1 fun c v S' => lc2L_ne
  dsimp only at h0 wk
  have wk0 := wk.later (Later.addF (o := .lst []) hD)
  have ar0 := (r.step s1).later (Later.addF (o := .lst []) hD)
  refine ⟨fun j k H => k = ys.length - j ∧ j ≤ ys.length ∧ ∃ M S ds us, CS B M1 H1 D M H S ∧ Later B (M1.add D) (upd H1 D (.lst [])) M H ∧ H D = some (.lst us) ∧ VRs B M H us ds ∧ RP (lc2L gs (stpL2 tg fc tg2 fi2 fc2 fe vs2 (wipeE ρ vs)) (ys.drop j) ds S) fun ds S => PostV B W σ M1 H1 (mkO m (.lst ds) S) Q,
    ⟨_, rfl, Nat.zero_le _, M1.add D, S1, [], [], CS.start o1 hD, Later.refl, upd_same, .nil, h0⟩, ?_⟩
  rintro j k H ⟨rfl, hj, M, S, ds, us, c, lt, e, r, h⟩
  by_cases hlt : j < ys.length
  · rw [List.drop_eq_getElem_cons hlt] at h
    unfold lc2L at h
    split at h
    · rename_i hg
      obtain ⟨w1, w2⟩ := wk0 M H S lt c.or hg
      obtain ⟨g1, g2⟩ := w2 j ys[j] (by simp [hlt])
      have h := RP.bindN h
      refine .inr ⟨g1, fun H' => ∃ M S ds us, CS B M1 H1 D M H' S ∧ Later B (M1.add D) (upd H1 D (.lst [])) M H' ∧ H' D = some (.lst us) ∧ VRs B M H' us ds ∧ RP (lc2L gs (stpL2 tg fc tg2 fi2 fc2 fe vs2 (wipeE ρ vs)) (ys.drop (j + 1)) ds S) fun ds S => PostV B W σ M1 H1 (mkO m (.lst ds) S) Q, fun H' q => ⟨ys.length - (j + 1), by omega, rfl, hlt, q⟩, fun x H' yl => ?_⟩
      obtain ⟨s2, o2, rx⟩ := g2 x H' yl
      have c2 := c.step s2 o2
      have lt2 := lt.trans (Later.of_stp s2)
      have e2 := c.here s2 e
      have r2 := r.step s2
      have ar2 := (ar0.later lt2).wipe vs
      unfold stpL2 at h
      cases ea : asgTg tg ys[j] (wipeE ρ vs) with
      | none => rw [ea] at h; exact h.elim
      | some ρ1 =>
        rw [ea] at h
        dsimp only at h
        refine ⟨wipeE ρ vs, M, S, ys[j], ρ1, o2, ar2, rx, ea, fun σ' ar3 l3 k3 => ⟨?_, ?_⟩⟩
        · refine wipe_eq (by rw [l3, wipe_length]) fun i hi => ?_
          rw [k3 i (fun z => hi (htg i z)), wipe_out hi]
        · refine ⟨ρ1, S, M, o2, ar3, ((RP.bind h).post σ' M H').mono fun b H3 ⟨b', S3, M3, s3, o3, eb, h3⟩ => ?_⟩
          cases eb
          have c3 := c2.step s3 o3
          have lt3 := lt2.trans (Later.of_stp s3)
          have e3 := c2.here s3 e2
          have r3 := r2.step s3
          cases b with
          | false =>
            rw [if_neg Bool.false_ne_true]
            exact ⟨M3, S3, ds, us, c3, lt3, e3, r3, h3⟩
          | true =>
            rw [if_pos rfl]
            rw [if_pos rfl] at h3
            refine ⟨ρ1, S3, M3, o3, ar3.step s3, ((RP.bind h3).post σ' M3 H3).mono fun J1 H4 ⟨p2, S4, M4, s4, o4, wk4, h4⟩ => ?_⟩
            have lt4 := lt3.trans (Later.of_stp s4)
            exact lc_loop (c3.step s4 o4) wk4 ((ar3.step s3).step s4) htg2 (c3.here s4 e3) (r3.step s4) h4 fun M H S ds us c lt e r k => ⟨M, S, ds, us, c, lt4.trans lt, e, r, k⟩
    · exact h.elim
  · have ej : j = ys.length := by omega
    subst ej
    rw [List.drop_length] at h
    unfold lc2L at h
    split at h
    · rename_i hg
      exact .inl ⟨(wk0 M H S lt c.or hg).1, c.lst e r h⟩
    · exact h.elim
end
/-! ### as expressions -/
section
variable {W : WX} {X : Cx} {g : Nat → Option Addr} {tg tg2 : Tg} {fi fi2 : DenI} {fc fc2 : Env → Ob → Res Bool} {fe : Den} {m : Bool} {elt te it te2 it2 : Expr} {ifs ifs2 : List Expr} {scope : Scope} {own : List (Str × Nat)} {vs2 : List Nat} {pos : Pos}
/-- what is asked of a block's parts -/
abbrev Blk (X : Cx) (scope : Scope) (P : Cx → Prop) : Prop := ∀ (s : Shared) (H : Hp) (C : Addr) (cl : List (Str × Addr)) (fp : List Addr), P (X.blk s H scope (compEnvC scope cl C X.env) fp)
def noSet : Expr → Bool
  | .Set _ _ _ => false
  | _ => true
theorem folded_of {e : Expr} (h : noSet e = true) (env : PySem.Env) (x : Value) : foldedSetIterable e env x = pure x := by
  cases e <;> first | rfl | cases h
theorem ax_lc (hc : X.calm = true) (hN : X.N.Nodup) (hi : PI X te it (iA (bs X g) W fi)) (ok : BlkOk X.N X.env.scope scope own) (hg : Blk X scope fun X => PG X te (gA (bs X g) tg)) (ht : Blk X scope fun X => PTs X ifs (tAC (bs X g) fc)) (he : Blk X scope fun X => PE X elt (tA (bs X g) Wn fe))
    (hs : noSet it = true) (htg : ∀ j ∈ tgIx tg, j ∈ own.map (·.2)) : AX (bs X g) W X (.ListComp elt [⟨te, it, ifs, 0⟩] scope pos) (fLc m tg fi fc fe (own.map (·.2))) :=
  AX.of ((pe_lc hc hN hi ok hg ht he (folded_of hs _)).imp fun σ H Q h => lc_t htg h)
theorem ax_lc2 (hc : X.calm = true) (hN : X.N.Nodup) (hi : PI X te it (iA (bs X g) W fi)) (ok : BlkOk X.N X.env.scope scope own) (hv : ∀ i ∈ vs2, i ∈ own.map (·.2)) (hg : Blk X scope fun X => PG X te (gA (bs X g) tg)) (ht : Blk X scope fun X => PTs X ifs (tAC (bs X g) fc))
    (hi2 : Blk X scope fun X => PI X te2 it2 (iA (bs X g) Wn fi2)) (hg2 : Blk X scope fun X => PG X te2 (gA (bs X g) tg2)) (ht2 : Blk X scope fun X => PTs X ifs2 (tAC (bs X g) fc2)) (he : Blk X scope fun X => PE X elt (tA (bs X g) Wn fe))
    (hs : noSet it = true) (hs2 : noSet it2 = true) (htg : ∀ j ∈ tgIx tg, j ∈ own.map (·.2)) (htg2 : ∀ j ∈ tgIx tg2, j ∈ vs2) :
    AX (bs X g) W X (.ListComp elt [⟨te, it, ifs, 0⟩, ⟨te2, it2, ifs2, 0⟩] scope pos) (fLc2 m tg fi fc tg2 fi2 fc2 fe (own.map (·.2)) vs2) :=
  AX.of ((pe_lc2 hc hN hi ok hv hg ht hi2 hg2 ht2 he (folded_of hs _) fun env x => folded_of hs2 env x).imp fun σ H Q h => lc2_t htg htg2 h)
end
end QL
set_option Elab.async false
set_option linter.all false
set_option maxRecDepth 100000
set_option maxHeartbeats 4000000
/-! QL23: dict comprehensions (dcO_core follows HandS.DictComp's dc_core, the dict told by its raw entries). -/
namespace QL
open PySem PySem.Spec L2
open PyProof.Rows hiding St
/-- a pair is stored at D -/
def DStep (B : Bs) (D : Addr) (y z : V) (H : Hp) (Nx : Hp → Prop) : Prop := ∃ (M : MF) (es : Array DictEntry) (ep : Nat) (ks vs : List QL.D) (k x : QL.D), H D = some (DictO D es ep) ∧ Nat.blt ks.length lim = true ∧ DEs B M H es.toList ks vs ∧ ks.Nodup ∧ keysOk (k :: ks) = true ∧ VR B M H y k ∧ VR B M H z x ∧
  ∀ es' ep', DEs B M H es'.toList (putD ks vs k x).1 (putD ks vs k x).2 → es'.size ≤ sizeLine → Nx (upd H D (DictO D es' ep'))
def tDcO (B : Bs) (wi : TI) (g : TG) (tt : TT) (tk tv : TE) (vs : List Nat) : TE := fun σ H Q => wi σ H fun J H1 => ∀ D, H1 D = none → (D == sysModules) = false → ∃ W : Nat → Nat → Hp → Prop, (∃ m, W 0 m (upd H1 D (DictO D #[] 0))) ∧ ∀ i m H, W i m H →
  (J.stop i H ∧ Q (.ref D) H) ∨ (J.go i H ∧ ∃ Nx : Hp → Prop, (∀ H', Nx H' → ∃ m', m' < m ∧ W (i + 1) m' H') ∧ ∀ x H', J.yld i H x H' → g x (L2.wipe σ vs) H' fun σ2 H2 => L2.wipe σ2 vs = L2.wipe σ vs ∧ tt σ2 H2 fun b H3 =>
    if b = true then tk σ2 H3 fun y H4 => tv σ2 H4 fun z H5 => DStep B D y z H5 Nx else Nx H3)
section
variable {X : Cx}
theorem dcO_core {pins : List (Addr × Obj)} {s : Shared} {σ : L2.St} {H : Hp} {Q : VK} {kx vx tg iter : Expr} {ifs : List Expr} {scope : Scope} {own : List (Str × Nat)} {pos pos' : Pos} {wi : TI} {g : TG} {tt : TT} {tk tv : TE} {gg : Nat → Option Addr} {use : Option (Value → Sem Unit)} {Qf : Value → Shared → Prop}
    (hu : X.A.units + 70 < cLine) (hc : X.calm = true) (hN : X.N.Nodup) (I : L2.Inv X pins σ H s) (hi : PI X tg iter wi) (ok : BlkOk X.N X.env.scope scope own)
    (hg : ∀ (s : Shared) (H : Hp) (C : Addr) (cl : List (Str × Addr)) (fp : List Addr), PG (X.blk s H scope (compEnvC scope cl C X.env) fp) tg g) (ht : ∀ (s : Shared) (H : Hp) (C : Addr) (cl : List (Str × Addr)) (fp : List Addr), PTs (X.blk s H scope (compEnvC scope cl C X.env) fp) ifs tt)
    (hk : ∀ (s : Shared) (H : Hp) (C : Addr) (cl : List (Str × Addr)) (fp : List Addr), PE (X.blk s H scope (compEnvC scope cl C X.env) fp) kx tk)
    (he : ∀ (s : Shared) (H : Hp) (C : Addr) (cl : List (Str × Addr)) (fp : List Addr), PE (X.blk s H scope (compEnvC scope cl C X.env) fp) vx tv) (hs : ∀ x, foldedSetIterable iter X.env x = pure x)
    (h : tDcO (bs X gg) wi g tt tk tv (own.map (·.2)) σ H Q)
    (hRR : ∀ D C s' m H', L2.Inv X pins σ H' s' → Q (.ref D) H' → s'.heap.Ns C m → FpOk X pins H' C → compPost (model X.prog X.w) X.A X.xe use Qf (.ref D) C (.ok .next) s') :
    wpAny (model X.prog X.w) X.A (comprehension (.DictComp kx vx [⟨tg, iter, ifs, 0⟩] scope pos) scope X.env pos' newDict false (eval iter X.env) use) Qf X.xe s := by
  have hfree : ∀ y ∈ scope.names, y.2 = .free → ∃ c, X.env.cells.lookup y.1 = some c := fun y hy e => by
    rcases ok.free y hy e with k | k
    · exact I.ok.has _ (.inl k)
    · exact I.ok.has _ (.inr k)
  refine wpAny_comprehension_free (use := use) rfl hs (closure_ok hfree) ok.kind (fun y hy e => by rw [ok.uniq y hy, e])
    (thn (hi.run pins s σ H _ I h) fun xv s1 hx => thn hx fun itv s2 h2 => ?_)
  obtain ⟨it, fp, tn, J, H2, e, I2, T, st2, f2, q⟩ := h2
  subst e
  refine wpAny_newObj_type (newEnv_comp ?_)
  generalize hD : s2.heap.objs.size = D
  have hDn : H2 D = none := I2.hok.fresh (Nat.le_of_eq hD)
  obtain ⟨W, ⟨m0, w0⟩, turn⟩ := q D hDn (by rw [← hD]; exact sysM_ne I2)
  -- the new list
  generalize hs3 : ({ s2 with heap := s2.heap.push { cls := .type "dict", data := .dict #[] } } : Shared) = s3
  have I3 : L2.Inv X pins σ (upd H2 D (DictO D #[] 0)) s3 := by
    rw [← hs3]
    refine I2.laid (t' := s2.toks) (fun b o e => Heap.get?_push_of_some _ e) (Nat.le_of_eq hD) ?_
    rw [← hD]
    exact ⟨⟨_, Heap.get?_push_size _ rfl, ⟨rfl, rfl, rfl⟩, rfl⟩, ⟨_, Heap.get?_push_size _ rfl⟩, fun h1 h2 a e => a.at e⟩
  have h3 : s3.heap = s2.heap.push { cls := .type "dict", data := .dict #[] } := by rw [← hs3]
  have sz : ∀ b ∈ fp, b < s2.heap.objs.size := fun b hb => by
    obtain ⟨o, e, _⟩ := T.obj _ _ st2 b hb
    exact Heap.lt_size e
  have f3 : ∀ b ∈ fp, FpOk X pins (upd H2 D (DictO D #[] 0)) b ∧ b < s3.heap.objs.size := fun b hb => by
    have hlt := sz b hb
    refine ⟨⟨?_, (f2 b hb).2⟩, by rw [h3, Heap.size_push]; exact Nat.lt_succ_of_lt hlt⟩
    rw [upd_ne (by rw [← hD]; exact Nat.ne_of_lt hlt)]
    exact (f2 b hb).1
  have st3 : tn 0 s3.heap := T.keep _ _ _ st2 fun b _ o e => by rw [h3]; exact Heap.get?_push_of_some _ e
  have I4 := block_start I3 ok hN f3
  have pg := hg s3 (upd H2 D (DictO D #[] 0)) s3.heap.objs.size (cellsFrom (s3.heap.objs.size + 1) scope.names (cloFrom X.env.cells scope.names [])) fp
  have pt := ht s3 (upd H2 D (DictO D #[] 0)) s3.heap.objs.size (cellsFrom (s3.heap.objs.size + 1) scope.names (cloFrom X.env.cells scope.names [])) fp
  have pk := hk s3 (upd H2 D (DictO D #[] 0)) s3.heap.objs.size (cellsFrom (s3.heap.objs.size + 1) scope.names (cloFrom X.env.cells scope.names [])) fp
  have pe := he s3 (upd H2 D (DictO D #[] 0)) s3.heap.objs.size (cellsFrom (s3.heap.objs.size + 1) scope.names (cloFrom X.env.cells scope.names [])) fp
  show codeAny _ _ (.compStart (.DictComp kx vx [⟨tg, iter, ifs, 0⟩] scope pos) 0 (.ref it) (.ref D) (compEnvC scope (cellsFrom (s3.heap.objs.size + 1) scope.names (cloFrom X.env.cells scope.names [])) s3.heap.objs.size X.env)) (compPost (model X.prog X.w) X.A X.xe use Qf (.ref D) s3.heap.objs.size) { s3 with heap := pushCells (s3.heap.push { cls := .type "dict", data := .dict #[] }) scope.names }
  have nfp : ∀ b ∈ fp, (upd H2 D (DictO D #[] 0)) b = none := fun b hb => (f3 b hb).1.1
  generalize hce : compEnvC scope (cellsFrom (s3.heap.objs.size + 1) scope.names (cloFrom X.env.cells scope.names [])) s3.heap.objs.size X.env = ce at I4 pg pt pk pe ⊢
  have cL : ce.locals = s3.heap.objs.size := by subst hce; rfl
  generalize hH3 : upd H2 D (DictO D #[] 0) = H3 at I3 I4 pg pt pk pe w0 nfp f3
  generalize hs4 : ({ s3 with heap := pushCells (s3.heap.push { cls := .type "dict", data := .dict #[] }) scope.names } : Shared) = s4 at I4 ⊢
  have st4 : tn 0 s4.heap := T.keep _ _ _ st3 fun b _ o e => by rw [← hs4]; exact pushCells_keeps _ _ _ _ (Heap.get?_push_of_some _ e)
  have stat : ∀ {σ' : L2.St} {H' : Hp} {s' : Shared}, L2.Inv (X.blk s3 H3 scope ce fp) [] σ' H' s' → (∀ b ∈ fp, H' b = none) → ∀ b ∈ fp, FpOk (X.blk s3 H3 scope ce fp) [] H' b := fun {σ' H' s'} I' hn b hb =>
    ⟨hn b hb, (I'.ok.exf b hb).1, I'.ok.exfs b hb, .inl hb, fun x c e => (I'.ok.exf b hb).2 x c e, fun p hp => absurd (show p ∈ ([] : List (Addr × Obj)) ++ [] from hp) (by simp)⟩
  have loop : codeAny (model X.prog X.w) X.A (.compLoop (.DictComp kx vx [⟨tg, iter, ifs, 0⟩] scope pos) 0 (.ref it) (.ref D) ce) (compPost (model X.prog X.w) X.A X.xe use Qf (.ref D) s3.heap.objs.size) s4 := by
    refine compLoop_anyD (fun n s' => ∃ i H', L2.Inv (X.blk s3 H3 scope ce fp) [] (wipe σ (own.map (·.2))) H' s' ∧ tn i s'.heap ∧ (∀ b ∈ fp, H' b = none) ∧ W i n H') ?_ m0 ⟨0, H3, I4, st4, nfp, w0⟩
    rintro n s5 ⟨i, H5, I5, st5, n5, w5⟩
    rcases turn i n H5 w5 with ⟨stop, qq⟩ | ⟨go, Nx, hNx, step⟩
    · have td := T.done (X.blk s3 H3 scope ce fp) rfl rfl rfl hc i [] s5 _ H5 (fun _ _ => False) I5 (stat I5 n5) st5 stop
      refine thnF td fun r s6 ⟨hr, I6⟩ => ?_
      subst hr
      -- back in the def's context
      have I7 : L2.Inv X pins σ H5 s6 := I3.call' (ch := fp) I6.os I6.base I6.hok I6.bare fun b hb => ⟨(f3 b hb).1.2.2.2.1, (f3 b hb).1.2.1, (f3 b hb).1.2.2.2.2.1, (f3 b hb).1.2.2.2.2.2⟩
      have nC : H5 s3.heap.objs.size = none := by
        have z : H5 ce.locals = none := I6.free
        rw [cL] at z
        exact z
      obtain ⟨m, hn, _⟩ := I6.loc
      have hn : s6.heap.Ns ce.locals m := hn
      rw [cL] at hn
      exact hRR D s3.heap.objs.size s6 m H5 I7 qq hn (I3.fpOk (Nat.le_refl _) nC)
    · have ti := T.item (X.blk s3 H3 scope ce fp) rfl rfl rfl hc i [] s5 _ H5 (fun _ _ => False) I5 (stat I5 n5) st5 go
      refine thnF ti fun r s6 ⟨u, hr, h6⟩ => ?_
      subst hr
      refine thnF h6 fun _ s7 ⟨x, H7, I7, r7, y7, st7, n7⟩ => ?_
      have I7' := I7.pinned (stat I7 n7) (T.obj _ _ st7)
      refine thnF (pg.run _ s7 _ H7 x u _ I7' r7 (step x H7 y7)) fun _ s8 ⟨σ8, H8, I8, hw8, q8⟩ => ?_
      refine thnF (pt.run _ s8 σ8 H8 _ I8 q8) fun b s9 ⟨H9, I9, q9⟩ => ?_
      -- the turn's end
      have fin : ∀ {s' : Shared} {H' : Hp}, L2.Inv (X.blk s3 H3 scope ce fp) ([] ++ pinsAt fp s7.heap) σ8 H' s' → Nx H' → ∃ m, m < n ∧ ∃ i H', L2.Inv (X.blk s3 H3 scope ce fp) [] (wipe σ (own.map (·.2))) H' s' ∧ tn i s'.heap ∧ (∀ b ∈ fp, H' b = none) ∧ W i m H' := fun {s' H'} I' nx => by
        obtain ⟨m', hm, w'⟩ := hNx H' nx
        have pin' : ∀ b ∈ fp, ∀ o, s7.heap.get? b = some o → s'.heap.get? b = some o ∧ H' b = none := fun b hb o e =>
          let z := I'.pin (b, o) (List.mem_append_right _ (List.mem_append_right _ (mem_pinsAt hb e)))
          ⟨z.1, z.2.1⟩
        have hl : (wipe σ (own.map (·.2))).length = σ8.length := by rw [← hw8, wipe_length]
        refine ⟨m', hm, i + 1, H', (I'.unpinned (pins := [])).weak hl (fun j v e => ?_), T.keep _ _ _ st7 fun b hb o e => (pin' b hb o e).1, fun b hb => ?_, w'⟩
        · rw [← hw8] at e
          exact (wipe_some e).1
        · obtain ⟨o, e, _⟩ := T.obj _ _ st7 b hb
          exact (pin' b hb o e).2
      cases b with
      | false =>
        simp only [Bool.false_eq_true, if_false] at q9 ⊢
        exact fin I9 q9
      | true =>
        simp only [if_true] at q9 ⊢
        refine thnF (pk.run _ s9 σ8 H9 _ I9 q9) fun z s10 ⟨yk, H10, I10, r10, q10⟩ => ?_
        refine thnF (pe.run _ s10 σ8 H10 _ I10 q10) fun z2 s11 ⟨yv, H11, I11, r11, Mx, es, ep, ks, vs, kd, xd, hD11, hz11, de, nd, kk, rk, rx, nx⟩ => ?_
        refine (dict_set (X := X.blk s3 H3 scope ce fp) (g := gg) I11 (show X.A.units + 64 < cLine by omega) hD11 hz11 de nd kk rk r10 rx r11 fun h' tk es' ep' hr hs de' sz => ?_).1
        exact fin (Inv.dWrite I11 hD11 hr hs) (nx es' ep' de' sz)
  exact codeAny_compStart_dict loop (T.self X.A 0 _ _ _ st4 loop)

theorem pe_dcO {gg : Nat → Option Addr} {kx vx tg iter : Expr} {ifs : List Expr} {scope : Scope} {own : List (Str × Nat)} {pos : Pos} {wi : TI} {g : TG} {tt : TT} {tk tv : TE} (hu : X.A.units + 70 < cLine) (hc : X.calm = true) (hN : X.N.Nodup) (hi : PI X tg iter wi) (ok : BlkOk X.N X.env.scope scope own)
    (hg : Blk X scope fun X => PG X tg g) (ht : Blk X scope fun X => PTs X ifs tt) (hk : Blk X scope fun X => PE X kx tk) (he : Blk X scope fun X => PE X vx tv) (hs : ∀ x, foldedSetIterable iter X.env x = pure x) :
    PE X (.DictComp kx vx [⟨tg, iter, ifs, 0⟩] scope pos) (tDcO (bs X gg) wi g tt tk tv (own.map (·.2))) := by
  refine ⟨fun pins s σ H Q I h => ?_⟩
  rw [arm_eval_DictComp]
  refine dcO_core (gg := gg) hu hc hN I hi ok hg ht hk he hs h fun D C s' m H' I' q hn f => ⟨m, hn, fun h'' sb => ?_⟩
  obtain ⟨f0, f1, f2, f3, f4, f5⟩ := f
  exact ⟨.ref D, H', I'.turned (t' := s'.toks) (fun b o hb e => (sb.2 b hb).trans e) f0 f1 f3 f4 f5, rfl, q⟩
end
section
variable {W : WX} {X : Cx} {g : Nat → Option Addr} {tg : Tg} {fi : DenI} {fc : Env → Ob → Res Bool} {fk fv : Den} {m : Bool} {kx vx te it : Expr} {ifs : List Expr} {scope : Scope} {own : List (Str × Nat)} {vs : List Nat} {pos : Pos} {B : Bs}
def stpD (tg : Tg) (fc : Env → Ob → Res Bool) (fk fv : Den) (ρ0 : Env) : D → Ob → Res (Option (D × D)) := fun x S => match asgTg tg x ρ0 with
  | some ρ1 => (fc ρ1 S).bind fun b S => if b then (fk ρ1 S).bind fun kd S => (fv ρ1 S).bind fun vd S => .ok (some (kd, vd)) S else .ok none S
  | none => .fail
def fDc (m : Bool) (tg : Tg) (fi : DenI) (fc : Env → Ob → Res Bool) (fk fv : Den) (vs : List Nat) : Den := fun ρ S => (fi ρ S).bind fun p S => (dcL p.2 (stpD tg fc fk fv (wipeE ρ vs)) p.1 [] [] S).bind fun p S => mkO m (.dct p.1 p.2) S
theorem dc_t (htg : ∀ j ∈ tgIx tg, j ∈ vs) {σ : L2.St} {H : Hp} {Q : VK} (h : tA B W (fDc m tg fi fc fk fv vs) σ H Q) : tDcO B (iA B W fi) (gA B tg) (tAC B fc) (tA B Wn fk) (tA B Wn fv) vs σ H Q := by
  obtain ⟨ρ, S, M, o, r, h⟩ := h
  refine ⟨ρ, S, M, o, r, (Post.bind h).mono fun J H1 ⟨p, S1, M1, s1, o1, wk, h1⟩ D hD ns => ?_⟩
  obtain ⟨ys, gs⟩ := p
  have h0 := RP.of_post h1 fun c v S' => dcL_ne
  dsimp only at h0 wk
  have wk0 := wk.later (Later.addF (o := DictO D #[] 0) hD)
  have ar0 := (r.step s1).later (Later.addF (o := DictO D #[] 0) hD)
  refine ⟨fun j k H => k = ys.length - j ∧ j ≤ ys.length ∧ ∃ M S es ep ks us, CS B M1 H1 D M H S ∧ Later B (M1.add D) (upd H1 D (DictO D #[] 0)) M H ∧ H D = some (DictO D es ep) ∧ es.size ≤ sizeLine ∧ DEs B M H es.toList ks us ∧ ks.Nodup ∧ keysOk ks = true ∧ RP (dcL gs (stpD tg fc fk fv (wipeE ρ vs)) (ys.drop j) ks us S) fun p S => PostV B W σ M1 H1 (mkO m (.dct p.1 p.2) S) Q,
    ⟨_, rfl, Nat.zero_le _, M1.add D, S1, #[], 0, [], [], CS.start o1 hD, Later.refl, upd_same, Nat.zero_le _, .nil, .nil, rfl, h0⟩, ?_⟩
  rintro j k H ⟨rfl, hj, M, S, es, ep, ks, us, c, lt, e, sz, r, nd, kk, h⟩
  by_cases hlt : j < ys.length
  · rw [List.drop_eq_getElem_cons hlt] at h
    unfold dcL at h
    split at h
    · rename_i hg
      rw [Bool.and_eq_true] at hg
      obtain ⟨w1, w2⟩ := wk0 M H S lt c.or hg.1
      obtain ⟨g1, g2⟩ := w2 j ys[j] (by simp [hlt])
      have h := RP.bindN h
      refine .inr ⟨g1, fun H' => ∃ M S es ep ks us, CS B M1 H1 D M H' S ∧ Later B (M1.add D) (upd H1 D (DictO D #[] 0)) M H' ∧ H' D = some (DictO D es ep) ∧ es.size ≤ sizeLine ∧ DEs B M H' es.toList ks us ∧ ks.Nodup ∧ keysOk ks = true ∧ RP (dcL gs (stpD tg fc fk fv (wipeE ρ vs)) (ys.drop (j + 1)) ks us S) fun p S => PostV B W σ M1 H1 (mkO m (.dct p.1 p.2) S) Q,
        fun H' q => ⟨ys.length - (j + 1), by omega, rfl, hlt, q⟩, fun x H' yl => ?_⟩
      obtain ⟨s2, o2, rx⟩ := g2 x H' yl
      have c2 := c.step s2 o2
      have lt2 := lt.trans (Later.of_stp s2)
      have e2 := c.here s2 e
      have r2 := r.step s2
      have ar2 := (ar0.later lt2).wipe vs
      unfold stpD at h
      cases ea : asgTg tg ys[j] (wipeE ρ vs) with
      | none => rw [ea] at h; exact h.elim
      | some ρ1 =>
        rw [ea] at h
        dsimp only at h
        refine ⟨wipeE ρ vs, M, S, ys[j], ρ1, o2, ar2, rx, ea, fun σ' ar3 l3 k3 => ⟨?_, ?_⟩⟩
        · refine wipe_eq (by rw [l3, wipe_length]) fun i hi => ?_
          rw [k3 i (fun z => hi (htg i z)), wipe_out hi]
        · refine ⟨ρ1, S, M, o2, ar3, ((RP.bind h).post σ' M H').mono fun b H3 ⟨b', S3, M3, s3, o3, eb, h3⟩ => ?_⟩
          cases eb
          have c3 := c2.step s3 o3
          have lt3 := lt2.trans (Later.of_stp s3)
          have e3 := c2.here s3 e2
          have r3 := r2.step s3
          cases b with
          | false =>
            rw [if_neg Bool.false_ne_true]
            exact ⟨M3, S3, es, ep, ks, us, c3, lt3, e3, sz, r3, nd, kk, h3⟩
          | true =>
            rw [if_pos rfl]
            rw [if_pos rfl] at h3
            refine ⟨ρ1, S3, M3, o3, ar3.step s3, ((RP.bind h3).post σ' M3 H3).mono fun y H4 ⟨kd, S4, M4, s4, o4, ry, h4⟩ => ?_⟩
            refine ⟨ρ1, S4, M4, o4, (ar3.step s3).step s4, ((RP.bind h4).post σ' M4 H4).mono fun z H5 ⟨vd, S5, M5, s5, o5, rz, h5⟩ => ?_⟩
            have c4 := c3.step s4 o4
            have c5 := c4.step s5 o5
            have e4 := c3.here s4 e3
            have e5 := c4.here s5 e4
            have r5 := (r3.step s4).step s5
            change RP (if keysOk (kd :: ks) then _ else Res.fail) _ at h5
            split at h5
            · rename_i hkk
              have hl := (DEs.length r5).2
              refine ⟨M5, es, ep, ks, us, kd, vd, e5, hg.2, r5, nd, hkk, ry.step s5, rz, fun es' ep' de' sz' => ?_⟩
              obtain ⟨c6, l6⟩ := c5.wr (o := DictO D es' ep')
              have hp : D ∈ M5.f := by rw [c5.f]; exact List.mem_cons_self
              exact ⟨M5, S5, es', ep', _, _, c6, ((lt3.trans (Later.of_stp s4)).trans (Later.of_stp s5)).trans l6, upd_same, sz', de'.fen hp, putD_nodup hl nd, keysOk_put hl hkk, h5⟩
            · exact h5.elim
    · exact h.elim
  · have ej : j = ys.length := by omega
    subst ej
    rw [List.drop_length] at h
    unfold dcL at h
    split at h
    · rename_i hg
      exact .inl ⟨(wk0 M H S lt c.or hg).1, c.dct e ns sz r nd kk h⟩
    · exact h.elim
theorem ax_dc (hu : X.A.units + 70 < cLine) (hc : X.calm = true) (hN : X.N.Nodup) (hi : PI X te it (iA (bs X g) W fi)) (ok : BlkOk X.N X.env.scope scope own) (hg : Blk X scope fun X => PG X te (gA (bs X g) tg)) (ht : Blk X scope fun X => PTs X ifs (tAC (bs X g) fc)) (hk : Blk X scope fun X => PE X kx (tA (bs X g) Wn fk)) (he : Blk X scope fun X => PE X vx (tA (bs X g) Wn fv))
    (hs : noSet it = true) (htg : ∀ j ∈ tgIx tg, j ∈ own.map (·.2)) : AX (bs X g) W X (.DictComp kx vx [⟨te, it, ifs, 0⟩] scope pos) (fDc m tg fi fc fk fv (own.map (·.2))) :=
  AX.of ((pe_dcO (gg := g) hu hc hN hi ok hg ht hk he (folded_of hs _)).imp fun σ H Q h => dc_t htg h)
end
end QL
set_option Elab.async false
set_option linter.all false
set_option maxRecDepth 100000
set_option maxHeartbeats 4000000
/-! QL24: dict displays. -/
namespace QL
open PySem PySem.Spec L2
open PyProof.Rows hiding St
abbrev DenP := Env → Ob → Res (List (D × D))
/-- pairs -/
def VPs (B : Bs) (M : MF) (H : Hp) (qs : List (V × V)) (ps : List (D × D)) : Prop := VRs B M H (qs.map (·.1)) (ps.map (·.1)) ∧ VRs B M H (qs.map (·.2)) (ps.map (·.2))
def tP (B : Bs) (f : DenP) (σ : L2.St) (H : Hp) (Q : List (V × V) → Hp → Prop) : Prop := ∃ ρ S M, OR B M H S ∧ AR B M H σ ρ ∧ Post B Wn σ M H (VPs B) (f ρ S) Q
structure PP (B : Bs) (X : Cx) (pos : Pos) (keys : List (Option Expr)) (values : List Expr) (f : DenP) : Prop where
  run : ∀ (pins : List (Addr × Obj)) (s : Shared) (σ : L2.St) (H : Hp) (Q : List (V × V) → Hp → Prop), L2.Inv X pins σ H s → tP B f σ H Q →
    wpAny (model X.prog X.w) X.A (evalPairs (pairTrees keys values X.env pos)) (fun us s' => ∃ qs H', L2.Inv X pins σ H' s' ∧ VV qs us ∧ Q qs H') X.xe s
theorem Post.wn {B : Bs} {W : WX} {σ : L2.St} {M : MF} {H : Hp} {α β : Type} {rel : MF → Hp → β → α → Prop} {r : Res α} {Q : β → Hp → Prop} (h : Post B Wn σ M H rel r Q) : Post B W σ M H rel r Q := by
  cases r with
  | ok d S => exact h
  | exc c x S => exact fun cls d H' M' a b e => (h cls d H' M' a b e).elim
  | fail => exact h
theorem tA.wn {B : Bs} {W : WX} {f : Den} {σ : L2.St} {H : Hp} {Q : VK} (h : tA B Wn f σ H Q) : tA B W f σ H Q := by
  obtain ⟨ρ, S, M, o, r, h⟩ := h
  exact ⟨ρ, S, M, o, r, h.wn⟩
section
variable {B : Bs} {W : WX} {X : Cx} {pos : Pos} {k v : Expr} {ks : List (Option Expr)} {vs : List Expr} {fk fv : Den} {fr : DenP} {g : Nat → Option Addr} {m : Bool}
theorem pp_nil : PP B X pos [] [] (fun _ S => .ok [] S) := ⟨fun pins s σ H Q I h => by
  obtain ⟨ρ, S, M, o, r, h⟩ := h
  exact pairTrees_nil_walk ⟨[], H, I, .nil, h [] H M (Stp.refl _ _) o ⟨.nil, .nil⟩⟩⟩
theorem pp_cons (hk : PE X k (tA B W fk)) (hv : PE X v (tA B W fv)) (hr : PP B X pos ks vs fr) : PP B X pos (some k :: ks) (v :: vs) (fun ρ S => (fk ρ S).bind fun kd S => (fv ρ S).bind fun vd S => (fr ρ S).bind fun ps S => .ok ((kd, vd) :: ps) S) := ⟨fun pins s σ H Q I h => by
  obtain ⟨ρ, S, M, o, r, h⟩ := h
  refine pairTrees_cons_walk (thn (hk.run pins s σ H _ I ⟨ρ, S, M, o, r, (Post.bind h).wn⟩) fun u s1 ⟨x, H1, I1, rx, kd, S1, M1, st1, o1, r1, h1⟩ => ?_)
  refine thn (hv.run pins s1 σ H1 _ I1 ⟨ρ, S1, M1, o1, r.step st1, (Post.bind h1).wn⟩) fun w2 s2 ⟨y, H2, I2, ry, vd, S2, M2, st2, o2, r2, h2⟩ => ?_
  refine thn (hr.run pins s2 σ H2 _ I2 ⟨ρ, S2, M2, o2, (r.step st1).step st2, Post.bind h2⟩) fun ws s3 ⟨qs, H3, I3, rel, ps, S3, M3, st3, o3, r3, h3⟩ => ?_
  refine ⟨(x, y) :: qs, H3, I3, .cons ⟨rx, ry⟩ rel, h3 _ H3 M3 (Stp.refl _ _) o3 ⟨.cons ((r1.step st2).step st3) r3.1, .cons (r2.step st3) r3.2⟩⟩⟩
theorem pr_of {M : MF} {H : Hp} : ∀ {qs : List (V × V)} {us : List (Value × Value)} {ps : List (D × D)}, VV qs us → VPs B M H qs ps → PR B M H us ps
  | [], _, ps, r, h => by
    cases r
    cases ps with
    | nil => exact .nil
    | cons p ps => exact absurd h.1 (by intro z; cases z)
  | q :: qs, _, ps, r, h => by
    cases r with
    | cons a t =>
    cases ps with
    | nil => exact absurd h.1 (by intro z; cases z)
    | cons p ps =>
      obtain ⟨h1, h2⟩ := h
      cases h1 with
      | cons x1 t1 =>
      cases h2 with
      | cons x2 t2 =>
      exact .cons a.1 x1 a.2 x2 (pr_of t ⟨t1, t2⟩)
def fDic (m : Bool) (f : DenP) : Den := fun ρ S => (f ρ S).bindN fun ps S => dispO m ps S
theorem carries_pr {P : Program} {w : World} {us : List (Value × Value)} {kvs : List (L2.Key × Value)} (hl : kvs.length = us.length) (h : ∀ (i : Nat) u r, us[i]? = some (u, r) → ∃ k, kvs[i]? = some (k, r) ∧ keyIs k u = true) : Carries (mixKind P w) us kvs := by
  induction us generalizing kvs with
  | nil => cases kvs with
    | nil => exact True.intro
    | cons a b => simp at hl
  | cons p us ih =>
    cases kvs with
    | nil => simp at hl
    | cons a kvs =>
      obtain ⟨u, r⟩ := p
      obtain ⟨k, e, q⟩ := h 0 u r (by simp)
      simp at e
      subst e
      exact ⟨q, rfl, ih (by simpa using hl) fun i u r e => by
        obtain ⟨k, e1, e2⟩ := h (i + 1) u r (by simpa using e)
        exact ⟨k, by simpa using e1, e2⟩⟩
theorem newDictO {P : Program} {w : World} {H : Hp} (h : Heap) : ObjOk P w H (h.push { cls := .type "dict", data := .dict #[] }) h.objs.size (DictO h.objs.size #[] 0) :=
  ⟨⟨_, Heap.get?_push_size _ rfl, ⟨rfl, rfl, rfl⟩, rfl⟩, ⟨_, Heap.get?_push_size _ rfl⟩, fun h1 h2 a e => a.at e⟩
theorem ax_dic {keys : List (Option Expr)} {values : List Expr} {f : DenP} (h : PP (bs X g) X pos keys values f) (hall : keys.all (·.isSome) = true) (hl : keys.length = values.length) (h0 : keys ≠ []) (h15 : keys.length ≤ 15) : AX (bs X g) W X (.Dict keys values pos) (fDic m f) := by
  refine AX.of ⟨fun pins s σ H Q I q => ?_⟩
  obtain ⟨ρ, S, M, o, r, q⟩ := q
  have q : RP (f ρ S) fun ps S' => PostV (bs X g) W σ M H (dispO m ps S') Q := by
    unfold fDic at q
    cases e : f ρ S with
    | ok a S1 => rw [e] at q; exact q
    | exc c v S1 => rw [e] at q; exact q.elim
    | fail => rw [e] at q; exact q.elim
  have hn := I.hok.fresh (Nat.le_refl s.heap.objs.size)
  have I1 := I.laid (a := s.heap.objs.size) (o := DictO s.heap.objs.size #[] 0) (h' := s.heap.push { cls := .type "dict", data := .dict #[] }) (t' := s.toks) (fun _ _ q => Heap.get?_push_of_some _ q) (Nat.le_refl _) (newDictO s.heap)
  have c0 := CS.start (B := bs X g) (o := DictO s.heap.objs.size #[] 0) o hn
  have ar0 := r.later (Later.addF (o := DictO s.heap.objs.size #[] 0) hn)
  refine wpAny_Dict_walk (knd := mixKind X.prog X.w) hall hl h0 h15 (thn (h.run pins _ σ _ _ I1 ⟨ρ, S, _, c0.or, ar0, q.post σ _ _⟩) fun us s2 ⟨qs, H2, I2, rel, ps, S2, M2, st2, o2, rp, h2⟩ => ?_)
  have c2 := c0.step st2 o2
  have e2 := c0.here st2 upd_same
  have pr := pr_of rel rp
  unfold dispO at h2
  split at h2
  · rename_i hk
    rw [Bool.and_eq_true, List.all_eq_true] at hk
    obtain ⟨kvs, lx, ix, al⟩ := pr.leaf hk.1
    have fi := foldP_inv (ps := ps) (ks := []) (vs := []) rfl .nil
    have raw := Inv.raw I2 e2
    obtain ⟨es0, a0, d0⟩ := dict_flat (g := g) I2 e2 (ks := []) (vs := []) (M := M2) .nil .nil (by simp)
    cases a0
    refine ⟨kvs, carries_pr lx ix, d0, fun h' dd' hs => ?_⟩
    obtain ⟨ob, es, ep, ho, hc', hdt, hkk, hpp, _⟩ := dd'
    have de : DEs (bs X g) M2 H2 es.toList (foldP ps [] []).1 (foldP ps [] []).2 := AL.to_des (al .nil .nil) hpp fun e he => by
      obtain ⟨k, h1, h2⟩ := hkk e (by simpa using he)
      exact ⟨k, h1, h2⟩
    have sz : es.size ≤ sizeLine := by
      have e1 := (DEs.length de).1
      have e3 : es.toList.length = es.size := by simp
      have := fi.2.2.1
      simp only [List.length_nil] at this
      have h15' : ps.length ≤ 15 := Nat.le_of_ble_eq_true hk.2
      rw [sizeLine_eq]
      omega
    have kk : keysOk (foldP ps [] []).1 = true := by
      unfold keysOk
      rw [Bool.or_eq_true, List.all_eq_true, List.all_eq_true]
      exact .inr fun x hx => (fi.2.2.2 x hx).elim (fun z => by cases z) fun z => by
        obtain ⟨p, hp, rfl⟩ := List.mem_map.mp z
        exact hk.1 p hp
    have hp : s.heap.objs.size ∈ M2.f := by rw [c2.f]; exact List.mem_cons_self
    obtain ⟨c3, l3⟩ := c2.wr (o := DictO s.heap.objs.size es ep)
    refine ⟨.ref s.heap.objs.size, _, Inv.dWrite (X := X) (tk := s2.toks + us.length) I2 e2 ⟨ob, ho, hc', hdt⟩ hs, rfl, ?_⟩
    exact c3.dct upd_same (sysM_ne I) sz (de.fen hp) fi.2.1 kk h2
  · exact h2.elim
/-- the empty display -/
theorem ax_dic0 : AX (bs X g) W X (.Dict [] [] pos) (fDic m (fun _ S => .ok [] S)) := by
  refine AX.of ⟨fun pins s σ H Q I q => ?_⟩
  obtain ⟨ρ, S, M, o, r, q⟩ := q
  have hn := I.hok.fresh (Nat.le_refl s.heap.objs.size)
  refine wpAny_Dict_empty ⟨.ref s.heap.objs.size, _, I.laid (a := s.heap.objs.size) (o := DictO s.heap.objs.size #[] 0) (t' := s.toks) (fun _ _ q => Heap.get?_push_of_some _ q) (Nat.le_refl _) (newDictO s.heap), rfl, ?_⟩
  have q : PostV (bs X g) W σ M H (mkO m (.dct [] []) S) Q := q
  exact mk_dct o hn (sysM_ne I) (Nat.zero_le _) .nil .nil rfl q
end
end QL
set_option Elab.async false
set_option linter.all false
set_option maxRecDepth 100000
set_option maxHeartbeats 4000000
/-! QL25: how a call's arguments are bound. -/
namespace QL
open PySem PySem.Spec L2
open PyProof.Rows hiding St
section
variable {α β : Type}
theorem forIn_yield {m : Type → Type} [Monad m] [LawfulMonad m] {σ : Type} {f : α → σ → m (ForInStep σ)} {g : α → σ → σ} {I : List α → σ → Prop} (h : ∀ x xs s, I (x :: xs) s → f x s = pure (.yield (g x s)) ∧ I xs (g x s)) :
    ∀ {l : List α} {s : σ}, I l s → forIn l s f = (pure (l.foldl (fun s x => g x s) s) : m σ)
  | [], s, _ => by simp
  | x :: xs, s, i => by
    obtain ⟨e, i⟩ := h x xs s i
    rw [List.forIn_cons, e, pure_bind, List.foldl_cons]
    exact forIn_yield h i
/-- the slots behind the defaults -/
def fillD (slots : List (Str × α)) : List (Str × α) → List (Str × α)
  | [] => slots
  | p :: r => fillD (if (slots.lookup p.1).isNone then slots ++ [p] else slots) r
theorem foldl_fill : ∀ {l : List (Str × α)} {s : List (Str × α)}, l.foldl (fun s (x : Str × α) => if (s.lookup x.1).isNone = true then s ++ [(x.1, x.2)] else s) s = fillD s l
  | [], s => rfl
  | p :: r, s => by
    rw [List.foldl_cons, foldl_fill]; rfl
theorem lookup_app {s : List (Str × α)} {t : List (Str × α)} {x : Str} : (s ++ t).lookup x = (s.lookup x).or (t.lookup x) := by
  induction s with
  | nil => simp
  | cons p s ih =>
    obtain ⟨y, v⟩ := p
    rw [List.cons_append, List.lookup_cons, List.lookup_cons]
    split <;> simp [ih]
theorem fill_look {x : Str} : ∀ {l : List (Str × α)} {s : List (Str × α)}, (fillD s l).lookup x = (s.lookup x).or (l.lookup x)
  | [], s => by simp [fillD]
  | p :: r, s => by
    obtain ⟨y, v⟩ := p
    unfold fillD
    rw [fill_look (l := r)]
    by_cases hs : (s.lookup y).isNone = true
    · rw [if_pos hs, lookup_app]
      rw [List.lookup_cons (as := r)]
      by_cases hxy : x = y
      · subst hxy
        rw [Option.isNone_iff_eq_none] at hs
        simp [hs]
      · have : (x == y) = false := by simpa using hxy
        simp [List.lookup_cons, this]
    · rw [if_neg hs]
      rw [List.lookup_cons (as := r)]
      by_cases hxy : x = y
      · subst hxy
        obtain ⟨v', hv⟩ := Option.isSome_iff_exists.mp (by simpa using hs : (s.lookup x).isSome = true)
        simp [hv]
      · have : (x == y) = false := by simpa using hxy
        simp [this]
theorem zip_look {x : Str} : ∀ {N : List Str} {us : List α} {i : Nat}, N.Nodup → N[i]? = some x → (N.zip us).lookup x = us[i]?
  | [], _, _, _, h => by simp at h
  | n :: N, [], i, _, _ => by simp
  | n :: N, u :: us, 0, _, h => by
    simp at h; subst h
    simp
  | n :: N, u :: us, i + 1, nd, h => by
    obtain ⟨h1, h2⟩ := List.nodup_cons.mp nd
    have hx : x ∈ N := List.mem_of_getElem? (by simpa using h)
    have : (x == n) = false := by
      rw [beq_eq_false_iff_ne]
      rintro rfl
      exact h1 hx
    rw [List.zip_cons_cons, List.lookup_cons, this]
    simp only
    rw [zip_look h2 (by simpa using h)]
    simp
theorem filterMap_zip {N : List Str} {vals : List α} {s : List (Str × α)} (hl : vals.length = N.length) (h : ∀ (i : Nat) x, N[i]? = some x → s.lookup x = vals[i]?) : N.filterMap (fun n => (s.lookup n).map fun v => (n, v)) = N.zip vals := by
  induction N generalizing vals with
  | nil => rfl
  | cons n N ih =>
    cases vals with
    | nil => simp at hl
    | cons v vals =>
      have h0 := h 0 n (by simp)
      simp at h0
      rw [List.filterMap_cons, h0]
      simp only [Option.map_some, List.zip_cons_cons]
      rw [ih (by simpa using hl) fun i x e => by simpa using h (i + 1) x (by simpa using e)]
end
/-- plain parameters N -/
structure PlainP (p : Arguments) (N : List Str) : Prop where
  po : p.posonlyargs = []
  ko : p.kwonlyargs = []
  va : p.vararg = none
  kw : p.kwarg = none
  ar : p.args.map (·.arg) = N
  nd : N.Nodup
/-- the binder, on plain parameters -/
theorem bind_plain {fd : FuncData} {args : Args} {N : List Str} {vals : List Value} (p : PlainP fd.params N) (hl : vals.length = N.length) (hp : args.pos.length ≤ N.length) (hk1 : ∀ q ∈ args.kw, q.1 ∈ N.drop args.pos.length) (hk2 : (args.kw.map (·.1)).Nodup)
    {df : List Value} (hd : df.length ≤ N.length) (hv : ∀ (i : Nat) x, N[i]? = some x → vals[i]? = (args.pos[i]?).or ((args.kw.lookup x).or (((N.drop (N.length - df.length)).zip df).lookup x))) :
    ∃ k : Option (Array Value) → Sem (List (Str × Value)), bindArgs fd args = seqItems? fd.defaults >>= k ∧ ∀ o, (o.getD #[]).toList = df → k o = pure (N.zip vals) := by
  have hloop : ∀ (f : (Str × Value) → (List (Str × Value) × List (Str × Value)) → Sem (ForInStep (List (Str × Value) × List (Str × Value)))), (∀ x s, N.contains x.1 = true → (s.1.lookup x.1).isSome = false → f x s = pure (.yield (s.1 ++ [(x.1, x.2)], s.2))) →
      forIn args.kw (N.zip args.pos, []) f = (pure (N.zip args.pos ++ args.kw, []) : Sem _) := fun f hf => by
    have := forIn_yield (m := Sem) (f := f) (g := fun x s => (s.1 ++ [(x.1, x.2)], s.2)) (I := fun l s => (∀ q ∈ l, q.1 ∈ N ∧ s.1.lookup q.1 = none) ∧ (l.map (·.1)).Nodup) (fun x xs s i => by
      obtain ⟨i1, i2⟩ := i
      obtain ⟨a, b⟩ := i1 x List.mem_cons_self
      refine ⟨hf x s (by simpa using a) (by simp [b]), fun q hq => ⟨(i1 q (List.mem_cons_of_mem _ hq)).1, ?_⟩, ?_⟩
      · show (s.1 ++ [(x.1, x.2)]).lookup q.1 = none
        rw [lookup_app, (i1 q (List.mem_cons_of_mem _ hq)).2]
        have : (q.1 == x.1) = false := by
          rw [beq_eq_false_iff_ne]
          intro e
          rw [List.map_cons, List.nodup_cons] at i2
          exact i2.1 (List.mem_map.mpr ⟨q, hq, e⟩)
        simp [List.lookup_cons, this]
      · rw [List.map_cons, List.nodup_cons] at i2
        exact i2.2) (l := args.kw) (s := (N.zip args.pos, [])) ⟨fun q hq => ⟨List.mem_of_mem_drop (hk1 q hq), ?_⟩, hk2⟩
    · rw [this]
      congr 1
      have : ∀ (l : List (Str × Value)) (s : List (Str × Value) × List (Str × Value)), l.foldl (fun s (x : Str × Value) => (s.1 ++ [(x.1, x.2)], s.2)) s = (s.1 ++ l, s.2) := by
        intro l
        induction l with
        | nil => intro s; simp
        | cons a l ih => intro s; rw [List.foldl_cons, ih]; simp
      rw [this]
    · obtain ⟨i, hi⟩ := List.mem_iff_getElem?.mp (hk1 q hq)
      rw [List.getElem?_drop] at hi
      show (N.zip args.pos).lookup q.1 = none
      rw [zip_look p.nd hi]
      simp
  unfold bindArgs
  simp only [p.po, p.ko, p.va, p.kw, p.ar, List.map_nil, List.nil_append, List.contains_nil, Bool.or_false, Option.isSome_none, Bool.false_eq_true, if_false, Option.isNone_none, Bool.and_true, List.append_nil, List.filter_nil, List.forIn_nil, List.length_nil]
  rw [hloop _ (fun x s a b => by simp only [a, b, if_true, Bool.false_eq_true, if_false])]
  rw [pure_bind]
  refine ⟨_, rfl, fun o ho => ?_⟩
  have hmiss : ((N.take (N.length - df.length)).filter fun n => ((N.zip args.pos ++ args.kw).lookup n).isNone) = [] := by
    rw [List.filter_eq_nil_iff]
    intro n hn
    obtain ⟨i, hi⟩ := List.mem_iff_getElem?.mp hn
    have hlt : i < N.length - df.length := by
      have := (List.getElem?_eq_some_iff.mp hi).1
      rw [List.length_take] at this
      omega
    rw [List.getElem?_take_of_lt hlt] at hi
    have hx := hv i n hi
    rw [List.getElem?_eq_getElem (by omega)] at hx
    have hz : ((N.drop (N.length - df.length)).zip df).lookup n = none := by
      cases e : ((N.drop (N.length - df.length)).zip df).lookup n with
      | none => rfl
      | some v =>
        have hm := (List.of_mem_zip (PySem.mem_of_lookup e)).1
        obtain ⟨j, hj⟩ := List.mem_iff_getElem?.mp hm
        rw [List.getElem?_drop] at hj
        have h1 := (List.getElem?_eq_some_iff.mp hi)
        have h2 := (List.getElem?_eq_some_iff.mp hj)
        obtain ⟨a1, b1⟩ := h1
        obtain ⟨a2, b2⟩ := h2
        have := (List.getElem_inj p.nd).mp (b1.trans b2.symm)
        omega
    rw [hz] at hx
    rw [lookup_app, zip_look p.nd hi]
    simp only [Option.or_none] at hx
    rw [← hx]
    simp
  have hdrop : df.length - N.length = 0 := by omega
  have hgt : decide (args.pos.length > N.length) = false := by simpa using hp
  simp only [ho, hdrop, List.drop_zero, hgt, hmiss, Bool.false_eq_true, if_false, List.isEmpty_nil, Bool.not_true]
  have hfill : ∀ (f : (Str × Value) → List (Str × Value) → Sem (ForInStep (List (Str × Value)))), (∀ x s, f x s = pure (.yield (if (s.lookup x.1).isNone = true then s ++ [(x.1, x.2)] else s))) →
      forIn ((N.drop (N.length - df.length)).zip df) (N.zip args.pos ++ args.kw) f = (pure (fillD (N.zip args.pos ++ args.kw) ((N.drop (N.length - df.length)).zip df)) : Sem _) := fun f hf => by
    rw [forIn_yield (m := Sem) (f := f) (g := fun x s => if (s.lookup x.1).isNone = true then s ++ [(x.1, x.2)] else s) (I := fun _ _ => True) (fun x xs s _ => ⟨hf x s, trivial⟩) trivial, foldl_fill]
  rw [hfill _ (fun x s => by split <;> rfl)]
  simp only [pure_bind, List.isEmpty_nil, Bool.not_true, Bool.false_eq_true, if_false]
  congr 1
  refine filterMap_zip hl fun i x e => ?_
  rw [fill_look, lookup_app, zip_look p.nd e, hv i x e, Option.or_assoc]
end QL
set_option Elab.async false
set_option linter.all false
set_option maxRecDepth 100000
set_option maxHeartbeats 4000000
/-! QL26: a def's end. -/
namespace QL
open PySem PySem.Spec L2
open PyProof.Rows hiding St
section
variable {B : Bs} {M M' : MF} {H : Hp} {n : Nat}
theorem fall_out (hm : M.m = M'.m.take n) (hf : M.f = M'.f) {a : Addr} (h : M'.out a) : M.out a :=
  ⟨fun z => h.1 (List.mem_of_mem_take (by rw [← hm]; exact z)), fun z => h.2 (by rw [← hf]; exact z)⟩
mutual
theorem VR.fall (hm : M.m = M'.m.take n) (hf : M.f = M'.f) : ∀ {v : V} {d : D}, VR B M' H v d → D.under n d = true → VR B M H v d
  | _, _, .non, _ => .non
  | _, _, .bl b, _ => .bl b
  | _, _, .int i, _ => .int i
  | _, _, .str x, _ => .str x
  | _, _, .ty n, _ => .ty n
  | _, _, .gl e, _ => .gl e
  | _, _, .ref (k := k) e, h => .ref (by
      have hk : k < n := by have h := h; unfold D.under at h; exact Nat.le_of_ble_eq_true h
      rw [hm, List.getElem?_take_of_lt hk]; exact e)
  | _, _, .tup e o r, h => .tup e (fall_out hm hf o) (VRs.fall hm hf r (by simpa [D.under] using h))
  | _, _, .ktup e r, h => .ktup e (VRs.fall hm hf r (by simpa [D.under] using h))
  | _, _, .lst e o r, h => .lst e (fall_out hm hf o) (VRs.fall hm hf r (by simpa [D.under] using h))
  | _, _, .dct e o y z r nd kk, h => .dct e (fall_out hm hf o) y z (DEs.fall hm hf r (by have h := h; unfold D.under at h; rw [Bool.and_eq_true] at h; exact h.1) (by have h := h; unfold D.under at h; rw [Bool.and_eq_true] at h; exact h.2)) nd kk
theorem VRs.fall (hm : M.m = M'.m.take n) (hf : M.f = M'.f) : ∀ {v : List V} {d : List D}, VRs B M' H v d → D.unders n d = true → VRs B M H v d
  | _, _, .nil, _ => .nil
  | _, _, .cons r t, h => .cons (VR.fall hm hf r (by have h := h; unfold D.unders at h; rw [Bool.and_eq_true] at h; exact h.1)) (VRs.fall hm hf t (by have h := h; unfold D.unders at h; rw [Bool.and_eq_true] at h; exact h.2))
theorem DEs.fall (hm : M.m = M'.m.take n) (hf : M.f = M'.f) : ∀ {es : List DictEntry} {k v : List D}, DEs B M' H es k v → D.unders n k = true → D.unders n v = true → DEs B M H es k v
  | _, _, _, .nil, _, _ => .nil
  | _, _, _, .cons a b r t e q, h1, h2 => .cons a b (VR.fall hm hf r (by have h := h1; unfold D.unders at h; rw [Bool.and_eq_true] at h; exact h.1)) (VR.fall hm hf t (by have h := h2; unfold D.unders at h; rw [Bool.and_eq_true] at h; exact h.1)) e
      (DEs.fall hm hf q (by have h := h1; unfold D.unders at h; rw [Bool.and_eq_true] at h; exact h.2) (by have h := h2; unfold D.unders at h; rw [Bool.and_eq_true] at h; exact h.2))
end
mutual
theorem VR.under : ∀ {v : V} {d : D}, VR B M H v d → D.under M.m.length d = true
  | _, _, .non => rfl
  | _, _, .bl b => rfl
  | _, _, .int i => rfl
  | _, _, .str x => rfl
  | _, _, .ty n => rfl
  | _, _, .gl e => rfl
  | _, _, .ref e => by
      have := (List.getElem?_eq_some_iff.mp e).1
      unfold D.under
      exact Nat.ble_eq_true_of_le this
  | _, _, .tup e o r => by unfold D.under; exact VRs.under r
  | _, _, .ktup e r => by unfold D.under; exact VRs.under r
  | _, _, .lst e o r => by unfold D.under; exact VRs.under r
  | _, _, .dct e o y z r nd kk => by unfold D.under; rw [Bool.and_eq_true]; exact DEs.under r
theorem VRs.under : ∀ {v : List V} {d : List D}, VRs B M H v d → D.unders M.m.length d = true
  | _, _, .nil => rfl
  | _, _, .cons r t => by unfold D.unders; rw [Bool.and_eq_true]; exact ⟨VR.under r, VRs.under t⟩
theorem DEs.under : ∀ {es : List DictEntry} {k v : List D}, DEs B M H es k v → D.unders M.m.length k = true ∧ D.unders M.m.length v = true
  | _, _, _, .nil => ⟨rfl, rfl⟩
  | _, _, _, .cons a b r t e q => by unfold D.unders; rw [Bool.and_eq_true, Bool.and_eq_true]; exact ⟨⟨VR.under r, (DEs.under q).1⟩, VR.under t, (DEs.under q).2⟩
end
theorem mapM_vrs {f : D → Option D} (hf : ∀ v d d', VR B M' H v d → f d = some d' → VR B M H v d') : ∀ {vs : List V} {xs ys : List D}, VRs B M' H vs xs → xs.mapM f = some ys → VRs B M H vs ys
  | _, _, ys, .nil, e => by simp at e; subst e; exact .nil
  | _, _, ys, .cons (d := x) (ds := xs) r t, e => by
    rw [List.mapM_cons] at e
    simp only [Option.bind_eq_bind, Option.bind_eq_some_iff, Option.pure_def, Option.some.injEq] at e
    obtain ⟨y, e1, ys', e2, rfl⟩ := e
    exact .cons (hf _ _ _ r e1) (mapM_vrs hf t e2)
theorem mapM_des {f : D → Option D} (hm : M.m = M'.m.take n) (hmf : M.f = M'.f) (hf : ∀ v d d', VR B M' H v d → f d = some d' → VR B M H v d') : ∀ {es : List DictEntry} {ks xs ys : List D}, DEs B M' H es ks xs → D.unders n ks = true → xs.mapM f = some ys → DEs B M H es ks ys
  | _, _, _, ys, .nil, _, e => by simp at e; subst e; exact .nil
  | _, _, _, ys, .cons a b r t h q, u, e => by
    rw [List.mapM_cons] at e
    simp only [Option.bind_eq_bind, Option.bind_eq_some_iff, Option.pure_def, Option.some.injEq] at e
    obtain ⟨y, e1, ys', e2, rfl⟩ := e
    unfold D.unders at u
    rw [Bool.and_eq_true] at u
    exact .cons a b (VR.fall hm hmf r u.1) (hf _ _ _ t e1) h (mapM_des hm hmf hf q u.2 e2)
theorem thaw_vr {S : Ob} (hm : M.m = M'.m.take n) (hmf : M.f = M'.f) (o : OR B M' H S) : ∀ (m : Nat) (v : V) (d d' : D), VR B M' H v d → thaw n S m d = some d' → VR B M H v d'
  | 0, v, d, d', r, e => by
    unfold thaw at e
    split at e
    · rename_i u
      cases e
      exact VR.fall hm hmf r u
    · cases e
  | m + 1, v, d, d', r, e => by
    unfold thaw at e
    split at e
    · rename_i u
      cases e
      exact VR.fall hm hmf r u
    · rename_i nu
      have ih := thaw_vr hm hmf o m
      split at e
      · rename_i k
        cases r with
        | @ref _ a e1 =>
        have hk : n ≤ k := by
          refine Nat.le_of_not_lt fun z => nu ?_
          unfold D.under
          exact Nat.ble_eq_true_of_le z
        have hout : M.out a := by
          refine ⟨fun z => ?_, fun z => (o.fen a (by rw [← hmf]; exact z)).1 (List.mem_of_getElem? e1)⟩
          rw [hm] at z
          obtain ⟨j, hj⟩ := List.mem_iff_getElem?.mp z
          have hjn : j < n := by
            have := (List.getElem?_eq_some_iff.mp hj).1
            rw [List.length_take] at this
            omega
          rw [List.getElem?_take_of_lt hjn] at hj
          obtain ⟨l1, b1⟩ := List.getElem?_eq_some_iff.mp hj
          obtain ⟨l2, b2⟩ := List.getElem?_eq_some_iff.mp e1
          have := (List.getElem_inj o.nd).mp (b1.trans b2.symm)
          omega
        split at e
        · rename_i xs e2
          rw [Option.map_eq_some_iff] at e
          obtain ⟨ys, e3, rfl⟩ := e
          cases o.at_ k _ a e2 e1 with
          | lst h q => exact .lst (.inl h) hout (mapM_vrs ih q e3)
        · rename_i ks vs e2
          split at e
          · rename_i hk2
            rw [Bool.and_eq_true] at hk2
            rw [Option.map_eq_some_iff] at e
            obtain ⟨ys, e3, rfl⟩ := e
            cases o.at_ k _ a e2 e1 with
            | dct h y z q nd kk => exact .dct h hout y z (mapM_des hm hmf ih q hk2.1 e3) nd kk
          · cases e
        · cases e
      · rename_i xs
        rw [Option.map_eq_some_iff] at e
        obtain ⟨ys, e3, rfl⟩ := e
        cases r with
        | tup e1 n1 r => exact .tup e1 (fall_out hm hmf n1) (mapM_vrs ih r e3)
        | ktup e1 r => exact .ktup e1 (mapM_vrs ih r e3)
      · cases e
theorem ORo.fall {a : Addr} {u : AO} (hm : M.m = M'.m.take n) (hf : M.f = M'.f) (r : ORo B M' H a u) (h : u.under n = true) : ORo B M H a u := by
  cases r with
  | lst e q => exact .lst e (q.fall hm hf h)
  | dct e y z q nd kk =>
    unfold AO.under at h
    rw [Bool.and_eq_true] at h
    exact .dct e y z (q.fall hm hf h.1 h.2) nd kk
theorem ORo.under {a : Addr} {u : AO} (r : ORo B M H a u) : u.under M.m.length = true := by
  cases r with
  | lst e q => exact q.under
  | dct e y z q nd kk =>
    unfold AO.under
    rw [Bool.and_eq_true]
    exact q.under
end
theorem Stp.take {M M' : MF} {H H' : Hp} (s : Stp M H M' H') : M.m = M'.m.take M.m.length ∧ M.f = M'.f := by
  obtain ⟨f, ⟨L, e, _⟩, _⟩ := s
  exact ⟨by rw [e]; simp, f.symm⟩
/-- a def's end: what it made is plain data -/
theorem fin_vr {B : Bs} {M M' : MF} {H H' : Hp} {S0 S S' : Ob} {v : V} {d d' : D} {frz : Bool} (s : Stp M H M' H') (o0 : OR B M H S0) (o : OR B M' H' S) (r : VR B M' H' v d) (h : finD frz S0 d S = .ok d' S') : ∃ M'', Stp M H M'' H' ∧ OR B M'' H' S' ∧ VR B M'' H' v d' := by
  cases frz with
  | false => cases h; exact ⟨M', s, o, r⟩
  | true =>
    unfold finD at h
    dsimp only at h
    split at h
    · cases h; exact ⟨M', s, o, r⟩
    · split at h
      · rename_i hk
        rw [Bool.and_eq_true] at hk
        have hle : S0.length ≤ S.length := Nat.le_of_ble_eq_true hk.2
        cases e : thaw S0.length S 4 d with
        | none => rw [e] at h; cases h
        | some v' =>
          rw [e] at h
          cases h
          obtain ⟨hm, hf⟩ := s.take
          rw [o0.len] at hm
          refine ⟨M, ⟨rfl, ⟨[], by simp, by simp⟩, s.keep⟩, ⟨?_, o0.nd, fun a ha => ?_, fun k u a h1 h2 => ?_⟩, thaw_vr hm hf o 4 _ _ _ r e⟩
          · rw [List.length_take, o0.len]; omega
          · have := o.fen a (by rw [← hf]; exact ha)
            exact ⟨(o0.fen a ha).1, this.2⟩
          · have hk1 : k < S0.length := by
              have := (List.getElem?_eq_some_iff.mp h2).1
              rw [o0.len] at this; exact this
            rw [List.getElem?_take_of_lt hk1] at h1
            have h2' : M'.m[k]? = some a := s.at h2
            have q := o.at_ k u a h1 h2'
            have q0 := o0.at_ k S0[k] a (by simp [hk1]) h2
            have hz := List.all_eq_true.mp hk.1 (u, S0[k]) (by
              rw [List.mem_iff_getElem?]
              refine ⟨k, ?_⟩
              rw [List.getElem?_zip_eq_some]
              exact ⟨by rw [List.getElem?_take_of_lt hk1]; exact h1, by simp [hk1]⟩)
            refine q.fall hm hf ?_
            rw [Bool.or_eq_true, decide_eq_true_eq] at hz
            rcases hz with hz | hz
            · simp only at hz
              rw [hz, ← o0.len]
              exact q0.under
            · exact hz
      · cases h
theorem fin_ne {frz : Bool} {S0 S S' : Ob} {d v : D} {c : Nat} : finD frz S0 d S ≠ .exc c v S' := by
  cases frz with
  | false => intro h; cases h
  | true =>
    unfold finD
    dsimp only
    split
    · intro h; cases h
    · split
      · split <;> intro h <;> cases h
      · intro h; cases h
end QL
set_option Elab.async false
set_option linter.all false
set_option maxRecDepth 100000
set_option maxHeartbeats 4000000
/-! QL27: the parameters' values. -/
namespace QL
open PySem PySem.Spec L2
open PyProof.Rows hiding St
theorem optAll_get {α : Type} : ∀ {l : List (Option α)} {r : List α}, optAll l = some r → r.length = l.length ∧ ∀ (i : Nat) x, l[i]? = some x → ∃ a, x = some a ∧ r[i]? = some a
  | [], r, h => by cases h; exact ⟨rfl, by simp⟩
  | none :: l, r, h => by cases h
  | some a :: l, r, h => by
    unfold optAll at h
    rw [Option.map_eq_some_iff] at h
    obtain ⟨r', e, rfl⟩ := h
    obtain ⟨h1, h2⟩ := optAll_get e
    refine ⟨by simp [h1], fun i x e => ?_⟩
    cases i with
    | zero => simp at e; exact ⟨a, e.symm, by simp⟩
    | succ i => obtain ⟨b, e1, e2⟩ := h2 i x (by simpa using e); exact ⟨b, e1, by simpa using e2⟩
theorem ndB_nd : ∀ {l : List Nat}, ndB l = true → l.Nodup
  | [], _ => .nil
  | k :: ks, h => by
    unfold ndB at h
    rw [Bool.and_eq_true, List.all_eq_true] at h
    exact List.nodup_cons.mpr ⟨fun hk => by have := h.1 k hk; simp at this, ndB_nd h.2⟩
theorem look_zip : ∀ {ks : List Nat} {i m : Nat}, look (ks.zipIdx m) i = none → i ∉ ks
  | [], _, _, _ => by simp
  | k :: ks, i, m, h => by
    rw [List.zipIdx_cons] at h
    unfold look at h
    split at h
    · cases h
    · rename_i hk
      have := look_zip h
      have hne : i ≠ k := by rintro rfl; simp at hk
      simp [this, hne]
theorem look_zip_some : ∀ {ks : List Nat} {i m j : Nat}, look (ks.zipIdx m) i = some j → ∃ p, j = m + p ∧ ks[p]? = some i
  | [], _, _, _, h => by simp [look] at h
  | k :: ks, i, m, j, h => by
    rw [List.zipIdx_cons] at h
    unfold look at h
    split at h
    · rename_i hk
      cases h
      exact ⟨0, rfl, by simp [Nat.eq_of_beq_eq_true hk]⟩
    · obtain ⟨p, e, e2⟩ := look_zip_some h
      exact ⟨p + 1, by omega, by simpa using e2⟩
theorem lookup_none {α : Type} {x : Str} : ∀ {names : List Str} {ws : List α}, x ∉ names → (names.zip ws).lookup x = none
  | [], _, _ => rfl
  | n :: names, [], _ => by simp
  | n :: names, w :: ws, h => by
    have h1 : (x == n) = false := by rw [beq_eq_false_iff_ne]; rintro rfl; simp at h
    rw [List.zip_cons_cons, List.lookup_cons, h1]
    exact lookup_none fun z => h (List.mem_cons_of_mem _ z)
/-- chosen by index -/
def pick {α : Type} (L : List α) (z : α) (ixs : List Nat) : List α := ixs.map fun i => (L[i]?).getD z
/-- the keywords' names -/
def kwNames (N : List Str) (ks : List Nat) : List Str := ks.filterMap fun k => N[k]?
theorem kwN_len {N : List Str} : ∀ {ks : List Nat}, (∀ k ∈ ks, k < N.length) → (kwNames N ks).length = ks.length ∧ ∀ (p k : Nat), ks[p]? = some k → (kwNames N ks)[p]? = N[k]?
  | [], _ => ⟨rfl, by simp⟩
  | k :: ks, h => by
    obtain ⟨h1, h2⟩ := kwN_len (N := N) (ks := ks) fun j hj => h j (List.mem_cons_of_mem _ hj)
    have hk := h k List.mem_cons_self
    have e : kwNames N (k :: ks) = N[k] :: kwNames N ks := by
      unfold kwNames
      rw [List.filterMap_cons]
      simp [hk]
    rw [e]
    refine ⟨by simp [h1], fun p j e => ?_⟩
    cases p with
    | zero => simp at e; subst e; simp [hk]
    | succ p => simpa using h2 p j (by simpa using e)
theorem kwN_mem {N : List Str} {ks : List Nat} {x : Str} (h : x ∈ kwNames N ks) : ∃ k ∈ ks, N[k]? = some x := by
  unfold kwNames at h
  rw [List.mem_filterMap] at h
  exact h
theorem kwN_nd {N : List Str} (nd : N.Nodup) : ∀ {ks : List Nat}, (∀ k ∈ ks, k < N.length) → ks.Nodup → (kwNames N ks).Nodup
  | [], _, _ => .nil
  | k :: ks, h, hn => by
    have hk := h k List.mem_cons_self
    have e : kwNames N (k :: ks) = N[k] :: kwNames N ks := by
      unfold kwNames
      rw [List.filterMap_cons]
      simp [hk]
    rw [e]
    obtain ⟨n1, n2⟩ := List.nodup_cons.mp hn
    refine List.nodup_cons.mpr ⟨fun z => ?_, kwN_nd nd (fun j hj => h j (List.mem_cons_of_mem _ hj)) n2⟩
    obtain ⟨j, hj, ej⟩ := kwN_mem z
    have hl := h j (List.mem_cons_of_mem _ hj)
    rw [List.getElem?_eq_getElem hl] at ej
    have ej := Option.some.inj ej
    have := (List.getElem_inj nd).mp ej
    subst this
    exact n1 hj
theorem bindIx_src {n dl na : Nat} {ks ixs : List Nat} (h : bindIx n dl na ks = some ixs) :
    (ks.length ≤ na ∧ na - ks.length ≤ n ∧ dl ≤ n ∧ (∀ k ∈ ks, na - ks.length ≤ k ∧ k < n) ∧ ks.Nodup) ∧ ixs.length = n ∧ ∀ i, i < n → ∃ j, srcAt (na - ks.length) na dl n ks i = some j ∧ ixs[i]? = some j := by
  unfold bindIx at h
  split at h
  · rename_i hc
    simp only [Bool.and_eq_true, List.all_eq_true] at hc
    obtain ⟨⟨⟨⟨c1, c2⟩, c3⟩, c4⟩, c5⟩ := hc
    obtain ⟨h1, h2⟩ := optAll_get h
    refine ⟨⟨Nat.le_of_ble_eq_true c1, Nat.le_of_ble_eq_true c2, Nat.le_of_ble_eq_true c3, fun k hk => ⟨Nat.le_of_ble_eq_true (c4 k hk).1, Nat.le_of_ble_eq_true (c4 k hk).2⟩, ndB_nd c5⟩, by simpa using h1, fun i hi => ?_⟩
    obtain ⟨j, e1, e2⟩ := h2 i _ (by rw [List.getElem?_map, List.getElem?_range hi]; rfl)
    exact ⟨j, e1, e2⟩
  · cases h
/-- the values are bound so -/
theorem bindIx_binds {fd : FuncData} {N : List Str} {ks ixs : List Nat} {us ws df : List Value} (p : PlainP fd.params N) (h : bindIx N.length df.length (us.length + ks.length) ks = some ixs) (hw : ws.length = ks.length) :
    ∃ k : Option (Array Value) → Sem (List (Str × Value)), bindArgs fd ⟨us, (kwNames N ks).zip ws⟩ = seqItems? fd.defaults >>= k ∧ ∀ o, (o.getD #[]).toList = df → k o = pure (N.zip (pick (us ++ ws ++ df) .none ixs)) := by
  obtain ⟨⟨c1, c2, c3, c4, c5⟩, hl, hs⟩ := bindIx_src h
  rw [Nat.add_sub_cancel] at c2 c4 hs
  have hks : ∀ k ∈ ks, k < N.length := fun k hk => (c4 k hk).2
  have hkl := kwN_len hks
  refine bind_plain p (by simp [pick, hl]) c2 (fun q hq => ?_) ?_ c3 fun i x e => ?_
  · obtain ⟨k, hk, ek⟩ := kwN_mem (List.of_mem_zip hq).1
    have := c4 k hk
    rw [List.mem_iff_getElem?]
    exact ⟨k - us.length, by rw [List.getElem?_drop]; rw [show us.length + (k - us.length) = k by omega]; exact ek⟩
  · rw [List.map_fst_zip (by omega)]
    exact kwN_nd p.nd hks c5
  · have hi : i < N.length := (List.getElem?_eq_some_iff.mp e).1
    obtain ⟨j, e1, e2⟩ := hs i hi
    have e0 : (pick (us ++ ws ++ df) .none ixs)[i]? = some (((us ++ ws ++ df)[j]?).getD .none) := by
      unfold pick
      rw [List.getElem?_map, e2]; rfl
    rw [e0]
    unfold srcAt at e1
    split at e1
    · rename_i hlt
      cases e1
      have hlt : i < us.length := Nat.le_of_ble_eq_true hlt
      rw [List.append_assoc, List.getElem?_append_left hlt]
      simp [hlt]
    · rename_i hlt
      have hge : us.length ≤ i := by
        refine Nat.le_of_not_lt fun z => hlt (Nat.ble_eq_true_of_le z)
      have hn : us[i]? = none := by simp [hge]
      show _ = (us[i]?).or _
      rw [hn, Option.none_or]
      split at e1
      · rename_i j' ej
        cases e1
        obtain ⟨q, rfl, hq⟩ := look_zip_some ej
        have hq2 : q < ws.length := by rw [hw]; exact (List.getElem?_eq_some_iff.mp hq).1
        have hx : (kwNames N ks)[q]? = some x := by rw [hkl.2 q i hq]; exact e
        have := zip_look (us := ws) (kwN_nd p.nd hks c5) hx
        show _ = (((kwNames N ks).zip ws).lookup x).or _
        rw [this, List.append_assoc, List.getElem?_append_right (by omega), List.getElem?_append_left (by omega)]
        simp [hq2]
      · rename_i ej
        split at e1
        · rename_i hd
          cases e1
          have hd : N.length ≤ i + df.length := Nat.le_of_ble_eq_true hd
          have hnk : x ∉ kwNames N ks := fun z => by
            obtain ⟨k, hk, ek⟩ := kwN_mem z
            have hkl2 := hks k hk
            obtain ⟨a1, b1⟩ := List.getElem?_eq_some_iff.mp e
            obtain ⟨a2, b2⟩ := List.getElem?_eq_some_iff.mp ek
            have := (List.getElem_inj p.nd).mp (b1.trans b2.symm)
            subst this
            exact look_zip ej hk
          show _ = (((kwNames N ks).zip ws).lookup x).or _
          rw [lookup_none hnk, Option.none_or]
          have hx : (N.drop (N.length - df.length))[i - (N.length - df.length)]? = some x := by
            rw [List.getElem?_drop, show N.length - df.length + (i - (N.length - df.length)) = i by omega]
            exact e
          rw [zip_look (p.nd.sublist (List.drop_sublist _ _)) hx]
          rw [List.getElem?_append_right (by rw [List.length_append]; omega)]
          rw [show us.length + ks.length + (i + df.length - N.length) - (us ++ ws).length = i - (N.length - df.length) by rw [List.length_append]; omega]
          have : i - (N.length - df.length) < df.length := by omega
          simp [this]
        · cases e1
theorem pick_vals {vs : List V} {us : List Value} (r : Vals vs us) (ixs : List Nat) : Vals (pick vs .non ixs) (pick us .none ixs) := by
  induction ixs with
  | nil => exact .nil
  | cons i ixs ih =>
    refine .cons ?_ ih
    show RelV ((vs[i]?).getD .non) ((us[i]?).getD .none)
    cases e : vs[i]? with
    | none =>
      have : us[i]? = none := r.none_of e
      rw [this]; exact rfl
    | some v =>
      obtain ⟨u, h1, h2⟩ := r.get e
      rw [h1]; exact h2
theorem pick_vrs {B : Bs} {M : MF} {H : Hp} {vs : List V} {ds : List D} (r : VRs B M H vs ds) (ixs : List Nat) : VRs B M H (pick vs .non ixs) (pick ds .non ixs) := by
  induction ixs with
  | nil => exact .nil
  | cons i ixs ih =>
    refine .cons ?_ ih
    show VR B M H ((vs[i]?).getD .non) ((ds[i]?).getD .non)
    cases e : ds[i]? with
    | none =>
      have : vs[i]? = none := by
        rw [List.getElem?_eq_none_iff] at e ⊢
        rw [r.length]; exact e
      rw [this]; exact .non
    | some v =>
      obtain ⟨u, h1, h2⟩ := r.get e
      rw [h1]; exact h2
end QL
set_option Elab.async false
set_option linter.all false
set_option maxRecDepth 100000
set_option maxHeartbeats 4000000
/-! QL28: defs and their calls (FnG, fn_ofG follow HandS.Call's FnOk, fn_of; the guards' list is known besides). -/
namespace QL
open PySem PySem.Spec L2
open PyProof.Rows hiding St
/-- a def keeps its promise -/
structure FnG (P : Program) (w : World) (K : PySem.W.Frag) (mg : Str → Option Value) (base : Heap) (k : Nat) (f : Addr) (fd : FuncData) (ps : List Str) (sp : Sp) : Prop where
  run : ∀ (A : Around) (outer : List PySem.Env) (s : Shared) (H : Hp) (args : Args) (us : List Value) (vs : List V) (Q : VK) (E : XK), Room k A → A.guards = some [] → Env0 P w K mg base A outer s H → BindsTo s fd args (ps.zip us) → Vals vs us → vs.length = ps.length → sp vs H Q E →
    codeAny (model P w) A (.call (.ref f) args) (CR (CX P w) outer P w H s Q E) s
theorem fn_ofG {P : Program} {w : World} {K : PySem.W.Frag} {mg : Str → Option Value} {base : Heap} {k : Nat} {f : Addr} {name qual : Str} {params : Arguments} {body : List Stmt} {scope : Scope} {dV kV doc pm cdv ct oc : Value} {an od : Option Addr}
    {osl : Array (Option Value)} {N ps : List Str} {sp : Sp} (lk : K.lookup f = some ⟨oc, od, .func (PySem.W.fnOf name qual params body scope dV kV doc pm an cdv ct), osl⟩) (hcd : PySem.W.codeIn K cdv qual = true) (S : FnScope N ps scope)
    (hbody : ∀ (A : Around) (outer : List PySem.Env) (s : Shared) (H : Hp) (vs : List V) (Q : VK) (E : XK), Room k (A.deeper (envOfC qual scope s.heap.objs.size f cdv)) → A.guards = some [] → vs.length = ps.length → sp vs H Q E →
      ∃ t, PSs (cxOf (CX P w) P w K mg base N qual scope f cdv A outer s H E) body t ∧ t { nx := fun _ H' => Q .non H', rt := Q } (start N vs) H) :
    FnG P w K mg base (k + 1) f (PySem.W.fnOf name qual params body scope dV kV doc pm an cdv ct) ps sp := by
  refine ⟨fun A outer s H args us vs Q E hr hgd e0 hb r hl hsp => ?_⟩
  have KX : K.In s.heap := e0.mod.kin.keeps fun b o e => (e0.bs b o e).1
  have lim : s.heap.NoLimit := e0.mod.nolimit.keeps fun b o e => (e0.bs b o e).1
  have hkind : ∀ y ∈ ps.zip us, scope.names.lookup y.1 = some .local ∨ (scope.names.lookup y.1 = some .cell ∧ ((cellsFrom (s.heap.objs.size + 1) scope.names []).lookup y.1).isSome = true) := fun ⟨n, v⟩ hy => by
    rcases S.par n (List.of_mem_zip hy).1 with q | q
    · exact .inl q
    · exact .inr ⟨q, PySem.W.cellsFrom_some _ _ _ (.inl q)⟩
  refine codeAny_call_function hr.depth (KX _ _ lk) rfl S.co S.gen rfl (PySem.W.codeRec_of KX hcd) (hb _ _ _ _ ?_)
  refine wpAny_newFunctionEnv_cells S.kind hkind fun env he s1 x => ?_
  subst he
  refine ⟨lim.keeps x.toInCall.keep, codeAny_func ?_⟩
  obtain ⟨t, ht, hq⟩ := hbody A outer s H vs Q E (hr.deeper _) hgd hl hsp
  have I : L2.Inv (cxOf (CX P w) P w K mg base N qual scope f cdv A outer s H E) [] (start N vs) H s1 := inv_start S hr.hd e0 hl r x
  refine wpAny_mono (ht.run [] s1 (start N vs) H _ I hq) (fun fl s' hs => ?_) fun e s' hs => hs
  have fin : ∀ {σ' : L2.St} {H' : Hp} {v : V} {u : Value}, L2.Inv (cxOf (CX P w) P w K mg base N qual scope f cdv A outer s H E) [] σ' H' s' → RelV v u → Q v H' → CE outer P w H s Q u s' :=
    fun {σ' H' v u} J rv q => ⟨v, H', J.os, J.bare, J.base, J.hok, rv, q⟩
  cases fl with
  | ret u =>
    obtain ⟨v, σ', H', J, rv, q⟩ := hs
    exact fin J rv q
  | next =>
    obtain ⟨σ', H', J, q⟩ := hs
    exact fin (v := V.non) (u := Value.none) J rfl q
  | brk =>
    obtain ⟨_, _, _, q⟩ := hs
    exact False.elim q
  | cont =>
    obtain ⟨_, _, _, q⟩ := hs
    exact False.elim q
/-- constant data: data that no state moves -/
def CVs (B : Bs) (vs : List V) (ds : List D) : Prop := ∀ M H, VRs B M H vs ds
/-- what a def's number promises -/
def spA (B : Bs) (np : Nat) (run : List D → Ob → Res D) : Sp := fun vs H Q E => ∃ M S xs, OR B M H S ∧ VRs B M H vs xs ∧ xs.length = np ∧ PostV B (fun cls d _ H => E cls d H) [] M H (run xs S) Q
section
variable {X : Cx} {W : WX} {k : Nat} {f : Addr} {fd : FuncData} {ps : List Str} {sp : Sp}
theorem run_fnG {pins : List (Addr × Obj)} {σ : L2.St} {H : Hp} {s : Shared} {Q : VK} {us : List Value} {vs : List V} {args : Args} (F : FnG X.prog X.w X.K X.mg X.base k f fd ps sp) (hr : Room k X.A) (hg : X.A.guards = some []) (tk : Takes X W) (I : L2.Inv X pins σ H s)
    (hb : BindsTo s fd args (ps.zip us)) (r : Vals vs us) (hl : vs.length = ps.length) (h : sp vs H Q (fun cls d H' => W cls d σ H')) : wpAny (model X.prog X.w) X.A (call (.ref f) args.pos args.kw) (EP X pins σ Q) X.xe s := by
  refine wpAny_call (codeAny_mono (F.run X.A X.stack s H args us vs Q _ hr hg I.env0 hb r hl h) fun r s' hq => ?_)
  cases r with
  | error e => exact passAt tk σ pins H s e s' I hq
  | ok fl =>
    cases fl with
    | ret u => exact I.after hq
    | next => exact False.elim hq
    | brk => exact False.elim hq
    | cont => exact False.elim hq
end
/-! ### the arguments of a call -/
structure PK1 (X : Cx) (kws : List Keyword) (t : TA) : Prop where
  run : ∀ (pos : Pos) (pins : List (Addr × Obj)) (s : Shared) (σ : L2.St) (H : Hp) (Q : List V → Hp → Prop), L2.Inv X pins σ H s → t σ H Q →
    wpAny (model X.prog X.w) X.A (evalAll ((backToKw pos (keywordEach kws X.env)).map (·.2))) (fun ws s2 => ws.length = kws.length ∧ ∃ vs H2, L2.Inv X pins σ H2 s2 ∧ Vals vs ws ∧ Q vs H2) X.xe s
/-- positional ones, then the keywords' -/
structure PK2 (X : Cx) (es : List Expr) (kws : List Keyword) (t : TA) : Prop where
  run : ∀ (pos : Pos) (pins : List (Addr × Obj)) (s : Shared) (σ : L2.St) (H : Hp) (Q : List V → Hp → Prop), L2.Inv X pins σ H s → t σ H Q → wpAny (model X.prog X.w) X.A (spliced (backTo pos (starEach es X.env))) (fun us s1 => us.length = es.length ∧
    wpAny (model X.prog X.w) X.A (evalAll ((backToKw pos (keywordEach kws X.env)).map (·.2))) (fun ws s2 => ws.length = kws.length ∧ ∃ vs H2, L2.Inv X pins σ H2 s2 ∧ Vals vs (us ++ ws) ∧ Q vs H2) X.xe s1) X.xe s
  one : es = [] → PK1 X kws t
section
variable {X : Cx} {B : Bs} {W : WX} {e : Expr} {es : List Expr} {kws : List Keyword} {f : Den} {fs : DenL} {nm : Option Str} {kpos : Pos}
def fCons (f : Den) (fs : DenL) : DenL := fun ρ S => (f ρ S).bind fun d S => (fs ρ S).bind fun ds S => .ok (d :: ds) S
theorem pk1_nil : PK1 X [] (tAL B W (fun _ S => .ok [] S)) := ⟨fun _ pins s σ H Q I h => by
  obtain ⟨ρ, S, M, o, r, h⟩ := h
  exact wpAny_evalAll_nil ⟨rfl, [], H, I, .nil, h [] H M (Stp.refl _ _) o .nil⟩⟩
theorem pk1_cons (ha : PE X e (tA B W f)) (hr : PK1 X kws (tAL B W fs)) : PK1 X (⟨nm, e, kpos⟩ :: kws) (tAL B W (fCons f fs)) := by
  refine ⟨fun pos pins s σ H Q I h => ?_⟩
  obtain ⟨ρ, S, M, o, r, h⟩ := h
  show wpAny _ _ (evalAll ((do let v ← eval e X.env; standAt pos; pure v) :: (backToKw pos (keywordEach kws X.env)).map (·.2))) _ _ s
  refine wpAny_evalAll_cons (wpAny_bind (thn (ha.run pins s σ H _ I ⟨ρ, S, M, o, r, Post.bind h⟩) fun u s1 ⟨x, H1, I1, r1, d, S1, M1, st1, o1, rd, h1⟩ => wpAny_bind (wpAny_standAt (wpAny_pure ?_))))
  refine thn (hr.run pos pins s1 σ H1 _ I1 ⟨ρ, S1, M1, o1, r.step st1, Post.bind h1⟩) fun us s2 ⟨l, vs, H2, I2, r2, ds, S2, M2, st2, o2, rds, h2⟩ => ?_
  exact ⟨by simp [l], x :: vs, H2, I2, .cons r1 r2, h2 _ _ M2 (Stp.refl _ _) o2 (.cons (rd.step st2) rds)⟩
theorem pk2_nil (h : PK1 X kws (tAL B W fs)) : PK2 X [] kws (tAL B W fs) := ⟨fun pos pins s σ H Q I q => Calls.spliced_nil ⟨rfl, by simpa using h.run pos pins s σ H Q I q⟩, fun _ => h⟩
theorem pk2_cons (ha : PE X e (tA B W f)) (hr : PK2 X es kws (tAL B W fs)) (hs : isSt e = false) : PK2 X (e :: es) kws (tAL B W (fCons f fs)) := by
  refine ⟨fun pos pins s σ H Q I h => ?_, fun z => by cases z⟩
  obtain ⟨ρ, S, M, o, r, h⟩ := h
  rw [st_cons hs]
  show wpAny _ _ (spliced ((false, eval e X.env) :: backTo pos (starEach es X.env))) _ _ s
  refine Calls.spliced_cons (thn (ha.run pins s σ H _ I ⟨ρ, S, M, o, r, Post.bind h⟩) fun u s1 ⟨x, H1, I1, r1, d, S1, M1, st1, o1, rd, h1⟩ => ?_)
  refine thn (hr.run pos pins s1 σ H1 _ I1 ⟨ρ, S1, M1, o1, r.step st1, Post.bind h1⟩) fun us s2 ⟨l, q⟩ => ⟨by simp [l], ?_⟩
  refine thn q fun ws s3 ⟨l2, vs, H2, I2, r2, ds, S2, M2, st2, o2, rds, h2⟩ => ⟨l2, x :: vs, H2, I2, .cons r1 r2, h2 _ _ M2 (Stp.refl _ _) o2 (.cons (rd.step st2) rds)⟩
end
/-! ### the call -/
/-- a def of the module as it stands: its name, its number's promise at every level below n -/
structure DefOk (P : Program) (w : World) (K : PySem.W.Frag) (mg : Str → Option Value) (base : Heap) (g : Nat → Option Addr) (k : Nat) (x : Str) (ps : List Str) (np : Nat) (dl : List D) (run : List D → Ob → Res D) : Prop where
  ex : ∃ (f : Addr) (params : Arguments) (body : List Stmt) (scope : Scope) (fd : FuncData) (dvs : List V), mg x = some (.ref f) ∧ FunD K x x params body scope dvs [] f fd ∧ CVs ⟨P, w, K, g⟩ dvs dl ∧ PlainP params ps ∧ ps.length = np ∧ FnG P w K mg base k f fd ps (spA ⟨P, w, K, g⟩ np run)
theorem seqItems_none {M : Model} {h : Heap} {α : Type} {k : Option (Array Value) → Sem α} {r : α} (e : k none = pure r) : PySem.W.Looks M h (seqItems? .none >>= k) r := by
  refine PySem.W.Looks.of_pure ?_
  rw [← e]
  show (seqItems? .none >>= k) = k none
  rfl
theorem bind_fd {K : PySem.W.Frag} {x qual : Str} {params : Arguments} {body : List Stmt} {scope : Scope} {dvs : List V} {f : Addr} {fd : FuncData} {ps : List Str} (F : FunD K x qual params body scope dvs [] f fd) (p : PlainP params ps) {ks ixs : List Nat} {na : Nat} (h : bindIx ps.length dvs.length na ks = some ixs) :
    ∃ its : List Value, Vals dvs its ∧ ∀ (s : Shared) (us ws : List Value), K.In s.heap → us.length + ws.length = na → ws.length = ks.length → BindsTo s fd ⟨us, (kwNames ps ks).zip ws⟩ (ps.zip (pick (us ++ ws ++ its) .none ixs)) := by
  obtain ⟨oc, od, dV, kV, doc, pm, an, cdv, ct, osl, rfl, lk, hcd, hD, hK⟩ := F.ex
  rcases hD with ⟨rfl, rfl⟩ | ⟨_, T, o, its, m, rfl, lT, oT, rT⟩
  · refine ⟨[], .nil, fun s us ws X hl hw => ?_⟩
    obtain ⟨k, e1, e2⟩ := bindIx_binds (fd := PySem.W.fnOf x qual params body scope .none kV doc pm an cdv ct) (us := us) (ws := ws) (df := []) p (by rw [← hw, hl]; exact h) hw
    refine BindsTo.of_looks fun M => ?_
    rw [e1]
    exact seqItems_none (e2 none rfl)
  · refine ⟨its, rT, fun s us ws X hl hw => ?_⟩
    obtain ⟨k, e1, e2⟩ := bindIx_binds (fd := PySem.W.fnOf x qual params body scope (.ref T) kV doc pm an cdv ct) (us := us) (ws := ws) (df := its) p (by rw [← hw, hl, ← rT.length]; exact h) hw
    refine BindsTo.of_looks fun M => ?_
    rw [e1]
    exact looks_items X lT oT (.of_pure (e2 (some its.toArray) (by simp)))
section
variable {X : Cx} {W : WX} {g : Nat → Option Addr} {fs : DenL} {es : List Expr} {kws : List Keyword} {p pos : Pos} {x : Str} {ps : List Str} {np k : Nat} {dl : List D} {run : List D → Ob → Res D} {ks : List Nat}
def fCall (np : Nat) (dl : List D) (run : List D → Ob → Res D) (ks : List Nat) (fs : DenL) : Den := fun ρ S => (fs ρ S).bind fun ds S => match (bindIx np dl.length ds.length ks).map fun ixs => ixs.map fun i => ((ds ++ dl)[i]?).getD .non with
  | some xs => run xs S
  | none => .fail
theorem kw_some {pos : Pos} {env : PySem.Env} : ∀ {kws : List Keyword}, kws.all (fun q => q.arg.isSome) = true → (backToKw pos (keywordEach kws env)).all (·.1.isSome) = true ∧ (backToKw pos (keywordEach kws env)).any (·.1.isNone) = false ∧ (backToKw pos (keywordEach kws env)).filterMap (·.1) = kws.filterMap (·.arg)
  | [], _ => ⟨rfl, rfl, rfl⟩
  | ⟨nm, e, kp⟩ :: kws, h => by
    rw [List.all_cons, Bool.and_eq_true] at h
    obtain ⟨h1, h2, h3⟩ := kw_some (pos := pos) (env := env) h.2
    cases nm with
    | none => simp at h
    | some n =>
      refine ⟨?_, ?_, ?_⟩
      · show (true && (backToKw pos (keywordEach kws env)).all (·.1.isSome)) = true
        rw [h1]; rfl
      · show (false || (backToKw pos (keywordEach kws env)).any (·.1.isNone)) = false
        rw [h2]; rfl
      · show n :: (backToKw pos (keywordEach kws env)).filterMap (·.1) = _
        rw [h3]
        simp
theorem ax_call (F : DefOk X.prog X.w X.K X.mg X.base g k x ps np dl run) (hr : Room k X.A) (hgd : X.A.guards = some []) (tk : Takes X W) (hg : Gl X x) (ha : PK2 X es kws (tAL (bs X g) W fs)) (hs : es.all (fun e => !isSt e) = true) (hkw : kws.all (fun q => q.arg.isSome) = true) (hn : kws.filterMap (·.arg) = kwNames ps ks) (hl : kws.length = ks.length)
    (hdb : (x == ("__debug__" : Str)) = false) : AX (bs X g) W X (.Call (.Name x p) es kws pos) (fCall np dl run ks fs) := by
  refine AX.of ⟨fun pins s σ H Q I h => ?_⟩
  obtain ⟨ρ, S, M, o, r, h⟩ := h
  obtain ⟨f, params, body, scope, fd, dvs, hm, FD, cv, pp, hnp, F⟩ := F.ex
  obtain ⟨k1, k2, k3⟩ := kw_some (pos := pos) (env := X.env) hkw
  have hpl : ((backTo pos (starEach es X.env)).any (·.1) || (backToKw pos (keywordEach kws X.env)).any (·.1.isNone)) = false := by rw [st_plain hs, k2]; rfl
  refine wpAny_Call_Name_kw (ld_glob I hg hm ?_ hdb)
  have main : ∀ (us ws : List Value) (s2 : Shared), us.length = es.length → (ws.length = kws.length ∧ ∃ vs H2, L2.Inv X pins σ H2 s2 ∧ Vals vs (us ++ ws) ∧ ∃ ds S2 M2, Stp M H M2 H2 ∧ OR (bs X g) M2 H2 S2 ∧ VRs (bs X g) M2 H2 vs ds ∧
      PostV (bs X g) W σ M2 H2 (match (bindIx np dl.length ds.length ks).map fun ixs => ixs.map fun i => ((ds ++ dl)[i]?).getD .non with
        | some xs => run xs S2
        | none => .fail) Q) → X.K.In s2.heap ∧ wpAny (model X.prog X.w) X.A (call (.ref f) us (((backToKw pos (keywordEach kws X.env)).filterMap (·.1)).zip ws)) (EP X pins σ Q) X.xe s2 := by
    rintro us ws s2 l1 ⟨l2, vs, H2, I2, rv, ds, S2, M2, st2, o2, rd, h2⟩
    refine ⟨I2.kIn, ?_⟩
    rw [k3, hn]
    cases e : bindIx np dl.length ds.length ks with
    | none => rw [e] at h2; exact h2.elim
    | some ixs =>
      rw [e] at h2
      have h2 : PostV (bs X g) W σ M2 H2 (run (pick (ds ++ dl) .non ixs) S2) Q := h2
      have hlen : us.length + ws.length = ds.length := by rw [← List.length_append, ← rv.length, rd.length]
      obtain ⟨its, ri, hb⟩ := bind_fd FD pp (ks := ks) (ixs := ixs) (na := ds.length) (by rw [hnp, (cv M H).length]; exact e)
      have hix := (bindIx_src e).2.1
      refine run_fnG (args := ⟨us, (kwNames ps ks).zip ws⟩) F hr hgd tk I2 (hb s2 us ws I2.kIn hlen (l2.trans hl)) (pick_vals (rv.append ri) ixs) (by simp [pick, hix, hnp]) ?_
      refine ⟨M2, S2, pick (ds ++ dl) .non ixs, o2, pick_vrs (rd.append (cv M2 H2)) ixs, by simp [pick, hix], ?_⟩
      cases er : run (pick (ds ++ dl) .non ixs) S2 with
      | ok d S' => rw [er] at h2; exact h2
      | exc c v S' => rw [er] at h2; exact h2
      | fail => rw [er] at h2; exact h2
  cases es with
  | nil =>
    refine PySem.W.callWith_KW0 (h₀ := X.base) I.ok.mod.kin FD.kp k1 ?_ hpl
    have hp := (ha.one rfl).run pos pins s σ H _ I ⟨ρ, S, M, o, r, Post.bind h⟩
    exact thn hp fun ws s2 ⟨l2, vs, H2, I2, rv, q⟩ => main [] ws s2 rfl ⟨l2, vs, H2, I2, by simpa using rv, q⟩
  | cons e es =>
    have hp := ha.run pos pins s σ H _ I ⟨ρ, S, M, o, r, Post.bind h⟩
    rw [List.all_cons, Bool.and_eq_true] at hs
    refine PySem.W.callWith_KW (h₀ := X.base) I.ok.mod.kin FD.kp k1 (thn hp fun us s1 ⟨l1, q⟩ => ?_) hpl (st_cons (by simpa using hs.1))
    exact thn q fun ws s2 q2 => main us ws s2 l1 q2
end
end QL
set_option Elab.async false
set_option linter.all false
set_option maxRecDepth 100000
set_option maxHeartbeats 4000000
/-! QL29: statements. -/
namespace QL
open PySem PySem.Spec L2
open PyProof.Rows hiding St
abbrev DenS := Env → Ob → SR
/-- the wish behind a statement -/
def PostS (B : Bs) (W : WX) (M : MF) (H : Hp) (r : SR) (D : Ends) : Prop := match r with
  | .nx ρ S => ∀ σ' H' M', Stp M H M' H' → OR B M' H' S → AR B M' H' σ' ρ → D.nx σ' H'
  | .bk ρ S => ∀ σ' H' M', Stp M H M' H' → OR B M' H' S → AR B M' H' σ' ρ → D.bk σ' H'
  | .ct ρ S => ∀ σ' H' M', Stp M H M' H' → OR B M' H' S → AR B M' H' σ' ρ → D.ct σ' H'
  | .rt d S => ∀ v H' M', Stp M H M' H' → OR B M' H' S → VR B M' H' v d → D.rt v H'
  | .exc ρ c x S => ∀ cls d σ' H' M', Stp M H M' H' → OR B M' H' S → AR B M' H' σ' ρ → XR B M' H' c x cls d → W cls d σ' H'
  | .fail => False
def tSA (B : Bs) (W : WX) (f : DenS) : TS := fun D σ H => ∃ ρ S M, OR B M H S ∧ AR B M H σ ρ ∧ PostS B W M H (f ρ S) D
section
variable {B : Bs} {W : WX} {M M1 : MF} {H H1 : Hp} {r : SR} {D D' : Ends} {σ : L2.St} {ρ : Env}
theorem PostS.step (h : PostS B W M H r D) (s : Stp M H M1 H1) : PostS B W M1 H1 r D := by
  cases r with
  | nx ρ S => exact fun a b c e => h a b c (s.trans e)
  | bk ρ S => exact fun a b c e => h a b c (s.trans e)
  | ct ρ S => exact fun a b c e => h a b c (s.trans e)
  | rt d S => exact fun a b c e => h a b c (s.trans e)
  | exc ρ c x S => exact fun a b c d e f => h a b c d e (s.trans f)
  | fail => exact h
/-- an expression ahead -/
theorem PostS.st {α β : Type} {rel : MF → Hp → β → α → Prop} {r : Res α} {k : α → Ob → SR} (a : AR B M H σ ρ) (h : PostS B W M H (r.st ρ k) D) :
    Post B W σ M H rel r (fun v H1 => ∃ x S1 M1, Stp M H M1 H1 ∧ OR B M1 H1 S1 ∧ AR B M1 H1 σ ρ ∧ rel M1 H1 v x ∧ PostS B W M1 H1 (k x S1) D) := by
  cases r with
  | ok d S => exact fun v H' M' s o r => ⟨d, S, M', s, o, a.step s, r, PostS.step h s⟩
  | exc c x S => exact fun cls d H' M' s o r => h cls d σ H' M' s o (a.step s) r
  | fail => exact h
theorem PostS.seq {k : DenS} (h : PostS B W M H (r.seq k) D) : PostS B W M H r { D with nx := tSA B W k D } := by
  cases r with
  | nx ρ S => exact fun σ' H' M' s o a => ⟨ρ, S, M', o, a, PostS.step h s⟩
  | bk ρ S => exact h
  | ct ρ S => exact h
  | rt d S => exact h
  | exc ρ c x S => exact h
  | fail => exact h
end
section
variable {B : Bs} {W : WX} {X : Cx} {st : Stmt} {sts : List Stmt} {e c : Expr} {f f2 : DenS} {fe fc : Den} {pos : Pos} {a b : List Stmt}
/-- nothing is said -/
theorem as_bad : PS X st (tSA B W fun _ _ => .fail) := ⟨fun _ _ _ _ _ _ h => by obtain ⟨_, _, _, _, _, h⟩ := h; exact h.elim⟩
theorem ass_nil : PSs X [] (tSA B W fun ρ S => .nx ρ S) := pss_nil.imp fun D σ H h => by
  obtain ⟨ρ, S, M, o, a, h⟩ := h
  exact h σ H M (Stp.refl _ _) o a
theorem ass_cons (h1 : PS X st (tSA B W f)) (h2 : PSs X sts (tSA B W f2)) : PSs X (st :: sts) (tSA B W fun ρ S => (f ρ S).seq f2) := (pss_cons h1 h2).imp fun D σ H h => by
  obtain ⟨ρ, S, M, o, a, h⟩ := h
  exact ⟨ρ, S, M, o, a, PostS.seq h⟩
theorem as_pass : PS X (.Pass pos) (tSA B W fun ρ S => .nx ρ S) := ps_pass.imp fun D σ H h => by
  obtain ⟨ρ, S, M, o, a, h⟩ := h
  exact h σ H M (Stp.refl _ _) o a
theorem as_brk : PS X (.Break pos) (tSA B W fun ρ S => .bk ρ S) := ps_break.imp fun D σ H h => by
  obtain ⟨ρ, S, M, o, a, h⟩ := h
  exact h σ H M (Stp.refl _ _) o a
theorem as_cont : PS X (.Continue pos) (tSA B W fun ρ S => .ct ρ S) := ps_continue.imp fun D σ H h => by
  obtain ⟨ρ, S, M, o, a, h⟩ := h
  exact h σ H M (Stp.refl _ _) o a
theorem as_doc {x j pos'} : PS X (.Expr (.Constant (.str x) j pos) pos') (tSA B W fun ρ S => .nx ρ S) := ps_doc.imp fun D σ H h => by
  obtain ⟨ρ, S, M, o, a, h⟩ := h
  exact h σ H M (Stp.refl _ _) o a
theorem as_expr (he : AX B W X e fe) (hs : swapsWith e none pos.line X.env = pure false) : PS X (.Expr e pos) (tSA B W fun ρ S => (fe ρ S).st ρ fun _ S => .nx ρ S) := (ps_expr he.val hs).imp fun D σ H h => by
  obtain ⟨ρ, S, M, o, a, h⟩ := h
  exact ⟨ρ, S, M, o, a, (PostS.st (rel := VR B) a h).mono fun v H1 ⟨x, S1, M1, s1, o1, a1, r1, h1⟩ => h1 σ H1 M1 (Stp.refl _ _) o1 a1⟩
theorem as_ret (he : AX B W X e fe) : PS X (.Return (some e) pos) (tSA B W fun ρ S => (fe ρ S).st ρ fun d S => .rt d S) := (ps_ret he.val).imp fun D σ H h => by
  obtain ⟨ρ, S, M, o, a, h⟩ := h
  exact ⟨ρ, S, M, o, a, (PostS.st (rel := VR B) a h).mono fun v H1 ⟨x, S1, M1, s1, o1, a1, r1, h1⟩ => h1 v H1 M1 (Stp.refl _ _) o1 r1⟩
theorem as_retN : PS X (.Return none pos) (tSA B W fun _ S => .rt .non S) := ps_retN.imp fun D σ H h => by
  obtain ⟨ρ, S, M, o, a, h⟩ := h
  exact h .non H M (Stp.refl _ _) o .non
/-- a test's answer: a bool -/
theorem tst_of {σ : L2.St} {H : Hp} {ρ : Env} {S : Ob} {M : MF} {k : D → Ob → SR} {D : Ends} {Q : Bool → Hp → Prop} (o : OR B M H S) (a : AR B M H σ ρ) (h : PostS B W M H ((fc ρ S).st ρ k) D)
    (q : ∀ (x : QL.D) S1 M1 H1, Stp M H M1 H1 → OR B M1 H1 S1 → AR B M1 H1 σ ρ → PostS B W M1 H1 (k x S1) D → ∃ b, x = .bl b ∧ Q b H1) : tB (tA B W fc) σ H Q := by
  refine ⟨ρ, S, M, o, a, (PostS.st (rel := VR B) a h).mono fun v H1 ⟨x, S1, M1, s1, o1, a1, r1, h1⟩ => ?_⟩
  obtain ⟨b, rfl, q⟩ := q x S1 M1 H1 s1 o1 a1 h1
  cases r1
  exact ⟨b, rfl, q⟩
theorem as_if (hc : AX B W X c fc) (ha : PSs X a (tSA B W f)) (hb : PSs X b (tSA B W f2)) : PS X (.If c a b pos) (tSA B W fun ρ S => (fc ρ S).st ρ fun t S => match t with
    | .bl true => f ρ S
    | .bl false => f2 ρ S
    | _ => .fail) := (ps_if hc.tst ha hb).imp fun D σ H h => by
  obtain ⟨ρ, S, M, o, a, h⟩ := h
  refine tst_of o a h fun x S1 M1 H1 s1 o1 a1 h1 => ?_
  cases x with
  | bl b =>
    refine ⟨b, rfl, ?_⟩
    cases b with
    | true => exact ⟨ρ, S1, M1, o1, a1, h1⟩
    | false => exact ⟨ρ, S1, M1, o1, a1, h1⟩
  | _ => exact h1.elim
/-! ### stores -/
def fSet (i : Nat) (fe : Den) : DenS := fun ρ S => (fe ρ S).st ρ fun d S => .nx (ρ.set i (some d)) S
theorem set_t {i : Nat} {D : Ends} {σ : L2.St} {H : Hp} (h : tSA B W (fSet i fe) D σ H) : tAsg (tA B W fe) (gName i) D σ H := by
  obtain ⟨ρ, S, M, o, a, h⟩ := h
  exact ⟨ρ, S, M, o, a, (PostS.st (rel := VR B) a h).mono fun v H1 ⟨x, S1, M1, s1, o1, a1, r1, h1⟩ => h1 _ H1 M1 (Stp.refl _ _) o1 (a1.set r1 i)⟩
theorem as_set {i : Nat} {x : Str} {pos' : Pos} (hN : X.N.Nodup) (hi : X.N[i]? = some x) (hx : L2.Loc X.env.scope x) (he : AX B W X e fe) (hs : swapsWith e (some (.Name x pos')) pos.line X.env = pure false) (hf : X.fn x = true ∨ X.env.scope.names.lookup x = some .local) :
    PS X (.Assign [.Name x pos'] e pos) (tSA B W (fSet i fe)) := (ps_set hN hi hx he.val hs hf).imp fun D σ H h => set_t h
def fAsg (tg : Tg) (fe : Den) : DenS := fun ρ S => (fe ρ S).st ρ fun d S => match asgTg tg d ρ with
  | some ρ1 => .nx ρ1 S
  | none => .fail
theorem as_asg {tg : Tg} {te : Expr} (he : AX B W X e fe) (hg : PG X te (gA B tg)) (hs : swapsWithSole [te] e pos.line X.env = pure false) (hw : swappedStores [te] e X.env = pure none) (h1 : (assignEach [te] X.env).map (·.2) = [assign te X.env]) :
    PS X (.Assign [te] e pos) (tSA B W (fAsg tg fe)) := (ps_asg he.val hg hs hw h1).imp fun D σ H h => by
  obtain ⟨ρ, S, M, o, a, h⟩ := h
  refine ⟨ρ, S, M, o, a, (PostS.st (rel := VR B) a h).mono fun v H1 ⟨x, S1, M1, s1, o1, a1, r1, h1⟩ => ?_⟩
  cases e : asgTg tg x ρ with
  | none => rw [e] at h1; exact h1.elim
  | some ρ1 =>
    rw [e] at h1
    exact ⟨ρ, M1, S1, x, ρ1, o1, a1, r1, e, fun σ' a2 _ _ => h1 σ' H1 M1 (Stp.refl _ _) o1 a2⟩
end
section
variable {W : WX} {X : Cx} {g : Nat → Option Addr} {e oe ie : Expr} {fe fo fi : Den} {pos : Pos}
def fSeti (fo fi fe : Den) : DenS := fun ρ S => (fe ρ S).st ρ fun d S => (fo ρ S).st ρ fun x S => (fi ρ S).st ρ fun y S => match setD S x y d with
  | some S => .nx ρ S
  | none => .fail
theorem as_seti (hu : X.A.units + 70 < cLine) {spos : Pos} (he : AX (bs X g) W X e fe) (ho : AX (bs X g) W X oe fo) (hi : AX (bs X g) W X ie fi) (hs : swapsWithSole [.Subscript oe ie spos] e pos.line X.env = pure false) (hw : swappedStores [.Subscript oe ie spos] e X.env = pure none)
    (ha : ∀ v, assign (.Subscript oe ie spos) X.env v = (do
      let ov ← holding [v] (eval oe X.env)
      let iv ← holding [v, ov] (eval ie X.env)
      standAt spos
      holding [v, ov, iv] (setItem ov iv v)
      release [v, ov, iv] [])) : PS X (.Assign [.Subscript oe ie spos] e pos) (tSA (bs X g) W (fSeti fo fi fe)) := (ps_asg he.val (pg_sub ho.val hi.val (set_d (g := g) hu) ha) hs hw rfl).imp fun D σ H h => by
  obtain ⟨ρ, S, M, o, a, h⟩ := h
  refine ⟨ρ, S, M, o, a, (PostS.st (rel := VR (bs X g)) a h).mono fun v H1 ⟨d, S1, M1, s1, o1, a1, r1, h1⟩ => ?_⟩
  refine ⟨ρ, S1, M1, o1, a1, (PostS.st (rel := VR (bs X g)) a1 h1).mono fun u H2 ⟨x, S2, M2, s2, o2, a2, r2, h2⟩ => ?_⟩
  refine ⟨ρ, S2, M2, o2, a2, (PostS.st (rel := VR (bs X g)) a2 h2).mono fun w H3 ⟨y, S3, M3, s3, o3, a3, r3, h3⟩ => ?_⟩
  cases e : setD S3 x y d with
  | none => rw [e] at h3; exact h3.elim
  | some S' =>
    rw [e] at h3
    exact ⟨M3, S3, x, y, d, S', o3, r2.step s3, r3, (r1.step s2).step s3, e, fun H' M' st o' => h3 σ H' M' st o' (a3.step st)⟩
def fAug (i : Nat) (o : BO) (fe : Den) : DenS := fun ρ S => match ρ[i]? with
  | some (some x) => (fe ρ S).st ρ fun y S => match augD o x y with
    | some z => .nx (ρ.set i (some z)) S
    | none => .fail
  | _ => .fail
theorem as_aug {o : BO} {i : Nat} {x : Str} {pos' : Pos} (hN : X.N.Nodup) (hi : X.N[i]? = some x) (hx : L2.Loc X.env.scope x) (he : AX (bs X g) W X e fe) (hf : X.fn x = true ∨ X.env.scope.names.lookup x = some .local) (ho : o = .add ∨ o = .sub) :
    PS X (.AugAssign (.Name x pos') (boOp o) e pos) (tSA (bs X g) W (fAug i o fe)) := by
  have key : ∀ {f : Int → Int → Int}, PIp X (boOp o) (ipI f) → (∀ x y z, augD o x y = some z → ∃ a b, x = .int a ∧ y = .int b ∧ z = .int (f a b)) → PS X (.AugAssign (.Name x pos') (boOp o) e pos) (tSA (bs X g) W (fAug i o fe)) := fun {f} hp hz =>
    (ps_aug hN hi hx he.val hp hf).imp fun D σ H h => by
      obtain ⟨ρ, S, M, oo, a, h⟩ := h
      unfold fAug at h
      split at h
      · rename_i d hd
        obtain ⟨v, hv, h2⟩ := a.at_ i d hd
        refine ⟨v, hv, ρ, S, M, oo, a, (PostS.st (rel := VR (bs X g)) a h).mono fun u H1 ⟨y, S1, M1, s1, o1, a1, r1, h1⟩ => ?_⟩
        cases ez : augD o d y with
        | none => rw [ez] at h1; exact h1.elim
        | some z =>
          rw [ez] at h1
          obtain ⟨p, q, rfl, rfl, rfl⟩ := hz _ _ _ ez
          cases h2
          cases r1
          exact ⟨p, q, rfl, rfl, h1 _ H1 M1 (Stp.refl _ _) o1 (a1.set (.int _) i)⟩
      · exact h.elim
  cases o with
  | add => exact key ip_add fun x y z e => by cases x <;> cases y <;> simp [augD] at e; exact ⟨_, _, rfl, rfl, e.symm⟩
  | sub => exact key ip_sub fun x y z e => by cases x <;> cases y <;> simp [augD] at e; exact ⟨_, _, rfl, rfl, e.symm⟩
  | _ => exact absurd ho (by simp)
end
end QL
set_option Elab.async false
set_option linter.all false
set_option maxRecDepth 100000
set_option maxHeartbeats 4000000
/-! QL30: loops. -/
namespace QL
open PySem PySem.Spec L2
open PyProof.Rows hiding St
section
variable {B : Bs} {W : WX} {X : Cx} {c te it : Expr} {f : DenS} {fi : DenI} {fc : Den} {pos : Pos} {body : List Stmt} {tg : Tg}
def fFor (tg : Tg) (fi : DenI) (f : DenS) : DenS := fun ρ S => (fi ρ S).st ρ fun p S => forL p.2 (asgTg tg) f p.1 ρ S
theorem as_for (hp : PassesOwn (model X.prog X.w) X.A X.env X.xe) (hc : X.calm = true) (hi : PI X te it (iA B W fi)) (hg : PG X te (gA B tg)) (hb : PSs X body (tSA B W f)) (hs : noSet it = true) :
    PS X (.For te it body [] pos) (tSA B W (fFor tg fi f)) := (ps_for hp hc hi hg hb (folded_of hs _)).imp fun D σ H h => by
  obtain ⟨ρ, S, M, o, a, h⟩ := h
  refine ⟨ρ, S, M, o, a, (PostS.st (rel := relI B) a h).mono fun J H1 ⟨p, S1, M1, s1, o1, a1, wk, h1⟩ => ?_⟩
  obtain ⟨ys, gs⟩ := p
  dsimp only at h1 wk
  refine ⟨fun i m σ H => m = ys.length - i ∧ i ≤ ys.length ∧ ∃ ρ S M, OR B M H S ∧ AR B M H σ ρ ∧ Later B M1 H1 M H ∧ PostS B W M H (forL gs (asgTg tg) f (ys.drop i) ρ S) D,
    ⟨_, rfl, Nat.zero_le _, ρ, S1, M1, o1, a1, Later.refl, h1⟩, ?_⟩
  rintro i m σ H ⟨rfl, hi, ρ, S, M, o, a, lt, h⟩
  by_cases hlt : i < ys.length
  · rw [List.drop_eq_getElem_cons hlt] at h
    unfold forL at h
    split at h
    · rename_i hgd
      obtain ⟨w1, w2⟩ := wk M H S lt o hgd
      obtain ⟨g1, g2⟩ := w2 i ys[i] (by simp [hlt])
      refine .inr ⟨g1, fun σ' H' => ∃ ρ S M, OR B M H' S ∧ AR B M H' σ' ρ ∧ Later B M1 H1 M H' ∧ PostS B W M H' (forL gs (asgTg tg) f (ys.drop (i + 1)) ρ S) D, fun σ' H' q => ⟨ys.length - (i + 1), by omega, rfl, hlt, q⟩, fun x H' yl => ?_⟩
      obtain ⟨s2, o2, rx⟩ := g2 x H' yl
      have lt2 := lt.trans (Later.of_stp s2)
      have a2 := a.step s2
      have h := PostS.step h s2
      cases ea : asgTg tg ys[i] ρ with
      | none => rw [ea] at h; exact h.elim
      | some ρ1 =>
        rw [ea] at h
        dsimp only at h
        refine ⟨ρ, M, S, ys[i], ρ1, o2, a2, rx, ea, fun σ' a3 _ _ => ⟨ρ1, S, M, o2, a3, ?_⟩⟩
        cases er : f ρ1 S with
        | nx ρ2 S2 =>
          rw [er] at h
          exact fun σ4 H4 M4 s4 o4 a4 => ⟨ρ2, S2, M4, o4, a4, lt2.trans (Later.of_stp s4), PostS.step h s4⟩
        | ct ρ2 S2 =>
          rw [er] at h
          exact fun σ4 H4 M4 s4 o4 a4 => ⟨ρ2, S2, M4, o4, a4, lt2.trans (Later.of_stp s4), PostS.step h s4⟩
        | bk ρ2 S2 => rw [er] at h; exact h
        | rt d S2 => rw [er] at h; exact h
        | exc ρ2 c v S2 => rw [er] at h; exact h
        | fail => rw [er] at h; exact h
    · exact h.elim
  · have ei : i = ys.length := by omega
    subst ei
    rw [List.drop_length] at h
    unfold forL at h
    split at h
    · rename_i hgd
      exact .inl ⟨(wk M H S lt o hgd).1, h σ H M (Stp.refl _ _) o a⟩
    · exact h.elim
def fWhile (n : Nat) (fc : Den) (f : DenS) : DenS := fun ρ S => whileL fc f n ρ S
theorem as_while {n : Nat} (hp : PassesOwn (model X.prog X.w) X.A X.env X.xe) (hc : AX B W X c fc) (hb : PSs X body (tSA B W f)) : PS X (.While c body [] pos) (tSA B W (fWhile n fc f)) := (ps_while hp hc.tst hb).imp fun D σ H h => by
  obtain ⟨ρ, S, M, o, a, h⟩ := h
  refine ⟨fun m σ H => ∃ ρ S M, OR B M H S ∧ AR B M H σ ρ ∧ PostS B W M H (whileL fc f m ρ S) D, ⟨n, ρ, S, M, o, a, h⟩, ?_⟩
  rintro m σ H ⟨ρ, S, M, o, a, h⟩
  cases m with
  | zero => exact h.elim
  | succ m =>
    unfold whileL at h
    refine tst_of o a h fun x S1 M1 H1 s1 o1 a1 h1 => ?_
    cases x with
    | bl b =>
      refine ⟨b, rfl, ?_⟩
      cases b with
      | false =>
        rw [if_neg Bool.false_ne_true]
        exact h1 σ H1 M1 (Stp.refl _ _) o1 a1
      | true =>
        rw [if_pos rfl]
        refine ⟨fun σ' H' => ∃ ρ S M, OR B M H' S ∧ AR B M H' σ' ρ ∧ PostS B W M H' (whileL fc f m ρ S) D, fun σ' H' q => ⟨m, Nat.lt_succ_self m, q⟩, ρ, S1, M1, o1, a1, ?_⟩
        dsimp only at h1
        cases er : f ρ S1 with
        | nx ρ2 S2 =>
          rw [er] at h1
          exact fun σ4 H4 M4 s4 o4 a4 => ⟨ρ2, S2, M4, o4, a4, PostS.step h1 s4⟩
        | ct ρ2 S2 =>
          rw [er] at h1
          exact fun σ4 H4 M4 s4 o4 a4 => ⟨ρ2, S2, M4, o4, a4, PostS.step h1 s4⟩
        | bk ρ2 S2 => rw [er] at h1; exact h1
        | rt d S2 => rw [er] at h1; exact h1
        | exc ρ2 c v S2 => rw [er] at h1; exact h1
        | fail => rw [er] at h1; exact h1
    | _ => exact h1.elim
end
end QL
set_option Elab.async false
set_option linter.all false
set_option maxRecDepth 100000
set_option maxHeartbeats 4000000
/-! QL31: stores of comprehensions; a, b = x, y. -/
namespace QL
open PySem PySem.Spec L2
open PyProof.Rows hiding St
section
variable {W : WX} {X : Cx} {g : Nat → Option Addr} {tg tg2 : Tg} {fi fi2 : DenI} {fc fc2 : Env → Ob → Res Bool} {fe fk fv : Den} {m : Bool} {elt kx vx te it te2 it2 : Expr} {ifs ifs2 : List Expr} {scope : Scope} {own : List (Str × Nat)} {vs2 : List Nat} {pos py spos : Pos} {i : Nat} {y : Str}
theorem as_setLc (hc : X.calm = true) (hN : X.N.Nodup) (hy : X.N[i]? = some y) (hyl : X.env.scope.names.lookup y = some .local) (hsw : swapsWith (.ListComp elt [⟨te, it, ifs, 0⟩] scope pos) (some (.Name y py)) spos.line X.env = pure true)
    (hi : PI X te it (iA (bs X g) W fi)) (ok : BlkOk X.N X.env.scope scope own) (hg : Blk X scope fun X => PG X te (gA (bs X g) tg)) (ht : Blk X scope fun X => PTs X ifs (tAC (bs X g) fc)) (he : Blk X scope fun X => PE X elt (tA (bs X g) Wn fe))
    (hs : noSet it = true) (htg : ∀ j ∈ tgIx tg, j ∈ own.map (·.2)) : PS X (.Assign [.Name y py] (.ListComp elt [⟨te, it, ifs, 0⟩] scope pos) spos) (tSA (bs X g) W (fSet i (fLc m tg fi fc fe (own.map (·.2))))) :=
  (ps_setLc hc hN hy hyl hsw hi ok hg ht he (folded_of hs _)).imp fun D σ H h => lc_t htg (set_t h)
theorem as_setLc2 (hc : X.calm = true) (hN : X.N.Nodup) (hy : X.N[i]? = some y) (hyl : X.env.scope.names.lookup y = some .local) (hsw : swapsWith (.ListComp elt [⟨te, it, ifs, 0⟩, ⟨te2, it2, ifs2, 0⟩] scope pos) (some (.Name y py)) spos.line X.env = pure true)
    (hi : PI X te it (iA (bs X g) W fi)) (ok : BlkOk X.N X.env.scope scope own) (hv : ∀ i ∈ vs2, i ∈ own.map (·.2)) (hg : Blk X scope fun X => PG X te (gA (bs X g) tg)) (ht : Blk X scope fun X => PTs X ifs (tAC (bs X g) fc))
    (hi2 : Blk X scope fun X => PI X te2 it2 (iA (bs X g) Wn fi2)) (hg2 : Blk X scope fun X => PG X te2 (gA (bs X g) tg2)) (ht2 : Blk X scope fun X => PTs X ifs2 (tAC (bs X g) fc2)) (he : Blk X scope fun X => PE X elt (tA (bs X g) Wn fe))
    (hs : noSet it = true) (hs2 : noSet it2 = true) (htg : ∀ j ∈ tgIx tg, j ∈ own.map (·.2)) (htg2 : ∀ j ∈ tgIx tg2, j ∈ vs2) :
    PS X (.Assign [.Name y py] (.ListComp elt [⟨te, it, ifs, 0⟩, ⟨te2, it2, ifs2, 0⟩] scope pos) spos) (tSA (bs X g) W (fSet i (fLc2 m tg fi fc tg2 fi2 fc2 fe (own.map (·.2)) vs2))) :=
  (ps_setLc2 hc hN hy hyl hsw hi ok hv hg ht hi2 hg2 ht2 he (folded_of hs _) fun env x => folded_of hs2 env x).imp fun D σ H h => lc2_t htg htg2 (set_t h)
theorem as_setDc (hu : X.A.units + 70 < cLine) (hc : X.calm = true) (hN : X.N.Nodup) (hy : X.N[i]? = some y) (hyl : X.env.scope.names.lookup y = some .local) (hsw : swapsWith (.DictComp kx vx [⟨te, it, ifs, 0⟩] scope pos) (some (.Name y py)) spos.line X.env = pure true)
    (hi : PI X te it (iA (bs X g) W fi)) (ok : BlkOk X.N X.env.scope scope own) (hg : Blk X scope fun X => PG X te (gA (bs X g) tg)) (ht : Blk X scope fun X => PTs X ifs (tAC (bs X g) fc)) (hk : Blk X scope fun X => PE X kx (tA (bs X g) Wn fk)) (he : Blk X scope fun X => PE X vx (tA (bs X g) Wn fv))
    (hs : noSet it = true) (htg : ∀ j ∈ tgIx tg, j ∈ own.map (·.2)) : PS X (.Assign [.Name y py] (.DictComp kx vx [⟨te, it, ifs, 0⟩] scope pos) spos) (tSA (bs X g) W (fSet i (fDc m tg fi fc fk fv (own.map (·.2))))) := by
  refine ⟨fun pins s σ H D I h => ?_⟩
  have h := dc_t (B := bs X g) htg (set_t h)
  rw [exec_Assign_Name_used _ _ _ _ hsw]
  refine wpAny_bind (wpAny_standAt (wpAny_bind ?_))
  show wpAny _ X.A (do let _ ← comprehension (.DictComp kx vx [⟨te, it, ifs, 0⟩] scope pos) scope X.env (firstIterPos [⟨te, it, ifs, 0⟩] pos) newDict false (eval it X.env) (some (assign (.Name y py) X.env))) _ _ s
  refine wpAny_bind (thn (dcO_core (gg := g) (Qf := fun _ s' => SP X pins D .next s') hu hc hN I hi ok hg ht hk he (folded_of hs _) h fun L C s' m H' I' q hn f => ?_) fun _ s' hq => wpAny_pure (wpAny_pure hq))
  show wpAny _ _ (assign (.Name y py) X.env (.ref L)) _ _ _
  refine wpAny_assign_Name (store_ok2 (v := V.ref L) I' hN hy (.inl hyl) rfl (fun s2 I2 ⟨a, sb, ha⟩ => ?_) (.inr hyl))
  obtain ⟨f0, f1, f2, f3, f4, f5⟩ := f
  have haC : C ≠ a := by
    rcases ha with z | z
    · rw [z]; exact f1
    · exact fun e => f4 y a z e.symm
  refine ⟨m, hn.sameBut sb haC, fun h3 sb3 => ?_⟩
  exact ⟨_, H', I2.turned (t' := s2.toks) (fun b o hb e => (sb3.2 b hb).trans e) f0 f1 f3 f4 f5, q⟩
end
section
variable {B : Bs} {W : WX} {X : Cx} {fs : DenL} {pos : Pos}
def fTup (fs : DenL) : Den := fun ρ S => (fs ρ S).bind fun ds S => .ok (.tup ds) S
theorem Res.st_bind {α β : Type} {r : Res α} {k : α → Ob → Res β} {ρ : Env} {l : β → Ob → SR} : (r.bind k).st ρ l = r.st ρ fun a S => (k a S).st ρ l := by cases r <;> rfl
theorem as_par {i j : Nat} {x y : Str} {a b : Expr} {px py pt : Pos} {kt k2 pt2} (hc : X.calm = true) (hN : X.N.Nodup) (hi : X.N[i]? = some x) (hj : X.N[j]? = some y) (hij : i ≠ j)
    (hx : X.env.scope.names.lookup x = some .local) (hy : X.env.scope.names.lookup y = some .local) (ha : PA X [a, b] (tAL B W fs))
    (hw : swappedStores [.Tuple [.Name x px, .Name y py] kt pt] (.Tuple [a, b] k2 pt2) X.env = pure (some [x, y]))
    (hs : swapsWithSole [.Tuple [.Name x px, .Name y py] kt pt] (.Tuple [a, b] k2 pt2) pos.line X.env = pure false) :
    PS X (.Assign [.Tuple [.Name x px, .Name y py] kt pt] (.Tuple [a, b] k2 pt2) pos) (tSA B W (fAsg (.tp [.nm i, .nm j]) (fTup fs))) := (ps_par hc hN hi hj hij hx hy ha hw hs).imp fun D σ H h => by
  obtain ⟨ρ, S, M, o, a, h⟩ := h
  unfold fAsg fTup at h
  rw [Res.st_bind] at h
  refine ⟨ρ, S, M, o, a, (PostS.st (rel := VRs B) a h).mono fun vs H1 ⟨ds, S1, M1, s1, o1, a1, r1, h1⟩ => ?_⟩
  simp only [Res.st_ok] at h1
  cases r1 with
  | nil => simp only [asgTg, asgTgs] at h1; exact h1.elim
  | cons r t =>
    cases t with
    | nil => simp only [asgTg, asgTgs, Option.bind] at h1; exact h1.elim
    | cons r2 t =>
      cases t with
      | cons _ _ => simp only [asgTg, asgTgs, Option.bind] at h1; exact h1.elim
      | nil =>
        simp only [asgTg, asgTgs, Option.bind] at h1
        exact ⟨_, _, rfl, h1 _ H1 M1 (Stp.refl _ _) o1 ((a1.set r i).set r2 j)⟩
theorem as_par3 {i j l : Nat} {x y z : Str} {a b c : Expr} {px py pz pt : Pos} {kt k2 pt2} (hc : X.calm = true) (hN : X.N.Nodup) (hi : X.N[i]? = some x) (hj : X.N[j]? = some y) (hl : X.N[l]? = some z) (hij : i ≠ j) (hil : i ≠ l) (hjl : j ≠ l)
    (hx : X.env.scope.names.lookup x = some .local) (hy : X.env.scope.names.lookup y = some .local) (hz : X.env.scope.names.lookup z = some .local) (ha : PA X [a, b, c] (tAL B W fs))
    (hw : swappedStores [.Tuple [.Name x px, .Name y py, .Name z pz] kt pt] (.Tuple [a, b, c] k2 pt2) X.env = pure (some [x, y, z]))
    (hs : swapsWithSole [.Tuple [.Name x px, .Name y py, .Name z pz] kt pt] (.Tuple [a, b, c] k2 pt2) pos.line X.env = pure false) :
    PS X (.Assign [.Tuple [.Name x px, .Name y py, .Name z pz] kt pt] (.Tuple [a, b, c] k2 pt2) pos) (tSA B W (fAsg (.tp [.nm i, .nm j, .nm l]) (fTup fs))) := (ps_par3 hc hN hi hj hl hij hil hjl hx hy hz ha hw hs).imp fun D σ H h => by
  obtain ⟨ρ, S, M, o, a, h⟩ := h
  unfold fAsg fTup at h
  rw [Res.st_bind] at h
  refine ⟨ρ, S, M, o, a, (PostS.st (rel := VRs B) a h).mono fun vs H1 ⟨ds, S1, M1, s1, o1, a1, r1, h1⟩ => ?_⟩
  simp only [Res.st_ok] at h1
  cases r1 with
  | nil => simp only [asgTg, asgTgs] at h1; exact h1.elim
  | cons r t =>
    cases t with
    | nil => simp only [asgTg, asgTgs, Option.bind] at h1; exact h1.elim
    | cons r2 t =>
      cases t with
      | nil => simp only [asgTg, asgTgs, Option.bind] at h1; exact h1.elim
      | cons r3 t =>
        cases t with
        | cons _ _ => simp only [asgTg, asgTgs, Option.bind] at h1; exact h1.elim
        | nil =>
          simp only [asgTg, asgTgs, Option.bind] at h1
          exact ⟨_, _, _, rfl, h1 _ H1 M1 (Stp.refl _ _) o1 (((a1.set r i).set r2 j).set r3 l)⟩
end
end QL
set_option Elab.async false
set_option linter.all false
set_option maxRecDepth 100000
set_option maxHeartbeats 4000000
/-! QL32: is the text's expression what the program says? -/
namespace QL
open PySem PySem.Spec L2
open PyProof.Rows hiding St
/-- the names that the program's numbers stand for -/
structure Tab where
  fn : List (Nat × Str × List Str)
  con : List (Nat × Str)
  tups : List Nat
  gcd : Bool
def glbT (T : Tab) (o : LE) : Bool := match o with
  | .glb i => decide (i ∈ T.tups)
  | _ => true
def notDbg (x : Str) : Bool := !(x == ("__debug__" : Str)) && !(x == ("__classdict__" : Str)) && !decide (x = ("__name__" : Str))
def glC (c : CC) (x : Str) : Bool := match c.sc.names.lookup x with
  | some .globalImplicit => notDbg x
  | _ => false
def tyName : Ty → Option Str
  | .int => some "int" | .str => some "str" | .bool => some "bool" | .tuple => some "tuple" | .list => some "list" | .dict => some "dict" | .none => none
def bltName : Bi → Option Str
  | .len => some "len" | .abs => some "abs" | .int => some "int" | .min => some "min" | .max => some "max" | .tuple => some "tuple" | .list => some "list" | .dict => some "dict" | .sorted => some "sorted" | .sum => some "sum" | .all => some "all" | .any => some "any" | .isi => some "isinstance" | .str => some "str" | .repr => some "repr" | _ => none
def itName : It1 → Option Str
  | .range => some "range" | .zip => some "zip" | .enum => some "enumerate" | .rev => some "reversed" | _ => none
def bltNames : List Str := ["len", "abs", "int", "min", "max", "tuple", "list", "dict", "sorted", "sum", "all", "any", "isinstance", "str", "repr", "range", "zip", "enumerate", "reversed", "bool"]
def isTuple : Expr → Bool
  | .Tuple _ _ _ => true
  | _ => false
def notSl : Expr → Bool
  | .Slice _ _ _ _ => false
  | _ => true
def nameIs (x : Str) (o : Option Str) : Bool := match o with
  | some y => decide (x = y)
  | none => false
/-- a block's names -/
def relS (sc scope : Scope) : Scope := { scope with names := scope.names.map fun (n, k) => if (k == NameKind.free && sc.kind == .function && sc.names.lookup n == some .cell) then (n, NameKind.cell) else (n, k) }
def CC.blk (c : CC) (scope : Scope) : CC := ⟨c.N, relS c.sc scope, fun x => scope.names.lookup x == some .cell⟩
def ownP (c : CC) (own : List Nat) : List (Str × Nat) := own.filterMap fun i => (c.N[i]?).map fun x => (x, i)
def sameL (xs ys : List Nat) : Bool := decide (xs = ys)
def blkB (c : CC) (scope : Scope) (own : List Nat) : Bool := sameL ((ownP c own).map (·.2)) own && blkC c.N c.sc scope (ownP c own)
def subL (xs ys : List Nat) : Bool := xs.all fun x => decide (x ∈ ys)
def cstB (c : CC) (d : D) (e : Expr) : Bool := match d, e with
  | .int i, .Constant (.int j) _ _ => decide (i = j)
  | .bl i, .Constant (.bool j) _ _ => decide (i = j)
  | .non, .Constant .none _ _ => true
  | .str x, .Constant (.str y) _ _ => decide (toS x = y)
  | .ty t, .Name x _ => nameIs x (tyName t) && glC c x
  | _, _ => false
def kwsB (ps : List Str) (ks : List Nat) (kws : List Keyword) : Bool := kws.all (fun q => q.arg.isSome) && decide (kws.filterMap (·.arg) = kwNames ps ks) && decide (kws.length = ks.length)
mutual
def chkE (T : Tab) (c : CC) : LE → Expr → Bool
  | .var i, e => (match e with
    | .Name x _ => slotIs c i x && isVis c x && notDbg x
    | _ => false)
  | .cst d, e => cstB c d e
  | .glb i, e => (match e with
    | .Name x _ => nameIs x (look T.con i) && glC c x
    | _ => false)
  | .tup es, e => (match e with
    | .Tuple es' _ _ => Nat.ble es.length 1000 && chkEs T c es es'
    | _ => false)
  | .lst _ es, e => (match e with
    | .List es' _ => Nat.ble es.length 1000 && chkEs T c es es'
    | _ => false)
  | .dic _ kvs, e => (match e with
    | .Dict ks vs _ => Nat.ble ks.length 15 && chkPs T c kvs ks vs
    | _ => false)
  | .bin o a b, e => (match e with
    | .BinOp a' o' b' _ => decide (o' = boOp o) && chkE T c a a' && chkE T c b b'
    | _ => false)
  | .cmp o a b, e => (match e with
    | .Compare a' [o'] [b'] _ => decide (o' = coOp o) && !behindInMarks o' b' && chkE T c a a' && chkE T c b b'
    | _ => false)
  | .chn o o2 a b d, e => (match e with
    | .Compare a' [o', o2'] [b', d'] _ => decide (o' = coOp o) && decide (o2' = coOp o2) && !lastMarks [o', o2'] [b', d'] && chkE T c a a' && chkE T c b b' && chkE T c d d'
    | _ => false)
  | .neg a, e => (match e with
    | .UnaryOp .USub a' _ => chkE T c a a'
    | _ => false)
  | .not a, e => (match e with
    | .UnaryOp .Not a' _ => chkE T c a a'
    | _ => false)
  | .and a b, e => (match e with
    | .BoolOp .And [a', b'] _ => chkE T c a a' && chkE T c b b'
    | .BoolOp .And (a' :: b' :: d' :: r) p => chkE T c a a' && chkE T c b (.BoolOp .And (b' :: d' :: r) p)
    | _ => false)
  | .or a b, e => (match e with
    | .BoolOp .Or [a', b'] _ => chkE T c a a' && chkE T c b b'
    | .BoolOp .Or (a' :: b' :: d' :: r) p => chkE T c a a' && chkE T c b (.BoolOp .Or (b' :: d' :: r) p)
    | _ => false)
  | .ite t a b, e => (match e with
    | .IfExp t' a' b' _ => chkE T c t t' && chkE T c a a' && chkE T c b b'
    | _ => false)
  | .ix a i, e => (match e with
    | .Subscript a' i' _ => notSl i' && chkE T c a a' && chkE T c i i'
    | _ => false)
  | .slc a lo hi, e => (match e with
    | .Subscript a' (.Slice lo' hi' none _) _ => chkE T c a a' && chkO T c lo lo' && chkO T c hi hi'
    | _ => false)
  | .call f es ks, e => (match e with
    | .Call (.Name x _) es' kws _ => (match look T.fn f with
      | some (y, ps) => decide (x = y) && glC c x && kwsB ps ks kws && chkA T c es es' kws
      | none => false)
    | _ => false)
  | .blt _ b es, e => (match e with
    | .Call (.Name x _) es' [] _ => (match b with
      | .dictz => (match es' with
        | [.Call (.Name y _) es2 [] _] => decide (x = ("dict" : Str)) && glC c x && decide (y = ("zip" : Str)) && glC c y && decide (es2.length = 2) && chkEs T c es es2
        | _ => false)
      | .gcd => T.gcd && decide (x = ("gcd" : Str)) && glC c x && !es'.isEmpty && chkEs T c es es'
      | b => nameIs x (bltName b) && glC c x && !es'.isEmpty && chkEs T c es es')
    | _ => false)
  | .mth m o es, e => (match e with
    | .Call (.Attribute o' n apos) es' [] cpos => glbT T o && decide (n = m.name) && noCall o' && decide (es'.length < 30) && (apos.endLine == cpos.line) && chkE T c o o' && chkEs T c es es'
    | _ => false)
  | .lc _ tg w it ifs x own, e => (match e with
    | .ListComp x' [⟨tg', it', ifs', a⟩] scope _ => decide (a = 0) && noSet it' && blkB c scope own && subL (tgIx tg) own && chkI T c w it tg' it' && chkT (c.blk scope) tg tg' && chkC T (c.blk scope) ifs ifs' && chkE T (c.blk scope) x x'
    | _ => false)
  | .lc2 _ tg w it ifs tg2 w2 it2 ifs2 x own own2, e => (match e with
    | .ListComp x' [⟨tg', it', ifs', a⟩, ⟨tg2', it2', ifs2', a2⟩] scope _ => decide (a = 0) && decide (a2 = 0) && noSet it' && noSet it2' && blkB c scope own && subL own2 own && subL (tgIx tg) own && subL (tgIx tg2) own2 && chkI T c w it tg' it' && chkT (c.blk scope) tg tg' && chkC T (c.blk scope) ifs ifs' &&
        chkI T (c.blk scope) w2 it2 tg2' it2' && chkT (c.blk scope) tg2 tg2' && chkC T (c.blk scope) ifs2 ifs2' && chkE T (c.blk scope) x x'
    | _ => false)
  | .dc _ tg w it ifs k v own, e => (match e with
    | .DictComp k' v' [⟨tg', it', ifs', a⟩] scope _ => decide (a = 0) && noSet it' && blkB c scope own && subL (tgIx tg) own && chkI T c w it tg' it' && chkT (c.blk scope) tg tg' && chkC T (c.blk scope) ifs ifs' && chkE T (c.blk scope) k k' && chkE T (c.blk scope) v v'
    | _ => false)
def chkEs (T : Tab) (c : CC) : List LE → List Expr → Bool
  | [], es => es.isEmpty
  | e :: es, l => (match l with
    | e' :: es' => !isSt e' && chkE T c e e' && chkEs T c es es'
    | [] => false)
def chkPs (T : Tab) (c : CC) : List LE → List (Option Expr) → List Expr → Bool
  | [], ks, vs => ks.isEmpty && vs.isEmpty
  | [_], _, _ => false
  | k :: v :: r, ks, vs => (match ks, vs with
    | some k' :: ks', v' :: vs' => chkE T c k k' && chkE T c v v' && chkPs T c r ks' vs'
    | _, _ => false)
def chkO (T : Tab) (c : CC) : Option LE → Option Expr → Bool
  | none, o => o.isNone
  | some e, o => (match o with
    | some e' => chkE T c e e'
    | none => false)
def chkA (T : Tab) (c : CC) : List LE → List Expr → List Keyword → Bool
  | [], es, kws => es.isEmpty && kws.isEmpty
  | e :: es, l, kws => (match l with
    | e' :: es' => !isSt e' && chkE T c e e' && chkA T c es es' kws
    | [] => (match kws with
      | ⟨_, e', _⟩ :: kws' => chkE T c e e' && chkA T c es [] kws'
      | [] => false))
def chkC (T : Tab) (c : CC) : List LE → List Expr → Bool
  | [], es => es.isEmpty
  | [e], l => (match l with
    | [e'] => chkE T c e e'
    | _ => false)
  | _ :: _ :: _, _ => false
def chkI (T : Tab) (c : CC) (w : It1) : List LE → Expr → Expr → Bool
  | [], _, _ => false
  | e :: es, tg, it => (match w with
    | .val => es.isEmpty && chkE T c e it
    | .items => (match it with
      | .Call (.Attribute o n apos) [] [] cpos => es.isEmpty && isTuple tg && decide (n = ("items" : Str)) && noCall o && (apos.endLine == cpos.line) && chkE T c e o
      | _ => false)
    | w => (match it with
      | .Call (.Name x _) (e' :: es') [] _ => nameIs x (itName w) && glC c x && (isTuple tg || decide (w = .range) || decide (w = .rev)) && !isSt e' && chkE T c e e' && chkEs T c es es'
      | _ => false))
end
end QL
set_option Elab.async false
set_option linter.all false
set_option maxRecDepth 100000
set_option maxHeartbeats 4000000
/-! QL33: where the check says yes, the machine does what the evaluator says. -/
namespace QL
open PySem PySem.Spec L2
open PyProof.Rows hiding St
/-- what is known within a body or a block -/
structure GX (LP : LProg) (T : Tab) (g : Nat → Option Addr) (cf : CF) (n : Nat) (X : Cx) (c : CC) (W : WX) : Prop where
  ok : OkC c X
  room : Room n X.A
  gd : X.A.guards = some []
  tk : Takes X W
  fn : ∀ f x ps, look T.fn f = some (x, ps) → ∃ np dl run, DefOk X.prog X.w X.K X.mg X.base g n x ps np dl run ∧
    ∀ ds ks S, cf f ds ks S = match (bindIx np dl.length ds.length ks).map fun ixs => ixs.map fun i => ((ds ++ dl)[i]?).getD .non with
      | some xs => run xs S
      | none => .fail
  con : ∀ i d x, look LP.consts i = some d → look T.con i = some x → ∃ v u, X.mg x = some u ∧ RelV v u ∧ (∀ M H, VR (bs X g) M H v d) ∧ (i ∈ T.tups → TupK X v)
  blt : ∀ x ∈ bltNames, X.mg x = none
  gcd : T.gcd = true → X.mg "gcd" = some (.builtin "math.gcd")
section
variable {LP : LProg} {T : Tab} {g : Nat → Option Addr} {cf : CF} {n : Nat} {X : Cx} {c : CC} {W : WX}
theorem GX.hu (G : GX LP T g cf n X c W) : X.A.units + 70 < cLine := by have := G.room.un; omega
theorem takes_wn : Takes X Wn := fun u s' ⟨_, _, _, _, _, _, _, _, _, _, _, _, _, _, _, _, w⟩ => w.elim
theorem GX.blk (G : GX LP T g cf n X c W) (s : Shared) (H : Hp) (scope : Scope) (C : Addr) (cl : List (Str × Addr)) (fp : List Addr) : GX LP T g cf n (X.blk s H scope (compEnvC scope cl C X.env) fp) (c.blk scope) Wn :=
  ⟨⟨G.ok.N, by
      show relabel scope X.env = relS c.sc scope
      rw [← G.ok.sc]; rfl, fun x h => h, G.ok.nd, G.ok.calm⟩, G.room, G.gd, takes_wn, G.fn, G.con, G.blt, G.gcd⟩
theorem gl_of (G : GX LP T g cf n X c W) {x : Str} (h : glC c x = true) : Gl X x ∧ (x == ("__debug__" : Str)) = false ∧ x ≠ "__name__" := by
  unfold glC at h
  split at h
  · rename_i e
    unfold notDbg at h
    simp only [Bool.and_eq_true, Bool.not_eq_true', decide_eq_false_iff_not] at h
    refine ⟨?_, h.1.1, h.2⟩
    show X.env.scope.names.lookup x = some .globalImplicit
    rw [G.ok.sc]; exact e
  · cases h
theorem nameIs_eq {x : Str} {o : Option Str} (h : nameIs x o = true) : o = some x := by
  unfold nameIs at h
  split at h
  · rename_i y
    rw [of_decide_eq_true h]
  · cases h
theorem blt_boot {b : Bi} {x : Str} (h : bltName b = some x) : x ∈ bltNames ∧ ((∃ id, biF b = some (.builtin id) ∧ bootBuiltins x = some (.builtin id)) ∨ ∃ T, biF b = some (.type T) ∧ bootBuiltins x = some (.type T)) := by
  cases b <;> simp only [bltName, Option.some.injEq, reduceCtorEq] at h <;> subst h <;> refine ⟨by simp [bltNames], ?_⟩ <;> first
    | exact .inl ⟨_, rfl, by decide +kernel⟩
    | exact .inr ⟨_, rfl, by decide +kernel⟩
theorem ty_boot {t : Ty} {x : Str} (h : tyName t = some x) : x ∈ bltNames ∧ bootBuiltins x = some (.type t.name) := by
  cases t <;> simp only [tyName, Option.some.injEq, reduceCtorEq] at h <;> subst h <;> exact ⟨by simp [bltNames], by decide +kernel⟩
theorem cst_ok (G : GX LP T g cf n X c W) {d : D} {e : Expr} (h : cstB c d e = true) : AX (bs X g) W X e (fun _ S => .ok d S) := by
  unfold cstB at h
  split at h
  · rw [of_decide_eq_true h]; exact ax_cst pe_int fun _ _ => .int _
  · rw [of_decide_eq_true h]; exact ax_cst pe_bl fun _ _ => .bl _
  · exact ax_cst pe_non fun _ _ => .non
  · rw [← of_decide_eq_true h]; exact ax_cst pe_str fun _ _ => .str _
  · rename_i t x p
    rw [Bool.and_eq_true] at h
    obtain ⟨g1, g2, g3⟩ := gl_of G h.2
    obtain ⟨b1, b2⟩ := ty_boot (nameIs_eq h.1)
    exact ax_cst (v := .ty t.name) (pe_bltn g1 (G.blt x b1) b2 rfl g3 g2) fun _ _ => .ty _
  · cases h
theorem vis_of (G : GX LP T g cf n X c W) {x : Str} (h : isVis c x = true) : Vis X.env.scope x := by
  unfold isVis at h
  unfold Vis
  rw [G.ok.sc]
  split at h <;> first | (rename_i e; first | exact .inl e | exact .inr (.inl e) | exact .inr (.inr e)) | cases h
theorem slot_of (G : GX LP T g cf n X c W) {i : Nat} {x : Str} (h : slotIs c i x = true) : X.N[i]? = some x := by
  unfold slotIs at h
  rw [G.ok.N]
  split at h
  · rename_i y e; rw [e, of_decide_eq_true h]
  · cases h
theorem evEs_len {P : LProg} : ∀ {es : List LE} {ρ : Env} {S S' : Ob} {ds : List D}, evEs P cf es ρ S = .ok ds S' → ds.length = es.length
  | [], ρ, S, S', ds, h => by unfold evEs at h; cases h; rfl
  | e :: es, ρ, S, S', ds, h => by
    unfold evEs at h
    cases e1 : evE P cf e ρ S with
    | ok d S1 =>
      rw [e1] at h
      simp only [Res.bind_ok] at h
      cases e2 : evEs P cf es ρ S1 with
      | ok ds' S2 =>
        rw [e2] at h
        simp only [Res.bind_ok] at h
        cases h
        simp [evEs_len e2]
      | exc _ _ _ => rw [e2] at h; cases h
      | fail => rw [e2] at h; cases h
    | exc _ _ _ => rw [e1] at h; cases h
    | fail => rw [e1] at h; cases h
theorem ble1000 {n : Nat} (h : Nat.ble n 1000 = true) : n ≤ sizeLine := by
  have := Nat.le_of_ble_eq_true h
  rw [sizeLine_eq]; omega
theorem subL_of {xs ys : List Nat} (h : subL xs ys = true) : ∀ j ∈ xs, j ∈ ys := fun j hj => of_decide_eq_true (List.all_eq_true.mp h j hj)
theorem blk_of (G : GX LP T g cf n X c W) {scope : Scope} {own : List Nat} (h : blkB c scope own = true) : BlkOk X.N X.env.scope scope (ownP c own) ∧ (ownP c own).map (·.2) = own := by
  unfold blkB at h
  rw [Bool.and_eq_true] at h
  refine ⟨?_, of_decide_eq_true h.1⟩
  rw [G.ok.N, G.ok.sc]
  exact blkOk_by h.2
theorem plainIx {e : Expr} (h : notSl e = true) : PlainIx e := fun o i => by
  cases e <;> first | rfl | cases h
end
end QL
set_option Elab.async false
set_option linter.all false
set_option maxRecDepth 100000
set_option maxHeartbeats 8000000
/-! QL34: expressions: the check is sound. -/
namespace QL
open PySem PySem.Spec L2
open PyProof.Rows hiding St
section
variable {LP : LProg} {T : Tab} {g : Nat → Option Addr} {cf : CF} {n : Nat}
theorem AX.to {B : Bs} {W : WX} {X : Cx} {e : Expr} {f f' : Den} (h : AX B W X e f) (q : f = f') : AX B W X e f' := q ▸ h
theorem pgB {X : Cx} {c : CC} {W : WX} (G : GX LP T g cf n X c W) {scope : Scope} {tg : Tg} {te : Expr} (h : chkT (c.blk scope) tg te = true) : Blk X scope fun X' => PG X' te (gA (bs X g) tg) := fun s H C cl fp => pg_of (B := bs X g) (X := X.blk s H scope (compEnvC scope cl C X.env) fp) rfl (G.blk s H scope C cl fp).ok h
mutual
theorem chkE_ok : ∀ (le : LE) {X : Cx} {c : CC} {W : WX} (G : GX LP T g cf n X c W) {e : Expr}, chkE T c le e = true → AX (bs X g) W X e (evE LP cf le)
  | .var i, X, c, W, G, e, h => by
    unfold chkE at h
    split at h
    · simp only [Bool.and_eq_true, notDbg, Bool.not_eq_true'] at h
      exact (ax_var (slot_of G h.1.1) (vis_of G h.1.2) h.2.1.1 h.2.1.2).to (by funext ρ S; rw [evE] <;> rfl)
    · cases h
  | .cst d, X, c, W, G, e, h => by
    unfold chkE at h
    exact (cst_ok G h).to (by funext ρ S; rw [evE] <;> rfl)
  | .glb i, X, c, W, G, e, h => by
    unfold chkE at h
    split at h
    · rw [Bool.and_eq_true] at h
      obtain ⟨g1, g2, g3⟩ := gl_of G h.2
      cases ed : look LP.consts i with
      | none => exact AX.bad.to (by funext ρ S; rw [evE, ed] <;> rfl)
      | some d =>
        obtain ⟨v, u, m, r, q, _⟩ := G.con i d _ ed (nameIs_eq h.1)
        exact (ax_cst (pe_glob g1 m r g2) q).to (by funext ρ S; rw [evE, ed] <;> rfl)
    · cases h
  | .tup es, X, c, W, G, e, h => by
    unfold chkE at h
    split at h
    · rw [Bool.and_eq_true] at h
      exact (ax_tup (chkEs_ok es G h.2).1 fun ρ S ds S' e => by rw [evEs_len e]; exact ble1000 h.1).to (by funext ρ S; rw [evE] <;> rfl)
    · cases h
  | .lst m es, X, c, W, G, e, h => by
    unfold chkE at h
    split at h
    · rw [Bool.and_eq_true] at h
      exact (ax_lst (m := m) (chkEs_ok es G h.2).1 fun ρ S ds S' e => by rw [evEs_len e]; exact ble1000 h.1).to (by funext ρ S; rw [evE] <;> rfl)
    · cases h
  | .dic m kvs, X, c, W, G, e, h => by
    unfold chkE at h
    split at h
    · rename_i ks vs p
      rw [Bool.and_eq_true] at h
      obtain ⟨h1, h2, h3, h4⟩ := chkPs_ok kvs G p h.2
      cases ks with
      | nil =>
        cases vs with
        | cons _ _ => simp at h3
        | nil =>
          cases kvs with
          | nil => exact (ax_dic0 (m := m)).to (by funext ρ S; rw [evE] <;> rfl)
          | cons _ _ => exact absurd rfl (h4 (by simp))
      | cons k ks => exact (ax_dic (m := m) h1 h2 h3 (by simp) (Nat.le_of_ble_eq_true h.1)).to (by funext ρ S; rw [evE] <;> rfl)
    · cases h
  | .bin o a b, X, c, W, G, e, h => by
    unfold chkE at h
    split at h
    · simp only [Bool.and_eq_true] at h
      rw [of_decide_eq_true h.1.1]
      exact (ax_bin (chkE_ok a G h.1.2) (chkE_ok b G h.2)).to (by funext ρ S; rw [evE] <;> rfl)
    · cases h
  | .cmp o a b, X, c, W, G, e, h => by
    unfold chkE at h
    split at h
    · simp only [Bool.and_eq_true, Bool.not_eq_true'] at h
      obtain ⟨⟨⟨h1, h2⟩, h3⟩, h4⟩ := h
      have e1 := of_decide_eq_true h1
      subst e1
      exact (ax_cmp G.hu (chkE_ok a G h3) (chkE_ok b G h4) h2).to (by funext ρ S; rw [evE] <;> rfl)
    · cases h
  | .chn o o2 a b d, X, c, W, G, e, h => by
    unfold chkE at h
    split at h
    · simp only [Bool.and_eq_true, Bool.not_eq_true'] at h
      obtain ⟨⟨⟨⟨⟨h1, h2⟩, h3⟩, h4⟩, h5⟩, h6⟩ := h
      have e1 := of_decide_eq_true h1
      have e2 := of_decide_eq_true h2
      subst e1; subst e2
      exact (ax_chn G.hu (chkE_ok a G h4) (chkE_ok b G h5) (chkE_ok d G h6) h3).to (by funext ρ S; rw [evE] <;> rfl)
    · cases h
  | .neg a, X, c, W, G, e, h => by
    unfold chkE at h
    split at h
    · exact (ax_neg (chkE_ok a G h)).to (by funext ρ S; rw [evE] <;> rfl)
    · cases h
  | .not a, X, c, W, G, e, h => by
    unfold chkE at h
    split at h
    · exact (ax_not (chkE_ok a G h)).to (by funext ρ S; rw [evE] <;> rfl)
    · cases h
  | .and a b, X, c, W, G, e, h => by
    unfold chkE at h
    split at h
    · rw [Bool.and_eq_true] at h
      exact (ax_and2 (chkE_ok a G h.1) (chkE_ok b G h.2)).to (by funext ρ S; rw [evE] <;> rfl)
    · rw [Bool.and_eq_true] at h
      exact (ax_andN (chkE_ok a G h.1) (chkE_ok b G h.2)).to (by funext ρ S; rw [evE] <;> rfl)
    · cases h
  | .or a b, X, c, W, G, e, h => by
    unfold chkE at h
    split at h
    · rw [Bool.and_eq_true] at h
      exact (ax_or2 (chkE_ok a G h.1) (chkE_ok b G h.2)).to (by funext ρ S; rw [evE] <;> rfl)
    · rw [Bool.and_eq_true] at h
      exact (ax_orN (chkE_ok a G h.1) (chkE_ok b G h.2)).to (by funext ρ S; rw [evE] <;> rfl)
    · cases h
  | .ite t a b, X, c, W, G, e, h => by
    unfold chkE at h
    split at h
    · simp only [Bool.and_eq_true] at h
      exact (ax_ite (chkE_ok t G h.1.1) (chkE_ok a G h.1.2) (chkE_ok b G h.2)).to (by funext ρ S; rw [evE] <;> rfl)
    · cases h
  | .ix a i, X, c, W, G, e, h => by
    unfold chkE at h
    split at h
    · simp only [Bool.and_eq_true] at h
      exact (ax_ix G.hu (chkE_ok a G h.1.2) (chkE_ok i G h.2) (plainIx h.1.1)).to (by funext ρ S; rw [evE] <;> rfl)
    · cases h
  | .slc a lo hi, X, c, W, G, e, h => by
    unfold chkE at h
    split at h
    · simp only [Bool.and_eq_true] at h
      exact (ax_slc (chkE_ok a G h.1.1) (chkO_ok lo G h.1.2) (chkO_ok hi G h.2)).to (by funext ρ S; rw [evE] <;> rfl)
    · cases h
  | .call f es ks, X, c, W, G, e, h => by
    unfold chkE at h
    split at h
    · split at h
      · rename_i y ps ef
        simp only [Bool.and_eq_true, kwsB, decide_eq_true_eq] at h
        obtain ⟨⟨⟨h1, h2⟩, ⟨k1, k2⟩, k3⟩, h4⟩ := h
        subst h1
        obtain ⟨np, dl, run, D, hcf⟩ := G.fn f _ _ ef
        obtain ⟨g1, g2, g3⟩ := gl_of G h2
        obtain ⟨a1, a2⟩ := chkA_ok es G h4
        exact (ax_call D G.room G.gd G.tk g1 a1 a2 k1 k2 k3 g2).to (by
          funext ρ S
          rw [evE]
          unfold fCall
          congr 1
          funext ds S
          exact (hcf ds ks S).symm)
      · cases h
    · cases h
  | .blt m b es, X, c, W, G, e, h => by
    unfold chkE at h
    split at h
    · split at h
      · split at h
        · simp only [Bool.and_eq_true, decide_eq_true_eq] at h
          obtain ⟨⟨⟨⟨⟨h1, h2⟩, h3⟩, h4⟩, h5⟩, h6⟩ := h
          subst h1; subst h3
          rename_i es2 _
          obtain ⟨a1, a2, a3⟩ := chkEs_ok es G h6
          match es2, h5 with
          | [e1, e2], _ =>
            exact (ax_dictz (m := m) G.ok.calm G.hu (gl_of G h2).1 (G.blt _ (by simp [bltNames])) (gl_of G h4).1 (G.blt _ (by simp [bltNames])) a1 a2).to (by funext ρ S; rw [evE] <;> rfl)
        · cases h
      · rename_i es' _ _
        simp only [Bool.and_eq_true, decide_eq_true_eq, Bool.not_eq_true'] at h
        obtain ⟨⟨⟨⟨h0, h1⟩, h2⟩, h3⟩, h4⟩ := h
        subst h1
        obtain ⟨a1, a2, a3⟩ := chkEs_ok es G h4
        cases es' with
        | nil => cases h3
        | cons e' es' => exact (ax_gcd (m := m) G.ok.calm G.hu G.gd (gl_of G h2).1 (G.gcd h0) a1 (gl_of G h2).2.1 a2).to (by funext ρ S; rw [evE] <;> rfl)
      · rename_i es' _ _ _ _
        simp only [Bool.and_eq_true, Bool.not_eq_true'] at h
        obtain ⟨⟨⟨h1, h2⟩, h3⟩, h4⟩ := h
        obtain ⟨a1, a2, a3⟩ := chkEs_ok es G h4
        obtain ⟨g1, g2, g3⟩ := gl_of G h2
        obtain ⟨b1, b2⟩ := blt_boot (nameIs_eq h1)
        cases es' with
        | nil => cases h3
        | cons e' es' =>
          rcases b2 with ⟨id, b2, b3⟩ | ⟨Ty, b2, b3⟩
          · exact (ax_bltB (m := m) G.ok.calm G.hu G.gd b2 g1 (G.blt _ b1) b3 a1 g3 g2 a2).to (by funext ρ S; rw [evE] <;> rfl)
          · exact (ax_bltT (m := m) G.ok.calm G.hu G.gd b2 g1 (G.blt _ b1) b3 a1 g3 g2 a2).to (by funext ρ S; rw [evE] <;> rfl)
    · cases h
  | .mth m o es, X, c, W, G, e, h => by
    unfold chkE at h
    split at h
    · simp only [Bool.and_eq_true, decide_eq_true_eq] at h
      obtain ⟨⟨⟨⟨⟨⟨h0, h1⟩, h2⟩, h3⟩, h4⟩, h5⟩, h6⟩ := h
      subst h1
      obtain ⟨a1, a2, a3⟩ := chkEs_ok es G h6
      have ho := chkE_ok o G h5
      rename_i o' apos es' cpos
      refine (ax_mth (m := m) (gl := isG o) G.hu ho.val (fun hg pins s σ H Q I q => ?_) a1 (fun z => ?_) h2 a2 (by simpa using h3) h4).to (by funext ρ S; rw [evE] <;> rfl)
      · cases o <;> first | (cases hg; done) | skip
        rename_i i
        unfold chkE at h5
        split at h5
        · rw [Bool.and_eq_true] at h5
          obtain ⟨g1, g2, g3⟩ := gl_of G h5.2
          obtain ⟨ρ, S, M, oo, r, q⟩ := q
          unfold evE at q
          cases ed : look LP.consts i with
          | none => rw [ed] at q; exact q.elim
          | some d =>
            rw [ed] at q
            obtain ⟨v, u, mm, rr, vr, tk⟩ := G.con i d _ ed (nameIs_eq h5.1)
            have q : PostV (bs X g) W σ M H (.ok d S) Q := q
            exact ld_glob I g1 mm ⟨v, H, I, rr, tk (of_decide_eq_true h0), q v H M (Stp.refl _ _) oo (vr M H)⟩ g2
        · cases h5
      · subst z
        cases es with
        | nil => funext ρ S; rw [evEs]
        | cons _ _ => simp at a3
    · cases h
  | .lc m tg w it ifs x own, X, c, W, G, e, h => by
    unfold chkE at h
    split at h
    · rename_i pp
      simp only [Bool.and_eq_true, decide_eq_true_eq] at h
      obtain ⟨⟨⟨⟨⟨⟨⟨h1, h2⟩, h3⟩, h4⟩, h5⟩, h6⟩, h7⟩, h8⟩ := h
      subst h1
      obtain ⟨b1, b2⟩ := blk_of G h3
      have := ax_lc (m := m) (pos := pp) (g := g) (W := W) G.ok.calm G.ok.nd (chkI_ok w it G h5) b1 (pgB G h6) (fun s H C cl fp => chkC_ok ifs (G.blk s H _ C cl fp) h7) (fun s H C cl fp => (chkE_ok x (G.blk s H _ C cl fp) h8).val) h2 (by rw [b2]; exact subL_of h4)
      rw [b2] at this
      exact this.to (by funext ρ S; rw [evE] <;> rfl)
    · cases h
  | .lc2 m tg w it ifs tg2 w2 it2 ifs2 x own own2, X, c, W, G, e, h => by
    unfold chkE at h
    split at h
    · rename_i pp
      simp only [Bool.and_eq_true, decide_eq_true_eq] at h
      obtain ⟨⟨⟨⟨⟨⟨⟨⟨⟨⟨⟨⟨⟨⟨h1, h1'⟩, h2⟩, h2'⟩, h3⟩, h3'⟩, h4⟩, h4'⟩, h5⟩, h6⟩, h7⟩, h8⟩, h9⟩, h10⟩, h11⟩ := h
      subst h1; subst h1'
      obtain ⟨b1, b2⟩ := blk_of G h3
      have := ax_lc2 (m := m) (pos := pp) (g := g) (W := W) (vs2 := own2) G.ok.calm G.ok.nd (chkI_ok w it G h5) b1 (by rw [b2]; exact subL_of h3') (pgB G h6) (fun s H C cl fp => chkC_ok ifs (G.blk s H _ C cl fp) h7)
        (fun s H C cl fp => chkI_ok w2 it2 (G.blk s H _ C cl fp) h8) (pgB G h9) (fun s H C cl fp => chkC_ok ifs2 (G.blk s H _ C cl fp) h10) (fun s H C cl fp => (chkE_ok x (G.blk s H _ C cl fp) h11).val) h2 h2' (by rw [b2]; exact subL_of h4) (subL_of h4')
      rw [b2] at this
      exact this.to (by funext ρ S; rw [evE] <;> rfl)
    · cases h
  | .dc m tg w it ifs k v own, X, c, W, G, e, h => by
    unfold chkE at h
    split at h
    · rename_i pp
      simp only [Bool.and_eq_true, decide_eq_true_eq] at h
      obtain ⟨⟨⟨⟨⟨⟨⟨⟨h1, h2⟩, h3⟩, h4⟩, h5⟩, h6⟩, h7⟩, h8⟩, h9⟩ := h
      subst h1
      obtain ⟨b1, b2⟩ := blk_of G h3
      have := ax_dc (m := m) (pos := pp) (g := g) (W := W) G.hu G.ok.calm G.ok.nd (chkI_ok w it G h5) b1 (pgB G h6) (fun s H C cl fp => chkC_ok ifs (G.blk s H _ C cl fp) h7) (fun s H C cl fp => (chkE_ok k (G.blk s H _ C cl fp) h8).val) (fun s H C cl fp => (chkE_ok v (G.blk s H _ C cl fp) h9).val) h2 (by rw [b2]; exact subL_of h4)
      rw [b2] at this
      exact this.to (by funext ρ S; rw [evE] <;> rfl)
    · cases h
theorem chkEs_ok : ∀ (les : List LE) {X : Cx} {c : CC} {W : WX} (G : GX LP T g cf n X c W) {es : List Expr}, chkEs T c les es = true → PA X es (tAL (bs X g) W (evEs LP cf les)) ∧ es.all (fun e => !isSt e) = true ∧ es.length = les.length
  | [], X, c, W, G, es, h => by
    unfold chkEs at h
    cases es with
    | cons _ _ => cases h
    | nil =>
      have : evEs LP cf [] = fun _ S => .ok [] S := by funext ρ S; rw [evEs]
      rw [this]
      exact ⟨aa_nil, rfl, rfl⟩
  | e :: les, X, c, W, G, es, h => by
    unfold chkEs at h
    split at h
    · simp only [Bool.and_eq_true, Bool.not_eq_true'] at h
      obtain ⟨a1, a2, a3⟩ := chkEs_ok les G h.2
      have : evEs LP cf (e :: les) = fun ρ S => (evE LP cf e ρ S).bind fun d S => (evEs LP cf les ρ S).bind fun ds S => .ok (d :: ds) S := by funext ρ S; rw [evEs] <;> rfl
      rw [this]
      exact ⟨aa_cons (chkE_ok e G h.1.2).val a1 h.1.1, by simp [h.1.1, a2], by simp [a3]⟩
    · cases h
theorem chkPs_ok : ∀ (les : List LE) {X : Cx} {c : CC} {W : WX} (G : GX LP T g cf n X c W) {ks : List (Option Expr)} {vs : List Expr} (pos : Pos), chkPs T c les ks vs = true → PP (bs X g) X pos ks vs (evPs LP cf les) ∧ ks.all (·.isSome) = true ∧ ks.length = vs.length ∧ (les ≠ [] → ks ≠ [])
  | [], X, c, W, G, ks, vs, pos, h => by
    unfold chkPs at h
    rw [Bool.and_eq_true] at h
    cases ks with
    | cons _ _ => cases h.1
    | nil =>
      cases vs with
      | cons _ _ => cases h.2
      | nil =>
        have : evPs LP cf [] = fun _ S => .ok [] S := by funext ρ S; rw [evPs]
        rw [this]
        exact ⟨pp_nil, rfl, rfl, fun z => absurd rfl z⟩
  | [_], X, c, W, G, ks, vs, pos, h => by unfold chkPs at h; cases h
  | k :: v :: r, X, c, W, G, ks, vs, pos, h => by
    unfold chkPs at h
    split at h
    · simp only [Bool.and_eq_true] at h
      obtain ⟨a1, a2, a3, _⟩ := chkPs_ok r G pos h.2
      have : evPs LP cf (k :: v :: r) = fun ρ S => (evE LP cf k ρ S).bind fun kd S => (evE LP cf v ρ S).bind fun vd S => (evPs LP cf r ρ S).bind fun ps S => .ok ((kd, vd) :: ps) S := by funext ρ S; rw [evPs] <;> rfl
      rw [this]
      exact ⟨pp_cons (chkE_ok k G h.1.1).val (chkE_ok v G h.1.2).val a1, by simp [a2], by simp [a3], fun _ => by simp⟩
    · cases h
theorem chkO_ok : ∀ (lo : Option LE) {X : Cx} {c : CC} {W : WX} (G : GX LP T g cf n X c W) {o : Option Expr}, chkO T c lo o = true → PO X o (tAO (bs X g) W (evO LP cf lo))
  | none, X, c, W, G, o, h => by
    unfold chkO at h
    cases o with
    | some _ => cases h
    | none =>
      have : evO LP cf none = fun _ S => .ok none S := by funext ρ S; rw [evO]
      rw [this]
      exact ao_none
  | some e, X, c, W, G, o, h => by
    unfold chkO at h
    split at h
    · have : evO LP cf (some e) = fOpt (evE LP cf e) := by funext ρ S; rw [evO] <;> rfl
      rw [this]
      exact ao_some (chkE_ok e G h)
    · cases h
theorem chkA_ok : ∀ (les : List LE) {X : Cx} {c : CC} {W : WX} (G : GX LP T g cf n X c W) {es : List Expr} {kws : List Keyword}, chkA T c les es kws = true → PK2 X es kws (tAL (bs X g) W (evEs LP cf les)) ∧ es.all (fun e => !isSt e) = true
  | [], X, c, W, G, es, kws, h => by
    unfold chkA at h
    rw [Bool.and_eq_true] at h
    cases es with
    | cons _ _ => cases h.1
    | nil =>
      cases kws with
      | cons _ _ => cases h.2
      | nil =>
        have : evEs LP cf [] = fun _ S => .ok [] S := by funext ρ S; rw [evEs]
        rw [this]
        exact ⟨pk2_nil pk1_nil, rfl⟩
  | e :: les, X, c, W, G, es, kws, h => by
    have ev : evEs LP cf (e :: les) = fCons (evE LP cf e) (evEs LP cf les) := by funext ρ S; rw [evEs] <;> rfl
    unfold chkA at h
    split at h
    · simp only [Bool.and_eq_true, Bool.not_eq_true'] at h
      obtain ⟨a1, a2⟩ := chkA_ok les G h.2
      rw [ev]
      exact ⟨pk2_cons (chkE_ok e G h.1.2).val a1 h.1.1, by simp [h.1.1, a2]⟩
    · split at h
      · rw [Bool.and_eq_true] at h
        obtain ⟨a1, a2⟩ := chkA_ok les G h.2
        rw [ev]
        exact ⟨pk2_nil (pk1_cons (chkE_ok e G h.1).val (a1.one rfl)), rfl⟩
      · cases h
theorem chkC_ok : ∀ (les : List LE) {X : Cx} {c : CC} (G : GX LP T g cf n X c Wn) {es : List Expr}, chkC T c les es = true → PTs X es (tAC (bs X g) (evC LP cf les))
  | [], X, c, G, es, h => by
    unfold chkC at h
    cases es with
    | cons _ _ => cases h
    | nil =>
      have : evC LP cf [] = fun _ S => .ok true S := by funext ρ S; rw [evC]
      rw [this]
      exact apts_nil
  | [e], X, c, G, es, h => by
    unfold chkC at h
    split at h
    · have : evC LP cf [e] = fC1 (evE LP cf e) := by funext ρ S; rw [evC] <;> rfl
      rw [this]
      exact apts_one (chkE_ok e G h)
    · cases h
  | _ :: _ :: _, X, c, G, es, h => by unfold chkC at h; cases h
theorem chkI_ok : ∀ (w : It1) (les : List LE) {X : Cx} {c : CC} {W : WX} (G : GX LP T g cf n X c W) {te it : Expr}, chkI T c w les te it = true → PI X te it (iA (bs X g) W (fIt w (evEs LP cf les)))
  | w, [], X, c, W, G, te, it, h => by unfold chkI at h; cases h
  | w, e :: les, X, c, W, G, te, it, h => by
    have ev : evEs LP cf (e :: les) = fun ρ S => (evE LP cf e ρ S).bind fun d S => (evEs LP cf les ρ S).bind fun ds S => .ok (d :: ds) S := by funext ρ S; rw [evEs] <;> rfl
    have ev0 : evEs LP cf [] = fun _ S => .ok [] S := by funext ρ S; rw [evEs]
    unfold chkI at h
    split at h
    · rw [Bool.and_eq_true] at h
      cases les with
      | cons _ _ => cases h.1
      | nil =>
        rw [ev, ev0]
        exact ai_val (chkE_ok e G h.2).val
    · split at h
      · simp only [Bool.and_eq_true, decide_eq_true_eq] at h
        obtain ⟨⟨⟨⟨⟨h1, h2⟩, h3⟩, h4⟩, h5⟩, h6⟩ := h
        subst h3
        cases les with
        | cons _ _ => cases h1
        | nil =>
          cases te <;> first | (cases h2; done) | skip
          rw [ev, ev0]
          exact ai_items (chkE_ok e G h6).val h4 h5
      · cases h
    · split at h
      · simp only [Bool.and_eq_true, Bool.or_eq_true, decide_eq_true_eq, Bool.not_eq_true'] at h
        obtain ⟨⟨⟨⟨⟨h1, h2⟩, h3⟩, h4⟩, h5⟩, h6⟩ := h
        obtain ⟨a1, a2, a3⟩ := chkEs_ok les G h6
        obtain ⟨g1, g2, g3⟩ := gl_of G h2
        have hn := nameIs_eq h1
        rename_i x _ e' es' _
        have pa : PA X (e' :: es') (tAL (bs X g) W (evEs LP cf (e :: les))) := by rw [ev]; exact aa_cons (chkE_ok e G h5).val a1 h4
        have hs : (e' :: es').all (fun e => !isSt e) = true := by simp [h4, a2]
        cases w <;> simp only [itName, Option.some.injEq, reduceCtorEq] at hn
        all_goals subst hn
        · exact ai_call iter_range g1 (G.blt _ (by simp [bltNames])) boot_range pa g3 g2 hs
        · rcases h3 with (h3 | h3) | h3
          · cases te <;> first | (cases h3; done) | skip
            exact ai_call iter_zip g1 (G.blt _ (by simp [bltNames])) boot_zip pa g3 g2 hs
          · cases h3
          · cases h3
        · rcases h3 with (h3 | h3) | h3
          · cases te <;> first | (cases h3; done) | skip
            exact ai_call iter_enum g1 (G.blt _ (by simp [bltNames])) boot_enumerate pa g3 g2 hs
          · cases h3
          · cases h3
        · exact ai_call iter_rev g1 (G.blt _ (by simp [bltNames])) boot_reversed pa g3 g2 hs
      · cases h
end
end
end QL
set_option Elab.async false
set_option linter.all false
set_option maxRecDepth 100000
set_option maxHeartbeats 4000000
/-! QL35: is the text's statement what the program says? -/
namespace QL
open PySem PySem.Spec L2
open PyProof.Rows hiding St
def semPure {α : Type} : Sem α → Option α
  | .pure a => some a
  | _ => none
theorem semPure_eq {α : Type} {t : Sem α} {a : α} (h : semPure t = some a) : t = pure a := by
  cases t <;> first | (cases h; rfl) | cases h
/-- a frame of these names, to ask what a store does -/
def envS (sc : Scope) : PySem.Env := { scope := sc, locals := 0, globals := 0, cells := [] }
theorem swaps_scope (e : Expr) (t : Option Expr) (l : Nat) (env : PySem.Env) : swapsWith e t l env = swapsWith e t l (envS env.scope) := by
  unfold swapsWith
  rfl
theorem stores_scope (ts : List Expr) (e : Expr) (env : PySem.Env) : swappedStores ts e env = swappedStores ts e (envS env.scope) := by
  unfold swappedStores
  rfl
def swapB (c : CC) (e : Expr) (t : Option Expr) (l : Nat) : Option Bool := semPure (swapsWith e t l (envS c.sc))
def storesB (c : CC) (ts : List Expr) (e : Expr) : Option (Option (List Str)) := semPure (swappedStores ts e (envS c.sc))
theorem swapB_eq {c : CC} {X : Cx} (hs : X.env.scope = c.sc) {e : Expr} {t : Option Expr} {l : Nat} {b : Bool} (h : swapB c e t l = some b) : swapsWith e t l X.env = pure b := by
  rw [swaps_scope, hs]; exact semPure_eq h
theorem storesB_eq {c : CC} {X : Cx} (hs : X.env.scope = c.sc) {ts : List Expr} {e : Expr} {b : Option (List Str)} (h : storesB c ts e = some b) : swappedStores ts e X.env = pure b := by
  rw [stores_scope, hs]; exact semPure_eq h
def isLC : LE → Bool
  | .lc _ _ _ _ _ _ _ => true
  | .lc2 _ _ _ _ _ _ _ _ _ _ _ _ => true
  | .dc _ _ _ _ _ _ _ _ => true
  | _ => false
def locB (c : CC) (x : Str) : Bool := match c.sc.names.lookup x with
  | some .local => true
  | _ => false
def isNo (o : Option Bool) : Bool := match o with
  | some false => true
  | _ => false
def isYes (o : Option Bool) : Bool := match o with
  | some true => true
  | _ => false
def stNo (o : Option (Option (List Str))) : Bool := match o with
  | some none => true
  | _ => false
def stIs (o : Option (Option (List Str))) (l : List Str) : Bool := match o with
  | some (some l') => decide (l' = l)
  | _ => false
mutual
def chkS (T : Tab) (c : CC) : LS → Stmt → Bool
  | .bad, _ => true
  | .set i e, st => (match st with
    | .Assign [.Name x p] v pos => slotIs c i x && ((isNo (swapB c v (some (.Name x p)) pos.line) && isLoc c x && chkE T c e v) || (isYes (swapB c v (some (.Name x p)) pos.line) && locB c x && isLC e && chkE T c e v))
    | _ => false)
  | .asg tg e, st => (match st with
    | .Assign [te] v pos => isTuple te && isNo (swapB c v (some te) pos.line) && ((stNo (storesB c [te] v) && chkT c tg te && chkE T c e v) ||
      (match tg, te, e, v with
        | .tp [.nm i, .nm j], .Tuple [.Name x _, .Name y _] _ _, .tup es, .Tuple [a, b] _ _ => stIs (storesB c [te] v) [x, y] && slotIs c i x && slotIs c j y && !decide (i = j) && locB c x && locB c y && chkEs T c es [a, b]
        | .tp [.nm i, .nm j, .nm l], .Tuple [.Name x _, .Name y _, .Name z _] _ _, .tup es, .Tuple [a, b, d] _ _ => stIs (storesB c [te] v) [x, y, z] && slotIs c i x && slotIs c j y && slotIs c l z && !decide (i = j) && !decide (i = l) && !decide (j = l) && locB c x && locB c y && locB c z && chkEs T c es [a, b, d]
        | _, _, _, _ => false))
    | _ => false)
  | .seti o i e, st => (match st with
    | .Assign [.Subscript o' i' sp] v pos => notSl i' && isNo (swapB c v (some (.Subscript o' i' sp)) pos.line) && stNo (storesB c [.Subscript o' i' sp] v) && chkE T c o o' && chkE T c i i' && chkE T c e v
    | _ => false)
  | .aug i o e, st => (match st with
    | .AugAssign (.Name x _) op v _ => slotIs c i x && isLoc c x && (decide (o = .add) || decide (o = .sub)) && decide (op = boOp o) && chkE T c e v
    | _ => false)
  | .augi _ _ _ _, _ => false
  | .expr e, st => (match st with
    | .Expr v pos => isNo (swapB c v none pos.line) && chkE T c e v
    | _ => false)
  | .ret e, st => (match st with
    | .Return (some v) _ => chkE T c e v
    | _ => false)
  | .retN, st => (match st with
    | .Return none _ => true
    | _ => false)
  | .ite t a b, st => (match st with
    | .If t' a' b' _ => chkE T c t t' && chkSs T c a a' && chkSs T c b b'
    | _ => false)
  | .forr tg w it b, st => (match st with
    | .For te it' b' [] _ => noSet it' && chkI T c w it te it' && chkT c tg te && chkSs T c b b'
    | _ => false)
  | .whil t b, st => (match st with
    | .While t' b' [] _ => chkE T c t t' && chkSs T c b b'
    | _ => false)
  | .brk, st => (match st with
    | .Break _ => true
    | _ => false)
  | .cont, st => (match st with
    | .Continue _ => true
    | _ => false)
  | .pass, st => (match st with
    | .Pass _ => true
    | _ => false)
  | .raise _ _, _ => false
def chkSs (T : Tab) (c : CC) : List LS → List Stmt → Bool
  | [], sts => sts.isEmpty
  | s :: ss, l => (match l with
    | st :: sts => chkS T c s st && chkSs T c ss sts
    | [] => false)
end
end QL
set_option Elab.async false
set_option linter.all false
set_option maxRecDepth 100000
set_option maxHeartbeats 8000000
/-! QL36: statements: the check is sound. -/
namespace QL
open PySem PySem.Spec L2
open PyProof.Rows hiding St
section
variable {LP : LProg} {T : Tab} {g : Nat → Option Addr} {cf : CF} {n : Nat} {X : Cx} {c : CC} {W : WX}
theorem isNo_eq {o : Option Bool} (h : isNo o = true) : o = some false := by unfold isNo at h; split at h <;> first | rfl | cases h
theorem isYes_eq {o : Option Bool} (h : isYes o = true) : o = some true := by unfold isYes at h; split at h <;> first | rfl | cases h
theorem stNo_eq {o : Option (Option (List Str))} (h : stNo o = true) : o = some none := by unfold stNo at h; split at h <;> first | rfl | cases h
theorem stIs_eq {o : Option (Option (List Str))} {l : List Str} (h : stIs o l = true) : o = some (some l) := by
  unfold stIs at h
  split at h
  · rw [of_decide_eq_true h]
  · cases h
theorem locB_eq (G : GX LP T g cf n X c W) {x : Str} (h : locB c x = true) : X.env.scope.names.lookup x = some .local := by
  unfold locB at h
  rw [G.ok.sc]
  split at h
  · assumption
  · cases h
theorem loc_of (G : GX LP T g cf n X c W) {x : Str} (h : isLoc c x = true) : L2.Loc X.env.scope x ∧ (X.fn x = true ∨ X.env.scope.names.lookup x = some .local) := by
  unfold isLoc at h
  unfold L2.Loc
  rw [G.ok.sc]
  split at h
  · rename_i e; exact ⟨.inl e, .inr e⟩
  · rename_i e; exact ⟨.inr e, .inl (G.ok.fn x h)⟩
  · cases h
theorem PS.to {B : Bs} {W : WX} {st : Stmt} {f f' : DenS} (h : PS X st (tSA B W f)) (q : f = f') : PS X st (tSA B W f') := q ▸ h
theorem PSs.to {B : Bs} {W : WX} {st : List Stmt} {f f' : DenS} (h : PSs X st (tSA B W f)) (q : f = f') : PSs X st (tSA B W f') := q ▸ h
theorem sub_eq {o i : Expr} {sp : Pos} (h : notSl i = true) (env : PySem.Env) (v : Value) : assign (.Subscript o i sp) env v = (do
      let ov ← holding [v] (eval o env)
      let iv ← holding [v, ov] (eval i env)
      standAt sp
      holding [v, ov, iv] (setItem ov iv v)
      release [v, ov, iv] []) := by
  cases i <;> first | rfl | cases h
/-- a comprehension stored at once -/
theorem swap_ok (G : GX LP T g cf n X c W) {i : Nat} {x : Str} {p pos : Pos} {e : LE} {v : Expr} (hs : slotIs c i x = true) (hl : locB c x = true) (hsw : swapsWith v (some (.Name x p)) pos.line X.env = pure true) (hc : isLC e = true) (h : chkE T c e v = true) :
    PS X (.Assign [.Name x p] v pos) (tSA (bs X g) W (fSet i (evE LP cf e))) := by
  cases e <;> first | (cases hc; done) | skip
  case lc m tg w it ifs y own =>
    unfold chkE at h
    split at h
    · rename_i pp
      simp only [Bool.and_eq_true, decide_eq_true_eq] at h
      obtain ⟨⟨⟨⟨⟨⟨⟨h1, h2⟩, h3⟩, h4⟩, h5⟩, h6⟩, h7⟩, h8⟩ := h
      subst h1
      obtain ⟨b1, b2⟩ := blk_of G h3
      have := as_setLc (m := m) (g := g) (W := W) (pos := pp) (py := p) (spos := pos) G.ok.calm G.ok.nd (slot_of G hs) (locB_eq G hl) hsw (chkI_ok w it G h5) b1 (pgB G h6) (fun s H C cl fp => chkC_ok ifs (G.blk s H _ C cl fp) h7) (fun s H C cl fp => (chkE_ok y (G.blk s H _ C cl fp) h8).val) h2 (by rw [b2]; exact subL_of h4)
      rw [b2] at this
      exact PS.to this (by congr 1)
    · cases h
  case lc2 m tg w it ifs tg2 w2 it2 ifs2 y own own2 =>
    unfold chkE at h
    split at h
    · rename_i pp
      simp only [Bool.and_eq_true, decide_eq_true_eq] at h
      obtain ⟨⟨⟨⟨⟨⟨⟨⟨⟨⟨⟨⟨⟨⟨h1, h1'⟩, h2⟩, h2'⟩, h3⟩, h3'⟩, h4⟩, h4'⟩, h5⟩, h6⟩, h7⟩, h8⟩, h9⟩, h10⟩, h11⟩ := h
      subst h1; subst h1'
      obtain ⟨b1, b2⟩ := blk_of G h3
      have := as_setLc2 (m := m) (g := g) (W := W) (vs2 := own2) (pos := pp) (py := p) (spos := pos) G.ok.calm G.ok.nd (slot_of G hs) (locB_eq G hl) hsw (chkI_ok w it G h5) b1 (by rw [b2]; exact subL_of h3') (pgB G h6) (fun s H C cl fp => chkC_ok ifs (G.blk s H _ C cl fp) h7)
        (fun s H C cl fp => chkI_ok w2 it2 (G.blk s H _ C cl fp) h8) (pgB G h9) (fun s H C cl fp => chkC_ok ifs2 (G.blk s H _ C cl fp) h10) (fun s H C cl fp => (chkE_ok y (G.blk s H _ C cl fp) h11).val) h2 h2' (by rw [b2]; exact subL_of h4) (subL_of h4')
      rw [b2] at this
      exact PS.to this (by congr 1)
    · cases h
  case dc m tg w it ifs k y own =>
    unfold chkE at h
    split at h
    · rename_i pp
      simp only [Bool.and_eq_true, decide_eq_true_eq] at h
      obtain ⟨⟨⟨⟨⟨⟨⟨⟨h1, h2⟩, h3⟩, h4⟩, h5⟩, h6⟩, h7⟩, h8⟩, h9⟩ := h
      subst h1
      obtain ⟨b1, b2⟩ := blk_of G h3
      have := as_setDc (m := m) (g := g) (W := W) (pos := pp) (py := p) (spos := pos) G.hu G.ok.calm G.ok.nd (slot_of G hs) (locB_eq G hl) hsw (chkI_ok w it G h5) b1 (pgB G h6) (fun s H C cl fp => chkC_ok ifs (G.blk s H _ C cl fp) h7) (fun s H C cl fp => (chkE_ok k (G.blk s H _ C cl fp) h8).val) (fun s H C cl fp => (chkE_ok y (G.blk s H _ C cl fp) h9).val) h2 (by rw [b2]; exact subL_of h4)
      rw [b2] at this
      exact PS.to this (by congr 1)
    · cases h
theorem asg1 {te : Expr} (h : isTuple te = true) (env : PySem.Env) : (assignEach [te] env).map (·.2) = [assign te env] := by
  cases te <;> first | rfl | cases h
mutual
theorem chkS_ok (hp : PassesOwn (model X.prog X.w) X.A X.env X.xe) (G : GX LP T g cf n X c W) : ∀ (ls : LS) {st : Stmt}, chkS T c ls st = true → PS X st (tSA (bs X g) W (evS LP cf ls))
  | .bad, st, h => PS.to as_bad (by funext ρ S; rw [evS])
  | .set i e, st, h => by
    unfold chkS at h
    split at h
    · simp only [Bool.and_eq_true, Bool.or_eq_true] at h
      obtain ⟨h0, h⟩ := h
      rcases h with ⟨⟨h1, h2⟩, h3⟩ | ⟨⟨⟨h1, h2⟩, h3⟩, h4⟩
      · exact PS.to (as_set G.ok.nd (slot_of G h0) (loc_of G h2).1 (chkE_ok e G h3) (swapB_eq G.ok.sc (isNo_eq h1)) (loc_of G h2).2) (by funext ρ S; rw [evS] <;> rfl)
      · exact PS.to (swap_ok G h0 h2 (swapB_eq G.ok.sc (isYes_eq h1)) h3 h4) (by funext ρ S; rw [evS] <;> rfl)
    · cases h
  | .asg tg e, st, h => by
    unfold chkS at h
    split at h
    · rename_i te v pos
      simp only [Bool.and_eq_true, Bool.or_eq_true] at h
      obtain ⟨⟨h0, h1⟩, h⟩ := h
      rcases h with ⟨⟨h2, h3⟩, h4⟩ | h
      · exact PS.to (as_asg (chkE_ok e G h4) (pg_of (B := bs X g) rfl G.ok h3) (swapB_eq G.ok.sc (isNo_eq h1)) (storesB_eq G.ok.sc (stNo_eq h2)) (asg1 h0 _)) (by funext ρ S; rw [evS] <;> rfl)
      · split at h
        · rename_i i j x _ y _ _ _ es a b _ _
          simp only [Bool.and_eq_true, Bool.not_eq_true', decide_eq_false_iff_not] at h
          obtain ⟨⟨⟨⟨⟨⟨h2, h3⟩, h4⟩, h5⟩, h6⟩, h7⟩, h8⟩ := h
          exact PS.to (as_par G.ok.calm G.ok.nd (slot_of G h3) (slot_of G h4) h5 (locB_eq G h6) (locB_eq G h7) (chkEs_ok es G h8).1 (storesB_eq G.ok.sc (stIs_eq h2)) (swapB_eq G.ok.sc (isNo_eq h1))) (by funext ρ S; rw [evS]; unfold fAsg fTup; rw [evE] <;> rfl)
        · rename_i i j l x _ y _ z _ _ _ es a b d _ _
          simp only [Bool.and_eq_true, Bool.not_eq_true', decide_eq_false_iff_not] at h
          obtain ⟨⟨⟨⟨⟨⟨⟨⟨⟨⟨h2, h3⟩, h4⟩, h4'⟩, h5⟩, h5'⟩, h5''⟩, h6⟩, h7⟩, h7'⟩, h8⟩ := h
          exact PS.to (as_par3 G.ok.calm G.ok.nd (slot_of G h3) (slot_of G h4) (slot_of G h4') h5 h5' h5'' (locB_eq G h6) (locB_eq G h7) (locB_eq G h7') (chkEs_ok es G h8).1 (storesB_eq G.ok.sc (stIs_eq h2)) (swapB_eq G.ok.sc (isNo_eq h1))) (by funext ρ S; rw [evS]; unfold fAsg fTup; rw [evE] <;> rfl)
        · cases h
    · cases h
  | .seti o i e, st, h => by
    unfold chkS at h
    split at h
    · simp only [Bool.and_eq_true] at h
      obtain ⟨⟨⟨⟨⟨h1, h2⟩, h3⟩, h4⟩, h5⟩, h6⟩ := h
      exact PS.to (as_seti G.hu (chkE_ok e G h6) (chkE_ok o G h4) (chkE_ok i G h5) (swapB_eq G.ok.sc (isNo_eq h2)) (storesB_eq G.ok.sc (stNo_eq h3)) (sub_eq h1 _)) (by funext ρ S; rw [evS] <;> rfl)
    · cases h
  | .aug i o e, st, h => by
    unfold chkS at h
    split at h
    · simp only [Bool.and_eq_true, Bool.or_eq_true, decide_eq_true_eq] at h
      obtain ⟨⟨⟨⟨h1, h2⟩, h3⟩, h4⟩, h5⟩ := h
      subst h4
      exact PS.to (as_aug G.ok.nd (slot_of G h1) (loc_of G h2).1 (chkE_ok e G h5) (loc_of G h2).2 h3) (by funext ρ S; rw [evS] <;> rfl)
    · cases h
  | .augi _ _ _ _, st, h => by unfold chkS at h; cases h
  | .expr e, st, h => by
    unfold chkS at h
    split at h
    · simp only [Bool.and_eq_true] at h
      exact PS.to (as_expr (chkE_ok e G h.2) (swapB_eq G.ok.sc (isNo_eq h.1))) (by funext ρ S; rw [evS] <;> rfl)
    · cases h
  | .ret e, st, h => by
    unfold chkS at h
    split at h
    · exact PS.to (as_ret (chkE_ok e G h)) (by funext ρ S; rw [evS] <;> rfl)
    · cases h
  | .retN, st, h => by
    unfold chkS at h
    split at h
    · exact PS.to as_retN (by funext ρ S; rw [evS] <;> rfl)
    · cases h
  | .ite t a b, st, h => by
    unfold chkS at h
    split at h
    · simp only [Bool.and_eq_true] at h
      exact PS.to (as_if (chkE_ok t G h.1.1) (chkSs_ok hp G a h.1.2) (chkSs_ok hp G b h.2)) (by funext ρ S; rw [evS] <;> rfl)
    · cases h
  | .forr tg w it b, st, h => by
    unfold chkS at h
    split at h
    · simp only [Bool.and_eq_true] at h
      obtain ⟨⟨⟨h1, h2⟩, h3⟩, h4⟩ := h
      exact PS.to (as_for hp G.ok.calm (chkI_ok w it G h2) (pg_of (B := bs X g) rfl G.ok h3) (chkSs_ok hp G b h4) h1) (by funext ρ S; rw [evS] <;> rfl)
    · cases h
  | .whil t b, st, h => by
    unfold chkS at h
    split at h
    · simp only [Bool.and_eq_true] at h
      exact PS.to (as_while (n := LP.fuel) hp (chkE_ok t G h.1) (chkSs_ok hp G b h.2)) (by funext ρ S; rw [evS] <;> rfl)
    · cases h
  | .brk, st, h => by
    unfold chkS at h
    split at h
    · exact PS.to as_brk (by funext ρ S; rw [evS] <;> rfl)
    · cases h
  | .cont, st, h => by
    unfold chkS at h
    split at h
    · exact PS.to as_cont (by funext ρ S; rw [evS] <;> rfl)
    · cases h
  | .pass, st, h => by
    unfold chkS at h
    split at h
    · exact PS.to as_pass (by funext ρ S; rw [evS] <;> rfl)
    · cases h
  | .raise _ _, st, h => by unfold chkS at h; cases h
theorem chkSs_ok (hp : PassesOwn (model X.prog X.w) X.A X.env X.xe) (G : GX LP T g cf n X c W) : ∀ (ls : List LS) {sts : List Stmt}, chkSs T c ls sts = true → PSs X sts (tSA (bs X g) W (evSs LP cf ls))
  | [], sts, h => by
    unfold chkSs at h
    cases sts with
    | cons _ _ => cases h
    | nil => exact PSs.to ass_nil (by funext ρ S; rw [evSs] <;> rfl)
  | s :: ss, sts, h => by
    unfold chkSs at h
    split at h
    · rw [Bool.and_eq_true] at h
      exact PSs.to (ass_cons (chkS_ok hp G s h.1) (chkSs_ok hp G ss h.2)) (by funext ρ S; rw [evSs] <;> rfl)
    · cases h
end
end
end QL
set_option Elab.async false
set_option linter.all false
set_option maxRecDepth 100000
set_option maxHeartbeats 8000000
/-! QL37: all defs keep what the evaluator says, at every level. -/
namespace QL
open PySem PySem.Spec L2
open PyProof.Rows hiding St
section
variable {P : Program} {w : World} {K : PySem.W.Frag} {mg : Str → Option Value} {base : Heap} {g : Nat → Option Addr} {LP : LProg} {T : Tab}
/-- one def as it stands behind the top -/
def DefAt (P : Program) (w : World) (K : PySem.W.Frag) (mg : Str → Option Value) (g : Nat → Option Addr) (T : Tab) (x : Str) (ps : List Str) (d : LDef) : Prop :=
  ∃ (f : Addr) (params : Arguments) (body : List Stmt) (scope : Scope) (fd : FuncData) (dvs : List V) (N : List Str), mg x = some (.ref f) ∧ FunD K x x params body scope dvs [] f fd ∧
    CVs ⟨P, w, K, g⟩ dvs d.dflts ∧ PlainP params ps ∧ ps.length = d.np ∧ FnScope N ps scope ∧ N.length = d.nslots ∧ chkSs T ⟨N, scope, fun _ => true⟩ d.body body = true
/-- what stands behind the top -/
structure TopOk (P : Program) (w : World) (K : PySem.W.Frag) (mg : Str → Option Value) (g : Nat → Option Addr) (LP : LProg) (T : Tab) : Prop where
  fn : ∀ f x ps, look T.fn f = some (x, ps) → ∃ d, look LP.defs f = some d ∧ DefAt P w K mg g T x ps d
  con : ∀ i d x, look LP.consts i = some d → look T.con i = some x → ∃ v u, mg x = some u ∧ RelV v u ∧ (∀ M H, VR ⟨P, w, K, g⟩ M H v d) ∧ (i ∈ T.tups → ∃ a o, v = .ref a ∧ K.lookup a = some o ∧ o.cls = .type "tuple" ∧ o.dict = none)
  blt : ∀ x ∈ bltNames, mg x = none
  gcd : T.gcd = true → mg "gcd" = some (.builtin "math.gcd")
theorem fin_post {B : Bs} {W : WX} {σ : L2.St} {M M' : MF} {H H' : Hp} {S0 S : Ob} {v : V} {d : D} {frz : Bool} {Q : VK} (o0 : OR B M H S0) (h : PostV B W σ M H (finD frz S0 d S) Q) (s : Stp M H M' H') (o : OR B M' H' S) (r : VR B M' H' v d) : Q v H' := by
  cases e : finD frz S0 d S with
  | ok d' S' =>
    rw [e] at h
    obtain ⟨M'', s2, o2, r2⟩ := fin_vr s o0 o r e
    exact h v H' M'' s2 o2 r2
  | exc c x S' => exact absurd e fin_ne
  | fail => rw [e] at h; exact h.elim
theorem run_post {B : Bs} {E : XK} {M : MF} {H : Hp} {S : Ob} {cf : CF} {d : LDef} {xs : List D} {Q : VK} (o : OR B M H S) (h : PostV B (fun cls d _ H => E cls d H) [] M H (runDef LP cf d xs S) Q) :
    PostS B (fun cls d _ H => E cls d H) M H (evSs LP cf d.body (xs.map some ++ List.replicate (d.nslots - xs.length) none) S) { nx := fun _ H' => Q .non H', rt := Q } := by
  unfold runDef finS at h
  cases e : evSs LP cf d.body (xs.map some ++ List.replicate (d.nslots - xs.length) none) S with
  | nx ρ S' => rw [e] at h; exact fun σ' H' M' s o' a => fin_post o h s o' .non
  | rt v S' => rw [e] at h; exact fun v H' M' s o' r => fin_post o h s o' r
  | exc ρ c v S' => rw [e] at h; exact fun cls dd σ' H' M' s o' a x => h cls dd H' M' s o' x
  | bk ρ S' => rw [e] at h; exact h.elim
  | ct ρ S' => rw [e] at h; exact h.elim
  | fail => rw [e] at h; exact h.elim
theorem ar_start {B : Bs} {M : MF} {H : Hp} {N : List Str} {vs : List V} {xs : List D} {n : Nat} (r : VRs B M H vs xs) (hn : N.length = n) : AR B M H (L2.start N vs) (xs.map some ++ List.replicate (n - xs.length) none) := by
  have hl := r.length
  refine ⟨?_, fun i d h => ?_⟩
  · unfold L2.start
    simp [hn, hl]
  · by_cases hi : i < xs.length
    · rw [List.getElem?_append_left (by simpa using hi), List.getElem?_map] at h
      cases e : xs[i]? with
      | none => rw [e] at h; cases h
      | some x =>
        rw [e] at h
        cases h
        obtain ⟨y, h1, h2⟩ := r.get e
        refine ⟨y, ?_, h2⟩
        unfold L2.start
        rw [List.getElem?_append_left (by rw [List.length_map, hl]; exact hi), List.getElem?_map, h1]
        rfl
    · rw [List.getElem?_append_right (by simpa using hi), List.getElem?_replicate] at h
      split at h <;> cases h
theorem callN_succ {n : Nat} {f : Nat} {d : LDef} (e : look LP.defs f = some d) (ds : List D) (ks : List Nat) (S : Ob) : callN LP (n + 1) f ds ks S = match (bindIx d.np d.dflts.length ds.length ks).map fun ixs => ixs.map fun i => ((ds ++ d.dflts)[i]?).getD .non with
      | some xs => runDef LP (callN LP n) d xs S
      | none => .fail := by
  show (match look LP.defs f with
    | some d => (match bindD d ds ks with
      | some xs => runDef LP (callN LP n) d xs S
      | none => .fail)
    | none => .fail) = _
  rw [e] <;> rfl
/-- what a def's body comes to at a level -/
def runAt (LP : LProg) (n : Nat) (d : LDef) : List D → Ob → Res D := match n with
  | 0 => fun _ _ => .fail
  | n + 1 => runDef LP (callN LP n) d
theorem callN_at {n : Nat} {f : Nat} {d : LDef} (e : look LP.defs f = some d) (ds : List D) (ks : List Nat) (S : Ob) : callN LP n f ds ks S = match (bindIx d.np d.dflts.length ds.length ks).map fun ixs => ixs.map fun i => ((ds ++ d.dflts)[i]?).getD .non with
      | some xs => runAt LP n d xs S
      | none => .fail := by
  cases n with
  | zero =>
    show Res.fail = _
    split <;> rfl
  | succ n => exact callN_succ e ds ks S
theorem fnG_of (t : TopOk P w K mg g LP T) : ∀ (n : Nat) {x : Str} {ps : List Str} {d : LDef} {fa : Addr} {params : Arguments} {body : List Stmt} {scope : Scope} {fd : FuncData} {dvs : List V} {N : List Str},
    FunD K x x params body scope dvs [] fa fd → FnScope N ps scope → N.length = d.nslots → chkSs T ⟨N, scope, fun _ => true⟩ d.body body = true → FnG P w K mg base n fa fd ps (spA ⟨P, w, K, g⟩ d.np (runAt LP n d))
  | 0, x, ps, d, fa, params, body, scope, fd, dvs, N, h2, h6, h7, h8 => ⟨fun A outer s H args us vs Q E _ _ _ _ _ _ q => by
      obtain ⟨_, _, _, _, _, _, q⟩ := q
      exact q.elim⟩
  | n + 1, x, ps, d, fa, params, body, scope, fd, dvs, N, h2, h6, h7, h8 => by
    obtain ⟨oc, od, dV, kV, doc, pm, an, cdv, ct, osl, rfl, lk, hcd, _, _⟩ := h2.ex
    refine fn_ofG lk hcd h6 fun A outer s H vs Q E hr hg hl hsp => ?_
    obtain ⟨M, S, xs, o, r, hx, hq⟩ := hsp
    have G : GX LP T g (callN LP n) n (cxOf (CX P w) P w K mg base N x scope fa cdv A outer s H E) ⟨N, scope, fun _ => true⟩ (fun cls d _ H => E cls d H) :=
      ⟨⟨rfl, rfl, fun _ _ => rfl, h6.nd, rfl⟩, hr, hg, takes_of rfl rfl rfl rfl, fun f x ps h => by
        obtain ⟨d, hd, fa, params, body, scope, fd, dvs, N, h1, h2, h3, h4, h5, h6, h7, h8⟩ := t.fn f x ps h
        exact ⟨d.np, d.dflts, runAt LP n d, ⟨fa, params, body, scope, fd, dvs, h1, h2, h3, h4, h5, fnG_of t n h2 h6 h7 h8⟩, callN_at hd⟩, fun i d x a b => t.con i d x a b, t.blt, t.gcd⟩
    exact ⟨_, chkSs_ok (passes_of rfl) G d.body h8, _, S, M, o, ar_start r h7, run_post o hq⟩
end
end QL
set_option Elab.async false
set_option linter.all false
set_option maxRecDepth 100000
set_option maxHeartbeats 8000000
/-! QL38: a law's call, from what the evaluator says. -/
namespace QL
open PySem PySem.Spec L2
open PyProof.Rows hiding St
section
variable {P : Program} {w : World} {K : PySem.W.Frag} {mg mb : Str → Option Value} {k : Nat} {fa adr : Addr} {fd : FuncData} {px : Str} {sp : Sp} {st : Shared} {its : List Value} {zs : List Int}
/-- what the caller wants -/
abbrev CallOk (P : Program) (w : World) (fa adr : Addr) (st : Shared) : Prop :=
  codeAny (model P w) callerA (.call (.ref fa) ⟨[.ref adr], []⟩) (fun r z => r = .ok (.ret (.bool true)) ∧ OldK st.heap z.heap ∧ z.os = st.os ∧ AllBare z.gens) st
/-- the module as it stands, with an abstract heap beside it -/
theorem env0_of {H : Hp} (inK : K.In st.heap) (nsG : st.heap.Ns mainGlobals mg) (nsB : st.heap.Ns builtinsNs mb) (boot : ∀ x : Str, x ≠ "__name__" → mb x = bootBuiltins x) (nl : st.heap.NoLimit) (ng : st.gens = #[])
    (at_ : st.heap.get? adr = some { cls := .type "list", data := .seq its.toArray }) (ok : HOk P w H st.heap) (one : ∀ b, H b ≠ none → b = adr) (apart : H adr ≠ none → K.lookup adr = none) :
    K.In (hidT st.heap H) ∧ (hidT st.heap H).Ns mainGlobals mg ∧ Env0 P w K mg (hidT st.heap H) callerA [] st H := by
  have keep : ∀ {b : Addr} {o : Obj}, st.heap.get? b = some o → (b = adr → H adr = none) → (hidT st.heap H).get? b = some o := fun {b o} e n => hidT_get e (by
    cases q : H b with
    | none => rfl
    | some u =>
      have e1 := one b (by rw [q]; exact fun z => nomatch z)
      have e2 := n e1
      rw [e1, e2] at q; cases q)
  have keepD : ∀ {b : Addr} {m : Str → Option Value}, st.heap.Ns b m → (hidT st.heap H).Ns b m := by
    intro b m ⟨o, es, ep, e, d, r⟩
    refine ⟨o, es, ep, keep e (fun z => ?_), d, r⟩
    rw [z, at_] at e
    cases e
    exact absurd (show Data.seq its.toArray _ = Data.dict es ep from d) (fun z => nomatch z)
  have k1 : K.In (hidT st.heap H) := fun b o e => keep (inK b o e) fun z => by
    cases q : H adr with
    | none => rfl
    | some u =>
      have := apart (by rw [q]; exact fun z => nomatch z)
      rw [z, this] at e; cases e
  obtain ⟨mc, c1, c2⟩ := nl
  exact ⟨k1, keepD nsG, rfl, ⟨k1, keepD nsG, ⟨mb, keepD nsB, boot⟩, ⟨mc, keepD c1, c2⟩⟩, fun b o e => of_hidT e, Nat.le_of_eq (hidT_size _ _), trivial, (fun b hb => absurd (show b ∈ ([] : List Addr) from hb) (List.not_mem_nil)), ok, AllBare.of_eq ng⟩
theorem call_at {H : Hp} (inK : K.In st.heap) (nsG : st.heap.Ns mainGlobals mg) (nsB : st.heap.Ns builtinsNs mb) (boot : ∀ x : Str, x ≠ "__name__" → mb x = bootBuiltins x) (nl : st.heap.NoLimit) (ng : st.gens = #[])
    (at_ : st.heap.get? adr = some { cls := .type "list", data := .seq its.toArray }) (ok : HOk P w H st.heap) (one : ∀ b, H b ≠ none → b = adr) (apart : H adr ≠ none → K.lookup adr = none) (room : Room k callerA) (own : Only H)
    (F : ∀ base : Heap, K.In base → base.Ns mainGlobals mg → FnG P w K mg base k fa fd [px] sp) (bind : BindsTo st fd ⟨[.ref adr], []⟩ [(px, .ref adr)])
    (said : sp [.ref adr] H (fun v _ => v = .bl true) fun _ _ _ => False) : CallOk P w fa adr st := by
  obtain ⟨k1, k2, e0⟩ := env0_of (P := P) (w := w) inK nsG nsB boot nl ng at_ ok one apart
  refine codeAny_mono ((F _ k1 k2).run callerA [] st H ⟨[.ref adr], []⟩ [.ref adr] [.ref adr] _ _ room rfl e0 bind (.cons rfl .nil) rfl said) ?_
  intro r z h
  match r, h with
  | .error e, h => exact (show False by obtain ⟨_, _, _, _, _, _, _, _, _, _, _, _, h⟩ := h; exact h).elim
  | .ok .next, h => exact False.elim h
  | .ok .brk, h => exact False.elim h
  | .ok .cont, h => exact False.elim h
  | .ok (.ret u), ⟨v, H', os, bare, un, hk, rv, q⟩ =>
    have q' : v = .bl true := q
    subst q'
    obtain rfl : u = Value.bool true := rv
    refine ⟨rfl, OldK.of_keep fun b o e => ?_, os, bare⟩
    rcases own b with n | ⟨ob, xs, n⟩
    · exact un.keep b o e n (fun z => by cases z) (fun z => by cases z)
    · obtain ⟨e1, _⟩ := ok b _ n
      obtain ⟨e2, _⟩ := hk b _ (un.frzs b ob _ n)
      rw [e] at e1; cases e1
      exact e2
theorem call_G (inK : K.In st.heap) (nsG : st.heap.Ns mainGlobals mg) (nsB : st.heap.Ns builtinsNs mb) (boot : ∀ x : Str, x ≠ "__name__" → mb x = bootBuiltins x) (nl : st.heap.NoLimit) (ng : st.gens = #[])
    (at_ : st.heap.get? adr = some { cls := .type "list", data := .seq its.toArray }) (intz : IntsAre its zs) (len : zs.length ≤ sizeLine) (room : Room k callerA)
    (F : ∀ base : Heap, K.In base → base.Ns mainGlobals mg → FnG P w K mg base k fa fd [px] sp) (bind : BindsTo st fd ⟨[.ref adr], []⟩ [(px, .ref adr)])
    (said : ∀ H : Hp, Only H → SqL K H adr (zs.map V.int) → sp [.ref adr] H (fun v _ => v = .bl true) fun _ _ _ => False) : CallOk P w fa adr st := by
  have rv := vals_ints intz
  have hl := intz.length
  let O : Obj := { cls := .type "list", data := .seq its.toArray }
  cases hk : K.lookup adr with
  | some o =>
    have e := inK adr o hk
    rw [at_] at e
    cases e
    have own : Only fun _ => none := fun _ => .inl rfl
    exact call_at (H := fun _ => none) inK nsG nsB boot nl ng at_ (fun b u z => nomatch (show (none : Option HO) = some u from z)) (fun b z => absurd rfl z) (fun z => absurd rfl z) room own F bind
      (said _ own (.inr ⟨_, its.toArray, _, hk, rfl, rfl, rfl, by rw [List.size_toArray, hl]; exact len, by simpa using rv⟩))
  | none =>
    let H : Hp := fun b => if b = adr then some (.frz O (.lst (zs.map V.int))) else none
    have h1 : H adr = some (.frz O (.lst (zs.map V.int))) := if_pos rfl
    have h2 : ∀ b, b ≠ adr → H b = none := fun b n => if_neg n
    have own : Only H := fun b => by
      by_cases q : b = adr
      · exact .inr ⟨_, _, by rw [q]; exact h1⟩
      · exact .inl (h2 b q)
    refine call_at (H := H) inK nsG nsB boot nl ng at_ (fun b u z => ?_) (fun b z => ?_) (fun _ => hk) room own F bind (said H own (.inl (.inr ⟨O, h1⟩)))
    · by_cases q : b = adr
      · subst q
        rw [h1] at z; cases z
        exact ⟨at_, by rw [List.length_map]; exact len, its, _, rv, at_⟩
      · rw [h2 b q] at z; cases z
    · by_cases q : b = adr
      · exact q
      · exact absurd (h2 b q) z
end
theorem vrs_ints {B : Bs} {M : MF} {H : Hp} : ∀ zs : List Int, VRs B M H (zs.map V.int) (zs.map D.int)
  | [] => .nil
  | z :: zs => .cons (.int z) (vrs_ints zs)
/-- a law: from what the evaluator says of it -/
theorem walk_G {l : PySem.W.OpenLaw} {n k : Nat} {q : Program} {loose : List Str} {XP : (Str → Option Value) → Heap → Prop} {YP : World → Heap → Prop} {d : DefRec} {LP : LProg} {T : Tab} {lf : Nat}
    (most : l.most = some n) (small : n ≤ sizeLine) (noD : d.params.defaults = []) (room : Room k callerA)
    (F : ∀ (w : World) (mg : Str → Option Value) (h : Heap), YP w h → h.Ns mainGlobals mg → ∃ (K : PySem.W.Frag) (g : Nat → Option Addr), K.In h ∧ TopOk l.prog w K mg g LP T ∧ ∀ a o, K.lookup a = some o → o.cls ≠ .type "list")
    (isl : look T.fn lf = some (d.name, [("script" : Str)]))
    (say : ∀ zs : List Int, zs.length ≤ n → (∀ z ∈ zs, Builtin.Int.intBits z ≤ 1048576) → ∃ S, callN LP k lf [.lst (zs.map .int)] [] [] = .ok (.bl true) S) :
    PySem.W.WalkO q loose XP YP l.row.toRowW d [] (fun f vs => PySem.call f vs) := by
  refine Att.attach_callB most noD fun w s₀ st mg mb fa o pm cd doc adr its zs G Y ho hd hcd hmg hobj hints hlen hbits hg => ?_
  obtain ⟨K, g, inK, top, noL⟩ := F w mg _ Y G.T.g
  obtain ⟨ld, hld, f, params, body, scope, fd, dvs, N, h1, h2, h3, h4, h5, h6, h7, h8⟩ := top.fn lf d.name _ isl
  rw [hmg] at h1
  cases h1
  obtain ⟨S', e⟩ := say zs hlen hbits
  rw [callN_at hld] at e
  have np1 : ld.np = 1 := h5.symm
  cases eb : bindIx ld.np ld.dflts.length 1 [] with
  | none => simp [eb] at e
  | some ixs =>
    simp only [List.length_cons, List.length_nil, Nat.zero_add, eb, Option.map_some] at e
    have hix : ixs = [0] := by
      rw [np1] at eb
      unfold bindIx at eb
      split at eb
      · have q : optAll ((List.range 1).map (srcAt (1 - ([] : List Nat).length) 1 ld.dflts.length 1 [])) = some [0] := rfl
        rw [q] at eb
        cases eb; rfl
      · cases eb
    subst hix
    refine call_G (sp := spA ⟨l.prog, w, K, g⟩ ld.np (runAt LP k ld)) inK G.T.g G.T.b G.T.builtins G.T.nolimit hg hobj hints (Nat.le_trans hlen small) room (fun base b1 b2 => fnG_of top k h2 h6 h7 h8) ?_ (fun H own sq => ?_)
    · obtain ⟨vs, rvs, hb⟩ := bind_fd h2 h4 (ks := []) (ixs := [0]) (na := 1) (by rw [h5, (h3 ⟨[], []⟩ fun _ => none).length]; exact eb)
      exact hb st [.ref adr] [] inK rfl rfl
    · refine ⟨⟨[], []⟩, [], [.lst (zs.map .int)], ⟨rfl, List.nodup_nil, (fun a z => absurd (show a ∈ ([] : List Addr) from z) (List.not_mem_nil)), (fun k u a z => by simp at z)⟩, .cons ?_ .nil, by rw [np1]; rfl, ?_⟩
      · rcases sq with r | ⟨o, _, _, e, c, _⟩
        · exact .lst r ⟨fun z => (by cases z), fun z => (by cases z)⟩ (vrs_ints zs)
        · exact absurd c (noL _ _ e)
      · have e2 : runAt LP k ld [.lst (zs.map D.int)] [] = .ok (.bl true) S' := by simpa using e
        rw [e2]
        intro v H' M' _ _ r
        cases r; rfl
end QL
set_option Elab.async false
set_option linter.all false
set_option maxRecDepth 100000
set_option maxHeartbeats 8000000
/-! QL39: what the top leaves, looked at in the kernel. -/
namespace QL
open PySem PySem.Spec L2
open PyProof.Rows hiding St
/-- a def's place: its number, name, parameters, its statement's number, its names -/
structure DI where
  f : Nat
  x : Str
  ps : List Str
  i : Nat
  N : List Str
def DI.ent (e : DI) : Nat × Str × List Str := (e.f, e.x, e.ps)
def dvOf : D → He.Dv
  | .int i => .int i
  | .bl b => .bl b
  | .str x => .str (toS x)
  | _ => .non
def dvOk : D → Bool
  | .int _ => true
  | .bl _ => true
  | .str _ => true
  | .non => true
  | _ => false
section
variable (top : Nat → Stmt) (LP : LProg) (T : Tab)
def dflOf (f : Nat) : List D := match look LP.defs f with
  | some d => d.dflts
  | none => []
def DI.dd (e : DI) : He.DefD := ⟨(e.x, none), e.x, e.x, defArgs (top e.i), defBody (top e.i), defScope (top e.i), (dflOf LP e.f).map dvOf, []⟩
def plainB (p : Arguments) (ps : List Str) : Bool := p.posonlyargs.isEmpty && (p.kwonlyargs.isEmpty && (p.vararg.isNone && (p.kwarg.isNone && (decide (p.args.map (·.arg) = ps) && decide ps.Nodup))))
def parB (sc : Scope) (x : Str) : Bool := match sc.names.lookup x with
  | some .local => true
  | some .cell => true
  | _ => false
def notFree (y : Str × NameKind) : Bool := match y.2 with
  | .free => false
  | _ => true
def isFun (k : ScopeKind) : Bool := match k with
  | .function => true
  | _ => false
def scopeB (N ps : List Str) (sc : Scope) : Bool := isFun sc.kind && (!sc.isCoroutine && (!sc.isGenerator && (decide N.Nodup && (decide (N.take ps.length = ps) && (ps.all (parB sc) && sc.names.all notFree)))))
/-- one def's text is what the program says -/
def DI.st (e : DI) : Bool := match look LP.defs e.f with
  | some d => plainB (defArgs (top e.i)) e.ps && (Nat.beq e.ps.length d.np && (scopeB e.N e.ps (defScope (top e.i)) && (Nat.beq e.N.length d.nslots && (d.dflts.all dvOk && chkSs T ⟨e.N, defScope (top e.i), fun _ => true⟩ d.body (defBody (top e.i))))))
  | none => false
end
/-! ### constants -/
mutual
def vrB (K : PySem.W.Frag) : D → Value → Bool
  | .non, u => (match u with
    | .none => true
    | _ => false)
  | .bl b, u => (match u with
    | .bool c => b == c
    | _ => false)
  | .int i, u => (match u with
    | .int j _ => decide (i = j)
    | _ => false)
  | .str x, u => (match u with
    | .str y _ => decide (toS x = y)
    | _ => false)
  | .tup ds, u => (match u with
    | .ref a => (match K.lookup a with
      | some ⟨.type c, _, .seq its _, _⟩ => decide (c = "tuple") && (Nat.ble its.size 1000 && vrsB K ds its.toList)
      | _ => false)
    | _ => false)
  | _, _ => false
def vrsB (K : PySem.W.Frag) : List D → List Value → Bool
  | [], us => us.isEmpty
  | d :: ds, us => (match us with
    | u :: us => vrB K d u && vrsB K ds us
    | [] => false)
end
section
variable {P : Program} {w : World} {K : PySem.W.Frag} {g : Nat → Option Addr}
mutual
theorem vrB_ok : ∀ {d : D} {u : Value}, vrB K d u = true → ∃ v, RelV v u ∧ ∀ M H, VR ⟨P, w, K, g⟩ M H v d
  | .non, u, h => by
    unfold vrB at h
    split at h
    · exact ⟨.non, rfl, fun _ _ => .non⟩
    · cases h
  | .bl b, u, h => by
    unfold vrB at h
    split at h
    · obtain rfl := eq_of_beq h
      exact ⟨.bl b, rfl, fun _ _ => .bl b⟩
    · cases h
  | .int i, u, h => by
    unfold vrB at h
    split at h
    · obtain rfl := of_decide_eq_true h
      exact ⟨.int i, ⟨_, rfl⟩, fun _ _ => .int i⟩
    · cases h
  | .str x, u, h => by
    unfold vrB at h
    split at h
    · obtain rfl := of_decide_eq_true h
      exact ⟨.str (toS x), ⟨_, rfl⟩, fun _ _ => .str x⟩
    · cases h
  | .tup ds, u, h => by
    unfold vrB at h
    split at h
    · rename_i a
      split at h
      · rename_i c dd its n sl e
        simp only [Bool.and_eq_true] at h
        obtain ⟨h1, h2, h3⟩ := h
        obtain ⟨vs, r1, r2⟩ := vrsB_ok h3
        exact ⟨.ref a, rfl, fun M H => .ktup (.inr ⟨_, its, n, e, by rw [of_decide_eq_true h1], rfl, ble1000 h2, r1⟩) (r2 M H)⟩
      · cases h
    · cases h
  | .lst _, _, h => by unfold vrB at h; cases h
  | .dct _ _, _, h => by unfold vrB at h; cases h
  | .ref _, _, h => by unfold vrB at h; cases h
  | .ty _, _, h => by unfold vrB at h; cases h
  | .gl _, _, h => by unfold vrB at h; cases h
  | .exc _ _, _, h => by unfold vrB at h; cases h
theorem vrsB_ok : ∀ {ds : List D} {us : List Value}, vrsB K ds us = true → ∃ vs, Vals vs us ∧ ∀ M H, VRs ⟨P, w, K, g⟩ M H vs ds
  | [], us, h => by
    unfold vrsB at h
    cases us with
    | nil => exact ⟨[], .nil, fun _ _ => .nil⟩
    | cons _ _ => cases h
  | d :: ds, us, h => by
    unfold vrsB at h
    cases us with
    | nil => cases h
    | cons u us =>
      simp only [Bool.and_eq_true] at h
      obtain ⟨v, r1, r2⟩ := vrB_ok h.1
      obtain ⟨vs, q1, q2⟩ := vrsB_ok h.2
      exact ⟨v :: vs, .cons r1 q1, fun M H => .cons (r2 M H) (q2 M H)⟩
end
theorem dvs_ok : ∀ {ds : List D}, ds.all dvOk = true → CVs ⟨P, w, K, g⟩ ((ds.map dvOf).map (He.Dv.v K)) ds
  | [], _ => fun _ _ => .nil
  | d :: ds, h => fun M H => by
    rw [List.all_cons, Bool.and_eq_true] at h
    refine .cons ?_ (dvs_ok h.2 M H)
    cases d <;> first | (cases h.1; done) | skip
    · exact .non
    · exact .bl _
    · exact .int _
    · exact .str _
end
/-- one constant stands at its name -/
def conB (K : PySem.W.Frag) (LP : LProg) (tups : List Nat) (e : Nat × Str) : Bool := match PySem.W.nsIn K mainGlobals e.2, look LP.consts e.1 with
  | some (some u), some d => vrB K d u && (!decide (e.1 ∈ tups) || (match u with
    | .ref a => (match K.lookup a with
      | some ⟨.type c, none, _, _⟩ => decide (c = "tuple")
      | _ => false)
    | _ => false))
  | _, _ => false
def noList (p : Addr × Obj) : Bool := match p.2.cls with
  | .type c => !decide (c = "list")
  | _ => true
def gcdB (K : PySem.W.Frag) (b : Bool) : Bool := match b with
  | true => He.eqO (PySem.W.nsIn K mainGlobals "gcd") (some (some (.builtin "math.gcd")))
  | false => true
/-- what is asked of the module behind the top, besides its defs -/
def exB (I : List DI) (LP : LProg) (T : Tab) (K : PySem.W.Frag) : Bool := I.all (fun e => He.eqO (PySem.W.nsIn K mainGlobals e.x) (some (some (.ref (He.ga K e.x))))) && (T.con.all (conB K LP T.tups) && (bltNames.all (fun x => He.eqO (PySem.W.nsIn K mainGlobals x) (some none)) && (gcdB K T.gcd && K.all noList)))
theorem look_mem {α : Type} : ∀ {l : List (Nat × α)} {n : Nat} {a : α}, look l n = some a → (n, a) ∈ l
  | [], n, a, h => by cases h
  | (k, b) :: r, n, a, h => by
    unfold look at h
    split at h
    · rename_i e
      cases h
      rw [Nat.eq_of_beq_eq_true e]; exact List.mem_cons_self
    · exact List.mem_cons_of_mem _ (look_mem h)
theorem lookup_mem {a : Addr} {o : Obj} : ∀ {K : PySem.W.Frag}, K.lookup a = some o → (a, o) ∈ K
  | [], h => by cases h
  | (b, u) :: r, h => by
    have h : (match a == b with
      | true => some u
      | false => List.lookup a r) = some o := h
    cases q : (a == b) with
    | true =>
      rw [q] at h
      cases h
      rw [beq_iff_eq.mp q]; exact List.mem_cons_self
    | false =>
      rw [q] at h
      exact List.mem_cons_of_mem _ (lookup_mem (K := r) h)
section
variable {P : Program} {w : World} {K : PySem.W.Frag} {mg : Str → Option Value} {g : Nat → Option Addr} {h : Heap} {top : Nat → Stmt} {LP : LProg} {I : List DI} {T : Tab}
theorem plainB_ok {p : Arguments} {ps : List Str} (h : plainB p ps = true) : PlainP p ps := by
  unfold plainB at h
  simp only [Bool.and_eq_true] at h
  obtain ⟨h1, h2, h3, h4, h5, h6⟩ := h
  exact ⟨by simpa using h1, by simpa using h2, by simpa using h3, by simpa using h4, of_decide_eq_true h5, of_decide_eq_true h6⟩
theorem scopeB_ok {N ps : List Str} {sc : Scope} (h : scopeB N ps sc = true) : FnScope N ps sc := by
  unfold scopeB at h
  simp only [Bool.and_eq_true, Bool.not_eq_true', decide_eq_true_eq] at h
  obtain ⟨h1, h2, h3, h4, h5, h6, h7⟩ := h
  refine ⟨?_, h2, h3, h4, h5, fun x hx => ?_, fun y hy => ?_⟩
  · unfold isFun at h1
    split at h1
    · assumption
    · cases h1
  · have := List.all_eq_true.mp h6 x hx
    unfold parB at this
    split at this
    · exact .inl ‹_›
    · exact .inr ‹_›
    · cases this
  · have := List.all_eq_true.mp h7 y hy
    unfold notFree at this
    intro e
    rw [e] at this
    cases this
theorem topOk_of (hT : T.fn = I.map DI.ent) (st : ∀ e ∈ I, e.st top LP T = true) (X : K.In h) (G : h.Ns mainGlobals mg) (defs : ∀ e ∈ I, ∃ fd, FunD K e.x e.x (defArgs (top e.i)) (defBody (top e.i)) (defScope (top e.i)) ((e.dd top LP).dvs K) [] (He.ga K e.x) fd) (ex : exB I LP T K = true) :
    TopOk P w K mg g LP T ∧ ∀ a o, K.lookup a = some o → o.cls ≠ .type "list" := by
  unfold exB at ex
  simp only [Bool.and_eq_true] at ex
  obtain ⟨x1, x2, x3, x4, x5⟩ := ex
  refine ⟨⟨fun f x ps hf => ?_, fun i d x hi hx => ?_, fun x hx => PySem.W.mg_none_of X G (He.eqO_ok (List.all_eq_true.mp x3 x hx)), fun hg => ?_⟩, fun a o e c => ?_⟩
  · rw [hT] at hf
    obtain ⟨e, he, q⟩ := List.mem_map.mp (look_mem hf)
    cases q
    have hs := st e he
    unfold DI.st at hs
    cases hd : look LP.defs e.f with
    | none => rw [hd] at hs; cases hs
    | some d =>
      rw [hd] at hs
      simp only [Bool.and_eq_true] at hs
      obtain ⟨s1, s2, s3, s4, s5, s6⟩ := hs
      obtain ⟨fd, FD⟩ := defs e he
      refine ⟨d, rfl, He.ga K e.x, _, _, _, fd, _, e.N, PySem.W.mg_of X G (He.eqO_ok (List.all_eq_true.mp x1 e he)), FD, ?_, plainB_ok s1, Nat.eq_of_beq_eq_true s2, scopeB_ok s3, Nat.eq_of_beq_eq_true s4, s6⟩
      have : dflOf LP e.f = d.dflts := by unfold dflOf; rw [hd]
      show CVs _ (((dflOf LP e.f).map dvOf).map (He.Dv.v K)) d.dflts
      rw [this]
      exact dvs_ok s5
  · have hc := List.all_eq_true.mp x2 (i, x) (look_mem hx)
    unfold conB at hc
    split at hc
    · rename_i u d' e1 e2
      rw [hi] at e2
      cases e2
      rw [Bool.and_eq_true] at hc
      obtain ⟨v, r1, r2⟩ := vrB_ok (P := P) (w := w) (g := g) hc.1
      refine ⟨v, u, PySem.W.mg_of X G e1, r1, r2, fun ht => ?_⟩
      have h2 := hc.2
      rw [Bool.or_eq_true] at h2
      rcases h2 with h2 | h2
      · simp [ht] at h2
      · split at h2
        · rename_i a
          split at h2
          · rename_i c dt sl e3
            have : v = .ref a := by
              cases v <;> first | (cases r1; done) | skip
              all_goals first | (cases r1; rfl) | (obtain ⟨_, r1⟩ := r1; cases r1) | (have r1 := r1; simp [RelV] at r1 <;> first | exact r1 | (rw [r1])) | skip
            exact ⟨a, _, this, e3, by rw [of_decide_eq_true h2], rfl⟩
          · cases h2
        · cases h2
    · cases hc
  · rw [hg] at x4
    exact PySem.W.mg_of X G (He.eqO_ok x4)
  · have := List.all_eq_true.mp x5 _ (lookup_mem e)
    unfold noList at this
    rw [c] at this
    simp at this
end
/-! ### the Hook -/
abbrev AlQ : Type := He.AlD × Bool
def obsQ (n : Nat) (fn : List He.DefD) (ex : PySem.W.Frag → Bool) (gt : Addr → Option Obj) : AlQ := (He.obsD [] fn (He.frG gt (He.asD gt n)), ex (He.frG gt (He.asD gt n)))
def hookQ (n : Nat) (fn : List He.DefD) (ex : PySem.W.Frag → Bool) : PySem.W.Hook where
  α := AlQ
  obs := fun s => obsQ n fn ex s.heap.get?
  val := fun _ => (He.valD fn, true)
  says := fun _ h => ∃ K : PySem.W.Frag, K.In h ∧ He.SaysD [] fn K ∧ ex K = true
  of := fun _ _ e => ⟨_, He.frG_in, congrArg (fun z : AlQ => z.1) e, congrArg (fun z : AlQ => z.2) e⟩
  keeps := fun _ _ _ ⟨K, hK, c⟩ k => ⟨K, PySem.W.Frag.In.keeps hK k, c⟩
theorem obsQ_eq {n : Nat} {fn : List He.DefD} {ex : PySem.W.Frag → Bool} (s : PySem.W.SharedT) : obsQ n fn ex (HandSHeadRun.getT s) = (hookQ n fn ex).obs s.abs := by
  have e : HandSHeadRun.getT s = s.abs.heap.get? := funext (HandSHeadRun.getT_eq s)
  rw [e] <;> rfl
theorem says_defs {top : Nat → Stmt} {LP : LProg} {I : List DI} {K : PySem.W.Frag} (c : He.SaysD [] (I.map (DI.dd top LP)) K) : ∀ e ∈ I, ∃ fd, FunD K e.x e.x (defArgs (top e.i)) (defBody (top e.i)) (defScope (top e.i)) ((e.dd top LP).dvs K) [] (He.ga K e.x) fd := fun e he => by
  obtain ⟨j, hj, q⟩ := List.getElem_of_mem he
  exact c.def_ j (d := e.dd top LP) (by rw [List.getElem?_map, List.getElem?_eq_getElem hj, q]; rfl)
end QL
set_option Elab.async false
set_option linter.all false
set_option maxRecDepth 100000
/-! QU: the defs of the laws, as data. -/
namespace QL
open PySem
def b_is_whole : List LS := [.ret (.and (.blt false .isi [.var 0, .cst (.ty .int)]) (.not (.blt false .isi [.var 0, .cst (.ty .bool)])))]
def d_is_whole : LDef := { np := 1, dflts := [], nslots := 1, frz := false, body := b_is_whole }
def b_is_below : List LS := [.ret (.and (.call 617 [.var 0] []) (.chn .le .lt (.cst (.int (0))) (.var 0) (.var 1)))]
def d_is_below : LDef := { np := 2, dflts := [], nslots := 2, frz := false, body := b_is_below }
def b_are_rising : List LS := [.ret (.blt false .all [.lc false (.tp [.nm 1, .nm 2]) .zip [.var 0, .slc (.var 0) (some (.cst (.int (1)))) none] [] (.cmp .lt (.var 1) (.var 2)) [1, 2]])]
def d_are_rising : LDef := { np := 1, dflts := [], nslots := 3, frz := false, body := b_are_rising }
def b_number : List LS := [.set 2 (.ite (.cmp .gt (.var 1) (.cst (.int (0)))) (.blt false .gcd [.var 0, .var 1]) (.bin .sub (.cst (.int (0))) (.blt false .gcd [.var 0, .var 1]))), .ret (.tup [.bin .fdv (.var 0) (.var 2), .bin .fdv (.var 1) (.var 2)])]
def d_number : LDef := { np := 2, dflts := [.int (1)], nslots := 3, frz := false, body := b_number }
def b_is_number : List LS := [.ite (.or (.not (.blt false .isi [.var 0, .cst (.ty .tuple)])) (.or (.cmp .ne (.blt false .len [.var 0]) (.cst (.int (2)))) (.not (.blt false .all [.lc false (.nm 1) .val [.var 0] [] (.call 617 [.var 1] []) [1]])))) [.ret (.cst (.bl false))] [], .ret (.and (.cmp .gt (.ix (.var 0) (.cst (.int (1)))) (.cst (.int (0)))) (.cmp .eq (.blt false .gcd [.ix (.var 0) (.cst (.int (0))), .ix (.var 0) (.cst (.int (1)))]) (.cst (.int (1)))))]
def d_is_number : LDef := { np := 1, dflts := [], nslots := 2, frz := false, body := b_is_number }
def b_plus : List LS := [.ret (.call 738 [.bin .add (.bin .mul (.ix (.var 0) (.cst (.int (0)))) (.ix (.var 1) (.cst (.int (1))))) (.bin .mul (.ix (.var 1) (.cst (.int (0)))) (.ix (.var 0) (.cst (.int (1))))), .bin .mul (.ix (.var 0) (.cst (.int (1)))) (.ix (.var 1) (.cst (.int (1))))] [])]
def d_plus : LDef := { np := 2, dflts := [], nslots := 2, frz := false, body := b_plus }
def b_minus : List LS := [.ret (.tup [.bin .sub (.cst (.int (0))) (.ix (.var 0) (.cst (.int (0)))), .ix (.var 0) (.cst (.int (1)))])]
def d_minus : LDef := { np := 1, dflts := [], nslots := 1, frz := false, body := b_minus }
def b_times : List LS := [.ret (.call 738 [.bin .mul (.ix (.var 0) (.cst (.int (0)))) (.ix (.var 1) (.cst (.int (0)))), .bin .mul (.ix (.var 0) (.cst (.int (1)))) (.ix (.var 1) (.cst (.int (1))))] [])]
def d_times : LDef := { np := 2, dflts := [], nslots := 2, frz := false, body := b_times }
def b_need_many : List LS := [.ite (.not (.call 571 [.var 0, .bin .add (.glb 37) (.cst (.int (1)))] [])) [.bad] []]
def d_need_many : LDef := { np := 1, dflts := [], nslots := 1, frz := false, body := b_need_many }
def b_is_of : List LS := [.ite (.or (.not (.blt false .isi [.var 1, .cst (.ty .tuple)])) (.not (.blt false .all [.lc false (.nm 2) .val [.var 1] [] (.and (.call 617 [.var 2] []) (.chn .lt .le (.cst (.int (0))) (.var 2) (.var 0))) [2]]))) [.ret (.cst (.bl false))] [], .ret (.call 487 [.var 1] [])]
def d_is_of : LDef := { np := 2, dflts := [], nslots := 3, frz := false, body := b_is_of }
def b_lots_of : List LS := [.set 1 (.lst false [.tup []]), .forr (.nm 2) .range [.cst (.int (1)), .bin .add (.var 0) (.cst (.int (1)))] [.set 1 (.bin .add (.var 1) (.lc false (.nm 3) .val [.var 1] [] (.bin .add (.var 3) (.tup [.var 2])) [3]))], .ret (.var 1)]
def d_lots_of : LDef := { np := 1, dflts := [], nslots := 4, frz := false, body := b_lots_of }
def b_lots : List LS := [.expr (.call 711 [.var 0] []), .ret (.blt false .tuple [.call 679 [.var 0] []])]
def d_lots : LDef := { np := 1, dflts := [], nslots := 1, frz := false, body := b_lots }
def b_need_lots : List LS := [.ite (.or (.not (.call 600 [.var 0, .var 1] [])) (.not (.call 600 [.var 0, .var 2] []))) [.bad] []]
def d_need_lots : LDef := { np := 3, dflts := [], nslots := 3, frz := false, body := b_need_lots }
def b_parted : List LS := [.ret (.blt false .tuple [.blt false .sorted [.bin .add (.lc false (.nm 2) .val [.var 0] [.cmp .notin (.var 2) (.var 1)] (.var 2) [2]) (.lc false (.nm 2) .val [.var 1] [.cmp .notin (.var 2) (.var 0)] (.var 2) [2])]])]
def d_parted : LDef := { np := 2, dflts := [], nslots := 3, frz := false, body := b_parted }
def b_below : List LS := [.ret (.blt false .tuple [.lc false (.nm 2) .val [.var 0] [.cmp .lt (.var 2) (.var 1)] (.var 2) [2]])]
def d_below : LDef := { np := 2, dflts := [], nslots := 3, frz := false, body := b_below }
def b_sign_of : List LS := [.asg (.tp [.nm 3, .nm 4, .nm 5]) (.tup [.cst (.int (1)), .var 0, .var 1]), .forr (.nm 2) .range [.glb 37, .cst (.int (0)), .bin .sub (.cst (.int (0))) (.cst (.int (1)))] [.asg (.tp [.nm 6, .nm 7]) (.tup [.cmp .isin (.var 2) (.var 4), .cmp .isin (.var 2) (.var 5)]), .asg (.tp [.nm 4, .nm 5]) (.tup [.call 501 [.var 4, .var 2] [], .call 501 [.var 5, .var 2] []]), .ite (.and (.var 6) (.cmp .ne (.var 5) (.tup []))) [.set 3 (.bin .sub (.cst (.int (0))) (.var 3))] [], .ite (.var 7) [.asg (.tp [.nm 4, .nm 5]) (.tup [.var 5, .var 4])] []], .ret (.var 3)]
def d_sign_of : LDef := { np := 2, dflts := [], nslots := 8, frz := false, body := b_sign_of }
def b_worth_of : List LS := [.set 3 (.ite (.cmp .eq (.call 803 [.var 1, .var 2] []) (.cst (.int (1)))) (.glb 93) (.call 686 [.glb 93] [])), .forr (.nm 4) .val [.var 1] [.set 3 (.ite (.cmp .isin (.var 4) (.var 2)) (.call 832 [.var 3, .ix (.var 0) (.bin .sub (.var 4) (.cst (.int (1))))] []) (.var 3))], .ret (.var 3)]
def d_worth_of : LDef := { np := 3, dflts := [], nslots := 5, frz := false, body := b_worth_of }
def b_need_steps : List LS := [.ite (.or (.not (.blt false .isi [.var 0, .cst (.ty .tuple)])) (.or (.cmp .gt (.blt false .len [.var 0]) (.glb 37)) (.not (.blt false .all [.lc false (.nm 1) .val [.var 0] [] (.call 598 [.var 1] []) [1]])))) [.bad] []]
def d_need_steps : LDef := { np := 1, dflts := [], nslots := 2, frz := false, body := b_need_steps }
def b_worth : List LS := [.expr (.call 729 [.var 0] []), .expr (.call 710 [.blt false .len [.var 0], .var 1, .var 2] []), .ret (.call 892 [.var 0, .var 1, .var 2] [])]
def d_worth : LDef := { np := 3, dflts := [], nslots := 3, frz := false, body := b_worth }
def b_middle_lots : List LS := [.expr (.call 729 [.var 0] []), .set 1 (.call 677 [.blt false .len [.var 0]] []), .ret (.blt false .tuple [.lc false (.nm 2) .val [.var 1] [.blt false .all [.lc false (.nm 3) .val [.var 1] [] (.cmp .eq (.call 891 [.var 0, .var 2, .var 3] []) (.call 891 [.var 0, .var 3, .var 2] [])) [3]]] (.var 2) [2]])]
def d_middle_lots : LDef := { np := 1, dflts := [], nslots := 4, frz := false, body := b_middle_lots }
def b_is_any_table : List LS := [.ite (.or (.not (.blt false .isi [.var 0, .cst (.ty .tuple)])) (.or (.cmp .ne (.blt false .len [.var 0]) (.cst (.int (2)))) (.or (.not (.blt false .isi [.ix (.var 0) (.cst (.int (0))), .cst (.ty .str)])) (.cmp .ne (.ix (.var 0) (.cst (.int (0)))) (.cst (.str [116, 97, 98, 108, 101])))))) [.ret (.cst (.bl false))] [], .ite (.or (.not (.blt false .isi [.ix (.var 0) (.cst (.int (1))), .cst (.ty .tuple)])) (.cmp .notin (.blt false .len [.ix (.var 0) (.cst (.int (1)))]) (.glb 101))) [.ret (.cst (.bl false))] [], .ret (.blt false .all [.lc false (.nm 1) .val [.ix (.var 0) (.cst (.int (1)))] [] (.call 598 [.var 1] []) [1]])]
def d_is_any_table : LDef := { np := 1, dflts := [], nslots := 2, frz := false, body := b_is_any_table }
def b_need_any : List LS := [.ite (.not (.call 569 [.var 0] [])) [.bad] []]
def d_need_any : LDef := { np := 1, dflts := [], nslots := 1, frz := false, body := b_need_any }
def b_count_of : List LS := [.ret (.mth .index (.glb 101) [.blt false .len [.ix (.var 0) (.cst (.int (1)))]])]
def d_count_of : LDef := { np := 1, dflts := [], nslots := 1, frz := false, body := b_count_of }
def b_is_table : List LS := [.expr (.call 711 [.var 0] []), .ret (.and (.call 569 [.var 1] []) (.cmp .eq (.call 527 [.var 1] []) (.var 0)))]
def d_is_table : LDef := { np := 2, dflts := [], nslots := 2, frz := false, body := b_is_table }
def b_need_table : List LS := [.ite (.not (.call 608 [.var 0, .var 1] [])) [.bad] []]
def d_need_table : LDef := { np := 2, dflts := [], nslots := 2, frz := false, body := b_need_table }
def b_need_alike : List LS := [.expr (.call 696 [.var 0] []), .expr (.call 696 [.var 1] []), .ite (.cmp .ne (.blt false .len [.ix (.var 0) (.cst (.int (1)))]) (.blt false .len [.ix (.var 1) (.cst (.int (1)))])) [.bad] []]
def d_need_alike : LDef := { np := 2, dflts := [], nslots := 2, frz := false, body := b_need_alike }
def b_made : List LS := [.ret (.tup [.cst (.str [116, 97, 98, 108, 101]), .blt false .tuple [.var 0]])]
def d_made : LDef := { np := 1, dflts := [], nslots := 1, frz := false, body := b_made }
def b_lines : List LS := [.ret (.blt false .dictz [.call 679 [.call 527 [.var 0] []] [], .ix (.var 0) (.cst (.int (1)))])]
def d_lines : LDef := { np := 1, dflts := [], nslots := 1, frz := false, body := b_lines }
def b_summed : List LS := [.ret (.call 680 [.lc false (.tp [.nm 2, .nm 3]) .zip [.ix (.var 0) (.cst (.int (1))), .ix (.var 1) (.cst (.int (1)))] [] (.call 768 [.var 2, .var 3] []) [2, 3]] [])]
def d_summed : LDef := { np := 2, dflts := [], nslots := 4, frz := false, body := b_summed }
def b_scaled : List LS := [.ret (.call 680 [.lc false (.nm 2) .val [.ix (.var 1) (.cst (.int (1)))] [] (.call 832 [.var 0, .var 2] []) [2]] [])]
def d_scaled : LDef := { np := 2, dflts := [], nslots := 3, frz := false, body := b_scaled }
def b_fold_of : List LS := [.asg (.tp [.nm 5, .nm 6]) (.tup [.call 667 [.var 1] [], .call 667 [.var 2] []]), .set 3 (.dc true (.nm 8) .val [.var 5] [] (.var 8) (.glb 103) [8]), .forr (.nm 4) .val [.var 5] [.forr (.nm 7) .val [.var 6] [.ite (.and (.cmp .ne (.ix (.var 5) (.var 4)) (.glb 103)) (.cmp .ne (.ix (.var 6) (.var 7)) (.glb 103))) [.set 9 (.call 832 [.call 832 [.ix (.var 5) (.var 4), .ix (.var 6) (.var 7)] [], .call 892 [.var 0, .var 4, .var 7] []] []), .set 8 (.call 754 [.var 4, .var 7] []), .seti (.var 3) (.var 8) (.call 768 [.ix (.var 3) (.var 8), .var 9] [])] []]], .ret (.call 680 [.lc false (.nm 8) .val [.var 5] [] (.ix (.var 3) (.var 8)) [8]] [])]
def d_fold_of : LDef := { np := 3, dflts := [], nslots := 10, frz := true, body := b_fold_of }
def b_plus_tables : List LS := [.expr (.call 695 [.var 0, .var 1] []), .ret (.call 818 [.var 0, .var 1] [])]
def d_plus_tables : LDef := { np := 2, dflts := [], nslots := 2, frz := false, body := b_plus_tables }
def b_fold_tables : List LS := [.expr (.call 729 [.var 0] []), .expr (.call 730 [.blt false .len [.var 0], .var 1] []), .expr (.call 730 [.blt false .len [.var 0], .var 2] []), .ret (.call 551 [.var 0, .var 1, .var 2] [])]
def d_fold_tables : LDef := { np := 3, dflts := [], nslots := 3, frz := false, body := b_fold_tables }
def b_scaled_table : List LS := [.expr (.call 696 [.var 1] []), .ite (.not (.call 598 [.var 0] [])) [.bad] [], .ret (.call 794 [.var 0, .var 1] [])]
def d_scaled_table : LDef := { np := 2, dflts := [], nslots := 2, frz := false, body := b_scaled_table }
def b_need_own : List LS := [.expr (.call 729 [.var 0] []), .ite (.not (.call 608 [.blt false .len [.var 0], .var 1] [])) [.bad] []]
def d_need_own : LDef := { np := 2, dflts := [], nslots := 2, frz := false, body := b_need_own }
def b_less : List LS := [.ret (.call 769 [.var 0, .call 797 [.call 686 [.glb 93] [], .var 1] []] [])]
def d_less : LDef := { np := 2, dflts := [], nslots := 2, frz := false, body := b_less }
def b_exchange : List LS := [.expr (.call 719 [.var 0, .var 1] []), .expr (.call 719 [.var 0, .var 2] []), .ret (.call 655 [.call 553 [.var 0, .var 1, .var 2] [], .call 553 [.var 0, .var 2, .var 1] []] [])]
def d_exchange : LDef := { np := 3, dflts := [], nslots := 3, frz := false, body := b_exchange }
def b_law_begun : List LS := [.set 1 (.lc true (.nm 2) .val [.var 0] [.cmp .ge (.blt false .abs [.var 2]) (.bin .pow (.cst (.int (10))) (.cst (.int (18))))] (.bin .sub (.blt false .abs [.var 2]) (.bin .pow (.cst (.int (10))) (.cst (.int (18))))) [2]), .ret (.dic true [.cst (.str [103, 114, 101, 97, 116]), .var 1, .cst (.str [99, 101, 108, 108, 115]), .lc false (.nm 2) .val [.var 0] [] (.blt false .abs [.var 2]) [2], .cst (.str [114, 101, 115, 116]), .cst (.int (0)), .cst (.str [116, 117, 114, 110]), .cst (.int (0))])]
def d_law_begun : LDef := { np := 1, dflts := [], nslots := 3, frz := false, body := b_law_begun }
def b_law_mixed : List LS := [.asg (.tp [.nm 2, .nm 3]) (.tup [.bin .add (.ix (.var 0) (.cst (.str [116, 117, 114, 110]))) (.cst (.int (1))), .cst (.int (0))]), .seti (.var 0) (.cst (.str [116, 117, 114, 110])) (.var 2), .forr (.nm 1) .val [.lst false [.cst (.int (2147483629)), .cst (.int (2147483587)), .cst (.int (2147483579)), .cst (.int (2147483563))]] [.set 4 (.bin .add (.bin .mul (.cst (.int (69621))) (.var 2)) (.bin .fdv (.var 1) (.cst (.int (41))))), .forr (.nm 5) .val [.ix (.var 0) (.cst (.str [99, 101, 108, 108, 115]))] [.set 4 (.bin .mod (.blt false .int [.bin .add (.bin .add (.bin .mul (.var 4) (.cst (.int (48271)))) (.var 5)) (.var 2)]) (.var 1))], .set 3 (.bin .add (.bin .mul (.var 3) (.cst (.int (2147483659)))) (.bin .mod (.blt false .int [.bin .pow (.var 4) (.cst (.int (5)))]) (.var 1)))], .ret (.var 3)]
def d_law_mixed : LDef := { np := 1, dflts := [], nslots := 6, frz := true, body := b_law_mixed }
def b_law_draw : List LS := [.ite (.cmp .eq (.ix (.var 0) (.cst (.str [114, 101, 115, 116]))) (.cst (.int (0)))) [.seti (.var 0) (.cst (.str [114, 101, 115, 116])) (.ite (.cmp .ne (.ix (.var 0) (.cst (.str [103, 114, 101, 97, 116]))) (.lst false [])) (.mth .pop (.ix (.var 0) (.cst (.str [103, 114, 101, 97, 116]))) [.cst (.int (0))]) (.call 278 [.var 0] []))] [], .set 2 (.bin .mod (.blt false .int [.ix (.var 0) (.cst (.str [114, 101, 115, 116]))]) (.var 1)), .seti (.var 0) (.cst (.str [114, 101, 115, 116])) (.bin .fdv (.ix (.var 0) (.cst (.str [114, 101, 115, 116]))) (.var 1)), .ret (.var 2)]
def d_law_draw : LDef := { np := 2, dflts := [], nslots := 3, frz := true, body := b_law_draw }
def b_law_pick : List LS := [.ret (.ix (.var 1) (.call 166 [.var 0, .blt false .len [.var 1]] []))]
def d_law_pick : LDef := { np := 2, dflts := [], nslots := 2, frz := false, body := b_law_pick }
def b_law_plain : List LS := [.ite (.blt false .isi [.var 0, .tup [.cst (.ty .list), .cst (.ty .tuple)]]) [.ret (.cmp .eq (.lc false (.nm 1) .val [.var 0] [.not (.call 322 [.var 1] [])] (.cst (.int (1))) [1]) (.lst false []))] [], .ite (.blt false .isi [.var 0, .cst (.ty .dict)]) [.bad] [], .ret (.or (.cmp .is (.var 0) (.cst (.non))) (.blt false .isi [.var 0, .tup [.cst (.ty .int), .cst (.ty .str)]]))]
def d_law_plain : LDef := { np := 1, dflts := [], nslots := 2, frz := false, body := b_law_plain }
def b_law_is : List LS := [.ret (.and (.call 322 [.var 0] []) (.and (.cmp .eq (.var 0) (.var 1)) (.and (.cmp .eq (.var 1) (.var 0)) (.cmp .eq (.blt false .repr [.var 0]) (.blt false .repr [.var 1])))))]
def d_law_is : LDef := { np := 2, dflts := [], nslots := 2, frz := false, body := b_law_is }
def b_law_common : List LS := [.whil (.cmp .ne (.var 1) (.cst (.int (0)))) [.asg (.tp [.nm 0, .nm 1]) (.tup [.var 1, .bin .mod (.blt false .int [.var 0]) (.var 1)])], .ret (.blt false .abs [.var 0])]
def d_law_common : LDef := { np := 2, dflts := [], nslots := 2, frz := false, body := b_law_common }
def b_law_no : List LS := [.set 2 (.bin .mul (.call 151 [.var 0, .var 1] []) (.ite (.cmp .gt (.var 1) (.cst (.int (0)))) (.cst (.int (1))) (.bin .sub (.cst (.int (0))) (.cst (.int (1)))))), .ret (.tup [.bin .fdv (.var 0) (.var 2), .bin .fdv (.var 1) (.var 2)])]
def d_law_no : LDef := { np := 2, dflts := [], nslots := 3, frz := false, body := b_law_no }
def b_law_times : List LS := [.ret (.call 288 [.bin .mul (.ix (.var 0) (.cst (.int (0)))) (.ix (.var 1) (.cst (.int (0)))), .bin .mul (.ix (.var 0) (.cst (.int (1)))) (.ix (.var 1) (.cst (.int (1))))] [])]
def d_law_times : LDef := { np := 2, dflts := [], nslots := 2, frz := false, body := b_law_times }
def b_law_some_number : List LS := [.set 2 (.bin .sub (.call 166 [.var 0, .bin .add (.bin .mul (.cst (.int (2))) (.var 1)) (.cst (.int (1)))] []) (.var 1)), .ret (.call 288 [.var 2, .call 319 [.var 0, .lst false [.cst (.int (1)), .cst (.int (1)), .cst (.int (1)), .cst (.int (1)), .cst (.int (2)), .cst (.int (3))]] []] [])]
def d_law_some_number : LDef := { np := 2, dflts := [], nslots := 3, frz := false, body := b_law_some_number }
def b_law_lots : List LS := [.set 1 (.lst false [.tup []]), .forr (.nm 2) .range [.cst (.int (1)), .bin .add (.var 0) (.cst (.int (1)))] [.set 1 (.bin .add (.var 1) (.lc false (.nm 3) .val [.var 1] [] (.bin .add (.var 3) (.tup [.var 2])) [3]))], .ret (.var 1)]
def d_law_lots : LDef := { np := 1, dflts := [], nslots := 4, frz := false, body := b_law_lots }
def b_law_sign : List LS := [.ite (.or (.cmp .eq (.var 0) (.tup [])) (.cmp .eq (.var 1) (.tup []))) [.ret (.cst (.int (1)))] [], .set 2 (.blt false .max [.ix (.var 0) (.neg (.cst (.int (1)))), .ix (.var 1) (.neg (.cst (.int (1))))]), .asg (.tp [.nm 4, .nm 5]) (.lc false (.nm 6) .val [.tup [.var 0, .var 1]] [] (.ite (.cmp .eq (.ix (.var 6) (.neg (.cst (.int (1))))) (.var 2)) (.slc (.var 6) none (some (.neg (.cst (.int (1)))))) (.var 6)) [6]), .ite (.cmp .ne (.ix (.var 0) (.neg (.cst (.int (1))))) (.var 2)) [.ret (.call 358 [.var 5, .var 4] [])] [], .set 3 (.ite (.cmp .eq (.var 5) (.tup [])) (.cst (.int (1))) (.neg (.cst (.int (1))))), .ret (.bin .mul (.var 3) (.ite (.cmp .eq (.ix (.var 1) (.neg (.cst (.int (1))))) (.var 2)) (.call 358 [.var 5, .var 4] []) (.call 358 [.var 4, .var 5] [])))]
def d_law_sign : LDef := { np := 2, dflts := [], nslots := 7, frz := false, body := b_law_sign }
def b_law_by : List LS := [.set 3 (.tup [.call 358 [.var 1, .var 2] [], .cst (.int (1))]), .forr (.nm 4) .val [.var 1] [.set 3 (.ite (.cmp .isin (.var 4) (.var 2)) (.call 429 [.var 3, .ix (.var 0) (.bin .sub (.var 4) (.cst (.int (1))))] []) (.var 3))], .ret (.var 3)]
def d_law_by : LDef := { np := 3, dflts := [], nslots := 5, frz := false, body := b_law_by }
def b_law_ones : List LS := [.set 1 (.blt false .len [.call 266 [.var 0] []]), .ret (.lc false (.nm 2) .range [.var 1] [] (.blt false .tuple [.lc false (.nm 3) .range [.var 1] [] (.tup [.blt false .int [.cmp .eq (.var 3) (.var 2)], .cst (.int (1))]) [3]]) [2])]
def d_law_ones : LDef := { np := 1, dflts := [], nslots := 4, frz := false, body := b_law_ones }
def b_law_at_lots : List LS := [.set 2 (.blt false .dict [.var 1]), .ret (.blt false .tuple [.lc false (.nm 3) .val [.call 266 [.var 0] []] [] (.mth .get (.var 2) [.var 3, .tup [.cst (.int (0)), .cst (.int (1))]]) [3]])]
def d_law_at_lots : LDef := { np := 2, dflts := [], nslots := 4, frz := false, body := b_law_at_lots }
def b_law_drawn_steps : List LS := [.ret (.blt false .tuple [.lc false (.nm 2) .range [.var 1] [] (.call 319 [.var 0, .lst false [.tup [.neg (.cst (.int (1))), .cst (.int (1))], .tup [.cst (.int (1)), .cst (.int (1))], .tup [.neg (.cst (.int (1))), .cst (.int (1))], .tup [.cst (.int (2)), .cst (.int (1))], .tup [.neg (.cst (.int (2))), .cst (.int (1))], .tup [.cst (.int (1)), .cst (.int (2))], .tup [.cst (.int (0)), .cst (.int (1))], .tup [.cst (.int (3)), .cst (.int (1))]]] []) [2]])]
def d_law_drawn_steps : LDef := { np := 2, dflts := [], nslots := 3, frz := false, body := b_law_drawn_steps }
def b_law_many : List LS := [.ret (.blt false .min [.var 1, .call 319 [.var 0, .lst false [.cst (.int (0)), .cst (.int (1)), .cst (.int (2)), .cst (.int (2)), .cst (.int (3)), .cst (.int (3)), .cst (.int (3)), .cst (.int (4))]] []])]
def d_law_many : LDef := { np := 2, dflts := [], nslots := 2, frz := false, body := b_law_many }
def b_law_some_line : List LS := [.ret (.blt false .tuple [.lc false (.nm 2) .val [.call 266 [.var 1] []] [] (.ite (.cmp .eq (.call 166 [.var 0, .cst (.int (2))] []) (.cst (.int (0)))) (.call 381 [.var 0, .cst (.int (3))] []) (.tup [.cst (.int (0)), .cst (.int (1))])) [2]])]
def d_law_some_line : LDef := { np := 2, dflts := [], nslots := 3, frz := false, body := b_law_some_line }
def b_backed : List LS := [.ret (.call 680 [.lc false (.tp [.nm 1, .nm 2]) .items [.call 667 [.var 0] []] [] (.ite (.cmp .eq (.var 1) (.tup [])) (.var 2) (.call 686 [.var 2] [])) [1, 2]] [])]
def d_backed : LDef := { np := 1, dflts := [], nslots := 3, frz := false, body := b_backed }
def b_back_table : List LS := [.expr (.call 696 [.var 0] []), .ret (.call 498 [.var 0] [])]
def d_back_table : LDef := { np := 1, dflts := [], nslots := 1, frz := false, body := b_back_table }
def b_bracket : List LS := [.expr (.call 719 [.var 0, .var 1] []), .expr (.call 719 [.var 0, .var 2] []), .expr (.call 719 [.var 0, .var 3] []), .set 4 (.call 553 [.var 0, .call 553 [.var 0, .var 1, .var 2] [], .var 3] []), .ret (.call 655 [.var 4, .call 553 [.var 0, .var 1, .call 553 [.var 0, .var 2, .var 3] []] []] [])]
def d_bracket : LDef := { np := 4, dflts := [], nslots := 5, frz := false, body := b_bracket }
def b_law_plus : List LS := [.ret (.call 288 [.bin .add (.bin .mul (.ix (.var 0) (.cst (.int (0)))) (.ix (.var 1) (.cst (.int (1))))) (.bin .mul (.ix (.var 1) (.cst (.int (0)))) (.ix (.var 0) (.cst (.int (1))))), .bin .mul (.ix (.var 0) (.cst (.int (1)))) (.ix (.var 1) (.cst (.int (1))))] [])]
def d_law_plus : LDef := { np := 2, dflts := [], nslots := 2, frz := false, body := b_law_plus }
def b_law_merged : List LS := [.ret (.blt false .tuple [.blt false .sorted [.bin .add (.lc false (.nm 2) .val [.var 0] [.cmp .notin (.var 2) (.var 1)] (.var 2) [2]) (.lc false (.nm 2) .val [.var 1] [.cmp .notin (.var 2) (.var 0)] (.var 2) [2])]])]
def d_law_merged : LDef := { np := 2, dflts := [], nslots := 3, frz := false, body := b_law_merged }
def b_law_minus : List LS := [.ret (.tup [.bin .sub (.cst (.int (0))) (.ix (.var 0) (.cst (.int (0)))), .ix (.var 0) (.cst (.int (1)))])]
def d_law_minus : LDef := { np := 1, dflts := [], nslots := 1, frz := false, body := b_law_minus }
def b_law_off : List LS := [.ret (.call 323 [.var 0, .call 276 [.var 1] []] [])]
def d_law_off : LDef := { np := 2, dflts := [], nslots := 2, frz := false, body := b_law_off }
def b_law_folded : List LS := [.set 3 (.call 266 [.blt false .len [.var 0]] []), .set 4 (.blt true .dict [.lc false (.nm 7) .val [.var 3] [] (.tup [.var 7, .tup [.cst (.int (0)), .cst (.int (1))]]) [7]]), .forr (.tp [.nm 5, .nm 6]) .zip [.var 3, .var 1] [.ite (.cmp .ne (.ix (.var 6) (.cst (.int (0)))) (.cst (.int (0)))) [.forr (.tp [.nm 8, .nm 9]) .zip [.var 3, .var 2] [.ite (.cmp .ne (.ix (.var 9) (.cst (.int (0)))) (.cst (.int (0)))) [.set 7 (.call 275 [.var 5, .var 8] []), .seti (.var 4) (.var 7) (.call 323 [.ix (.var 4) (.var 7), .call 429 [.call 141 [.var 0, .var 5, .var 8] [], .call 429 [.var 6, .var 9] []] []] [])] []]] []], .ret (.blt false .tuple [.lc false (.nm 7) .val [.var 3] [] (.ix (.var 4) (.var 7)) [7]])]
def d_law_folded : LDef := { np := 3, dflts := [], nslots := 10, frz := true, body := b_law_folded }
def b_law_less_line : List LS := [.ret (.blt false .tuple [.lc false (.tp [.nm 2, .nm 3]) .zip [.var 0, .var 1] [] (.call 297 [.var 2, .var 3] []) [2, 3]])]
def d_law_less_line : LDef := { np := 2, dflts := [], nslots := 4, frz := false, body := b_law_less_line }
def b_law_unbound : List LS := [.ret (.call 255 [.call 188 [.var 0, .call 188 [.var 0, .var 1, .var 2] [], .var 3] [], .call 188 [.var 0, .var 1, .call 188 [.var 0, .var 2, .var 3] []] []] [])]
def d_law_unbound : LDef := { np := 4, dflts := [], nslots := 4, frz := false, body := b_law_unbound }
def b_parts_of : List LS := [.set 1 (.lst true []), .forr (.nm 2) .val [.call 677 [.blt false .len [.var 0]] []] [.set 3 (.glb 93), .forr (.nm 4) .val [.var 2] [.set 3 (.call 832 [.var 3, .call 686 [.ix (.var 0) (.bin .sub (.var 4) (.cst (.int (1))))] []] [])], .expr (.mth .append (.var 1) [.var 3])], .ret (.var 1)]
def d_parts_of : LDef := { np := 1, dflts := [], nslots := 5, frz := true, body := b_parts_of }
def b_norm_of : List LS := [.set 2 (.glb 103), .forr (.tp [.nm 3, .nm 4]) .zip [.call 759 [.var 0] [], .ix (.var 1) (.cst (.int (1)))] [.set 2 (.call 768 [.var 2, .call 832 [.var 3, .call 832 [.var 4, .var 4] []] []] [])], .ret (.var 2)]
def d_norm_of : LDef := { np := 2, dflts := [], nslots := 5, frz := false, body := b_norm_of }
def b_norm : List LS := [.expr (.call 719 [.var 0, .var 1] []), .ret (.call 736 [.var 0, .var 1] [])]
def d_norm : LDef := { np := 2, dflts := [], nslots := 2, frz := false, body := b_norm }
def b_table_of_lots : List LS := [.ret (.tup [.cst (.str [116, 97, 98, 108, 101]), .blt false .tuple [.lc false (.nm 2) .val [.call 677 [.var 0] []] [] (.ite (.cmp .isin (.var 2) (.var 1)) (.glb 93) (.glb 103)) [2]]])]
def d_table_of_lots : LDef := { np := 2, dflts := [], nslots := 3, frz := false, body := b_table_of_lots }
def b_unlike_norms : List LS := [.expr (.call 729 [.var 0] []), .ite (.or (.cmp .lt (.blt false .len [.var 0]) (.cst (.int (4)))) (.cmp .isin (.glb 103) (.var 0))) [.ret (.cst (.non))] [], .ret (.tup [.call 824 [.cst (.int (4)), .lst false [.tup [.cst (.int (1))], .tup [.cst (.int (2)), .cst (.int (4))]]] [], .call 824 [.cst (.int (4)), .lst false [.tup [.cst (.int (3))], .tup [.cst (.int (1)), .cst (.int (2)), .cst (.int (3)), .cst (.int (4))]]] []])]
def d_unlike_norms : LDef := { np := 1, dflts := [], nslots := 1, frz := false, body := b_unlike_norms }
def b_law_total : List LS := [.set 1 (.tup [.cst (.int (0)), .cst (.int (1))]), .forr (.nm 2) .val [.var 0] [.set 1 (.call 323 [.var 1, .var 2] [])], .ret (.var 1)]
def d_law_total : LDef := { np := 1, dflts := [], nslots := 3, frz := false, body := b_law_total }
def b_law_is_no : List LS := [.ite (.or (.not (.blt false .isi [.var 0, .cst (.ty .tuple)])) (.or (.cmp .ne (.blt false .len [.var 0]) (.cst (.int (2)))) (.cmp .ne (.lc false (.nm 1) .val [.var 0] [.or (.not (.blt false .isi [.var 1, .cst (.ty .int)])) (.blt false .isi [.var 1, .cst (.ty .bool)])] (.cst (.int (1))) [1]) (.lst false [])))) [.ret (.cst (.bl false))] [], .ret (.and (.cmp .gt (.ix (.var 0) (.cst (.int (1)))) (.cst (.int (0)))) (.cmp .eq (.call 151 [.ix (.var 0) (.cst (.int (0))), .ix (.var 0) (.cst (.int (1)))] []) (.cst (.int (1)))))]
def d_law_is_no : LDef := { np := 1, dflts := [], nslots := 2, frz := false, body := b_law_is_no }
def b_law_are_numbers : List LS := [.ret (.and (.blt false .isi [.var 1, .cst (.ty .tuple)]) (.and (.cmp .eq (.blt false .len [.var 1]) (.var 0)) (.cmp .eq (.lc false (.nm 2) .val [.var 1] [.not (.call 226 [.var 2] [])] (.cst (.int (1))) [2]) (.lst false []))))]
def d_law_are_numbers : LDef := { np := 2, dflts := [], nslots := 3, frz := false, body := b_law_are_numbers }
def b_law_is_table : List LS := [.ite (.or (.not (.blt false .isi [.var 1, .cst (.ty .tuple)])) (.or (.cmp .ne (.blt false .len [.var 1]) (.cst (.int (2)))) (.or (.not (.blt false .isi [.ix (.var 1) (.cst (.int (0))), .cst (.ty .str)])) (.cmp .ne (.ix (.var 1) (.cst (.int (0)))) (.cst (.str [116, 97, 98, 108, 101])))))) [.ret (.cst (.bl false))] [], .ret (.call 115 [.var 0, .ix (.var 1) (.cst (.int (1)))] [])]
def d_law_is_table : LDef := { np := 2, dflts := [], nslots := 2, frz := false, body := b_law_is_table }
def b_law_parts : List LS := [.set 1 (.lst true []), .forr (.nm 2) .val [.call 266 [.blt false .len [.var 0]] []] [.set 3 (.tup [.cst (.int (1)), .cst (.int (1))]), .forr (.nm 4) .val [.var 2] [.set 3 (.call 429 [.var 3, .call 276 [.ix (.var 0) (.bin .sub (.var 4) (.cst (.int (1))))] []] [])], .expr (.mth .append (.var 1) [.var 3])], .ret (.var 1)]
def d_law_parts : LDef := { np := 1, dflts := [], nslots := 5, frz := true, body := b_law_parts }
def b_law_form : List LS := [.ret (.call 438 [.lc false (.tp [.nm 3, .nm 4, .nm 5]) .zip [.call 318 [.var 0] [], .var 1, .var 2] [] (.call 429 [.var 3, .call 429 [.var 4, .var 5] []] []) [3, 4, 5]] [])]
def d_law_form : LDef := { np := 3, dflts := [], nslots := 6, frz := false, body := b_law_form }
def b_norm_parts : List LS := [.expr (.call 729 [.var 0] []), .ret (.blt false .tuple [.call 759 [.var 0] []])]
def d_norm_parts : LDef := { np := 1, dflts := [], nslots := 1, frz := false, body := b_norm_parts }
def b_law_shuffled : List LS := [.asg (.tp [.nm 2, .nm 3]) (.tup [.blt true .list [.var 1], .lst true []]), .whil (.cmp .ne (.var 2) (.lst false [])) [.expr (.mth .append (.var 3) [.mth .pop (.var 2) [.call 166 [.var 0, .blt false .len [.var 2]] []]])], .ret (.var 3)]
def d_law_shuffled : LDef := { np := 2, dflts := [], nslots := 4, frz := true, body := b_law_shuffled }
def b_law_some_hard : List LS := [.asg (.tp [.nm 4, .nm 5]) (.tup [.blt false .len [.var 1], .call 266 [.blt false .len [.var 1]] []]), .set 2 (.call 166 [.var 0, .cst (.int (4))] []), .ite (.cmp .eq (.var 2) (.cst (.int (0)))) [.ret (.call 379 [.var 0, .var 4] [])] [], .set 3 (.lc false (.nm 6) .val [.slc (.call 356 [.var 0, .var 5] []) none (some (.bin .add (.cst (.int (1))) (.call 166 [.var 0, .cst (.int (4))] [])))] [] (.tup [.var 6, .call 319 [.var 0, .lst false [.tup [.cst (.int (1)), .cst (.int (1))], .tup [.neg (.cst (.int (1))), .cst (.int (1))], .tup [.cst (.int (1)), .cst (.int (1))], .tup [.cst (.int (2)), .cst (.int (1))]]] []]) [6]), .ite (.and (.cmp .eq (.var 2) (.cst (.int (1)))) (.cmp .gt (.var 4) (.cst (.int (0))))) [.ret (.bin .add (.tup [.tup [.cst (.int (1)), .cst (.int (1))], .tup [.cst (.int (1)), .cst (.int (1))]]) (.bin .mul (.tup [.tup [.cst (.int (0)), .cst (.int (1))]]) (.bin .sub (.blt false .len [.var 5]) (.cst (.int (2))))))] [], .ret (.call 119 [.var 4, .var 3] [])]
def d_law_some_hard : LDef := { np := 2, dflts := [], nslots := 7, frz := false, body := b_law_some_hard }
def b_law_scaled : List LS := [.ret (.blt false .tuple [.lc false (.nm 2) .val [.var 1] [] (.call 429 [.var 0, .var 2] []) [2]])]
def d_law_scaled : LDef := { np := 2, dflts := [], nslots := 3, frz := false, body := b_law_scaled }
/-- all defs, and a law's own -/
def PU (L : LDef) : LProg := { fuel := 1000000000, defs := [(617, d_is_whole), (571, d_is_below), (487, d_are_rising), (738, d_number), (598, d_is_number), (768, d_plus), (686, d_minus), (832, d_times), (711, d_need_many), (600, d_is_of), (679, d_lots_of), (677, d_lots), (710, d_need_lots), (754, d_parted), (501, d_below), (803, d_sign_of), (892, d_worth_of), (729, d_need_steps), (891, d_worth), (685, d_middle_lots), (569, d_is_any_table), (696, d_need_any), (527, d_count_of), (608, d_is_table), (730, d_need_table), (695, d_need_alike), (680, d_made), (667, d_lines), (818, d_summed), (794, d_scaled), (551, d_fold_of), (769, d_plus_tables), (553, d_fold_tables), (797, d_scaled_table), (719, d_need_own), (655, d_less), (540, d_exchange), (126, d_law_begun), (278, d_law_mixed), (166, d_law_draw), (319, d_law_pick), (322, d_law_plain), (213, d_law_is), (151, d_law_common), (288, d_law_no), (429, d_law_times), (381, d_law_some_number), (266, d_law_lots), (358, d_law_sign), (141, d_law_by), (302, d_law_ones), (119, d_law_at_lots), (168, d_law_drawn_steps), (271, d_law_many), (379, d_law_some_line), (498, d_backed), (497, d_back_table), (510, d_bracket), (323, d_law_plus), (275, d_law_merged), (276, d_law_minus), (297, d_law_off), (188, d_law_folded), (255, d_law_less_line), (442, d_law_unbound), (759, d_parts_of), (736, d_norm_of), (735, d_norm), (824, d_table_of_lots), (861, d_unlike_norms), (438, d_law_total), (226, d_law_is_no), (115, d_law_are_numbers), (230, d_law_is_table), (318, d_law_parts), (189, d_law_form), (737, d_norm_parts), (356, d_law_shuffled), (372, d_law_some_hard), (350, d_law_scaled), (635, L)], consts := [(103, .tup [.int (0), .int (1)]), (93, .tup [.int (1), .int (1)]), (37, .int (4)), (101, .tup [.int (1), .int (2), .int (4), .int (8), .int (16)])], excs := [(11, false), (82, false), (88, false), (79, false), (89, false)] }
abbrev f_is_whole : Nat := 617
abbrev f_is_below : Nat := 571
abbrev f_are_rising : Nat := 487
abbrev f_number : Nat := 738
abbrev f_is_number : Nat := 598
abbrev f_plus : Nat := 768
abbrev f_minus : Nat := 686
abbrev f_times : Nat := 832
abbrev f_need_many : Nat := 711
abbrev f_is_of : Nat := 600
abbrev f_lots_of : Nat := 679
abbrev f_lots : Nat := 677
abbrev f_need_lots : Nat := 710
abbrev f_parted : Nat := 754
abbrev f_below : Nat := 501
abbrev f_sign_of : Nat := 803
abbrev f_worth_of : Nat := 892
abbrev f_need_steps : Nat := 729
abbrev f_worth : Nat := 891
abbrev f_middle_lots : Nat := 685
abbrev f_is_any_table : Nat := 569
abbrev f_need_any : Nat := 696
abbrev f_count_of : Nat := 527
abbrev f_is_table : Nat := 608
abbrev f_need_table : Nat := 730
abbrev f_need_alike : Nat := 695
abbrev f_made : Nat := 680
abbrev f_lines : Nat := 667
abbrev f_summed : Nat := 818
abbrev f_scaled : Nat := 794
abbrev f_fold_of : Nat := 551
abbrev f_plus_tables : Nat := 769
abbrev f_fold_tables : Nat := 553
abbrev f_scaled_table : Nat := 797
abbrev f_need_own : Nat := 719
abbrev f_less : Nat := 655
abbrev f_exchange : Nat := 540
abbrev f_law_begun : Nat := 126
abbrev f_law_mixed : Nat := 278
abbrev f_law_draw : Nat := 166
abbrev f_law_pick : Nat := 319
abbrev f_law_plain : Nat := 322
abbrev f_law_is : Nat := 213
abbrev f_law_common : Nat := 151
abbrev f_law_no : Nat := 288
abbrev f_law_times : Nat := 429
abbrev f_law_some_number : Nat := 381
abbrev f_law_lots : Nat := 266
abbrev f_law_sign : Nat := 358
abbrev f_law_by : Nat := 141
abbrev f_law_ones : Nat := 302
abbrev f_law_at_lots : Nat := 119
abbrev f_law_drawn_steps : Nat := 168
abbrev f_law_many : Nat := 271
abbrev f_law_some_line : Nat := 379
abbrev f_backed : Nat := 498
abbrev f_back_table : Nat := 497
abbrev f_bracket : Nat := 510
abbrev f_law_plus : Nat := 323
abbrev f_law_merged : Nat := 275
abbrev f_law_minus : Nat := 276
abbrev f_law_off : Nat := 297
abbrev f_law_folded : Nat := 188
abbrev f_law_less_line : Nat := 255
abbrev f_law_unbound : Nat := 442
abbrev f_parts_of : Nat := 759
abbrev f_norm_of : Nat := 736
abbrev f_norm : Nat := 735
abbrev f_table_of_lots : Nat := 824
abbrev f_unlike_norms : Nat := 861
abbrev f_law_total : Nat := 438
abbrev f_law_is_no : Nat := 226
abbrev f_law_are_numbers : Nat := 115
abbrev f_law_is_table : Nat := 230
abbrev f_law_parts : Nat := 318
abbrev f_law_form : Nat := 189
abbrev f_norm_parts : Nat := 737
abbrev f_law_shuffled : Nat := 356
abbrev f_law_some_hard : Nat := 372
abbrev f_law_scaled : Nat := 350
abbrev g_ZERO : Nat := 103
abbrev g_ONE : Nat := 93
abbrev g_MOST_DOUBLINGS : Nat := 37
abbrev g_WIDTHS : Nat := 101
abbrev x_DoublingError : Nat := 11
abbrev x_NoNumber : Nat := 82
abbrev x_NoSteps : Nat := 88
abbrev x_NoLot : Nat := 79
abbrev x_NoTable : Nat := 89
abbrev f_law : Nat := 635
theorem c_is_whole (L : LDef) (n : Nat) (x0 : D) (S : Ob) : callN (PU L) (n + 1) f_is_whole [x0] [] S = finS false S (evSs (PU L) (callN (PU L) n) b_is_whole [some x0] S) := by kernel_rfl
theorem c_is_below (L : LDef) (n : Nat) (x0 x1 : D) (S : Ob) : callN (PU L) (n + 1) f_is_below [x0, x1] [] S = finS false S (evSs (PU L) (callN (PU L) n) b_is_below [some x0, some x1] S) := by kernel_rfl
theorem c_are_rising (L : LDef) (n : Nat) (x0 : D) (S : Ob) : callN (PU L) (n + 1) f_are_rising [x0] [] S = finS false S (evSs (PU L) (callN (PU L) n) b_are_rising [some x0, none, none] S) := by kernel_rfl
theorem c_number_1 (L : LDef) (n : Nat) (x0 : D) (S : Ob) : callN (PU L) (n + 1) f_number [x0] [] S = finS false S (evSs (PU L) (callN (PU L) n) b_number [some x0, some (.int (1)), none] S) := by kernel_rfl
theorem c_number (L : LDef) (n : Nat) (x0 x1 : D) (S : Ob) : callN (PU L) (n + 1) f_number [x0, x1] [] S = finS false S (evSs (PU L) (callN (PU L) n) b_number [some x0, some x1, none] S) := by kernel_rfl
theorem c_is_number (L : LDef) (n : Nat) (x0 : D) (S : Ob) : callN (PU L) (n + 1) f_is_number [x0] [] S = finS false S (evSs (PU L) (callN (PU L) n) b_is_number [some x0, none] S) := by kernel_rfl
theorem c_plus (L : LDef) (n : Nat) (x0 x1 : D) (S : Ob) : callN (PU L) (n + 1) f_plus [x0, x1] [] S = finS false S (evSs (PU L) (callN (PU L) n) b_plus [some x0, some x1] S) := by kernel_rfl
theorem c_minus (L : LDef) (n : Nat) (x0 : D) (S : Ob) : callN (PU L) (n + 1) f_minus [x0] [] S = finS false S (evSs (PU L) (callN (PU L) n) b_minus [some x0] S) := by kernel_rfl
theorem c_times (L : LDef) (n : Nat) (x0 x1 : D) (S : Ob) : callN (PU L) (n + 1) f_times [x0, x1] [] S = finS false S (evSs (PU L) (callN (PU L) n) b_times [some x0, some x1] S) := by kernel_rfl
theorem c_need_many (L : LDef) (n : Nat) (x0 : D) (S : Ob) : callN (PU L) (n + 1) f_need_many [x0] [] S = finS false S (evSs (PU L) (callN (PU L) n) b_need_many [some x0] S) := by kernel_rfl
theorem c_is_of (L : LDef) (n : Nat) (x0 x1 : D) (S : Ob) : callN (PU L) (n + 1) f_is_of [x0, x1] [] S = finS false S (evSs (PU L) (callN (PU L) n) b_is_of [some x0, some x1, none] S) := by kernel_rfl
theorem c_lots_of (L : LDef) (n : Nat) (x0 : D) (S : Ob) : callN (PU L) (n + 1) f_lots_of [x0] [] S = finS false S (evSs (PU L) (callN (PU L) n) b_lots_of [some x0, none, none, none] S) := by kernel_rfl
theorem c_lots (L : LDef) (n : Nat) (x0 : D) (S : Ob) : callN (PU L) (n + 1) f_lots [x0] [] S = finS false S (evSs (PU L) (callN (PU L) n) b_lots [some x0] S) := by kernel_rfl
theorem c_need_lots (L : LDef) (n : Nat) (x0 x1 x2 : D) (S : Ob) : callN (PU L) (n + 1) f_need_lots [x0, x1, x2] [] S = finS false S (evSs (PU L) (callN (PU L) n) b_need_lots [some x0, some x1, some x2] S) := by kernel_rfl
theorem c_parted (L : LDef) (n : Nat) (x0 x1 : D) (S : Ob) : callN (PU L) (n + 1) f_parted [x0, x1] [] S = finS false S (evSs (PU L) (callN (PU L) n) b_parted [some x0, some x1, none] S) := by kernel_rfl
theorem c_below (L : LDef) (n : Nat) (x0 x1 : D) (S : Ob) : callN (PU L) (n + 1) f_below [x0, x1] [] S = finS false S (evSs (PU L) (callN (PU L) n) b_below [some x0, some x1, none] S) := by kernel_rfl
theorem c_sign_of (L : LDef) (n : Nat) (x0 x1 : D) (S : Ob) : callN (PU L) (n + 1) f_sign_of [x0, x1] [] S = finS false S (evSs (PU L) (callN (PU L) n) b_sign_of [some x0, some x1, none, none, none, none, none, none] S) := by kernel_rfl
theorem c_worth_of (L : LDef) (n : Nat) (x0 x1 x2 : D) (S : Ob) : callN (PU L) (n + 1) f_worth_of [x0, x1, x2] [] S = finS false S (evSs (PU L) (callN (PU L) n) b_worth_of [some x0, some x1, some x2, none, none] S) := by kernel_rfl
theorem c_need_steps (L : LDef) (n : Nat) (x0 : D) (S : Ob) : callN (PU L) (n + 1) f_need_steps [x0] [] S = finS false S (evSs (PU L) (callN (PU L) n) b_need_steps [some x0, none] S) := by kernel_rfl
theorem c_worth (L : LDef) (n : Nat) (x0 x1 x2 : D) (S : Ob) : callN (PU L) (n + 1) f_worth [x0, x1, x2] [] S = finS false S (evSs (PU L) (callN (PU L) n) b_worth [some x0, some x1, some x2] S) := by kernel_rfl
theorem c_middle_lots (L : LDef) (n : Nat) (x0 : D) (S : Ob) : callN (PU L) (n + 1) f_middle_lots [x0] [] S = finS false S (evSs (PU L) (callN (PU L) n) b_middle_lots [some x0, none, none, none] S) := by kernel_rfl
theorem c_is_any_table (L : LDef) (n : Nat) (x0 : D) (S : Ob) : callN (PU L) (n + 1) f_is_any_table [x0] [] S = finS false S (evSs (PU L) (callN (PU L) n) b_is_any_table [some x0, none] S) := by kernel_rfl
theorem c_need_any (L : LDef) (n : Nat) (x0 : D) (S : Ob) : callN (PU L) (n + 1) f_need_any [x0] [] S = finS false S (evSs (PU L) (callN (PU L) n) b_need_any [some x0] S) := by kernel_rfl
theorem c_count_of (L : LDef) (n : Nat) (x0 : D) (S : Ob) : callN (PU L) (n + 1) f_count_of [x0] [] S = finS false S (evSs (PU L) (callN (PU L) n) b_count_of [some x0] S) := by kernel_rfl
theorem c_is_table (L : LDef) (n : Nat) (x0 x1 : D) (S : Ob) : callN (PU L) (n + 1) f_is_table [x0, x1] [] S = finS false S (evSs (PU L) (callN (PU L) n) b_is_table [some x0, some x1] S) := by kernel_rfl
theorem c_need_table (L : LDef) (n : Nat) (x0 x1 : D) (S : Ob) : callN (PU L) (n + 1) f_need_table [x0, x1] [] S = finS false S (evSs (PU L) (callN (PU L) n) b_need_table [some x0, some x1] S) := by kernel_rfl
theorem c_need_alike (L : LDef) (n : Nat) (x0 x1 : D) (S : Ob) : callN (PU L) (n + 1) f_need_alike [x0, x1] [] S = finS false S (evSs (PU L) (callN (PU L) n) b_need_alike [some x0, some x1] S) := by kernel_rfl
theorem c_made (L : LDef) (n : Nat) (x0 : D) (S : Ob) : callN (PU L) (n + 1) f_made [x0] [] S = finS false S (evSs (PU L) (callN (PU L) n) b_made [some x0] S) := by kernel_rfl
theorem c_lines (L : LDef) (n : Nat) (x0 : D) (S : Ob) : callN (PU L) (n + 1) f_lines [x0] [] S = finS false S (evSs (PU L) (callN (PU L) n) b_lines [some x0] S) := by kernel_rfl
theorem c_summed (L : LDef) (n : Nat) (x0 x1 : D) (S : Ob) : callN (PU L) (n + 1) f_summed [x0, x1] [] S = finS false S (evSs (PU L) (callN (PU L) n) b_summed [some x0, some x1, none, none] S) := by kernel_rfl
theorem c_scaled (L : LDef) (n : Nat) (x0 x1 : D) (S : Ob) : callN (PU L) (n + 1) f_scaled [x0, x1] [] S = finS false S (evSs (PU L) (callN (PU L) n) b_scaled [some x0, some x1, none] S) := by kernel_rfl
theorem c_fold_of (L : LDef) (n : Nat) (x0 x1 x2 : D) (S : Ob) : callN (PU L) (n + 1) f_fold_of [x0, x1, x2] [] S = finS true S (evSs (PU L) (callN (PU L) n) b_fold_of [some x0, some x1, some x2, none, none, none, none, none, none, none] S) := by kernel_rfl
theorem c_plus_tables (L : LDef) (n : Nat) (x0 x1 : D) (S : Ob) : callN (PU L) (n + 1) f_plus_tables [x0, x1] [] S = finS false S (evSs (PU L) (callN (PU L) n) b_plus_tables [some x0, some x1] S) := by kernel_rfl
theorem c_fold_tables (L : LDef) (n : Nat) (x0 x1 x2 : D) (S : Ob) : callN (PU L) (n + 1) f_fold_tables [x0, x1, x2] [] S = finS false S (evSs (PU L) (callN (PU L) n) b_fold_tables [some x0, some x1, some x2] S) := by kernel_rfl
theorem c_scaled_table (L : LDef) (n : Nat) (x0 x1 : D) (S : Ob) : callN (PU L) (n + 1) f_scaled_table [x0, x1] [] S = finS false S (evSs (PU L) (callN (PU L) n) b_scaled_table [some x0, some x1] S) := by kernel_rfl
theorem c_need_own (L : LDef) (n : Nat) (x0 x1 : D) (S : Ob) : callN (PU L) (n + 1) f_need_own [x0, x1] [] S = finS false S (evSs (PU L) (callN (PU L) n) b_need_own [some x0, some x1] S) := by kernel_rfl
theorem c_less (L : LDef) (n : Nat) (x0 x1 : D) (S : Ob) : callN (PU L) (n + 1) f_less [x0, x1] [] S = finS false S (evSs (PU L) (callN (PU L) n) b_less [some x0, some x1] S) := by kernel_rfl
theorem c_exchange (L : LDef) (n : Nat) (x0 x1 x2 : D) (S : Ob) : callN (PU L) (n + 1) f_exchange [x0, x1, x2] [] S = finS false S (evSs (PU L) (callN (PU L) n) b_exchange [some x0, some x1, some x2] S) := by kernel_rfl
theorem c_law_begun (L : LDef) (n : Nat) (x0 : D) (S : Ob) : callN (PU L) (n + 1) f_law_begun [x0] [] S = finS false S (evSs (PU L) (callN (PU L) n) b_law_begun [some x0, none, none] S) := by kernel_rfl
theorem c_law_mixed (L : LDef) (n : Nat) (x0 : D) (S : Ob) : callN (PU L) (n + 1) f_law_mixed [x0] [] S = finS true S (evSs (PU L) (callN (PU L) n) b_law_mixed [some x0, none, none, none, none, none] S) := by kernel_rfl
theorem c_law_draw (L : LDef) (n : Nat) (x0 x1 : D) (S : Ob) : callN (PU L) (n + 1) f_law_draw [x0, x1] [] S = finS true S (evSs (PU L) (callN (PU L) n) b_law_draw [some x0, some x1, none] S) := by kernel_rfl
theorem c_law_pick (L : LDef) (n : Nat) (x0 x1 : D) (S : Ob) : callN (PU L) (n + 1) f_law_pick [x0, x1] [] S = finS false S (evSs (PU L) (callN (PU L) n) b_law_pick [some x0, some x1] S) := by kernel_rfl
theorem c_law_plain (L : LDef) (n : Nat) (x0 : D) (S : Ob) : callN (PU L) (n + 1) f_law_plain [x0] [] S = finS false S (evSs (PU L) (callN (PU L) n) b_law_plain [some x0, none] S) := by kernel_rfl
theorem c_law_is (L : LDef) (n : Nat) (x0 x1 : D) (S : Ob) : callN (PU L) (n + 1) f_law_is [x0, x1] [] S = finS false S (evSs (PU L) (callN (PU L) n) b_law_is [some x0, some x1] S) := by kernel_rfl
theorem c_law_common (L : LDef) (n : Nat) (x0 x1 : D) (S : Ob) : callN (PU L) (n + 1) f_law_common [x0, x1] [] S = finS false S (evSs (PU L) (callN (PU L) n) b_law_common [some x0, some x1] S) := by kernel_rfl
theorem c_law_no (L : LDef) (n : Nat) (x0 x1 : D) (S : Ob) : callN (PU L) (n + 1) f_law_no [x0, x1] [] S = finS false S (evSs (PU L) (callN (PU L) n) b_law_no [some x0, some x1, none] S) := by kernel_rfl
theorem c_law_times (L : LDef) (n : Nat) (x0 x1 : D) (S : Ob) : callN (PU L) (n + 1) f_law_times [x0, x1] [] S = finS false S (evSs (PU L) (callN (PU L) n) b_law_times [some x0, some x1] S) := by kernel_rfl
theorem c_law_some_number (L : LDef) (n : Nat) (x0 x1 : D) (S : Ob) : callN (PU L) (n + 1) f_law_some_number [x0, x1] [] S = finS false S (evSs (PU L) (callN (PU L) n) b_law_some_number [some x0, some x1, none] S) := by kernel_rfl
theorem c_law_lots (L : LDef) (n : Nat) (x0 : D) (S : Ob) : callN (PU L) (n + 1) f_law_lots [x0] [] S = finS false S (evSs (PU L) (callN (PU L) n) b_law_lots [some x0, none, none, none] S) := by kernel_rfl
theorem c_law_sign (L : LDef) (n : Nat) (x0 x1 : D) (S : Ob) : callN (PU L) (n + 1) f_law_sign [x0, x1] [] S = finS false S (evSs (PU L) (callN (PU L) n) b_law_sign [some x0, some x1, none, none, none, none, none] S) := by kernel_rfl
theorem c_law_by (L : LDef) (n : Nat) (x0 x1 x2 : D) (S : Ob) : callN (PU L) (n + 1) f_law_by [x0, x1, x2] [] S = finS false S (evSs (PU L) (callN (PU L) n) b_law_by [some x0, some x1, some x2, none, none] S) := by kernel_rfl
theorem c_law_ones (L : LDef) (n : Nat) (x0 : D) (S : Ob) : callN (PU L) (n + 1) f_law_ones [x0] [] S = finS false S (evSs (PU L) (callN (PU L) n) b_law_ones [some x0, none, none, none] S) := by kernel_rfl
theorem c_law_at_lots (L : LDef) (n : Nat) (x0 x1 : D) (S : Ob) : callN (PU L) (n + 1) f_law_at_lots [x0, x1] [] S = finS false S (evSs (PU L) (callN (PU L) n) b_law_at_lots [some x0, some x1, none, none] S) := by kernel_rfl
theorem c_law_drawn_steps (L : LDef) (n : Nat) (x0 x1 : D) (S : Ob) : callN (PU L) (n + 1) f_law_drawn_steps [x0, x1] [] S = finS false S (evSs (PU L) (callN (PU L) n) b_law_drawn_steps [some x0, some x1, none] S) := by kernel_rfl
theorem c_law_many (L : LDef) (n : Nat) (x0 x1 : D) (S : Ob) : callN (PU L) (n + 1) f_law_many [x0, x1] [] S = finS false S (evSs (PU L) (callN (PU L) n) b_law_many [some x0, some x1] S) := by kernel_rfl
theorem c_law_some_line (L : LDef) (n : Nat) (x0 x1 : D) (S : Ob) : callN (PU L) (n + 1) f_law_some_line [x0, x1] [] S = finS false S (evSs (PU L) (callN (PU L) n) b_law_some_line [some x0, some x1, none] S) := by kernel_rfl
theorem c_backed (L : LDef) (n : Nat) (x0 : D) (S : Ob) : callN (PU L) (n + 1) f_backed [x0] [] S = finS false S (evSs (PU L) (callN (PU L) n) b_backed [some x0, none, none] S) := by kernel_rfl
theorem c_back_table (L : LDef) (n : Nat) (x0 : D) (S : Ob) : callN (PU L) (n + 1) f_back_table [x0] [] S = finS false S (evSs (PU L) (callN (PU L) n) b_back_table [some x0] S) := by kernel_rfl
theorem c_bracket (L : LDef) (n : Nat) (x0 x1 x2 x3 : D) (S : Ob) : callN (PU L) (n + 1) f_bracket [x0, x1, x2, x3] [] S = finS false S (evSs (PU L) (callN (PU L) n) b_bracket [some x0, some x1, some x2, some x3, none] S) := by kernel_rfl
theorem c_law_plus (L : LDef) (n : Nat) (x0 x1 : D) (S : Ob) : callN (PU L) (n + 1) f_law_plus [x0, x1] [] S = finS false S (evSs (PU L) (callN (PU L) n) b_law_plus [some x0, some x1] S) := by kernel_rfl
theorem c_law_merged (L : LDef) (n : Nat) (x0 x1 : D) (S : Ob) : callN (PU L) (n + 1) f_law_merged [x0, x1] [] S = finS false S (evSs (PU L) (callN (PU L) n) b_law_merged [some x0, some x1, none] S) := by kernel_rfl
theorem c_law_minus (L : LDef) (n : Nat) (x0 : D) (S : Ob) : callN (PU L) (n + 1) f_law_minus [x0] [] S = finS false S (evSs (PU L) (callN (PU L) n) b_law_minus [some x0] S) := by kernel_rfl
theorem c_law_off (L : LDef) (n : Nat) (x0 x1 : D) (S : Ob) : callN (PU L) (n + 1) f_law_off [x0, x1] [] S = finS false S (evSs (PU L) (callN (PU L) n) b_law_off [some x0, some x1] S) := by kernel_rfl
theorem c_law_folded (L : LDef) (n : Nat) (x0 x1 x2 : D) (S : Ob) : callN (PU L) (n + 1) f_law_folded [x0, x1, x2] [] S = finS true S (evSs (PU L) (callN (PU L) n) b_law_folded [some x0, some x1, some x2, none, none, none, none, none, none, none] S) := by kernel_rfl
theorem c_law_less_line (L : LDef) (n : Nat) (x0 x1 : D) (S : Ob) : callN (PU L) (n + 1) f_law_less_line [x0, x1] [] S = finS false S (evSs (PU L) (callN (PU L) n) b_law_less_line [some x0, some x1, none, none] S) := by kernel_rfl
theorem c_law_unbound (L : LDef) (n : Nat) (x0 x1 x2 x3 : D) (S : Ob) : callN (PU L) (n + 1) f_law_unbound [x0, x1, x2, x3] [] S = finS false S (evSs (PU L) (callN (PU L) n) b_law_unbound [some x0, some x1, some x2, some x3] S) := by kernel_rfl
theorem c_parts_of (L : LDef) (n : Nat) (x0 : D) (S : Ob) : callN (PU L) (n + 1) f_parts_of [x0] [] S = finS true S (evSs (PU L) (callN (PU L) n) b_parts_of [some x0, none, none, none, none] S) := by kernel_rfl
theorem c_norm_of (L : LDef) (n : Nat) (x0 x1 : D) (S : Ob) : callN (PU L) (n + 1) f_norm_of [x0, x1] [] S = finS false S (evSs (PU L) (callN (PU L) n) b_norm_of [some x0, some x1, none, none, none] S) := by kernel_rfl
theorem c_norm (L : LDef) (n : Nat) (x0 x1 : D) (S : Ob) : callN (PU L) (n + 1) f_norm [x0, x1] [] S = finS false S (evSs (PU L) (callN (PU L) n) b_norm [some x0, some x1] S) := by kernel_rfl
theorem c_table_of_lots (L : LDef) (n : Nat) (x0 x1 : D) (S : Ob) : callN (PU L) (n + 1) f_table_of_lots [x0, x1] [] S = finS false S (evSs (PU L) (callN (PU L) n) b_table_of_lots [some x0, some x1, none] S) := by kernel_rfl
theorem c_unlike_norms (L : LDef) (n : Nat) (x0 : D) (S : Ob) : callN (PU L) (n + 1) f_unlike_norms [x0] [] S = finS false S (evSs (PU L) (callN (PU L) n) b_unlike_norms [some x0] S) := by kernel_rfl
theorem c_law_total (L : LDef) (n : Nat) (x0 : D) (S : Ob) : callN (PU L) (n + 1) f_law_total [x0] [] S = finS false S (evSs (PU L) (callN (PU L) n) b_law_total [some x0, none, none] S) := by kernel_rfl
theorem c_law_is_no (L : LDef) (n : Nat) (x0 : D) (S : Ob) : callN (PU L) (n + 1) f_law_is_no [x0] [] S = finS false S (evSs (PU L) (callN (PU L) n) b_law_is_no [some x0, none] S) := by kernel_rfl
theorem c_law_are_numbers (L : LDef) (n : Nat) (x0 x1 : D) (S : Ob) : callN (PU L) (n + 1) f_law_are_numbers [x0, x1] [] S = finS false S (evSs (PU L) (callN (PU L) n) b_law_are_numbers [some x0, some x1, none] S) := by kernel_rfl
theorem c_law_is_table (L : LDef) (n : Nat) (x0 x1 : D) (S : Ob) : callN (PU L) (n + 1) f_law_is_table [x0, x1] [] S = finS false S (evSs (PU L) (callN (PU L) n) b_law_is_table [some x0, some x1] S) := by kernel_rfl
theorem c_law_parts (L : LDef) (n : Nat) (x0 : D) (S : Ob) : callN (PU L) (n + 1) f_law_parts [x0] [] S = finS true S (evSs (PU L) (callN (PU L) n) b_law_parts [some x0, none, none, none, none] S) := by kernel_rfl
theorem c_law_form (L : LDef) (n : Nat) (x0 x1 x2 : D) (S : Ob) : callN (PU L) (n + 1) f_law_form [x0, x1, x2] [] S = finS false S (evSs (PU L) (callN (PU L) n) b_law_form [some x0, some x1, some x2, none, none, none] S) := by kernel_rfl
theorem c_norm_parts (L : LDef) (n : Nat) (x0 : D) (S : Ob) : callN (PU L) (n + 1) f_norm_parts [x0] [] S = finS false S (evSs (PU L) (callN (PU L) n) b_norm_parts [some x0] S) := by kernel_rfl
theorem c_law_shuffled (L : LDef) (n : Nat) (x0 x1 : D) (S : Ob) : callN (PU L) (n + 1) f_law_shuffled [x0, x1] [] S = finS true S (evSs (PU L) (callN (PU L) n) b_law_shuffled [some x0, some x1, none, none] S) := by kernel_rfl
theorem c_law_some_hard (L : LDef) (n : Nat) (x0 x1 : D) (S : Ob) : callN (PU L) (n + 1) f_law_some_hard [x0, x1] [] S = finS false S (evSs (PU L) (callN (PU L) n) b_law_some_hard [some x0, some x1, none, none, none, none, none] S) := by kernel_rfl
theorem c_law_scaled (L : LDef) (n : Nat) (x0 x1 : D) (S : Ob) : callN (PU L) (n + 1) f_law_scaled [x0, x1] [] S = finS false S (evSs (PU L) (callN (PU L) n) b_law_scaled [some x0, some x1, none] S) := by kernel_rfl
end QL
set_option Elab.async false
set_option linter.all false
set_option maxRecDepth 100000
set_option maxHeartbeats 1000000
/-! QM1: how the evaluator is used: results, loops. -/
namespace QL
open PySem
@[simp] theorem seq_nx (ρ : Env) (S : Ob) (k : Env → Ob → SR) : (SR.nx ρ S).seq k = k ρ S := id rfl
@[simp] theorem seq_rt (d : D) (S : Ob) (k : Env → Ob → SR) : (SR.rt d S).seq k = .rt d S := id rfl
@[simp] theorem seq_bk (ρ : Env) (S : Ob) (k : Env → Ob → SR) : (SR.bk ρ S).seq k = .bk ρ S := id rfl
@[simp] theorem seq_ct (ρ : Env) (S : Ob) (k : Env → Ob → SR) : (SR.ct ρ S).seq k = .ct ρ S := id rfl
@[simp] theorem res_some {α : Type} (a : α) (S : Ob) : Opt.res (some a) S = .ok a S := id rfl
@[simp] theorem mkO_false (d : D) (S : Ob) : mkO false d S = .ok d S := id rfl
@[simp] theorem mkO_lst (xs : List D) (S : Ob) : mkO true (.lst xs) S = .ok (.ref S.length) (S ++ [.lst xs]) := id rfl
@[simp] theorem mkO_dct (ks vs : List D) (S : Ob) : mkO true (.dct ks vs) S = .ok (.ref S.length) (S ++ [.dct ks vs]) := id rfl
@[simp] theorem finS_nx (S0 S : Ob) (ρ : Env) : finS false S0 (.nx ρ S) = .ok .non S := id rfl
@[simp] theorem finS_rt (S0 S : Ob) (d : D) : finS false S0 (.rt d S) = .ok d S := id rfl
@[simp] theorem tg_nm (i : Nat) (d : D) (ρ : Env) : asgTg (.nm i) d ρ = some (ρ.set i (some d)) := by rw [asgTg]
@[simp] theorem tg_tup (ts : List Tg) (ds : List D) (ρ : Env) : asgTg (.tp ts) (.tup ds) ρ = asgTgs ts ds ρ := by rw [asgTg]
@[simp] theorem tg_lst (ts : List Tg) (ds : List D) (ρ : Env) : asgTg (.tp ts) (.lst ds) ρ = asgTgs ts ds ρ := by rw [asgTg]
@[simp] theorem tgs_nil (ρ : Env) : asgTgs [] [] ρ = some ρ := by rw [asgTgs]
@[simp] theorem tgs_cons (t : Tg) (ts : List Tg) (d : D) (ds : List D) (ρ : Env) : asgTgs (t :: ts) (d :: ds) ρ = (asgTg t d ρ).bind (asgTgs ts ds) := by rw [asgTgs]
theorem r_bind {α β : Type} (a : α) (S : Ob) (k : α → Ob → Res β) : (Res.ok a S).bind k = k a S := id rfl
theorem r_bindN {α β : Type} (a : α) (S : Ob) (k : α → Ob → Res β) : (Res.ok a S).bindN k = k a S := id rfl
theorem r_st {α : Type} (ρ : Env) (a : α) (S : Ob) (k : α → Ob → SR) : (Res.ok a S).st ρ k = k a S := id rfl
/-- it comes to a value -/
def Res.To {α : Type} (r : Res α) (Q : α → Ob → Prop) : Prop := match r with
  | .ok a S => Q a S
  | _ => False
theorem Res.To.bind {α β : Type} {r : Res α} {k : α → Ob → Res β} {Q : β → Ob → Prop} (h : r.To fun a S => (k a S).To Q) : (r.bind k).To Q := by
  cases r with
  | ok a S => exact h
  | exc _ _ _ => exact h.elim
  | fail => exact h.elim
theorem Res.To.bindN {α β : Type} {r : Res α} {k : α → Ob → Res β} {Q : β → Ob → Prop} (h : r.To fun a S => (k a S).To Q) : (r.bindN k).To Q := by
  cases r with
  | ok a S => exact h
  | exc _ _ _ => exact h.elim
  | fail => exact h.elim
theorem Res.To.mono {α : Type} {r : Res α} {Q Q' : α → Ob → Prop} (h : r.To Q) (q : ∀ a S, Q a S → Q' a S) : r.To Q' := by
  cases r with
  | ok a S => exact q _ _ h
  | exc _ _ _ => exact h.elim
  | fail => exact h.elim
theorem Res.To.eq {α : Type} {r : Res α} {Q : α → Ob → Prop} (h : r.To Q) : ∃ a S, r = .ok a S ∧ Q a S := by
  cases r with
  | ok a S => exact ⟨a, S, rfl, h⟩
  | exc _ _ _ => exact h.elim
  | fail => exact h.elim
theorem Res.to_ok {α : Type} {a : α} {S : Ob} {Q : α → Ob → Prop} (h : Q a S) : (Res.ok a S).To Q := h
theorem Res.to_eq {α : Type} {r : Res α} {a : α} {S : Ob} {Q : α → Ob → Prop} (e : r = .ok a S) (h : Q a S) : r.To Q := by rw [e]; exact h
/-- a statement comes to an end: next, return (t), break (b), continue (c) -/
def SR.To (r : SR) (n b c : Env → Ob → Prop) (t : D → Ob → Prop) : Prop := match r with
  | .nx ρ S => n ρ S
  | .bk ρ S => b ρ S
  | .ct ρ S => c ρ S
  | .rt d S => t d S
  | _ => False
theorem SR.To.mono {r : SR} {n b c n' b' c' : Env → Ob → Prop} {t t' : D → Ob → Prop} (h : r.To n b c t) (hn : ∀ ρ S, n ρ S → n' ρ S) (hb : ∀ ρ S, b ρ S → b' ρ S) (hc : ∀ ρ S, c ρ S → c' ρ S) (ht : ∀ d S, t d S → t' d S) : r.To n' b' c' t' := by
  cases r <;> first | exact h.elim | skip
  · exact hn _ _ h
  · exact ht _ _ h
  · exact hb _ _ h
  · exact hc _ _ h
theorem SR.To.seq {r : SR} {k : Env → Ob → SR} {n b c : Env → Ob → Prop} {t : D → Ob → Prop} (h : r.To (fun ρ S => (k ρ S).To n b c t) b c t) : (r.seq k).To n b c t := by
  cases r <;> exact h
theorem Res.To.st {α : Type} {r : Res α} {ρ : Env} {k : α → Ob → SR} {n b c : Env → Ob → Prop} {t : D → Ob → Prop} (h : r.To fun a S => (k a S).To n b c t) : (r.st ρ k).To n b c t := by
  cases r with
  | ok a S => exact h
  | exc _ _ _ => exact h.elim
  | fail => exact h.elim
/-- what returns, at a def's end that looks at nothing -/
theorem SR.To.fin {r : SR} {S0 : Ob} {Q : D → Ob → Prop} (h : r.To (fun _ S => Q .non S) (fun _ _ => False) (fun _ _ => False) Q) : (finS false S0 r).To Q := by
  cases r <;> exact h
/-- at a def's end that has as many objects as it began with -/
theorem SR.To.finT {r : SR} {S0 : Ob} {Q : D → Ob → Prop} (h : r.To (fun _ S => S.length = S0.length ∧ Q .non S) (fun _ _ => False) (fun _ _ => False) (fun d S => S.length = S0.length ∧ Q d S)) : (finS true S0 r).To Q := by
  cases r <;> first | exact h.elim | skip
  · show (finD true S0 .non _).To Q
    unfold finD
    dsimp only
    rw [if_pos h.1]
    exact h.2
  · show (finD true S0 _ _).To Q
    unfold finD
    dsimp only
    rw [if_pos h.1]
    exact h.2
theorem finT_nx {ρ : Env} {S S0 : Ob} (h : S.length = S0.length) : finS true S0 (.nx ρ S) = .ok .non S := by
  show finD true S0 .non S = _
  unfold finD
  dsimp only
  rw [if_pos h]
theorem finT_rt {d : D} {S S0 : Ob} (h : S.length = S0.length) : finS true S0 (.rt d S) = .ok d S := by
  show finD true S0 d S = _
  unfold finD
  dsimp only
  rw [if_pos h]
theorem keptOb_self (S T : Ob) : keptOb S.length S (S ++ T) = true := by
  unfold keptOb
  rw [List.take_left, List.all_eq_true]
  intro p hp
  rw [Bool.or_eq_true]
  left
  obtain ⟨i, hi, e⟩ := List.getElem_of_mem hp
  rw [List.getElem_zip] at e
  rw [← e]
  exact decide_eq_true rfl
/-- what the def made is thawed -/
theorem finT_app {v v' : D} {S T : Ob} (ht : thaw S.length (S ++ T) 4 v = some v') (hT : T ≠ []) : finS true S (.rt v (S ++ T)) = .ok v' S := by
  show finD true S v (S ++ T) = _
  unfold finD
  dsimp only
  have : (S ++ T).length ≠ S.length := by
    rw [List.length_append]
    have := List.length_pos_iff.mpr hT
    omega
  rw [if_neg this, keptOb_self, ht]
  simp
/-- pair by pair -/
inductive F2 {α β : Type} (R : α → β → Prop) : List α → List β → Prop
  | nil : F2 R [] []
  | cons {x y xs ys} : R x y → F2 R xs ys → F2 R (x :: xs) (y :: ys)
theorem F2.length {α β : Type} {R : α → β → Prop} : ∀ {xs : List α} {ys : List β}, F2 R xs ys → xs.length = ys.length
  | _, _, .nil => rfl
  | _, _, .cons _ t => congrArg (· + 1) (F2.length t)
/-- all of a kind: they are its codes -/
theorem F2.dec {α β γ : Type} {R : α → β → Prop} {enc : γ → β} {p : γ → Prop} (h : ∀ x y, R x y → ∃ c, y = enc c ∧ p c) : ∀ {xs : List α} {ys : List β}, F2 R xs ys → ∃ cs : List γ, ys = cs.map enc ∧ cs.length = xs.length ∧ ∀ c ∈ cs, p c
  | _, _, .nil => ⟨[], rfl, rfl, fun _ h => nomatch h⟩
  | _, _, .cons r t => by
    obtain ⟨c, e, q⟩ := h _ _ r
    obtain ⟨cs, e1, e2, e3⟩ := F2.dec h t
    exact ⟨c :: cs, by rw [e, e1]; rfl, by simp [e2], fun z hz => by
      rcases List.mem_cons.mp hz with rfl | hz
      · exact q
      · exact e3 z hz⟩
/-! ### comprehensions -/
theorem lcL_fm {gs : List (Nat × AO)} {f : D → Ob → Res (Option D)} (g : D → Option D) {S : Ob} (hg : gdOk gs S = true) : ∀ {xs acc : List D}, (∀ x ∈ xs, f x S = .ok (g x) S) → acc.length + xs.length ≤ lim → lcL gs f xs acc S = .ok (acc ++ xs.filterMap g) S
  | [], acc, _, _ => by
    unfold lcL
    rw [hg]; simp
  | x :: xs, acc, h, hl => by
    unfold lcL
    have h1 : Nat.blt acc.length lim = true := by
      rw [List.length_cons] at hl
      exact Nat.ble_eq_true_of_le (by omega)
    rw [hg, h1, h x List.mem_cons_self]
    simp only [Bool.and_self, if_pos, Res.bindN_ok]
    cases e : g x with
    | none =>
      dsimp only
      rw [lcL_fm g hg (fun y hy => h y (List.mem_cons_of_mem _ hy)) (by rw [List.length_cons] at hl; omega), List.filterMap_cons_none e]
    | some d =>
      dsimp only
      rw [lcL_fm g hg (fun y hy => h y (List.mem_cons_of_mem _ hy)) (by rw [List.length_append, List.length_cons, List.length_nil]; rw [List.length_cons] at hl; omega), List.filterMap_cons_some e]
      simp
theorem lcL_map {α : Type} {gs : List (Nat × AO)} {f : D → Ob → Res (Option D)} {enc : α → D} (g : α → D) {S : Ob} (hg : gdOk gs S = true) {xs : List α} (h : ∀ x ∈ xs, f (enc x) S = .ok (some (g x)) S) (hl : xs.length ≤ lim) : lcL gs f (xs.map enc) [] S = .ok (xs.map g) S := by
  have key : ∀ (ys : List α) (acc : List D), (∀ x ∈ ys, f (enc x) S = .ok (some (g x)) S) → acc.length + ys.length ≤ lim → lcL gs f (ys.map enc) acc S = .ok (acc ++ ys.map g) S := by
    intro ys
    induction ys with
    | nil => intro acc _ _; unfold lcL; simp [hg]
    | cons y ys ih =>
      intro acc h hl
      have h1 : Nat.blt acc.length lim = true := by
        rw [List.length_cons] at hl
        exact Nat.ble_eq_true_of_le (by omega)
      rw [List.map_cons]
      unfold lcL
      rw [hg, h1, h y List.mem_cons_self]
      simp only [Bool.and_self, if_pos, Res.bindN_ok]
      rw [ih _ (fun z hz => h z (List.mem_cons_of_mem _ hz)) (by rw [List.length_append, List.length_cons, List.length_nil]; rw [List.length_cons] at hl; omega)]
      simp
  have := key xs [] h (by simpa using hl)
  simpa using this
/-- with a test -/
theorem lcL_fil {α : Type} {gs : List (Nat × AO)} {f : D → Ob → Res (Option D)} {enc : α → D} (p : α → Bool) (g : α → D) {S : Ob} (hg : gdOk gs S = true) {xs : List α} (h : ∀ x ∈ xs, f (enc x) S = .ok (if p x then some (g x) else none) S) (hl : xs.length ≤ lim) : lcL gs f (xs.map enc) [] S = .ok ((xs.filter p).map g) S := by
  have key : ∀ (ys : List α) (acc : List D), (∀ x ∈ ys, f (enc x) S = .ok (if p x then some (g x) else none) S) → acc.length + ys.length ≤ lim → lcL gs f (ys.map enc) acc S = .ok (acc ++ (ys.filter p).map g) S := by
    intro ys
    induction ys with
    | nil => intro acc _ _; unfold lcL; simp [hg]
    | cons y ys ih =>
      intro acc h hl
      have h1 : Nat.blt acc.length lim = true := by
        rw [List.length_cons] at hl
        exact Nat.ble_eq_true_of_le (by omega)
      rw [List.map_cons]
      unfold lcL
      rw [hg, h1, h y List.mem_cons_self]
      simp only [Bool.and_self, if_pos, Res.bindN_ok]
      cases e : p y with
      | true =>
        simp only [if_pos]
        rw [ih _ (fun z hz => h z (List.mem_cons_of_mem _ hz)) (by rw [List.length_append, List.length_cons, List.length_nil]; rw [List.length_cons] at hl; omega), List.filter_cons_of_pos e]
        simp
      | false =>
        simp only [Bool.false_eq_true, if_false]
        rw [ih _ (fun z hz => h z (List.mem_cons_of_mem _ hz)) (by rw [List.length_cons] at hl; omega), List.filter_cons_of_neg (by simp [e])]
  have := key xs [] h (by simpa using hl)
  simpa using this
/-- where the state goes on -/
theorem lcL_to {gs : List (Nat × AO)} {f : D → Ob → Res (Option D)} (I : Nat → Ob → Prop) (R : D → D → Prop) (B : Nat) (hg : ∀ k S, I k S → gdOk gs S = true) : ∀ {xs acc : List D} {k : Nat} {S : Ob}, (∀ x ∈ xs, ∀ k S, k < B → I k S → (f x S).To fun y S' => ∃ d, y = some d ∧ R x d ∧ I (k + 1) S') → acc.length + xs.length ≤ lim → k + xs.length ≤ B → I k S →
    (lcL gs f xs acc S).To fun ds S' => ∃ es, ds = acc ++ es ∧ F2 R xs es ∧ I (k + xs.length) S'
  | [], acc, k, S, _, _, _, i => by
    unfold lcL
    rw [hg k S i]
    exact ⟨[], by simp, .nil, i⟩
  | x :: xs, acc, k, S, h, hl, hB, i => by
    unfold lcL
    have h1 : Nat.blt acc.length lim = true := by
      rw [List.length_cons] at hl
      exact Nat.ble_eq_true_of_le (by omega)
    rw [List.length_cons] at hB
    rw [hg k S i, h1]
    simp only [Bool.and_self, if_pos]
    refine Res.To.bindN ((h x List.mem_cons_self k S (by omega) i).mono fun y S' ⟨d, e, r, i'⟩ => ?_)
    subst e
    dsimp only
    refine (lcL_to I R B hg (acc := acc ++ [d]) (fun z hz => h z (List.mem_cons_of_mem _ hz)) (by rw [List.length_append, List.length_cons, List.length_nil]; rw [List.length_cons] at hl; omega) (by omega) i').mono fun ds S'' ⟨es, e1, e2, e3⟩ => ?_
    refine ⟨d :: es, by rw [e1]; simp, .cons r e2, ?_⟩
    rw [List.length_cons, show k + (xs.length + 1) = k + 1 + xs.length by omega]
    exact e3
/-! ### loops -/
theorem forL_inv {gs : List (Nat × AO)} {tg : D → Env → Option Env} {body : Env → Ob → SR} (I : Nat → Env → Ob → Prop) {b c : Env → Ob → Prop} {t : D → Ob → Prop} {xs : List D} (hg : ∀ k ρ S, I k ρ S → gdOk gs S = true)
    (hs : ∀ k x ρ S, xs[k]? = some x → I k ρ S → ∃ ρ1, tg x ρ = some ρ1 ∧ (body ρ1 S).To (I (k + 1)) (I xs.length) (I (k + 1)) t) {ρ : Env} {S : Ob} (i : I 0 ρ S) : (forL gs tg body xs ρ S).To (I xs.length) b c t := by
  have key : ∀ (ys : List D) (k : Nat) (ρ : Env) (S : Ob), (∀ j, ys[j]? = xs[k + j]?) → k + ys.length = xs.length → I k ρ S → (forL gs tg body ys ρ S).To (I xs.length) b c t := by
    intro ys
    induction ys with
    | nil =>
      intro k ρ S _ hk i
      unfold forL
      rw [hg k ρ S i]
      simp only [List.length_nil, Nat.add_zero] at hk
      rw [← hk]
      exact i
    | cons y ys ih =>
      intro k ρ S hy hk i
      unfold forL
      rw [hg k ρ S i]
      obtain ⟨ρ1, e1, h1⟩ := hs k y ρ S (by have := hy 0; simpa using this.symm) i
      simp only [if_pos, e1]
      have nxt : ∀ ρ' S', I (k + 1) ρ' S' → (forL gs tg body ys ρ' S').To (I xs.length) b c t := fun ρ' S' i' => ih (k + 1) ρ' S' (fun j => by have := hy (j + 1); rw [List.getElem?_cons_succ] at this; rw [this]; congr 1; omega) (by rw [List.length_cons] at hk; omega) i'
      cases e : body ρ1 S with
      | nx ρ' S' => rw [e] at h1; exact nxt _ _ h1
      | ct ρ' S' => rw [e] at h1; exact nxt _ _ h1
      | bk ρ' S' => rw [e] at h1; exact h1
      | rt d S' => rw [e] at h1; exact h1
      | exc _ _ _ _ => rw [e] at h1; exact h1.elim
      | fail => rw [e] at h1; exact h1.elim
  exact key xs 0 ρ S (fun j => by rw [Nat.zero_add]) (by omega) i
/-- a loop that comes to one end, by what each turn does -/
theorem forL_eq {α : Type} {gs : List (Nat × AO)} {tg : D → Env → Option Env} {body : Env → Ob → SR} (E : α → Env → Prop) {f : α → D → α} {S : Ob} (hg : gdOk gs S = true) : ∀ {xs : List D} {a : α} {ρ : Env}, (∀ a ρ, ∀ x ∈ xs, E a ρ → ∃ ρ1 ρ2, tg x ρ = some ρ1 ∧ body ρ1 S = .nx ρ2 S ∧ E (f a x) ρ2) → E a ρ →
    ∃ ρ', forL gs tg body xs ρ S = .nx ρ' S ∧ E (xs.foldl f a) ρ'
  | [], a, ρ, _, i => ⟨ρ, by unfold forL; rw [hg]; rfl, i⟩
  | x :: xs, a, ρ, h, i => by
    obtain ⟨ρ1, ρ2, e1, e2, i2⟩ := h a ρ x List.mem_cons_self i
    obtain ⟨ρ3, e3, i3⟩ := forL_eq E hg (xs := xs) (fun a ρ y hy => h a ρ y (List.mem_cons_of_mem _ hy)) i2
    refine ⟨ρ3, ?_, i3⟩
    unfold forL
    rw [hg]
    simp only [if_pos, e1, e2, e3]
theorem gdOk_nil (S : Ob) : gdOk [] S = true := rfl
/-- a while: a measure below the fuel -/
theorem whileL_inv {test : Env → Ob → Res D} {body : Env → Ob → SR} (I : Nat → Env → Ob → Prop) {n b c : Env → Ob → Prop} {t : D → Ob → Prop} (hs : ∀ m ρ S, I m ρ S → (test ρ S).To fun d S1 => (d = .bl false ∧ n ρ S1) ∨ (d = .bl true ∧ 0 < m ∧ (body ρ S1).To (I (m - 1)) n (I (m - 1)) t)) : ∀ {fuel m : Nat} {ρ : Env} {S : Ob}, m < fuel → I m ρ S → (whileL test body fuel ρ S).To n b c t
  | 0, m, ρ, S, h, _ => absurd h (Nat.not_lt_zero _)
  | fuel + 1, m, ρ, S, h, i => by
    unfold whileL
    refine Res.To.st ((hs m ρ S i).mono fun d S1 q => ?_)
    rcases q with ⟨rfl, q⟩ | ⟨rfl, hm, q⟩
    · exact q
    · dsimp only
      have nxt : ∀ ρ' S', I (m - 1) ρ' S' → (whileL test body fuel ρ' S').To n b c t := fun ρ' S' i' => whileL_inv I hs (by omega) i'
      cases e : body ρ S1 with
      | nx ρ' S' => rw [e] at q; exact nxt _ _ q
      | ct ρ' S' => rw [e] at q; exact nxt _ _ q
      | bk ρ' S' => rw [e] at q; exact q
      | rt d S' => rw [e] at q; exact q
      | exc _ _ _ _ => rw [e] at q; exact q.elim
      | fail => rw [e] at q; exact q.elim
/-! ### one rule for each form -/
section
variable (P : LProg) (cf : CF)
theorem ev_var (i : Nat) (ρ : Env) (S : Ob) : evE P cf (.var i) ρ S = (match ρ[i]? with
    | some (some d) => .ok d S
    | _ => .fail) := by rw [evE] <;> rfl
theorem ev_cst (d : D) (ρ : Env) (S : Ob) : evE P cf (.cst d) ρ S = .ok d S := by rw [evE]
theorem ev_glb (x : Nat) (ρ : Env) (S : Ob) : evE P cf (.glb x) ρ S = Opt.res (look P.consts x) S := by rw [evE]
theorem ev_tup (es : List LE) (ρ : Env) (S : Ob) : evE P cf (.tup es) ρ S = (evEs P cf es ρ S).bind fun ds S => .ok (.tup ds) S := by rw [evE]
theorem ev_lst (m : Bool) (es : List LE) (ρ : Env) (S : Ob) : evE P cf (.lst m es) ρ S = (evEs P cf es ρ S).bind fun ds S => mkO m (.lst ds) S := by rw [evE]
theorem ev_dic (m : Bool) (kvs : List LE) (ρ : Env) (S : Ob) : evE P cf (.dic m kvs) ρ S = (evPs P cf kvs ρ S).bindN fun ps S => dispO m ps S := by rw [evE]
theorem ev_bin (o : BO) (a b : LE) (ρ : Env) (S : Ob) : evE P cf (.bin o a b) ρ S = (evE P cf a ρ S).bind fun x S => (evE P cf b ρ S).bind fun y S => Opt.res (binD S o x y) S := by rw [evE]
theorem ev_cmp (o : CO) (a b : LE) (ρ : Env) (S : Ob) : evE P cf (.cmp o a b) ρ S = (evE P cf a ρ S).bind fun x S => (evE P cf b ρ S).bind fun y S => Opt.res ((cmpD S o x y).map .bl) S := by rw [evE]
theorem ev_chn (o o' : CO) (a b c : LE) (ρ : Env) (S : Ob) : evE P cf (.chn o o' a b c) ρ S = (evE P cf a ρ S).bind fun x S => (evE P cf b ρ S).bind fun y S => match cmpD S o x y with
    | some true => (evE P cf c ρ S).bind fun z S => Opt.res ((cmpD S o' y z).map .bl) S
    | some false => .ok (.bl false) S
    | none => .fail := by rw [evE] <;> rfl
theorem ev_neg (a : LE) (ρ : Env) (S : Ob) : evE P cf (.neg a) ρ S = (evE P cf a ρ S).bind fun x S => match x with
    | .int i => .ok (.int (-i)) S
    | _ => .fail := by rw [evE] <;> rfl
theorem ev_not (a : LE) (ρ : Env) (S : Ob) : evE P cf (.not a) ρ S = (evE P cf a ρ S).bind fun x S => match x with
    | .bl b => .ok (.bl (!b)) S
    | _ => .fail := by rw [evE] <;> rfl
theorem ev_and (a b : LE) (ρ : Env) (S : Ob) : evE P cf (.and a b) ρ S = (evE P cf a ρ S).bind fun x S => match x with
    | .bl true => evE P cf b ρ S
    | .bl false => .ok (.bl false) S
    | _ => .fail := by rw [evE] <;> rfl
theorem ev_or (a b : LE) (ρ : Env) (S : Ob) : evE P cf (.or a b) ρ S = (evE P cf a ρ S).bind fun x S => match x with
    | .bl true => .ok (.bl true) S
    | .bl false => evE P cf b ρ S
    | _ => .fail := by rw [evE] <;> rfl
theorem ev_ite (c a b : LE) (ρ : Env) (S : Ob) : evE P cf (.ite c a b) ρ S = (evE P cf c ρ S).bind fun x S => match x with
    | .bl true => evE P cf a ρ S
    | .bl false => evE P cf b ρ S
    | _ => .fail := by rw [evE] <;> rfl
theorem ev_ix (a i : LE) (ρ : Env) (S : Ob) : evE P cf (.ix a i) ρ S = (evE P cf a ρ S).bind fun x S => (evE P cf i ρ S).bind fun y S => Opt.res (ixD S x y) S := by rw [evE]
theorem ev_slc (a : LE) (lo hi : Option LE) (ρ : Env) (S : Ob) : evE P cf (.slc a lo hi) ρ S = (evE P cf a ρ S).bind fun x S => ((evO P cf lo ρ S).bind ckI).bind fun l S => ((evO P cf hi ρ S).bind ckI).bind fun h S => match toInt? l, toInt? h with
    | some l, some h => Opt.res (slcD S x l h) S
    | _, _ => .fail := by rw [evE] <;> rfl
theorem ev_call (f : Nat) (es : List LE) (ks : List Nat) (ρ : Env) (S : Ob) : evE P cf (.call f es ks) ρ S = (evEs P cf es ρ S).bind fun ds S => cf f ds ks S := by rw [evE]
theorem ev_blt (m : Bool) (b : Bi) (es : List LE) (ρ : Env) (S : Ob) : evE P cf (.blt m b es) ρ S = (evEs P cf es ρ S).bind fun ds S => (Opt.res (bltD S b ds) S).bind fun d S => mkO m d S := by rw [evE]
theorem ev_mth (m : Me) (o : LE) (es : List LE) (ρ : Env) (S : Ob) : evE P cf (.mth m o es) ρ S = (evE P cf o ρ S).bind fun x S => match rcv m (isG o) (rd S x) with
    | some t => (evEs P cf es ρ S).bind fun ds S => match mthD S t m x ds with
      | some (d, S) => .ok d S
      | none => .fail
    | none => .fail := by rw [evE] <;> rfl
theorem evs_nil (ρ : Env) (S : Ob) : evEs P cf [] ρ S = .ok [] S := by rw [evEs]
theorem evs_cons (e : LE) (es : List LE) (ρ : Env) (S : Ob) : evEs P cf (e :: es) ρ S = (evE P cf e ρ S).bind fun d S => (evEs P cf es ρ S).bind fun ds S => .ok (d :: ds) S := by rw [evEs]
theorem evo_none (ρ : Env) (S : Ob) : evO P cf none ρ S = .ok none S := by rw [evO]
theorem evo_some (e : LE) (ρ : Env) (S : Ob) : evO P cf (some e) ρ S = (evE P cf e ρ S).bind fun d S => .ok (some d) S := by rw [evO]
theorem evc_nil (ρ : Env) (S : Ob) : evC P cf [] ρ S = .ok true S := by rw [evC]
theorem evc_cons (e : LE) (es : List LE) (ρ : Env) (S : Ob) : evC P cf (e :: es) ρ S = (evE P cf e ρ S).bind fun d S => match d with
    | .bl true => evC P cf es ρ S
    | .bl false => .ok false S
    | _ => .fail := by rw [evC] <;> rfl
theorem st_set (i : Nat) (e : LE) (ρ : Env) (S : Ob) : evS P cf (.set i e) ρ S = (evE P cf e ρ S).st ρ fun d S => .nx (ρ.set i (some d)) S := by rw [evS]
theorem st_asg (tg : Tg) (e : LE) (ρ : Env) (S : Ob) : evS P cf (.asg tg e) ρ S = (evE P cf e ρ S).st ρ fun d S => match asgTg tg d ρ with
    | some ρ1 => .nx ρ1 S
    | none => .fail := by rw [evS] <;> rfl
theorem st_seti (o i e : LE) (ρ : Env) (S : Ob) : evS P cf (.seti o i e) ρ S = (evE P cf e ρ S).st ρ fun d S => (evE P cf o ρ S).st ρ fun x S => (evE P cf i ρ S).st ρ fun y S => match setD S x y d with
    | some S => .nx ρ S
    | none => .fail := by rw [evS] <;> rfl
theorem st_aug (i : Nat) (o : BO) (e : LE) (ρ : Env) (S : Ob) : evS P cf (.aug i o e) ρ S = (match ρ[i]? with
    | some (some x) => (evE P cf e ρ S).st ρ fun y S => match augD o x y with
      | some z => .nx (ρ.set i (some z)) S
      | none => .fail
    | _ => .fail) := by rw [evS] <;> rfl
theorem st_expr (e : LE) (ρ : Env) (S : Ob) : evS P cf (.expr e) ρ S = (evE P cf e ρ S).st ρ fun _ S => .nx ρ S := by rw [evS]
theorem st_ret (e : LE) (ρ : Env) (S : Ob) : evS P cf (.ret e) ρ S = (evE P cf e ρ S).st ρ fun d S => .rt d S := by rw [evS]
theorem st_retN (ρ : Env) (S : Ob) : evS P cf .retN ρ S = .rt .non S := by rw [evS]
theorem st_ite (c : LE) (a b : List LS) (ρ : Env) (S : Ob) : evS P cf (.ite c a b) ρ S = (evE P cf c ρ S).st ρ fun t S => match t with
    | .bl true => evSs P cf a ρ S
    | .bl false => evSs P cf b ρ S
    | _ => .fail := by rw [evS] <;> rfl
theorem st_brk (ρ : Env) (S : Ob) : evS P cf .brk ρ S = .bk ρ S := by rw [evS]
theorem st_cont (ρ : Env) (S : Ob) : evS P cf .cont ρ S = .ct ρ S := by rw [evS]
theorem st_pass (ρ : Env) (S : Ob) : evS P cf .pass ρ S = .nx ρ S := by rw [evS]
theorem sts_nil (ρ : Env) (S : Ob) : evSs P cf [] ρ S = .nx ρ S := by rw [evSs]
theorem sts_cons (s : LS) (ss : List LS) (ρ : Env) (S : Ob) : evSs P cf (s :: ss) ρ S = (evS P cf s ρ S).seq fun ρ S => evSs P cf ss ρ S := by rw [evSs]
end
section
variable {P : LProg} {cf : CF} {α : Type} {tg tg2 : Tg} {w w2 : It1} {it it2 ifs ifs2 : List LE} {e k : LE} {own own2 : List Nat} {ρ : Env} {S : Ob} {xs : List D}
theorem ok_iteT {α : Type} {a b : Res α} : (if true = true then a else b) = a := rfl
theorem ok_iteF {α : Type} {a b : Res α} : (if false = true then a else b) = b := rfl
/-- a comprehension that changes nothing -/
theorem ev_lcF (enc : α → D) (p : α → Bool) (g : α → D) {ys : List α} (h1 : evEs P cf it ρ S = .ok xs S) (h2 : itD S w xs = some (ys.map enc)) (h3 : guards S xs = []) (h4 : ∀ y ∈ ys, ∃ ρ1, asgTg tg (enc y) (wipeE ρ own) = some ρ1 ∧ evC P cf ifs ρ1 S = .ok (p y) S ∧ (p y = true → evE P cf e ρ1 S = .ok (g y) S)) (hl : ys.length ≤ lim) :
    evE P cf (.lc false tg w it ifs e own) ρ S = .ok (.lst ((ys.filter p).map g)) S := by
  rw [evE, h1, itOf, Res.bind_ok, h2, h3]
  dsimp only
  rw [Res.bind_ok]
  dsimp only
  rw [lcL_fil p g (gdOk_nil S) (fun y hy => ?_) hl]
  · rfl
  · obtain ⟨ρ1, e1, e2, e3⟩ := h4 y hy
    rw [e1]
    dsimp only
    rw [e2, Res.bind_ok]
    cases hp : p y with
    | true => rw [ok_iteT, e3 hp]; rfl
    | false => rfl
theorem ev_lcM (enc : α → D) (g : α → D) {ys : List α} (h1 : evEs P cf it ρ S = .ok xs S) (h2 : itD S w xs = some (ys.map enc)) (h3 : guards S xs = []) (h4 : ∀ y ∈ ys, ∃ ρ1, asgTg tg (enc y) (wipeE ρ own) = some ρ1 ∧ evC P cf ifs ρ1 S = .ok true S ∧ evE P cf e ρ1 S = .ok (g y) S) (hl : ys.length ≤ lim) :
    evE P cf (.lc false tg w it ifs e own) ρ S = .ok (.lst (ys.map g)) S := by
  rw [ev_lcF enc (fun _ => true) g h1 h2 h3 (fun y hy => by obtain ⟨ρ1, a, b, c⟩ := h4 y hy; exact ⟨ρ1, a, b, fun _ => c⟩) hl, List.filter_eq_self.mpr fun _ _ => rfl]
/-- a comprehension whose turns change the state -/
theorem ev_lcT (I : Nat → Ob → Prop) (R : D → D → Prop) {xs ys : List D} {n : Nat} (h1 : evEs P cf it ρ S = .ok xs S) (h2 : itD S w xs = some ys) (h3 : guards S xs = []) (h4 : ∀ y ∈ ys, ∃ ρ1, asgTg tg y (wipeE ρ own) = some ρ1 ∧ ∀ k S, k < n + ys.length → I k S → evC P cf ifs ρ1 S = .ok true S ∧ (evE P cf e ρ1 S).To fun d S' => R y d ∧ I (k + 1) S') (hl : ys.length ≤ lim) (i : I n S) :
    (evE P cf (.lc false tg w it ifs e own) ρ S).To fun d S' => ∃ es, d = .lst es ∧ F2 R ys es ∧ I (n + ys.length) S' := by
  rw [evE, h1, itOf, Res.bind_ok, h2, h3]
  dsimp only
  rw [Res.bind_ok]
  dsimp only
  refine Res.To.bind ((lcL_to (acc := []) I R (n + ys.length) (fun _ S _ => gdOk_nil S) (fun y hy k S hk i => ?_) (by simpa using hl) (Nat.le_refl _) i).mono fun ds S' ⟨es, e1, e2, e3⟩ => ⟨es, by rw [e1]; rfl, e2, e3⟩)
  obtain ⟨ρ1, a, h⟩ := h4 y hy
  obtain ⟨b, c⟩ := h k S hk i
  rw [a]
  dsimp only
  rw [b, Res.bind_ok, ok_iteT]
  exact Res.To.bind (c.mono fun d S' q => ⟨d, rfl, q.1, q.2⟩)
/-- a for, by what holds between two turns -/
theorem st_for {b : List LS} (I : Nat → Env → Ob → Prop) {bk c : Env → Ob → Prop} {t : D → Ob → Prop} {xs ys : List D} (h1 : evEs P cf it ρ S = .ok xs S) (h2 : itD S w xs = some ys) (h3 : guards S xs = [])
    (h4 : ∀ k y ρ S, ys[k]? = some y → I k ρ S → ∃ ρ1, asgTg tg y ρ = some ρ1 ∧ (evSs P cf b ρ1 S).To (I (k + 1)) (I ys.length) (I (k + 1)) t) (i : I 0 ρ S) : (evS P cf (.forr tg w it b) ρ S).To (I ys.length) bk c t := by
  rw [evS, h1, itOf, Res.bind_ok, h2, h3]
  dsimp only
  rw [Res.st_ok]
  exact forL_inv I (fun _ _ _ _ => rfl) h4 i
/-- the same over coded things -/
theorem st_forC {b : List LS} {ys : List α} (enc : α → D) (I : Nat → Env → Ob → Prop) {bk c : Env → Ob → Prop} {t : D → Ob → Prop} {xs : List D} (h1 : evEs P cf it ρ S = .ok xs S) (h2 : itD S w xs = some (ys.map enc)) (h3 : guards S xs = [])
    (h4 : ∀ k y ρ S, ys[k]? = some y → I k ρ S → ∃ ρ1, asgTg tg (enc y) ρ = some ρ1 ∧ (evSs P cf b ρ1 S).To (I (k + 1)) (I ys.length) (I (k + 1)) t) (i : I 0 ρ S) : (evS P cf (.forr tg w it b) ρ S).To (I ys.length) bk c t := by
  have := st_for (tg := tg) (w := w) (bk := bk) (c := c) I h1 h2 h3 (fun k y ρ S hy q => by
    rw [List.getElem?_map] at hy
    cases e : ys[k]? with
    | none => rw [e] at hy; cases hy
    | some z =>
      rw [e] at hy
      cases hy
      rw [List.length_map]
      exact h4 k z ρ S e q) i
  rw [List.length_map] at this
  exact this
theorem Res.To.toEq {α : Type} {r : Res α} {a : α} {S : Ob} (h : r.To fun d S' => d = a ∧ S' = S) : r = .ok a S := by
  obtain ⟨d, S', e, rfl, rfl⟩ := h.eq
  exact e
end
end QL
set_option Elab.async false
set_option linter.all false
set_option maxRecDepth 100000
set_option maxHeartbeats 1000000
set_option exponentiation.threshold 20000
/-! QM2: numbers. -/
namespace QL
open PySem
/-- a number as data -/
def nm (q : Rat) : D := .tup [.int q.num, .int q.den]
theorem log2_le {n k : Nat} (h : n < 2 ^ (k + 1)) : n.log2 ≤ k := by
  by_cases h0 : n = 0
  · subst h0; simp
  · have := (Nat.log2_lt h0).mpr h
    omega
/-- small enough for all sums and products -/
def Sm (n : Nat) : Prop := n < 2 ^ 4400
theorem Sm.le {a b : Nat} (h : Sm b) (l : a ≤ b) : Sm a := Nat.lt_of_le_of_lt l h
theorem mulOk_of {i j : Int} (hi : i.natAbs < 2 ^ 9000) (hj : j.natAbs < 2 ^ 9000) : mulOk i j = true := by
  unfold mulOk
  have := log2_le (k := 8999) hi
  have := log2_le (k := 8999) hj
  exact Nat.ble_eq_true_of_le (by omega)
theorem pow_add44 : 2 ^ 4400 * 2 ^ 4400 ≤ 2 ^ 9000 := by
  rw [← Nat.pow_add]; exact Nat.pow_le_pow_right (by decide) (by decide)
theorem pow_44 : (2 : Nat) ^ 4400 ≤ 2 ^ 9000 := Nat.pow_le_pow_right (by decide) (by decide)
theorem Sm.big {n : Nat} (h : Sm n) : n < 2 ^ 9000 := Nat.lt_of_lt_of_le h pow_44
theorem Sm.mul {a b : Nat} (ha : Sm a) (hb : Sm b) : a * b < 2 ^ 9000 :=
  Nat.lt_of_lt_of_le (Nat.mul_lt_mul'' ha hb) pow_add44
theorem mulSm {i j : Int} (hi : Sm i.natAbs) (hj : Sm j.natAbs) : mulOk i j = true := mulOk_of hi.big hj.big
theorem divOk_of {j : Int} (h0 : j ≠ 0) (h : j.natAbs < 2 ^ 9000) : divOk j = true := by
  unfold divOk
  have := log2_le (k := 8999) h
  rw [Bool.and_eq_true]
  exact ⟨decide_eq_true h0, Nat.ble_eq_true_of_le this⟩
/-! ### a fraction of M parts, at most V of them -/
def Fr (M V : Nat) (q : Rat) : Prop := 0 < M ∧ ∃ z : Int, q = mkRat z M ∧ z.natAbs ≤ V
theorem Fr.den {M V : Nat} {q : Rat} (h : Fr M V q) : q.den ≤ M := by
  obtain ⟨h0, z, e, hz⟩ := h
  rw [e, Rat.den_mkRat, if_neg (by omega)]
  exact Nat.div_le_self _ _
theorem Fr.num {M V : Nat} {q : Rat} (h : Fr M V q) : q.num.natAbs ≤ V := by
  obtain ⟨h0, z, e, hz⟩ := h
  rw [e, Rat.num_mkRat, if_neg (by omega)]
  have : (z / ((M.gcd z.natAbs : Nat) : Int)).natAbs ≤ z.natAbs := by
    have hd : ((M.gcd z.natAbs : Nat) : Int) ∣ z := Int.ofNat_dvd_left.mpr (Nat.gcd_dvd_right _ _)
    rw [Int.natAbs_ediv_of_dvd hd]
    exact Nat.div_le_self _ _
  omega
theorem Fr.mono {M V V' : Nat} {q : Rat} (h : Fr M V q) (l : V ≤ V') : Fr M V' q := by
  obtain ⟨h0, z, e, hz⟩ := h
  exact ⟨h0, z, e, Nat.le_trans hz l⟩
theorem Fr.scale {M V : Nat} {q : Rat} (h : Fr M V q) (k : Nat) (hk : 0 < k) : Fr (M * k) (V * k) q := by
  obtain ⟨h0, z, e, hz⟩ := h
  refine ⟨Nat.mul_pos h0 hk, z * k, ?_, ?_⟩
  · rw [e, Rat.mkRat_mul_right (by omega)]
  · rw [Int.natAbs_mul, Int.natAbs_natCast]; exact Nat.mul_le_mul_right _ hz
theorem Fr.add {M V V' : Nat} {p q : Rat} (h : Fr M V p) (h' : Fr M V' q) : Fr M (V + V') (p + q) := by
  obtain ⟨h0, z, e, hz⟩ := h
  obtain ⟨_, z', e', hz'⟩ := h'
  refine ⟨h0, z + z', ?_, by omega⟩
  rw [e, e', Rat.mkRat_add_mkRat _ _ (by omega) (by omega), ← Int.add_mul, Rat.mkRat_mul_right (by omega)]
theorem Fr.mul {M M' V V' : Nat} {p q : Rat} (h : Fr M V p) (h' : Fr M' V' q) : Fr (M * M') (V * V') (p * q) := by
  obtain ⟨h0, z, e, hz⟩ := h
  obtain ⟨h0', z', e', hz'⟩ := h'
  refine ⟨Nat.mul_pos h0 h0', z * z', ?_, ?_⟩
  · rw [e, e', Rat.mkRat_mul_mkRat]
  · rw [Int.natAbs_mul]; exact Nat.mul_le_mul hz hz'
theorem Fr.neg {M V : Nat} {q : Rat} (h : Fr M V q) : Fr M V (-q) := by
  obtain ⟨h0, z, e, hz⟩ := h
  exact ⟨h0, -z, by rw [e, Rat.neg_mkRat], by omega⟩
theorem Fr.zero {M : Nat} (h : 0 < M) : Fr M 0 0 := ⟨h, 0, by simp, by simp⟩
theorem Fr.int (z : Int) : Fr 1 z.natAbs z := ⟨by decide, z, (Rat.mkRat_self (z : Rat)).symm, Nat.le_refl _⟩
theorem Fr.smd {M V : Nat} {q : Rat} (h : Fr M V q) (s : Sm M) : Sm ((q.den : Int)).natAbs := by
  rw [Int.natAbs_natCast]; exact s.le h.den
theorem Fr.smn {M V : Nat} {q : Rat} (h : Fr M V q) (s : Sm V) : Sm q.num.natAbs := s.le h.num
/-! ### the defs -/
section
variable (L : LDef)
theorem gcd_split {u l : Int} (hl : l ≠ 0) : ∃ (g k m : Int), 0 < g ∧ ((Nat.gcd u.natAbs l.natAbs : Nat) : Int) = g ∧ u = g * k ∧ l = g * m ∧ Int.gcd l u = g.toNat ∧ g.natAbs ≤ l.natAbs ∧ (0 < l → 0 < m) ∧ (l < 0 → m < 0) := by
  have gp : 0 < Nat.gcd u.natAbs l.natAbs := Nat.gcd_pos_of_pos_right _ (by omega)
  have d1 : ((Nat.gcd u.natAbs l.natAbs : Nat) : Int) ∣ u := Int.ofNat_dvd_left.mpr (Nat.gcd_dvd_left _ _)
  have d2 : ((Nat.gcd u.natAbs l.natAbs : Nat) : Int) ∣ l := Int.ofNat_dvd_left.mpr (Nat.gcd_dvd_right _ _)
  obtain ⟨k, hk⟩ := d1
  obtain ⟨m, hm⟩ := d2
  refine ⟨_, k, m, by omega, rfl, hk, hm, ?_, ?_, fun h => ?_, fun h => ?_⟩
  · rw [Int.gcd_comm]; simp [Int.gcd]
  · rw [Int.natAbs_natCast]; exact Nat.gcd_le_right _ (by omega)
  · rw [hm] at h; exact Int.pos_of_mul_pos_right h (by omega) 
  · rw [hm] at h
    by_cases h0 : m < 0
    · exact h0
    · have := Int.mul_nonneg (show (0 : Int) ≤ ((Nat.gcd u.natAbs l.natAbs : Nat) : Int) by omega) (show 0 ≤ m by omega)
      omega
theorem number_ok (n : Nat) {u l : Int} (hl : l ≠ 0) (h : l.natAbs < 2 ^ 9000) (S : Ob) : callN (PU L) (n + 1) f_number [.int u, .int l] [] S = .ok (nm (Rat.divInt u l)) S := by
  obtain ⟨g, k, m, g0, eg, hu, hm, hg, hle, hp, hn⟩ := gcd_split (u := u) hl
  have d1 : divOk g = true := divOk_of (by omega) (by omega)
  have d2 : divOk (0 - g) = true := divOk_of (by omega) (by omega)
  have e1 : (Rat.divInt u l).num = l.sign * u / g := by
    rw [Rat.num_divInt, hg, Int.toNat_of_nonneg (by omega)]
  have e2 : ((Rat.divInt u l).den : Int) = l.natAbs / g := by
    rw [Rat.den_divInt, if_neg hl, hg, Int.natCast_ediv, Int.toNat_of_nonneg (by omega)]
  rw [c_number, b_number]
  by_cases h0 : 0 < l
  · simp only [ev_var, ev_cst, ev_glb, ev_tup, ev_lst, ev_dic, ev_bin, ev_cmp, ev_chn, ev_neg, ev_not, ev_and, ev_or, ev_ite, ev_ix, ev_slc, ev_call, ev_blt, ev_mth, evs_nil, evs_cons, evo_none, evo_some, evc_nil, evc_cons, st_set, st_asg, st_seti, st_aug, st_expr, st_ret, st_retN, st_ite, st_brk, st_cont, st_pass, sts_nil, sts_cons, finS_nx, finS_rt, tg_nm, tg_tup, tg_lst, tgs_nil, tgs_cons, wipeE, itOf, itD, rd, res_some, mkO_false, mkO_lst, mkO_dct, bltD, toInt?, ckI, List.getElem?_cons_zero, List.getElem?_cons_succ, List.set_cons_zero, List.set_cons_succ, r_bind, r_bindN, r_st, seq_nx, seq_rt, seq_bk, seq_ct, List.length_cons, List.length_nil, if_true, if_false, ite_true, ite_false, reduceIte, Bool.false_eq_true, Option.map_some, Option.bind_some, cmpD, h0, decide_true, binD, eg, d1]
    rw [nm, e1, e2, Int.sign_eq_one_of_pos h0, Int.one_mul, Int.natAbs_of_nonneg (by omega), Int.fdiv_eq_ediv_of_nonneg _ (by omega), Int.fdiv_eq_ediv_of_nonneg _ (by omega)]
  · have h1 : l < 0 := by omega
    simp only [ev_var, ev_cst, ev_glb, ev_tup, ev_lst, ev_dic, ev_bin, ev_cmp, ev_chn, ev_neg, ev_not, ev_and, ev_or, ev_ite, ev_ix, ev_slc, ev_call, ev_blt, ev_mth, evs_nil, evs_cons, evo_none, evo_some, evc_nil, evc_cons, st_set, st_asg, st_seti, st_aug, st_expr, st_ret, st_retN, st_ite, st_brk, st_cont, st_pass, sts_nil, sts_cons, finS_nx, finS_rt, tg_nm, tg_tup, tg_lst, tgs_nil, tgs_cons, wipeE, itOf, itD, rd, res_some, mkO_false, mkO_lst, mkO_dct, bltD, toInt?, ckI, List.getElem?_cons_zero, List.getElem?_cons_succ, List.set_cons_zero, List.set_cons_succ, r_bind, r_bindN, r_st, seq_nx, seq_rt, seq_bk, seq_ct, List.length_cons, List.length_nil, if_true, if_false, ite_true, ite_false, reduceIte, Bool.false_eq_true, Option.map_some, Option.bind_some, cmpD, h0, decide_false, binD, eg, d2]
    rw [nm, e1, e2, Int.sign_eq_neg_one_of_neg h1, Int.ofNat_natAbs_of_nonpos (by omega)]
    have a1 : u.fdiv (0 - g) = -1 * u / g := by
      rw [hu, show g * k = (0 - g) * (-k) by grind, Int.mul_fdiv_cancel_left _ (by omega), show -1 * ((0 - g) * -k) = g * (-k) by grind, Int.mul_ediv_cancel_left _ (by omega)]
    have a2 : l.fdiv (0 - g) = -l / g := by
      rw [hm, show g * m = (0 - g) * (-m) by grind, Int.mul_fdiv_cancel_left _ (by omega), show -((0 - g) * -m) = g * (-m) by grind, Int.mul_ediv_cancel_left _ (by omega)]
    rw [a1, a2]
theorem ix0 (S : Ob) (q : Rat) : ixD S (nm q) (.int 0) = some (.int q.num) := rfl
theorem ix1 (S : Ob) (q : Rat) : ixD S (nm q) (.int 1) = some (.int q.den) := rfl
theorem den_ne (q : Rat) : (q.den : Int) ≠ 0 := by have := q.den_pos; omega
theorem divInt_add (p q : Rat) : Rat.divInt (p.num * q.den + q.num * p.den) (p.den * q.den) = p + q := by
  rw [Rat.add_def', show (p.den : Int) * q.den = ((p.den * q.den : Nat) : Int) by rw [Int.natCast_mul], Rat.divInt_ofNat]
theorem divInt_mul (p q : Rat) : Rat.divInt (p.num * q.num) (p.den * q.den) = p * q := by
  rw [Rat.mul_def', show (p.den : Int) * q.den = ((p.den * q.den : Nat) : Int) by rw [Int.natCast_mul], Rat.divInt_ofNat]
theorem den_prod {p q : Rat} (hp : Sm (p.den : Int).natAbs) (hq : Sm (q.den : Int).natAbs) : (((p.den : Int) * q.den)).natAbs < 2 ^ 9000 := by
  rw [Int.natAbs_mul]; exact Sm.mul hp hq
theorem prod_ne (p q : Rat) : (p.den : Int) * q.den ≠ 0 := Int.mul_ne_zero (den_ne p) (den_ne q)
/-- a small number -/
def SmQ (q : Rat) : Prop := Sm q.num.natAbs ∧ Sm (q.den : Int).natAbs
theorem Fr.sm {M V : Nat} {q : Rat} (h : Fr M V q) (hM : Sm M) (hV : Sm V) : SmQ q := ⟨h.smn hV, h.smd hM⟩
theorem plus_ok (n : Nat) {p q : Rat} (hp : SmQ p) (hq : SmQ q) (S : Ob) : callN (PU L) (n + 2) f_plus [nm p, nm q] [] S = .ok (nm (p + q)) S := by
  rw [c_plus, b_plus]
  simp only [ev_var, ev_cst, ev_glb, ev_tup, ev_lst, ev_dic, ev_bin, ev_cmp, ev_chn, ev_neg, ev_not, ev_and, ev_or, ev_ite, ev_ix, ev_slc, ev_call, ev_blt, ev_mth, evs_nil, evs_cons, evo_none, evo_some, evc_nil, evc_cons, st_set, st_asg, st_seti, st_aug, st_expr, st_ret, st_retN, st_ite, st_brk, st_cont, st_pass, sts_nil, sts_cons, finS_nx, finS_rt, tg_nm, tg_tup, tg_lst, tgs_nil, tgs_cons, wipeE, itOf, itD, rd, res_some, mkO_false, mkO_lst, mkO_dct, bltD, toInt?, ckI, List.getElem?_cons_zero, List.getElem?_cons_succ, List.set_cons_zero, List.set_cons_succ, r_bind, r_bindN, r_st, seq_nx, seq_rt, seq_bk, seq_ct, List.length_cons, List.length_nil, if_true, if_false, ite_true, ite_false, reduceIte, Bool.false_eq_true, Option.map_some, Option.bind_some, ix0, ix1, binD, mulSm hp.1 hq.2, mulSm hq.1 hp.2, mulSm hp.2 hq.2]
  rw [number_ok L n (prod_ne p q) (den_prod hp.2 hq.2), divInt_add]
  rfl
theorem times_ok (n : Nat) {p q : Rat} (hp : SmQ p) (hq : SmQ q) (S : Ob) : callN (PU L) (n + 2) f_times [nm p, nm q] [] S = .ok (nm (p * q)) S := by
  rw [c_times, b_times]
  simp only [ev_var, ev_cst, ev_glb, ev_tup, ev_lst, ev_dic, ev_bin, ev_cmp, ev_chn, ev_neg, ev_not, ev_and, ev_or, ev_ite, ev_ix, ev_slc, ev_call, ev_blt, ev_mth, evs_nil, evs_cons, evo_none, evo_some, evc_nil, evc_cons, st_set, st_asg, st_seti, st_aug, st_expr, st_ret, st_retN, st_ite, st_brk, st_cont, st_pass, sts_nil, sts_cons, finS_nx, finS_rt, tg_nm, tg_tup, tg_lst, tgs_nil, tgs_cons, wipeE, itOf, itD, rd, res_some, mkO_false, mkO_lst, mkO_dct, bltD, toInt?, ckI, List.getElem?_cons_zero, List.getElem?_cons_succ, List.set_cons_zero, List.set_cons_succ, r_bind, r_bindN, r_st, seq_nx, seq_rt, seq_bk, seq_ct, List.length_cons, List.length_nil, if_true, if_false, ite_true, ite_false, reduceIte, Bool.false_eq_true, Option.map_some, Option.bind_some, ix0, ix1, binD, mulSm hp.1 hq.1, mulSm hp.2 hq.2]
  rw [number_ok L n (prod_ne p q) (den_prod hp.2 hq.2), divInt_mul]
  rfl
theorem minus_ok (n : Nat) (q : Rat) (S : Ob) : callN (PU L) (n + 1) f_minus [nm q] [] S = .ok (nm (-q)) S := by
  rw [c_minus, b_minus]
  simp only [ev_var, ev_cst, ev_glb, ev_tup, ev_lst, ev_dic, ev_bin, ev_cmp, ev_chn, ev_neg, ev_not, ev_and, ev_or, ev_ite, ev_ix, ev_slc, ev_call, ev_blt, ev_mth, evs_nil, evs_cons, evo_none, evo_some, evc_nil, evc_cons, st_set, st_asg, st_seti, st_aug, st_expr, st_ret, st_retN, st_ite, st_brk, st_cont, st_pass, sts_nil, sts_cons, finS_nx, finS_rt, tg_nm, tg_tup, tg_lst, tgs_nil, tgs_cons, wipeE, itOf, itD, rd, res_some, mkO_false, mkO_lst, mkO_dct, bltD, toInt?, ckI, List.getElem?_cons_zero, List.getElem?_cons_succ, List.set_cons_zero, List.set_cons_succ, r_bind, r_bindN, r_st, seq_nx, seq_rt, seq_bk, seq_ct, List.length_cons, List.length_nil, if_true, if_false, ite_true, ite_false, reduceIte, Bool.false_eq_true, Option.map_some, Option.bind_some, ix0, ix1, binD]
  rw [nm, Rat.neg_num, Rat.neg_den, Int.zero_sub]
theorem is_whole_int (n : Nat) (i : Int) (S : Ob) : callN (PU L) (n + 1) f_is_whole [.int i] [] S = .ok (.bl true) S := rfl
theorem is_number_ok (n : Nat) (q : Rat) (S : Ob) : callN (PU L) (n + 2) f_is_number [nm q] [] S = .ok (.bl true) S := by
  have e1 : decide ((0 : Int) < q.den) = true := decide_eq_true (by have := q.den_pos; omega)
  have e2 : ((q.num.natAbs.gcd (q.den : Int).natAbs : Nat) : Int) = 1 := by rw [Int.natAbs_natCast, q.reduced]; rfl
  rw [c_is_number, b_is_number]
  have e0 : ∀ i : Int, callN (PU L) (n + 1) f_is_whole [.int i] [] S = .ok (.bl true) S := fun i => rfl
  have b1 : bltD S .isi [nm q, .ty .tuple] = some (.bl true) := rfl
  have b2 : itD S .val [nm q] = some [.int q.num, .int q.den] := rfl
  have b3 : bltD S .len [nm q] = some (.int 2) := rfl
  have c1 : cmpD S .ne (.int 2) (.int 2) = some false := rfl
  have g0 : guards S [nm q] = [] := rfl
  have b4 : bltD S .all [.lst [.bl true, .bl true]] = some (.bl true) := rfl
  have b5 : bltD S .gcd [.int q.num, .int q.den] = some (.int 1) := by rw [← e2]; rfl
  have c2 : cmpD S .gt (.int q.den) (.int 0) = some true := by show some (decide ((0 : Int) < q.den)) = _; rw [e1]
  have c3 : cmpD S .eq (.int 1) (.int 1) = some true := rfl
  have l0 : Nat.blt 0 lim = true := rfl
  have l1 : Nat.blt (0 + 1) lim = true := rfl
  simp only [evE, evEs, evC, evS, evSs, finS_rt, finS_nx, itOf, tg_nm, wipeE, l0, l1, b1, b2, b3, b4, b5, c1, c2, c3, g0, e0, ix0, ix1, lcL, gdOk_nil, res_some, mkO_false, r_bind, r_bindN, r_st, seq_nx, seq_rt, Option.map_some, List.getElem?_cons_zero, List.getElem?_cons_succ, List.set_cons_zero, List.set_cons_succ, List.length_nil, List.length_cons, Bool.not_true, Bool.true_and, List.nil_append, List.cons_append, if_true]
/-! ### the law's own numbers -/
theorem fmod_sign {a b : Int} (h : b ≠ 0) : (0 < b → 0 ≤ a.fmod b ∧ a.fmod b < b) ∧ (b < 0 → b < a.fmod b ∧ a.fmod b ≤ 0) := by
  refine ⟨fun q => ⟨Int.fmod_nonneg_of_pos _ q, Int.fmod_lt_of_pos _ q⟩, fun q => ?_⟩
  have h1 := Int.fmod_nonneg_of_pos (a := -a) (b := -b) (by omega)
  have h2 := Int.fmod_lt_of_pos (-a) (b := -b) (by omega)
  have h3 : (-a).fmod (-b) = -(a.fmod b) := Int.neg_fmod_neg a b
  omega
theorem gcd_fmod (a b : Int) : Int.gcd b (a.fmod b) = Int.gcd a b := by
  have h : a.fmod b = a - b * a.fdiv b := Int.fmod_def a b
  rw [h, Int.gcd_comm, Int.gcd_sub_mul_left_left]
theorem fmod_le {a b : Int} (h : 0 < b) (l : b ≤ a) : a.fmod b ≤ a - b := by
  have h0 := (fmod_sign (a := a) (b := b) (by omega)).1 h
  have h1 : a.fmod b = a - b * a.fdiv b := Int.fmod_def a b
  have hq : 1 ≤ a.fdiv b := by
    by_cases q : 1 ≤ a.fdiv b
    · exact q
    · have : b * a.fdiv b ≤ b * 0 := Int.mul_le_mul_of_nonneg_left (by omega) (by omega)
      omega
  have : b * 1 ≤ b * a.fdiv b := Int.mul_le_mul_of_nonneg_left hq (by omega)
  omega
theorem fmod_ge {a b : Int} (h : b < 0) (l : a ≤ b) : a - b ≤ a.fmod b := by
  have h1 := fmod_le (a := -a) (b := -b) (by omega) (by omega)
  have h2 : (-a).fmod (-b) = -(a.fmod b) := Int.neg_fmod_neg a b
  omega
/-- where the law's loop stands -/
def Eu (m : Nat) (a b : Int) : Prop := b = 0 ∨ (((0 < b ∧ b ≤ a) ∨ (b < 0 ∧ a ≤ b)) ∧ a.natAbs * b.natAbs < 2 ^ m) ∨ (0 < m ∧ b.natAbs * b.natAbs < 2 ^ (m - 1))
theorem Eu.step {m : Nat} {a b : Int} (h : Eu m a b) (hb : b ≠ 0) : 0 < m ∧ Eu (m - 1) b (a.fmod b) := by
  obtain ⟨s1, s2⟩ := fmod_sign (a := a) hb
  rcases h with h | ⟨h, l⟩ | ⟨h, l⟩
  · exact absurd h hb
  · have hm : 0 < m := by
      cases m with
      | zero =>
        have : 1 * 1 ≤ a.natAbs * b.natAbs := Nat.mul_le_mul (by omega) (by omega)
        omega
      | succ m => omega
    refine ⟨hm, ?_⟩
    by_cases r0 : a.fmod b = 0
    · exact .inl r0
    · refine .inr (.inl ⟨by omega, ?_⟩)
      have key : 2 * (a.fmod b).natAbs ≤ a.natAbs := by
        rcases h with ⟨h1, h2⟩ | ⟨h1, h2⟩
        · have := fmod_le h1 h2
          omega
        · have := fmod_ge h1 h2
          omega
      have k2 : b.natAbs * (2 * (a.fmod b).natAbs) ≤ b.natAbs * a.natAbs := Nat.mul_le_mul_left _ key
      obtain ⟨m, rfl⟩ : ∃ k, m = k + 1 := ⟨m - 1, by omega⟩
      rw [Nat.add_sub_cancel]
      rw [Nat.pow_succ, Nat.mul_comm a.natAbs] at l
      have : b.natAbs * (2 * (a.fmod b).natAbs) = 2 * (b.natAbs * (a.fmod b).natAbs) := by rw [Nat.mul_left_comm]
      omega
  · refine ⟨h, ?_⟩
    by_cases r0 : a.fmod b = 0
    · exact .inl r0
    · refine .inr (.inl ⟨by omega, ?_⟩)
      have : b.natAbs * (a.fmod b).natAbs ≤ b.natAbs * b.natAbs := Nat.mul_le_mul_left _ (by omega)
      omega
theorem law_common_ok (n : Nat) (a b : Int) (hb : b.natAbs < 2 ^ 9000) (S : Ob) : callN (PU L) (n + 1) f_law_common [.int a, .int b] [] S = .ok (.int (Int.gcd a b)) S := by
  rw [c_law_common, b_law_common]
  have key : (whileL (fun ρ S => evE (PU L) (callN (PU L) n) (.cmp .ne (.var 1) (.cst (.int 0))) ρ S) (fun ρ S => evSs (PU L) (callN (PU L) n) [.asg (.tp [.nm 0, .nm 1]) (.tup [.var 1, .bin .mod (.blt false .int [.var 0]) (.var 1)])] ρ S) (PU L).fuel [some (.int a), some (.int b)] S).To
      (fun ρ S' => S' = S ∧ ∃ x : Int, ρ = [some (.int x), some (.int 0)] ∧ x.natAbs = Int.gcd a b) (fun _ _ => False) (fun _ _ => False) (fun _ _ => False) := by
    refine whileL_inv (fun m ρ S' => S' = S ∧ ∃ x y : Int, ρ = [some (.int x), some (.int y)] ∧ Int.gcd x y = Int.gcd a b ∧ Eu m x y) ?_ (m := 18001) (by show 18001 < 1000000000; decide) ⟨rfl, a, b, rfl, rfl, .inr (.inr ⟨by decide, ?_⟩)⟩
    · rintro m ρ S' ⟨rfl, x, y, rfl, hg, hE⟩
      have e1 : evE (PU L) (callN (PU L) n) (.cmp .ne (.var 1) (.cst (.int 0))) [some (.int x), some (.int y)] S' = .ok (.bl (!decide (y = 0))) S' := rfl
      rw [e1]
      by_cases hy : y = 0
      · refine .inl ⟨by rw [decide_eq_true hy]; rfl, rfl, x, by rw [hy], ?_⟩
        rw [← hg, hy, Int.gcd_zero_right]
      · obtain ⟨hm, hE'⟩ := hE.step hy
        refine .inr ⟨by rw [decide_eq_false hy]; rfl, hm, ?_⟩
        have e2 : binD S' .mod (.int x) (.int y) = some (.int (x.fmod y)) := by
          show (if decide (y ≠ 0) then some (D.int (x.fmod y)) else none) = _
          rw [decide_eq_true hy]; rfl
        have e3 : bltD S' .int [.int x] = some (.int x) := rfl
        simp only [evSs, evS, evE, evEs, e2, e3, tg_nm, tg_tup, tgs_nil, tgs_cons, res_some, mkO_false, r_bind, r_st, seq_nx, Option.bind_some, List.getElem?_cons_zero, List.getElem?_cons_succ, List.set_cons_zero, List.set_cons_succ]
        exact ⟨rfl, y, x.fmod y, rfl, by rw [gcd_fmod, hg], hE'⟩
    · have := Nat.mul_lt_mul'' hb hb
      rw [← Nat.pow_add] at this
      exact this
  rw [evSs, evS]
  generalize whileL _ _ _ _ _ = r at key
  cases r <;> first | exact key.elim | skip
  obtain ⟨rfl, x, rfl, hx⟩ := key
  have : Int.gcd a b = if x < 0 then -x else x := by rw [← hx]; split <;> omega
  rw [this]
  rfl
theorem law_no_ok (n : Nat) {u l : Int} (hl : l ≠ 0) (h : l.natAbs < 2 ^ 9000) (S : Ob) : callN (PU L) (n + 2) f_law_no [.int u, .int l] [] S = .ok (nm (Rat.divInt u l)) S := by
  obtain ⟨g, k, m, g0, eg, hu, hm, hg, hle, hp, hn⟩ := gcd_split (u := u) hl
  have eg2 : ((Int.gcd u l : Nat) : Int) = g := by rw [Int.gcd_comm, hg, Int.toNat_of_nonneg (by omega)]
  have d1 : divOk g = true := divOk_of (by omega) (by omega)
  have d2 : divOk (-g) = true := divOk_of (by omega) (by omega)
  have e1 : (Rat.divInt u l).num = l.sign * u / g := by
    rw [Rat.num_divInt, hg, Int.toNat_of_nonneg (by omega)]
  have e2 : ((Rat.divInt u l).den : Int) = l.natAbs / g := by
    rw [Rat.den_divInt, if_neg hl, hg, Int.natCast_ediv, Int.toNat_of_nonneg (by omega)]
  rw [c_law_no, b_law_no]
  have m1 : mulOk g 1 = true := mulOk_of (by omega) (by decide +kernel)
  have m2 : mulOk g (-1) = true := mulOk_of (by omega) (by decide +kernel)
  by_cases h0 : 0 < l
  · simp only [ev_var, ev_cst, ev_glb, ev_tup, ev_lst, ev_dic, ev_bin, ev_cmp, ev_chn, ev_neg, ev_not, ev_and, ev_or, ev_ite, ev_ix, ev_slc, ev_call, ev_blt, ev_mth, evs_nil, evs_cons, evo_none, evo_some, evc_nil, evc_cons, st_set, st_asg, st_seti, st_aug, st_expr, st_ret, st_retN, st_ite, st_brk, st_cont, st_pass, sts_nil, sts_cons, finS_nx, finS_rt, tg_nm, tg_tup, tg_lst, tgs_nil, tgs_cons, wipeE, itOf, itD, rd, res_some, mkO_false, mkO_lst, mkO_dct, bltD, toInt?, ckI, List.getElem?_cons_zero, List.getElem?_cons_succ, List.set_cons_zero, List.set_cons_succ, r_bind, r_bindN, r_st, seq_nx, seq_rt, seq_bk, seq_ct, List.length_cons, List.length_nil, if_true, if_false, ite_true, ite_false, reduceIte, Bool.false_eq_true, Option.map_some, Option.bind_some, cmpD, h0, decide_true, binD, law_common_ok L n u l h S, eg2, m1, d1, Int.mul_one]
    rw [nm, e1, e2, Int.sign_eq_one_of_pos h0, Int.one_mul, Int.natAbs_of_nonneg (by omega), Int.fdiv_eq_ediv_of_nonneg _ (by omega), Int.fdiv_eq_ediv_of_nonneg _ (by omega)]
  · have h1 : l < 0 := by omega
    simp only [ev_var, ev_cst, ev_glb, ev_tup, ev_lst, ev_dic, ev_bin, ev_cmp, ev_chn, ev_neg, ev_not, ev_and, ev_or, ev_ite, ev_ix, ev_slc, ev_call, ev_blt, ev_mth, evs_nil, evs_cons, evo_none, evo_some, evc_nil, evc_cons, st_set, st_asg, st_seti, st_aug, st_expr, st_ret, st_retN, st_ite, st_brk, st_cont, st_pass, sts_nil, sts_cons, finS_nx, finS_rt, tg_nm, tg_tup, tg_lst, tgs_nil, tgs_cons, wipeE, itOf, itD, rd, res_some, mkO_false, mkO_lst, mkO_dct, bltD, toInt?, ckI, List.getElem?_cons_zero, List.getElem?_cons_succ, List.set_cons_zero, List.set_cons_succ, r_bind, r_bindN, r_st, seq_nx, seq_rt, seq_bk, seq_ct, List.length_cons, List.length_nil, if_true, if_false, ite_true, ite_false, reduceIte, Bool.false_eq_true, Option.map_some, Option.bind_some, cmpD, h0, decide_false, binD, law_common_ok L n u l h S, eg2, Int.zero_sub, m2, d2, Int.mul_neg, Int.mul_one]
    rw [nm, e1, e2, Int.sign_eq_neg_one_of_neg h1, Int.ofNat_natAbs_of_nonpos (by omega)]
    have a1 : u.fdiv (-g) = -1 * u / g := by
      rw [hu, show g * k = (-g) * (-k) by grind, Int.mul_fdiv_cancel_left _ (by omega), show -1 * ((-g) * -k) = g * (-k) by grind, Int.mul_ediv_cancel_left _ (by omega)]
    have a2 : l.fdiv (-g) = -l / g := by
      rw [hm, show g * m = (-g) * (-m) by grind, Int.mul_fdiv_cancel_left _ (by omega), show -((-g) * -m) = g * (-m) by grind, Int.mul_ediv_cancel_left _ (by omega)]
    rw [a1, a2]
theorem law_times_ok (n : Nat) {p q : Rat} (hp : SmQ p) (hq : SmQ q) (S : Ob) : callN (PU L) (n + 3) f_law_times [nm p, nm q] [] S = .ok (nm (p * q)) S := by
  rw [c_law_times, b_law_times]
  simp only [ev_var, ev_cst, ev_glb, ev_tup, ev_lst, ev_dic, ev_bin, ev_cmp, ev_chn, ev_neg, ev_not, ev_and, ev_or, ev_ite, ev_ix, ev_slc, ev_call, ev_blt, ev_mth, evs_nil, evs_cons, evo_none, evo_some, evc_nil, evc_cons, st_set, st_asg, st_seti, st_aug, st_expr, st_ret, st_retN, st_ite, st_brk, st_cont, st_pass, sts_nil, sts_cons, finS_nx, finS_rt, tg_nm, tg_tup, tg_lst, tgs_nil, tgs_cons, wipeE, itOf, itD, rd, res_some, mkO_false, mkO_lst, mkO_dct, bltD, toInt?, ckI, List.getElem?_cons_zero, List.getElem?_cons_succ, List.set_cons_zero, List.set_cons_succ, r_bind, r_bindN, r_st, seq_nx, seq_rt, seq_bk, seq_ct, List.length_cons, List.length_nil, if_true, if_false, ite_true, ite_false, reduceIte, Bool.false_eq_true, Option.map_some, Option.bind_some, ix0, ix1, binD, mulSm hp.1 hq.1, mulSm hp.2 hq.2]
  rw [law_no_ok L n (prod_ne p q) (den_prod hp.2 hq.2), divInt_mul]
  rfl
theorem law_plus_ok (n : Nat) {p q : Rat} (hp : SmQ p) (hq : SmQ q) (S : Ob) : callN (PU L) (n + 3) f_law_plus [nm p, nm q] [] S = .ok (nm (p + q)) S := by
  rw [c_law_plus, b_law_plus]
  simp only [ev_var, ev_cst, ev_glb, ev_tup, ev_lst, ev_dic, ev_bin, ev_cmp, ev_chn, ev_neg, ev_not, ev_and, ev_or, ev_ite, ev_ix, ev_slc, ev_call, ev_blt, ev_mth, evs_nil, evs_cons, evo_none, evo_some, evc_nil, evc_cons, st_set, st_asg, st_seti, st_aug, st_expr, st_ret, st_retN, st_ite, st_brk, st_cont, st_pass, sts_nil, sts_cons, finS_nx, finS_rt, tg_nm, tg_tup, tg_lst, tgs_nil, tgs_cons, wipeE, itOf, itD, rd, res_some, mkO_false, mkO_lst, mkO_dct, bltD, toInt?, ckI, List.getElem?_cons_zero, List.getElem?_cons_succ, List.set_cons_zero, List.set_cons_succ, r_bind, r_bindN, r_st, seq_nx, seq_rt, seq_bk, seq_ct, List.length_cons, List.length_nil, if_true, if_false, ite_true, ite_false, reduceIte, Bool.false_eq_true, Option.map_some, Option.bind_some, ix0, ix1, binD, mulSm hp.1 hq.2, mulSm hq.1 hp.2, mulSm hp.2 hq.2]
  rw [law_no_ok L n (prod_ne p q) (den_prod hp.2 hq.2), divInt_add]
  rfl
theorem law_minus_ok (n : Nat) (q : Rat) (S : Ob) : callN (PU L) (n + 1) f_law_minus [nm q] [] S = .ok (nm (-q)) S := by
  rw [c_law_minus, b_law_minus]
  simp only [ev_var, ev_cst, ev_glb, ev_tup, ev_lst, ev_dic, ev_bin, ev_cmp, ev_chn, ev_neg, ev_not, ev_and, ev_or, ev_ite, ev_ix, ev_slc, ev_call, ev_blt, ev_mth, evs_nil, evs_cons, evo_none, evo_some, evc_nil, evc_cons, st_set, st_asg, st_seti, st_aug, st_expr, st_ret, st_retN, st_ite, st_brk, st_cont, st_pass, sts_nil, sts_cons, finS_nx, finS_rt, tg_nm, tg_tup, tg_lst, tgs_nil, tgs_cons, wipeE, itOf, itD, rd, res_some, mkO_false, mkO_lst, mkO_dct, bltD, toInt?, ckI, List.getElem?_cons_zero, List.getElem?_cons_succ, List.set_cons_zero, List.set_cons_succ, r_bind, r_bindN, r_st, seq_nx, seq_rt, seq_bk, seq_ct, List.length_cons, List.length_nil, if_true, if_false, ite_true, ite_false, reduceIte, Bool.false_eq_true, Option.map_some, Option.bind_some, ix0, ix1, binD]
  rw [nm, Rat.neg_num, Rat.neg_den, Int.zero_sub]
theorem SmQ.neg {q : Rat} (h : SmQ q) : SmQ (-q) := ⟨by rw [Rat.neg_num, Int.natAbs_neg]; exact h.1, by rw [Rat.neg_den]; exact h.2⟩
theorem law_off_ok (n : Nat) {p q : Rat} (hp : SmQ p) (hq : SmQ q) (S : Ob) : callN (PU L) (n + 4) f_law_off [nm p, nm q] [] S = .ok (nm (p - q)) S := by
  rw [c_law_off, b_law_off]
  simp only [ev_var, ev_cst, ev_glb, ev_tup, ev_lst, ev_dic, ev_bin, ev_cmp, ev_chn, ev_neg, ev_not, ev_and, ev_or, ev_ite, ev_ix, ev_slc, ev_call, ev_blt, ev_mth, evs_nil, evs_cons, evo_none, evo_some, evc_nil, evc_cons, st_set, st_asg, st_seti, st_aug, st_expr, st_ret, st_retN, st_ite, st_brk, st_cont, st_pass, sts_nil, sts_cons, finS_nx, finS_rt, tg_nm, tg_tup, tg_lst, tgs_nil, tgs_cons, wipeE, itOf, itD, rd, res_some, mkO_false, mkO_lst, mkO_dct, bltD, toInt?, ckI, List.getElem?_cons_zero, List.getElem?_cons_succ, List.set_cons_zero, List.set_cons_succ, r_bind, r_bindN, r_st, seq_nx, seq_rt, seq_bk, seq_ct, List.length_cons, List.length_nil, if_true, if_false, ite_true, ite_false, reduceIte, Bool.false_eq_true, Option.map_some, Option.bind_some, law_minus_ok L (n + 2) q S, law_plus_ok L n hp hq.neg S, Rat.sub_eq_add_neg]
end
end QL
set_option Elab.async false
set_option linter.all false
set_option maxRecDepth 100000
set_option maxHeartbeats 1000000
/-! QM3: lots. -/
namespace QL
open PySem
/-- a lot by its number: the doublings that are in it -/
def lotN (k : Nat) : List Nat := (List.range 4).filter (fun b => k.testBit b) |>.map (· + 1)
def lt (l : List Nat) : D := .tup (l.map fun (i : Nat) => .int (i : Int))
def LT (k : Nat) : D := lt (lotN k)
theorem flats_int (l : List Nat) : D.flats (l.map fun (i : Nat) => D.int (i : Int)) = true := by
  induction l with
  | nil => rfl
  | cons a l ih => rw [List.map_cons, D.flats, D.flat, ih]; rfl
theorem deps_int (l : List Nat) : D.deps (l.map fun (i : Nat) => D.int (i : Int)) = 0 := by
  induction l with
  | nil => rfl
  | cons a l ih =>
    rw [List.map_cons, D.deps, ih]
    rfl
theorem lt_flat (l : List Nat) : (lt l).flat = true := by rw [lt, D.flat, flats_int]
theorem lt_dep (l : List Nat) : (lt l).dep = 1 := by rw [lt, D.dep, deps_int]
theorem eqvs_int : ∀ (a b : List Nat), D.eqvs (a.map fun (i : Nat) => D.int (i : Int)) (b.map fun (i : Nat) => D.int (i : Int)) = decide (a = b)
  | [], [] => rfl
  | [], _ :: _ => rfl
  | _ :: _, [] => rfl
  | x :: a, y :: b => by
    rw [List.map_cons, List.map_cons, D.eqvs, eqvs_int a b, D.eqv]
    by_cases h : x = y
    · subst h; simp
    · have h2 : decide ((x : Int) = (y : Int)) = false := decide_eq_false (by omega)
      rw [h2, Bool.false_and, decide_eq_false (fun z => h (List.cons.inj z).1)]
theorem lt_eqv (a b : List Nat) : (lt a).eqv (lt b) = decide (a = b) := by rw [lt, lt, D.eqv, eqvs_int]
theorem eqD_lt (S : Ob) (a b : List Nat) : eqD S (lt a) (lt b) = some (decide (a = b)) := by
  have e : ∀ l, rd S (lt l) = lt l := fun l => rfl
  unfold eqD
  rw [e, e, lt_flat, lt_flat, lt_dep, lt_dep, lt_eqv]; rfl
theorem eq_lt (S : Ob) (a b : List Nat) : cmpD S .eq (lt a) (lt b) = some (decide (a = b)) := eqD_lt S a b
theorem ne_lt (S : Ob) (a b : List Nat) : cmpD S .ne (lt a) (lt b) = some (!decide (a = b)) := by
  show (eqD S (lt a) (lt b)).map (!·) = _
  rw [eqD_lt]; rfl
theorem any_int (b : Nat) : ∀ l : List Nat, ((l.map fun (i : Nat) => D.int (i : Int)).any fun z => z.eqv (.int (b : Int))) = decide (b ∈ l)
  | [] => rfl
  | x :: l => by
    rw [List.map_cons, List.any_cons, any_int b l, D.eqv]
    by_cases h : x = b
    · subst h; simp
    · have : ¬ ((x : Int) = (b : Int)) := by omega
      have h' : ¬ b = x := fun z => h z.symm
      simp [this, h']
theorem in_lt (S : Ob) (b : Nat) (l : List Nat) : cmpD S .isin (.int (b : Int)) (lt l) = some (decide (b ∈ l)) := by
  show inD S (.int b) (lt l) = _
  show (if D.flat (.int b) && D.flats (l.map fun (i : Nat) => D.int (i : Int)) && Nat.ble (D.dep (.int b)) 60 then some ((l.map fun (i : Nat) => D.int (i : Int)).any fun z => z.eqv (.int b)) else none) = _
  rw [flats_int, any_int]; rfl
theorem notin_lt (S : Ob) (b : Nat) (l : List Nat) : cmpD S .notin (.int (b : Int)) (lt l) = some (!decide (b ∈ l)) := by
  show (cmpD S .isin (.int b) (lt l)).map (!·) = _
  rw [in_lt]; rfl
theorem lotN_len (k : Nat) : (lotN k).length ≤ 4 := by
  unfold lotN
  rw [List.length_map]
  exact Nat.le_trans (List.length_filter_le _ _) (by decide)
theorem lotN_inj : ∀ i < 16, ∀ j < 16, lotN i = lotN j → i = j := by decide +kernel
theorem lotN_dec {i j : Nat} (hi : i < 16) (hj : j < 16) : decide (lotN i = lotN j) = decide (i = j) := by
  by_cases h : i = j
  · subst h; simp
  · rw [decide_eq_false h, decide_eq_false fun z => h (lotN_inj i hi j hj z)]
theorem lotN_bit : ∀ k < 16, ∀ b < 4, decide (b + 1 ∈ lotN k) = k.testBit b := by decide +kernel
theorem lotN_low : ∀ k < 16, ∀ b < 5, (lotN k).filter (fun x => decide (x < b + 1)) = lotN (k % 2 ^ b) := by decide +kernel
theorem lotN_up : ∀ b < 4, ∀ k < 2 ^ b, lotN k ++ [b + 1] = lotN (2 ^ b + k) := by decide +kernel
theorem lotN_mem : ∀ k < 16, ∀ b ∈ lotN k, 1 ≤ b ∧ b ≤ 4 ∧ (lotN k).length ≤ 4 := by decide +kernel
theorem range_up (b : Nat) : List.range (2 ^ (b + 1)) = List.range (2 ^ b) ++ (List.range (2 ^ b)).map (2 ^ b + ·) := by
  rw [Nat.pow_succ, Nat.mul_two, List.range_add]
theorem it_lt (S : Ob) (l : List Nat) : itD S .val [lt l] = some (l.map fun (i : Nat) => .int (i : Int)) := rfl
theorem gd_lt (S : Ob) (l : List Nat) : guards S [lt l] = [] := rfl
theorem lim_eq : lim = 1000000 := rfl
section
variable (L : LDef)
/-- below -/
theorem below_ok (n : Nat) (l : List Nat) (hl : l.length ≤ lim) (b : Nat) (S : Ob) : callN (PU L) (n + 1) f_below [lt l, .int (b : Int)] [] S = .ok (lt (l.filter fun x => decide (x < b))) S := by
  rw [c_below, b_below]
  have key := ev_lcF (P := PU L) (cf := callN (PU L) n) (tg := .nm 2) (w := .val) (it := [.var 0]) (ifs := [.cmp .lt (.var 2) (.var 1)]) (e := .var 2) (own := [2]) (ρ := [some (lt l), some (.int (b : Int)), none]) (S := S) (xs := [lt l])
    (fun (i : Nat) => D.int (i : Int)) (fun x => decide (x < b)) (fun (i : Nat) => D.int (i : Int)) (ys := l) rfl rfl rfl (fun x hx => ⟨[some (lt l), some (.int (b : Int)), some (.int (x : Int))], rfl, by
      have : decide ((x : Int) < (b : Int)) = decide (x < b) := by simp
      simp only [ev_var, ev_cst, ev_glb, ev_tup, ev_lst, ev_dic, ev_bin, ev_cmp, ev_chn, ev_neg, ev_not, ev_and, ev_or, ev_ite, ev_ix, ev_slc, ev_call, ev_blt, ev_mth, evs_nil, evs_cons, evo_none, evo_some, evc_nil, evc_cons, st_set, st_asg, st_seti, st_aug, st_expr, st_ret, st_retN, st_ite, st_brk, st_cont, st_pass, sts_nil, sts_cons, finS_nx, finS_rt, tg_nm, tg_tup, tg_lst, tgs_nil, tgs_cons, wipeE, itOf, itD, rd, res_some, mkO_false, mkO_lst, mkO_dct, bltD, toInt?, ckI, List.getElem?_cons_zero, List.getElem?_cons_succ, List.set_cons_zero, List.set_cons_succ, r_bind, r_bindN, r_st, seq_nx, seq_rt, seq_bk, seq_ct, List.length_cons, List.length_nil, if_true, if_false, ite_true, ite_false, reduceIte, Bool.false_eq_true, Option.map_some, Option.bind_some, cmpD, this]
      cases decide (x < b) <;> rfl, fun _ => rfl⟩) hl
  simp only [ev_var, ev_cst, ev_glb, ev_tup, ev_lst, ev_dic, ev_bin, ev_cmp, ev_chn, ev_neg, ev_not, ev_and, ev_or, ev_ite, ev_ix, ev_slc, ev_call, ev_blt, ev_mth, evs_nil, evs_cons, evo_none, evo_some, evc_nil, evc_cons, st_set, st_asg, st_seti, st_aug, st_expr, st_ret, st_retN, st_ite, st_brk, st_cont, st_pass, sts_nil, sts_cons, finS_nx, finS_rt, tg_nm, tg_tup, tg_lst, tgs_nil, tgs_cons, wipeE, itOf, itD, rd, res_some, mkO_false, mkO_lst, mkO_dct, bltD, toInt?, ckI, List.getElem?_cons_zero, List.getElem?_cons_succ, List.set_cons_zero, List.set_cons_succ, r_bind, r_bindN, r_st, seq_nx, seq_rt, seq_bk, seq_ct, List.length_cons, List.length_nil, if_true, if_false, ite_true, ite_false, reduceIte, Bool.false_eq_true, Option.map_some, Option.bind_some, key]
  rfl
theorem parted_sorted : ∀ i < 16, ∀ j < 16, sortI (((lotN i).filter (fun x => !decide (x ∈ lotN j)) ++ (lotN j).filter (fun x => !decide (x ∈ lotN i))).map fun (x : Nat) => (x : Int)) = (lotN (i ^^^ j)).map fun (x : Nat) => (x : Int) := by decide +kernel
theorem intsOf_map (l : List Int) : intsOf (l.map .int) = some l := by
  induction l with
  | nil => rfl
  | cons a l ih => rw [List.map_cons, intsOf, ih]; rfl
theorem notin_key (n : Nat) (a b : List Nat) (ha : a.length ≤ lim) (e1 e2 : Nat) (h : (e1, e2) = (0, 1) ∨ (e1, e2) = (1, 0)) (S : Ob) (va vb : D) (hv : (e1 = 0 → va = lt a ∧ vb = lt b) ∧ (e1 = 1 → va = lt b ∧ vb = lt a)) :
    evE (PU L) (callN (PU L) n) (.lc false (.nm 2) .val [.var e1] [.cmp .notin (.var 2) (.var e2)] (.var 2) [2]) [some va, some vb, none] S = .ok (.lst ((a.filter fun x => !decide (x ∈ b)).map fun (i : Nat) => .int (i : Int))) S := by
  rcases h with h | h <;> cases h
  · obtain ⟨rfl, rfl⟩ := hv.1 rfl
    exact ev_lcF (xs := [lt a]) (fun (i : Nat) => D.int (i : Int)) (fun x => !decide (x ∈ b)) (fun (i : Nat) => D.int (i : Int)) (ys := a) rfl rfl rfl (fun x hx => ⟨[some (lt a), some (lt b), some (.int (x : Int))], rfl, by
      simp only [ev_var, ev_cst, ev_glb, ev_tup, ev_lst, ev_dic, ev_bin, ev_cmp, ev_chn, ev_neg, ev_not, ev_and, ev_or, ev_ite, ev_ix, ev_slc, ev_call, ev_blt, ev_mth, evs_nil, evs_cons, evo_none, evo_some, evc_nil, evc_cons, st_set, st_asg, st_seti, st_aug, st_expr, st_ret, st_retN, st_ite, st_brk, st_cont, st_pass, sts_nil, sts_cons, finS_nx, finS_rt, tg_nm, tg_tup, tg_lst, tgs_nil, tgs_cons, wipeE, itOf, itD, rd, res_some, mkO_false, mkO_lst, mkO_dct, bltD, toInt?, ckI, List.getElem?_cons_zero, List.getElem?_cons_succ, List.set_cons_zero, List.set_cons_succ, r_bind, r_bindN, r_st, seq_nx, seq_rt, seq_bk, seq_ct, List.length_cons, List.length_nil, if_true, if_false, ite_true, ite_false, reduceIte, Bool.false_eq_true, Option.map_some, Option.bind_some, notin_lt]
      cases decide (x ∈ b) <;> rfl, fun _ => rfl⟩) ha
  · obtain ⟨rfl, rfl⟩ := hv.2 rfl
    exact ev_lcF (xs := [lt a]) (fun (i : Nat) => D.int (i : Int)) (fun x => !decide (x ∈ b)) (fun (i : Nat) => D.int (i : Int)) (ys := a) rfl rfl rfl (fun x hx => ⟨[some (lt b), some (lt a), some (.int (x : Int))], rfl, by
      simp only [ev_var, ev_cst, ev_glb, ev_tup, ev_lst, ev_dic, ev_bin, ev_cmp, ev_chn, ev_neg, ev_not, ev_and, ev_or, ev_ite, ev_ix, ev_slc, ev_call, ev_blt, ev_mth, evs_nil, evs_cons, evo_none, evo_some, evc_nil, evc_cons, st_set, st_asg, st_seti, st_aug, st_expr, st_ret, st_retN, st_ite, st_brk, st_cont, st_pass, sts_nil, sts_cons, finS_nx, finS_rt, tg_nm, tg_tup, tg_lst, tgs_nil, tgs_cons, wipeE, itOf, itD, rd, res_some, mkO_false, mkO_lst, mkO_dct, bltD, toInt?, ckI, List.getElem?_cons_zero, List.getElem?_cons_succ, List.set_cons_zero, List.set_cons_succ, r_bind, r_bindN, r_st, seq_nx, seq_rt, seq_bk, seq_ct, List.length_cons, List.length_nil, if_true, if_false, ite_true, ite_false, reduceIte, Bool.false_eq_true, Option.map_some, Option.bind_some, notin_lt]
      cases decide (x ∈ b) <;> rfl, fun _ => rfl⟩) ha
theorem lotN_lim (k : Nat) : (lotN k).length ≤ lim := Nat.le_trans (lotN_len k) (by decide)
/-- the lot of what is in just one -/
theorem parted_ok (n : Nat) {i j : Nat} (hi : i < 16) (hj : j < 16) (S : Ob) : callN (PU L) (n + 1) f_parted [LT i, LT j] [] S = .ok (LT (i ^^^ j)) S := by
  rw [c_parted, b_parted]
  have k1 := notin_key L n (lotN i) (lotN j) (lotN_lim i) 0 1 (.inl rfl) S (LT i) (LT j) ⟨fun _ => ⟨rfl, rfl⟩, (fun h => by cases h)⟩
  have k2 := notin_key L n (lotN j) (lotN i) (lotN_lim j) 1 0 (.inr rfl) S (LT i) (LT j) ⟨(fun h => by cases h), fun _ => ⟨rfl, rfl⟩⟩
  have len : ∀ a b : Nat, ((lotN a).filter fun x => !decide (x ∈ lotN b)).length ≤ 4 := fun a b => Nat.le_trans (List.length_filter_le _ _) (lotN_len a)
  have e1 : binD S .add (.lst (((lotN i).filter fun x => !decide (x ∈ lotN j)).map fun (i : Nat) => .int (i : Int))) (.lst (((lotN j).filter fun x => !decide (x ∈ lotN i)).map fun (i : Nat) => .int (i : Int))) = some (.lst ((((lotN i).filter (fun x => !decide (x ∈ lotN j)) ++ (lotN j).filter (fun x => !decide (x ∈ lotN i))).map fun (x : Nat) => (x : Int)).map .int)) := by
    show (if Nat.ble ((((lotN i).filter fun x => !decide (x ∈ lotN j)).map fun (i : Nat) => D.int (i : Int)).length + (((lotN j).filter fun x => !decide (x ∈ lotN i)).map fun (i : Nat) => D.int (i : Int)).length) lim then some (D.lst _) else none) = _
    have := len i j
    have := len j i
    rw [if_pos (Nat.ble_eq_true_of_le (by rw [List.length_map, List.length_map, lim_eq]; omega)), ← List.map_append, List.map_map]
    rfl
  have e2 : bltD S .sorted [.lst ((((lotN i).filter (fun x => !decide (x ∈ lotN j)) ++ (lotN j).filter (fun x => !decide (x ∈ lotN i))).map fun (x : Nat) => (x : Int)).map .int)] = some (.lst (((lotN (i ^^^ j)).map fun (x : Nat) => (x : Int)).map .int)) := by
    show ((intsOf ((((lotN i).filter (fun x => !decide (x ∈ lotN j)) ++ (lotN j).filter (fun x => !decide (x ∈ lotN i))).map fun (x : Nat) => (x : Int)).map .int)).bind fun ns => if Nat.ble ns.length 63 then some (D.lst ((sortI ns).map .int)) else none) = _
    rw [intsOf_map, Option.bind_some, parted_sorted i hi j hj, if_pos]
    have := len i j
    have := len j i
    exact Nat.ble_eq_true_of_le (by rw [List.length_map, List.length_append]; omega)
  simp only [ev_var, ev_bin, ev_blt, evs_nil, evs_cons, sts_nil, sts_cons, st_ret, finS_rt, res_some, mkO_false, r_bind, r_st, seq_rt, k1, k2, e1, e2]
  show Res.ok (D.tup _) S = Res.ok (D.tup _) S
  rw [List.map_map]
  rfl
/-! ### all lots -/
theorem lots_step (b : Nat) (hb : b < 4) : (List.range (2 ^ (b + 1))).map LT = (List.range (2 ^ b)).map LT ++ (List.range (2 ^ b)).map fun k => lt (lotN k ++ [b + 1]) := by
  rw [range_up, List.map_append, List.map_map]
  congr 1
  refine List.map_congr_left fun k hk => ?_
  show lt (lotN (2 ^ b + k)) = _
  rw [lotN_up b hb k (List.mem_range.mp hk)]
theorem lots0 : (List.range (2 ^ 0)).map LT = [.tup []] := by decide +kernel
/-- where the loop over the doublings stands -/
def lotsI (m : Nat) (S : Ob) (k : Nat) (ρ : Env) (S' : Ob) : Prop := S' = S ∧ ∃ w' z', ρ = [some (.int (m : Int)), some (.lst ((List.range (2 ^ k)).map LT)), w', z']
theorem lots_turn {cf : CF} {m : Nat} (hm : m ≤ 4) (k y : Nat) (ρ : Env) (S S' : Ob) (hy : (List.range m)[k]? = some y) (h : lotsI m S k ρ S') :
    ∃ ρ1, asgTg (.nm 2) (.int (1 + (y : Int) * 1)) ρ = some ρ1 ∧ (evSs (PU L) cf [.set 1 (.bin .add (.var 1) (.lc false (.nm 3) .val [.var 1] [] (.bin .add (.var 3) (.tup [.var 2])) [3]))] ρ1 S').To (lotsI m S (k + 1)) (lotsI m S (List.range m).length) (lotsI m S (k + 1)) (fun _ _ => False) := by
  obtain ⟨rfl, w', z', rfl⟩ := h
  have hk : k < m := by
    have := (List.getElem?_eq_some_iff.mp hy).1
    simpa using this
  have hy' : y = k := by
    rw [List.getElem?_eq_getElem (by simpa using hk)] at hy
    simpa using hy.symm
  subst hy'
  refine ⟨[some (.int (m : Int)), some (.lst ((List.range (2 ^ y)).map LT)), some (.int (1 + (y : Int) * 1)), z'], rfl, ?_⟩
  have hp : 2 ^ y ≤ 2 ^ 3 := Nat.pow_le_pow_right (by decide) (show y ≤ 3 by omega)
  have lc := ev_lcM (P := PU L) (cf := cf) (tg := .nm 3) (w := .val) (it := [.var 1]) (ifs := []) (e := .bin .add (.var 3) (.tup [.var 2])) (own := [3]) (ρ := [some (.int (m : Int)), some (.lst ((List.range (2 ^ y)).map LT)), some (.int (1 + (y : Int) * 1)), z']) (S := S') (xs := [.lst ((List.range (2 ^ y)).map LT)])
    LT (fun j => lt (lotN j ++ [y + 1])) (ys := List.range (2 ^ y)) rfl rfl rfl (fun j hj => ⟨[some (.int (m : Int)), some (.lst ((List.range (2 ^ y)).map LT)), some (.int (1 + (y : Int) * 1)), some (LT j)], rfl, by simp only [ev_var, ev_cst, ev_glb, ev_tup, ev_lst, ev_dic, ev_bin, ev_cmp, ev_chn, ev_neg, ev_not, ev_and, ev_or, ev_ite, ev_ix, ev_slc, ev_call, ev_blt, ev_mth, evs_nil, evs_cons, evo_none, evo_some, evc_nil, evc_cons, st_set, st_asg, st_seti, st_aug, st_expr, st_ret, st_retN, st_ite, st_brk, st_cont, st_pass, sts_nil, sts_cons, finS_nx, finS_rt, tg_nm, tg_tup, tg_lst, tgs_nil, tgs_cons, wipeE, itOf, itD, rd, res_some, mkO_false, mkO_lst, mkO_dct, bltD, toInt?, ckI, List.getElem?_cons_zero, List.getElem?_cons_succ, List.set_cons_zero, List.set_cons_succ, r_bind, r_bindN, r_st, seq_nx, seq_rt, seq_bk, seq_ct, List.length_cons, List.length_nil, if_true, if_false, ite_true, ite_false, reduceIte, Bool.false_eq_true, Option.map_some, Option.bind_some], by
      have e : binD S' .add (LT j) (.tup [.int (1 + (y : Int) * 1)]) = some (lt (lotN j ++ [y + 1])) := by
        show (if Nat.ble (((lotN j).map fun (i : Nat) => D.int (i : Int)).length + 1) lim then some (D.tup (((lotN j).map fun (i : Nat) => D.int (i : Int)) ++ [D.int (1 + (y : Int) * 1)])) else none) = _
        rw [if_pos (Nat.ble_eq_true_of_le (by have := lotN_len j; rw [List.length_map, lim_eq]; omega)), lt, List.map_append, show (1 + (y : Int) * 1) = ((y + 1 : Nat) : Int) by omega]
        rfl
      simp only [ev_var, ev_cst, ev_glb, ev_tup, ev_lst, ev_dic, ev_bin, ev_cmp, ev_chn, ev_neg, ev_not, ev_and, ev_or, ev_ite, ev_ix, ev_slc, ev_call, ev_blt, ev_mth, evs_nil, evs_cons, evo_none, evo_some, evc_nil, evc_cons, st_set, st_asg, st_seti, st_aug, st_expr, st_ret, st_retN, st_ite, st_brk, st_cont, st_pass, sts_nil, sts_cons, finS_nx, finS_rt, tg_nm, tg_tup, tg_lst, tgs_nil, tgs_cons, wipeE, itOf, itD, rd, res_some, mkO_false, mkO_lst, mkO_dct, bltD, toInt?, ckI, List.getElem?_cons_zero, List.getElem?_cons_succ, List.set_cons_zero, List.set_cons_succ, r_bind, r_bindN, r_st, seq_nx, seq_rt, seq_bk, seq_ct, List.length_cons, List.length_nil, if_true, if_false, ite_true, ite_false, reduceIte, Bool.false_eq_true, Option.map_some, Option.bind_some, e]⟩) (by rw [List.length_range, lim_eq]; omega)
  have e2 : binD S' .add (.lst ((List.range (2 ^ y)).map LT)) (.lst ((List.range (2 ^ y)).map fun j => lt (lotN j ++ [y + 1]))) = some (.lst ((List.range (2 ^ (y + 1))).map LT)) := by
    show (if Nat.ble (((List.range (2 ^ y)).map LT).length + ((List.range (2 ^ y)).map fun j => lt (lotN j ++ [y + 1])).length) lim then some (D.lst (((List.range (2 ^ y)).map LT) ++ ((List.range (2 ^ y)).map fun j => lt (lotN j ++ [y + 1])))) else none) = _
    rw [if_pos (Nat.ble_eq_true_of_le (by rw [List.length_map, List.length_map, List.length_range, lim_eq]; omega)), lots_step y (by omega)]
  simp only [ev_var, ev_cst, ev_glb, ev_tup, ev_lst, ev_dic, ev_bin, ev_cmp, ev_chn, ev_neg, ev_not, ev_and, ev_or, ev_ite, ev_ix, ev_slc, ev_call, ev_blt, ev_mth, evs_nil, evs_cons, evo_none, evo_some, evc_nil, evc_cons, st_set, st_asg, st_seti, st_aug, st_expr, st_ret, st_retN, st_ite, st_brk, st_cont, st_pass, sts_nil, sts_cons, finS_nx, finS_rt, tg_nm, tg_tup, tg_lst, tgs_nil, tgs_cons, wipeE, itOf, itD, rd, res_some, mkO_false, mkO_lst, mkO_dct, bltD, toInt?, ckI, List.getElem?_cons_zero, List.getElem?_cons_succ, List.set_cons_zero, List.set_cons_succ, r_bind, r_bindN, r_st, seq_nx, seq_rt, seq_bk, seq_ct, List.length_cons, List.length_nil, if_true, if_false, ite_true, ite_false, reduceIte, Bool.false_eq_true, Option.map_some, Option.bind_some, lc, e2]
  exact ⟨rfl, _, _, rfl⟩
theorem lots_body {cf : CF} {m : Nat} (hm : m ≤ 4) (S : Ob) (w z : Option D) : ∃ w' z', (evS (PU L) cf (.forr (.nm 2) .range [.cst (.int 1), .bin .add (.var 0) (.cst (.int 1))] [.set 1 (.bin .add (.var 1) (.lc false (.nm 3) .val [.var 1] [] (.bin .add (.var 3) (.tup [.var 2])) [3]))]) [some (.int (m : Int)), some (.lst [.tup []]), w, z] S) = .nx [some (.int (m : Int)), some (.lst ((List.range (2 ^ m)).map LT)), w', z'] S := by
  have h1 : evEs (PU L) cf [.cst (.int 1), .bin .add (.var 0) (.cst (.int 1))] [some (.int (m : Int)), some (.lst [.tup []]), w, z] S = .ok [.int 1, .int ((m : Int) + 1)] S := by simp only [ev_var, ev_cst, ev_glb, ev_tup, ev_lst, ev_dic, ev_bin, ev_cmp, ev_chn, ev_neg, ev_not, ev_and, ev_or, ev_ite, ev_ix, ev_slc, ev_call, ev_blt, ev_mth, evs_nil, evs_cons, evo_none, evo_some, evc_nil, evc_cons, st_set, st_asg, st_seti, st_aug, st_expr, st_ret, st_retN, st_ite, st_brk, st_cont, st_pass, sts_nil, sts_cons, finS_nx, finS_rt, tg_nm, tg_tup, tg_lst, tgs_nil, tgs_cons, wipeE, itOf, itD, rd, res_some, mkO_false, mkO_lst, mkO_dct, bltD, toInt?, ckI, List.getElem?_cons_zero, List.getElem?_cons_succ, List.set_cons_zero, List.set_cons_succ, r_bind, r_bindN, r_st, seq_nx, seq_rt, seq_bk, seq_ct, List.length_cons, List.length_nil, if_true, if_false, ite_true, ite_false, reduceIte, Bool.false_eq_true, Option.map_some, Option.bind_some, binD]
  have h2 : itD S .range [.int 1, .int ((m : Int) + 1)] = some ((List.range m).map fun (k : Nat) => .int (1 + (k : Int) * 1)) := by
    show (if small 1 && small ((m : Int) + 1) then some (rangeL 1 ((m : Int) + 1 - 1).toNat 1) else none) = _
    have s1 : small ((m : Int) + 1) = true := by
      unfold small
      rw [Bool.and_eq_true]
      exact ⟨decide_eq_true (by omega), decide_eq_true (by omega)⟩
    have s0 : small 1 = true := by decide +kernel
    rw [s0, s1, show ((m : Int) + 1 - 1).toNat = m by omega]
    simp only [Bool.and_self, if_true, rangeL]
  have i0 : [some (.int (m : Int)), some (.lst [.tup []]), w, z] = [some (.int (m : Int)), some (.lst ((List.range (2 ^ 0)).map LT)), w, z] := by rw [lots0]
  have g0 : guards S [.int 1, .int ((m : Int) + 1)] = [] := rfl
  have key : (evS (PU L) cf (.forr (.nm 2) .range [.cst (.int 1), .bin .add (.var 0) (.cst (.int 1))] [.set 1 (.bin .add (.var 1) (.lc false (.nm 3) .val [.var 1] [] (.bin .add (.var 3) (.tup [.var 2])) [3]))]) [some (.int (m : Int)), some (.lst [.tup []]), w, z] S).To
      (lotsI m S (List.range m).length) (fun _ _ => False) (fun _ _ => False) (fun _ _ => False) :=
    st_forC (fun k : Nat => D.int (1 + (k : Int) * 1)) (lotsI m S) h1 h2 g0 (fun k y ρ S' hy h => lots_turn L hm k y ρ S S' hy h) ⟨rfl, w, z, i0⟩
  generalize evS (PU L) cf _ _ S = r at key
  cases r <;> first | exact key.elim | skip
  obtain ⟨rfl, w', z', h⟩ := key
  rw [List.length_range] at h
  exact ⟨w', z', by rw [h]⟩
theorem lots_of_ok (n : Nat) {m : Nat} (hm : m ≤ 4) (S : Ob) : callN (PU L) (n + 1) f_lots_of [.int (m : Int)] [] S = .ok (.lst ((List.range (2 ^ m)).map LT)) S := by
  rw [c_lots_of, b_lots_of]
  obtain ⟨w, z, h⟩ := lots_body L (cf := callN (PU L) n) hm S none none
  simp only [ev_var, ev_cst, ev_glb, ev_tup, ev_lst, ev_dic, ev_bin, ev_cmp, ev_chn, ev_neg, ev_not, ev_and, ev_or, ev_ite, ev_ix, ev_slc, ev_call, ev_blt, ev_mth, evs_nil, evs_cons, evo_none, evo_some, evc_nil, evc_cons, st_set, st_asg, st_seti, st_aug, st_expr, st_ret, st_retN, st_ite, st_brk, st_cont, st_pass, sts_nil, sts_cons, finS_nx, finS_rt, tg_nm, tg_tup, tg_lst, tgs_nil, tgs_cons, wipeE, itOf, itD, rd, res_some, mkO_false, mkO_lst, mkO_dct, bltD, toInt?, ckI, List.getElem?_cons_zero, List.getElem?_cons_succ, List.set_cons_zero, List.set_cons_succ, r_bind, r_bindN, r_st, seq_nx, seq_rt, seq_bk, seq_ct, List.length_cons, List.length_nil, if_true, if_false, ite_true, ite_false, reduceIte, Bool.false_eq_true, Option.map_some, Option.bind_some, h]
theorem law_lots_ok (n : Nat) {m : Nat} (hm : m ≤ 4) (S : Ob) : callN (PU L) (n + 1) f_law_lots [.int (m : Int)] [] S = .ok (.lst ((List.range (2 ^ m)).map LT)) S := by
  rw [c_law_lots, b_law_lots]
  obtain ⟨w, z, h⟩ := lots_body L (cf := callN (PU L) n) hm S none none
  simp only [ev_var, ev_cst, ev_glb, ev_tup, ev_lst, ev_dic, ev_bin, ev_cmp, ev_chn, ev_neg, ev_not, ev_and, ev_or, ev_ite, ev_ix, ev_slc, ev_call, ev_blt, ev_mth, evs_nil, evs_cons, evo_none, evo_some, evc_nil, evc_cons, st_set, st_asg, st_seti, st_aug, st_expr, st_ret, st_retN, st_ite, st_brk, st_cont, st_pass, sts_nil, sts_cons, finS_nx, finS_rt, tg_nm, tg_tup, tg_lst, tgs_nil, tgs_cons, wipeE, itOf, itD, rd, res_some, mkO_false, mkO_lst, mkO_dct, bltD, toInt?, ckI, List.getElem?_cons_zero, List.getElem?_cons_succ, List.set_cons_zero, List.set_cons_succ, r_bind, r_bindN, r_st, seq_nx, seq_rt, seq_bk, seq_ct, List.length_cons, List.length_nil, if_true, if_false, ite_true, ite_false, reduceIte, Bool.false_eq_true, Option.map_some, Option.bind_some, h]
/-! ### what is asked of lots -/
def mk : List (Nat × Nat) := (List.range 5).flatMap fun m => (List.range (2 ^ m)).map fun k => (m, k)
theorem mk_mem {m k : Nat} (hm : m ≤ 4) (hk : k < 2 ^ m) : (m, k) ∈ mk := by
  unfold mk
  rw [List.mem_flatMap]
  exact ⟨m, List.mem_range.mpr (by omega), List.mem_map.mpr ⟨k, List.mem_range.mpr hk, rfl⟩⟩
theorem is_of_tab (n : Nat) (S : Ob) : mk.map (fun p => callN (PU L) (n + 2) f_is_of [.int (p.1 : Nat), LT p.2] [] S) = mk.map (fun p => .ok (.bl true) S) := by kernel_rfl
theorem is_of_ok (n : Nat) {m k : Nat} (hm : m ≤ 4) (hk : k < 2 ^ m) (S : Ob) : callN (PU L) (n + 2) f_is_of [.int (m : Nat), LT k] [] S = .ok (.bl true) S :=
  List.map_inj_left.mp (is_of_tab L n S) (m, k) (mk_mem hm hk)
theorem need_many_tab (n : Nat) (S : Ob) : (List.range 5).map (fun m => callN (PU L) (n + 3) f_need_many [.int (m : Nat)] [] S) = (List.range 5).map (fun _ => .ok .non S) := by kernel_rfl
theorem need_many_ok (n : Nat) {m : Nat} (hm : m ≤ 4) (S : Ob) : callN (PU L) (n + 3) f_need_many [.int (m : Nat)] [] S = .ok .non S :=
  List.map_inj_left.mp (need_many_tab L n S) m (List.mem_range.mpr (by omega))
theorem lots_ok (n : Nat) {m : Nat} (hm : m ≤ 4) (S : Ob) : callN (PU L) (n + 4) f_lots [.int (m : Int)] [] S = .ok (.tup ((List.range (2 ^ m)).map LT)) S := by
  rw [c_lots, b_lots]
  simp only [ev_var, ev_cst, ev_glb, ev_tup, ev_lst, ev_dic, ev_bin, ev_cmp, ev_chn, ev_neg, ev_not, ev_and, ev_or, ev_ite, ev_ix, ev_slc, ev_call, ev_blt, ev_mth, evs_nil, evs_cons, evo_none, evo_some, evc_nil, evc_cons, st_set, st_asg, st_seti, st_aug, st_expr, st_ret, st_retN, st_ite, st_brk, st_cont, st_pass, sts_nil, sts_cons, finS_nx, finS_rt, tg_nm, tg_tup, tg_lst, tgs_nil, tgs_cons, wipeE, itOf, itD, rd, res_some, mkO_false, mkO_lst, mkO_dct, bltD, toInt?, ckI, List.getElem?_cons_zero, List.getElem?_cons_succ, List.set_cons_zero, List.set_cons_succ, r_bind, r_bindN, r_st, seq_nx, seq_rt, seq_bk, seq_ct, List.length_cons, List.length_nil, if_true, if_false, ite_true, ite_false, reduceIte, Bool.false_eq_true, Option.map_some, Option.bind_some, need_many_ok L n hm S, lots_of_ok L (n + 2) hm S]
theorem need_lots_ok (n : Nat) {m i j : Nat} (hm : m ≤ 4) (hi : i < 2 ^ m) (hj : j < 2 ^ m) (S : Ob) : callN (PU L) (n + 3) f_need_lots [.int (m : Int), LT i, LT j] [] S = .ok .non S := by
  rw [c_need_lots, b_need_lots]
  simp only [ev_var, ev_cst, ev_glb, ev_tup, ev_lst, ev_dic, ev_bin, ev_cmp, ev_chn, ev_neg, ev_not, ev_and, ev_or, ev_ite, ev_ix, ev_slc, ev_call, ev_blt, ev_mth, evs_nil, evs_cons, evo_none, evo_some, evc_nil, evc_cons, st_set, st_asg, st_seti, st_aug, st_expr, st_ret, st_retN, st_ite, st_brk, st_cont, st_pass, sts_nil, sts_cons, finS_nx, finS_rt, tg_nm, tg_tup, tg_lst, tgs_nil, tgs_cons, wipeE, itOf, itD, rd, res_some, mkO_false, mkO_lst, mkO_dct, bltD, toInt?, ckI, List.getElem?_cons_zero, List.getElem?_cons_succ, List.set_cons_zero, List.set_cons_succ, r_bind, r_bindN, r_st, seq_nx, seq_rt, seq_bk, seq_ct, List.length_cons, List.length_nil, if_true, if_false, ite_true, ite_false, reduceIte, Bool.false_eq_true, Option.map_some, Option.bind_some, is_of_ok L n hm hi S, is_of_ok L n hm hj S, Bool.not_true]
/-! ### signs -/
/-- the sign of two lots folded, by the doublings below b + 1 -/
def sgF : Nat → Nat → Nat → Int → Int
  | 0, _, _, f => f
  | b + 1, h, t, f => match t.testBit b with
    | true => sgF b (t % 2 ^ b) (h % 2 ^ b) (if h.testBit b && !decide (t % 2 ^ b = 0) then 0 - f else f)
    | false => sgF b (h % 2 ^ b) (t % 2 ^ b) (if h.testBit b && !decide (t % 2 ^ b = 0) then 0 - f else f)
def sg (i j : Nat) : Int := sgF 4 i j 1
theorem lotN_nil {t : Nat} (h : t < 16) : decide (lotN t = []) = decide (t = 0) := lotN_dec (j := 0) h (by decide)
theorem lt_nil : D.tup [] = lt [] := rfl
theorem below_LT (n : Nat) {k b : Nat} (hk : k < 16) (hb : b < 5) (S : Ob) : callN (PU L) (n + 1) f_below [LT k, .int ((b + 1 : Nat) : Int)] [] S = .ok (LT (k % 2 ^ b)) S := by
  have := below_ok L n (lotN k) (lotN_lim k) (b + 1) S
  rw [lotN_low k hk b hb] at this
  exact this
theorem in_LT (S : Ob) {k b : Nat} (hk : k < 16) (hb : b < 4) : cmpD S .isin (.int ((b + 1 : Nat) : Int)) (LT k) = some (k.testBit b) := by
  rw [LT, in_lt, lotN_bit k hk b hb]
theorem ne_LT0 (S : Ob) {k : Nat} (hk : k < 16) : cmpD S .ne (LT k) (.tup []) = some (!decide (k = 0)) := by
  rw [lt_nil, LT, ne_lt, lotN_nil hk]
theorem eq_LT0 (S : Ob) {k : Nat} (hk : k < 16) : cmpD S .eq (LT k) (.tup []) = some (decide (k = 0)) := by
  rw [lt_nil, LT, eq_lt, lotN_nil hk]
theorem eq_LT (S : Ob) {i j : Nat} (hi : i < 16) (hj : j < 16) : cmpD S .eq (LT i) (LT j) = some (decide (i = j)) := by
  rw [LT, LT, eq_lt, lotN_dec hi hj]
/-- where the loop over the signs stands -/
def sgI (i j : Nat) (S : Ob) (k : Nat) (ρ : Env) (S' : Ob) : Prop := S' = S ∧ ∃ (h t : Nat) (f : Int) (v2 v6 v7 : Option D), h < 16 ∧ t < 16 ∧ ρ = [some (LT i), some (LT j), v2, some (.int f), some (LT h), some (LT t), v6, v7] ∧ sgF (4 - k) h t f = sg i j
theorem sg_turn {n : Nat} (i j k y : Nat) (ρ : Env) (S S' : Ob) (hy : [3, 2, 1, 0][k]? = some y) (hI : sgI i j S k ρ S') : ∃ ρ1, asgTg (.nm 2) (.int ((y + 1 : Nat) : Int)) ρ = some ρ1 ∧
    (evSs (PU L) (callN (PU L) (n + 1)) [.asg (.tp [.nm 6, .nm 7]) (.tup [.cmp .isin (.var 2) (.var 4), .cmp .isin (.var 2) (.var 5)]), .asg (.tp [.nm 4, .nm 5]) (.tup [.call 501 [.var 4, .var 2] [], .call 501 [.var 5, .var 2] []]), .ite (.and (.var 6) (.cmp .ne (.var 5) (.tup []))) [.set 3 (.bin .sub (.cst (.int (0))) (.var 3))] [], .ite (.var 7) [.asg (.tp [.nm 4, .nm 5]) (.tup [.var 5, .var 4])] []] ρ1 S').To
      (sgI i j S (k + 1)) (sgI i j S [3, 2, 1, 0].length) (sgI i j S (k + 1)) (fun _ _ => False) := by
  obtain ⟨rfl, h, t, f, v2, v6, v7, hh, ht, rfl, hs⟩ := hI
  have hk : k < 4 ∧ y = 3 - k := by
    rcases k with _ | _ | _ | _ | k <;> simp at hy <;> omega
  obtain ⟨hk, rfl⟩ := hk
  refine ⟨[some (LT i), some (LT j), some (.int ((3 - k + 1 : Nat) : Int)), some (.int f), some (LT h), some (LT t), v6, v7], by simp only [ev_var, ev_cst, ev_glb, ev_tup, ev_lst, ev_dic, ev_bin, ev_cmp, ev_chn, ev_neg, ev_not, ev_and, ev_or, ev_ite, ev_ix, ev_slc, ev_call, ev_blt, ev_mth, evs_nil, evs_cons, evo_none, evo_some, evc_nil, evc_cons, st_set, st_asg, st_seti, st_aug, st_expr, st_ret, st_retN, st_ite, st_brk, st_cont, st_pass, sts_nil, sts_cons, finS_nx, finS_rt, tg_nm, tg_tup, tg_lst, tgs_nil, tgs_cons, wipeE, itOf, itD, rd, res_some, mkO_false, mkO_lst, mkO_dct, bltD, toInt?, ckI, List.getElem?_cons_zero, List.getElem?_cons_succ, List.set_cons_zero, List.set_cons_succ, r_bind, r_bindN, r_st, seq_nx, seq_rt, seq_bk, seq_ct, List.length_cons, List.length_nil, if_true, if_false, ite_true, ite_false, reduceIte, Bool.false_eq_true, Option.map_some, Option.bind_some], ?_⟩
  have hy4 : 3 - k < 4 := by omega
  generalize hb : 3 - k = b at *
  have hs' : sgF (b + 1) h t f = sg i j := by rw [← hs]; congr 1; omega
  have e1 := in_LT S' hh hy4
  have e2 := in_LT S' ht hy4
  have e3 := below_LT L n hh (b := b) (by omega) S'
  have e4 := below_LT L n ht (b := b) (by omega) S'
  have h1 : h % 2 ^ b < 16 := Nat.lt_of_le_of_lt (Nat.mod_le _ _) hh
  have t1 : t % 2 ^ b < 16 := Nat.lt_of_le_of_lt (Nat.mod_le _ _) ht
  have e5 := ne_LT0 S' t1
  have hk1 : 4 - (k + 1) = b := by omega
  rw [sgF] at hs'
  cases hb1 : h.testBit b <;> cases hb2 : t.testBit b <;> rw [hb1] at e1 hs' <;> rw [hb2] at e2 hs' <;> by_cases h0 : t % 2 ^ b = 0 <;> simp only [h0, decide_true, decide_false, Bool.not_true, Bool.not_false, Bool.and_true, Bool.and_false, Bool.true_and, Bool.false_and, if_true, if_false, Bool.false_eq_true] at e5 hs' <;> simp only [ev_var, ev_cst, ev_glb, ev_tup, ev_lst, ev_dic, ev_bin, ev_cmp, ev_chn, ev_neg, ev_not, ev_and, ev_or, ev_ite, ev_ix, ev_slc, ev_call, ev_blt, ev_mth, evs_nil, evs_cons, evo_none, evo_some, evc_nil, evc_cons, st_set, st_asg, st_seti, st_aug, st_expr, st_ret, st_retN, st_ite, st_brk, st_cont, st_pass, sts_nil, sts_cons, finS_nx, finS_rt, tg_nm, tg_tup, tg_lst, tgs_nil, tgs_cons, wipeE, itOf, itD, rd, res_some, mkO_false, mkO_lst, mkO_dct, bltD, toInt?, ckI, List.getElem?_cons_zero, List.getElem?_cons_succ, List.set_cons_zero, List.set_cons_succ, r_bind, r_bindN, r_st, seq_nx, seq_rt, seq_bk, seq_ct, List.length_cons, List.length_nil, if_true, if_false, ite_true, ite_false, reduceIte, Bool.false_eq_true, Option.map_some, Option.bind_some, e1, e2, e3, e4, e5, h0, binD] <;>
    exact ⟨rfl, _, _, _, _, _, _, by first | assumption | omega, by first | assumption | omega, rfl, by rw [hk1]; exact hs'⟩
theorem To.eqNx {r : SR} {I : Env → Ob → Prop} (h : r.To I (fun _ _ => False) (fun _ _ => False) (fun _ _ => False)) : ∃ ρ S, r = .nx ρ S ∧ I ρ S := by
  cases r <;> first | exact h.elim | skip
  exact ⟨_, _, rfl, h⟩
theorem sign_of_ok (n : Nat) {i j : Nat} (hi : i < 16) (hj : j < 16) (S : Ob) : callN (PU L) (n + 2) f_sign_of [LT i, LT j] [] S = .ok (.int (sg i j)) S := by
  rw [c_sign_of, b_sign_of]
  have h1 : evEs (PU L) (callN (PU L) (n + 1)) [.glb 37, .cst (.int (0)), .bin .sub (.cst (.int (0))) (.cst (.int (1)))] [some (LT i), some (LT j), none, some (.int 1), some (LT i), some (LT j), none, none] S = .ok [.int 4, .int 0, .int (-1)] S := by
    have : look (PU L).consts 37 = some (.int 4) := by kernel_rfl
    simp only [ev_var, ev_cst, ev_glb, ev_tup, ev_lst, ev_dic, ev_bin, ev_cmp, ev_chn, ev_neg, ev_not, ev_and, ev_or, ev_ite, ev_ix, ev_slc, ev_call, ev_blt, ev_mth, evs_nil, evs_cons, evo_none, evo_some, evc_nil, evc_cons, st_set, st_asg, st_seti, st_aug, st_expr, st_ret, st_retN, st_ite, st_brk, st_cont, st_pass, sts_nil, sts_cons, finS_nx, finS_rt, tg_nm, tg_tup, tg_lst, tgs_nil, tgs_cons, wipeE, itOf, itD, rd, res_some, mkO_false, mkO_lst, mkO_dct, bltD, toInt?, ckI, List.getElem?_cons_zero, List.getElem?_cons_succ, List.set_cons_zero, List.set_cons_succ, r_bind, r_bindN, r_st, seq_nx, seq_rt, seq_bk, seq_ct, List.length_cons, List.length_nil, if_true, if_false, ite_true, ite_false, reduceIte, Bool.false_eq_true, Option.map_some, Option.bind_some, this, binD]
    rfl
  have h2 : itD S .range [.int 4, .int 0, .int (-1)] = some ([3, 2, 1, 0].map fun (y : Nat) => .int ((y + 1 : Nat) : Int)) := by
    have s0 : small 0 = true := by decide +kernel
    have s1 : small (-1) = true := by decide +kernel
    have s4 : small 4 = true := by decide +kernel
    show (if small 4 && small 0 && small (-1) && decide ((-1 : Int) = -1) then some (rangeL 4 ((4 : Int) - 0).toNat (-1)) else none) = _
    rw [s0, s1, s4]
    rfl
  obtain ⟨ρ, S', e, rfl, h, t, f, v2, v6, v7, hh, ht, rfl, hf⟩ := To.eqNx (st_forC (tg := .nm 2) (w := .range) (fun y : Nat => D.int ((y + 1 : Nat) : Int)) (sgI i j S) h1 h2 rfl (fun k y ρ S' hy h => sg_turn L i j k y ρ S S' hy h) ⟨rfl, i, j, 1, none, none, none, hi, hj, rfl, rfl⟩)
  simp only [ev_var, ev_cst, ev_glb, ev_tup, ev_lst, ev_dic, ev_bin, ev_cmp, ev_chn, ev_neg, ev_not, ev_and, ev_or, ev_ite, ev_ix, ev_slc, ev_call, ev_blt, ev_mth, evs_nil, evs_cons, evo_none, evo_some, evc_nil, evc_cons, st_set, st_asg, st_seti, st_aug, st_expr, st_ret, st_retN, st_ite, st_brk, st_cont, st_pass, sts_nil, sts_cons, finS_nx, finS_rt, tg_nm, tg_tup, tg_lst, tgs_nil, tgs_cons, wipeE, itOf, itD, rd, res_some, mkO_false, mkO_lst, mkO_dct, bltD, toInt?, ckI, List.getElem?_cons_zero, List.getElem?_cons_succ, List.set_cons_zero, List.set_cons_succ, r_bind, r_bindN, r_st, seq_nx, seq_rt, seq_bk, seq_ct, List.length_cons, List.length_nil, if_true, if_false, ite_true, ite_false, reduceIte, Bool.false_eq_true, Option.map_some, Option.bind_some, e]
  have : sgF 0 h t f = sg i j := hf
  rw [sgF] at this
  rw [this]
theorem sg_one (i j : Nat) : sg i j = 1 ∨ sg i j = -1 := by
  have key : ∀ (b h t : Nat) (f : Int), (f = 1 ∨ f = -1) → (sgF b h t f = 1 ∨ sgF b h t f = -1) := by
    intro b
    induction b with
    | zero => intro h t f hf; rw [sgF]; exact hf
    | succ b ih =>
      intro h t f hf
      have hf' : (if h.testBit b && !decide (t % 2 ^ b = 0) then 0 - f else f) = 1 ∨ (if h.testBit b && !decide (t % 2 ^ b = 0) then 0 - f else f) = -1 := by split <;> omega
      rw [sgF]
      cases t.testBit b <;> exact ih _ _ _ hf'
  exact key 4 i j 1 (.inl rfl)
/-- what two lots folded are worth -/
def wtL (s : List Rat) (j : Nat) : List Nat → Rat → Rat
  | [], f => f
  | b :: l, f => wtL s j l (if decide (b ∈ lotN j) then f * s.getD (b - 1) 0 else f)
def wt (s : List Rat) (i j : Nat) : Rat := wtL s j (lotN i) (sg i j : Int)
/-- numbers as data -/
def nms (s : List Rat) : List D := s.map nm
def stp (s : List Rat) : D := .tup (nms s)
theorem ix_stp (S : Ob) (s : List Rat) {b : Nat} (h1 : 1 ≤ b) (h2 : b ≤ s.length) : ixD S (stp s) (.int ((b : Int) - 1)) = some (nm (s.getD (b - 1) 0)) := by
  show (ixOf (nms s).length ((b : Int) - 1)).bind (fun j => (nms s)[j]?) = _
  have hl : (nms s).length = s.length := List.length_map ..
  have e : ixOf (nms s).length ((b : Int) - 1) = some (b - 1) := by
    unfold ixOf L2.ixN
    rw [hl, if_pos (by omega), if_pos (by omega)]
    congr 1
    omega
  rw [e, Option.bind_some]
  show (s.map nm)[b - 1]? = _
  rw [List.getElem?_map, List.getElem?_eq_getElem (by omega)]
  simp [List.getD_eq_getElem?_getD, List.getElem?_eq_getElem (show b - 1 < s.length by omega)]
/-- steps that are small fractions -/
def StpOk (m : Nat) (s : List Rat) : Prop := s.length = m ∧ m ≤ 4 ∧ ∀ q ∈ s, Fr 2 6 q
theorem StpOk.get {m : Nat} {s : List Rat} (h : StpOk m s) (b : Nat) : Fr 2 6 (s.getD b 0) := by
  by_cases hb : b < s.length
  · rw [List.getD_eq_getElem?_getD, List.getElem?_eq_getElem hb]
    exact h.2.2 _ (List.getElem_mem hb)
  · rw [List.getD_eq_getElem?_getD, List.getElem?_eq_none (by omega)]
    exact (Fr.zero (by decide)).mono (by decide)
/-- a fraction of 2 ^ c parts, at most 6 ^ c of them -/
theorem wtL_fr {m : Nat} {s : List Rat} (h : StpOk m s) (j : Nat) : ∀ (l : List Nat) (f : Rat) (c : Nat), Fr (2 ^ c) (6 ^ c) f → Fr (2 ^ (c + l.length)) (6 ^ (c + l.length)) (wtL s j l f)
  | [], f, c, hf => hf
  | b :: l, f, c, hf => by
    rw [wtL, List.length_cons, show c + (l.length + 1) = c + 1 + l.length by omega]
    refine wtL_fr h j l _ (c + 1) ?_
    split
    · rw [Nat.pow_succ, Nat.pow_succ]; exact hf.mul (h.get _)
    · rw [Nat.pow_succ, Nat.pow_succ]
      exact (hf.scale 2 (by decide)).mono (Nat.mul_le_mul_left _ (by decide))
theorem fr_up {c : Nat} {q : Rat} (hc : c ≤ 4) (h : Fr (2 ^ c) (6 ^ c) q) : Fr 16 1296 q := by
  have := h.scale (2 ^ (4 - c)) (Nat.pow_pos (by decide))
  rw [← Nat.pow_add, show c + (4 - c) = 4 by omega] at this
  refine this.mono ?_
  have h1 : 2 ^ (4 - c) ≤ 6 ^ (4 - c) := Nat.pow_le_pow_left (by decide) _
  have h2 : 6 ^ c * 2 ^ (4 - c) ≤ 6 ^ c * 6 ^ (4 - c) := Nat.mul_le_mul_left _ h1
  rw [← Nat.pow_add, show c + (4 - c) = 4 by omega] at h2
  exact h2
theorem sg_fr (i j : Nat) : Fr (2 ^ 0) (6 ^ 0) ((sg i j : Int) : Rat) := by
  have := Fr.int (sg i j)
  refine this.mono ?_
  rcases sg_one i j with h | h <;> rw [h] <;> decide
theorem wt_fr {m : Nat} {s : List Rat} (h : StpOk m s) (i j : Nat) : Fr 16 1296 (wt s i j) := by
  have := wtL_fr h j (lotN i) _ 0 (sg_fr i j)
  rw [Nat.zero_add] at this
  exact fr_up (lotN_len i) this
theorem sm_16 : Sm 16 := by unfold Sm; decide +kernel
theorem sm_1296 : Sm 1296 := by unfold Sm; decide +kernel
theorem Fr.sm4 {c : Nat} {q : Rat} (hc : c ≤ 4) (h : Fr (2 ^ c) (6 ^ c) q) : SmQ q := (fr_up hc h).sm sm_16 sm_1296
theorem lot_lt {m k : Nat} (hm : m ≤ 4) (hk : k < 2 ^ m) : k < 16 := Nat.lt_of_lt_of_le hk (Nat.pow_le_pow_right (n := 2) (by decide) hm)
theorem lotN_below : ∀ m < 5, ∀ k < 2 ^ m, ∀ b ∈ lotN k, 1 ≤ b ∧ b ≤ m := by decide +kernel
/-- where the loop over the worth stands: at the lot's k-th doubling -/
def wtI (s : List Rat) (i j : Nat) (S : Ob) (k : Nat) (ρ : Env) (S' : Ob) : Prop := S' = S ∧ ∃ (f : Rat) (v4 : Option D), Fr (2 ^ k) (6 ^ k) f ∧ ρ = [some (stp s), some (LT i), some (LT j), some (nm f), v4] ∧ wtL s j ((lotN i).drop k) f = wt s i j
theorem wt_turn {n m : Nat} {s : List Rat} (g : Nat) (hg : ∀ (p q : Rat) (S : Ob), SmQ p → SmQ q → callN (PU L) n g [nm p, nm q] [] S = .ok (nm (p * q)) S) (hs : StpOk m s) {i j : Nat} (hi : i < 2 ^ m) (hj : j < 2 ^ m) (k y : Nat) (ρ : Env) (S S' : Ob) (hy : (lotN i)[k]? = some y) (h : wtI s i j S k ρ S') :
    ∃ ρ1, asgTg (.nm 4) (.int (y : Int)) ρ = some ρ1 ∧ (evSs (PU L) (callN (PU L) n) [.set 3 (.ite (.cmp .isin (.var 4) (.var 2)) (.call g [.var 3, .ix (.var 0) (.bin .sub (.var 4) (.cst (.int (1))))] []) (.var 3))] ρ1 S').To
      (wtI s i j S (k + 1)) (wtI s i j S (lotN i).length) (wtI s i j S (k + 1)) (fun _ _ => False) := by
  obtain ⟨rfl, f, v4, hf, rfl, hw⟩ := h
  refine ⟨[some (stp s), some (LT i), some (LT j), some (nm f), some (.int (y : Int))], by simp only [ev_var, ev_cst, ev_glb, ev_tup, ev_lst, ev_dic, ev_bin, ev_cmp, ev_chn, ev_neg, ev_not, ev_and, ev_or, ev_ite, ev_ix, ev_slc, ev_call, ev_blt, ev_mth, evs_nil, evs_cons, evo_none, evo_some, evc_nil, evc_cons, st_set, st_asg, st_seti, st_aug, st_expr, st_ret, st_retN, st_ite, st_brk, st_cont, st_pass, sts_nil, sts_cons, finS_nx, finS_rt, tg_nm, tg_tup, tg_lst, tgs_nil, tgs_cons, wipeE, itOf, itD, rd, res_some, mkO_false, mkO_lst, mkO_dct, bltD, toInt?, ckI, List.getElem?_cons_zero, List.getElem?_cons_succ, List.set_cons_zero, List.set_cons_succ, r_bind, r_bindN, r_st, seq_nx, seq_rt, seq_bk, seq_ct, List.length_cons, List.length_nil, if_true, if_false, ite_true, ite_false, reduceIte, Bool.false_eq_true, Option.map_some, Option.bind_some], ?_⟩
  have hk : k < (lotN i).length := (List.getElem?_eq_some_iff.mp hy).1
  have hy2 : (lotN i)[k] = y := (List.getElem?_eq_some_iff.mp hy).2
  have hb := lotN_below m (by have := hs.2.1; omega) i hi y (List.mem_of_getElem? hy)
  have hdrop : (lotN i).drop k = y :: (lotN i).drop (k + 1) := by rw [List.drop_eq_getElem_cons hk, hy2]
  rw [hdrop, wtL] at hw
  have e1 : cmpD S' .isin (.int (y : Int)) (LT j) = some (decide (y ∈ lotN j)) := in_lt S' y (lotN j)
  have e2 := ix_stp S' s hb.1 (by rw [hs.1]; exact hb.2)
  have hl := lotN_len i
  have e3 := hg f (s.getD (y - 1) 0) S' (hf.sm4 (by omega)) ((hs.get (y - 1)).sm (by unfold Sm; decide +kernel) (by unfold Sm; decide +kernel))
  by_cases hm : y ∈ lotN j
  · simp only [hm, decide_true, if_true] at hw e1
    simp only [ev_var, ev_cst, ev_glb, ev_tup, ev_lst, ev_dic, ev_bin, ev_cmp, ev_chn, ev_neg, ev_not, ev_and, ev_or, ev_ite, ev_ix, ev_slc, ev_call, ev_blt, ev_mth, evs_nil, evs_cons, evo_none, evo_some, evc_nil, evc_cons, st_set, st_asg, st_seti, st_aug, st_expr, st_ret, st_retN, st_ite, st_brk, st_cont, st_pass, sts_nil, sts_cons, finS_nx, finS_rt, tg_nm, tg_tup, tg_lst, tgs_nil, tgs_cons, wipeE, itOf, itD, rd, res_some, mkO_false, mkO_lst, mkO_dct, bltD, toInt?, ckI, List.getElem?_cons_zero, List.getElem?_cons_succ, List.set_cons_zero, List.set_cons_succ, r_bind, r_bindN, r_st, seq_nx, seq_rt, seq_bk, seq_ct, List.length_cons, List.length_nil, if_true, if_false, ite_true, ite_false, reduceIte, Bool.false_eq_true, Option.map_some, Option.bind_some, e1, e2, e3, binD]
    exact ⟨rfl, _, _, by rw [Nat.pow_succ, Nat.pow_succ]; exact hf.mul (hs.get _), rfl, hw⟩
  · simp only [hm, decide_false, Bool.false_eq_true, if_false] at hw e1
    simp only [ev_var, ev_cst, ev_glb, ev_tup, ev_lst, ev_dic, ev_bin, ev_cmp, ev_chn, ev_neg, ev_not, ev_and, ev_or, ev_ite, ev_ix, ev_slc, ev_call, ev_blt, ev_mth, evs_nil, evs_cons, evo_none, evo_some, evc_nil, evc_cons, st_set, st_asg, st_seti, st_aug, st_expr, st_ret, st_retN, st_ite, st_brk, st_cont, st_pass, sts_nil, sts_cons, finS_nx, finS_rt, tg_nm, tg_tup, tg_lst, tgs_nil, tgs_cons, wipeE, itOf, itD, rd, res_some, mkO_false, mkO_lst, mkO_dct, bltD, toInt?, ckI, List.getElem?_cons_zero, List.getElem?_cons_succ, List.set_cons_zero, List.set_cons_succ, r_bind, r_bindN, r_st, seq_nx, seq_rt, seq_bk, seq_ct, List.length_cons, List.length_nil, if_true, if_false, ite_true, ite_false, reduceIte, Bool.false_eq_true, Option.map_some, Option.bind_some, e1, e2, e3, binD]
    exact ⟨rfl, _, _, by rw [Nat.pow_succ, Nat.pow_succ]; exact (hf.scale 2 (by decide)).mono (Nat.mul_le_mul_left _ (by decide)), rfl, hw⟩
theorem worth_of_ok (n : Nat) {m : Nat} {s : List Rat} (hs : StpOk m s) {i j : Nat} (hi : i < 2 ^ m) (hj : j < 2 ^ m) (S : Ob) : callN (PU L) (n + 3) f_worth_of [stp s, LT i, LT j] [] S = .ok (nm (wt s i j)) S := by
  rw [c_worth_of, b_worth_of]
  have e1 := sign_of_ok L n (lot_lt hs.2.1 hi) (lot_lt hs.2.1 hj) S
  have g1 : look (PU L).consts 93 = some (nm 1) := by kernel_rfl
  have e2 : callN (PU L) (n + 2) 686 [nm 1] [] S = .ok (nm (-1)) S := minus_ok L (n + 1) 1 S
  have e3 : evE (PU L) (callN (PU L) (n + 2)) (.ite (.cmp .eq (.call 803 [.var 1, .var 2] []) (.cst (.int (1)))) (.glb 93) (.call 686 [.glb 93] [])) [some (stp s), some (LT i), some (LT j), none, none] S = .ok (nm ((sg i j : Int) : Rat)) S := by
    have q1 : cmpD S .eq (.int 1) (.int 1) = some true := rfl
    have q2 : cmpD S .eq (.int (-1)) (.int 1) = some false := rfl
    rcases sg_one i j with h | h <;> rw [h] at e1 ⊢ <;> simp only [ev_var, ev_cst, ev_glb, ev_tup, ev_lst, ev_dic, ev_bin, ev_cmp, ev_chn, ev_neg, ev_not, ev_and, ev_or, ev_ite, ev_ix, ev_slc, ev_call, ev_blt, ev_mth, evs_nil, evs_cons, evo_none, evo_some, evc_nil, evc_cons, st_set, st_asg, st_seti, st_aug, st_expr, st_ret, st_retN, st_ite, st_brk, st_cont, st_pass, sts_nil, sts_cons, finS_nx, finS_rt, tg_nm, tg_tup, tg_lst, tgs_nil, tgs_cons, wipeE, itOf, itD, rd, res_some, mkO_false, mkO_lst, mkO_dct, bltD, toInt?, ckI, List.getElem?_cons_zero, List.getElem?_cons_succ, List.set_cons_zero, List.set_cons_succ, r_bind, r_bindN, r_st, seq_nx, seq_rt, seq_bk, seq_ct, List.length_cons, List.length_nil, if_true, if_false, ite_true, ite_false, reduceIte, Bool.false_eq_true, Option.map_some, Option.bind_some, e1, e2, g1, q1, q2] <;> rfl
  have h1 : evEs (PU L) (callN (PU L) (n + 2)) [.var 1] [some (stp s), some (LT i), some (LT j), some (nm ((sg i j : Int) : Rat)), none] S = .ok [LT i] S := by simp only [ev_var, ev_cst, ev_glb, ev_tup, ev_lst, ev_dic, ev_bin, ev_cmp, ev_chn, ev_neg, ev_not, ev_and, ev_or, ev_ite, ev_ix, ev_slc, ev_call, ev_blt, ev_mth, evs_nil, evs_cons, evo_none, evo_some, evc_nil, evc_cons, st_set, st_asg, st_seti, st_aug, st_expr, st_ret, st_retN, st_ite, st_brk, st_cont, st_pass, sts_nil, sts_cons, finS_nx, finS_rt, tg_nm, tg_tup, tg_lst, tgs_nil, tgs_cons, wipeE, itOf, itD, rd, res_some, mkO_false, mkO_lst, mkO_dct, bltD, toInt?, ckI, List.getElem?_cons_zero, List.getElem?_cons_succ, List.set_cons_zero, List.set_cons_succ, r_bind, r_bindN, r_st, seq_nx, seq_rt, seq_bk, seq_ct, List.length_cons, List.length_nil, if_true, if_false, ite_true, ite_false, reduceIte, Bool.false_eq_true, Option.map_some, Option.bind_some]
  obtain ⟨ρ, S', e, rfl, f, v4, hf, rfl, hw⟩ := To.eqNx (st_forC (tg := .nm 4) (w := .val) (fun y : Nat => D.int (y : Int)) (wtI s i j S) h1 (it_lt S (lotN i)) (gd_lt S (lotN i)) (fun k y ρ S' hy h => wt_turn L 832 (fun p q S hp hq => times_ok L n hp hq S) hs hi hj k y ρ S S' hy h) ⟨rfl, _, none, sg_fr i j, rfl, rfl⟩)
  rw [List.drop_length, wtL] at hw
  simp only [sts_cons, sts_nil, st_set, e3, r_st, seq_nx, List.set_cons_zero, List.set_cons_succ, e, st_ret, ev_var, List.getElem?_cons_zero, List.getElem?_cons_succ, seq_rt, finS_rt, hw]
end
end QL
set_option Elab.async false
set_option linter.all false
set_option maxRecDepth 100000
set_option maxHeartbeats 1000000
set_option exponentiation.threshold 20000
/-! QM4: steps, worths asked; the law's own. -/
namespace QL
open PySem
section
variable (L : LDef)
theorem bools_map (n : Nat) : boolsOf (List.replicate n (.bl true)) = some (List.replicate n true) := by
  induction n with
  | zero => rfl
  | succ n ih => rw [List.replicate_succ, boolsOf, ih]; rfl
theorem all_rep {α : Type} (S : Ob) (l : List α) : bltD S .all [.lst (l.map fun _ => D.bl true)] = some (.bl true) := by
  show (boolsOf (l.map fun _ => D.bl true)).map (fun bs => D.bl (bs.all id)) = _
  rw [List.map_const', bools_map, Option.map_some]
  simp
theorem need_steps_ok (n : Nat) {m : Nat} {s : List Rat} (hs : StpOk m s) (S : Ob) : callN (PU L) (n + 3) f_need_steps [stp s] [] S = .ok .non S := by
  rw [c_need_steps, b_need_steps]
  have hl : (nms s).length = s.length := List.length_map ..
  have b1 : bltD S .isi [stp s, .ty .tuple] = some (.bl true) := rfl
  have b2 : bltD S .len [stp s] = some (.int s.length) := by
    show some (D.int ((nms s).length : Int)) = _
    rw [hl]
  have g1 : look (PU L).consts 37 = some (.int 4) := by kernel_rfl
  have c1 : cmpD S .gt (.int s.length) (.int 4) = some false := by
    show some (decide ((4 : Int) < s.length)) = _
    have := hs.1
    have := hs.2.1
    rw [decide_eq_false (by omega)]
  have k1 := ev_lcM (P := PU L) (cf := callN (PU L) (n + 2)) (tg := .nm 1) (w := .val) (it := [.var 0]) (ifs := []) (e := .call 598 [.var 1] []) (own := [1]) (ρ := [some (stp s), none]) (S := S) (xs := [stp s]) nm (fun _ => .bl true) (ys := s) (by simp only [ev_var, ev_cst, ev_glb, ev_tup, ev_lst, ev_dic, ev_bin, ev_cmp, ev_chn, ev_neg, ev_not, ev_and, ev_or, ev_ite, ev_ix, ev_slc, ev_call, ev_blt, ev_mth, evs_nil, evs_cons, evo_none, evo_some, evc_nil, evc_cons, st_set, st_asg, st_seti, st_aug, st_expr, st_ret, st_retN, st_ite, st_brk, st_cont, st_pass, sts_nil, sts_cons, finS_nx, finS_rt, tg_nm, tg_tup, tg_lst, tgs_nil, tgs_cons, wipeE, itOf, itD, rd, res_some, mkO_false, mkO_lst, mkO_dct, bltD, toInt?, ckI, List.getElem?_cons_zero, List.getElem?_cons_succ, List.set_cons_zero, List.set_cons_succ, r_bind, r_bindN, r_st, seq_nx, seq_rt, seq_bk, seq_ct, List.length_cons, List.length_nil, if_true, if_false, ite_true, ite_false, reduceIte, Bool.false_eq_true, Option.map_some, Option.bind_some]) rfl rfl
    (fun q hq => ⟨[some (stp s), some (nm q)], by simp only [ev_var, ev_cst, ev_glb, ev_tup, ev_lst, ev_dic, ev_bin, ev_cmp, ev_chn, ev_neg, ev_not, ev_and, ev_or, ev_ite, ev_ix, ev_slc, ev_call, ev_blt, ev_mth, evs_nil, evs_cons, evo_none, evo_some, evc_nil, evc_cons, st_set, st_asg, st_seti, st_aug, st_expr, st_ret, st_retN, st_ite, st_brk, st_cont, st_pass, sts_nil, sts_cons, finS_nx, finS_rt, tg_nm, tg_tup, tg_lst, tgs_nil, tgs_cons, wipeE, itOf, itD, rd, res_some, mkO_false, mkO_lst, mkO_dct, bltD, toInt?, ckI, List.getElem?_cons_zero, List.getElem?_cons_succ, List.set_cons_zero, List.set_cons_succ, r_bind, r_bindN, r_st, seq_nx, seq_rt, seq_bk, seq_ct, List.length_cons, List.length_nil, if_true, if_false, ite_true, ite_false, reduceIte, Bool.false_eq_true, Option.map_some, Option.bind_some], by simp only [ev_var, ev_cst, ev_glb, ev_tup, ev_lst, ev_dic, ev_bin, ev_cmp, ev_chn, ev_neg, ev_not, ev_and, ev_or, ev_ite, ev_ix, ev_slc, ev_call, ev_blt, ev_mth, evs_nil, evs_cons, evo_none, evo_some, evc_nil, evc_cons, st_set, st_asg, st_seti, st_aug, st_expr, st_ret, st_retN, st_ite, st_brk, st_cont, st_pass, sts_nil, sts_cons, finS_nx, finS_rt, tg_nm, tg_tup, tg_lst, tgs_nil, tgs_cons, wipeE, itOf, itD, rd, res_some, mkO_false, mkO_lst, mkO_dct, bltD, toInt?, ckI, List.getElem?_cons_zero, List.getElem?_cons_succ, List.set_cons_zero, List.set_cons_succ, r_bind, r_bindN, r_st, seq_nx, seq_rt, seq_bk, seq_ct, List.length_cons, List.length_nil, if_true, if_false, ite_true, ite_false, reduceIte, Bool.false_eq_true, Option.map_some, Option.bind_some], by simp only [ev_var, ev_cst, ev_glb, ev_tup, ev_lst, ev_dic, ev_bin, ev_cmp, ev_chn, ev_neg, ev_not, ev_and, ev_or, ev_ite, ev_ix, ev_slc, ev_call, ev_blt, ev_mth, evs_nil, evs_cons, evo_none, evo_some, evc_nil, evc_cons, st_set, st_asg, st_seti, st_aug, st_expr, st_ret, st_retN, st_ite, st_brk, st_cont, st_pass, sts_nil, sts_cons, finS_nx, finS_rt, tg_nm, tg_tup, tg_lst, tgs_nil, tgs_cons, wipeE, itOf, itD, rd, res_some, mkO_false, mkO_lst, mkO_dct, bltD, toInt?, ckI, List.getElem?_cons_zero, List.getElem?_cons_succ, List.set_cons_zero, List.set_cons_succ, r_bind, r_bindN, r_st, seq_nx, seq_rt, seq_bk, seq_ct, List.length_cons, List.length_nil, if_true, if_false, ite_true, ite_false, reduceIte, Bool.false_eq_true, Option.map_some, Option.bind_some, is_number_ok L n q S]⟩) (by have := hs.1; have := hs.2.1; rw [lim_eq]; omega)
  simp only [ev_var, ev_cst, ev_glb, ev_cmp, ev_not, ev_or, ev_blt, evs_nil, evs_cons, sts_nil, sts_cons, st_ite, finS_nx, res_some, mkO_false, r_bind, r_st, seq_nx, List.getElem?_cons_zero, b1, b2, c1, g1, k1, all_rep, Option.map_some, Bool.not_true]
theorem len_stp (S : Ob) (s : List Rat) : bltD S .len [stp s] = some (.int s.length) := by
  show some (D.int ((nms s).length : Int)) = _
  rw [show (nms s).length = s.length from List.length_map ..]
theorem worth_ok (n : Nat) {m : Nat} {s : List Rat} (hs : StpOk m s) {i j : Nat} (hi : i < 2 ^ m) (hj : j < 2 ^ m) (S : Ob) : callN (PU L) (n + 4) f_worth [stp s, LT i, LT j] [] S = .ok (nm (wt s i j)) S := by
  rw [c_worth, b_worth]
  have e1 := need_steps_ok L n hs S
  have e2 := need_lots_ok L n hs.2.1 hi hj S
  have e3 := worth_of_ok L n hs hi hj S
  have e4 := len_stp S s
  rw [hs.1] at e4
  simp only [ev_var, ev_call, ev_blt, evs_nil, evs_cons, sts_nil, sts_cons, st_expr, st_ret, finS_rt, res_some, mkO_false, r_bind, r_st, seq_nx, seq_rt, List.getElem?_cons_zero, List.getElem?_cons_succ, e1, e2, e3, e4]
/-! ### the law's signs -/
def hiB (k : Nat) : Nat := k.log2
/-- the law's recursion, so deep -/
def lsO : Nat → Nat → Nat → Option Int
  | 0, _, _ => none
  | d + 1, i, j =>
    if i = 0 ∨ j = 0 then some 1 else
      let top := max i.log2 j.log2
      let here := if i.log2 = top then i - 2 ^ i.log2 else i
      let there := if j.log2 = top then j - 2 ^ j.log2 else j
      if i.log2 ≠ top then lsO d there here
      else ((if j.log2 = top then lsO d there here else lsO d here there).map fun v => (if there = 0 then 1 else -1) * v)
theorem lsO_one : ∀ (d i j : Nat) (v : Int), lsO d i j = some v → v = 1 ∨ v = -1
  | 0, _, _, _, h => by cases h
  | d + 1, i, j, v, h => by
    rw [lsO] at h
    split at h
    · cases h; exact .inl rfl
    · dsimp only at h
      split at h
      · exact lsO_one _ _ _ _ h
      · obtain ⟨u, hu, hv⟩ := Option.map_eq_some_iff.mp h
        have : u = 1 ∨ u = -1 := by split at hu <;> exact lsO_one _ _ _ _ hu
        have q : ∀ (p : Prop) [Decidable p] (u : Int), (u = 1 ∨ u = -1) → ((if p then (1 : Int) else -1) * u = 1 ∨ (if p then (1 : Int) else -1) * u = -1) := by
          intro p _ u hu
          split <;> rcases hu with rfl | rfl <;> simp
        rw [← hv]
        exact q _ _ this
theorem ls_sg : ∀ i < 16, ∀ j < 16, lsO 9 i j = some (sg i j) := by decide +kernel
theorem ix_top (S : Ob) : (List.range 15).map (fun k => ixD S (LT (k + 1)) (.int (-1))) = (List.range 15).map (fun k => some (.int (((k + 1).log2 + 1 : Nat) : Int))) := by kernel_rfl
theorem slc_top (S : Ob) : (List.range 15).map (fun k => slcD S (LT (k + 1)) none (some (-1))) = (List.range 15).map (fun k => some (LT (k + 1 - 2 ^ (k + 1).log2))) := by kernel_rfl
theorem ix_topE (S : Ob) {k : Nat} (h0 : k ≠ 0) (hk : k < 16) : ixD S (LT k) (.int (-1)) = some (.int ((k.log2 + 1 : Nat) : Int)) := by
  obtain ⟨k, rfl⟩ : ∃ q, k = q + 1 := ⟨k - 1, by omega⟩
  exact List.map_inj_left.mp (ix_top S) k (List.mem_range.mpr (by omega))
theorem slc_topE (S : Ob) {k : Nat} (h0 : k ≠ 0) (hk : k < 16) : slcD S (LT k) none (some (-1)) = some (LT (k - 2 ^ k.log2)) := by
  obtain ⟨k, rfl⟩ : ∃ q, k = q + 1 := ⟨k - 1, by omega⟩
  exact List.map_inj_left.mp (slc_top S) k (List.mem_range.mpr (by omega))
theorem eq_nat (S : Ob) (a b : Nat) : cmpD S .eq (.int (a : Int)) (.int (b : Int)) = some (decide (a = b)) := by
  show eqD S (.int a) (.int b) = _
  show some (decide ((a : Int) = (b : Int))) = _
  congr 1
  rw [decide_eq_decide]
  omega
theorem ne_nat (S : Ob) (a b : Nat) : cmpD S .ne (.int (a : Int)) (.int (b : Int)) = some (!decide (a = b)) := by
  show (cmpD S .eq (.int (a : Int)) (.int (b : Int))).map (!·) = _
  rw [eq_nat]; rfl
theorem max_nat (S : Ob) (a b : Nat) : bltD S .max [.int ((a + 1 : Nat) : Int), .int ((b + 1 : Nat) : Int)] = some (.int ((max a b + 1 : Nat) : Int)) := by
  show some (D.int (if ((b + 1 : Nat) : Int) > ((a + 1 : Nat) : Int) then _ else _)) = _
  congr 2
  split <;> omega
theorem law_sign_rec : ∀ (d n i j : Nat) (v : Int) (S : Ob), i < 16 → j < 16 → lsO d i j = some v → callN (PU L) (n + d) f_law_sign [LT i, LT j] [] S = .ok (.int v) S
  | 0, n, i, j, v, S, _, _, h => by cases h
  | d + 1, n, i, j, v, S, hi, hj, h => by
    have ih := fun i j v hi hj h => law_sign_rec d n i j v S hi hj h
    rw [show n + (d + 1) = n + d + 1 by omega, c_law_sign, b_law_sign]
    have z1 := eq_LT0 S hi
    have z2 := eq_LT0 S hj
    rw [lsO] at h
    by_cases h1 : i = 0
    · rw [if_pos (.inl h1)] at h
      cases h
      simp only [h1, decide_true] at z1
      subst h1
      simp only [ev_var, ev_cst, ev_glb, ev_tup, ev_lst, ev_dic, ev_bin, ev_cmp, ev_chn, ev_neg, ev_not, ev_and, ev_or, ev_ite, ev_ix, ev_slc, ev_call, ev_blt, ev_mth, evs_nil, evs_cons, evo_none, evo_some, evc_nil, evc_cons, st_set, st_asg, st_seti, st_aug, st_expr, st_ret, st_retN, st_ite, st_brk, st_cont, st_pass, sts_nil, sts_cons, finS_nx, finS_rt, tg_nm, tg_tup, tg_lst, tgs_nil, tgs_cons, wipeE, itOf, itD, rd, res_some, mkO_false, mkO_lst, mkO_dct, bltD, toInt?, ckI, List.getElem?_cons_zero, List.getElem?_cons_succ, List.set_cons_zero, List.set_cons_succ, r_bind, r_bindN, r_st, seq_nx, seq_rt, seq_bk, seq_ct, List.length_cons, List.length_nil, if_true, if_false, ite_true, ite_false, reduceIte, Bool.false_eq_true, Option.map_some, Option.bind_some, z1]
    by_cases h2 : j = 0
    · rw [if_pos (.inr h2)] at h
      cases h
      simp only [h1, decide_false] at z1
      simp only [h2, decide_true] at z2
      subst h2
      simp only [ev_var, ev_cst, ev_glb, ev_tup, ev_lst, ev_dic, ev_bin, ev_cmp, ev_chn, ev_neg, ev_not, ev_and, ev_or, ev_ite, ev_ix, ev_slc, ev_call, ev_blt, ev_mth, evs_nil, evs_cons, evo_none, evo_some, evc_nil, evc_cons, st_set, st_asg, st_seti, st_aug, st_expr, st_ret, st_retN, st_ite, st_brk, st_cont, st_pass, sts_nil, sts_cons, finS_nx, finS_rt, tg_nm, tg_tup, tg_lst, tgs_nil, tgs_cons, wipeE, itOf, itD, rd, res_some, mkO_false, mkO_lst, mkO_dct, bltD, toInt?, ckI, List.getElem?_cons_zero, List.getElem?_cons_succ, List.set_cons_zero, List.set_cons_succ, r_bind, r_bindN, r_st, seq_nx, seq_rt, seq_bk, seq_ct, List.length_cons, List.length_nil, if_true, if_false, ite_true, ite_false, reduceIte, Bool.false_eq_true, Option.map_some, Option.bind_some, z1, z2]
    rw [if_neg (by omega)] at h
    simp only [h1, decide_false] at z1
    simp only [h2, decide_false] at z2
    have t1 := ix_topE S h1 hi
    have t2 := ix_topE S h2 hj
    have s1 := slc_topE S h1 hi
    have s2 := slc_topE S h2 hj
    have mx := max_nat S i.log2 j.log2
    have q1 := eq_nat S (i.log2 + 1) (max i.log2 j.log2 + 1)
    have q2 := eq_nat S (j.log2 + 1) (max i.log2 j.log2 + 1)
    have q3 := ne_nat S (i.log2 + 1) (max i.log2 j.log2 + 1)
    have q0 : ∀ a b : Nat, decide (a + 1 = b + 1) = decide (a = b) := fun a b => by rw [decide_eq_decide]; omega
    rw [q0] at q1 q2 q3
    generalize htop : max i.log2 j.log2 = top at *
    -- the two stripped
    have comp : ∀ (A B : Nat), (∀ x, x = i ∨ x = j → True) → (if i.log2 = top then i - 2 ^ i.log2 else i) = A → (if j.log2 = top then j - 2 ^ j.log2 else j) = B →
        evE (PU L) (callN (PU L) (n + d)) (.lc false (.nm 6) .val [.tup [.var 0, .var 1]] [] (.ite (.cmp .eq (.ix (.var 6) (.neg (.cst (.int (1))))) (.var 2)) (.slc (.var 6) none (some (.neg (.cst (.int (1)))))) (.var 6)) [6]) [some (LT i), some (LT j), some (.int ((top + 1 : Nat) : Int)), none, none, none, none] S = .ok (.lst [LT A, LT B]) S := by
      intro A B _ hA hB
      have key := ev_lcM (P := PU L) (cf := callN (PU L) (n + d)) (tg := .nm 6) (w := .val) (it := [.tup [.var 0, .var 1]]) (ifs := []) (e := .ite (.cmp .eq (.ix (.var 6) (.neg (.cst (.int (1))))) (.var 2)) (.slc (.var 6) none (some (.neg (.cst (.int (1)))))) (.var 6)) (own := [6]) (ρ := [some (LT i), some (LT j), some (.int ((top + 1 : Nat) : Int)), none, none, none, none]) (S := S) (xs := [.tup [LT i, LT j]])
        (fun b : Bool => if b then LT i else LT j) (fun b : Bool => if b then LT A else LT B) (ys := [true, false]) (by simp only [ev_var, ev_cst, ev_glb, ev_tup, ev_lst, ev_dic, ev_bin, ev_cmp, ev_chn, ev_neg, ev_not, ev_and, ev_or, ev_ite, ev_ix, ev_slc, ev_call, ev_blt, ev_mth, evs_nil, evs_cons, evo_none, evo_some, evc_nil, evc_cons, st_set, st_asg, st_seti, st_aug, st_expr, st_ret, st_retN, st_ite, st_brk, st_cont, st_pass, sts_nil, sts_cons, finS_nx, finS_rt, tg_nm, tg_tup, tg_lst, tgs_nil, tgs_cons, wipeE, itOf, itD, rd, res_some, mkO_false, mkO_lst, mkO_dct, bltD, toInt?, ckI, List.getElem?_cons_zero, List.getElem?_cons_succ, List.set_cons_zero, List.set_cons_succ, r_bind, r_bindN, r_st, seq_nx, seq_rt, seq_bk, seq_ct, List.length_cons, List.length_nil, if_true, if_false, ite_true, ite_false, reduceIte, Bool.false_eq_true, Option.map_some, Option.bind_some]) rfl rfl (fun b hb => ⟨[some (LT i), some (LT j), some (.int ((top + 1 : Nat) : Int)), none, none, none, some (if b then LT i else LT j)], by simp only [ev_var, ev_cst, ev_glb, ev_tup, ev_lst, ev_dic, ev_bin, ev_cmp, ev_chn, ev_neg, ev_not, ev_and, ev_or, ev_ite, ev_ix, ev_slc, ev_call, ev_blt, ev_mth, evs_nil, evs_cons, evo_none, evo_some, evc_nil, evc_cons, st_set, st_asg, st_seti, st_aug, st_expr, st_ret, st_retN, st_ite, st_brk, st_cont, st_pass, sts_nil, sts_cons, finS_nx, finS_rt, tg_nm, tg_tup, tg_lst, tgs_nil, tgs_cons, wipeE, itOf, itD, rd, res_some, mkO_false, mkO_lst, mkO_dct, bltD, toInt?, ckI, List.getElem?_cons_zero, List.getElem?_cons_succ, List.set_cons_zero, List.set_cons_succ, r_bind, r_bindN, r_st, seq_nx, seq_rt, seq_bk, seq_ct, List.length_cons, List.length_nil, if_true, if_false, ite_true, ite_false, reduceIte, Bool.false_eq_true, Option.map_some, Option.bind_some], by simp only [ev_var, ev_cst, ev_glb, ev_tup, ev_lst, ev_dic, ev_bin, ev_cmp, ev_chn, ev_neg, ev_not, ev_and, ev_or, ev_ite, ev_ix, ev_slc, ev_call, ev_blt, ev_mth, evs_nil, evs_cons, evo_none, evo_some, evc_nil, evc_cons, st_set, st_asg, st_seti, st_aug, st_expr, st_ret, st_retN, st_ite, st_brk, st_cont, st_pass, sts_nil, sts_cons, finS_nx, finS_rt, tg_nm, tg_tup, tg_lst, tgs_nil, tgs_cons, wipeE, itOf, itD, rd, res_some, mkO_false, mkO_lst, mkO_dct, bltD, toInt?, ckI, List.getElem?_cons_zero, List.getElem?_cons_succ, List.set_cons_zero, List.set_cons_succ, r_bind, r_bindN, r_st, seq_nx, seq_rt, seq_bk, seq_ct, List.length_cons, List.length_nil, if_true, if_false, ite_true, ite_false, reduceIte, Bool.false_eq_true, Option.map_some, Option.bind_some], by
          cases b
          · by_cases c : j.log2 = top
            · rw [if_pos c] at hB
              simp only [c, decide_true] at q2
              rw [c] at t2 s2 hB
              simp only [ev_var, ev_cst, ev_glb, ev_tup, ev_lst, ev_dic, ev_bin, ev_cmp, ev_chn, ev_neg, ev_not, ev_and, ev_or, ev_ite, ev_ix, ev_slc, ev_call, ev_blt, ev_mth, evs_nil, evs_cons, evo_none, evo_some, evc_nil, evc_cons, st_set, st_asg, st_seti, st_aug, st_expr, st_ret, st_retN, st_ite, st_brk, st_cont, st_pass, sts_nil, sts_cons, finS_nx, finS_rt, tg_nm, tg_tup, tg_lst, tgs_nil, tgs_cons, wipeE, itOf, itD, rd, res_some, mkO_false, mkO_lst, mkO_dct, bltD, toInt?, ckI, List.getElem?_cons_zero, List.getElem?_cons_succ, List.set_cons_zero, List.set_cons_succ, r_bind, r_bindN, r_st, seq_nx, seq_rt, seq_bk, seq_ct, List.length_cons, List.length_nil, if_true, if_false, ite_true, ite_false, reduceIte, Bool.false_eq_true, Option.map_some, Option.bind_some, t2, s2, q2, Int.reduceNeg, c, hB]
            · rw [if_neg c] at hB
              subst hB
              simp only [c, decide_false] at q2
              simp only [ev_var, ev_cst, ev_glb, ev_tup, ev_lst, ev_dic, ev_bin, ev_cmp, ev_chn, ev_neg, ev_not, ev_and, ev_or, ev_ite, ev_ix, ev_slc, ev_call, ev_blt, ev_mth, evs_nil, evs_cons, evo_none, evo_some, evc_nil, evc_cons, st_set, st_asg, st_seti, st_aug, st_expr, st_ret, st_retN, st_ite, st_brk, st_cont, st_pass, sts_nil, sts_cons, finS_nx, finS_rt, tg_nm, tg_tup, tg_lst, tgs_nil, tgs_cons, wipeE, itOf, itD, rd, res_some, mkO_false, mkO_lst, mkO_dct, bltD, toInt?, ckI, List.getElem?_cons_zero, List.getElem?_cons_succ, List.set_cons_zero, List.set_cons_succ, r_bind, r_bindN, r_st, seq_nx, seq_rt, seq_bk, seq_ct, List.length_cons, List.length_nil, if_true, if_false, ite_true, ite_false, reduceIte, Bool.false_eq_true, Option.map_some, Option.bind_some, t2, s2, q2, Int.reduceNeg]
          · by_cases c : i.log2 = top
            · rw [if_pos c] at hA
              simp only [c, decide_true] at q1
              rw [c] at t1 s1 hA
              simp only [ev_var, ev_cst, ev_glb, ev_tup, ev_lst, ev_dic, ev_bin, ev_cmp, ev_chn, ev_neg, ev_not, ev_and, ev_or, ev_ite, ev_ix, ev_slc, ev_call, ev_blt, ev_mth, evs_nil, evs_cons, evo_none, evo_some, evc_nil, evc_cons, st_set, st_asg, st_seti, st_aug, st_expr, st_ret, st_retN, st_ite, st_brk, st_cont, st_pass, sts_nil, sts_cons, finS_nx, finS_rt, tg_nm, tg_tup, tg_lst, tgs_nil, tgs_cons, wipeE, itOf, itD, rd, res_some, mkO_false, mkO_lst, mkO_dct, bltD, toInt?, ckI, List.getElem?_cons_zero, List.getElem?_cons_succ, List.set_cons_zero, List.set_cons_succ, r_bind, r_bindN, r_st, seq_nx, seq_rt, seq_bk, seq_ct, List.length_cons, List.length_nil, if_true, if_false, ite_true, ite_false, reduceIte, Bool.false_eq_true, Option.map_some, Option.bind_some, t1, s1, q1, Int.reduceNeg, c, hA]
            · rw [if_neg c] at hA
              subst hA
              simp only [c, decide_false] at q1
              simp only [ev_var, ev_cst, ev_glb, ev_tup, ev_lst, ev_dic, ev_bin, ev_cmp, ev_chn, ev_neg, ev_not, ev_and, ev_or, ev_ite, ev_ix, ev_slc, ev_call, ev_blt, ev_mth, evs_nil, evs_cons, evo_none, evo_some, evc_nil, evc_cons, st_set, st_asg, st_seti, st_aug, st_expr, st_ret, st_retN, st_ite, st_brk, st_cont, st_pass, sts_nil, sts_cons, finS_nx, finS_rt, tg_nm, tg_tup, tg_lst, tgs_nil, tgs_cons, wipeE, itOf, itD, rd, res_some, mkO_false, mkO_lst, mkO_dct, bltD, toInt?, ckI, List.getElem?_cons_zero, List.getElem?_cons_succ, List.set_cons_zero, List.set_cons_succ, r_bind, r_bindN, r_st, seq_nx, seq_rt, seq_bk, seq_ct, List.length_cons, List.length_nil, if_true, if_false, ite_true, ite_false, reduceIte, Bool.false_eq_true, Option.map_some, Option.bind_some, t1, s1, q1, Int.reduceNeg]⟩) (by decide)
      exact key
    obtain ⟨A, hA⟩ : ∃ A, (if i.log2 = top then i - 2 ^ i.log2 else i) = A := ⟨_, rfl⟩
    obtain ⟨B, hB⟩ : ∃ B, (if j.log2 = top then j - 2 ^ j.log2 else j) = B := ⟨_, rfl⟩
    have A16 : A < 16 := by rw [← hA]; split <;> first | exact hi | exact Nat.lt_of_le_of_lt (Nat.sub_le _ _) hi
    have B16 : B < 16 := by rw [← hB]; split <;> first | exact hj | exact Nat.lt_of_le_of_lt (Nat.sub_le _ _) hj
    have k1 := comp A B (fun _ _ => trivial) hA hB
    have zB := eq_LT0 S B16
    have m1 : ∀ v : Int, (v = 1 ∨ v = -1) → mulOk 1 v = true ∧ mulOk (-1) v = true := by
      rintro v (rfl | rfl) <;> exact ⟨by decide +kernel, by decide +kernel⟩
    dsimp only at h
    rw [hA, hB] at h
    by_cases c1 : i.log2 = top
    · rw [if_neg (by simp [c1])] at h
      obtain ⟨u, hu, hv⟩ := Option.map_eq_some_iff.mp h
      have hu1 : u = 1 ∨ u = -1 := by split at hu <;> exact lsO_one _ _ _ _ hu
      obtain ⟨m2, m3⟩ := m1 u hu1
      simp only [c1, decide_true, Bool.not_true] at q3
      rw [c1] at t1 mx
      rw [← hv]
      have fin : ∀ (w : Int), binD S .mul (.int w) (.int u) = (if mulOk w u then some (.int (w * u)) else none) := fun w => rfl
      by_cases c2 : j.log2 = top
      · rw [if_pos c2] at hu
        have r := ih B A u B16 A16 hu
        simp only [c2, decide_true] at q2
        rw [c2] at t2 mx
        by_cases c3 : B = 0
        · simp only [c3, decide_true] at zB
          simp only [c3, if_true]
          subst c3
          simp only [ev_var, ev_cst, ev_glb, ev_tup, ev_lst, ev_dic, ev_bin, ev_cmp, ev_chn, ev_neg, ev_not, ev_and, ev_or, ev_ite, ev_ix, ev_slc, ev_call, ev_blt, ev_mth, evs_nil, evs_cons, evo_none, evo_some, evc_nil, evc_cons, st_set, st_asg, st_seti, st_aug, st_expr, st_ret, st_retN, st_ite, st_brk, st_cont, st_pass, sts_nil, sts_cons, finS_nx, finS_rt, tg_nm, tg_tup, tg_lst, tgs_nil, tgs_cons, wipeE, itOf, itD, rd, res_some, mkO_false, mkO_lst, mkO_dct, toInt?, ckI, List.getElem?_cons_zero, List.getElem?_cons_succ, List.set_cons_zero, List.set_cons_succ, r_bind, r_bindN, r_st, seq_nx, seq_rt, seq_bk, seq_ct, List.length_cons, List.length_nil, if_true, if_false, ite_true, ite_false, reduceIte, Bool.false_eq_true, Option.map_some, Option.bind_some, z1, z2, t1, t2, mx, k1, q3, zB, q2, r, Int.reduceNeg, fin, m2]
        · simp only [c3, decide_false] at zB
          simp only [c3, if_false]
          simp only [ev_var, ev_cst, ev_glb, ev_tup, ev_lst, ev_dic, ev_bin, ev_cmp, ev_chn, ev_neg, ev_not, ev_and, ev_or, ev_ite, ev_ix, ev_slc, ev_call, ev_blt, ev_mth, evs_nil, evs_cons, evo_none, evo_some, evc_nil, evc_cons, st_set, st_asg, st_seti, st_aug, st_expr, st_ret, st_retN, st_ite, st_brk, st_cont, st_pass, sts_nil, sts_cons, finS_nx, finS_rt, tg_nm, tg_tup, tg_lst, tgs_nil, tgs_cons, wipeE, itOf, itD, rd, res_some, mkO_false, mkO_lst, mkO_dct, toInt?, ckI, List.getElem?_cons_zero, List.getElem?_cons_succ, List.set_cons_zero, List.set_cons_succ, r_bind, r_bindN, r_st, seq_nx, seq_rt, seq_bk, seq_ct, List.length_cons, List.length_nil, if_true, if_false, ite_true, ite_false, reduceIte, Bool.false_eq_true, Option.map_some, Option.bind_some, z1, z2, t1, t2, mx, k1, q3, zB, q2, r, Int.reduceNeg, fin, m3]
      · rw [if_neg c2] at hu
        have r := ih A B u A16 B16 hu
        simp only [c2, decide_false] at q2
        by_cases c3 : B = 0
        · simp only [c3, decide_true] at zB
          simp only [c3, if_true]
          subst c3
          simp only [ev_var, ev_cst, ev_glb, ev_tup, ev_lst, ev_dic, ev_bin, ev_cmp, ev_chn, ev_neg, ev_not, ev_and, ev_or, ev_ite, ev_ix, ev_slc, ev_call, ev_blt, ev_mth, evs_nil, evs_cons, evo_none, evo_some, evc_nil, evc_cons, st_set, st_asg, st_seti, st_aug, st_expr, st_ret, st_retN, st_ite, st_brk, st_cont, st_pass, sts_nil, sts_cons, finS_nx, finS_rt, tg_nm, tg_tup, tg_lst, tgs_nil, tgs_cons, wipeE, itOf, itD, rd, res_some, mkO_false, mkO_lst, mkO_dct, toInt?, ckI, List.getElem?_cons_zero, List.getElem?_cons_succ, List.set_cons_zero, List.set_cons_succ, r_bind, r_bindN, r_st, seq_nx, seq_rt, seq_bk, seq_ct, List.length_cons, List.length_nil, if_true, if_false, ite_true, ite_false, reduceIte, Bool.false_eq_true, Option.map_some, Option.bind_some, z1, z2, t1, t2, mx, k1, q3, zB, q2, r, Int.reduceNeg, fin, m2]
        · simp only [c3, decide_false] at zB
          simp only [c3, if_false]
          simp only [ev_var, ev_cst, ev_glb, ev_tup, ev_lst, ev_dic, ev_bin, ev_cmp, ev_chn, ev_neg, ev_not, ev_and, ev_or, ev_ite, ev_ix, ev_slc, ev_call, ev_blt, ev_mth, evs_nil, evs_cons, evo_none, evo_some, evc_nil, evc_cons, st_set, st_asg, st_seti, st_aug, st_expr, st_ret, st_retN, st_ite, st_brk, st_cont, st_pass, sts_nil, sts_cons, finS_nx, finS_rt, tg_nm, tg_tup, tg_lst, tgs_nil, tgs_cons, wipeE, itOf, itD, rd, res_some, mkO_false, mkO_lst, mkO_dct, toInt?, ckI, List.getElem?_cons_zero, List.getElem?_cons_succ, List.set_cons_zero, List.set_cons_succ, r_bind, r_bindN, r_st, seq_nx, seq_rt, seq_bk, seq_ct, List.length_cons, List.length_nil, if_true, if_false, ite_true, ite_false, reduceIte, Bool.false_eq_true, Option.map_some, Option.bind_some, z1, z2, t1, t2, mx, k1, q3, zB, q2, r, Int.reduceNeg, fin, m3]
    · rw [if_pos c1] at h
      have := ih B A v B16 A16 h
      simp only [c1, decide_false, Bool.not_false] at q3
      simp only [ev_var, ev_cst, ev_glb, ev_tup, ev_lst, ev_dic, ev_bin, ev_cmp, ev_chn, ev_neg, ev_not, ev_and, ev_or, ev_ite, ev_ix, ev_slc, ev_call, ev_blt, ev_mth, evs_nil, evs_cons, evo_none, evo_some, evc_nil, evc_cons, st_set, st_asg, st_seti, st_aug, st_expr, st_ret, st_retN, st_ite, st_brk, st_cont, st_pass, sts_nil, sts_cons, finS_nx, finS_rt, tg_nm, tg_tup, tg_lst, tgs_nil, tgs_cons, wipeE, itOf, itD, rd, res_some, mkO_false, mkO_lst, mkO_dct, toInt?, ckI, List.getElem?_cons_zero, List.getElem?_cons_succ, List.set_cons_zero, List.set_cons_succ, r_bind, r_bindN, r_st, seq_nx, seq_rt, seq_bk, seq_ct, List.length_cons, List.length_nil, if_true, if_false, ite_true, ite_false, reduceIte, Bool.false_eq_true, Option.map_some, Option.bind_some, z1, z2, t1, t2, mx, k1, q3, this, Int.reduceNeg]
theorem law_sign_ok (n : Nat) {i j : Nat} (hi : i < 16) (hj : j < 16) (S : Ob) : callN (PU L) (n + 9) f_law_sign [LT i, LT j] [] S = .ok (.int (sg i j)) S :=
  law_sign_rec L 9 n i j _ S hi hj (ls_sg i hi j hj)
theorem law_by_ok (n : Nat) {m : Nat} {s : List Rat} (hs : StpOk m s) {i j : Nat} (hi : i < 2 ^ m) (hj : j < 2 ^ m) (S : Ob) : callN (PU L) (n + 10) f_law_by [stp s, LT i, LT j] [] S = .ok (nm (wt s i j)) S := by
  rw [c_law_by, b_law_by]
  have e1 := law_sign_ok L n (lot_lt hs.2.1 hi) (lot_lt hs.2.1 hj) S
  have e3 : evE (PU L) (callN (PU L) (n + 9)) (.tup [.call 358 [.var 1, .var 2] [], .cst (.int 1)]) [some (stp s), some (LT i), some (LT j), none, none] S = .ok (nm ((sg i j : Int) : Rat)) S := by
    simp only [ev_var, ev_cst, ev_glb, ev_tup, ev_lst, ev_dic, ev_bin, ev_cmp, ev_chn, ev_neg, ev_not, ev_and, ev_or, ev_ite, ev_ix, ev_slc, ev_call, ev_blt, ev_mth, evs_nil, evs_cons, evo_none, evo_some, evc_nil, evc_cons, st_set, st_asg, st_seti, st_aug, st_expr, st_ret, st_retN, st_ite, st_brk, st_cont, st_pass, sts_nil, sts_cons, finS_nx, finS_rt, tg_nm, tg_tup, tg_lst, tgs_nil, tgs_cons, wipeE, itOf, itD, rd, res_some, mkO_false, mkO_lst, mkO_dct, bltD, toInt?, ckI, List.getElem?_cons_zero, List.getElem?_cons_succ, List.set_cons_zero, List.set_cons_succ, r_bind, r_bindN, r_st, seq_nx, seq_rt, seq_bk, seq_ct, List.length_cons, List.length_nil, if_true, if_false, ite_true, ite_false, reduceIte, Bool.false_eq_true, Option.map_some, Option.bind_some, e1]
    rfl
  have h1 : evEs (PU L) (callN (PU L) (n + 9)) [.var 1] [some (stp s), some (LT i), some (LT j), some (nm ((sg i j : Int) : Rat)), none] S = .ok [LT i] S := by simp only [ev_var, ev_cst, ev_glb, ev_tup, ev_lst, ev_dic, ev_bin, ev_cmp, ev_chn, ev_neg, ev_not, ev_and, ev_or, ev_ite, ev_ix, ev_slc, ev_call, ev_blt, ev_mth, evs_nil, evs_cons, evo_none, evo_some, evc_nil, evc_cons, st_set, st_asg, st_seti, st_aug, st_expr, st_ret, st_retN, st_ite, st_brk, st_cont, st_pass, sts_nil, sts_cons, finS_nx, finS_rt, tg_nm, tg_tup, tg_lst, tgs_nil, tgs_cons, wipeE, itOf, itD, rd, res_some, mkO_false, mkO_lst, mkO_dct, bltD, toInt?, ckI, List.getElem?_cons_zero, List.getElem?_cons_succ, List.set_cons_zero, List.set_cons_succ, r_bind, r_bindN, r_st, seq_nx, seq_rt, seq_bk, seq_ct, List.length_cons, List.length_nil, if_true, if_false, ite_true, ite_false, reduceIte, Bool.false_eq_true, Option.map_some, Option.bind_some]
  obtain ⟨ρ, S', e, rfl, f, v4, hf, rfl, hw⟩ := To.eqNx (st_forC (tg := .nm 4) (w := .val) (fun y : Nat => D.int (y : Int)) (wtI s i j S) h1 (it_lt S (lotN i)) (gd_lt S (lotN i)) (fun k y ρ S' hy h => wt_turn L 429 (fun p q S hp hq => law_times_ok L (n + 6) hp hq S) hs hi hj k y ρ S S' hy h) ⟨rfl, _, none, sg_fr i j, rfl, rfl⟩)
  rw [List.drop_length, wtL] at hw
  simp only [sts_cons, sts_nil, st_set, e3, r_st, seq_nx, List.set_cons_zero, List.set_cons_succ, e, st_ret, ev_var, List.getElem?_cons_zero, List.getElem?_cons_succ, seq_rt, finS_rt, hw]
end
end QL
set_option Elab.async false
set_option linter.all false
set_option maxRecDepth 100000
set_option maxHeartbeats 1000000
set_option exponentiation.threshold 20000
/-! QM5: the law's draws. -/
namespace QL
open PySem
abbrev kGreat : D := .str [103, 114, 101, 97, 116]
abbrev kCells : D := .str [99, 101, 108, 108, 115]
abbrev kRest : D := .str [114, 101, 115, 116]
abbrev kTurn : D := .str [116, 117, 114, 110]
def zsD (l : List Int) : List D := l.map .int
/-- the objects behind a draw: the great cells, the state; what else there is -/
def sto (g c : List Int) (r t : Int) (T : Ob) : Ob := AO.lst (zsD g) :: AO.dct [kGreat, kCells, kRest, kTurn] [.ref 0, .lst (zsD c), .int r, .int t] :: T
/-- a state that has been drawn from at most b times -/
def WS (b : Nat) (T S : Ob) : Prop := ∃ g c r t, S = sto g c r t T ∧ g.length ≤ 63 ∧ c.length ≤ 63 ∧ 0 ≤ t ∧ t ≤ b
theorem WS.mono {b b' : Nat} {T S : Ob} (h : WS b T S) (l : b ≤ b') : WS b' T S := by
  obtain ⟨g, c, r, t, e, h1, h2, h3, h4⟩ := h
  exact ⟨g, c, r, t, e, h1, h2, h3, by omega⟩
theorem WS.len {b : Nat} {T S : Ob} (h : WS b T S) : S.length = T.length + 2 := by
  obtain ⟨g, c, r, t, e, _⟩ := h
  rw [e]; rfl
section
variable (g c : List Int) (r t x : Int) (T : Ob)
theorem ix_great : ixD (sto g c r t T) (.ref 1) kGreat = some (.ref 0) := by kernel_rfl
theorem ix_cells : ixD (sto g c r t T) (.ref 1) kCells = some (.lst (zsD c)) := by kernel_rfl
theorem ix_rest : ixD (sto g c r t T) (.ref 1) kRest = some (.int r) := by kernel_rfl
theorem ix_turn : ixD (sto g c r t T) (.ref 1) kTurn = some (.int t) := by kernel_rfl
theorem set_rest : setD (sto g c r t T) (.ref 1) kRest (.int x) = some (sto g c x t T) := by kernel_rfl
theorem set_turn : setD (sto g c r t T) (.ref 1) kTurn (.int x) = some (sto g c r x T) := by kernel_rfl
theorem great_ne : cmpD (sto g c r t T) .ne (.ref 0) (.lst []) = some (!decide (g = [])) := by
  have hf : D.flats (zsD g) = true := by
    unfold zsD
    induction g with
    | nil => rfl
    | cons a l ih => rw [List.map_cons, D.flats, D.flat, ih]; rfl
  have hd : D.deps (zsD g) = 0 := by
    unfold zsD
    clear hf
    induction g with
    | nil => rfl
    | cons a l ih => rw [List.map_cons, D.deps, ih]; rfl
  show (if D.flat (.lst (zsD g)) && D.flat (.lst []) && Nat.ble (min (D.dep (.lst (zsD g))) (D.dep (.lst []))) 60 then some ((D.lst (zsD g)).eqv (.lst [])) else none).map (!·) = _
  rw [D.flat, hf, D.dep, hd]
  cases g with
  | nil => rfl
  | cons a l => rfl
theorem great_pop (a : Int) (l : List Int) : mthD (sto (a :: l) c r t T) .lst .pop (.ref 0) [.int 0] = some (.int a, sto l c r t T) := by
  have h1 : ixOf (zsD (a :: l)).length 0 = some 0 := by
    unfold ixOf L2.ixN
    rw [if_pos (by omega), if_pos (by simp [zsD])]
    rfl
  show ((ixOf (zsD (a :: l)).length 0).bind fun j => ((zsD (a :: l))[j]?).map fun y => (y, (sto (a :: l) c r t T).set 0 (.lst ((zsD (a :: l)).eraseIdx j)))) = _
  rw [h1]
  rfl
end
section
variable (L : LDef)
theorem law_mixed_ok (n : Nat) {b : Nat} {T S : Ob} (h : WS b T S) (hb : b < 2 ^ 40) : (callN (PU L) (n + 1) f_law_mixed [.ref 1] [] S).To fun d S' => (∃ v : Int, d = .int v) ∧ WS (b + 1) T S' := by
  obtain ⟨g, c, r, t, rfl, h1, h2, h3, h4⟩ := h
  rw [c_law_mixed, b_law_mixed]
  refine SR.To.finT ?_
  rw [sts_cons, st_asg]
  simp only [ev_tup, evs_cons, evs_nil, ev_bin, ev_ix, ev_var, ev_cst, List.getElem?_cons_zero, r_bind, ix_turn, res_some, binD, rd, r_st, tg_tup, tgs_cons, tgs_nil, tg_nm, Option.bind_some, List.set_cons_zero, List.set_cons_succ, seq_nx]
  rw [sts_cons, st_seti]
  simp only [ev_var, ev_cst, List.getElem?_cons_zero, List.getElem?_cons_succ, r_bind, set_turn, r_st, seq_nx]
  rw [sts_cons]
  refine SR.To.seq ?_
  have hbig : ∀ k : Nat, k ≤ 4 → (2 : Nat) ^ (64 * k) ≤ 2 ^ 256 := fun k hk => Nat.pow_le_pow_right (by decide) (by omega)
  refine (st_forC (P := PU L) (cf := callN (PU L) n) (α := Nat) (tg := .nm 1) (w := .val) (fun p : Nat => D.int (p : Int)) (ys := [2147483629, 2147483587, 2147483579, 2147483563])
    (fun k ρ S' => S' = sto g c r (t + 1) T ∧ ∃ (f : Nat) (v1 v4 v5 : Option D), f < 2 ^ (64 * k) ∧ ρ = [some (.ref 1), v1, some (.int (t + 1)), some (.int (f : Int)), v4, v5]) (bk := fun _ _ => False) (c := fun _ _ => False) (t := fun _ _ => False) (xs := [.lst [.int 2147483629, .int 2147483587, .int 2147483579, .int 2147483563]]) ?_ rfl rfl ?_ ⟨rfl, 0, none, none, none, by decide, rfl⟩).mono ?_ (fun _ _ h => h) (fun _ _ h => h) (fun _ _ h => h.elim)
  · simp only [ev_var, ev_cst, ev_glb, ev_tup, ev_lst, ev_dic, ev_bin, ev_cmp, ev_chn, ev_neg, ev_not, ev_and, ev_or, ev_ite, ev_ix, ev_slc, ev_call, ev_blt, ev_mth, evs_nil, evs_cons, evo_none, evo_some, evc_nil, evc_cons, st_set, st_asg, st_seti, st_aug, st_expr, st_ret, st_retN, st_ite, st_brk, st_cont, st_pass, sts_nil, sts_cons, finS_nx, finS_rt, tg_nm, tg_tup, tg_lst, tgs_nil, tgs_cons, wipeE, itOf, itD, rd, res_some, mkO_false, mkO_lst, mkO_dct, bltD, toInt?, ckI, List.getElem?_cons_zero, List.getElem?_cons_succ, List.set_cons_zero, List.set_cons_succ, r_bind, r_bindN, r_st, seq_nx, seq_rt, seq_bk, seq_ct, List.length_cons, List.length_nil, if_true, if_false, ite_true, ite_false, reduceIte, Bool.false_eq_true, Option.map_some, Option.bind_some]
  · rintro k p ρ S' hp ⟨rfl, f, v1, v4, v5, hf, rfl⟩
    have hk : k < 4 := by have := (List.getElem?_eq_some_iff.mp hp).1; simpa using this
    have hpr : 2147483563 ≤ p ∧ p ≤ 2147483629 := by
      have := List.mem_of_getElem? hp
      simp only [List.mem_cons, List.not_mem_nil, or_false] at this
      omega
    refine ⟨[some (.ref 1), some (.int (p : Int)), some (.int (t + 1)), some (.int (f : Int)), v4, v5], by simp only [ev_var, ev_cst, ev_glb, ev_tup, ev_lst, ev_dic, ev_bin, ev_cmp, ev_chn, ev_neg, ev_not, ev_and, ev_or, ev_ite, ev_ix, ev_slc, ev_call, ev_blt, ev_mth, evs_nil, evs_cons, evo_none, evo_some, evc_nil, evc_cons, st_set, st_asg, st_seti, st_aug, st_expr, st_ret, st_retN, st_ite, st_brk, st_cont, st_pass, sts_nil, sts_cons, finS_nx, finS_rt, tg_nm, tg_tup, tg_lst, tgs_nil, tgs_cons, wipeE, itOf, itD, rd, res_some, mkO_false, mkO_lst, mkO_dct, bltD, toInt?, ckI, List.getElem?_cons_zero, List.getElem?_cons_succ, List.set_cons_zero, List.set_cons_succ, r_bind, r_bindN, r_st, seq_nx, seq_rt, seq_bk, seq_ct, List.length_cons, List.length_nil, if_true, if_false, ite_true, ite_false, reduceIte, Bool.false_eq_true, Option.map_some, Option.bind_some], ?_⟩
    have m1 : mulOk 69621 (t + 1) = true := mulOk_of (by decide +kernel) (Nat.lt_of_lt_of_le (show (t + 1).natAbs < 2 ^ 42 by omega) (Nat.pow_le_pow_right (by decide) (by decide)))
    have d1 : divOk 41 = true := by decide +kernel
    have hq : ((p : Int).fdiv 41) = ((p / 41 : Nat) : Int) := by rw [Int.fdiv_eq_ediv_of_nonneg _ (by omega)]; omega
    rw [sts_cons, st_set]
    simp only [ev_var, ev_cst, ev_bin, List.getElem?_cons_zero, List.getElem?_cons_succ, r_bind, res_some, binD, rd, m1, d1, if_true, r_st, List.set_cons_zero, List.set_cons_succ, seq_nx]
    rw [sts_cons]
    refine SR.To.seq ?_
    refine (st_forC (P := PU L) (cf := callN (PU L) n) (α := Int) (tg := .nm 5) (w := .val) D.int (ys := c)
      (fun k ρ S' => S' = sto g c r (t + 1) T ∧ ∃ (v : Int) (v5 : Option D), 0 ≤ v ∧ v < 2 ^ 60 ∧ ρ = [some (.ref 1), some (.int (p : Int)), some (.int (t + 1)), some (.int (f : Int)), some (.int v), v5]) (bk := fun _ _ => False) (c := fun _ _ => False) (t := fun _ _ => False) (xs := [.lst (zsD c)]) ?_ rfl rfl ?_ ⟨rfl, 69621 * (t + 1) + (p : Int).fdiv 41, v5, by omega, by omega, rfl⟩).mono ?_ (fun _ _ h => h.elim) (fun _ _ h => h.elim) (fun _ _ h => h.elim)
    · simp only [evs_cons, evs_nil, ev_ix, ev_var, ev_cst, List.getElem?_cons_zero, r_bind, ix_cells, res_some]
    · rintro k x ρ S' hx ⟨rfl, v, v5, hv1, hv2, rfl⟩
      refine ⟨[some (.ref 1), some (.int (p : Int)), some (.int (t + 1)), some (.int (f : Int)), some (.int v), some (.int x)], by simp only [ev_var, ev_cst, ev_glb, ev_tup, ev_lst, ev_dic, ev_bin, ev_cmp, ev_chn, ev_neg, ev_not, ev_and, ev_or, ev_ite, ev_ix, ev_slc, ev_call, ev_blt, ev_mth, evs_nil, evs_cons, evo_none, evo_some, evc_nil, evc_cons, st_set, st_asg, st_seti, st_aug, st_expr, st_ret, st_retN, st_ite, st_brk, st_cont, st_pass, sts_nil, sts_cons, finS_nx, finS_rt, tg_nm, tg_tup, tg_lst, tgs_nil, tgs_cons, wipeE, itOf, itD, rd, res_some, mkO_false, mkO_lst, mkO_dct, bltD, toInt?, ckI, List.getElem?_cons_zero, List.getElem?_cons_succ, List.set_cons_zero, List.set_cons_succ, r_bind, r_bindN, r_st, seq_nx, seq_rt, seq_bk, seq_ct, List.length_cons, List.length_nil, if_true, if_false, ite_true, ite_false, reduceIte, Bool.false_eq_true, Option.map_some, Option.bind_some], ?_⟩
      have m2 : mulOk v 48271 = true := mulOk_of (Nat.lt_of_lt_of_le (show v.natAbs < 2 ^ 61 by omega) (Nat.pow_le_pow_right (by decide) (by decide))) (by decide +kernel)
      have p0 : decide ((p : Int) ≠ 0) = true := decide_eq_true (by omega)
      simp only [ev_var, ev_cst, ev_glb, ev_tup, ev_lst, ev_dic, ev_bin, ev_cmp, ev_chn, ev_neg, ev_not, ev_and, ev_or, ev_ite, ev_ix, ev_slc, ev_call, ev_blt, ev_mth, evs_nil, evs_cons, evo_none, evo_some, evc_nil, evc_cons, st_set, st_asg, st_seti, st_aug, st_expr, st_ret, st_retN, st_ite, st_brk, st_cont, st_pass, sts_nil, sts_cons, finS_nx, finS_rt, tg_nm, tg_tup, tg_lst, tgs_nil, tgs_cons, wipeE, itOf, itD, rd, res_some, mkO_false, mkO_lst, mkO_dct, bltD, toInt?, ckI, List.getElem?_cons_zero, List.getElem?_cons_succ, List.set_cons_zero, List.set_cons_succ, r_bind, r_bindN, r_st, seq_nx, seq_rt, seq_bk, seq_ct, List.length_cons, List.length_nil, if_true, if_false, ite_true, ite_false, reduceIte, Bool.false_eq_true, Option.map_some, Option.bind_some, binD, m2, p0]
      obtain ⟨s1, _⟩ := fmod_sign (a := v * 48271 + x + (t + 1)) (b := (p : Int)) (by omega)
      have s2 := s1 (by omega)
      exact ⟨rfl, _, _, s2.1, by omega, rfl⟩
    · rintro ρ S' ⟨rfl, v, v5, hv1, hv2, rfl⟩
      have hf2 : f < 2 ^ 256 := Nat.lt_of_lt_of_le hf (hbig k (by omega))
      have m3 : mulOk (f : Int) 2147483659 = true := mulOk_of (Nat.lt_of_lt_of_le (show ((f : Int)).natAbs < 2 ^ 256 by omega) (Nat.pow_le_pow_right (by decide) (by decide))) (by decide +kernel)
      have p0 : decide ((p : Int) ≠ 0) = true := decide_eq_true (by omega)
      have q0 : (decide (v.natAbs < 2 ^ 64)) = true := decide_eq_true (by omega)
      have q1 : (decide ((0 : Int) ≤ 5) && decide ((5 : Int) ≤ 1000000)) = true := by decide
      have b1 : binD (sto g c r (t + 1) T) .pow (.int v) (.int 5) = some (.int (v ^ 5)) := by
        show (if decide ((0 : Int) ≤ 5) && decide ((5 : Int) ≤ 1000000) && decide (v.natAbs < 2 ^ 64) then some (D.int (v ^ (5 : Int).toNat)) else none) = _
        rw [q1, q0]; rfl
      have b2 : ∀ y : Int, binD (sto g c r (t + 1) T) .mod (.int y) (.int (p : Int)) = some (.int (y.fmod p)) := fun y => by
        show (if decide ((p : Int) ≠ 0) then some (D.int (y.fmod p)) else none) = _
        rw [p0]; rfl
      have b3 : binD (sto g c r (t + 1) T) .mul (.int (f : Int)) (.int 2147483659) = some (.int (f * 2147483659)) := by
        show (if mulOk (f : Int) 2147483659 then some (D.int (f * 2147483659)) else none) = _
        rw [m3]; rfl
      have b4 : ∀ y z : Int, binD (sto g c r (t + 1) T) .add (.int y) (.int z) = some (.int (y + z)) := fun y z => rfl
      simp only [ev_var, ev_cst, ev_glb, ev_tup, ev_lst, ev_dic, ev_bin, ev_cmp, ev_chn, ev_neg, ev_not, ev_and, ev_or, ev_ite, ev_ix, ev_slc, ev_call, ev_blt, ev_mth, evs_nil, evs_cons, evo_none, evo_some, evc_nil, evc_cons, st_set, st_asg, st_seti, st_aug, st_expr, st_ret, st_retN, st_ite, st_brk, st_cont, st_pass, sts_nil, sts_cons, finS_nx, finS_rt, tg_nm, tg_tup, tg_lst, tgs_nil, tgs_cons, wipeE, itOf, itD, rd, res_some, mkO_false, mkO_lst, mkO_dct, bltD, toInt?, ckI, List.getElem?_cons_zero, List.getElem?_cons_succ, List.set_cons_zero, List.set_cons_succ, r_bind, r_bindN, r_st, seq_nx, seq_rt, seq_bk, seq_ct, List.length_cons, List.length_nil, if_true, if_false, ite_true, ite_false, reduceIte, Bool.false_eq_true, Option.map_some, Option.bind_some, b1, b2, b3, b4]
      obtain ⟨s1, _⟩ := fmod_sign (a := v ^ 5) (b := (p : Int)) (by omega)
      have s2 := s1 (by omega)
      refine ⟨rfl, (f * 2147483659 + ((v ^ 5).fmod p).toNat), _, _, _, ?_, by rw [Int.natCast_add, Int.natCast_mul, Int.toNat_of_nonneg s2.1]; rfl⟩
      have e : 2 ^ (64 * (k + 1)) = 2 ^ (64 * k) * 18446744073709551616 := by rw [Nat.mul_add, Nat.pow_add]
      have : ((v ^ 5).fmod p).toNat < 2147483648 := by omega
      have hp1 : 0 < 2 ^ (64 * k) := Nat.pow_pos (by decide)
      omega
  · rintro ρ S' ⟨rfl, f, v1, v4, v5, hf, rfl⟩
    simp only [ev_var, ev_cst, ev_glb, ev_tup, ev_lst, ev_dic, ev_bin, ev_cmp, ev_chn, ev_neg, ev_not, ev_and, ev_or, ev_ite, ev_ix, ev_slc, ev_call, ev_blt, ev_mth, evs_nil, evs_cons, evo_none, evo_some, evc_nil, evc_cons, st_set, st_asg, st_seti, st_aug, st_expr, st_ret, st_retN, st_ite, st_brk, st_cont, st_pass, sts_nil, sts_cons, finS_nx, finS_rt, tg_nm, tg_tup, tg_lst, tgs_nil, tgs_cons, wipeE, itOf, itD, rd, res_some, mkO_false, mkO_lst, mkO_dct, bltD, toInt?, ckI, List.getElem?_cons_zero, List.getElem?_cons_succ, List.set_cons_zero, List.set_cons_succ, r_bind, r_bindN, r_st, seq_nx, seq_rt, seq_bk, seq_ct, List.length_cons, List.length_nil, if_true, if_false, ite_true, ite_false, reduceIte, Bool.false_eq_true, Option.map_some, Option.bind_some]
    exact ⟨rfl, ⟨_, rfl⟩, g, c, r, t + 1, rfl, h1, h2, by omega, by omega⟩
/-- the draw's end -/
theorem draw_end (n : Nat) {b : Nat} {T : Ob} {g c : List Int} {r t : Int} {m : Nat} (hm : 0 < m) (hm2 : m < 2 ^ 60) (h1 : g.length ≤ 63) (h2 : c.length ≤ 63) (h3 : 0 ≤ t) (h4 : t ≤ b) (v2 : Option D) {S0 : Ob} (hl : S0.length = T.length + 2) :
    (finS true S0 (evSs (PU L) (callN (PU L) n) [.set 2 (.bin .mod (.blt false .int [.ix (.var 0) (.cst (.str [114, 101, 115, 116]))]) (.var 1)), .seti (.var 0) (.cst (.str [114, 101, 115, 116])) (.bin .fdv (.ix (.var 0) (.cst (.str [114, 101, 115, 116]))) (.var 1)), .ret (.var 2)] [some (.ref 1), some (.int (m : Int)), v2] (sto g c r t T))).To
      fun d S' => (∃ k : Nat, d = .int (k : Int) ∧ k < m) ∧ WS b T S' := by
  have d1 : divOk (m : Int) = true := divOk_of (by omega) (Nat.lt_of_lt_of_le (show ((m : Int)).natAbs < 2 ^ 60 by omega) (Nat.pow_le_pow_right (by decide) (by decide)))
  have p0 : decide ((m : Int) ≠ 0) = true := decide_eq_true (by omega)
  have b2 : binD (sto g c r t T) .mod (.int r) (.int (m : Int)) = some (.int (r.fmod m)) := by
    show (if decide ((m : Int) ≠ 0) then some (D.int (r.fmod m)) else none) = _
    rw [p0]; rfl
  have b3 : binD (sto g c r t T) .fdv (.int r) (.int (m : Int)) = some (.int (r.fdiv m)) := by
    show (if divOk (m : Int) then some (D.int (r.fdiv m)) else none) = _
    rw [d1]; rfl
  refine SR.To.finT ?_
  simp only [ev_var, ev_cst, ev_glb, ev_tup, ev_lst, ev_dic, ev_bin, ev_cmp, ev_chn, ev_neg, ev_not, ev_and, ev_or, ev_ite, ev_ix, ev_slc, ev_call, ev_blt, ev_mth, evs_nil, evs_cons, evo_none, evo_some, evc_nil, evc_cons, st_set, st_asg, st_seti, st_aug, st_expr, st_ret, st_retN, st_ite, st_brk, st_cont, st_pass, sts_nil, sts_cons, finS_nx, finS_rt, tg_nm, tg_tup, tg_lst, tgs_nil, tgs_cons, wipeE, itOf, itD, rd, res_some, mkO_false, mkO_lst, mkO_dct, bltD, toInt?, ckI, List.getElem?_cons_zero, List.getElem?_cons_succ, List.set_cons_zero, List.set_cons_succ, r_bind, r_bindN, r_st, seq_nx, seq_rt, seq_bk, seq_ct, List.length_cons, List.length_nil, if_true, if_false, ite_true, ite_false, reduceIte, Bool.false_eq_true, Option.map_some, Option.bind_some, ix_rest, b2, b3, set_rest]
  obtain ⟨s1, _⟩ := fmod_sign (a := r) (b := (m : Int)) (by omega)
  have s2 := s1 (by omega)
  refine ⟨by rw [hl]; rfl, ⟨(r.fmod m).toNat, by rw [Int.toNat_of_nonneg s2.1], by omega⟩, g, c, _, t, rfl, h1, h2, h3, h4⟩
/-- a number from 0 to m - 1 -/
theorem law_draw_ok (n : Nat) {b : Nat} {T S : Ob} (h : WS b T S) (hb : b < 2 ^ 40) {m : Nat} (hm : 0 < m) (hm2 : m < 2 ^ 60) : (callN (PU L) (n + 2) f_law_draw [.ref 1, .int (m : Int)] [] S).To fun d S' => (∃ k : Nat, d = .int (k : Int) ∧ k < m) ∧ WS (b + 1) T S' := by
  have hS := h.len
  obtain ⟨g, c, r, t, rfl, h1, h2, h3, h4⟩ := id h
  rw [c_law_draw, b_law_draw]
  rw [sts_cons, st_ite]
  have q0 : cmpD (sto g c r t T) .eq (.int r) (.int 0) = some (decide (r = 0)) := rfl
  by_cases hr : r = 0
  · simp only [hr, decide_true] at q0
    subst hr
    simp only [ev_cmp, ev_ix, ev_var, ev_cst, List.getElem?_cons_zero, r_bind, ix_rest, res_some, q0, Option.map_some, r_st]
    rw [sts_cons, st_seti, ev_ite]
    cases g with
    | nil =>
      have g0 : cmpD (sto [] c 0 t T) .ne (.ref 0) (.lst []) = some false := great_ne [] c 0 t T
      simp only [ev_cmp, ev_ix, ev_var, ev_cst, ev_lst, evs_nil, evs_cons, ev_call, List.getElem?_cons_zero, r_bind, ix_great, res_some, mkO_false, g0, Option.map_some]
      obtain ⟨d, S', e, ⟨v, rfl⟩, w⟩ := (law_mixed_ok L n h hb).eq
      obtain ⟨g', c', r', t', rfl, w1, w2, w3, w4⟩ := w
      rw [e, r_st]
      simp only [r_st, set_rest, seq_nx, sts_nil]
      exact draw_end L _ hm hm2 w1 w2 w3 w4 _ hS
    | cons a l =>
      have g0 : cmpD (sto (a :: l) c 0 t T) .ne (.ref 0) (.lst []) = some true := great_ne (a :: l) c 0 t T
      have r0 : rcv .pop (isG (.ix (.var 0) (.cst (.str [103, 114, 101, 97, 116])))) (rd (sto (a :: l) c 0 t T) (.ref 0)) = some .lst := by kernel_rfl
      simp only [ev_cmp, ev_ix, ev_var, ev_cst, ev_lst, ev_mth, evs_nil, evs_cons, List.getElem?_cons_zero, r_bind, ix_great, res_some, mkO_false, g0, Option.map_some, r0, great_pop, r_st, set_rest, seq_nx, sts_nil]
      rw [List.length_cons] at h1
      exact (draw_end L _ hm hm2 (by omega) h2 h3 h4 _ hS).mono fun d S' q => ⟨q.1, q.2.mono (by omega)⟩
  · simp only [hr, decide_false] at q0
    simp only [ev_cmp, ev_ix, ev_var, ev_cst, List.getElem?_cons_zero, r_bind, ix_rest, res_some, q0, Option.map_some, r_st, sts_nil, seq_nx]
    exact (draw_end L _ hm hm2 h1 h2 h3 h4 _ hS).mono fun d S' q => ⟨q.1, q.2.mono (by omega)⟩
theorem len_list (S : Ob) (xs : List D) : bltD S .len [.lst xs] = some (.int (xs.length : Nat)) := rfl
theorem ix_list (S : Ob) (xs : List D) (k : Nat) (h : k < xs.length) : ixD S (.lst xs) (.int (k : Int)) = some xs[k] := by
  show (ixOf xs.length (k : Int)).bind (fun j => xs[j]?) = _
  have e : ixOf xs.length (k : Int) = some k := by
    unfold ixOf L2.ixN
    rw [if_pos (by omega), if_pos (by omega)]
    rfl
  rw [e, Option.bind_some, List.getElem?_eq_getElem h]
/-- one of a list -/
theorem law_pick_ok (n : Nat) {b : Nat} {T S : Ob} (h : WS b T S) (hb : b < 2 ^ 40) {xs : List D} (h0 : 0 < xs.length) (h1 : xs.length < 2 ^ 60) : (callN (PU L) (n + 3) f_law_pick [.ref 1, .lst xs] [] S).To fun d S' => d ∈ xs ∧ WS (b + 1) T S' := by
  rw [c_law_pick, b_law_pick]
  refine SR.To.fin ?_
  rw [sts_cons, st_ret, ev_ix]
  simp only [ev_var, ev_call, ev_blt, evs_cons, evs_nil, List.getElem?_cons_zero, List.getElem?_cons_succ, r_bind, len_list, res_some, mkO_false]
  obtain ⟨d, S', e, ⟨k, rfl, hk⟩, w⟩ := (law_draw_ok L n h hb h0 h1).eq
  simp only [e, r_bind, ix_list S' xs k hk, res_some, r_st, seq_rt]
  exact ⟨List.getElem_mem hk, w⟩
/-- a small fraction: of 6 parts, at most 6 wide of them -/
theorem law_some_number_ok (n : Nat) {b : Nat} {T S : Ob} (h : WS b T S) (hb : b + 2 < 2 ^ 40) {wide : Nat} (hw : wide ≤ 1000) : (callN (PU L) (n + 4) f_law_some_number [.ref 1, .int (wide : Int)] [] S).To fun d S' => (∃ q : Rat, d = nm q ∧ Fr 6 (6 * wide) q) ∧ WS (b + 2) T S' := by
  rw [c_law_some_number, b_law_some_number]
  refine SR.To.fin ?_
  have m1 : mulOk 2 (wide : Int) = true := mulOk_of (by decide +kernel) (Nat.lt_of_lt_of_le (show ((wide : Int)).natAbs < 2 ^ 60 by omega) (Nat.pow_le_pow_right (by decide) (by decide)))
  have e1 : evEs (PU L) (callN (PU L) (n + 3)) [.var 0, .bin .add (.bin .mul (.cst (.int (2))) (.var 1)) (.cst (.int (1)))] [some (.ref 1), some (.int (wide : Int)), none] S = .ok [.ref 1, .int ((2 * wide + 1 : Nat) : Int)] S := by
    simp only [ev_var, ev_cst, ev_glb, ev_tup, ev_lst, ev_dic, ev_bin, ev_cmp, ev_chn, ev_neg, ev_not, ev_and, ev_or, ev_ite, ev_ix, ev_slc, ev_call, ev_blt, ev_mth, evs_nil, evs_cons, evo_none, evo_some, evc_nil, evc_cons, st_set, st_asg, st_seti, st_aug, st_expr, st_ret, st_retN, st_ite, st_brk, st_cont, st_pass, sts_nil, sts_cons, finS_nx, finS_rt, tg_nm, tg_tup, tg_lst, tgs_nil, tgs_cons, wipeE, itOf, itD, rd, res_some, mkO_false, mkO_lst, mkO_dct, bltD, toInt?, ckI, List.getElem?_cons_zero, List.getElem?_cons_succ, List.set_cons_zero, List.set_cons_succ, r_bind, r_bindN, r_st, seq_nx, seq_rt, seq_bk, seq_ct, List.length_cons, List.length_nil, if_true, if_false, ite_true, ite_false, reduceIte, Bool.false_eq_true, Option.map_some, Option.bind_some, binD, m1]
    rfl
  rw [sts_cons, st_set, ev_bin, ev_call, e1]
  obtain ⟨d, S', e, ⟨k, rfl, hk⟩, w⟩ := (law_draw_ok L (n + 1) h (by omega) (m := 2 * wide + 1) (by omega) (by omega)).eq
  simp only [r_bind, e, ev_var, List.getElem?_cons_zero, List.getElem?_cons_succ, binD, rd, res_some, r_st, seq_nx, List.set_cons_zero, List.set_cons_succ]
  rw [sts_cons, st_ret, ev_call]
  obtain ⟨d2, S2, e2, hm, w2⟩ := (law_pick_ok L n w (by omega) (xs := [.int 1, .int 1, .int 1, .int 1, .int 2, .int 3]) (by decide) (by decide)).eq
  obtain ⟨j, rfl, hj⟩ : ∃ j : Nat, d2 = .int (j : Int) ∧ (j = 1 ∨ j = 2 ∨ j = 3) := by
    simp only [List.mem_cons, List.not_mem_nil, or_false] at hm
    rcases hm with rfl | rfl | rfl | rfl | rfl | rfl
    · exact ⟨1, rfl, .inl rfl⟩
    · exact ⟨1, rfl, .inl rfl⟩
    · exact ⟨1, rfl, .inl rfl⟩
    · exact ⟨1, rfl, .inl rfl⟩
    · exact ⟨2, rfl, .inr (.inl rfl)⟩
    · exact ⟨3, rfl, .inr (.inr rfl)⟩
  simp only [evs_cons, evs_nil, ev_var, ev_cst, ev_call, ev_lst, List.getElem?_cons_zero, List.getElem?_cons_succ, r_bind, mkO_false, e2]
  rw [law_no_ok L (n + 1) (u := (k : Int) - wide) (l := (j : Int)) (by omega) (Nat.lt_of_lt_of_le (show ((j : Int)).natAbs < 2 ^ 60 by omega) (Nat.pow_le_pow_right (by decide) (by decide)))]
  refine ⟨⟨_, rfl, ?_⟩, w2⟩
  refine ⟨by decide, ((k : Int) - wide) * (6 / j : Nat), ?_, ?_⟩
  · rw [Rat.divInt_ofNat]
    rcases hj with rfl | rfl | rfl
    · exact (Rat.mkRat_mul_right (n := (k : Int) - wide) (d := 1) (a := 6) (by decide)).symm
    · exact (Rat.mkRat_mul_right (n := (k : Int) - wide) (d := 2) (a := 3) (by decide)).symm
    · exact (Rat.mkRat_mul_right (n := (k : Int) - wide) (d := 3) (a := 2) (by decide)).symm
  · rw [Int.natAbs_mul, Int.natAbs_natCast]
    have : ((k : Int) - wide).natAbs ≤ wide := by omega
    have h6 : 6 / j ≤ 6 := Nat.div_le_self _ _
    calc _ ≤ wide * 6 := Nat.mul_le_mul this h6
      _ = 6 * wide := Nat.mul_comm _ _
end
end QL
set_option Elab.async false
set_option linter.all false
set_option maxRecDepth 100000
set_option maxHeartbeats 1000000
set_option exponentiation.threshold 20000
/-! QM6: drawn steps, lines, tables at lots. -/
namespace QL
open PySem
section
variable (L : LDef)
theorem law_many_ok (n : Nat) {b : Nat} {T S : Ob} (h : WS b T S) (hb : b < 2 ^ 40) (most : Nat) : (callN (PU L) (n + 4) f_law_many [.ref 1, .int (most : Int)] [] S).To fun d S' => (∃ m : Nat, d = .int (m : Int) ∧ m ≤ 4 ∧ m ≤ most) ∧ WS (b + 1) T S' := by
  rw [c_law_many, b_law_many]
  refine SR.To.fin ?_
  rw [sts_cons, st_ret, ev_blt]
  obtain ⟨d2, S2, e2, hm, w2⟩ := (law_pick_ok L n h hb (xs := [.int 0, .int 1, .int 2, .int 2, .int 3, .int 3, .int 3, .int 4]) (by decide) (by decide)).eq
  obtain ⟨j, rfl, hj⟩ : ∃ j : Nat, d2 = .int (j : Int) ∧ j ≤ 4 := by
    simp only [List.mem_cons, List.not_mem_nil, or_false] at hm
    rcases hm with rfl | rfl | rfl | rfl | rfl | rfl | rfl | rfl
    · exact ⟨0, rfl, by decide⟩
    · exact ⟨1, rfl, by decide⟩
    · exact ⟨2, rfl, by decide⟩
    · exact ⟨2, rfl, by decide⟩
    · exact ⟨3, rfl, by decide⟩
    · exact ⟨3, rfl, by decide⟩
    · exact ⟨3, rfl, by decide⟩
    · exact ⟨4, rfl, by decide⟩
  simp only [evs_cons, evs_nil, ev_var, ev_cst, ev_call, ev_lst, List.getElem?_cons_zero, List.getElem?_cons_succ, r_bind, mkO_false, e2]
  have e3 : bltD S2 .min [.int (most : Int), .int (j : Int)] = some (.int ((min most j : Nat) : Int)) := by
    show some (D.int (if (j : Int) < (most : Int) then _ else _)) = _
    congr 2
    split <;> omega
  simp only [e3, res_some, r_bind, mkO_false, r_st, seq_rt]
  exact ⟨⟨min most j, rfl, by omega, by omega⟩, w2⟩
theorem stp_menu : [D.tup [.int (-1), .int 1], .tup [.int 1, .int 1], .tup [.int (-1), .int 1], .tup [.int 2, .int 1], .tup [.int (-2), .int 1], .tup [.int 1, .int 2], .tup [.int 0, .int 1], .tup [.int 3, .int 1]] = [nm (-1), nm 1, nm (-1), nm 2, nm (-2), nm (1 / 2), nm 0, nm 3] := by decide +kernel
theorem fr_of {M V : Nat} {q : Rat} (z : Int) (h0 : 0 < M) (e : q = mkRat z M) (hz : z.natAbs ≤ V) : Fr M V q := ⟨h0, z, e, hz⟩
theorem menu_fr : ∀ d ∈ [nm (-1), nm 1, nm (-1), nm 2, nm (-2), nm (1 / 2), nm 0, nm 3], ∃ q, d = nm q ∧ Fr 2 6 q := by
  intro d hd
  simp only [List.mem_cons, List.not_mem_nil, or_false] at hd
  rcases hd with rfl | rfl | rfl | rfl | rfl | rfl | rfl | rfl
  · exact ⟨_, rfl, fr_of (-2) (by decide) (by decide +kernel) (by decide)⟩
  · exact ⟨_, rfl, fr_of 2 (by decide) (by decide +kernel) (by decide)⟩
  · exact ⟨_, rfl, fr_of (-2) (by decide) (by decide +kernel) (by decide)⟩
  · exact ⟨_, rfl, fr_of 4 (by decide) (by decide +kernel) (by decide)⟩
  · exact ⟨_, rfl, fr_of (-4) (by decide) (by decide +kernel) (by decide)⟩
  · exact ⟨_, rfl, fr_of 1 (by decide) (by decide +kernel) (by decide)⟩
  · exact ⟨_, rfl, fr_of 0 (by decide) (by decide +kernel) (by decide)⟩
  · exact ⟨_, rfl, fr_of 6 (by decide) (by decide +kernel) (by decide)⟩
theorem range_it (S : Ob) {m : Nat} (hm : m < 2 ^ 60) : itD S .range [.int (m : Int)] = some ((List.range m).map fun (k : Nat) => .int (0 + (k : Int) * 1)) := by
  show (if small (m : Int) then some (rangeL 0 (m : Int).toNat 1) else none) = _
  have s1 : small (m : Int) = true := by
    unfold small
    rw [Bool.and_eq_true]
    exact ⟨decide_eq_true (by omega), decide_eq_true (by omega)⟩
  rw [s1, if_pos rfl, Int.toNat_natCast]
  rfl
theorem tuple_lst (S : Ob) (xs : List D) : bltD S .tuple [.lst xs] = some (.tup xs) := rfl
theorem law_drawn_steps_ok (n : Nat) {b : Nat} {T S : Ob} (h : WS b T S) {m : Nat} (hm : m ≤ 4) (hb : b + m < 2 ^ 40) : (callN (PU L) (n + 4) f_law_drawn_steps [.ref 1, .int (m : Int)] [] S).To fun d S' => (∃ s, d = stp s ∧ StpOk m s) ∧ WS (b + m) T S' := by
  rw [c_law_drawn_steps, b_law_drawn_steps]
  refine SR.To.fin ?_
  rw [sts_cons, st_ret, ev_blt, evs_cons]
  refine SR.To.seq (Res.To.st (Res.To.bind (Res.To.bind ((ev_lcT (I := fun k S => WS k T S) (R := fun _ d => ∃ q, d = nm q ∧ Fr 2 6 q) (n := b) (xs := [.int (m : Int)]) (ys := (List.range m).map fun (k : Nat) => .int (0 + (k : Int) * 1)) ?_ (range_it S (by omega)) rfl ?_ ?_ h).mono ?_))))
  · simp only [ev_var, ev_cst, ev_glb, ev_tup, ev_lst, ev_dic, ev_bin, ev_cmp, ev_chn, ev_neg, ev_not, ev_and, ev_or, ev_ite, ev_ix, ev_slc, ev_call, ev_blt, ev_mth, evs_nil, evs_cons, evo_none, evo_some, evc_nil, evc_cons, st_set, st_asg, st_seti, st_aug, st_expr, st_ret, st_retN, st_ite, st_brk, st_cont, st_pass, sts_nil, sts_cons, finS_nx, finS_rt, tg_nm, tg_tup, tg_lst, tgs_nil, tgs_cons, wipeE, itOf, itD, rd, res_some, mkO_false, mkO_lst, mkO_dct, bltD, toInt?, ckI, List.getElem?_cons_zero, List.getElem?_cons_succ, List.set_cons_zero, List.set_cons_succ, r_bind, r_bindN, r_st, seq_nx, seq_rt, seq_bk, seq_ct, List.length_cons, List.length_nil, if_true, if_false, ite_true, ite_false, reduceIte, Bool.false_eq_true, Option.map_some, Option.bind_some]
  · intro y hy
    refine ⟨[some (.ref 1), some (.int (m : Int)), some y], by simp only [ev_var, ev_cst, ev_glb, ev_tup, ev_lst, ev_dic, ev_bin, ev_cmp, ev_chn, ev_neg, ev_not, ev_and, ev_or, ev_ite, ev_ix, ev_slc, ev_call, ev_blt, ev_mth, evs_nil, evs_cons, evo_none, evo_some, evc_nil, evc_cons, st_set, st_asg, st_seti, st_aug, st_expr, st_ret, st_retN, st_ite, st_brk, st_cont, st_pass, sts_nil, sts_cons, finS_nx, finS_rt, tg_nm, tg_tup, tg_lst, tgs_nil, tgs_cons, wipeE, itOf, itD, rd, res_some, mkO_false, mkO_lst, mkO_dct, bltD, toInt?, ckI, List.getElem?_cons_zero, List.getElem?_cons_succ, List.set_cons_zero, List.set_cons_succ, r_bind, r_bindN, r_st, seq_nx, seq_rt, seq_bk, seq_ct, List.length_cons, List.length_nil, if_true, if_false, ite_true, ite_false, reduceIte, Bool.false_eq_true, Option.map_some, Option.bind_some], fun k S1 hk i => ⟨by simp only [ev_var, ev_cst, ev_glb, ev_tup, ev_lst, ev_dic, ev_bin, ev_cmp, ev_chn, ev_neg, ev_not, ev_and, ev_or, ev_ite, ev_ix, ev_slc, ev_call, ev_blt, ev_mth, evs_nil, evs_cons, evo_none, evo_some, evc_nil, evc_cons, st_set, st_asg, st_seti, st_aug, st_expr, st_ret, st_retN, st_ite, st_brk, st_cont, st_pass, sts_nil, sts_cons, finS_nx, finS_rt, tg_nm, tg_tup, tg_lst, tgs_nil, tgs_cons, wipeE, itOf, itD, rd, res_some, mkO_false, mkO_lst, mkO_dct, bltD, toInt?, ckI, List.getElem?_cons_zero, List.getElem?_cons_succ, List.set_cons_zero, List.set_cons_succ, r_bind, r_bindN, r_st, seq_nx, seq_rt, seq_bk, seq_ct, List.length_cons, List.length_nil, if_true, if_false, ite_true, ite_false, reduceIte, Bool.false_eq_true, Option.map_some, Option.bind_some], ?_⟩⟩
    rw [List.length_map, List.length_range] at hk
    obtain ⟨d2, S2, e2, hm2, w2⟩ := (law_pick_ok L n i (by omega) (xs := [D.tup [.int (-1), .int 1], .tup [.int 1, .int 1], .tup [.int (-1), .int 1], .tup [.int 2, .int 1], .tup [.int (-2), .int 1], .tup [.int 1, .int 2], .tup [.int 0, .int 1], .tup [.int 3, .int 1]]) (by decide) (by decide)).eq
    simp only [ev_var, ev_cst, ev_glb, ev_tup, ev_lst, ev_dic, ev_bin, ev_cmp, ev_chn, ev_neg, ev_not, ev_and, ev_or, ev_ite, ev_ix, ev_slc, ev_call, ev_blt, ev_mth, evs_nil, evs_cons, evo_none, evo_some, evc_nil, evc_cons, st_set, st_asg, st_seti, st_aug, st_expr, st_ret, st_retN, st_ite, st_brk, st_cont, st_pass, sts_nil, sts_cons, finS_nx, finS_rt, tg_nm, tg_tup, tg_lst, tgs_nil, tgs_cons, wipeE, itOf, itD, rd, res_some, mkO_false, mkO_lst, mkO_dct, bltD, toInt?, ckI, List.getElem?_cons_zero, List.getElem?_cons_succ, List.set_cons_zero, List.set_cons_succ, r_bind, r_bindN, r_st, seq_nx, seq_rt, seq_bk, seq_ct, List.length_cons, List.length_nil, if_true, if_false, ite_true, ite_false, reduceIte, Bool.false_eq_true, Option.map_some, Option.bind_some, Int.reduceNeg, e2]
    rw [stp_menu] at hm2
    exact ⟨menu_fr _ hm2, w2⟩
  · rw [List.length_map, List.length_range, lim_eq]; omega
  · rintro d S' ⟨es, rfl, f2, w⟩
    obtain ⟨s, rfl, hl, hs⟩ := f2.dec (fun _ _ q => q)
    rw [List.length_map, List.length_range] at hl w
    simp only [ev_var, ev_cst, ev_glb, ev_tup, ev_lst, ev_dic, ev_bin, ev_cmp, ev_chn, ev_neg, ev_not, ev_and, ev_or, ev_ite, ev_ix, ev_slc, ev_call, ev_blt, ev_mth, evs_nil, evs_cons, evo_none, evo_some, evc_nil, evc_cons, st_set, st_asg, st_seti, st_aug, st_expr, st_ret, st_retN, st_ite, st_brk, st_cont, st_pass, sts_nil, sts_cons, finS_nx, finS_rt, tg_nm, tg_tup, tg_lst, tgs_nil, tgs_cons, wipeE, itOf, itD, rd, res_some, mkO_false, mkO_lst, mkO_dct, bltD, toInt?, ckI, List.getElem?_cons_zero, List.getElem?_cons_succ, List.set_cons_zero, List.set_cons_succ, r_bind, r_bindN, r_st, seq_nx, seq_rt, seq_bk, seq_ct, List.length_cons, List.length_nil, if_true, if_false, ite_true, ite_false, reduceIte, Bool.false_eq_true, Option.map_some, Option.bind_some, tuple_lst]
    exact ⟨⟨s, rfl, hl, hm, hs⟩, w⟩
/-- drawn numbers of lots -/
def LnOk (m : Nat) (l : List Rat) : Prop := l.length = 2 ^ m ∧ ∀ q ∈ l, Fr 6 18 q
theorem lots_it (S : Ob) (m : Nat) : itD S .val [.lst ((List.range (2 ^ m)).map LT)] = some ((List.range (2 ^ m)).map LT) := rfl
theorem law_some_line_ok (n : Nat) {b : Nat} {T S : Ob} (h : WS b T S) {m : Nat} (hm : m ≤ 4) (hb : b + 100 < 2 ^ 40) : (callN (PU L) (n + 5) f_law_some_line [.ref 1, .int (m : Int)] [] S).To fun d S' => (∃ l, d = stp l ∧ LnOk m l) ∧ WS (b + 48) T S' := by
  rw [c_law_some_line, b_law_some_line]
  refine SR.To.fin ?_
  have hp : 2 ^ m ≤ 2 ^ 4 := Nat.pow_le_pow_right (by decide) hm
  rw [sts_cons, st_ret, ev_blt, evs_cons]
  refine SR.To.seq (Res.To.st (Res.To.bind (Res.To.bind ((ev_lcT (I := fun k S => WS (b + 3 * k) T S) (R := fun _ d => ∃ q, d = nm q ∧ Fr 6 18 q) (n := 0) (xs := [.lst ((List.range (2 ^ m)).map LT)]) (ys := (List.range (2 ^ m)).map LT) ?_ (lots_it S m) rfl ?_ ?_ h).mono ?_))))
  · simp only [evs_cons, evs_nil, ev_call, ev_var, List.getElem?_cons_zero, List.getElem?_cons_succ, r_bind, law_lots_ok L (n + 3) hm S]
  · intro y hy
    refine ⟨[some (.ref 1), some (.int (m : Int)), some y], by simp only [ev_var, ev_cst, ev_glb, ev_tup, ev_lst, ev_dic, ev_bin, ev_cmp, ev_chn, ev_neg, ev_not, ev_and, ev_or, ev_ite, ev_ix, ev_slc, ev_call, ev_blt, ev_mth, evs_nil, evs_cons, evo_none, evo_some, evc_nil, evc_cons, st_set, st_asg, st_seti, st_aug, st_expr, st_ret, st_retN, st_ite, st_brk, st_cont, st_pass, sts_nil, sts_cons, finS_nx, finS_rt, tg_nm, tg_tup, tg_lst, tgs_nil, tgs_cons, wipeE, itOf, itD, rd, res_some, mkO_false, mkO_lst, mkO_dct, bltD, toInt?, ckI, List.getElem?_cons_zero, List.getElem?_cons_succ, List.set_cons_zero, List.set_cons_succ, r_bind, r_bindN, r_st, seq_nx, seq_rt, seq_bk, seq_ct, List.length_cons, List.length_nil, if_true, if_false, ite_true, ite_false, reduceIte, Bool.false_eq_true, Option.map_some, Option.bind_some], fun k S1 hk i => ⟨by simp only [ev_var, ev_cst, ev_glb, ev_tup, ev_lst, ev_dic, ev_bin, ev_cmp, ev_chn, ev_neg, ev_not, ev_and, ev_or, ev_ite, ev_ix, ev_slc, ev_call, ev_blt, ev_mth, evs_nil, evs_cons, evo_none, evo_some, evc_nil, evc_cons, st_set, st_asg, st_seti, st_aug, st_expr, st_ret, st_retN, st_ite, st_brk, st_cont, st_pass, sts_nil, sts_cons, finS_nx, finS_rt, tg_nm, tg_tup, tg_lst, tgs_nil, tgs_cons, wipeE, itOf, itD, rd, res_some, mkO_false, mkO_lst, mkO_dct, bltD, toInt?, ckI, List.getElem?_cons_zero, List.getElem?_cons_succ, List.set_cons_zero, List.set_cons_succ, r_bind, r_bindN, r_st, seq_nx, seq_rt, seq_bk, seq_ct, List.length_cons, List.length_nil, if_true, if_false, ite_true, ite_false, reduceIte, Bool.false_eq_true, Option.map_some, Option.bind_some], ?_⟩⟩
    rw [List.length_map, List.length_range] at hk
    obtain ⟨d2, S2, e2, ⟨j, rfl, hj⟩, w2⟩ := (law_draw_ok L (n + 2) i (by omega) (m := 2) (by decide) (by decide)).eq
    have q := eq_nat S2 j 0
    have e2' : callN (PU L) (n + 4) 166 [.ref 1, .int 2] [] S1 = .ok (.int j) S2 := e2
    rw [ev_ite]
    by_cases hj0 : j = 0
    · simp only [hj0, decide_true] at q
      subst hj0
      obtain ⟨d3, S3, e3, ⟨x, rfl, hx⟩, w3⟩ := (law_some_number_ok L n w2 (by omega) (wide := 3) (by decide)).eq
      have e3' : callN (PU L) (n + 4) 381 [.ref 1, .int 3] [] S2 = .ok (nm x) S3 := e3
      have q' : cmpD S2 .eq (.int ((0 : Nat) : Int)) (.int 0) = some true := q
      simp only [ev_var, ev_cst, ev_glb, ev_tup, ev_lst, ev_dic, ev_bin, ev_cmp, ev_chn, ev_neg, ev_not, ev_and, ev_or, ev_ite, ev_ix, ev_slc, ev_call, ev_blt, ev_mth, evs_nil, evs_cons, evo_none, evo_some, evc_nil, evc_cons, st_set, st_asg, st_seti, st_aug, st_expr, st_ret, st_retN, st_ite, st_brk, st_cont, st_pass, sts_nil, sts_cons, finS_nx, finS_rt, tg_nm, tg_tup, tg_lst, tgs_nil, tgs_cons, wipeE, itOf, itD, rd, res_some, mkO_false, mkO_lst, mkO_dct, bltD, toInt?, ckI, List.getElem?_cons_zero, List.getElem?_cons_succ, List.set_cons_zero, List.set_cons_succ, r_bind, r_bindN, r_st, seq_nx, seq_rt, seq_bk, seq_ct, List.length_cons, List.length_nil, if_true, if_false, ite_true, ite_false, reduceIte, Bool.false_eq_true, Option.map_some, Option.bind_some, e2', q', e3']
      exact ⟨⟨x, rfl, hx⟩, w3.mono (by omega)⟩
    · simp only [hj0, decide_false] at q
      have q' : cmpD S2 .eq (.int (j : Int)) (.int 0) = some false := q
      simp only [ev_var, ev_cst, ev_glb, ev_tup, ev_lst, ev_dic, ev_bin, ev_cmp, ev_chn, ev_neg, ev_not, ev_and, ev_or, ev_ite, ev_ix, ev_slc, ev_call, ev_blt, ev_mth, evs_nil, evs_cons, evo_none, evo_some, evc_nil, evc_cons, st_set, st_asg, st_seti, st_aug, st_expr, st_ret, st_retN, st_ite, st_brk, st_cont, st_pass, sts_nil, sts_cons, finS_nx, finS_rt, tg_nm, tg_tup, tg_lst, tgs_nil, tgs_cons, wipeE, itOf, itD, rd, res_some, mkO_false, mkO_lst, mkO_dct, bltD, toInt?, ckI, List.getElem?_cons_zero, List.getElem?_cons_succ, List.set_cons_zero, List.set_cons_succ, r_bind, r_bindN, r_st, seq_nx, seq_rt, seq_bk, seq_ct, List.length_cons, List.length_nil, if_true, if_false, ite_true, ite_false, reduceIte, Bool.false_eq_true, Option.map_some, Option.bind_some, e2', q']
      exact ⟨⟨0, rfl, (Fr.zero (by decide)).mono (by decide)⟩, w2.mono (by omega)⟩
  · rw [List.length_map, List.length_range, lim_eq]; omega
  · rintro d S' ⟨es, rfl, f2, w⟩
    obtain ⟨s, rfl, hl, hs⟩ := f2.dec (fun _ _ q => q)
    rw [List.length_map, List.length_range] at hl w
    simp only [ev_var, ev_cst, ev_glb, ev_tup, ev_lst, ev_dic, ev_bin, ev_cmp, ev_chn, ev_neg, ev_not, ev_and, ev_or, ev_ite, ev_ix, ev_slc, ev_call, ev_blt, ev_mth, evs_nil, evs_cons, evo_none, evo_some, evc_nil, evc_cons, st_set, st_asg, st_seti, st_aug, st_expr, st_ret, st_retN, st_ite, st_brk, st_cont, st_pass, sts_nil, sts_cons, finS_nx, finS_rt, tg_nm, tg_tup, tg_lst, tgs_nil, tgs_cons, wipeE, itOf, itD, rd, res_some, mkO_false, mkO_lst, mkO_dct, bltD, toInt?, ckI, List.getElem?_cons_zero, List.getElem?_cons_succ, List.set_cons_zero, List.set_cons_succ, r_bind, r_bindN, r_st, seq_nx, seq_rt, seq_bk, seq_ct, List.length_cons, List.length_nil, if_true, if_false, ite_true, ite_false, reduceIte, Bool.false_eq_true, Option.map_some, Option.bind_some, tuple_lst]
    exact ⟨⟨s, rfl, hl, hs⟩, w.mono (by omega)⟩
/-! ### tables at some lots -/
theorem LT_inj {i j : Nat} (hi : i < 16) (hj : j < 16) (h : LT i = LT j) : i = j := by
  have := eq_LT [] hi hj
  rw [h] at this
  have h2 := eq_LT [] hj hj
  rw [this] at h2
  simpa using h2
theorem keyTup_LT : ∀ k < 16, keyTup (LT k) = true := by decide +kernel
theorem keysOk_LT {ks : List Nat} (h : ∀ k ∈ ks, k < 16) : keysOk (ks.map LT) = true := by
  unfold keysOk
  rw [Bool.or_eq_true]
  left
  rw [List.all_eq_true]
  intro x hx
  obtain ⟨k, hk, rfl⟩ := List.mem_map.mp hx
  exact keyTup_LT k (h k hk)
theorem putD_nw : ∀ {ks vs : List D} {k v : D}, ks.length = vs.length → k ∉ ks → putD ks vs k v = (ks ++ [k], vs ++ [v])
  | [], [], k, v, _, _ => rfl
  | x :: ks, y :: vs, k, v, hl, hn => by
    unfold putD
    rw [if_neg (fun z => hn (by rw [z]; exact List.mem_cons_self))]
    rw [putD_nw (by simpa using hl) (fun z => hn (List.mem_cons_of_mem _ z))]
    rfl
theorem foldP_new : ∀ (ps : List (D × D)) (ks vs : List D), ks.length = vs.length → (ks ++ ps.map (·.1)).Nodup → foldP ps ks vs = (ks ++ ps.map (·.1), vs ++ ps.map (·.2))
  | [], ks, vs, _, _ => by simp [foldP]
  | (k, v) :: ps, ks, vs, hl, nd => by
    have hk : k ∉ ks := fun z => by
      rw [List.map_cons] at nd
      have := List.nodup_append.mp nd
      exact this.2.2 k z k List.mem_cons_self rfl
    unfold foldP
    rw [putD_nw hl hk]
    rw [foldP_new ps _ _ (by simp [hl]) (by simpa using nd)]
    simp
theorem at_LT : ∀ (l : List (Nat × Rat)) {i : Nat}, i < 16 → (∀ p ∈ l, p.1 < 16) → at? (l.map fun p => LT p.1) (l.map fun p => nm p.2) (LT i) = (l.lookup i).map nm
  | [], i, _, _ => rfl
  | (k, q) :: l, i, hi, h => by
    have ih := at_LT l hi fun p hp => h p (List.mem_cons_of_mem _ hp)
    have hk := h (k, q) List.mem_cons_self
    show (List.lookup (LT i) ((LT k, nm q) :: (List.zip (l.map fun p => LT p.1) (l.map fun p => nm p.2)))) = _
    by_cases e : i = k
    · subst e
      rw [List.lookup_cons_self, List.lookup_cons_self]; rfl
    · have e1 : (LT i == LT k) = false := by
        rw [beq_eq_false_iff_ne]; exact fun z => e (LT_inj hi hk z)
      have e2 : (i == k) = false := by rw [beq_eq_false_iff_ne]; exact e
      rw [List.lookup_cons, List.lookup_cons, e1, e2]
      exact ih
theorem pairs_map (l : List (Nat × Rat)) : pairsOf (l.map fun p => D.tup [LT p.1, nm p.2]) = some (l.map fun p => (LT p.1, nm p.2)) := by
  induction l with
  | nil => rfl
  | cons a l ih => rw [List.map_cons, pairsOf, ih]; rfl
/-- the numbers at some lots, 0 at others -/
def atL (m : Nat) (l : List (Nat × Rat)) : List Rat := (List.range (2 ^ m)).map fun i => (l.lookup i).getD 0
theorem nodup_LT : ∀ {ks : List Nat}, (∀ k ∈ ks, k < 16) → ks.Nodup → (ks.map LT).Nodup
  | [], _, _ => List.nodup_nil
  | k :: ks, h, nd => by
    rw [List.map_cons, List.nodup_cons]
    rw [List.nodup_cons] at nd
    refine ⟨fun z => ?_, nodup_LT (fun x hx => h x (List.mem_cons_of_mem _ hx)) nd.2⟩
    obtain ⟨j, hj, e⟩ := List.mem_map.mp z
    exact nd.1 (by rw [← LT_inj (h j (List.mem_cons_of_mem _ hj)) (h k List.mem_cons_self) e]; exact hj)
theorem dict_prs (S : Ob) {l : List (Nat × Rat)} (h : ∀ p ∈ l, p.1 < 16) (nd : (l.map (·.1)).Nodup) (hl : l.length ≤ lim) : bltD S .dict [.lst (l.map fun p => D.tup [LT p.1, nm p.2])] = some (.dct (l.map fun p => LT p.1) (l.map fun p => nm p.2)) := by
  show (pairsOf (l.map fun p => D.tup [LT p.1, nm p.2])).bind dctP = _
  rw [pairs_map, Option.bind_some]
  unfold dctP
  have e1 : (l.map fun p => (LT p.1, nm p.2)).map (·.1) = (l.map (·.1)).map LT := by rw [List.map_map, List.map_map]; rfl
  have e2 : (l.map fun p => (LT p.1, nm p.2)).map (·.2) = l.map fun p => nm p.2 := by rw [List.map_map]; rfl
  have k1 : keysOk ((l.map (·.1)).map LT) = true := keysOk_LT fun k hk => by
    obtain ⟨p, hp, rfl⟩ := List.mem_map.mp hk
    exact h p hp
  have f := foldP_new (l.map fun p => (LT p.1, nm p.2)) [] [] rfl (by
    rw [List.nil_append, e1]
    exact nodup_LT (fun k hk => by obtain ⟨p, hp, rfl⟩ := List.mem_map.mp hk; exact h p hp) nd)
  rw [e1, k1, f, List.length_map, Nat.ble_eq_true_of_le hl, e1, e2, List.map_map]
  rfl
theorem get_LT (S : Ob) {l : List (Nat × Rat)} (h : ∀ p ∈ l, p.1 < 16) {i : Nat} (hi : i < 16) (d : D) : mthD S .dct .get (.dct (l.map fun p => LT p.1) (l.map fun p => nm p.2)) [LT i, d] = some (((l.lookup i).map nm).getD d, S) := by
  have k1 : keysOk (LT i :: (l.map (·.1)).map LT) = true := keysOk_LT (ks := i :: l.map (fun p : Nat × Rat => p.1)) fun k hk => by
    rcases List.mem_cons.mp hk with rfl | hk
    · exact hi
    · obtain ⟨p, hp, rfl⟩ := List.mem_map.mp hk
      exact h p hp
  have e1 : (l.map fun p => LT p.1) = (l.map (·.1)).map LT := by rw [List.map_map]; rfl
  show (if keysOk (LT i :: (l.map fun p => LT p.1)) then some ((at? (l.map fun p => LT p.1) (l.map fun p => nm p.2) (LT i)).getD d, S) else none) = _
  rw [e1, k1, if_pos rfl, ← e1, at_LT l hi h]
theorem law_at_lots_ok (n : Nat) {m : Nat} (hm : m ≤ 4) {l : List (Nat × Rat)} (h : ∀ p ∈ l, p.1 < 16) (nd : (l.map (·.1)).Nodup) (hl : l.length ≤ lim) (S : Ob) : callN (PU L) (n + 2) f_law_at_lots [.int (m : Int), .lst (l.map fun p => D.tup [LT p.1, nm p.2])] [] S = .ok (stp (atL m l)) S := by
  rw [c_law_at_lots, b_law_at_lots]
  have hp : 2 ^ m ≤ 2 ^ 4 := Nat.pow_le_pow_right (by decide) hm
  have e1 := dict_prs S h nd hl
  have key := ev_lcM (P := PU L) (cf := callN (PU L) (n + 1)) (tg := .nm 3) (w := .val) (it := [.call 266 [.var 0] []]) (ifs := []) (e := .mth .get (.var 2) [.var 3, .tup [.cst (.int (0)), .cst (.int (1))]]) (own := [3])
    (ρ := [some (.int (m : Int)), some (.lst (l.map fun p => D.tup [LT p.1, nm p.2])), some (.dct (l.map fun p => LT p.1) (l.map fun p => nm p.2)), none]) (S := S) (xs := [.lst ((List.range (2 ^ m)).map LT)]) LT (fun i => nm ((l.lookup i).getD 0)) (ys := List.range (2 ^ m))
    (by simp only [evs_cons, evs_nil, ev_call, ev_var, List.getElem?_cons_zero, r_bind, law_lots_ok L n hm S]) rfl rfl (fun i hi => ⟨[some (.int (m : Int)), some (.lst (l.map fun p => D.tup [LT p.1, nm p.2])), some (.dct (l.map fun p => LT p.1) (l.map fun p => nm p.2)), some (LT i)], by simp only [ev_var, ev_cst, ev_glb, ev_tup, ev_lst, ev_dic, ev_bin, ev_cmp, ev_chn, ev_neg, ev_not, ev_and, ev_or, ev_ite, ev_ix, ev_slc, ev_call, ev_blt, ev_mth, evs_nil, evs_cons, evo_none, evo_some, evc_nil, evc_cons, st_set, st_asg, st_seti, st_aug, st_expr, st_ret, st_retN, st_ite, st_brk, st_cont, st_pass, sts_nil, sts_cons, finS_nx, finS_rt, tg_nm, tg_tup, tg_lst, tgs_nil, tgs_cons, wipeE, itOf, itD, rd, res_some, mkO_false, mkO_lst, mkO_dct, bltD, toInt?, ckI, List.getElem?_cons_zero, List.getElem?_cons_succ, List.set_cons_zero, List.set_cons_succ, r_bind, r_bindN, r_st, seq_nx, seq_rt, seq_bk, seq_ct, List.length_cons, List.length_nil, if_true, if_false, ite_true, ite_false, reduceIte, Bool.false_eq_true, Option.map_some, Option.bind_some], by simp only [ev_var, ev_cst, ev_glb, ev_tup, ev_lst, ev_dic, ev_bin, ev_cmp, ev_chn, ev_neg, ev_not, ev_and, ev_or, ev_ite, ev_ix, ev_slc, ev_call, ev_blt, ev_mth, evs_nil, evs_cons, evo_none, evo_some, evc_nil, evc_cons, st_set, st_asg, st_seti, st_aug, st_expr, st_ret, st_retN, st_ite, st_brk, st_cont, st_pass, sts_nil, sts_cons, finS_nx, finS_rt, tg_nm, tg_tup, tg_lst, tgs_nil, tgs_cons, wipeE, itOf, itD, rd, res_some, mkO_false, mkO_lst, mkO_dct, bltD, toInt?, ckI, List.getElem?_cons_zero, List.getElem?_cons_succ, List.set_cons_zero, List.set_cons_succ, r_bind, r_bindN, r_st, seq_nx, seq_rt, seq_bk, seq_ct, List.length_cons, List.length_nil, if_true, if_false, ite_true, ite_false, reduceIte, Bool.false_eq_true, Option.map_some, Option.bind_some], by
      have g := get_LT S h (lot_lt hm (List.mem_range.mp hi)) (.tup [.int 0, .int 1])
      have r : rcv .get (isG (.var 2)) (rd S (.dct (l.map fun p => LT p.1) (l.map fun p => nm p.2))) = some .dct := rfl
      simp only [ev_mth, ev_var, List.getElem?_cons_zero, List.getElem?_cons_succ, r_bind, r, evs_cons, evs_nil, ev_tup, ev_cst, g]
      cases l.lookup i <;> rfl⟩) (by rw [List.length_range, lim_eq]; omega)
  simp only [sts_cons, sts_nil, st_set, st_ret, ev_blt, evs_cons, evs_nil, ev_var, List.getElem?_cons_zero, List.getElem?_cons_succ, r_bind, e1, res_some, mkO_false, r_st, seq_nx, List.set_cons_zero, List.set_cons_succ, key, tuple_lst, seq_rt, finS_rt]
  rw [stp, nms, atL, List.map_map]
  rfl
/-- 1 at one lot -/
def oneL (m j : Nat) : List Rat := (List.range (2 ^ m)).map fun i => if i = j then 1 else 0
theorem int_bl (S : Ob) (b : Bool) : bltD S .int [.bl b] = some (.int (if b then 1 else 0)) := rfl
theorem law_ones_ok (n : Nat) {m : Nat} (hm : m ≤ 4) (S : Ob) : callN (PU L) (n + 2) f_law_ones [.int (m : Int)] [] S = .ok (.lst ((List.range (2 ^ m)).map fun j => stp (oneL m j))) S := by
  rw [c_law_ones, b_law_ones]
  have hp : 2 ^ m ≤ 2 ^ 4 := Nat.pow_le_pow_right (by decide) hm
  have e1 := law_lots_ok L n hm S
  have e2 : bltD S .len [.lst ((List.range (2 ^ m)).map LT)] = some (.int ((2 ^ m : Nat) : Int)) := by
    show some (D.int ((List.map LT (List.range (2 ^ m))).length : Int)) = _
    rw [List.length_map, List.length_range]
  have key := ev_lcM (P := PU L) (cf := callN (PU L) (n + 1)) (tg := .nm 2) (w := .range) (it := [.var 1]) (ifs := []) (e := .blt false .tuple [.lc false (.nm 3) .range [.var 1] [] (.tup [.blt false .int [.cmp .eq (.var 3) (.var 2)], .cst (.int (1))]) [3]]) (own := [2])
    (ρ := [some (.int (m : Int)), some (.int ((2 ^ m : Nat) : Int)), none, none]) (S := S) (xs := [.int ((2 ^ m : Nat) : Int)]) (fun k : Nat => D.int (0 + (k : Int) * 1)) (fun j => stp (oneL m j)) (ys := List.range (2 ^ m))
    (by simp only [ev_var, ev_cst, ev_glb, ev_tup, ev_lst, ev_dic, ev_bin, ev_cmp, ev_chn, ev_neg, ev_not, ev_and, ev_or, ev_ite, ev_ix, ev_slc, ev_call, ev_blt, ev_mth, evs_nil, evs_cons, evo_none, evo_some, evc_nil, evc_cons, st_set, st_asg, st_seti, st_aug, st_expr, st_ret, st_retN, st_ite, st_brk, st_cont, st_pass, sts_nil, sts_cons, finS_nx, finS_rt, tg_nm, tg_tup, tg_lst, tgs_nil, tgs_cons, wipeE, itOf, itD, rd, res_some, mkO_false, mkO_lst, mkO_dct, bltD, toInt?, ckI, List.getElem?_cons_zero, List.getElem?_cons_succ, List.set_cons_zero, List.set_cons_succ, r_bind, r_bindN, r_st, seq_nx, seq_rt, seq_bk, seq_ct, List.length_cons, List.length_nil, if_true, if_false, ite_true, ite_false, reduceIte, Bool.false_eq_true, Option.map_some, Option.bind_some]) (range_it S (by omega)) rfl (fun j hj => ⟨[some (.int (m : Int)), some (.int ((2 ^ m : Nat) : Int)), some (.int (0 + (j : Int) * 1)), none], by simp only [ev_var, ev_cst, ev_glb, ev_tup, ev_lst, ev_dic, ev_bin, ev_cmp, ev_chn, ev_neg, ev_not, ev_and, ev_or, ev_ite, ev_ix, ev_slc, ev_call, ev_blt, ev_mth, evs_nil, evs_cons, evo_none, evo_some, evc_nil, evc_cons, st_set, st_asg, st_seti, st_aug, st_expr, st_ret, st_retN, st_ite, st_brk, st_cont, st_pass, sts_nil, sts_cons, finS_nx, finS_rt, tg_nm, tg_tup, tg_lst, tgs_nil, tgs_cons, wipeE, itOf, itD, rd, res_some, mkO_false, mkO_lst, mkO_dct, bltD, toInt?, ckI, List.getElem?_cons_zero, List.getElem?_cons_succ, List.set_cons_zero, List.set_cons_succ, r_bind, r_bindN, r_st, seq_nx, seq_rt, seq_bk, seq_ct, List.length_cons, List.length_nil, if_true, if_false, ite_true, ite_false, reduceIte, Bool.false_eq_true, Option.map_some, Option.bind_some], by simp only [ev_var, ev_cst, ev_glb, ev_tup, ev_lst, ev_dic, ev_bin, ev_cmp, ev_chn, ev_neg, ev_not, ev_and, ev_or, ev_ite, ev_ix, ev_slc, ev_call, ev_blt, ev_mth, evs_nil, evs_cons, evo_none, evo_some, evc_nil, evc_cons, st_set, st_asg, st_seti, st_aug, st_expr, st_ret, st_retN, st_ite, st_brk, st_cont, st_pass, sts_nil, sts_cons, finS_nx, finS_rt, tg_nm, tg_tup, tg_lst, tgs_nil, tgs_cons, wipeE, itOf, itD, rd, res_some, mkO_false, mkO_lst, mkO_dct, bltD, toInt?, ckI, List.getElem?_cons_zero, List.getElem?_cons_succ, List.set_cons_zero, List.set_cons_succ, r_bind, r_bindN, r_st, seq_nx, seq_rt, seq_bk, seq_ct, List.length_cons, List.length_nil, if_true, if_false, ite_true, ite_false, reduceIte, Bool.false_eq_true, Option.map_some, Option.bind_some], by
      have k2 := ev_lcM (P := PU L) (cf := callN (PU L) (n + 1)) (tg := .nm 3) (w := .range) (it := [.var 1]) (ifs := []) (e := .tup [.blt false .int [.cmp .eq (.var 3) (.var 2)], .cst (.int (1))]) (own := [3])
        (ρ := [some (.int (m : Int)), some (.int ((2 ^ m : Nat) : Int)), some (.int (0 + (j : Int) * 1)), none]) (S := S) (xs := [.int ((2 ^ m : Nat) : Int)]) (fun k : Nat => D.int (0 + (k : Int) * 1)) (fun i => nm (if i = j then 1 else 0)) (ys := List.range (2 ^ m))
        (by simp only [ev_var, ev_cst, ev_glb, ev_tup, ev_lst, ev_dic, ev_bin, ev_cmp, ev_chn, ev_neg, ev_not, ev_and, ev_or, ev_ite, ev_ix, ev_slc, ev_call, ev_blt, ev_mth, evs_nil, evs_cons, evo_none, evo_some, evc_nil, evc_cons, st_set, st_asg, st_seti, st_aug, st_expr, st_ret, st_retN, st_ite, st_brk, st_cont, st_pass, sts_nil, sts_cons, finS_nx, finS_rt, tg_nm, tg_tup, tg_lst, tgs_nil, tgs_cons, wipeE, itOf, itD, rd, res_some, mkO_false, mkO_lst, mkO_dct, bltD, toInt?, ckI, List.getElem?_cons_zero, List.getElem?_cons_succ, List.set_cons_zero, List.set_cons_succ, r_bind, r_bindN, r_st, seq_nx, seq_rt, seq_bk, seq_ct, List.length_cons, List.length_nil, if_true, if_false, ite_true, ite_false, reduceIte, Bool.false_eq_true, Option.map_some, Option.bind_some]) (range_it S (by omega)) rfl (fun i hi => ⟨[some (.int (m : Int)), some (.int ((2 ^ m : Nat) : Int)), some (.int (0 + (j : Int) * 1)), some (.int (0 + (i : Int) * 1))], by simp only [ev_var, ev_cst, ev_glb, ev_tup, ev_lst, ev_dic, ev_bin, ev_cmp, ev_chn, ev_neg, ev_not, ev_and, ev_or, ev_ite, ev_ix, ev_slc, ev_call, ev_blt, ev_mth, evs_nil, evs_cons, evo_none, evo_some, evc_nil, evc_cons, st_set, st_asg, st_seti, st_aug, st_expr, st_ret, st_retN, st_ite, st_brk, st_cont, st_pass, sts_nil, sts_cons, finS_nx, finS_rt, tg_nm, tg_tup, tg_lst, tgs_nil, tgs_cons, wipeE, itOf, itD, rd, res_some, mkO_false, mkO_lst, mkO_dct, bltD, toInt?, ckI, List.getElem?_cons_zero, List.getElem?_cons_succ, List.set_cons_zero, List.set_cons_succ, r_bind, r_bindN, r_st, seq_nx, seq_rt, seq_bk, seq_ct, List.length_cons, List.length_nil, if_true, if_false, ite_true, ite_false, reduceIte, Bool.false_eq_true, Option.map_some, Option.bind_some], by simp only [ev_var, ev_cst, ev_glb, ev_tup, ev_lst, ev_dic, ev_bin, ev_cmp, ev_chn, ev_neg, ev_not, ev_and, ev_or, ev_ite, ev_ix, ev_slc, ev_call, ev_blt, ev_mth, evs_nil, evs_cons, evo_none, evo_some, evc_nil, evc_cons, st_set, st_asg, st_seti, st_aug, st_expr, st_ret, st_retN, st_ite, st_brk, st_cont, st_pass, sts_nil, sts_cons, finS_nx, finS_rt, tg_nm, tg_tup, tg_lst, tgs_nil, tgs_cons, wipeE, itOf, itD, rd, res_some, mkO_false, mkO_lst, mkO_dct, bltD, toInt?, ckI, List.getElem?_cons_zero, List.getElem?_cons_succ, List.set_cons_zero, List.set_cons_succ, r_bind, r_bindN, r_st, seq_nx, seq_rt, seq_bk, seq_ct, List.length_cons, List.length_nil, if_true, if_false, ite_true, ite_false, reduceIte, Bool.false_eq_true, Option.map_some, Option.bind_some], by
          have q : cmpD S .eq (.int (0 + (i : Int) * 1)) (.int (0 + (j : Int) * 1)) = some (decide (i = j)) := by
            rw [Int.mul_one, Int.mul_one, Int.zero_add, Int.zero_add]; exact eq_nat S i j
          simp only [ev_tup, ev_blt, ev_cmp, ev_var, ev_cst, evs_cons, evs_nil, List.getElem?_cons_zero, List.getElem?_cons_succ, r_bind, q, Option.map_some, res_some, int_bl, mkO_false]
          by_cases c : i = j
          · rw [if_pos c, decide_eq_true c]; rfl
          · rw [if_neg c, decide_eq_false c]; rfl⟩) (by rw [List.length_range, lim_eq]; omega)
      simp only [ev_blt, evs_cons, evs_nil, k2, r_bind, tuple_lst, res_some, mkO_false]
      rw [stp, nms, oneL, List.map_map]
      rfl⟩) (by rw [List.length_range, lim_eq]; omega)
  simp only [sts_cons, sts_nil, st_set, st_ret, ev_blt, ev_call, evs_cons, evs_nil, ev_var, List.getElem?_cons_zero, List.getElem?_cons_succ, r_bind, e1, e2, res_some, mkO_false, r_st, seq_nx, List.set_cons_zero, List.set_cons_succ, key, seq_rt, finS_rt]
theorem evp_nil (P : LProg) (cf : CF) (ρ : Env) (S : Ob) : evPs P cf [] ρ S = .ok [] S := by rw [evPs]
theorem evp_cons (P : LProg) (cf : CF) (k v : LE) (r : List LE) (ρ : Env) (S : Ob) : evPs P cf (k :: v :: r) ρ S = (evE P cf k ρ S).bind fun kd S => (evE P cf v ρ S).bind fun vd S => (evPs P cf r ρ S).bind fun ps S => .ok ((kd, vd) :: ps) S := by rw [evPs]
theorem law_begun_ok (n : Nat) (zs : List Int) (h : zs.length ≤ 63) : (callN (PU L) (n + 1) f_law_begun [.lst (zs.map .int)] [] []).To fun d S' => d = .ref 1 ∧ WS 0 [] S' := by
  rw [c_law_begun, b_law_begun]
  refine SR.To.fin ?_
  have hp : ∀ S : Ob, binD S .pow (.int 10) (.int 18) = some (.int (10 ^ 18)) := fun S => rfl
  have ha : ∀ (S : Ob) (z : Int), bltD S .abs [.int z] = some (.int (if z < 0 then -z else z)) := fun S z => rfl
  have k1 : evE (PU L) (callN (PU L) n) (.lc true (.nm 2) .val [.var 0] [.cmp .ge (.blt false .abs [.var 2]) (.bin .pow (.cst (.int (10))) (.cst (.int (18))))] (.bin .sub (.blt false .abs [.var 2]) (.bin .pow (.cst (.int (10))) (.cst (.int (18))))) [2]) [some (.lst (zs.map .int)), none, none] [] = .ok (.ref 0) [.lst (zsD ((zs.filter fun z => decide (10 ^ 18 ≤ (if z < 0 then -z else z))).map fun z => (if z < 0 then -z else z) - 10 ^ 18))] := by
    rw [evE, itOf]
    simp only [evs_cons, evs_nil, ev_var, List.getElem?_cons_zero, r_bind]
    rw [show itD [] .val [.lst (zs.map D.int)] = some (zs.map D.int) from rfl, show guards [] [.lst (zs.map D.int)] = [] from rfl]
    dsimp only
    rw [r_bind]
    dsimp only
    rw [lcL_fil (enc := D.int) (fun z => decide (10 ^ 18 ≤ (if z < 0 then -z else z))) (fun z => D.int ((if z < 0 then -z else z) - 10 ^ 18)) rfl (fun z hz => ?_) (by rw [lim_eq]; omega), r_bind, mkO_lst]
    · rw [zsD, List.map_map]; rfl
    · have c : cmpD ([] : Ob) .ge (.int (if z < 0 then -z else z)) (.int (10 ^ 18)) = some (decide (10 ^ 18 ≤ (if z < 0 then -z else z))) := rfl
      have b : binD ([] : Ob) .sub (.int (if z < 0 then -z else z)) (.int (10 ^ 18)) = some (.int ((if z < 0 then -z else z) - 10 ^ 18)) := rfl
      simp only [wipeE, tg_nm, List.set_cons_zero, List.set_cons_succ, evc_cons, evc_nil, ev_cmp, ev_blt, ev_bin, evs_cons, evs_nil, ev_var, ev_cst, List.getElem?_cons_zero, List.getElem?_cons_succ, r_bind, ha, hp, res_some, mkO_false, c, b, Option.map_some]
      cases decide (10 ^ 18 ≤ (if z < 0 then -z else z)) <;> rfl
  have k2 : ∀ (S : Ob) (v : D), evE (PU L) (callN (PU L) n) (.lc false (.nm 2) .val [.var 0] [] (.blt false .abs [.var 2]) [2]) [some (.lst (zs.map .int)), some v, none] S = .ok (.lst (zsD (zs.map fun z => (if z < 0 then -z else z)))) S := fun S v => by
    rw [ev_lcM (xs := [.lst (zs.map D.int)]) D.int (fun z => .int (if z < 0 then -z else z)) (ys := zs) (by simp only [ev_var, ev_cst, ev_glb, ev_tup, ev_lst, ev_dic, ev_bin, ev_cmp, ev_chn, ev_neg, ev_not, ev_and, ev_or, ev_ite, ev_ix, ev_slc, ev_call, ev_blt, ev_mth, evs_nil, evs_cons, evo_none, evo_some, evc_nil, evc_cons, st_set, st_asg, st_seti, st_aug, st_expr, st_ret, st_retN, st_ite, st_brk, st_cont, st_pass, sts_nil, sts_cons, finS_nx, finS_rt, tg_nm, tg_tup, tg_lst, tgs_nil, tgs_cons, wipeE, itOf, itD, rd, res_some, mkO_false, mkO_lst, mkO_dct, bltD, toInt?, ckI, List.getElem?_cons_zero, List.getElem?_cons_succ, List.set_cons_zero, List.set_cons_succ, r_bind, r_bindN, r_st, seq_nx, seq_rt, seq_bk, seq_ct, List.length_cons, List.length_nil, if_true, if_false, ite_true, ite_false, reduceIte, Bool.false_eq_true, Option.map_some, Option.bind_some]) rfl rfl (fun z hz => ⟨[some (.lst (zs.map .int)), some v, some (.int z)], by simp only [ev_var, ev_cst, ev_glb, ev_tup, ev_lst, ev_dic, ev_bin, ev_cmp, ev_chn, ev_neg, ev_not, ev_and, ev_or, ev_ite, ev_ix, ev_slc, ev_call, ev_blt, ev_mth, evs_nil, evs_cons, evo_none, evo_some, evc_nil, evc_cons, st_set, st_asg, st_seti, st_aug, st_expr, st_ret, st_retN, st_ite, st_brk, st_cont, st_pass, sts_nil, sts_cons, finS_nx, finS_rt, tg_nm, tg_tup, tg_lst, tgs_nil, tgs_cons, wipeE, itOf, itD, rd, res_some, mkO_false, mkO_lst, mkO_dct, bltD, toInt?, ckI, List.getElem?_cons_zero, List.getElem?_cons_succ, List.set_cons_zero, List.set_cons_succ, r_bind, r_bindN, r_st, seq_nx, seq_rt, seq_bk, seq_ct, List.length_cons, List.length_nil, if_true, if_false, ite_true, ite_false, reduceIte, Bool.false_eq_true, Option.map_some, Option.bind_some], by simp only [ev_var, ev_cst, ev_glb, ev_tup, ev_lst, ev_dic, ev_bin, ev_cmp, ev_chn, ev_neg, ev_not, ev_and, ev_or, ev_ite, ev_ix, ev_slc, ev_call, ev_blt, ev_mth, evs_nil, evs_cons, evo_none, evo_some, evc_nil, evc_cons, st_set, st_asg, st_seti, st_aug, st_expr, st_ret, st_retN, st_ite, st_brk, st_cont, st_pass, sts_nil, sts_cons, finS_nx, finS_rt, tg_nm, tg_tup, tg_lst, tgs_nil, tgs_cons, wipeE, itOf, itD, rd, res_some, mkO_false, mkO_lst, mkO_dct, bltD, toInt?, ckI, List.getElem?_cons_zero, List.getElem?_cons_succ, List.set_cons_zero, List.set_cons_succ, r_bind, r_bindN, r_st, seq_nx, seq_rt, seq_bk, seq_ct, List.length_cons, List.length_nil, if_true, if_false, ite_true, ite_false, reduceIte, Bool.false_eq_true, Option.map_some, Option.bind_some], by
      simp only [ev_blt, evs_cons, evs_nil, ev_var, List.getElem?_cons_zero, List.getElem?_cons_succ, r_bind, ha, res_some, mkO_false]⟩) (by rw [lim_eq]; omega), zsD, List.map_map]
    rfl
  rw [sts_cons, st_set, k1, r_st, seq_nx, sts_cons, st_ret, ev_dic]
  simp only [List.set_cons_zero, List.set_cons_succ]
  have k3 : evPs (PU L) (callN (PU L) n) [.cst (.str [103, 114, 101, 97, 116]), .var 1, .cst (.str [99, 101, 108, 108, 115]), .lc false (.nm 2) .val [.var 0] [] (.blt false .abs [.var 2]) [2], .cst (.str [114, 101, 115, 116]), .cst (.int (0)), .cst (.str [116, 117, 114, 110]), .cst (.int (0))] [some (.lst (zs.map .int)), some (.ref 0), none] [.lst (zsD ((zs.filter fun z => decide (10 ^ 18 ≤ (if z < 0 then -z else z))).map fun z => (if z < 0 then -z else z) - 10 ^ 18))] =
      .ok [(kGreat, .ref 0), (kCells, .lst (zsD (zs.map fun z => (if z < 0 then -z else z)))), (kRest, .int 0), (kTurn, .int 0)] [.lst (zsD ((zs.filter fun z => decide (10 ^ 18 ≤ (if z < 0 then -z else z))).map fun z => (if z < 0 then -z else z) - 10 ^ 18))] := by
    simp only [evp_cons, evp_nil, ev_cst, ev_var, List.getElem?_cons_zero, List.getElem?_cons_succ, r_bind, k2]
  rw [k3, r_bindN]
  refine ⟨rfl, _, _, 0, 0, rfl, ?_, ?_, by omega, by omega⟩
  · rw [List.length_map]
    exact Nat.le_trans (List.length_filter_le _ _) h
  · rw [List.length_map]; exact h
end
end QL
set_option Elab.async false
set_option linter.all false
set_option maxRecDepth 100000
set_option maxHeartbeats 2000000
set_option exponentiation.threshold 20000
/-! QM7: tables. -/
namespace QL
open PySem
abbrev kTable : D := .str [116, 97, 98, 108, 101]
/-- a table as data -/
def tb (l : List Rat) : D := .tup [kTable, stp l]
theorem nms_len (l : List Rat) : (nms l).length = l.length := List.length_map ..
theorem len_stp' (S : Ob) (l : List Rat) : bltD S .len [stp l] = some (.int (l.length : Nat)) := len_stp S l
theorem ix_tb1 (S : Ob) (l : List Rat) : ixD S (tb l) (.int 1) = some (stp l) := rfl
theorem ix_tb0 (S : Ob) (l : List Rat) : ixD S (tb l) (.int 0) = some kTable := rfl
section
variable (L : LDef)
abbrev WID : D := .tup [.int 1, .int 2, .int 4, .int 8, .int 16]
theorem g_wid : look (PU L).consts 101 = some WID := by kernel_rfl
theorem g_zero : look (PU L).consts 103 = some (nm 0) := by kernel_rfl
theorem g_one : look (PU L).consts 93 = some (nm 1) := by kernel_rfl
theorem le4 {m : Nat} (hm : m ≤ 4) : m = 0 ∨ m = 1 ∨ m = 2 ∨ m = 3 ∨ m = 4 := by omega
theorem wid_in (S : Ob) {m : Nat} (hm : m ≤ 4) : cmpD S .notin (.int ((2 ^ m : Nat) : Int)) WID = some false := by
  rcases le4 hm with rfl | rfl | rfl | rfl | rfl <;> kernel_rfl
theorem wid_index (S : Ob) {m : Nat} (hm : m ≤ 4) : mthD S .tup .index WID [.int ((2 ^ m : Nat) : Int)] = some (.int (m : Int), S) := by
  rcases le4 hm with rfl | rfl | rfl | rfl | rfl <;> kernel_rfl
theorem is_any_table_ok (n : Nat) {m : Nat} (hm : m ≤ 4) {l : List Rat} (hl : l.length = 2 ^ m) (S : Ob) : callN (PU L) (n + 3) f_is_any_table [tb l] [] S = .ok (.bl true) S := by
  rw [c_is_any_table, b_is_any_table]
  have hp : 2 ^ m ≤ 2 ^ 4 := Nat.pow_le_pow_right (by decide) hm
  have b1 : bltD S .isi [tb l, .ty .tuple] = some (.bl true) := rfl
  have b2 : bltD S .len [tb l] = some (.int 2) := rfl
  have b3 : bltD S .isi [kTable, .ty .str] = some (.bl true) := rfl
  have b4 : bltD S .isi [stp l, .ty .tuple] = some (.bl true) := rfl
  have b5 := len_stp' S l
  rw [hl] at b5
  have c1 : cmpD S .ne (.int 2) (.int 2) = some false := rfl
  have c2 : cmpD S .ne kTable kTable = some false := rfl
  have c3 := wid_in S hm
  have k1 := ev_lcM (P := PU L) (cf := callN (PU L) (n + 2)) (tg := .nm 1) (w := .val) (it := [.ix (.var 0) (.cst (.int (1)))]) (ifs := []) (e := .call 598 [.var 1] []) (own := [1]) (ρ := [some (tb l), none]) (S := S) (xs := [stp l]) nm (fun _ => .bl true) (ys := l) (by simp only [ev_var, ev_cst, ev_glb, ev_tup, ev_lst, ev_dic, ev_bin, ev_cmp, ev_chn, ev_neg, ev_not, ev_and, ev_or, ev_ite, ev_ix, ev_slc, ev_call, ev_blt, ev_mth, evs_nil, evs_cons, evo_none, evo_some, evc_nil, evc_cons, st_set, st_asg, st_seti, st_aug, st_expr, st_ret, st_retN, st_ite, st_brk, st_cont, st_pass, sts_nil, sts_cons, finS_nx, finS_rt, tg_nm, tg_tup, tg_lst, tgs_nil, tgs_cons, wipeE, itOf, itD, rd, res_some, mkO_false, mkO_lst, mkO_dct, bltD, toInt?, ckI, List.getElem?_cons_zero, List.getElem?_cons_succ, List.set_cons_zero, List.set_cons_succ, r_bind, r_bindN, r_st, seq_nx, seq_rt, seq_bk, seq_ct, List.length_cons, List.length_nil, if_true, if_false, ite_true, ite_false, reduceIte, Bool.false_eq_true, Option.map_some, Option.bind_some, ix_tb1]) rfl rfl
    (fun q hq => ⟨[some (tb l), some (nm q)], by simp only [ev_var, ev_cst, ev_glb, ev_tup, ev_lst, ev_dic, ev_bin, ev_cmp, ev_chn, ev_neg, ev_not, ev_and, ev_or, ev_ite, ev_ix, ev_slc, ev_call, ev_blt, ev_mth, evs_nil, evs_cons, evo_none, evo_some, evc_nil, evc_cons, st_set, st_asg, st_seti, st_aug, st_expr, st_ret, st_retN, st_ite, st_brk, st_cont, st_pass, sts_nil, sts_cons, finS_nx, finS_rt, tg_nm, tg_tup, tg_lst, tgs_nil, tgs_cons, wipeE, itOf, itD, rd, res_some, mkO_false, mkO_lst, mkO_dct, bltD, toInt?, ckI, List.getElem?_cons_zero, List.getElem?_cons_succ, List.set_cons_zero, List.set_cons_succ, r_bind, r_bindN, r_st, seq_nx, seq_rt, seq_bk, seq_ct, List.length_cons, List.length_nil, if_true, if_false, ite_true, ite_false, reduceIte, Bool.false_eq_true, Option.map_some, Option.bind_some], by simp only [ev_var, ev_cst, ev_glb, ev_tup, ev_lst, ev_dic, ev_bin, ev_cmp, ev_chn, ev_neg, ev_not, ev_and, ev_or, ev_ite, ev_ix, ev_slc, ev_call, ev_blt, ev_mth, evs_nil, evs_cons, evo_none, evo_some, evc_nil, evc_cons, st_set, st_asg, st_seti, st_aug, st_expr, st_ret, st_retN, st_ite, st_brk, st_cont, st_pass, sts_nil, sts_cons, finS_nx, finS_rt, tg_nm, tg_tup, tg_lst, tgs_nil, tgs_cons, wipeE, itOf, itD, rd, res_some, mkO_false, mkO_lst, mkO_dct, bltD, toInt?, ckI, List.getElem?_cons_zero, List.getElem?_cons_succ, List.set_cons_zero, List.set_cons_succ, r_bind, r_bindN, r_st, seq_nx, seq_rt, seq_bk, seq_ct, List.length_cons, List.length_nil, if_true, if_false, ite_true, ite_false, reduceIte, Bool.false_eq_true, Option.map_some, Option.bind_some], by simp only [ev_var, ev_cst, ev_glb, ev_tup, ev_lst, ev_dic, ev_bin, ev_cmp, ev_chn, ev_neg, ev_not, ev_and, ev_or, ev_ite, ev_ix, ev_slc, ev_call, ev_blt, ev_mth, evs_nil, evs_cons, evo_none, evo_some, evc_nil, evc_cons, st_set, st_asg, st_seti, st_aug, st_expr, st_ret, st_retN, st_ite, st_brk, st_cont, st_pass, sts_nil, sts_cons, finS_nx, finS_rt, tg_nm, tg_tup, tg_lst, tgs_nil, tgs_cons, wipeE, itOf, itD, rd, res_some, mkO_false, mkO_lst, mkO_dct, bltD, toInt?, ckI, List.getElem?_cons_zero, List.getElem?_cons_succ, List.set_cons_zero, List.set_cons_succ, r_bind, r_bindN, r_st, seq_nx, seq_rt, seq_bk, seq_ct, List.length_cons, List.length_nil, if_true, if_false, ite_true, ite_false, reduceIte, Bool.false_eq_true, Option.map_some, Option.bind_some, is_number_ok L n q S]⟩) (by rw [lim_eq]; omega)
  simp only [ev_var, ev_cst, ev_glb, ev_cmp, ev_not, ev_or, ev_ix, ev_blt, evs_nil, evs_cons, sts_nil, sts_cons, st_ite, st_ret, finS_rt, res_some, mkO_false, r_bind, r_st, seq_nx, seq_rt, List.getElem?_cons_zero, b1, b2, b3, b4, b5, c1, c2, c3, ix_tb0, ix_tb1, g_wid, k1, all_rep, Option.map_some, Bool.not_true]
theorem count_of_ok (n : Nat) {m : Nat} (hm : m ≤ 4) {l : List Rat} (hl : l.length = 2 ^ m) (S : Ob) : callN (PU L) (n + 1) f_count_of [tb l] [] S = .ok (.int (m : Int)) S := by
  rw [c_count_of, b_count_of]
  have b5 := len_stp' S l
  rw [hl] at b5
  have c3 := wid_index S hm
  have r : rcv .index (isG (.glb 101)) (rd S WID) = some .tup := rfl
  simp only [ev_mth, ev_glb, g_wid, res_some, r_bind, r, evs_cons, evs_nil, ev_blt, ev_ix, ev_var, ev_cst, List.getElem?_cons_zero, ix_tb1, b5, mkO_false, c3, sts_cons, sts_nil, st_ret, r_st, seq_rt, finS_rt]
theorem need_any_ok (n : Nat) {m : Nat} (hm : m ≤ 4) {l : List Rat} (hl : l.length = 2 ^ m) (S : Ob) : callN (PU L) (n + 4) f_need_any [tb l] [] S = .ok .non S := by
  rw [c_need_any, b_need_any]
  simp only [ev_var, ev_cst, ev_glb, ev_tup, ev_lst, ev_dic, ev_bin, ev_cmp, ev_chn, ev_neg, ev_not, ev_and, ev_or, ev_ite, ev_ix, ev_slc, ev_call, ev_blt, ev_mth, evs_nil, evs_cons, evo_none, evo_some, evc_nil, evc_cons, st_set, st_asg, st_seti, st_aug, st_expr, st_ret, st_retN, st_ite, st_brk, st_cont, st_pass, sts_nil, sts_cons, finS_nx, finS_rt, tg_nm, tg_tup, tg_lst, tgs_nil, tgs_cons, wipeE, itOf, itD, rd, res_some, mkO_false, mkO_lst, mkO_dct, bltD, toInt?, ckI, List.getElem?_cons_zero, List.getElem?_cons_succ, List.set_cons_zero, List.set_cons_succ, r_bind, r_bindN, r_st, seq_nx, seq_rt, seq_bk, seq_ct, List.length_cons, List.length_nil, if_true, if_false, ite_true, ite_false, reduceIte, Bool.false_eq_true, Option.map_some, Option.bind_some, is_any_table_ok L n hm hl S, Bool.not_true]
theorem is_table_ok (n : Nat) {m : Nat} (hm : m ≤ 4) {l : List Rat} (hl : l.length = 2 ^ m) (S : Ob) : callN (PU L) (n + 4) f_is_table [.int (m : Int), tb l] [] S = .ok (.bl true) S := by
  rw [c_is_table, b_is_table]
  have q := eq_nat S m m
  simp only [decide_true] at q
  simp only [ev_var, ev_cst, ev_glb, ev_tup, ev_lst, ev_dic, ev_bin, ev_cmp, ev_chn, ev_neg, ev_not, ev_and, ev_or, ev_ite, ev_ix, ev_slc, ev_call, ev_blt, ev_mth, evs_nil, evs_cons, evo_none, evo_some, evc_nil, evc_cons, st_set, st_asg, st_seti, st_aug, st_expr, st_ret, st_retN, st_ite, st_brk, st_cont, st_pass, sts_nil, sts_cons, finS_nx, finS_rt, tg_nm, tg_tup, tg_lst, tgs_nil, tgs_cons, wipeE, itOf, itD, rd, res_some, mkO_false, mkO_lst, mkO_dct, bltD, toInt?, ckI, List.getElem?_cons_zero, List.getElem?_cons_succ, List.set_cons_zero, List.set_cons_succ, r_bind, r_bindN, r_st, seq_nx, seq_rt, seq_bk, seq_ct, List.length_cons, List.length_nil, if_true, if_false, ite_true, ite_false, reduceIte, Bool.false_eq_true, Option.map_some, Option.bind_some, need_many_ok L n hm S, is_any_table_ok L n hm hl S, count_of_ok L (n + 2) hm hl S, q]
theorem need_table_ok (n : Nat) {m : Nat} (hm : m ≤ 4) {l : List Rat} (hl : l.length = 2 ^ m) (S : Ob) : callN (PU L) (n + 5) f_need_table [.int (m : Int), tb l] [] S = .ok .non S := by
  rw [c_need_table, b_need_table]
  simp only [ev_var, ev_cst, ev_glb, ev_tup, ev_lst, ev_dic, ev_bin, ev_cmp, ev_chn, ev_neg, ev_not, ev_and, ev_or, ev_ite, ev_ix, ev_slc, ev_call, ev_blt, ev_mth, evs_nil, evs_cons, evo_none, evo_some, evc_nil, evc_cons, st_set, st_asg, st_seti, st_aug, st_expr, st_ret, st_retN, st_ite, st_brk, st_cont, st_pass, sts_nil, sts_cons, finS_nx, finS_rt, tg_nm, tg_tup, tg_lst, tgs_nil, tgs_cons, wipeE, itOf, itD, rd, res_some, mkO_false, mkO_lst, mkO_dct, bltD, toInt?, ckI, List.getElem?_cons_zero, List.getElem?_cons_succ, List.set_cons_zero, List.set_cons_succ, r_bind, r_bindN, r_st, seq_nx, seq_rt, seq_bk, seq_ct, List.length_cons, List.length_nil, if_true, if_false, ite_true, ite_false, reduceIte, Bool.false_eq_true, Option.map_some, Option.bind_some, is_table_ok L n hm hl S, Bool.not_true]
theorem need_own_ok (n : Nat) {m : Nat} {s : List Rat} (hs : StpOk m s) {l : List Rat} (hl : l.length = 2 ^ m) (S : Ob) : callN (PU L) (n + 5) f_need_own [stp s, tb l] [] S = .ok .non S := by
  rw [c_need_own, b_need_own]
  have e4 := len_stp S s
  rw [hs.1] at e4
  simp only [ev_var, ev_cst, ev_glb, ev_tup, ev_lst, ev_dic, ev_bin, ev_cmp, ev_chn, ev_neg, ev_not, ev_and, ev_or, ev_ite, ev_ix, ev_slc, ev_call, ev_blt, ev_mth, evs_nil, evs_cons, evo_none, evo_some, evc_nil, evc_cons, st_set, st_asg, st_seti, st_aug, st_expr, st_ret, st_retN, st_ite, st_brk, st_cont, st_pass, sts_nil, sts_cons, finS_nx, finS_rt, tg_nm, tg_tup, tg_lst, tgs_nil, tgs_cons, wipeE, itOf, itD, rd, res_some, mkO_false, mkO_lst, mkO_dct, toInt?, ckI, List.getElem?_cons_zero, List.getElem?_cons_succ, List.set_cons_zero, List.set_cons_succ, r_bind, r_bindN, r_st, seq_nx, seq_rt, seq_bk, seq_ct, List.length_cons, List.length_nil, if_true, if_false, ite_true, ite_false, reduceIte, Bool.false_eq_true, Option.map_some, Option.bind_some, need_steps_ok L (n + 1) hs S, e4, is_table_ok L n hs.2.1 hl S, Bool.not_true]
theorem need_alike_ok (n : Nat) {m : Nat} (hm : m ≤ 4) {a b : List Rat} (ha : a.length = 2 ^ m) (hb : b.length = 2 ^ m) (S : Ob) : callN (PU L) (n + 5) f_need_alike [tb a, tb b] [] S = .ok .non S := by
  rw [c_need_alike, b_need_alike]
  have e1 := len_stp' S a
  have e2 := len_stp' S b
  rw [ha] at e1
  rw [hb] at e2
  have q := ne_nat S (2 ^ m) (2 ^ m)
  simp only [decide_true, Bool.not_true] at q
  simp only [ev_var, ev_cst, ev_glb, ev_tup, ev_lst, ev_dic, ev_bin, ev_cmp, ev_chn, ev_neg, ev_not, ev_and, ev_or, ev_ite, ev_ix, ev_slc, ev_call, ev_blt, ev_mth, evs_nil, evs_cons, evo_none, evo_some, evc_nil, evc_cons, st_set, st_asg, st_seti, st_aug, st_expr, st_ret, st_retN, st_ite, st_brk, st_cont, st_pass, sts_nil, sts_cons, finS_nx, finS_rt, tg_nm, tg_tup, tg_lst, tgs_nil, tgs_cons, wipeE, itOf, itD, rd, res_some, mkO_false, mkO_lst, mkO_dct, toInt?, ckI, List.getElem?_cons_zero, List.getElem?_cons_succ, List.set_cons_zero, List.set_cons_succ, r_bind, r_bindN, r_st, seq_nx, seq_rt, seq_bk, seq_ct, List.length_cons, List.length_nil, if_true, if_false, ite_true, ite_false, reduceIte, Bool.false_eq_true, Option.map_some, Option.bind_some, need_any_ok L n hm ha S, need_any_ok L n hm hb S, ix_tb1, e1, e2, q]
theorem made_ok (n : Nat) (l : List Rat) (S : Ob) : callN (PU L) (n + 1) f_made [.lst (nms l)] [] S = .ok (tb l) S := rfl
/-! ### lines -/
theorem lookup_range : ∀ (l : List Rat) (k i : Nat), ((List.range' k l.length).zip l).lookup (k + i) = l[i]?
  | [], k, i => by simp
  | q :: l, k, i => by
    rw [List.length_cons, List.range'_succ, List.zip_cons_cons]
    cases i with
    | zero => rw [Nat.add_zero, List.lookup_cons_self]; rfl
    | succ i =>
      have e : (k + (i + 1) == k) = false := by rw [beq_eq_false_iff_ne]; omega
      rw [List.lookup_cons, e]
      have ih := lookup_range l (k + 1) i
      rw [show k + 1 + i = k + (i + 1) by omega] at ih
      rw [List.getElem?_cons_succ]
      exact ih
/-- the lots' tuple of keys -/
def LTs (N : Nat) : List D := (List.range N).map LT
theorem zip_fst : ∀ (l : List Rat) (k : Nat), ((List.range' k l.length).zip l).map (fun p => LT p.1) = (List.range' k l.length).map LT
  | [], k => by simp
  | q :: l, k => by
    rw [List.length_cons, List.range'_succ, List.zip_cons_cons, List.map_cons, List.map_cons, zip_fst l (k + 1)]
theorem zip_snd : ∀ (l : List Rat) (k : Nat), ((List.range' k l.length).zip l).map (fun p => nm p.2) = nms l
  | [], k => by simp [nms]
  | q :: l, k => by
    rw [List.length_cons, List.range'_succ, List.zip_cons_cons, List.map_cons, zip_snd l (k + 1)]
    rfl
theorem at_LTs {l : List Rat} (hN : l.length ≤ 16) {i : Nat} (hi : i < l.length) : at? (LTs l.length) (nms l) (LT i) = some (nm (l.getD i 0)) := by
  have h := at_LT ((List.range' 0 l.length).zip l) (i := i) (by omega) (fun p hp => by
    have := (List.of_mem_zip hp).1
    simp at this
    omega)
  rw [zip_fst, zip_snd] at h
  have e := lookup_range l 0 i
  rw [Nat.zero_add] at e
  rw [e, List.getElem?_eq_getElem hi] at h
  rw [LTs, List.range_eq_range', h, List.getD_eq_getElem?_getD, List.getElem?_eq_getElem hi]
  rfl
theorem keys_LTs {N : Nat} (hN : N ≤ 16) {i : Nat} (hi : i < 16) : keysOk (LT i :: LTs N) = true :=
  keysOk_LT (ks := i :: List.range N) fun k hk => by
    rcases List.mem_cons.mp hk with rfl | hk
    · exact hi
    · have := List.mem_range.mp hk; omega
theorem putD_range : ∀ (l : List Rat) (k i : Nat) (v : D), k + l.length ≤ 16 → i < l.length → putD ((List.range' k l.length).map LT) (nms l) (LT (k + i)) v = ((List.range' k l.length).map LT, (nms l).set i v)
  | [], k, i, v, _, h => absurd h (Nat.not_lt_zero _)
  | q :: l, k, i, v, hk, h => by
    rw [List.length_cons] at hk h
    rw [List.length_cons, List.range'_succ, List.map_cons]
    show putD (LT k :: _) (nm q :: nms l) _ v = _
    unfold putD
    cases i with
    | zero => rw [if_pos (show LT k = LT (k + 0) from rfl)]; rfl
    | succ i =>
      rw [if_neg (fun z => by have := LT_inj (by omega) (by omega) z; omega)]
      have ih := putD_range l (k + 1) i v (by omega) (by omega)
      rw [show k + 1 + i = k + (i + 1) by omega] at ih
      rw [ih]
      rfl
theorem putD_LTs {l : List Rat} (hN : l.length ≤ 16) {i : Nat} (hi : i < l.length) (q : Rat) : putD (LTs l.length) (nms l) (LT i) (nm q) = (LTs l.length, nms (l.set i q)) := by
  have := putD_range l 0 i (nm q) (by omega) hi
  rw [Nat.zero_add, ← List.range_eq_range'] at this
  rw [LTs, this, nms, nms, List.map_set]
theorem zipD (l : List Rat) : (LTs l.length).zip (nms l) = ((List.range' 0 l.length).zip l).map fun p => (LT p.1, nm p.2) := by
  have key : ∀ (l : List Rat) (k : Nat), ((List.range' k l.length).map LT).zip (nms l) = ((List.range' k l.length).zip l).map fun p => (LT p.1, nm p.2) := by
    intro l
    induction l with
    | nil => intro k; simp [nms]
    | cons q l ih =>
      intro k
      rw [List.length_cons, List.range'_succ, List.map_cons, List.zip_cons_cons, List.map_cons]
      show (LT k, nm q) :: _ = _
      have := ih (k + 1)
      rw [← this]
      rfl
  rw [LTs, List.range_eq_range', key]
theorem lines_ok (n : Nat) {m : Nat} (hm : m ≤ 4) {l : List Rat} (hl : l.length = 2 ^ m) (S : Ob) : callN (PU L) (n + 2) f_lines [tb l] [] S = .ok (.dct (LTs (2 ^ m)) (nms l)) S := by
  rw [c_lines, b_lines]
  have hp : 2 ^ m ≤ 2 ^ 4 := Nat.pow_le_pow_right (by decide) hm
  have e1 : bltD S .dictz [.lst ((List.range (2 ^ m)).map LT), stp l] = some (.dct (LTs (2 ^ m)) (nms l)) := by
    show dctP (((List.range (2 ^ m)).map LT).zip (nms l)) = _
    have z := zipD l
    rw [hl] at z
    rw [show (List.range (2 ^ m)).map LT = LTs (2 ^ m) from rfl, z]
    have d1 : ∀ p ∈ (List.range' 0 (2 ^ m)).zip l, p.1 < 16 := fun p hp' => by
      have := (List.of_mem_zip hp').1
      simp at this
      omega
    have d2 : (((List.range' 0 (2 ^ m)).zip l).map (·.1)).Nodup := by
      rw [List.map_fst_zip (by rw [List.length_range']; omega)]
      exact List.nodup_range' ..
    have := dict_prs S d1 d2 (by rw [List.length_zip, List.length_range', lim_eq]; omega)
    have h : (pairsOf (((List.range' 0 (2 ^ m)).zip l).map fun p => D.tup [LT p.1, nm p.2])).bind dctP = some (.dct (((List.range' 0 (2 ^ m)).zip l).map fun p => LT p.1) (((List.range' 0 (2 ^ m)).zip l).map fun p => nm p.2)) := this
    rw [pairs_map, Option.bind_some] at h
    rw [h]
    have z1 := zip_fst l 0
    have z2 := zip_snd l 0
    rw [hl] at z1 z2
    rw [z1, z2, LTs, List.range_eq_range']
  simp only [ev_var, ev_cst, ev_glb, ev_tup, ev_lst, ev_dic, ev_bin, ev_cmp, ev_chn, ev_neg, ev_not, ev_and, ev_or, ev_ite, ev_ix, ev_slc, ev_call, ev_blt, ev_mth, evs_nil, evs_cons, evo_none, evo_some, evc_nil, evc_cons, st_set, st_asg, st_seti, st_aug, st_expr, st_ret, st_retN, st_ite, st_brk, st_cont, st_pass, sts_nil, sts_cons, finS_nx, finS_rt, tg_nm, tg_tup, tg_lst, tgs_nil, tgs_cons, wipeE, itOf, itD, rd, res_some, mkO_false, mkO_lst, mkO_dct, toInt?, ckI, List.getElem?_cons_zero, List.getElem?_cons_succ, List.set_cons_zero, List.set_cons_succ, r_bind, r_bindN, r_st, seq_nx, seq_rt, seq_bk, seq_ct, List.length_cons, List.length_nil, if_true, if_false, ite_true, ite_false, reduceIte, Bool.false_eq_true, Option.map_some, Option.bind_some, count_of_ok L n hm hl S, lots_of_ok L n hm S, ix_tb1, e1]
/-! ### sums, products with a number -/
theorem zip_it (S : Ob) (a b : List Rat) : itD S .zip [stp a, stp b] = some ((a.zip b).map fun p => .tup [nm p.1, nm p.2]) := by
  show some (((nms a).zip (nms b)).map fun p => D.tup [p.1, p.2]) = _
  rw [nms, nms, List.zip_map, List.map_map]
  rfl
def addL (a b : List Rat) : List Rat := (a.zip b).map fun p => p.1 + p.2
theorem summed_ok (n : Nat) {a b : List Rat} (hl : a.length ≤ 16) (ha : ∀ q ∈ a, SmQ q) (hb : ∀ q ∈ b, SmQ q) (S : Ob) : callN (PU L) (n + 3) f_summed [tb a, tb b] [] S = .ok (tb (addL a b)) S := by
  rw [c_summed, b_summed]
  have k1 := ev_lcM (P := PU L) (cf := callN (PU L) (n + 2)) (tg := .tp [.nm 2, .nm 3]) (w := .zip) (it := [.ix (.var 0) (.cst (.int (1))), .ix (.var 1) (.cst (.int (1)))]) (ifs := []) (e := .call 768 [.var 2, .var 3] []) (own := [2, 3]) (ρ := [some (tb a), some (tb b), none, none]) (S := S) (xs := [stp a, stp b])
    (fun p : Rat × Rat => .tup [nm p.1, nm p.2]) (fun p => nm (p.1 + p.2)) (ys := a.zip b) (by simp only [ev_var, ev_cst, ev_glb, ev_tup, ev_lst, ev_dic, ev_bin, ev_cmp, ev_chn, ev_neg, ev_not, ev_and, ev_or, ev_ite, ev_ix, ev_slc, ev_call, ev_blt, ev_mth, evs_nil, evs_cons, evo_none, evo_some, evc_nil, evc_cons, st_set, st_asg, st_seti, st_aug, st_expr, st_ret, st_retN, st_ite, st_brk, st_cont, st_pass, sts_nil, sts_cons, finS_nx, finS_rt, tg_nm, tg_tup, tg_lst, tgs_nil, tgs_cons, wipeE, itOf, itD, rd, res_some, mkO_false, mkO_lst, mkO_dct, bltD, toInt?, ckI, List.getElem?_cons_zero, List.getElem?_cons_succ, List.set_cons_zero, List.set_cons_succ, r_bind, r_bindN, r_st, seq_nx, seq_rt, seq_bk, seq_ct, List.length_cons, List.length_nil, if_true, if_false, ite_true, ite_false, reduceIte, Bool.false_eq_true, Option.map_some, Option.bind_some, ix_tb1]) (zip_it S a b) rfl
    (fun p hp => ⟨[some (tb a), some (tb b), some (nm p.1), some (nm p.2)], by simp only [ev_var, ev_cst, ev_glb, ev_tup, ev_lst, ev_dic, ev_bin, ev_cmp, ev_chn, ev_neg, ev_not, ev_and, ev_or, ev_ite, ev_ix, ev_slc, ev_call, ev_blt, ev_mth, evs_nil, evs_cons, evo_none, evo_some, evc_nil, evc_cons, st_set, st_asg, st_seti, st_aug, st_expr, st_ret, st_retN, st_ite, st_brk, st_cont, st_pass, sts_nil, sts_cons, finS_nx, finS_rt, tg_nm, tg_tup, tg_lst, tgs_nil, tgs_cons, wipeE, itOf, itD, rd, res_some, mkO_false, mkO_lst, mkO_dct, bltD, toInt?, ckI, List.getElem?_cons_zero, List.getElem?_cons_succ, List.set_cons_zero, List.set_cons_succ, r_bind, r_bindN, r_st, seq_nx, seq_rt, seq_bk, seq_ct, List.length_cons, List.length_nil, if_true, if_false, ite_true, ite_false, reduceIte, Bool.false_eq_true, Option.map_some, Option.bind_some], by simp only [ev_var, ev_cst, ev_glb, ev_tup, ev_lst, ev_dic, ev_bin, ev_cmp, ev_chn, ev_neg, ev_not, ev_and, ev_or, ev_ite, ev_ix, ev_slc, ev_call, ev_blt, ev_mth, evs_nil, evs_cons, evo_none, evo_some, evc_nil, evc_cons, st_set, st_asg, st_seti, st_aug, st_expr, st_ret, st_retN, st_ite, st_brk, st_cont, st_pass, sts_nil, sts_cons, finS_nx, finS_rt, tg_nm, tg_tup, tg_lst, tgs_nil, tgs_cons, wipeE, itOf, itD, rd, res_some, mkO_false, mkO_lst, mkO_dct, bltD, toInt?, ckI, List.getElem?_cons_zero, List.getElem?_cons_succ, List.set_cons_zero, List.set_cons_succ, r_bind, r_bindN, r_st, seq_nx, seq_rt, seq_bk, seq_ct, List.length_cons, List.length_nil, if_true, if_false, ite_true, ite_false, reduceIte, Bool.false_eq_true, Option.map_some, Option.bind_some], by
      obtain ⟨h1, h2⟩ := List.of_mem_zip hp
      simp only [ev_var, ev_cst, ev_glb, ev_tup, ev_lst, ev_dic, ev_bin, ev_cmp, ev_chn, ev_neg, ev_not, ev_and, ev_or, ev_ite, ev_ix, ev_slc, ev_call, ev_blt, ev_mth, evs_nil, evs_cons, evo_none, evo_some, evc_nil, evc_cons, st_set, st_asg, st_seti, st_aug, st_expr, st_ret, st_retN, st_ite, st_brk, st_cont, st_pass, sts_nil, sts_cons, finS_nx, finS_rt, tg_nm, tg_tup, tg_lst, tgs_nil, tgs_cons, wipeE, itOf, itD, rd, res_some, mkO_false, mkO_lst, mkO_dct, bltD, toInt?, ckI, List.getElem?_cons_zero, List.getElem?_cons_succ, List.set_cons_zero, List.set_cons_succ, r_bind, r_bindN, r_st, seq_nx, seq_rt, seq_bk, seq_ct, List.length_cons, List.length_nil, if_true, if_false, ite_true, ite_false, reduceIte, Bool.false_eq_true, Option.map_some, Option.bind_some, plus_ok L n (ha _ h1) (hb _ h2) S]⟩) (by rw [List.length_zip, lim_eq]; omega)
  have k2 : (List.map (fun p : Rat × Rat => nm (p.1 + p.2)) (a.zip b)) = nms (addL a b) := by rw [nms, addL, List.map_map]; rfl
  rw [k2] at k1
  simp only [sts_cons, sts_nil, st_ret, ev_call, evs_cons, evs_nil, k1, r_bind, made_ok L (n + 1) (addL a b) S, r_st, seq_rt, finS_rt]
theorem scaled_ok (n : Nat) {p : Rat} (hp : SmQ p) {a : List Rat} (hl : a.length ≤ 16) (ha : ∀ q ∈ a, SmQ q) (S : Ob) : callN (PU L) (n + 3) f_scaled [nm p, tb a] [] S = .ok (tb (a.map fun q => p * q)) S := by
  rw [c_scaled, b_scaled]
  have k1 := ev_lcM (P := PU L) (cf := callN (PU L) (n + 2)) (tg := .nm 2) (w := .val) (it := [.ix (.var 1) (.cst (.int (1)))]) (ifs := []) (e := .call 832 [.var 0, .var 2] []) (own := [2]) (ρ := [some (nm p), some (tb a), none]) (S := S) (xs := [stp a])
    nm (fun q => nm (p * q)) (ys := a) (by simp only [ev_var, ev_cst, ev_glb, ev_tup, ev_lst, ev_dic, ev_bin, ev_cmp, ev_chn, ev_neg, ev_not, ev_and, ev_or, ev_ite, ev_ix, ev_slc, ev_call, ev_blt, ev_mth, evs_nil, evs_cons, evo_none, evo_some, evc_nil, evc_cons, st_set, st_asg, st_seti, st_aug, st_expr, st_ret, st_retN, st_ite, st_brk, st_cont, st_pass, sts_nil, sts_cons, finS_nx, finS_rt, tg_nm, tg_tup, tg_lst, tgs_nil, tgs_cons, wipeE, itOf, itD, rd, res_some, mkO_false, mkO_lst, mkO_dct, bltD, toInt?, ckI, List.getElem?_cons_zero, List.getElem?_cons_succ, List.set_cons_zero, List.set_cons_succ, r_bind, r_bindN, r_st, seq_nx, seq_rt, seq_bk, seq_ct, List.length_cons, List.length_nil, if_true, if_false, ite_true, ite_false, reduceIte, Bool.false_eq_true, Option.map_some, Option.bind_some, ix_tb1]) rfl rfl
    (fun q hq => ⟨[some (nm p), some (tb a), some (nm q)], by simp only [ev_var, ev_cst, ev_glb, ev_tup, ev_lst, ev_dic, ev_bin, ev_cmp, ev_chn, ev_neg, ev_not, ev_and, ev_or, ev_ite, ev_ix, ev_slc, ev_call, ev_blt, ev_mth, evs_nil, evs_cons, evo_none, evo_some, evc_nil, evc_cons, st_set, st_asg, st_seti, st_aug, st_expr, st_ret, st_retN, st_ite, st_brk, st_cont, st_pass, sts_nil, sts_cons, finS_nx, finS_rt, tg_nm, tg_tup, tg_lst, tgs_nil, tgs_cons, wipeE, itOf, itD, rd, res_some, mkO_false, mkO_lst, mkO_dct, bltD, toInt?, ckI, List.getElem?_cons_zero, List.getElem?_cons_succ, List.set_cons_zero, List.set_cons_succ, r_bind, r_bindN, r_st, seq_nx, seq_rt, seq_bk, seq_ct, List.length_cons, List.length_nil, if_true, if_false, ite_true, ite_false, reduceIte, Bool.false_eq_true, Option.map_some, Option.bind_some], by simp only [ev_var, ev_cst, ev_glb, ev_tup, ev_lst, ev_dic, ev_bin, ev_cmp, ev_chn, ev_neg, ev_not, ev_and, ev_or, ev_ite, ev_ix, ev_slc, ev_call, ev_blt, ev_mth, evs_nil, evs_cons, evo_none, evo_some, evc_nil, evc_cons, st_set, st_asg, st_seti, st_aug, st_expr, st_ret, st_retN, st_ite, st_brk, st_cont, st_pass, sts_nil, sts_cons, finS_nx, finS_rt, tg_nm, tg_tup, tg_lst, tgs_nil, tgs_cons, wipeE, itOf, itD, rd, res_some, mkO_false, mkO_lst, mkO_dct, bltD, toInt?, ckI, List.getElem?_cons_zero, List.getElem?_cons_succ, List.set_cons_zero, List.set_cons_succ, r_bind, r_bindN, r_st, seq_nx, seq_rt, seq_bk, seq_ct, List.length_cons, List.length_nil, if_true, if_false, ite_true, ite_false, reduceIte, Bool.false_eq_true, Option.map_some, Option.bind_some], by simp only [ev_var, ev_cst, ev_glb, ev_tup, ev_lst, ev_dic, ev_bin, ev_cmp, ev_chn, ev_neg, ev_not, ev_and, ev_or, ev_ite, ev_ix, ev_slc, ev_call, ev_blt, ev_mth, evs_nil, evs_cons, evo_none, evo_some, evc_nil, evc_cons, st_set, st_asg, st_seti, st_aug, st_expr, st_ret, st_retN, st_ite, st_brk, st_cont, st_pass, sts_nil, sts_cons, finS_nx, finS_rt, tg_nm, tg_tup, tg_lst, tgs_nil, tgs_cons, wipeE, itOf, itD, rd, res_some, mkO_false, mkO_lst, mkO_dct, bltD, toInt?, ckI, List.getElem?_cons_zero, List.getElem?_cons_succ, List.set_cons_zero, List.set_cons_succ, r_bind, r_bindN, r_st, seq_nx, seq_rt, seq_bk, seq_ct, List.length_cons, List.length_nil, if_true, if_false, ite_true, ite_false, reduceIte, Bool.false_eq_true, Option.map_some, Option.bind_some, times_ok L n hp (ha _ hq) S]⟩) (by rw [lim_eq]; omega)
  have k2 : (List.map (fun q : Rat => nm (p * q)) a) = nms (a.map fun q => p * q) := by rw [nms, List.map_map]; rfl
  rw [k2] at k1
  simp only [sts_cons, sts_nil, st_ret, ev_call, evs_cons, evs_nil, k1, r_bind, made_ok L (n + 1) (a.map fun q => p * q) S, r_st, seq_rt, finS_rt]
theorem plus_tables_ok (n : Nat) {m : Nat} (hm : m ≤ 4) {a b : List Rat} (hla : a.length = 2 ^ m) (hlb : b.length = 2 ^ m) (ha : ∀ q ∈ a, SmQ q) (hb : ∀ q ∈ b, SmQ q) (S : Ob) : callN (PU L) (n + 6) f_plus_tables [tb a, tb b] [] S = .ok (tb (addL a b)) S := by
  rw [c_plus_tables, b_plus_tables]
  have hp : 2 ^ m ≤ 2 ^ 4 := Nat.pow_le_pow_right (by decide) hm
  simp only [ev_var, ev_cst, ev_glb, ev_tup, ev_lst, ev_dic, ev_bin, ev_cmp, ev_chn, ev_neg, ev_not, ev_and, ev_or, ev_ite, ev_ix, ev_slc, ev_call, ev_blt, ev_mth, evs_nil, evs_cons, evo_none, evo_some, evc_nil, evc_cons, st_set, st_asg, st_seti, st_aug, st_expr, st_ret, st_retN, st_ite, st_brk, st_cont, st_pass, sts_nil, sts_cons, finS_nx, finS_rt, tg_nm, tg_tup, tg_lst, tgs_nil, tgs_cons, wipeE, itOf, itD, rd, res_some, mkO_false, mkO_lst, mkO_dct, bltD, toInt?, ckI, List.getElem?_cons_zero, List.getElem?_cons_succ, List.set_cons_zero, List.set_cons_succ, r_bind, r_bindN, r_st, seq_nx, seq_rt, seq_bk, seq_ct, List.length_cons, List.length_nil, if_true, if_false, ite_true, ite_false, reduceIte, Bool.false_eq_true, Option.map_some, Option.bind_some, need_alike_ok L n hm hla hlb S, summed_ok L (n + 2) (by omega) ha hb S]
theorem scaled_table_ok (n : Nat) {p : Rat} (hp : SmQ p) {m : Nat} (hm : m ≤ 4) {a : List Rat} (hla : a.length = 2 ^ m) (ha : ∀ q ∈ a, SmQ q) (S : Ob) : callN (PU L) (n + 5) f_scaled_table [nm p, tb a] [] S = .ok (tb (a.map fun q => p * q)) S := by
  rw [c_scaled_table, b_scaled_table]
  have hp2 : 2 ^ m ≤ 2 ^ 4 := Nat.pow_le_pow_right (by decide) hm
  simp only [ev_var, ev_cst, ev_glb, ev_tup, ev_lst, ev_dic, ev_bin, ev_cmp, ev_chn, ev_neg, ev_not, ev_and, ev_or, ev_ite, ev_ix, ev_slc, ev_call, ev_blt, ev_mth, evs_nil, evs_cons, evo_none, evo_some, evc_nil, evc_cons, st_set, st_asg, st_seti, st_aug, st_expr, st_ret, st_retN, st_ite, st_brk, st_cont, st_pass, sts_nil, sts_cons, finS_nx, finS_rt, tg_nm, tg_tup, tg_lst, tgs_nil, tgs_cons, wipeE, itOf, itD, rd, res_some, mkO_false, mkO_lst, mkO_dct, bltD, toInt?, ckI, List.getElem?_cons_zero, List.getElem?_cons_succ, List.set_cons_zero, List.set_cons_succ, r_bind, r_bindN, r_st, seq_nx, seq_rt, seq_bk, seq_ct, List.length_cons, List.length_nil, if_true, if_false, ite_true, ite_false, reduceIte, Bool.false_eq_true, Option.map_some, Option.bind_some, need_any_ok L n hm hla S, is_number_ok L (n + 2) p S, scaled_ok L (n + 1) hp (by omega) ha S, Bool.not_true]
theorem less_ok (n : Nat) {m : Nat} (hm : m ≤ 4) {a b : List Rat} (hla : a.length = 2 ^ m) (hlb : b.length = 2 ^ m) (ha : ∀ q ∈ a, SmQ q) (hb : ∀ q ∈ b, SmQ q) (S : Ob) : callN (PU L) (n + 7) f_less [tb a, tb b] [] S = .ok (tb (addL a (b.map fun q => -1 * q))) S := by
  rw [c_less, b_less]
  have e1 : callN (PU L) (n + 6) 686 [nm 1] [] S = .ok (nm (-1)) S := minus_ok L (n + 5) 1 S
  have h1 : SmQ (-1) := ⟨by unfold Sm; decide +kernel, by unfold Sm; decide +kernel⟩
  have hb' : ∀ q ∈ b.map (fun q => -1 * q), SmQ q := fun q hq => by
    obtain ⟨x, hx, rfl⟩ := List.mem_map.mp hq
    rw [Rat.neg_mul, Rat.one_mul]
    exact (hb x hx).neg
  simp only [ev_var, ev_cst, ev_glb, ev_tup, ev_lst, ev_dic, ev_bin, ev_cmp, ev_chn, ev_neg, ev_not, ev_and, ev_or, ev_ite, ev_ix, ev_slc, ev_call, ev_blt, ev_mth, evs_nil, evs_cons, evo_none, evo_some, evc_nil, evc_cons, st_set, st_asg, st_seti, st_aug, st_expr, st_ret, st_retN, st_ite, st_brk, st_cont, st_pass, sts_nil, sts_cons, finS_nx, finS_rt, tg_nm, tg_tup, tg_lst, tgs_nil, tgs_cons, wipeE, itOf, itD, rd, res_some, mkO_false, mkO_lst, mkO_dct, bltD, toInt?, ckI, List.getElem?_cons_zero, List.getElem?_cons_succ, List.set_cons_zero, List.set_cons_succ, r_bind, r_bindN, r_st, seq_nx, seq_rt, seq_bk, seq_ct, List.length_cons, List.length_nil, if_true, if_false, ite_true, ite_false, reduceIte, Bool.false_eq_true, Option.map_some, Option.bind_some, g_one, e1, scaled_table_ok L (n + 1) h1 hm hlb hb S, plus_tables_ok L n hm hla (by rw [List.length_map]; exact hlb) ha hb' S]
end
end QL
set_option Elab.async false
set_option linter.all false
set_option maxRecDepth 100000
set_option maxHeartbeats 2000000
set_option exponentiation.threshold 20000
/-! QM8: tables folded. -/
namespace QL
open PySem
def sumN : Nat → (Nat → Rat) → Rat
  | 0, _ => 0
  | n + 1, f => sumN n f + f n
/-- what two numbers bring to a lot -/
def tm (s a b : List Rat) (i j w : Nat) : Rat := if i ^^^ j = w then a.getD i 0 * b.getD j 0 * wt s i j else 0
/-- what is added up behind k rows and j places of the next one -/
def accF (N : Nat) (s a b : List Rat) (k j w : Nat) : Rat := sumN k (fun i => sumN N fun j => tm s a b i j w) + sumN j fun j => tm s a b k j w
def accL (N : Nat) (s a b : List Rat) (k j : Nat) : List Rat := (List.range N).map (accF N s a b k j)
/-- two tables folded -/
def foldL (N : Nat) (s a b : List Rat) : List Rat := (List.range N).map fun w => sumN N fun i => sumN N fun j => tm s a b i j w
theorem rat_add0 (q : Rat) : q + 0 = q := Rat.add_zero q
theorem accL_row (N : Nat) (s a b : List Rat) (k : Nat) : accL N s a b k N = accL N s a b (k + 1) 0 := by
  unfold accL
  refine List.map_congr_left fun w _ => ?_
  unfold accF
  show _ = sumN k _ + sumN N _ + 0
  rw [rat_add0]
theorem accL_end (N : Nat) (s a b : List Rat) : accL N s a b N 0 = foldL N s a b := by
  unfold accL foldL
  refine List.map_congr_left fun w _ => ?_
  show sumN N _ + 0 = _
  rw [rat_add0]
theorem accL_len (N : Nat) (s a b : List Rat) (k j : Nat) : (accL N s a b k j).length = N := by
  unfold accL
  rw [List.length_map, List.length_range]
theorem accL_get {N : Nat} {s a b : List Rat} {k j w : Nat} (h : w < N) : (accL N s a b k j).getD w 0 = accF N s a b k j w := by
  unfold accL
  rw [List.getD_eq_getElem?_getD, List.getElem?_map, List.getElem?_range h]
  rfl
/-- a turn that adds -/
theorem accL_set {N : Nat} {s a b : List Rat} {k j : Nat} (h : k ^^^ j < N) : (accL N s a b k j).set (k ^^^ j) (accF N s a b k j (k ^^^ j) + a.getD k 0 * b.getD j 0 * wt s k j) = accL N s a b k (j + 1) := by
  refine List.ext_getElem (by rw [List.length_set, accL_len, accL_len]) fun w h1 h2 => ?_
  rw [accL_len] at h2
  rw [List.getElem_set]
  have e : ∀ j', (accL N s a b k j')[w]'(by rw [accL_len]; exact h2) = accF N s a b k j' w := fun j' => by
    unfold accL
    rw [List.getElem_map, List.getElem_range]
  rw [e (j + 1)]
  have step : accF N s a b k (j + 1) w = accF N s a b k j w + tm s a b k j w := by
    unfold accF
    show _ + (_ + _) = _ + _ + _
    rw [Rat.add_assoc]
  rw [step]
  split
  · rename_i c
    subst c
    rw [tm, if_pos rfl]
  · rename_i c
    rw [e j, tm, if_neg c, rat_add0]
/-- a turn that adds nothing -/
theorem accL_skip {N : Nat} {s a b : List Rat} {k j : Nat} (h : a.getD k 0 = 0 ∨ b.getD j 0 = 0) : accL N s a b k j = accL N s a b k (j + 1) := by
  unfold accL
  refine List.map_congr_left fun w _ => ?_
  have : tm s a b k j w = 0 := by
    unfold tm
    split
    · rcases h with h | h <;> rw [h]
      · rw [Rat.zero_mul, Rat.zero_mul]
      · rw [Rat.mul_zero, Rat.zero_mul]
    · rfl
  unfold accF
  show _ = _ + (_ + tm s a b k j w)
  rw [this, rat_add0]
/-! ### sizes -/
/-- numbers of so many parts -/
def FrL (M V : Nat) (l : List Rat) : Prop := 0 < M ∧ ∀ q ∈ l, Fr M V q
theorem FrL.get {M V : Nat} {l : List Rat} (h : FrL M V l) (i : Nat) : Fr M V (l.getD i 0) := by
  by_cases hb : i < l.length
  · rw [List.getD_eq_getElem?_getD, List.getElem?_eq_getElem hb]
    exact h.2 _ (List.getElem_mem hb)
  · rw [List.getD_eq_getElem?_getD, List.getElem?_eq_none (by omega)]
    exact (Fr.zero h.1).mono (Nat.zero_le _)
section
variable {m Ma Va Mb Vb : Nat} {s a b : List Rat}
theorem tm_fr (hs : StpOk m s) (ha : FrL Ma Va a) (hb : FrL Mb Vb b) (i j w : Nat) : Fr (Ma * Mb * 16) (Va * Vb * 1296) (tm s a b i j w) := by
  unfold tm
  split
  · exact ((ha.get i).mul (hb.get j)).mul (wt_fr hs i j)
  · exact (Fr.zero (Nat.mul_pos (Nat.mul_pos ha.1 hb.1) (by decide))).mono (Nat.zero_le _)
theorem sumN_fr {M V : Nat} (h0 : 0 < M) {f : Nat → Rat} (h : ∀ i, Fr M V (f i)) : ∀ n, Fr M (n * V) (sumN n f)
  | 0 => by rw [Nat.zero_mul]; exact Fr.zero h0
  | n + 1 => by rw [Nat.succ_mul]; exact (sumN_fr h0 h n).add (h n)
theorem accF_fr (hs : StpOk m s) (ha : FrL Ma Va a) (hb : FrL Mb Vb b) (N k j w : Nat) : Fr (Ma * Mb * 16) ((k * N + j) * (Va * Vb * 1296)) (accF N s a b k j w) := by
  have h0 := (tm_fr hs ha hb 0 0 0).1
  have h1 := sumN_fr h0 (f := fun i => sumN N fun j => tm s a b i j w) (fun i => sumN_fr h0 (fun j => tm_fr hs ha hb i j w) N) k
  have h2 := sumN_fr h0 (fun j => tm_fr hs ha hb k j w) j
  have := h1.add h2
  rw [Nat.add_mul, Nat.mul_assoc k N]
  exact this
theorem foldL_fr (hs : StpOk m s) (ha : FrL Ma Va a) (hb : FrL Mb Vb b) (N : Nat) : FrL (Ma * Mb * 16) (N * N * (Va * Vb * 1296)) (foldL N s a b) := by
  refine ⟨(tm_fr hs ha hb 0 0 0).1, fun q hq => ?_⟩
  rw [← accL_end] at hq
  obtain ⟨w, _, rfl⟩ := List.mem_map.mp hq
  have := accF_fr hs ha hb N N 0 w
  rw [Nat.add_zero] at this
  exact this
end
/-! ### the def -/
section
variable (L : LDef)
theorem eq_nm (S : Ob) (p q : Rat) : cmpD S .eq (nm p) (nm q) = some (decide (p = q)) := by
  show (if D.flat (nm p) && D.flat (nm q) && Nat.ble (min (D.dep (nm p)) (D.dep (nm q))) 60 then some ((nm p).eqv (nm q)) else none) = _
  have e : (nm p).eqv (nm q) = decide (p = q) := by
    show (decide (p.num = q.num) && (decide ((p.den : Int) = (q.den : Int)) && true)) = _
    by_cases h : p = q
    · subst h; simp
    · rw [decide_eq_false h]
      by_cases h1 : p.num = q.num
      · have h2 : ¬ (p.den : Int) = (q.den : Int) := fun z => h (Rat.ext h1 (by omega))
        rw [decide_eq_false h2]; simp
      · rw [decide_eq_false h1]; rfl
  rw [e]
  rfl
theorem ne_nm (S : Ob) (p q : Rat) : cmpD S .ne (nm p) (nm q) = some (!decide (p = q)) := by
  show (cmpD S .eq (nm p) (nm q)).map (!·) = _
  rw [eq_nm]; rfl
theorem ix_dct (S : Ob) {l : List Rat} (hN : l.length ≤ 16) {i : Nat} (hi : i < l.length) : ixD S (.dct (LTs l.length) (nms l)) (LT i) = some (nm (l.getD i 0)) := by
  show (if keysOk (LT i :: LTs l.length) then at? (LTs l.length) (nms l) (LT i) else none) = _
  rw [keys_LTs hN (by omega), if_pos rfl, at_LTs hN hi]
theorem get_app (S : Ob) (o : AO) : (S ++ [o])[S.length]? = some o := by
  rw [List.getElem?_append_right (Nat.le_refl _), Nat.sub_self]; rfl
theorem set_app (S : Ob) (o o' : AO) : (S ++ [o]).set S.length o' = S ++ [o'] := by
  rw [List.set_append_right _ _ (Nat.le_refl _), Nat.sub_self]; rfl
theorem ix_ref (S : Ob) {l : List Rat} (hN : l.length ≤ 16) {i : Nat} (hi : i < l.length) : ixD (S ++ [.dct (LTs l.length) (nms l)]) (.ref S.length) (LT i) = some (nm (l.getD i 0)) := by
  have e : rd (S ++ [.dct (LTs l.length) (nms l)]) (.ref S.length) = .dct (LTs l.length) (nms l) := by
    unfold rd
    dsimp only
    rw [get_app]
  unfold ixD
  rw [e]
  exact ix_dct S hN hi
theorem set_ref (S : Ob) {l : List Rat} (hN : l.length ≤ 16) {i : Nat} (hi : i < l.length) (q : Rat) : setD (S ++ [.dct (LTs l.length) (nms l)]) (.ref S.length) (LT i) (nm q) = some (S ++ [.dct (LTs l.length) (nms (l.set i q))]) := by
  unfold setD
  dsimp only
  rw [get_app]
  dsimp only
  have h2 : Nat.blt (LTs l.length).length lim = true := Nat.ble_eq_true_of_le (by unfold LTs; rw [List.length_map, List.length_range, lim_eq]; omega)
  rw [keys_LTs hN (by omega), h2, putD_LTs hN hi]
  simp only [Bool.and_self, if_true, set_app]
theorem dcL_new {f : D → Ob → Res (Option (D × D))} {S : Ob} (z : D) : ∀ (xs ks : List Nat) (vs : List D), (∀ x ∈ xs, f (LT x) S = .ok (some (LT x, z)) S) → (∀ x ∈ ks ++ xs, x < 16) → (ks ++ xs).Nodup → ks.length = vs.length →
    dcL [] f (xs.map LT) (ks.map LT) vs S = .ok ((ks ++ xs).map LT, vs ++ xs.map fun _ => z) S
  | [], ks, vs, _, _, _, _ => by
    unfold dcL
    simp [gdOk_nil]
  | x :: xs, ks, vs, h, h16, nd, hl => by
    rw [List.map_cons]
    unfold dcL
    have nd2 := List.nodup_append.mp nd
    have hx : x ∉ ks := fun q => nd2.2.2 x q x List.mem_cons_self rfl
    have hk : keysOk (LT x :: ks.map LT) = true := keysOk_LT (ks := x :: ks) fun k hk => h16 k (by
      rcases List.mem_cons.mp hk with rfl | hk
      · exact List.mem_append_right _ List.mem_cons_self
      · exact List.mem_append_left _ hk)
    have hlen : ks.length ≤ 16 := by
      have hsub : ks.Nodup := nd2.1
      have hin : ∀ k ∈ ks, k ∈ List.range 16 := fun k hk => List.mem_range.mpr (h16 k (List.mem_append_left _ hk))
      have := List.nodup_range (n := 16)
      exact (by simpa using List.Nodup.length_le_of_subset hsub hin)
    have hb : Nat.blt (ks.map LT).length lim = true := Nat.ble_eq_true_of_le (by rw [List.length_map, lim_eq]; omega)
    rw [gdOk_nil, hb, h x List.mem_cons_self]
    simp only [Bool.and_self, if_true, r_bindN, hk]
    rw [putD_nw (by rw [List.length_map, hl]) (fun q => by
      obtain ⟨y, hy, e⟩ := List.mem_map.mp q
      exact hx (by rw [← LT_inj (h16 y (List.mem_append_left _ hy)) (h16 x (List.mem_append_right _ List.mem_cons_self)) e]; exact hy))]
    have e : ks.map LT ++ [LT x] = (ks ++ [x]).map LT := by rw [List.map_append]; rfl
    dsimp only
    rw [e, dcL_new z xs (ks ++ [x]) (vs ++ [z]) (fun y hy => h y (List.mem_cons_of_mem _ hy)) (by simpa using h16) (by simpa using nd) (by simp [hl])]
    simp
/-- where the loops stand: the slots, the store -/
def fI (m : Nat) (s a b : List Rat) (S : Ob) (k j : Nat) (ρ : Env) (S' : Ob) : Prop := S' = S ++ [.dct (LTs (2 ^ m)) (nms (accL (2 ^ m) s a b k j))] ∧
  ∃ v4 v7 v8 v9 : Option D, ρ = [some (stp s), some (tb a), some (tb b), some (.ref S.length), v4, some (.dct (LTs (2 ^ m)) (nms a)), some (.dct (LTs (2 ^ m)) (nms b)), v7, v8, v9]
/-- .. within a row -/
def fJ (m : Nat) (s a b : List Rat) (S : Ob) (k j : Nat) (ρ : Env) (S' : Ob) : Prop := S' = S ++ [.dct (LTs (2 ^ m)) (nms (accL (2 ^ m) s a b k j))] ∧
  ∃ v7 v8 v9 : Option D, ρ = [some (stp s), some (tb a), some (tb b), some (.ref S.length), some (LT k), some (.dct (LTs (2 ^ m)) (nms a)), some (.dct (LTs (2 ^ m)) (nms b)), v7, v8, v9]
theorem xor_lt {m i j : Nat} (hi : i < 2 ^ m) (hj : j < 2 ^ m) : i ^^^ j < 2 ^ m := Nat.xor_lt_two_pow hi hj
abbrev foldBody : List LS := [.ite (.and (.cmp .ne (.ix (.var 5) (.var 4)) (.glb 103)) (.cmp .ne (.ix (.var 6) (.var 7)) (.glb 103))) [.set 9 (.call 832 [.call 832 [.ix (.var 5) (.var 4), .ix (.var 6) (.var 7)] [], .call 892 [.var 0, .var 4, .var 7] []] []), .set 8 (.call 754 [.var 4, .var 7] []), .seti (.var 3) (.var 8) (.call 768 [.ix (.var 3) (.var 8), .var 9] [])] []]
theorem fold_turn (n : Nat) {m Ma Va Mb Vb : Nat} {s a b : List Rat} (hs : StpOk m s) (ha : FrL Ma Va a) (hb : FrL Mb Vb b) (hla : a.length = 2 ^ m) (hlb : b.length = 2 ^ m) (hM : Sm (Ma * Mb * 16)) (hV : Sm (256 * (Va * Vb * 1296))) (S : Ob) {k : Nat} (hk : k < 2 ^ m) (j y : Nat) (ρ : Env) (S' : Ob) (hy : (List.range (2 ^ m))[j]? = some y) (h : fJ m s a b S k j ρ S') :
    ∃ ρ1, asgTg (.nm 7) (LT y) ρ = some ρ1 ∧ (evSs (PU L) (callN (PU L) (n + 3)) foldBody ρ1 S').To (fJ m s a b S k (j + 1)) (fJ m s a b S k (List.range (2 ^ m)).length) (fJ m s a b S k (j + 1)) (fun _ _ => False) := by
  obtain ⟨rfl, v7, v8, v9, rfl⟩ := h
  have hp : 2 ^ m ≤ 2 ^ 4 := Nat.pow_le_pow_right (by decide) hs.2.1
  have hj : j < 2 ^ m := by
    have := (List.getElem?_eq_some_iff.mp hy).1
    simpa using this
  have hy' : j = y := by
    rw [List.getElem?_eq_getElem (by simpa using hj)] at hy
    simpa using hy
  subst hy'
  have hx := xor_lt hk hj
  refine ⟨[some (stp s), some (tb a), some (tb b), some (.ref S.length), some (LT k), some (.dct (LTs (2 ^ m)) (nms a)), some (.dct (LTs (2 ^ m)) (nms b)), some (LT j), v8, v9], by simp only [ev_var, ev_cst, ev_glb, ev_tup, ev_lst, ev_dic, ev_bin, ev_cmp, ev_chn, ev_neg, ev_not, ev_and, ev_or, ev_ite, ev_ix, ev_slc, ev_call, ev_blt, ev_mth, evs_nil, evs_cons, evo_none, evo_some, evc_nil, evc_cons, st_set, st_asg, st_seti, st_aug, st_expr, st_ret, st_retN, st_ite, st_brk, st_cont, st_pass, sts_nil, sts_cons, finS_nx, finS_rt, tg_nm, tg_tup, tg_lst, tgs_nil, tgs_cons, wipeE, itOf, itD, rd, res_some, mkO_false, mkO_lst, mkO_dct, bltD, toInt?, ckI, List.getElem?_cons_zero, List.getElem?_cons_succ, List.set_cons_zero, List.set_cons_succ, r_bind, r_bindN, r_st, seq_nx, seq_rt, seq_bk, seq_ct, List.length_cons, List.length_nil, if_true, if_false, ite_true, ite_false, reduceIte, Bool.false_eq_true, Option.map_some, Option.bind_some], ?_⟩
  generalize hS' : S ++ [AO.dct (LTs (2 ^ m)) (nms (accL (2 ^ m) s a b k j))] = S'
  have i1 := ix_dct S' (l := a) (by omega) (i := k) (by omega)
  have i2 := ix_dct S' (l := b) (by omega) (i := j) (by omega)
  rw [hla] at i1
  rw [hlb] at i2
  have q1 := ne_nm S' (a.getD k 0) 0
  have q2 := ne_nm S' (b.getD j 0) 0
  by_cases c1 : a.getD k 0 = 0
  · simp only [c1, decide_true, Bool.not_true] at q1
    rw [c1] at i1
    simp only [foldBody, ev_var, ev_glb, ev_cmp, ev_and, ev_ix, sts_nil, sts_cons, st_ite, res_some, r_bind, r_st, seq_nx, List.getElem?_cons_zero, List.getElem?_cons_succ, i1, g_zero, q1, Option.map_some]
    exact ⟨by rw [← hS', accL_skip (.inl c1)], _, _, _, rfl⟩
  simp only [c1, decide_false, Bool.not_false] at q1
  by_cases c2 : b.getD j 0 = 0
  · simp only [c2, decide_true, Bool.not_true] at q2
    rw [c2] at i2
    simp only [foldBody, ev_var, ev_glb, ev_cmp, ev_and, ev_ix, sts_nil, sts_cons, st_ite, res_some, r_bind, r_st, seq_nx, List.getElem?_cons_zero, List.getElem?_cons_succ, i1, i2, g_zero, q1, q2, Option.map_some]
    exact ⟨by rw [← hS', accL_skip (.inr c2)], _, _, _, rfl⟩
  simp only [c2, decide_false, Bool.not_false] at q2
  have pa : 0 < Ma := ha.1
  have pb : 0 < Mb := hb.1
  have pab : 0 < Ma * Mb := Nat.mul_pos pa pb
  have sMab : Sm (Ma * Mb) := hM.le (Nat.le_mul_of_pos_right _ (by decide))
  have sMa : Sm Ma := sMab.le (Nat.le_mul_of_pos_right _ pb)
  have sMb : Sm Mb := sMab.le (Nat.le_mul_of_pos_left _ pa)
  have fa := ha.get k
  have fb := hb.get j
  have nz : ∀ {M V : Nat} {q : Rat}, Fr M V q → q ≠ 0 → 0 < V := fun {M V q} f hq => by
    obtain ⟨h0, z, e, hz⟩ := f
    by_cases hV0 : V = 0
    · have : z = 0 := by omega
      rw [this, Rat.zero_mkRat] at e
      exact absurd e hq
    · omega
  have pva := nz fa c1
  have pvb := nz fb c2
  have sV1 : Sm (Va * Vb * 1296) := hV.le (by omega)
  have sVab : Sm (Va * Vb) := sV1.le (Nat.le_mul_of_pos_right _ (by decide))
  have sVa : Sm Va := sVab.le (Nat.le_mul_of_pos_right _ pvb)
  have sVb : Sm Vb := sVab.le (Nat.le_mul_of_pos_left _ pva)
  have e1 := times_ok L (n + 1) (fa.sm sMa sVa) (fb.sm sMb sVb) S'
  have e2 := worth_of_ok L n hs hk hj S'
  have e3 := times_ok L (n + 1) ((fa.mul fb).sm sMab sVab) ((wt_fr hs k j).sm sm_16 sm_1296) S'
  have e4 := parted_ok L (n + 2) (i := k) (j := j) (lot_lt hs.2.1 hk) (lot_lt hs.2.1 hj) S'
  have i3 : ixD S' (.ref S.length) (LT (k ^^^ j)) = some (nm (accF (2 ^ m) s a b k j (k ^^^ j))) := by
    rw [← hS']
    have := ix_ref S (l := accL (2 ^ m) s a b k j) (by rw [accL_len]; omega) (i := k ^^^ j) (by rw [accL_len]; exact hx)
    rw [accL_len, accL_get hx] at this
    exact this
  have fA := accF_fr hs ha hb (2 ^ m) k j (k ^^^ j)
  have hcount : (k * 2 ^ m + j) * (Va * Vb * 1296) ≤ 256 * (Va * Vb * 1296) := by
    refine Nat.mul_le_mul_right _ ?_
    have : k * 2 ^ m ≤ 15 * 2 ^ 4 := Nat.mul_le_mul (by omega) hp
    omega
  have e5 := plus_ok L (n + 1) (fA.sm hM (hV.le hcount)) (((fa.mul fb).mul (wt_fr hs k j)).sm hM sV1) S'
  have e6 : setD S' (.ref S.length) (LT (k ^^^ j)) (nm (accF (2 ^ m) s a b k j (k ^^^ j) + a.getD k 0 * b.getD j 0 * wt s k j)) = some (S ++ [.dct (LTs (2 ^ m)) (nms (accL (2 ^ m) s a b k (j + 1)))]) := by
    rw [← hS']
    have := set_ref S (l := accL (2 ^ m) s a b k j) (by rw [accL_len]; omega) (i := k ^^^ j) (by rw [accL_len]; exact hx) (accF (2 ^ m) s a b k j (k ^^^ j) + a.getD k 0 * b.getD j 0 * wt s k j)
    rw [accL_len, accL_set hx] at this
    exact this
  simp only [foldBody, ev_var, ev_glb, ev_cmp, ev_and, ev_ix, ev_call, evs_nil, evs_cons, sts_nil, sts_cons, st_ite, st_set, st_seti, res_some, r_bind, r_st, seq_nx, List.getElem?_cons_zero, List.getElem?_cons_succ, List.set_cons_zero, List.set_cons_succ, i1, i2, g_zero, q1, q2, Option.map_some, e1, e2, e3, e4, i3, e5, e6]
  exact ⟨rfl, _, _, _, rfl⟩
theorem ev_dcN {P : LProg} {cf : CF} {tg : Tg} {w : It1} {it ifs : List LE} {k v : LE} {own : List Nat} {ρ : Env} {S : Ob} {xs : List D} {ks : List Nat} {mu : Bool} (z : D) (h1 : evEs P cf it ρ S = .ok xs S) (h2 : itD S w xs = some (ks.map LT)) (h3 : guards S xs = [])
    (h4 : ∀ x ∈ ks, ∃ ρ1, asgTg tg (LT x) (wipeE ρ own) = some ρ1 ∧ evC P cf ifs ρ1 S = .ok true S ∧ evE P cf k ρ1 S = .ok (LT x) S ∧ evE P cf v ρ1 S = .ok z S) (h5 : ∀ x ∈ ks, x < 16) (nd : ks.Nodup) :
    evE P cf (.dc mu tg w it ifs k v own) ρ S = mkO mu (.dct (ks.map LT) (ks.map fun _ => z)) S := by
  rw [evE, h1, itOf, Res.bind_ok, h2, h3]
  dsimp only
  rw [Res.bind_ok]
  dsimp only
  have := dcL_new (f := fun x S => (match asgTg tg x (wipeE ρ own) with
        | some ρ1 => (evC P cf ifs ρ1 S).bind fun b S => if b then (evE P cf k ρ1 S).bind fun kd S => (evE P cf v ρ1 S).bind fun vd S => .ok (some (kd, vd)) S else .ok none S
        | none => .fail)) (S := S) z ks [] [] (fun x hx => by
    obtain ⟨ρ1, a, b, c, d⟩ := h4 x hx
    rw [a]
    dsimp only
    rw [b, Res.bind_ok, ok_iteT, c, Res.bind_ok, d]
    rfl) (by simpa using h5) (by simpa using nd) rfl
  rw [List.map_nil, List.nil_append, List.nil_append] at this
  refine (congrArg (fun r : Res (List D × List D) => r.bind fun p S => mkO mu (.dct p.1 p.2) S) this).trans ?_
  rfl
theorem under_nms (n : Nat) (l : List Rat) : D.unders n (nms l) = true := by
  unfold nms
  induction l with
  | nil => rfl
  | cons q l ih => rw [List.map_cons, D.unders, ih]; rfl
theorem under_tb (n : Nat) (l : List Rat) : D.under n (tb l) = true := by
  show (true && (D.under n (stp l) && true)) = true
  show (true && (D.unders n (nms l) && true)) = true
  rw [under_nms]; rfl
theorem thaw_tb (n : Nat) (S : Ob) (l : List Rat) : thaw n S 4 (tb l) = some (tb l) := by
  unfold thaw
  rw [under_tb]; rfl
theorem LTs_it (S : Ob) (N : Nat) (vs : List D) : itD S .val [.dct (LTs N) vs] = some ((List.range N).map LT) := rfl
theorem fold_of_ok (n : Nat) {m Ma Va Mb Vb : Nat} {s a b : List Rat} (hs : StpOk m s) (ha : FrL Ma Va a) (hb : FrL Mb Vb b) (hla : a.length = 2 ^ m) (hlb : b.length = 2 ^ m) (hM : Sm (Ma * Mb * 16)) (hV : Sm (256 * (Va * Vb * 1296))) (S : Ob) :
    callN (PU L) (n + 4) f_fold_of [stp s, tb a, tb b] [] S = .ok (tb (foldL (2 ^ m) s a b)) S := by
  have hp : 2 ^ m ≤ 2 ^ 4 := Nat.pow_le_pow_right (by decide) hs.2.1
  rw [c_fold_of, b_fold_of]
  have l1 := lines_ok L (n + 1) hs.2.1 hla S
  have l2 := lines_ok L (n + 1) hs.2.1 hlb S
  -- the dict of zeros
  have d1 : evE (PU L) (callN (PU L) (n + 3)) (.dc true (.nm 8) .val [.var 5] [] (.var 8) (.glb 103) [8]) [some (stp s), some (tb a), some (tb b), none, none, some (.dct (LTs (2 ^ m)) (nms a)), some (.dct (LTs (2 ^ m)) (nms b)), none, none, none] S = .ok (.ref S.length) (S ++ [.dct (LTs (2 ^ m)) (nms (accL (2 ^ m) s a b 0 0))]) := by
    rw [ev_dcN (xs := [.dct (LTs (2 ^ m)) (nms a)]) (nm 0) (by simp only [ev_var, ev_cst, ev_glb, ev_tup, ev_lst, ev_dic, ev_bin, ev_cmp, ev_chn, ev_neg, ev_not, ev_and, ev_or, ev_ite, ev_ix, ev_slc, ev_call, ev_blt, ev_mth, evs_nil, evs_cons, evo_none, evo_some, evc_nil, evc_cons, st_set, st_asg, st_seti, st_aug, st_expr, st_ret, st_retN, st_ite, st_brk, st_cont, st_pass, sts_nil, sts_cons, finS_nx, finS_rt, tg_nm, tg_tup, tg_lst, tgs_nil, tgs_cons, wipeE, itOf, itD, rd, res_some, mkO_false, mkO_lst, mkO_dct, bltD, toInt?, ckI, List.getElem?_cons_zero, List.getElem?_cons_succ, List.set_cons_zero, List.set_cons_succ, r_bind, r_bindN, r_st, seq_nx, seq_rt, seq_bk, seq_ct, List.length_cons, List.length_nil, if_true, if_false, ite_true, ite_false, reduceIte, Bool.false_eq_true, Option.map_some, Option.bind_some]) (LTs_it _ _ _) rfl (ks := List.range (2 ^ m)) (fun x hx => ⟨[some (stp s), some (tb a), some (tb b), none, none, some (.dct (LTs (2 ^ m)) (nms a)), some (.dct (LTs (2 ^ m)) (nms b)), none, some (LT x), none], by simp only [ev_var, ev_cst, ev_glb, ev_tup, ev_lst, ev_dic, ev_bin, ev_cmp, ev_chn, ev_neg, ev_not, ev_and, ev_or, ev_ite, ev_ix, ev_slc, ev_call, ev_blt, ev_mth, evs_nil, evs_cons, evo_none, evo_some, evc_nil, evc_cons, st_set, st_asg, st_seti, st_aug, st_expr, st_ret, st_retN, st_ite, st_brk, st_cont, st_pass, sts_nil, sts_cons, finS_nx, finS_rt, tg_nm, tg_tup, tg_lst, tgs_nil, tgs_cons, wipeE, itOf, itD, rd, res_some, mkO_false, mkO_lst, mkO_dct, bltD, toInt?, ckI, List.getElem?_cons_zero, List.getElem?_cons_succ, List.set_cons_zero, List.set_cons_succ, r_bind, r_bindN, r_st, seq_nx, seq_rt, seq_bk, seq_ct, List.length_cons, List.length_nil, if_true, if_false, ite_true, ite_false, reduceIte, Bool.false_eq_true, Option.map_some, Option.bind_some], by simp only [ev_var, ev_cst, ev_glb, ev_tup, ev_lst, ev_dic, ev_bin, ev_cmp, ev_chn, ev_neg, ev_not, ev_and, ev_or, ev_ite, ev_ix, ev_slc, ev_call, ev_blt, ev_mth, evs_nil, evs_cons, evo_none, evo_some, evc_nil, evc_cons, st_set, st_asg, st_seti, st_aug, st_expr, st_ret, st_retN, st_ite, st_brk, st_cont, st_pass, sts_nil, sts_cons, finS_nx, finS_rt, tg_nm, tg_tup, tg_lst, tgs_nil, tgs_cons, wipeE, itOf, itD, rd, res_some, mkO_false, mkO_lst, mkO_dct, bltD, toInt?, ckI, List.getElem?_cons_zero, List.getElem?_cons_succ, List.set_cons_zero, List.set_cons_succ, r_bind, r_bindN, r_st, seq_nx, seq_rt, seq_bk, seq_ct, List.length_cons, List.length_nil, if_true, if_false, ite_true, ite_false, reduceIte, Bool.false_eq_true, Option.map_some, Option.bind_some], by simp only [ev_var, ev_cst, ev_glb, ev_tup, ev_lst, ev_dic, ev_bin, ev_cmp, ev_chn, ev_neg, ev_not, ev_and, ev_or, ev_ite, ev_ix, ev_slc, ev_call, ev_blt, ev_mth, evs_nil, evs_cons, evo_none, evo_some, evc_nil, evc_cons, st_set, st_asg, st_seti, st_aug, st_expr, st_ret, st_retN, st_ite, st_brk, st_cont, st_pass, sts_nil, sts_cons, finS_nx, finS_rt, tg_nm, tg_tup, tg_lst, tgs_nil, tgs_cons, wipeE, itOf, itD, rd, res_some, mkO_false, mkO_lst, mkO_dct, bltD, toInt?, ckI, List.getElem?_cons_zero, List.getElem?_cons_succ, List.set_cons_zero, List.set_cons_succ, r_bind, r_bindN, r_st, seq_nx, seq_rt, seq_bk, seq_ct, List.length_cons, List.length_nil, if_true, if_false, ite_true, ite_false, reduceIte, Bool.false_eq_true, Option.map_some, Option.bind_some], by simp only [ev_glb, g_zero, res_some]⟩) (fun x hx => by
      have := List.mem_range.mp hx; omega) List.nodup_range, mkO_dct]
    congr 2
    have z : accL (2 ^ m) s a b 0 0 = (List.range (2 ^ m)).map fun _ => (0 : Rat) := by
      unfold accL
      refine List.map_congr_left fun w _ => ?_
      show (0 : Rat) + 0 = 0
      exact rat_add0 0
    rw [z, nms, List.map_map]
    rfl
  rw [sts_cons, st_asg]
  simp only [ev_tup, ev_call, ev_var, evs_cons, evs_nil, List.getElem?_cons_zero, List.getElem?_cons_succ, r_bind, l1, l2, r_st, tg_tup, tgs_cons, tgs_nil, tg_nm, Option.bind_some, List.set_cons_zero, List.set_cons_succ, seq_nx]
  rw [sts_cons, st_set, d1, r_st, seq_nx]
  simp only [List.set_cons_zero, List.set_cons_succ]
  -- the loops
  have h1 : ∀ (ρ : Env) (S' : Ob) (k j : Nat), fI m s a b S k j ρ S' → evEs (PU L) (callN (PU L) (n + 3)) [.var 5] ρ S' = .ok [.dct (LTs (2 ^ m)) (nms a)] S' := by
    rintro ρ S' k j ⟨_, v4, v7, v8, v9, rfl⟩
    simp only [ev_var, ev_cst, ev_glb, ev_tup, ev_lst, ev_dic, ev_bin, ev_cmp, ev_chn, ev_neg, ev_not, ev_and, ev_or, ev_ite, ev_ix, ev_slc, ev_call, ev_blt, ev_mth, evs_nil, evs_cons, evo_none, evo_some, evc_nil, evc_cons, st_set, st_asg, st_seti, st_aug, st_expr, st_ret, st_retN, st_ite, st_brk, st_cont, st_pass, sts_nil, sts_cons, finS_nx, finS_rt, tg_nm, tg_tup, tg_lst, tgs_nil, tgs_cons, wipeE, itOf, itD, rd, res_some, mkO_false, mkO_lst, mkO_dct, bltD, toInt?, ckI, List.getElem?_cons_zero, List.getElem?_cons_succ, List.set_cons_zero, List.set_cons_succ, r_bind, r_bindN, r_st, seq_nx, seq_rt, seq_bk, seq_ct, List.length_cons, List.length_nil, if_true, if_false, ite_true, ite_false, reduceIte, Bool.false_eq_true, Option.map_some, Option.bind_some]
  have lp := st_forC (P := PU L) (cf := callN (PU L) (n + 3)) (tg := .nm 4) (w := .val) (it := [.var 5]) (b := [.forr (.nm 7) .val [.var 6] foldBody]) (ρ := [some (stp s), some (tb a), some (tb b), some (.ref S.length), none, some (.dct (LTs (2 ^ m)) (nms a)), some (.dct (LTs (2 ^ m)) (nms b)), none, none, none])
    (S := S ++ [.dct (LTs (2 ^ m)) (nms (accL (2 ^ m) s a b 0 0))]) (xs := [.dct (LTs (2 ^ m)) (nms a)]) (ys := List.range (2 ^ m)) LT (fun k => fI m s a b S k 0) (bk := fun _ _ => False) (c := fun _ _ => False) (t := fun _ _ => False) (by simp only [ev_var, ev_cst, ev_glb, ev_tup, ev_lst, ev_dic, ev_bin, ev_cmp, ev_chn, ev_neg, ev_not, ev_and, ev_or, ev_ite, ev_ix, ev_slc, ev_call, ev_blt, ev_mth, evs_nil, evs_cons, evo_none, evo_some, evc_nil, evc_cons, st_set, st_asg, st_seti, st_aug, st_expr, st_ret, st_retN, st_ite, st_brk, st_cont, st_pass, sts_nil, sts_cons, finS_nx, finS_rt, tg_nm, tg_tup, tg_lst, tgs_nil, tgs_cons, wipeE, itOf, itD, rd, res_some, mkO_false, mkO_lst, mkO_dct, bltD, toInt?, ckI, List.getElem?_cons_zero, List.getElem?_cons_succ, List.set_cons_zero, List.set_cons_succ, r_bind, r_bindN, r_st, seq_nx, seq_rt, seq_bk, seq_ct, List.length_cons, List.length_nil, if_true, if_false, ite_true, ite_false, reduceIte, Bool.false_eq_true, Option.map_some, Option.bind_some]) (LTs_it _ _ _) rfl ?_ ⟨rfl, none, none, none, none, rfl⟩
  · obtain ⟨ρ', S', e, q⟩ := To.eqNx lp
    rw [List.length_range] at q
    obtain ⟨rfl, v4, v7, v8, v9, rfl⟩ := q
    rw [sts_cons, e, seq_nx, accL_end]
    have fin := ev_lcM (P := PU L) (cf := callN (PU L) (n + 3)) (tg := .nm 8) (w := .val) (it := [.var 5]) (ifs := []) (e := .ix (.var 3) (.var 8)) (own := [8]) (ρ := [some (stp s), some (tb a), some (tb b), some (.ref S.length), v4, some (.dct (LTs (2 ^ m)) (nms a)), some (.dct (LTs (2 ^ m)) (nms b)), v7, v8, v9])
      (S := S ++ [.dct (LTs (2 ^ m)) (nms (foldL (2 ^ m) s a b))]) (xs := [.dct (LTs (2 ^ m)) (nms a)]) LT (fun w => nm ((foldL (2 ^ m) s a b).getD w 0)) (ys := List.range (2 ^ m)) (by simp only [ev_var, ev_cst, ev_glb, ev_tup, ev_lst, ev_dic, ev_bin, ev_cmp, ev_chn, ev_neg, ev_not, ev_and, ev_or, ev_ite, ev_ix, ev_slc, ev_call, ev_blt, ev_mth, evs_nil, evs_cons, evo_none, evo_some, evc_nil, evc_cons, st_set, st_asg, st_seti, st_aug, st_expr, st_ret, st_retN, st_ite, st_brk, st_cont, st_pass, sts_nil, sts_cons, finS_nx, finS_rt, tg_nm, tg_tup, tg_lst, tgs_nil, tgs_cons, wipeE, itOf, itD, rd, res_some, mkO_false, mkO_lst, mkO_dct, bltD, toInt?, ckI, List.getElem?_cons_zero, List.getElem?_cons_succ, List.set_cons_zero, List.set_cons_succ, r_bind, r_bindN, r_st, seq_nx, seq_rt, seq_bk, seq_ct, List.length_cons, List.length_nil, if_true, if_false, ite_true, ite_false, reduceIte, Bool.false_eq_true, Option.map_some, Option.bind_some]) (LTs_it _ _ _) rfl
      (fun w hw => ⟨[some (stp s), some (tb a), some (tb b), some (.ref S.length), v4, some (.dct (LTs (2 ^ m)) (nms a)), some (.dct (LTs (2 ^ m)) (nms b)), v7, some (LT w), v9], by simp only [ev_var, ev_cst, ev_glb, ev_tup, ev_lst, ev_dic, ev_bin, ev_cmp, ev_chn, ev_neg, ev_not, ev_and, ev_or, ev_ite, ev_ix, ev_slc, ev_call, ev_blt, ev_mth, evs_nil, evs_cons, evo_none, evo_some, evc_nil, evc_cons, st_set, st_asg, st_seti, st_aug, st_expr, st_ret, st_retN, st_ite, st_brk, st_cont, st_pass, sts_nil, sts_cons, finS_nx, finS_rt, tg_nm, tg_tup, tg_lst, tgs_nil, tgs_cons, wipeE, itOf, itD, rd, res_some, mkO_false, mkO_lst, mkO_dct, bltD, toInt?, ckI, List.getElem?_cons_zero, List.getElem?_cons_succ, List.set_cons_zero, List.set_cons_succ, r_bind, r_bindN, r_st, seq_nx, seq_rt, seq_bk, seq_ct, List.length_cons, List.length_nil, if_true, if_false, ite_true, ite_false, reduceIte, Bool.false_eq_true, Option.map_some, Option.bind_some], by simp only [ev_var, ev_cst, ev_glb, ev_tup, ev_lst, ev_dic, ev_bin, ev_cmp, ev_chn, ev_neg, ev_not, ev_and, ev_or, ev_ite, ev_ix, ev_slc, ev_call, ev_blt, ev_mth, evs_nil, evs_cons, evo_none, evo_some, evc_nil, evc_cons, st_set, st_asg, st_seti, st_aug, st_expr, st_ret, st_retN, st_ite, st_brk, st_cont, st_pass, sts_nil, sts_cons, finS_nx, finS_rt, tg_nm, tg_tup, tg_lst, tgs_nil, tgs_cons, wipeE, itOf, itD, rd, res_some, mkO_false, mkO_lst, mkO_dct, bltD, toInt?, ckI, List.getElem?_cons_zero, List.getElem?_cons_succ, List.set_cons_zero, List.set_cons_succ, r_bind, r_bindN, r_st, seq_nx, seq_rt, seq_bk, seq_ct, List.length_cons, List.length_nil, if_true, if_false, ite_true, ite_false, reduceIte, Bool.false_eq_true, Option.map_some, Option.bind_some], by
        have hl : (foldL (2 ^ m) s a b).length = 2 ^ m := by rw [← accL_end, accL_len]
        have := ix_ref S (l := foldL (2 ^ m) s a b) (by omega) (i := w) (by rw [hl]; exact List.mem_range.mp hw)
        rw [hl] at this
        simp only [ev_ix, ev_var, List.getElem?_cons_zero, List.getElem?_cons_succ, r_bind, this, res_some]⟩) (by rw [List.length_range, lim_eq]; omega)
    have e2 : (List.range (2 ^ m)).map (fun w => nm ((foldL (2 ^ m) s a b).getD w 0)) = nms (foldL (2 ^ m) s a b) := by
      unfold nms foldL
      rw [List.map_map]
      refine List.map_congr_left fun w hw => ?_
      have hw := List.mem_range.mp hw
      show nm _ = nm _
      congr 1
      rw [List.getD_eq_getElem?_getD, List.getElem?_map, List.getElem?_range hw]
      rfl
    rw [e2] at fin
    simp only [sts_cons, sts_nil, st_ret, ev_call, evs_cons, evs_nil, fin, r_bind, made_ok L (n + 2), r_st, seq_rt]
    exact finT_app (thaw_tb _ _ _) (fun z => by cases z)
  · intro k y ρ S' hy hI
    have hk : k < 2 ^ m := by
      have := (List.getElem?_eq_some_iff.mp hy).1
      simpa using this
    have hy' : k = y := by
      rw [List.getElem?_eq_getElem (by simpa using hk)] at hy
      simpa using hy
    subst hy'
    obtain ⟨rfl, v4, v7, v8, v9, rfl⟩ := hI
    refine ⟨[some (stp s), some (tb a), some (tb b), some (.ref S.length), some (LT k), some (.dct (LTs (2 ^ m)) (nms a)), some (.dct (LTs (2 ^ m)) (nms b)), v7, v8, v9], by simp only [ev_var, ev_cst, ev_glb, ev_tup, ev_lst, ev_dic, ev_bin, ev_cmp, ev_chn, ev_neg, ev_not, ev_and, ev_or, ev_ite, ev_ix, ev_slc, ev_call, ev_blt, ev_mth, evs_nil, evs_cons, evo_none, evo_some, evc_nil, evc_cons, st_set, st_asg, st_seti, st_aug, st_expr, st_ret, st_retN, st_ite, st_brk, st_cont, st_pass, sts_nil, sts_cons, finS_nx, finS_rt, tg_nm, tg_tup, tg_lst, tgs_nil, tgs_cons, wipeE, itOf, itD, rd, res_some, mkO_false, mkO_lst, mkO_dct, bltD, toInt?, ckI, List.getElem?_cons_zero, List.getElem?_cons_succ, List.set_cons_zero, List.set_cons_succ, r_bind, r_bindN, r_st, seq_nx, seq_rt, seq_bk, seq_ct, List.length_cons, List.length_nil, if_true, if_false, ite_true, ite_false, reduceIte, Bool.false_eq_true, Option.map_some, Option.bind_some], ?_⟩
    have lp2 := st_forC (P := PU L) (cf := callN (PU L) (n + 3)) (tg := .nm 7) (w := .val) (it := [.var 6]) (b := foldBody) (ρ := [some (stp s), some (tb a), some (tb b), some (.ref S.length), some (LT k), some (.dct (LTs (2 ^ m)) (nms a)), some (.dct (LTs (2 ^ m)) (nms b)), v7, v8, v9])
      (S := S ++ [.dct (LTs (2 ^ m)) (nms (accL (2 ^ m) s a b k 0))]) (xs := [.dct (LTs (2 ^ m)) (nms b)]) (ys := List.range (2 ^ m)) LT (fun j => fJ m s a b S k j) (bk := fun _ _ => False) (c := fun _ _ => False) (t := fun _ _ => False) (by simp only [ev_var, ev_cst, ev_glb, ev_tup, ev_lst, ev_dic, ev_bin, ev_cmp, ev_chn, ev_neg, ev_not, ev_and, ev_or, ev_ite, ev_ix, ev_slc, ev_call, ev_blt, ev_mth, evs_nil, evs_cons, evo_none, evo_some, evc_nil, evc_cons, st_set, st_asg, st_seti, st_aug, st_expr, st_ret, st_retN, st_ite, st_brk, st_cont, st_pass, sts_nil, sts_cons, finS_nx, finS_rt, tg_nm, tg_tup, tg_lst, tgs_nil, tgs_cons, wipeE, itOf, itD, rd, res_some, mkO_false, mkO_lst, mkO_dct, bltD, toInt?, ckI, List.getElem?_cons_zero, List.getElem?_cons_succ, List.set_cons_zero, List.set_cons_succ, r_bind, r_bindN, r_st, seq_nx, seq_rt, seq_bk, seq_ct, List.length_cons, List.length_nil, if_true, if_false, ite_true, ite_false, reduceIte, Bool.false_eq_true, Option.map_some, Option.bind_some]) (LTs_it _ _ _) rfl
      (fun j y ρ S' hy h => fold_turn L n hs ha hb hla hlb hM hV S hk j y ρ S' hy h) ⟨rfl, v7, v8, v9, rfl⟩
    obtain ⟨ρ', S', e, q⟩ := To.eqNx lp2
    rw [List.length_range] at q
    obtain ⟨rfl, w7, w8, w9, rfl⟩ := q
    rw [sts_cons, e, seq_nx, sts_nil]
    exact ⟨by rw [accL_row], _, _, _, _, rfl⟩
theorem fold_tables_ok (n : Nat) {m Ma Va Mb Vb : Nat} {s a b : List Rat} (hs : StpOk m s) (ha : FrL Ma Va a) (hb : FrL Mb Vb b) (hla : a.length = 2 ^ m) (hlb : b.length = 2 ^ m) (hM : Sm (Ma * Mb * 16)) (hV : Sm (256 * (Va * Vb * 1296))) (S : Ob) :
    callN (PU L) (n + 6) f_fold_tables [stp s, tb a, tb b] [] S = .ok (tb (foldL (2 ^ m) s a b)) S := by
  rw [c_fold_tables, b_fold_tables]
  have e4 := len_stp S s
  rw [hs.1] at e4
  simp only [ev_var, ev_cst, ev_glb, ev_tup, ev_lst, ev_dic, ev_bin, ev_cmp, ev_chn, ev_neg, ev_not, ev_and, ev_or, ev_ite, ev_ix, ev_slc, ev_call, ev_blt, ev_mth, evs_nil, evs_cons, evo_none, evo_some, evc_nil, evc_cons, st_set, st_asg, st_seti, st_aug, st_expr, st_ret, st_retN, st_ite, st_brk, st_cont, st_pass, sts_nil, sts_cons, finS_nx, finS_rt, tg_nm, tg_tup, tg_lst, tgs_nil, tgs_cons, wipeE, itOf, itD, rd, res_some, mkO_false, mkO_lst, mkO_dct, toInt?, ckI, List.getElem?_cons_zero, List.getElem?_cons_succ, List.set_cons_zero, List.set_cons_succ, r_bind, r_bindN, r_st, seq_nx, seq_rt, seq_bk, seq_ct, List.length_cons, List.length_nil, if_true, if_false, ite_true, ite_false, reduceIte, Bool.false_eq_true, Option.map_some, Option.bind_some, need_steps_ok L (n + 2) hs S, e4, need_table_ok L n hs.2.1 hla S, need_table_ok L n hs.2.1 hlb S, fold_of_ok L (n + 1) hs ha hb hla hlb hM hV S]
theorem foldL_len (N : Nat) (s a b : List Rat) : (foldL N s a b).length = N := by rw [← accL_end, accL_len]
/-- the fold of two less that of the other and the one -/
def exL (N : Nat) (s a b : List Rat) : List Rat := addL (foldL N s a b) ((foldL N s b a).map fun q => -1 * q)
theorem exchange_ok (n : Nat) {m Ma Va Mb Vb : Nat} {s a b : List Rat} (hs : StpOk m s) (ha : FrL Ma Va a) (hb : FrL Mb Vb b) (hla : a.length = 2 ^ m) (hlb : b.length = 2 ^ m) (hM : Sm (Ma * Mb * 16)) (hV : Sm (256 * (Va * Vb * 1296))) (S : Ob) :
    callN (PU L) (n + 8) f_exchange [stp s, tb a, tb b] [] S = .ok (tb (exL (2 ^ m) s a b)) S := by
  rw [c_exchange, b_exchange]
  have hp : 2 ^ m ≤ 2 ^ 4 := Nat.pow_le_pow_right (by decide) hs.2.1
  have hp2 : 2 ^ m * 2 ^ m ≤ 256 := Nat.mul_le_mul hp hp
  have hM' : Sm (Mb * Ma * 16) := by rw [Nat.mul_comm Mb Ma]; exact hM
  have hV' : Sm (256 * (Vb * Va * 1296)) := by rw [Nat.mul_comm Vb Va]; exact hV
  have f1 := foldL_fr hs ha hb (2 ^ m)
  have f2 := foldL_fr hs hb ha (2 ^ m)
  have s1 : ∀ q ∈ foldL (2 ^ m) s a b, SmQ q := fun q hq => (f1.2 q hq).sm hM (hV.le (Nat.mul_le_mul_right _ hp2))
  have s2 : ∀ q ∈ foldL (2 ^ m) s b a, SmQ q := fun q hq => (f2.2 q hq).sm hM' (hV'.le (Nat.mul_le_mul_right _ hp2))
  simp only [ev_var, ev_cst, ev_glb, ev_tup, ev_lst, ev_dic, ev_bin, ev_cmp, ev_chn, ev_neg, ev_not, ev_and, ev_or, ev_ite, ev_ix, ev_slc, ev_call, ev_blt, ev_mth, evs_nil, evs_cons, evo_none, evo_some, evc_nil, evc_cons, st_set, st_asg, st_seti, st_aug, st_expr, st_ret, st_retN, st_ite, st_brk, st_cont, st_pass, sts_nil, sts_cons, finS_nx, finS_rt, tg_nm, tg_tup, tg_lst, tgs_nil, tgs_cons, wipeE, itOf, itD, rd, res_some, mkO_false, mkO_lst, mkO_dct, bltD, toInt?, ckI, List.getElem?_cons_zero, List.getElem?_cons_succ, List.set_cons_zero, List.set_cons_succ, r_bind, r_bindN, r_st, seq_nx, seq_rt, seq_bk, seq_ct, List.length_cons, List.length_nil, if_true, if_false, ite_true, ite_false, reduceIte, Bool.false_eq_true, Option.map_some, Option.bind_some, need_own_ok L (n + 2) hs hla S, need_own_ok L (n + 2) hs hlb S, fold_tables_ok L (n + 1) hs ha hb hla hlb hM hV S, fold_tables_ok L (n + 1) hs hb ha hlb hla hM' hV' S, less_ok L n hs.2.1 (foldL_len _ _ _ _) (foldL_len _ _ _ _) s1 s2 S]
  rfl
end
end QL
set_option Elab.async false
set_option linter.all false
set_option maxRecDepth 100000
set_option maxHeartbeats 2000000
set_option exponentiation.threshold 20000
/-! QM9: the middle. -/
namespace QL
open PySem
/-! ### worths, exchanged -/
theorem wtL_mul (s : List Rat) (j : Nat) : ∀ (l : List Nat) (f : Rat), wtL s j l f = f * wtL s j l 1
  | [], f => by rw [wtL, wtL, Rat.mul_one]
  | b :: l, f => by
    rw [wtL, wtL]
    split
    · rw [wtL_mul s j l (f * s.getD (b - 1) 0), wtL_mul s j l (1 * s.getD (b - 1) 0), Rat.one_mul, Rat.mul_assoc]
    · exact wtL_mul s j l f
/-- the steps of the doublings in a lot, multiplied -/
def ppL (s : List Rat) : List Nat → Rat
  | [] => 1
  | b :: l => s.getD (b - 1) 0 * ppL s l
def pp (s : List Rat) (k : Nat) : Rat := ppL s (lotN k)
theorem wtL_pp (s : List Rat) (j : Nat) : ∀ l : List Nat, wtL s j l 1 = ppL s (l.filter fun b => decide (b ∈ lotN j))
  | [] => rfl
  | b :: l => by
    rw [wtL, wtL_mul, wtL_pp s j l]
    by_cases h : b ∈ lotN j
    · rw [if_pos (decide_eq_true h), List.filter_cons, if_pos (by simpa using h), ppL, Rat.one_mul]
    · rw [if_neg (by simp [h]), List.filter_cons, if_neg (by simpa using h), Rat.one_mul]
theorem lotN_and : ∀ i < 16, ∀ j < 16, (lotN i).filter (fun b => decide (b ∈ lotN j)) = lotN (i &&& j) := by decide +kernel
theorem wt_pp (s : List Rat) {i j : Nat} (hi : i < 16) (hj : j < 16) : wt s i j = ((sg i j : Int) : Rat) * pp s (i &&& j) := by
  rw [wt, wtL_mul, wtL_pp, lotN_and i hi j hj]
  rfl
theorem rat_neg_self {x : Rat} (h : x = -x) : x = 0 := by grind
theorem sg_cases (i j : Nat) : ((sg i j : Int) : Rat) = 1 ∨ ((sg i j : Int) : Rat) = -1 := by
  rcases sg_one i j with h | h <;> rw [h]
  · exact .inl rfl
  · exact .inr rfl
theorem wt_comm (s : List Rat) {i j : Nat} (hi : i < 16) (hj : j < 16) : wt s i j = wt s j i ↔ (sg i j = sg j i ∨ pp s (i &&& j) = 0) := by
  rw [wt_pp s hi hj, wt_pp s hj hi, Nat.and_comm j i]
  constructor
  · intro h
    by_cases c : sg i j = sg j i
    · exact .inl c
    · right
      rcases sg_one i j with a | a <;> rcases sg_one j i with b | b <;> rw [a, b] at c h
      · exact absurd rfl c
      · have h : (1 : Rat) * pp s (i &&& j) = (-1 : Rat) * pp s (i &&& j) := h
        grind
      · have h : (-1 : Rat) * pp s (i &&& j) = (1 : Rat) * pp s (i &&& j) := h
        grind
      · exact absurd rfl c
  · rintro (h | h)
    · rw [h]
    · rw [h, Rat.mul_zero, Rat.mul_zero]
theorem ppL_zero (s : List Rat) : ∀ l : List Nat, ppL s l = 0 ↔ l.any (fun b => decide (s.getD (b - 1) 0 = 0)) = true
  | [] => by
    rw [ppL]
    simp
  | b :: l => by
    rw [ppL, Rat.mul_eq_zero, ppL_zero s l, List.any_cons, Bool.or_eq_true, decide_eq_true_eq]
/-- numbers with given bits -/
theorem mask_of (p : Nat → Bool) : ∀ m, ∃ k, k < 2 ^ m ∧ ∀ b, b < m → k.testBit b = p b
  | 0 => ⟨0, by decide, fun b h => absurd h (Nat.not_lt_zero _)⟩
  | m + 1 => by
    obtain ⟨k, hk, hb⟩ := mask_of p m
    cases e : p m with
    | false =>
      refine ⟨k, by rw [Nat.pow_succ]; omega, fun b h => ?_⟩
      by_cases c : b = m
      · rw [c, e]; exact Nat.testBit_lt_two_pow hk
      · exact hb b (by omega)
    | true =>
      refine ⟨2 ^ m + k, by rw [Nat.pow_succ]; omega, fun b h => ?_⟩
      by_cases c : b = m
      · rw [c, e, Nat.testBit_two_pow_add_eq, Nat.testBit_lt_two_pow hk]; rfl
      · rw [Nat.testBit_two_pow_add_gt (by omega)]; exact hb b (by omega)
/-- the lots that are exchanged with all -/
def midL (N : Nat) (s : List Rat) : List Nat := (List.range N).filter fun i => (List.range N).all fun j => decide (wt s i j = wt s j i)
theorem mid_tab : ∀ m < 5, ∀ k < 2 ^ m, (List.range (2 ^ m)).filter (fun i => (List.range (2 ^ m)).all fun j => decide (sg i j = sg j i) || (lotN (i &&& j)).any fun b => k.testBit (b - 1)) =
    (if m < 2 then List.range (2 ^ m) else if k = 2 ^ m - 1 then [0, 2 ^ m - 1] else [0]) := by decide +kernel
theorem all_bits : ∀ m < 5, ∀ k < 2 ^ m, ((List.range m).all fun b => k.testBit b) = decide (k = 2 ^ m - 1) := by decide +kernel
theorem and_lt' {m i j : Nat} (hi : i < 2 ^ m) : i &&& j < 2 ^ m := Nat.lt_of_le_of_lt Nat.and_le_left hi
theorem midL_eq {m : Nat} {s : List Rat} (hs : StpOk m s) : midL (2 ^ m) s = if m < 2 then List.range (2 ^ m) else if s.all (fun q => decide (q = 0)) then [0, 2 ^ m - 1] else [0] := by
  obtain ⟨k, hk, hb⟩ := mask_of (fun b => decide (s.getD b 0 = 0)) m
  have h1 : midL (2 ^ m) s = (List.range (2 ^ m)).filter (fun i => (List.range (2 ^ m)).all fun j => decide (sg i j = sg j i) || (lotN (i &&& j)).any fun b => k.testBit (b - 1)) := by
    unfold midL
    refine List.filter_congr fun i hi => ?_
    have hi := List.mem_range.mp hi
    rw [Bool.eq_iff_iff, List.all_eq_true, List.all_eq_true]
    have key : ∀ j ∈ List.range (2 ^ m), (decide (wt s i j = wt s j i) = true ↔ (decide (sg i j = sg j i) || (lotN (i &&& j)).any fun b => k.testBit (b - 1)) = true) := fun j hj => by
      have hj := List.mem_range.mp hj
      rw [decide_eq_true_eq, wt_comm s (lot_lt hs.2.1 hi) (lot_lt hs.2.1 hj), pp, ppL_zero, Bool.or_eq_true, decide_eq_true_eq]
      have : ((lotN (i &&& j)).any fun b => decide (s.getD (b - 1) 0 = 0)) = ((lotN (i &&& j)).any fun b => k.testBit (b - 1)) := by
        rw [Bool.eq_iff_iff, List.any_eq_true, List.any_eq_true]
        have e : ∀ b ∈ lotN (i &&& j), k.testBit (b - 1) = decide (s.getD (b - 1) 0 = 0) := fun b hbm => by
          have := lotN_below m (by have := hs.2.1; omega) (i &&& j) (and_lt' hi) b hbm
          exact hb (b - 1) (by omega)
        exact ⟨fun ⟨b, q1, q2⟩ => ⟨b, q1, by rw [e b q1]; exact q2⟩, fun ⟨b, q1, q2⟩ => ⟨b, q1, by rw [← e b q1]; exact q2⟩⟩
      rw [this]
    exact ⟨fun h j hj => (key j hj).mp (h j hj), fun h j hj => (key j hj).mpr (h j hj)⟩
  rw [h1, mid_tab m (by have := hs.2.1; omega) k hk]
  have h2 : s.all (fun q => decide (q = 0)) = decide (k = 2 ^ m - 1) := by
    rw [← all_bits m (by have := hs.2.1; omega) k hk, Bool.eq_iff_iff, List.all_eq_true, List.all_eq_true]
    constructor
    · intro h b hbm
      have hbm := List.mem_range.mp hbm
      rw [hb b hbm, List.getD_eq_getElem?_getD, List.getElem?_eq_getElem (by rw [hs.1]; exact hbm)]
      exact h _ (List.getElem_mem _)
    · intro h q hq
      obtain ⟨b, hbl, rfl⟩ := List.getElem_of_mem hq
      have := h b (List.mem_range.mpr (by rw [← hs.1]; exact hbl))
      rw [hb b (by rw [← hs.1]; exact hbl), List.getD_eq_getElem?_getD, List.getElem?_eq_getElem hbl] at this
      exact this
  rw [h2]
  by_cases c : k = 2 ^ m - 1
  · rw [if_pos c, decide_eq_true c]; rfl
  · rw [if_neg c, decide_eq_false c]; rfl
/-! ### sums -/
theorem sumN_congr {f g : Nat → Rat} : ∀ {n : Nat}, (∀ i, i < n → f i = g i) → sumN n f = sumN n g
  | 0, _ => rfl
  | n + 1, h => by rw [sumN, sumN, sumN_congr fun i hi => h i (by omega), h n (by omega)]
theorem sumN_zero : ∀ n, sumN n (fun _ => 0) = 0
  | 0 => rfl
  | n + 1 => by rw [sumN, sumN_zero n, rat_add0]
theorem sumN_add (f g : Nat → Rat) : ∀ n, sumN n (fun i => f i + g i) = sumN n f + sumN n g
  | 0 => by rw [sumN, sumN, sumN, rat_add0]
  | n + 1 => by rw [sumN, sumN, sumN, sumN_add f g n]; grind
theorem sumN_swap (f : Nat → Nat → Rat) (m : Nat) : ∀ n, sumN n (fun i => sumN m fun j => f i j) = sumN m fun j => sumN n fun i => f i j
  | 0 => by
    rw [sumN]
    exact (sumN_zero m).symm
  | n + 1 => by
    rw [sumN, sumN_swap f m n, ← sumN_add]
    rfl
theorem sumN_one {f : Nat → Rat} {k : Nat} : ∀ {n : Nat}, k < n → (∀ i, i < n → i ≠ k → f i = 0) → sumN n f = f k
  | 0, h, _ => absurd h (Nat.not_lt_zero _)
  | n + 1, h, hz => by
    rw [sumN]
    by_cases c : k = n
    · subst c
      rw [sumN_congr (g := fun _ => 0) fun i hi => hz i (by omega) (by omega), sumN_zero, Rat.zero_add]
    · rw [sumN_one (by omega) fun i hi hk => hz i (by omega) hk, hz n (by omega) (fun z => c z.symm), rat_add0]
/-! ### exchanges -/
theorem addL_neg_get {N : Nat} {f g : Nat → Rat} : addL ((List.range N).map f) (((List.range N).map g).map fun q => -1 * q) = (List.range N).map fun w => f w + -1 * g w := by
  unfold addL
  rw [List.map_map, List.zip_map', List.map_map]
  rfl
theorem exL_eq {m : Nat} (s a b : List Rat) : exL (2 ^ m) s a b = (List.range (2 ^ m)).map fun w => (sumN (2 ^ m) fun i => sumN (2 ^ m) fun j => tm s a b i j w) + -1 * (sumN (2 ^ m) fun i => sumN (2 ^ m) fun j => tm s b a i j w) := by
  unfold exL foldL
  rw [addL_neg_get]
theorem tm_swap {s a b : List Rat} {i j w : Nat} (h : a.getD i 0 ≠ 0 → wt s i j = wt s j i) : tm s a b i j w = tm s b a j i w := by
  unfold tm
  rw [Nat.xor_comm j i]
  split
  · by_cases c : a.getD i 0 = 0
    · rw [c, Rat.zero_mul, Rat.zero_mul, Rat.mul_zero, Rat.zero_mul]
    · rw [h c, Rat.mul_comm (a.getD i 0)]
  · rfl
def zeroL (N : Nat) : List Rat := (List.range N).map fun _ => 0
theorem exL_zero {m : Nat} {s a b : List Rat} (h : ∀ i < 2 ^ m, a.getD i 0 ≠ 0 → ∀ j < 2 ^ m, wt s i j = wt s j i) : exL (2 ^ m) s a b = zeroL (2 ^ m) := by
  rw [exL_eq, zeroL]
  refine List.map_congr_left fun w _ => ?_
  have : (sumN (2 ^ m) fun i => sumN (2 ^ m) fun j => tm s a b i j w) = sumN (2 ^ m) fun i => sumN (2 ^ m) fun j => tm s b a i j w := by
    rw [sumN_swap (fun i j => tm s b a i j w)]
    exact sumN_congr fun i hi => sumN_congr fun j hj => tm_swap fun c => h i hi c j hj
  rw [this]
  grind
theorem oneL_get {m j i : Nat} (hi : i < 2 ^ m) : (oneL m j).getD i 0 = if i = j then 1 else 0 := by
  unfold oneL
  rw [List.getD_eq_getElem?_getD, List.getElem?_map, List.getElem?_range hi]
  rfl
theorem xor_cancel {i k j : Nat} (h : i ^^^ j = k ^^^ j) : i = k := by
  have := congrArg (· ^^^ j) h
  simpa [Nat.xor_assoc] using this
theorem exL_one {m : Nat} {s d : List Rat} {i j : Nat} (hi : i < 2 ^ m) (hj : j < 2 ^ m) (h0 : d.getD i 0 ≠ 0) (h : wt s i j ≠ wt s j i) : exL (2 ^ m) s d (oneL m j) ≠ zeroL (2 ^ m) := by
  intro z
  rw [exL_eq, zeroL] at z
  have hw := xor_lt hi hj
  have e := List.map_inj_left.mp z (i ^^^ j) (List.mem_range.mpr hw)
  have e1 : (sumN (2 ^ m) fun i' => sumN (2 ^ m) fun j' => tm s d (oneL m j) i' j' (i ^^^ j)) = d.getD i 0 * wt s i j := by
    rw [sumN_one hi]
    · rw [sumN_one hj]
      · rw [tm, if_pos rfl, oneL_get hj, if_pos rfl, Rat.mul_one]
      · intro j' hj' hne
        rw [tm, oneL_get hj', if_neg hne]
        split
        · rw [Rat.mul_zero, Rat.zero_mul]
        · rfl
    · intro i' hi' hne
      refine (sumN_congr (g := fun _ => 0) fun j' hj' => ?_).trans (sumN_zero _)
      rw [tm]
      split
      · rename_i c
        rw [oneL_get hj']
        split
        · rename_i c2
          subst c2
          exact absurd (xor_cancel c) hne
        · rw [Rat.mul_zero, Rat.zero_mul]
      · rfl
  have e2 : (sumN (2 ^ m) fun i' => sumN (2 ^ m) fun j' => tm s (oneL m j) d i' j' (i ^^^ j)) = d.getD i 0 * wt s j i := by
    rw [sumN_one hj]
    · rw [sumN_one hi]
      · rw [tm, if_pos (Nat.xor_comm j i), oneL_get hj, if_pos rfl, Rat.one_mul]
      · intro i' hi' hne
        rw [tm]
        split
        · rename_i c
          rw [Nat.xor_comm j i'] at c
          exact absurd (xor_cancel c) hne
        · rfl
    · intro j' hj' hne
      refine (sumN_congr (g := fun _ => 0) fun i' hi' => ?_).trans (sumN_zero _)
      rw [tm, oneL_get hj', if_neg hne]
      split
      · rw [Rat.zero_mul, Rat.zero_mul]
      · rfl
  rw [e1, e2] at e
  have : d.getD i 0 * (wt s i j - wt s j i) = 0 := by grind
  rcases Rat.mul_eq_zero.mp this with q | q
  · exact h0 q
  · exact h (by grind)
end QL
set_option Elab.async false
set_option linter.all false
set_option maxRecDepth 100000
set_option maxHeartbeats 2000000
set_option exponentiation.threshold 20000
/-! QA1: the middle lots asked; lists of lots. -/
namespace QL
open PySem
section
variable (L : LDef)
theorem bools_p {α : Type} (p : α → Bool) : ∀ l : List α, boolsOf (l.map fun x => D.bl (p x)) = some (l.map p)
  | [] => rfl
  | x :: l => by rw [List.map_cons, boolsOf, bools_p p l]; rfl
theorem all_p {α : Type} (S : Ob) (p : α → Bool) (l : List α) : bltD S .all [.lst (l.map fun x => D.bl (p x))] = some (.bl (l.all p)) := by
  show (boolsOf (l.map fun x => D.bl (p x))).map (fun bs => D.bl (bs.all id)) = _
  rw [bools_p, Option.map_some]
  congr 2
  rw [List.all_map]
  rfl
theorem middle_lots_ok (n : Nat) {m : Nat} {s : List Rat} (hs : StpOk m s) (S : Ob) : callN (PU L) (n + 5) f_middle_lots [stp s] [] S = .ok (.tup ((midL (2 ^ m) s).map LT)) S := by
  rw [c_middle_lots, b_middle_lots]
  have hp : 2 ^ m ≤ 2 ^ 4 := Nat.pow_le_pow_right (by decide) hs.2.1
  have e1 := need_steps_ok L (n + 1) hs S
  have e2 := lots_ok L n hs.2.1 S
  have e4 := len_stp S s
  rw [hs.1] at e4
  have inner : ∀ i < 2 ^ m, evC (PU L) (callN (PU L) (n + 4)) [.blt false .all [.lc false (.nm 3) .val [.var 1] [] (.cmp .eq (.call 891 [.var 0, .var 2, .var 3] []) (.call 891 [.var 0, .var 3, .var 2] [])) [3]]] [some (stp s), some (.tup (LTs (2 ^ m))), some (LT i), none] S = .ok ((List.range (2 ^ m)).all fun j => decide (wt s i j = wt s j i)) S := by
    intro i hi
    have k := ev_lcM (P := PU L) (cf := callN (PU L) (n + 4)) (tg := .nm 3) (w := .val) (it := [.var 1]) (ifs := []) (e := .cmp .eq (.call 891 [.var 0, .var 2, .var 3] []) (.call 891 [.var 0, .var 3, .var 2] [])) (own := [3]) (ρ := [some (stp s), some (.tup (LTs (2 ^ m))), some (LT i), none]) (S := S) (xs := [.tup (LTs (2 ^ m))])
      LT (fun j => D.bl (decide (wt s i j = wt s j i))) (ys := List.range (2 ^ m)) (by simp only [ev_var, ev_cst, ev_glb, ev_tup, ev_lst, ev_dic, ev_bin, ev_cmp, ev_chn, ev_neg, ev_not, ev_and, ev_or, ev_ite, ev_ix, ev_slc, ev_call, ev_blt, ev_mth, evs_nil, evs_cons, evo_none, evo_some, evc_nil, evc_cons, st_set, st_asg, st_seti, st_aug, st_expr, st_ret, st_retN, st_ite, st_brk, st_cont, st_pass, sts_nil, sts_cons, finS_nx, finS_rt, tg_nm, tg_tup, tg_lst, tgs_nil, tgs_cons, wipeE, itOf, itD, rd, res_some, mkO_false, mkO_lst, mkO_dct, bltD, toInt?, ckI, List.getElem?_cons_zero, List.getElem?_cons_succ, List.set_cons_zero, List.set_cons_succ, r_bind, r_bindN, r_st, seq_nx, seq_rt, seq_bk, seq_ct, List.length_cons, List.length_nil, if_true, if_false, ite_true, ite_false, reduceIte, Bool.false_eq_true, Option.map_some, Option.bind_some]) rfl rfl (fun j hj => ⟨[some (stp s), some (.tup (LTs (2 ^ m))), some (LT i), some (LT j)], by simp only [ev_var, ev_cst, ev_glb, ev_tup, ev_lst, ev_dic, ev_bin, ev_cmp, ev_chn, ev_neg, ev_not, ev_and, ev_or, ev_ite, ev_ix, ev_slc, ev_call, ev_blt, ev_mth, evs_nil, evs_cons, evo_none, evo_some, evc_nil, evc_cons, st_set, st_asg, st_seti, st_aug, st_expr, st_ret, st_retN, st_ite, st_brk, st_cont, st_pass, sts_nil, sts_cons, finS_nx, finS_rt, tg_nm, tg_tup, tg_lst, tgs_nil, tgs_cons, wipeE, itOf, itD, rd, res_some, mkO_false, mkO_lst, mkO_dct, bltD, toInt?, ckI, List.getElem?_cons_zero, List.getElem?_cons_succ, List.set_cons_zero, List.set_cons_succ, r_bind, r_bindN, r_st, seq_nx, seq_rt, seq_bk, seq_ct, List.length_cons, List.length_nil, if_true, if_false, ite_true, ite_false, reduceIte, Bool.false_eq_true, Option.map_some, Option.bind_some], by simp only [ev_var, ev_cst, ev_glb, ev_tup, ev_lst, ev_dic, ev_bin, ev_cmp, ev_chn, ev_neg, ev_not, ev_and, ev_or, ev_ite, ev_ix, ev_slc, ev_call, ev_blt, ev_mth, evs_nil, evs_cons, evo_none, evo_some, evc_nil, evc_cons, st_set, st_asg, st_seti, st_aug, st_expr, st_ret, st_retN, st_ite, st_brk, st_cont, st_pass, sts_nil, sts_cons, finS_nx, finS_rt, tg_nm, tg_tup, tg_lst, tgs_nil, tgs_cons, wipeE, itOf, itD, rd, res_some, mkO_false, mkO_lst, mkO_dct, bltD, toInt?, ckI, List.getElem?_cons_zero, List.getElem?_cons_succ, List.set_cons_zero, List.set_cons_succ, r_bind, r_bindN, r_st, seq_nx, seq_rt, seq_bk, seq_ct, List.length_cons, List.length_nil, if_true, if_false, ite_true, ite_false, reduceIte, Bool.false_eq_true, Option.map_some, Option.bind_some], by
        have hj := List.mem_range.mp hj
        simp only [ev_var, ev_cst, ev_glb, ev_tup, ev_lst, ev_dic, ev_bin, ev_cmp, ev_chn, ev_neg, ev_not, ev_and, ev_or, ev_ite, ev_ix, ev_slc, ev_call, ev_blt, ev_mth, evs_nil, evs_cons, evo_none, evo_some, evc_nil, evc_cons, st_set, st_asg, st_seti, st_aug, st_expr, st_ret, st_retN, st_ite, st_brk, st_cont, st_pass, sts_nil, sts_cons, finS_nx, finS_rt, tg_nm, tg_tup, tg_lst, tgs_nil, tgs_cons, wipeE, itOf, itD, rd, res_some, mkO_false, mkO_lst, mkO_dct, bltD, toInt?, ckI, List.getElem?_cons_zero, List.getElem?_cons_succ, List.set_cons_zero, List.set_cons_succ, r_bind, r_bindN, r_st, seq_nx, seq_rt, seq_bk, seq_ct, List.length_cons, List.length_nil, if_true, if_false, ite_true, ite_false, reduceIte, Bool.false_eq_true, Option.map_some, Option.bind_some, worth_ok L n hs hi hj S, worth_ok L n hs hj hi S, eq_nm]⟩) (by rw [List.length_range, lim_eq]; omega)
    simp only [evc_cons, evc_nil, ev_blt, evs_cons, evs_nil, k, r_bind, all_p, res_some, mkO_false]
    cases (List.range (2 ^ m)).all fun j => decide (wt s i j = wt s j i) <;> rfl
  have k := ev_lcF (P := PU L) (cf := callN (PU L) (n + 4)) (tg := .nm 2) (w := .val) (it := [.var 1]) (ifs := [.blt false .all [.lc false (.nm 3) .val [.var 1] [] (.cmp .eq (.call 891 [.var 0, .var 2, .var 3] []) (.call 891 [.var 0, .var 3, .var 2] [])) [3]]]) (e := .var 2) (own := [2])
    (ρ := [some (stp s), some (.tup (LTs (2 ^ m))), none, none]) (S := S) (xs := [.tup (LTs (2 ^ m))]) LT (fun i => (List.range (2 ^ m)).all fun j => decide (wt s i j = wt s j i)) LT (ys := List.range (2 ^ m)) (by simp only [ev_var, ev_cst, ev_glb, ev_tup, ev_lst, ev_dic, ev_bin, ev_cmp, ev_chn, ev_neg, ev_not, ev_and, ev_or, ev_ite, ev_ix, ev_slc, ev_call, ev_blt, ev_mth, evs_nil, evs_cons, evo_none, evo_some, evc_nil, evc_cons, st_set, st_asg, st_seti, st_aug, st_expr, st_ret, st_retN, st_ite, st_brk, st_cont, st_pass, sts_nil, sts_cons, finS_nx, finS_rt, tg_nm, tg_tup, tg_lst, tgs_nil, tgs_cons, wipeE, itOf, itD, rd, res_some, mkO_false, mkO_lst, mkO_dct, bltD, toInt?, ckI, List.getElem?_cons_zero, List.getElem?_cons_succ, List.set_cons_zero, List.set_cons_succ, r_bind, r_bindN, r_st, seq_nx, seq_rt, seq_bk, seq_ct, List.length_cons, List.length_nil, if_true, if_false, ite_true, ite_false, reduceIte, Bool.false_eq_true, Option.map_some, Option.bind_some]) rfl rfl
    (fun i hi => ⟨[some (stp s), some (.tup (LTs (2 ^ m))), some (LT i), none], by simp only [ev_var, ev_cst, ev_glb, ev_tup, ev_lst, ev_dic, ev_bin, ev_cmp, ev_chn, ev_neg, ev_not, ev_and, ev_or, ev_ite, ev_ix, ev_slc, ev_call, ev_blt, ev_mth, evs_nil, evs_cons, evo_none, evo_some, evc_nil, evc_cons, st_set, st_asg, st_seti, st_aug, st_expr, st_ret, st_retN, st_ite, st_brk, st_cont, st_pass, sts_nil, sts_cons, finS_nx, finS_rt, tg_nm, tg_tup, tg_lst, tgs_nil, tgs_cons, wipeE, itOf, itD, rd, res_some, mkO_false, mkO_lst, mkO_dct, bltD, toInt?, ckI, List.getElem?_cons_zero, List.getElem?_cons_succ, List.set_cons_zero, List.set_cons_succ, r_bind, r_bindN, r_st, seq_nx, seq_rt, seq_bk, seq_ct, List.length_cons, List.length_nil, if_true, if_false, ite_true, ite_false, reduceIte, Bool.false_eq_true, Option.map_some, Option.bind_some], inner i (List.mem_range.mp hi), fun _ => by simp only [ev_var, ev_cst, ev_glb, ev_tup, ev_lst, ev_dic, ev_bin, ev_cmp, ev_chn, ev_neg, ev_not, ev_and, ev_or, ev_ite, ev_ix, ev_slc, ev_call, ev_blt, ev_mth, evs_nil, evs_cons, evo_none, evo_some, evc_nil, evc_cons, st_set, st_asg, st_seti, st_aug, st_expr, st_ret, st_retN, st_ite, st_brk, st_cont, st_pass, sts_nil, sts_cons, finS_nx, finS_rt, tg_nm, tg_tup, tg_lst, tgs_nil, tgs_cons, wipeE, itOf, itD, rd, res_some, mkO_false, mkO_lst, mkO_dct, bltD, toInt?, ckI, List.getElem?_cons_zero, List.getElem?_cons_succ, List.set_cons_zero, List.set_cons_succ, r_bind, r_bindN, r_st, seq_nx, seq_rt, seq_bk, seq_ct, List.length_cons, List.length_nil, if_true, if_false, ite_true, ite_false, reduceIte, Bool.false_eq_true, Option.map_some, Option.bind_some]⟩) (by rw [List.length_range, lim_eq]; omega)
  have e2' : callN (PU L) (n + 4) 677 [.int (m : Int)] [] S = .ok (.tup (LTs (2 ^ m))) S := e2
  simp only [sts_cons, sts_nil, st_expr, st_set, st_ret, ev_call, ev_blt, evs_cons, evs_nil, ev_var, List.getElem?_cons_zero, List.getElem?_cons_succ, r_bind, e1, e4, e2', res_some, mkO_false, r_st, seq_nx, List.set_cons_zero, List.set_cons_succ, k, tuple_lst, seq_rt, finS_rt]
  rfl
/-! ### what is told is what is due: the few answers -/
def ansL : List (List Nat) := [[0], [0, 1], [0, 3], [0, 7], [0, 15]]
theorem is_tab (n : Nat) (S : Ob) : ansL.map (fun ks => callN (PU L) (n + 4) f_law_is [.tup (ks.map LT), .tup (ks.map LT)] [] S) = ansL.map (fun _ => .ok (.bl true) S) := by kernel_rfl
theorem is_ans (n : Nat) {ks : List Nat} (h : ks ∈ ansL) (S : Ob) : callN (PU L) (n + 4) f_law_is [.tup (ks.map LT), .tup (ks.map LT)] [] S = .ok (.bl true) S :=
  List.map_inj_left.mp (is_tab L n S) ks h
theorem midL_ans {m : Nat} {s : List Rat} (hs : StpOk m s) : midL (2 ^ m) s ∈ ansL := by
  rw [midL_eq hs]
  generalize (s.all fun q => decide (q = 0)) = z
  rcases le4 hs.2.1 with h | h | h | h | h <;> subst h <;> cases z <;> decide
/-! ### lists of lots compared -/
theorem flats_LT : ∀ ks : List Nat, D.flats (ks.map LT) = true
  | [] => rfl
  | k :: ks => by rw [List.map_cons, D.flats, flats_LT ks, LT, lt_flat]; rfl
theorem deps_LT : ∀ ks : List Nat, D.deps (ks.map LT) ≤ 1
  | [] => Nat.zero_le _
  | k :: ks => by
    rw [List.map_cons, D.deps, LT, lt_dep]
    have := deps_LT ks
    omega
theorem eqvs_LT : ∀ (a b : List Nat), (∀ k ∈ a, k < 16) → (∀ k ∈ b, k < 16) → D.eqvs (a.map LT) (b.map LT) = decide (a = b)
  | [], [], _, _ => rfl
  | [], _ :: _, _, _ => rfl
  | _ :: _, [], _, _ => rfl
  | x :: a, y :: b, ha, hb => by
    rw [List.map_cons, List.map_cons, D.eqvs, eqvs_LT a b (fun k hk => ha k (List.mem_cons_of_mem _ hk)) (fun k hk => hb k (List.mem_cons_of_mem _ hk)), LT, LT, lt_eqv, lotN_dec (ha x List.mem_cons_self) (hb y List.mem_cons_self)]
    by_cases h : x = y
    · subst h; simp
    · rw [decide_eq_false h, Bool.false_and, decide_eq_false (fun z => h (List.cons.inj z).1)]
theorem eq_LTs (S : Ob) {a b : List Nat} (ha : ∀ k ∈ a, k < 16) (hb : ∀ k ∈ b, k < 16) : cmpD S .eq (.tup (a.map LT)) (.tup (b.map LT)) = some (decide (a = b)) := by
  show (if D.flat (.tup (a.map LT)) && D.flat (.tup (b.map LT)) && Nat.ble (min (D.dep (.tup (a.map LT))) (D.dep (.tup (b.map LT)))) 60 then some ((D.tup (a.map LT)).eqv (.tup (b.map LT))) else none) = _
  rw [D.flat, flats_LT, D.flat, flats_LT, D.eqv, eqvs_LT a b ha hb]
  have : Nat.ble (min (D.dep (.tup (a.map LT))) (D.dep (.tup (b.map LT)))) 60 = true := Nat.ble_eq_true_of_le (by
    rw [D.dep]
    have := deps_LT a
    omega)
  rw [this]; rfl
theorem ne_LTs (S : Ob) {a b : List Nat} (ha : ∀ k ∈ a, k < 16) (hb : ∀ k ∈ b, k < 16) : cmpD S .ne (.tup (a.map LT)) (.tup (b.map LT)) = some (!decide (a = b)) := by
  show (cmpD S .eq (.tup (a.map LT)) (.tup (b.map LT))).map (!·) = _
  rw [eq_LTs S ha hb]; rfl
theorem any_LT {k : Nat} (hk : k < 16) : ∀ {l : List Nat}, (∀ x ∈ l, x < 16) → ((l.map LT).any fun z => z.eqv (LT k)) = decide (k ∈ l)
  | [], _ => rfl
  | x :: l, h => by
    rw [List.map_cons, List.any_cons, any_LT hk fun y hy => h y (List.mem_cons_of_mem _ hy), LT, LT, lt_eqv, lotN_dec (h x List.mem_cons_self) hk]
    by_cases c : x = k
    · subst c; simp
    · have c' : ¬ k = x := fun z => c z.symm
      simp [c, c']
theorem notin_LTs (S : Ob) {k : Nat} (hk : k < 16) {l : List Nat} (h : ∀ x ∈ l, x < 16) : cmpD S .notin (LT k) (.tup (l.map LT)) = some (!decide (k ∈ l)) := by
  show (if D.flat (LT k) && D.flats (l.map LT) && Nat.ble (D.dep (LT k)) 60 then some ((l.map LT).any fun z => z.eqv (LT k)) else none).map (!·) = _
  rw [LT, lt_flat, flats_LT, lt_dep]
  have := any_LT hk h
  rw [LT] at this
  rw [this]; rfl
/-! ### tables compared -/
theorem nm_flat (q : Rat) : (nm q).flat = true := rfl
theorem flats_nm : ∀ l : List Rat, D.flats (nms l) = true
  | [] => rfl
  | q :: l => by show (D.flat (nm q) && D.flats (nms l)) = true; rw [flats_nm l, nm_flat]; rfl
theorem deps_nm : ∀ l : List Rat, D.deps (nms l) ≤ 1
  | [] => Nat.zero_le _
  | q :: l => by
    show max (D.dep (nm q)) (D.deps (nms l)) ≤ 1
    have := deps_nm l
    have e : D.dep (nm q) = 1 := rfl
    omega
theorem nm_eqv (p q : Rat) : (nm p).eqv (nm q) = decide (p = q) := by
  have := eq_nm [] p q
  have e : cmpD [] .eq (nm p) (nm q) = some ((nm p).eqv (nm q)) := rfl
  rw [e] at this
  exact Option.some.inj this
theorem eqvs_nm : ∀ (a b : List Rat), D.eqvs (nms a) (nms b) = decide (a = b)
  | [], [] => rfl
  | [], _ :: _ => rfl
  | _ :: _, [] => rfl
  | x :: a, y :: b => by
    show ((nm x).eqv (nm y) && D.eqvs (nms a) (nms b)) = _
    rw [eqvs_nm a b, nm_eqv]
    by_cases h : x = y
    · subst h; simp
    · rw [decide_eq_false h, Bool.false_and, decide_eq_false (fun z => h (List.cons.inj z).1)]
theorem tb_flat (l : List Rat) : (tb l).flat = true := by
  show (true && (D.flats (nms l) && true)) = true
  rw [flats_nm]; rfl
theorem tb_dep (l : List Rat) : (tb l).dep ≤ 3 := by
  show (max 0 (max (D.deps (nms l) + 1) 0)) + 1 ≤ 3
  have := deps_nm l
  omega
theorem tb_eqv (a b : List Rat) : (tb a).eqv (tb b) = decide (a = b) := by
  show (true && (D.eqvs (nms a) (nms b) && true)) = _
  rw [eqvs_nm]; simp
theorem ne_tb (S : Ob) (a b : List Rat) : cmpD S .ne (tb a) (tb b) = some (!decide (a = b)) := by
  show (if D.flat (tb a) && D.flat (tb b) && Nat.ble (min (D.dep (tb a)) (D.dep (tb b))) 60 then some ((tb a).eqv (tb b)) else none).map (!·) = _
  have : Nat.ble (min (D.dep (tb a)) (D.dep (tb b))) 60 = true := Nat.ble_eq_true_of_le (by have := tb_dep a; omega)
  rw [tb_flat, tb_flat, tb_eqv, this]; rfl
/-- a list of ones is empty -/
theorem eq_nil (S : Ob) {α : Type} (l : List α) : cmpD S .eq (.lst (l.map fun _ => D.int 1)) (.lst []) = some (decide (l = [])) := by
  have h1 : D.flats (l.map fun _ => D.int 1) = true := by
    induction l with
    | nil => rfl
    | cons a l ih => rw [List.map_cons, D.flats, ih]; rfl
  show (if D.flat (.lst (l.map fun _ => D.int 1)) && D.flat (.lst []) && Nat.ble (min (D.dep (.lst (l.map fun _ => D.int 1))) (D.dep (.lst []))) 60 then some ((D.lst (l.map fun _ => D.int 1)).eqv (.lst [])) else none) = _
  rw [D.flat, h1]
  have : Nat.ble (min (D.dep (.lst (l.map fun _ => D.int 1))) (D.dep (.lst []))) 60 = true := Nat.ble_eq_true_of_le (by
    have e : D.dep (.lst []) = 1 := rfl
    omega)
  rw [this]
  cases l <;> rfl
end
end QL
set_option Elab.async false
set_option linter.all false
set_option maxRecDepth 100000
set_option maxHeartbeats 4000000
set_option exponentiation.threshold 20000
/-! K68: the law's own def. -/
namespace QL
open PySem
def b_law : List LS := [.set 1 (.call 126 [.var 0] []), .set 2 (.lst false [.call 685 [.tup []] [], .call 685 [.tup [.tup [.cst (.int (2)), .cst (.int (1))]]] [], .call 685 [.bin .mul (.tup [.tup [.neg (.cst (.int (1))), .cst (.int (1))]]) (.cst (.int (2)))] [], .call 685 [.bin .mul (.tup [.tup [.cst (.int (0)), .cst (.int (1))]]) (.cst (.int (3)))] [0]]), .ite (.not (.call 213 [.var 2, .lst false [.tup [.tup []], .tup [.tup [], .tup [.cst (.int (1))]], .tup [.tup []], .tup [.tup [], .tup [.cst (.int (1)), .cst (.int (2)), .cst (.int (3))]]]] [])) [.ret (.cst (.bl false))] [], .forr (.nm 3) .range [.bin .add (.cst (.int (6))) (.blt false .min [.blt false .len [.var 0], .cst (.int (8))])] [.set 4 (.call 271 [.var 1, .cst (.int (4))] []), .set 5 (.call 319 [.var 1, .lst false [.call 168 [.var 1, .var 4] [], .call 168 [.var 1, .var 4] [], .bin .mul (.tup [.tup [.cst (.int (0)), .cst (.int (1))]]) (.var 4)]] []), .asg (.tp [.nm 12, .nm 13]) (.tup [.call 266 [.var 4] [], .call 685 [.var 5] []]), .set 6 (.ite (.cmp .lt (.var 4) (.cst (.int (2)))) (.var 12) (.bin .add (.lst false [.tup []]) (.bin .mul (.lst false [.ix (.var 12) (.neg (.cst (.int (1))))]) (.blt false .int [.cmp .eq (.lc false (.nm 20) .val [.var 5] [.cmp .ne (.ix (.var 20) (.cst (.int (0)))) (.cst (.int (0)))] (.var 20) [20]) (.lst false [])])))), .ite (.not (.call 213 [.var 13, .blt false .tuple [.var 6]] [])) [.ret (.cst (.bl false))] [], .set 7 (.blt false .tuple [.lc false (.nm 16) .val [.var 12] [.cmp .eq (.lc false (.nm 14) .val [.var 12] [.cmp .ne (.call 141 [.var 5, .var 16, .var 14] []) (.call 141 [.var 5, .var 14, .var 16] [])] (.cst (.int (1))) [14]) (.lst false [])] (.var 16) [16]]), .ite (.cmp .ne (.var 7) (.var 13)) [.ret (.cst (.bl false))] [], .set 8 (.call 119 [.var 4, .lc false (.nm 17) .val [.var 13] [] (.tup [.var 17, .call 381 [.var 1, .cst (.int (3))] []]) [17]] []), .asg (.tp [.nm 14, .nm 15]) (.tup [.tup [.cst (.str [116, 97, 98, 108, 101]), .call 379 [.var 1, .var 4] []], .tup [.cst (.str [116, 97, 98, 108, 101]), .bin .mul (.tup [.tup [.cst (.int (0)), .cst (.int (1))]]) (.blt false .len [.var 12])]]), .ite (.cmp .ne (.call 540 [.var 5, .tup [.cst (.str [116, 97, 98, 108, 101]), .var 8], .var 14] []) (.var 15)) [.ret (.cst (.bl false))] [], .set 9 (.tup [.cst (.str [116, 97, 98, 108, 101]), .call 379 [.var 1, .var 4] []]), .set 10 (.lc false (.nm 16) .val [.call 302 [.var 4] []] [] (.call 540 [.var 5, .var 9, .tup [.cst (.str [116, 97, 98, 108, 101]), .var 16]] []) [16]), .set 11 (.cmp .eq (.lc false (.tp [.nm 17, .nm 18]) .zip [.var 12, .ix (.var 9) (.cst (.int (1)))] [.and (.cmp .ne (.ix (.var 18) (.cst (.int (0)))) (.cst (.int (0)))) (.cmp .notin (.var 17) (.var 13))] (.cst (.int (1))) [17, 18]) (.lst false [])), .ite (.cmp .ne (.cmp .eq (.lc false (.nm 19) .val [.var 10] [.cmp .ne (.var 19) (.var 15)] (.cst (.int (1))) [19]) (.lst false [])) (.var 11)) [.ret (.cst (.bl false))] []], .ret (.cst (.bl true))]
def d_law : LDef := { np := 1, dflts := [], nslots := 21, frz := false, body := b_law }
abbrev L68 : LDef := d_law
/-- a line whose numbers have sizes -/
theorem LnOk.fr {m : Nat} {l : List Rat} (h : LnOk m l) : FrL 6 18 l := ⟨by decide, h.2⟩
theorem sm_a : Sm (6 * 6 * 16) := by unfold Sm; decide +kernel
theorem sm_b : Sm (256 * (18 * 18 * 1296)) := by unfold Sm; decide +kernel
theorem one_fr (m j : Nat) : FrL 6 18 (oneL m j) := ⟨by decide, fun q hq => by
  obtain ⟨i, _, rfl⟩ := List.mem_map.mp hq
  split
  · exact fr_of 6 (by decide) (by decide +kernel) (by decide)
  · exact (Fr.zero (by decide)).mono (by decide)⟩
theorem oneL_len (m j : Nat) : (oneL m j).length = 2 ^ m := by rw [oneL, List.length_map, List.length_range]
theorem atL_fr {m : Nat} {l : List (Nat × Rat)} (h : ∀ p ∈ l, Fr 6 18 p.2) : FrL 6 18 (atL m l) := ⟨by decide, fun q hq => by
  obtain ⟨i, _, rfl⟩ := List.mem_map.mp hq
  cases e : l.lookup i with
  | none => exact (Fr.zero (by decide)).mono (by decide)
  | some q =>
    have : (i, q) ∈ l := by
      clear h hq
      induction l with
      | nil => cases e
      | cons a l ih =>
        obtain ⟨a1, a2⟩ := a
        by_cases c : i = a1
        · subst c
          rw [List.lookup_cons_self] at e
          cases e
          exact List.mem_cons_self
        · have e1 : (i == a1) = false := by rw [beq_eq_false_iff_ne]; exact c
          rw [List.lookup_cons, e1] at e
          exact List.mem_cons_of_mem _ (ih e)
    exact h _ this⟩
theorem atL_len (m : Nat) (l : List (Nat × Rat)) : (atL m l).length = 2 ^ m := by rw [atL, List.length_map, List.length_range]
theorem atL_off {m : Nat} {l : List (Nat × Rat)} {i : Nat} (hi : i < 2 ^ m) (h : i ∉ l.map (·.1)) : (atL m l).getD i 0 = 0 := by
  unfold atL
  rw [List.getD_eq_getElem?_getD, List.getElem?_map, List.getElem?_range hi]
  have : l.lookup i = none := by
    induction l with
    | nil => rfl
    | cons a l ih =>
      obtain ⟨a1, a2⟩ := a
      rw [List.map_cons, List.mem_cons, not_or] at h
      have e1 : (i == a1) = false := by rw [beq_eq_false_iff_ne]; exact h.1
      rw [List.lookup_cons, e1]
      exact ih h.2
  show (Option.map (fun i => (l.lookup i).getD 0) (some i)).getD 0 = 0
  rw [Option.map_some, this]; rfl
/-- the zeros as data -/
theorem rep_zero (S : Ob) {k : Nat} (hk : k ≤ 1000) : binD S .mul (.tup [.tup [.int 0, .int 1]]) (.int (k : Int)) = some (stp (List.replicate k 0)) := by
  show (if decide ((0 : Int) ≤ k) && decide ((k : Int) ≤ 1000) && Nat.ble 1 1000 then some (D.tup (repD [.tup [.int 0, .int 1]] k)) else none) = _
  have h1 : (decide ((0 : Int) ≤ k) && decide ((k : Int) ≤ 1000) && Nat.ble 1 1000) = true := by
    rw [decide_eq_true (show (0 : Int) ≤ k by omega), decide_eq_true (show (k : Int) ≤ 1000 by omega)]; rfl
  rw [h1, if_pos rfl, stp, nms, List.map_replicate]
  congr 2
  unfold repD
  rw [Int.toNat_natCast]
  have e : nm 0 = .tup [.int 0, .int 1] := rfl
  rw [e]
  clear h1 hk
  induction k with
  | zero => rfl
  | succ k ih => rw [List.replicate_succ, List.replicate_succ, List.flatten_cons, ih]; rfl
theorem zeroL_rep (N : Nat) : List.replicate N (0 : Rat) = zeroL N := by
  unfold zeroL
  rw [List.map_const', List.length_range]
theorem zero_steps {m : Nat} (hm : m ≤ 4) : StpOk m (List.replicate m 0) := ⟨List.length_replicate, hm, fun q hq => by
  rw [(List.mem_replicate.mp hq).2]
  exact (Fr.zero (by decide)).mono (by decide)⟩
theorem to_okE {α : Type} (a : α) (S : Ob) (Q : α → Ob → Prop) : (Res.ok a S).To Q = Q a S := id rfl
abbrev cf : CF := callN (PU L68) 59
/-- s2: the steps -/
theorem k68_steps {b : Nat} {S : Ob} (h : WS b [] S) (hb : b + 20 < 2 ^ 40) {m : Nat} (hm : m ≤ 4) (v0 v1 v2 v3 v4 v5 v6 v7 v8 v9 v10 v11 v12 v13 v14 v15 v16 v17 v18 v19 v20 : Option D) :
    (evE (PU L68) cf (.call 319 [.var 1, .lst false [.call 168 [.var 1, .var 4] [], .call 168 [.var 1, .var 4] [], .bin .mul (.tup [.tup [.cst (.int (0)), .cst (.int (1))]]) (.var 4)]] []) [v0, some (.ref 1), v2, v3, some (.int (m : Int)), v5, v6, v7, v8, v9, v10, v11, v12, v13, v14, v15, v16, v17, v18, v19, v20] S).To fun d S' => (∃ s, d = stp s ∧ StpOk m s) ∧ WS (b + 9) [] S' := by
  obtain ⟨d1, S1, e1, ⟨s1, rfl, h1⟩, w1⟩ := (law_drawn_steps_ok L68 55 h hm (by omega)).eq
  obtain ⟨d2, S2, e2, ⟨s2, rfl, h2⟩, w2⟩ := (law_drawn_steps_ok L68 55 w1 hm (by omega)).eq
  have e3 := rep_zero S2 (k := m) (by omega)
  obtain ⟨d4, S4, e4, hm4, w4⟩ := (law_pick_ok L68 56 w2 (by omega) (xs := [stp s1, stp s2, stp (List.replicate m 0)]) (by simp) (by simp)).eq
  simp only [ev_var, ev_cst, ev_glb, ev_tup, ev_lst, ev_dic, ev_bin, ev_cmp, ev_chn, ev_neg, ev_not, ev_and, ev_or, ev_ite, ev_ix, ev_slc, ev_call, ev_blt, ev_mth, evs_nil, evs_cons, evo_none, evo_some, evc_nil, evc_cons, st_set, st_asg, st_seti, st_aug, st_expr, st_ret, st_retN, st_ite, st_brk, st_cont, st_pass, sts_nil, sts_cons, finS_nx, finS_rt, tg_nm, tg_tup, tg_lst, tgs_nil, tgs_cons, wipeE, itOf, itD, rd, res_some, mkO_false, mkO_lst, mkO_dct, bltD, toInt?, ckI, List.getElem?_cons_zero, List.getElem?_cons_succ, List.set_cons_zero, List.set_cons_succ, r_bind, r_bindN, r_st, seq_nx, seq_rt, seq_bk, seq_ct, List.length_cons, List.length_nil, if_true, if_false, ite_true, ite_false, reduceIte, Bool.false_eq_true, Option.map_some, Option.bind_some, e1, e2, e3, e4]
  refine ⟨?_, w4.mono (by omega)⟩
  simp only [List.mem_cons, List.not_mem_nil, or_false] at hm4
  rcases hm4 with rfl | rfl | rfl
  · exact ⟨s1, rfl, h1⟩
  · exact ⟨s2, rfl, h2⟩
  · exact ⟨_, rfl, zero_steps hm⟩
theorem range_last {m : Nat} (hm : m ≤ 4) (S : Ob) : ixD S (.lst (LTs (2 ^ m))) (.int (-1)) = some (LT (2 ^ m - 1)) := by
  rcases le4 hm with rfl | rfl | rfl | rfl | rfl <;> kernel_rfl
/-- s4: what is due -/
theorem k68_due {S : Ob} {m : Nat} {s : List Rat} (hs : StpOk m s) (v0 v1 v2 v3 v4 v5 v6 v7 v8 v9 v10 v11 v12 v13 v14 v15 v16 v17 v18 v19 v20 : Option D) :
    evE (PU L68) cf (.ite (.cmp .lt (.var 4) (.cst (.int (2)))) (.var 12) (.bin .add (.lst false [.tup []]) (.bin .mul (.lst false [.ix (.var 12) (.neg (.cst (.int (1))))]) (.blt false .int [.cmp .eq (.lc false (.nm 20) .val [.var 5] [.cmp .ne (.ix (.var 20) (.cst (.int (0)))) (.cst (.int (0)))] (.var 20) [20]) (.lst false [])])))) [v0, v1, v2, v3, some (.int (m : Int)), some (stp s), v6, v7, v8, v9, v10, v11, some (.lst (LTs (2 ^ m))), v13, v14, v15, v16, v17, v18, v19, v20] S = .ok (.lst ((midL (2 ^ m) s).map LT)) S := by
  rw [midL_eq hs]
  have c1 : cmpD S .lt (.int (m : Int)) (.int 2) = some (decide (m < 2)) := by
    show some (decide ((m : Int) < 2)) = _
    congr 1
    rw [decide_eq_decide]
    omega
  by_cases c : m < 2
  · simp only [c, decide_true] at c1
    rw [if_pos c]
    simp only [ev_ite, ev_cmp, ev_var, ev_cst, List.getElem?_cons_zero, List.getElem?_cons_succ, r_bind, c1, Option.map_some, res_some]
    rfl
  · simp only [c, decide_false] at c1
    rw [if_neg c]
    have k := ev_lcF (P := PU L68) (cf := cf) (tg := .nm 20) (w := .val) (it := [.var 5]) (ifs := [.cmp .ne (.ix (.var 20) (.cst (.int (0)))) (.cst (.int (0)))]) (e := .var 20) (own := [20]) (ρ := [v0, v1, v2, v3, some (.int (m : Int)), some (stp s), v6, v7, v8, v9, v10, v11, some (.lst (LTs (2 ^ m))), v13, v14, v15, v16, v17, v18, v19, v20]) (S := S) (xs := [stp s])
      nm (fun q => !decide (q = 0)) nm (ys := s) (by simp only [ev_var, ev_cst, ev_glb, ev_tup, ev_lst, ev_dic, ev_bin, ev_cmp, ev_chn, ev_neg, ev_not, ev_and, ev_or, ev_ite, ev_ix, ev_slc, ev_call, ev_blt, ev_mth, evs_nil, evs_cons, evo_none, evo_some, evc_nil, evc_cons, st_set, st_asg, st_seti, st_aug, st_expr, st_ret, st_retN, st_ite, st_brk, st_cont, st_pass, sts_nil, sts_cons, finS_nx, finS_rt, tg_nm, tg_tup, tg_lst, tgs_nil, tgs_cons, wipeE, itOf, itD, rd, res_some, mkO_false, mkO_lst, mkO_dct, bltD, toInt?, ckI, List.getElem?_cons_zero, List.getElem?_cons_succ, List.set_cons_zero, List.set_cons_succ, r_bind, r_bindN, r_st, seq_nx, seq_rt, seq_bk, seq_ct, List.length_cons, List.length_nil, if_true, if_false, ite_true, ite_false, reduceIte, Bool.false_eq_true, Option.map_some, Option.bind_some]) rfl rfl (fun q hq => ⟨[v0, v1, v2, v3, some (.int (m : Int)), some (stp s), v6, v7, v8, v9, v10, v11, some (.lst (LTs (2 ^ m))), v13, v14, v15, v16, v17, v18, v19, some (nm q)], by simp only [ev_var, ev_cst, ev_glb, ev_tup, ev_lst, ev_dic, ev_bin, ev_cmp, ev_chn, ev_neg, ev_not, ev_and, ev_or, ev_ite, ev_ix, ev_slc, ev_call, ev_blt, ev_mth, evs_nil, evs_cons, evo_none, evo_some, evc_nil, evc_cons, st_set, st_asg, st_seti, st_aug, st_expr, st_ret, st_retN, st_ite, st_brk, st_cont, st_pass, sts_nil, sts_cons, finS_nx, finS_rt, tg_nm, tg_tup, tg_lst, tgs_nil, tgs_cons, wipeE, itOf, itD, rd, res_some, mkO_false, mkO_lst, mkO_dct, bltD, toInt?, ckI, List.getElem?_cons_zero, List.getElem?_cons_succ, List.set_cons_zero, List.set_cons_succ, r_bind, r_bindN, r_st, seq_nx, seq_rt, seq_bk, seq_ct, List.length_cons, List.length_nil, if_true, if_false, ite_true, ite_false, reduceIte, Bool.false_eq_true, Option.map_some, Option.bind_some], by
        have : cmpD S .ne (.int q.num) (.int 0) = some (!decide (q = 0)) := by
          show some (!decide (q.num = 0)) = _
          congr 2
          rw [decide_eq_decide]
          exact Rat.num_eq_zero
        simp only [ev_var, ev_cst, ev_glb, ev_tup, ev_lst, ev_dic, ev_bin, ev_cmp, ev_chn, ev_neg, ev_not, ev_and, ev_or, ev_ite, ev_ix, ev_slc, ev_call, ev_blt, ev_mth, evs_nil, evs_cons, evo_none, evo_some, evc_nil, evc_cons, st_set, st_asg, st_seti, st_aug, st_expr, st_ret, st_retN, st_ite, st_brk, st_cont, st_pass, sts_nil, sts_cons, finS_nx, finS_rt, tg_nm, tg_tup, tg_lst, tgs_nil, tgs_cons, wipeE, itOf, itD, rd, res_some, mkO_false, mkO_lst, mkO_dct, bltD, toInt?, ckI, List.getElem?_cons_zero, List.getElem?_cons_succ, List.set_cons_zero, List.set_cons_succ, r_bind, r_bindN, r_st, seq_nx, seq_rt, seq_bk, seq_ct, List.length_cons, List.length_nil, if_true, if_false, ite_true, ite_false, reduceIte, Bool.false_eq_true, Option.map_some, Option.bind_some, ix0, this]
        cases decide (q = 0) <;> rfl, fun _ => by simp only [ev_var, ev_cst, ev_glb, ev_tup, ev_lst, ev_dic, ev_bin, ev_cmp, ev_chn, ev_neg, ev_not, ev_and, ev_or, ev_ite, ev_ix, ev_slc, ev_call, ev_blt, ev_mth, evs_nil, evs_cons, evo_none, evo_some, evc_nil, evc_cons, st_set, st_asg, st_seti, st_aug, st_expr, st_ret, st_retN, st_ite, st_brk, st_cont, st_pass, sts_nil, sts_cons, finS_nx, finS_rt, tg_nm, tg_tup, tg_lst, tgs_nil, tgs_cons, wipeE, itOf, itD, rd, res_some, mkO_false, mkO_lst, mkO_dct, bltD, toInt?, ckI, List.getElem?_cons_zero, List.getElem?_cons_succ, List.set_cons_zero, List.set_cons_succ, r_bind, r_bindN, r_st, seq_nx, seq_rt, seq_bk, seq_ct, List.length_cons, List.length_nil, if_true, if_false, ite_true, ite_false, reduceIte, Bool.false_eq_true, Option.map_some, Option.bind_some]⟩) (by have := hs.1; have := hs.2.1; rw [lim_eq]; omega)
    have e2 : cmpD S .eq (.lst ((s.filter fun q => !decide (q = 0)).map nm)) (.lst []) = some (s.all fun q => decide (q = 0)) := by
      have hf : D.flats ((s.filter fun q => !decide (q = 0)).map nm) = true := flats_nm _
      have hd : Nat.ble (min (D.dep (.lst ((s.filter fun q => !decide (q = 0)).map nm))) (D.dep (.lst []))) 60 = true := Nat.ble_eq_true_of_le (by
        have e : D.dep (.lst []) = 1 := rfl
        omega)
      show (if D.flat (.lst ((s.filter fun q => !decide (q = 0)).map nm)) && D.flat (.lst []) && Nat.ble (min (D.dep (.lst ((s.filter fun q => !decide (q = 0)).map nm))) (D.dep (.lst []))) 60 then some ((D.lst ((s.filter fun q => !decide (q = 0)).map nm)).eqv (.lst [])) else none) = _
      rw [D.flat, hf, hd]
      have q : (D.lst ((s.filter fun q => !decide (q = 0)).map nm)).eqv (.lst []) = decide (s.filter (fun q => !decide (q = 0)) = []) := by
        cases s.filter (fun q => !decide (q = 0)) <;> rfl
      rw [q]
      have : decide (s.filter (fun q => !decide (q = 0)) = []) = s.all fun q => decide (q = 0) := by
        rw [Bool.eq_iff_iff, decide_eq_true_eq, List.filter_eq_nil_iff, List.all_eq_true]
        simp
      rw [this]; rfl
    have e3 := range_last hs.2.1 S
    simp only [ev_ite, ev_cmp, ev_bin, ev_blt, ev_lst, ev_tup, ev_ix, ev_neg, evs_cons, evs_nil, ev_var, ev_cst, List.getElem?_cons_zero, List.getElem?_cons_succ, r_bind, c1, Option.map_some, res_some, mkO_false, Int.reduceNeg, k, e2, e3, int_bl]
    cases s.all fun q => decide (q = 0) <;> rfl
/-- s6: the law's own middle -/
theorem k68_own {S : Ob} {m : Nat} {s : List Rat} (hs : StpOk m s) (v0 v1 v2 v3 v4 v5 v6 v7 v8 v9 v10 v11 v12 v13 v14 v15 v16 v17 v18 v19 v20 : Option D) :
    evE (PU L68) cf (.blt false .tuple [.lc false (.nm 16) .val [.var 12] [.cmp .eq (.lc false (.nm 14) .val [.var 12] [.cmp .ne (.call 141 [.var 5, .var 16, .var 14] []) (.call 141 [.var 5, .var 14, .var 16] [])] (.cst (.int (1))) [14]) (.lst false [])] (.var 16) [16]]) [v0, v1, v2, v3, v4, some (stp s), v6, v7, v8, v9, v10, v11, some (.lst (LTs (2 ^ m))), v13, v14, v15, v16, v17, v18, v19, v20] S = .ok (.tup ((midL (2 ^ m) s).map LT)) S := by
  have hp : 2 ^ m ≤ 2 ^ 4 := Nat.pow_le_pow_right (by decide) hs.2.1
  have inner : ∀ i < 2 ^ m, evC (PU L68) cf [.cmp .eq (.lc false (.nm 14) .val [.var 12] [.cmp .ne (.call 141 [.var 5, .var 16, .var 14] []) (.call 141 [.var 5, .var 14, .var 16] [])] (.cst (.int (1))) [14]) (.lst false [])] [v0, v1, v2, v3, v4, some (stp s), v6, v7, v8, v9, v10, v11, some (.lst (LTs (2 ^ m))), v13, v14, v15, some (LT i), v17, v18, v19, v20] S = .ok ((List.range (2 ^ m)).all fun j => decide (wt s i j = wt s j i)) S := by
    intro i hi
    have k := ev_lcF (P := PU L68) (cf := cf) (tg := .nm 14) (w := .val) (it := [.var 12]) (ifs := [.cmp .ne (.call 141 [.var 5, .var 16, .var 14] []) (.call 141 [.var 5, .var 14, .var 16] [])]) (e := .cst (.int 1)) (own := [14]) (ρ := [v0, v1, v2, v3, v4, some (stp s), v6, v7, v8, v9, v10, v11, some (.lst (LTs (2 ^ m))), v13, v14, v15, some (LT i), v17, v18, v19, v20]) (S := S) (xs := [.lst (LTs (2 ^ m))])
      LT (fun j => !decide (wt s i j = wt s j i)) (fun _ => D.int 1) (ys := List.range (2 ^ m)) (by simp only [ev_var, ev_cst, ev_glb, ev_tup, ev_lst, ev_dic, ev_bin, ev_cmp, ev_chn, ev_neg, ev_not, ev_and, ev_or, ev_ite, ev_ix, ev_slc, ev_call, ev_blt, ev_mth, evs_nil, evs_cons, evo_none, evo_some, evc_nil, evc_cons, st_set, st_asg, st_seti, st_aug, st_expr, st_ret, st_retN, st_ite, st_brk, st_cont, st_pass, sts_nil, sts_cons, finS_nx, finS_rt, tg_nm, tg_tup, tg_lst, tgs_nil, tgs_cons, wipeE, itOf, itD, rd, res_some, mkO_false, mkO_lst, mkO_dct, bltD, toInt?, ckI, List.getElem?_cons_zero, List.getElem?_cons_succ, List.set_cons_zero, List.set_cons_succ, r_bind, r_bindN, r_st, seq_nx, seq_rt, seq_bk, seq_ct, List.length_cons, List.length_nil, if_true, if_false, ite_true, ite_false, reduceIte, Bool.false_eq_true, Option.map_some, Option.bind_some]) rfl rfl (fun j hj => ⟨[v0, v1, v2, v3, v4, some (stp s), v6, v7, v8, v9, v10, v11, some (.lst (LTs (2 ^ m))), v13, some (LT j), v15, some (LT i), v17, v18, v19, v20], by simp only [ev_var, ev_cst, ev_glb, ev_tup, ev_lst, ev_dic, ev_bin, ev_cmp, ev_chn, ev_neg, ev_not, ev_and, ev_or, ev_ite, ev_ix, ev_slc, ev_call, ev_blt, ev_mth, evs_nil, evs_cons, evo_none, evo_some, evc_nil, evc_cons, st_set, st_asg, st_seti, st_aug, st_expr, st_ret, st_retN, st_ite, st_brk, st_cont, st_pass, sts_nil, sts_cons, finS_nx, finS_rt, tg_nm, tg_tup, tg_lst, tgs_nil, tgs_cons, wipeE, itOf, itD, rd, res_some, mkO_false, mkO_lst, mkO_dct, bltD, toInt?, ckI, List.getElem?_cons_zero, List.getElem?_cons_succ, List.set_cons_zero, List.set_cons_succ, r_bind, r_bindN, r_st, seq_nx, seq_rt, seq_bk, seq_ct, List.length_cons, List.length_nil, if_true, if_false, ite_true, ite_false, reduceIte, Bool.false_eq_true, Option.map_some, Option.bind_some], by
        have hj := List.mem_range.mp hj
        simp only [ev_var, ev_cst, ev_glb, ev_tup, ev_lst, ev_dic, ev_bin, ev_cmp, ev_chn, ev_neg, ev_not, ev_and, ev_or, ev_ite, ev_ix, ev_slc, ev_call, ev_blt, ev_mth, evs_nil, evs_cons, evo_none, evo_some, evc_nil, evc_cons, st_set, st_asg, st_seti, st_aug, st_expr, st_ret, st_retN, st_ite, st_brk, st_cont, st_pass, sts_nil, sts_cons, finS_nx, finS_rt, tg_nm, tg_tup, tg_lst, tgs_nil, tgs_cons, wipeE, itOf, itD, rd, res_some, mkO_false, mkO_lst, mkO_dct, bltD, toInt?, ckI, List.getElem?_cons_zero, List.getElem?_cons_succ, List.set_cons_zero, List.set_cons_succ, r_bind, r_bindN, r_st, seq_nx, seq_rt, seq_bk, seq_ct, List.length_cons, List.length_nil, if_true, if_false, ite_true, ite_false, reduceIte, Bool.false_eq_true, Option.map_some, Option.bind_some, law_by_ok L68 49 hs hi hj S, law_by_ok L68 49 hs hj hi S, ne_nm]
        cases decide (wt s i j = wt s j i) <;> rfl, fun _ => by simp only [ev_var, ev_cst, ev_glb, ev_tup, ev_lst, ev_dic, ev_bin, ev_cmp, ev_chn, ev_neg, ev_not, ev_and, ev_or, ev_ite, ev_ix, ev_slc, ev_call, ev_blt, ev_mth, evs_nil, evs_cons, evo_none, evo_some, evc_nil, evc_cons, st_set, st_asg, st_seti, st_aug, st_expr, st_ret, st_retN, st_ite, st_brk, st_cont, st_pass, sts_nil, sts_cons, finS_nx, finS_rt, tg_nm, tg_tup, tg_lst, tgs_nil, tgs_cons, wipeE, itOf, itD, rd, res_some, mkO_false, mkO_lst, mkO_dct, bltD, toInt?, ckI, List.getElem?_cons_zero, List.getElem?_cons_succ, List.set_cons_zero, List.set_cons_succ, r_bind, r_bindN, r_st, seq_nx, seq_rt, seq_bk, seq_ct, List.length_cons, List.length_nil, if_true, if_false, ite_true, ite_false, reduceIte, Bool.false_eq_true, Option.map_some, Option.bind_some]⟩) (by rw [List.length_range, lim_eq]; omega)
    simp only [evc_cons, evc_nil, ev_cmp, ev_lst, evs_nil, k, r_bind, mkO_false, eq_nil, Option.map_some, res_some]
    have : decide ((List.range (2 ^ m)).filter (fun j => !decide (wt s i j = wt s j i)) = []) = (List.range (2 ^ m)).all fun j => decide (wt s i j = wt s j i) := by
      rw [Bool.eq_iff_iff, decide_eq_true_eq, List.filter_eq_nil_iff, List.all_eq_true]
      simp
    rw [this]
    cases (List.range (2 ^ m)).all fun j => decide (wt s i j = wt s j i) <;> rfl
  have k := ev_lcF (P := PU L68) (cf := cf) (tg := .nm 16) (w := .val) (it := [.var 12]) (ifs := [.cmp .eq (.lc false (.nm 14) .val [.var 12] [.cmp .ne (.call 141 [.var 5, .var 16, .var 14] []) (.call 141 [.var 5, .var 14, .var 16] [])] (.cst (.int (1))) [14]) (.lst false [])]) (e := .var 16) (own := [16])
    (ρ := [v0, v1, v2, v3, v4, some (stp s), v6, v7, v8, v9, v10, v11, some (.lst (LTs (2 ^ m))), v13, v14, v15, v16, v17, v18, v19, v20]) (S := S) (xs := [.lst (LTs (2 ^ m))]) LT (fun i => (List.range (2 ^ m)).all fun j => decide (wt s i j = wt s j i)) LT (ys := List.range (2 ^ m)) (by simp only [ev_var, ev_cst, ev_glb, ev_tup, ev_lst, ev_dic, ev_bin, ev_cmp, ev_chn, ev_neg, ev_not, ev_and, ev_or, ev_ite, ev_ix, ev_slc, ev_call, ev_blt, ev_mth, evs_nil, evs_cons, evo_none, evo_some, evc_nil, evc_cons, st_set, st_asg, st_seti, st_aug, st_expr, st_ret, st_retN, st_ite, st_brk, st_cont, st_pass, sts_nil, sts_cons, finS_nx, finS_rt, tg_nm, tg_tup, tg_lst, tgs_nil, tgs_cons, wipeE, itOf, itD, rd, res_some, mkO_false, mkO_lst, mkO_dct, bltD, toInt?, ckI, List.getElem?_cons_zero, List.getElem?_cons_succ, List.set_cons_zero, List.set_cons_succ, r_bind, r_bindN, r_st, seq_nx, seq_rt, seq_bk, seq_ct, List.length_cons, List.length_nil, if_true, if_false, ite_true, ite_false, reduceIte, Bool.false_eq_true, Option.map_some, Option.bind_some]) rfl rfl
    (fun i hi => ⟨[v0, v1, v2, v3, v4, some (stp s), v6, v7, v8, v9, v10, v11, some (.lst (LTs (2 ^ m))), v13, v14, v15, some (LT i), v17, v18, v19, v20], by simp only [ev_var, ev_cst, ev_glb, ev_tup, ev_lst, ev_dic, ev_bin, ev_cmp, ev_chn, ev_neg, ev_not, ev_and, ev_or, ev_ite, ev_ix, ev_slc, ev_call, ev_blt, ev_mth, evs_nil, evs_cons, evo_none, evo_some, evc_nil, evc_cons, st_set, st_asg, st_seti, st_aug, st_expr, st_ret, st_retN, st_ite, st_brk, st_cont, st_pass, sts_nil, sts_cons, finS_nx, finS_rt, tg_nm, tg_tup, tg_lst, tgs_nil, tgs_cons, wipeE, itOf, itD, rd, res_some, mkO_false, mkO_lst, mkO_dct, bltD, toInt?, ckI, List.getElem?_cons_zero, List.getElem?_cons_succ, List.set_cons_zero, List.set_cons_succ, r_bind, r_bindN, r_st, seq_nx, seq_rt, seq_bk, seq_ct, List.length_cons, List.length_nil, if_true, if_false, ite_true, ite_false, reduceIte, Bool.false_eq_true, Option.map_some, Option.bind_some], inner i (List.mem_range.mp hi), fun _ => by simp only [ev_var, ev_cst, ev_glb, ev_tup, ev_lst, ev_dic, ev_bin, ev_cmp, ev_chn, ev_neg, ev_not, ev_and, ev_or, ev_ite, ev_ix, ev_slc, ev_call, ev_blt, ev_mth, evs_nil, evs_cons, evo_none, evo_some, evc_nil, evc_cons, st_set, st_asg, st_seti, st_aug, st_expr, st_ret, st_retN, st_ite, st_brk, st_cont, st_pass, sts_nil, sts_cons, finS_nx, finS_rt, tg_nm, tg_tup, tg_lst, tgs_nil, tgs_cons, wipeE, itOf, itD, rd, res_some, mkO_false, mkO_lst, mkO_dct, bltD, toInt?, ckI, List.getElem?_cons_zero, List.getElem?_cons_succ, List.set_cons_zero, List.set_cons_succ, r_bind, r_bindN, r_st, seq_nx, seq_rt, seq_bk, seq_ct, List.length_cons, List.length_nil, if_true, if_false, ite_true, ite_false, reduceIte, Bool.false_eq_true, Option.map_some, Option.bind_some]⟩) (by rw [List.length_range, lim_eq]; omega)
  simp only [ev_blt, evs_cons, evs_nil, k, r_bind, tuple_lst, res_some, mkO_false]
  rfl
theorem midL_lt {m : Nat} (hm : m ≤ 4) {s : List Rat} {k : Nat} (h : k ∈ midL (2 ^ m) s) : k < 2 ^ m := List.mem_range.mp (List.mem_filter.mp h).1
theorem midL_nd (N : Nat) (s : List Rat) : (midL N s).Nodup := List.Nodup.sublist List.filter_sublist List.nodup_range
theorem midL_len {m : Nat} (hm : m ≤ 4) (s : List Rat) : (midL (2 ^ m) s).length ≤ 16 := by
  have hp : 2 ^ m ≤ 2 ^ 4 := Nat.pow_le_pow_right (by decide) hm
  have := List.length_filter_le (fun i => (List.range (2 ^ m)).all fun j => decide (wt s i j = wt s j i)) (List.range (2 ^ m))
  rw [List.length_range] at this
  exact Nat.le_trans this hp
/-- coded pairs -/
theorem F2.pairs {ks : List Nat} {es : List D} (h : F2 (fun x d => ∃ q, d = .tup [x, nm q] ∧ Fr 6 18 q) (ks.map LT) es) : ∃ l : List (Nat × Rat), es = l.map (fun p => D.tup [LT p.1, nm p.2]) ∧ l.map (·.1) = ks ∧ ∀ p ∈ l, Fr 6 18 p.2 := by
  induction ks generalizing es with
  | nil => cases h; exact ⟨[], rfl, rfl, fun _ h => nomatch h⟩
  | cons k ks ih =>
    rw [List.map_cons] at h
    cases h with
    | cons r t =>
      obtain ⟨q, rfl, hq⟩ := r
      obtain ⟨l, e1, e2, e3⟩ := ih t
      exact ⟨(k, q) :: l, by rw [e1]; rfl, by rw [List.map_cons, e2], fun p hp => by
        rcases List.mem_cons.mp hp with rfl | hp
        · exact hq
        · exact e3 p hp⟩
/-- s8: numbers at the middle -/
theorem k68_line {b : Nat} {S : Ob} (h : WS b [] S) (hb : b + 100 < 2 ^ 40) {m : Nat} {s : List Rat} (hs : StpOk m s) (v0 v1 v2 v3 v4 v5 v6 v7 v8 v9 v10 v11 v12 v13 v14 v15 v16 v17 v18 v19 v20 : Option D) :
    (evE (PU L68) cf (.call 119 [.var 4, .lc false (.nm 17) .val [.var 13] [] (.tup [.var 17, .call 381 [.var 1, .cst (.int (3))] []]) [17]] []) [v0, some (.ref 1), v2, v3, some (.int (m : Int)), v5, v6, v7, v8, v9, v10, v11, v12, some (.tup ((midL (2 ^ m) s).map LT)), v14, v15, v16, v17, v18, v19, v20] S).To
      fun d S' => (∃ l, d = stp l ∧ l.length = 2 ^ m ∧ FrL 6 18 l ∧ ∀ i < 2 ^ m, i ∉ midL (2 ^ m) s → l.getD i 0 = 0) ∧ WS (b + 32) [] S' := by
  have ml := midL_len hs.2.1 s
  rw [ev_call, evs_cons]
  simp only [ev_var, List.getElem?_cons_zero, List.getElem?_cons_succ, r_bind, evs_cons, evs_nil]
  refine Res.To.bind (Res.To.bind (Res.To.bind ((ev_lcT (I := fun k S => WS (b + 2 * k) [] S) (R := fun x d => ∃ q, d = .tup [x, nm q] ∧ Fr 6 18 q) (n := 0) (xs := [.tup ((midL (2 ^ m) s).map LT)]) (ys := (midL (2 ^ m) s).map LT) ?_ rfl rfl ?_ ?_ h).mono ?_)))
  · simp only [ev_var, ev_cst, ev_glb, ev_tup, ev_lst, ev_dic, ev_bin, ev_cmp, ev_chn, ev_neg, ev_not, ev_and, ev_or, ev_ite, ev_ix, ev_slc, ev_call, ev_blt, ev_mth, evs_nil, evs_cons, evo_none, evo_some, evc_nil, evc_cons, st_set, st_asg, st_seti, st_aug, st_expr, st_ret, st_retN, st_ite, st_brk, st_cont, st_pass, sts_nil, sts_cons, finS_nx, finS_rt, tg_nm, tg_tup, tg_lst, tgs_nil, tgs_cons, wipeE, itOf, itD, rd, res_some, mkO_false, mkO_lst, mkO_dct, bltD, toInt?, ckI, List.getElem?_cons_zero, List.getElem?_cons_succ, List.set_cons_zero, List.set_cons_succ, r_bind, r_bindN, r_st, seq_nx, seq_rt, seq_bk, seq_ct, List.length_cons, List.length_nil, if_true, if_false, ite_true, ite_false, reduceIte, Bool.false_eq_true, Option.map_some, Option.bind_some]
  · intro y hy
    refine ⟨[v0, some (.ref 1), v2, v3, some (.int (m : Int)), v5, v6, v7, v8, v9, v10, v11, v12, some (.tup ((midL (2 ^ m) s).map LT)), v14, v15, v16, some y, v18, v19, v20], by simp only [ev_var, ev_cst, ev_glb, ev_tup, ev_lst, ev_dic, ev_bin, ev_cmp, ev_chn, ev_neg, ev_not, ev_and, ev_or, ev_ite, ev_ix, ev_slc, ev_call, ev_blt, ev_mth, evs_nil, evs_cons, evo_none, evo_some, evc_nil, evc_cons, st_set, st_asg, st_seti, st_aug, st_expr, st_ret, st_retN, st_ite, st_brk, st_cont, st_pass, sts_nil, sts_cons, finS_nx, finS_rt, tg_nm, tg_tup, tg_lst, tgs_nil, tgs_cons, wipeE, itOf, itD, rd, res_some, mkO_false, mkO_lst, mkO_dct, bltD, toInt?, ckI, List.getElem?_cons_zero, List.getElem?_cons_succ, List.set_cons_zero, List.set_cons_succ, r_bind, r_bindN, r_st, seq_nx, seq_rt, seq_bk, seq_ct, List.length_cons, List.length_nil, if_true, if_false, ite_true, ite_false, reduceIte, Bool.false_eq_true, Option.map_some, Option.bind_some], fun k S1 hk i => ⟨by simp only [ev_var, ev_cst, ev_glb, ev_tup, ev_lst, ev_dic, ev_bin, ev_cmp, ev_chn, ev_neg, ev_not, ev_and, ev_or, ev_ite, ev_ix, ev_slc, ev_call, ev_blt, ev_mth, evs_nil, evs_cons, evo_none, evo_some, evc_nil, evc_cons, st_set, st_asg, st_seti, st_aug, st_expr, st_ret, st_retN, st_ite, st_brk, st_cont, st_pass, sts_nil, sts_cons, finS_nx, finS_rt, tg_nm, tg_tup, tg_lst, tgs_nil, tgs_cons, wipeE, itOf, itD, rd, res_some, mkO_false, mkO_lst, mkO_dct, bltD, toInt?, ckI, List.getElem?_cons_zero, List.getElem?_cons_succ, List.set_cons_zero, List.set_cons_succ, r_bind, r_bindN, r_st, seq_nx, seq_rt, seq_bk, seq_ct, List.length_cons, List.length_nil, if_true, if_false, ite_true, ite_false, reduceIte, Bool.false_eq_true, Option.map_some, Option.bind_some], ?_⟩⟩
    rw [List.length_map] at hk
    obtain ⟨d3, S3, e3, ⟨x, rfl, hx⟩, w3⟩ := (law_some_number_ok L68 55 i (by omega) (wide := 3) (by decide)).eq
    have e3' : callN (PU L68) 59 381 [.ref 1, .int 3] [] S1 = .ok (nm x) S3 := e3
    simp only [ev_var, ev_cst, ev_glb, ev_tup, ev_lst, ev_dic, ev_bin, ev_cmp, ev_chn, ev_neg, ev_not, ev_and, ev_or, ev_ite, ev_ix, ev_slc, ev_call, ev_blt, ev_mth, evs_nil, evs_cons, evo_none, evo_some, evc_nil, evc_cons, st_set, st_asg, st_seti, st_aug, st_expr, st_ret, st_retN, st_ite, st_brk, st_cont, st_pass, sts_nil, sts_cons, finS_nx, finS_rt, tg_nm, tg_tup, tg_lst, tgs_nil, tgs_cons, wipeE, itOf, itD, rd, res_some, mkO_false, mkO_lst, mkO_dct, bltD, toInt?, ckI, List.getElem?_cons_zero, List.getElem?_cons_succ, List.set_cons_zero, List.set_cons_succ, r_bind, r_bindN, r_st, seq_nx, seq_rt, seq_bk, seq_ct, List.length_cons, List.length_nil, if_true, if_false, ite_true, ite_false, reduceIte, Bool.false_eq_true, Option.map_some, Option.bind_some, e3']
    exact ⟨⟨x, rfl, hx⟩, w3.mono (by omega)⟩
  · rw [List.length_map, lim_eq]; omega
  · rintro d S' ⟨es, rfl, f2, w⟩
    obtain ⟨l, rfl, e2, e3⟩ := F2.pairs f2
    rw [List.length_map] at w
    have hlen : l.length = (midL (2 ^ m) s).length := by rw [← e2, List.length_map]
    have := law_at_lots_ok L68 57 hs.2.1 (l := l) (fun p hp => by
      have : p.1 ∈ midL (2 ^ m) s := by rw [← e2]; exact List.mem_map.mpr ⟨p, hp, rfl⟩
      exact lot_lt hs.2.1 (midL_lt hs.2.1 this)) (by rw [e2]; exact midL_nd _ _) (by rw [lim_eq]; omega) S'
    have this' : callN (PU L68) 59 119 [.int (m : Int), .lst (l.map fun p => D.tup [LT p.1, nm p.2])] [] S' = .ok (stp (atL m l)) S' := this
    simp only [to_okE, this']
    exact ⟨⟨_, rfl, atL_len _ _, atL_fr e3, fun i hi hn => atL_off hi (by rw [e2]; exact hn)⟩, w.mono (by omega)⟩
/-- s12: exchanged with the ones -/
theorem k68_swaps {S : Ob} {m : Nat} {s d : List Rat} (hs : StpOk m s) (hd : LnOk m d) (v0 v1 v2 v3 v4 v5 v6 v7 v8 v9 v10 v11 v12 v13 v14 v15 v16 v17 v18 v19 v20 : Option D) :
    evE (PU L68) cf (.lc false (.nm 16) .val [.call 302 [.var 4] []] [] (.call 540 [.var 5, .var 9, .tup [.cst (.str [116, 97, 98, 108, 101]), .var 16]] []) [16]) [v0, v1, v2, v3, some (.int (m : Int)), some (stp s), v6, v7, v8, some (tb d), v10, v11, v12, v13, v14, v15, v16, v17, v18, v19, v20] S = .ok (.lst ((List.range (2 ^ m)).map fun j => tb (exL (2 ^ m) s d (oneL m j)))) S := by
  have hp : 2 ^ m ≤ 2 ^ 4 := Nat.pow_le_pow_right (by decide) hs.2.1
  have e1 := law_ones_ok L68 57 hs.2.1 S
  exact ev_lcM (xs := [.lst ((List.range (2 ^ m)).map fun j => stp (oneL m j))]) (fun j => stp (oneL m j)) (fun j => tb (exL (2 ^ m) s d (oneL m j))) (ys := List.range (2 ^ m)) (by simp only [ev_var, ev_cst, ev_glb, ev_tup, ev_lst, ev_dic, ev_bin, ev_cmp, ev_chn, ev_neg, ev_not, ev_and, ev_or, ev_ite, ev_ix, ev_slc, ev_call, ev_blt, ev_mth, evs_nil, evs_cons, evo_none, evo_some, evc_nil, evc_cons, st_set, st_asg, st_seti, st_aug, st_expr, st_ret, st_retN, st_ite, st_brk, st_cont, st_pass, sts_nil, sts_cons, finS_nx, finS_rt, tg_nm, tg_tup, tg_lst, tgs_nil, tgs_cons, wipeE, itOf, itD, rd, res_some, mkO_false, mkO_lst, mkO_dct, bltD, toInt?, ckI, List.getElem?_cons_zero, List.getElem?_cons_succ, List.set_cons_zero, List.set_cons_succ, r_bind, r_bindN, r_st, seq_nx, seq_rt, seq_bk, seq_ct, List.length_cons, List.length_nil, if_true, if_false, ite_true, ite_false, reduceIte, Bool.false_eq_true, Option.map_some, Option.bind_some, e1]) rfl rfl (fun j hj => ⟨[v0, v1, v2, v3, some (.int (m : Int)), some (stp s), v6, v7, v8, some (tb d), v10, v11, v12, v13, v14, v15, some (stp (oneL m j)), v17, v18, v19, v20], by simp only [ev_var, ev_cst, ev_glb, ev_tup, ev_lst, ev_dic, ev_bin, ev_cmp, ev_chn, ev_neg, ev_not, ev_and, ev_or, ev_ite, ev_ix, ev_slc, ev_call, ev_blt, ev_mth, evs_nil, evs_cons, evo_none, evo_some, evc_nil, evc_cons, st_set, st_asg, st_seti, st_aug, st_expr, st_ret, st_retN, st_ite, st_brk, st_cont, st_pass, sts_nil, sts_cons, finS_nx, finS_rt, tg_nm, tg_tup, tg_lst, tgs_nil, tgs_cons, wipeE, itOf, itD, rd, res_some, mkO_false, mkO_lst, mkO_dct, bltD, toInt?, ckI, List.getElem?_cons_zero, List.getElem?_cons_succ, List.set_cons_zero, List.set_cons_succ, r_bind, r_bindN, r_st, seq_nx, seq_rt, seq_bk, seq_ct, List.length_cons, List.length_nil, if_true, if_false, ite_true, ite_false, reduceIte, Bool.false_eq_true, Option.map_some, Option.bind_some], by simp only [ev_var, ev_cst, ev_glb, ev_tup, ev_lst, ev_dic, ev_bin, ev_cmp, ev_chn, ev_neg, ev_not, ev_and, ev_or, ev_ite, ev_ix, ev_slc, ev_call, ev_blt, ev_mth, evs_nil, evs_cons, evo_none, evo_some, evc_nil, evc_cons, st_set, st_asg, st_seti, st_aug, st_expr, st_ret, st_retN, st_ite, st_brk, st_cont, st_pass, sts_nil, sts_cons, finS_nx, finS_rt, tg_nm, tg_tup, tg_lst, tgs_nil, tgs_cons, wipeE, itOf, itD, rd, res_some, mkO_false, mkO_lst, mkO_dct, bltD, toInt?, ckI, List.getElem?_cons_zero, List.getElem?_cons_succ, List.set_cons_zero, List.set_cons_succ, r_bind, r_bindN, r_st, seq_nx, seq_rt, seq_bk, seq_ct, List.length_cons, List.length_nil, if_true, if_false, ite_true, ite_false, reduceIte, Bool.false_eq_true, Option.map_some, Option.bind_some], by
    have e2 := exchange_ok L68 51 hs hd.fr (one_fr m j) hd.1 (oneL_len m j) sm_a sm_b S
    have e2' : callN (PU L68) 59 540 [stp s, tb d, .tup [kTable, stp (oneL m j)]] [] S = .ok (tb (exL (2 ^ m) s d (oneL m j))) S := e2
    simp only [ev_var, ev_cst, ev_glb, ev_tup, ev_lst, ev_dic, ev_bin, ev_cmp, ev_chn, ev_neg, ev_not, ev_and, ev_or, ev_ite, ev_ix, ev_slc, ev_call, ev_blt, ev_mth, evs_nil, evs_cons, evo_none, evo_some, evc_nil, evc_cons, st_set, st_asg, st_seti, st_aug, st_expr, st_ret, st_retN, st_ite, st_brk, st_cont, st_pass, sts_nil, sts_cons, finS_nx, finS_rt, tg_nm, tg_tup, tg_lst, tgs_nil, tgs_cons, wipeE, itOf, itD, rd, res_some, mkO_false, mkO_lst, mkO_dct, bltD, toInt?, ckI, List.getElem?_cons_zero, List.getElem?_cons_succ, List.set_cons_zero, List.set_cons_succ, r_bind, r_bindN, r_st, seq_nx, seq_rt, seq_bk, seq_ct, List.length_cons, List.length_nil, if_true, if_false, ite_true, ite_false, reduceIte, Bool.false_eq_true, Option.map_some, Option.bind_some, e2']⟩) (by rw [List.length_range, lim_eq]; omega)
theorem num_ne (S : Ob) (q : Rat) : cmpD S .ne (.int q.num) (.int 0) = some (!decide (q = 0)) := by
  show some (!decide (q.num = 0)) = _
  congr 2
  rw [decide_eq_decide]
  exact Rat.num_eq_zero
theorem zip_lots (S : Ob) {N : Nat} {d : List Rat} (hd : d.length = N) : itD S .zip [.lst (LTs N), stp d] = some (((List.range N).zip d).map fun p => .tup [LT p.1, nm p.2]) := by
  show some (((LTs N).zip (nms d)).map fun p => D.tup [p.1, p.2]) = _
  have z := zipD d
  rw [hd] at z
  rw [z, List.map_map, ← List.range_eq_range']
  rfl
/-- whether all numbers stand at the middle -/
def onMid (N : Nat) (s d : List Rat) : Bool := decide (((List.range N).zip d).filter (fun p => !decide (p.2 = 0) && !decide (p.1 ∈ midL N s)) = [])
theorem k68_mid {S : Ob} {m : Nat} {s d : List Rat} (hs : StpOk m s) (hd : LnOk m d) (v0 v1 v2 v3 v4 v5 v6 v7 v8 v9 v10 v11 v12 v13 v14 v15 v16 v17 v18 v19 v20 : Option D) :
    evE (PU L68) cf (.cmp .eq (.lc false (.tp [.nm 17, .nm 18]) .zip [.var 12, .ix (.var 9) (.cst (.int (1)))] [.and (.cmp .ne (.ix (.var 18) (.cst (.int (0)))) (.cst (.int (0)))) (.cmp .notin (.var 17) (.var 13))] (.cst (.int (1))) [17, 18]) (.lst false [])) [v0, v1, v2, v3, v4, v5, v6, v7, v8, some (tb d), v10, v11, some (.lst (LTs (2 ^ m))), some (.tup ((midL (2 ^ m) s).map LT)), v14, v15, v16, v17, v18, v19, v20] S = .ok (.bl (onMid (2 ^ m) s d)) S := by
  have hp : 2 ^ m ≤ 2 ^ 4 := Nat.pow_le_pow_right (by decide) hs.2.1
  have k := ev_lcF (P := PU L68) (cf := cf) (tg := .tp [.nm 17, .nm 18]) (w := .zip) (it := [.var 12, .ix (.var 9) (.cst (.int (1)))]) (ifs := [.and (.cmp .ne (.ix (.var 18) (.cst (.int (0)))) (.cst (.int (0)))) (.cmp .notin (.var 17) (.var 13))]) (e := .cst (.int 1)) (own := [17, 18])
    (ρ := [v0, v1, v2, v3, v4, v5, v6, v7, v8, some (tb d), v10, v11, some (.lst (LTs (2 ^ m))), some (.tup ((midL (2 ^ m) s).map LT)), v14, v15, v16, v17, v18, v19, v20]) (S := S) (xs := [.lst (LTs (2 ^ m)), stp d]) (fun p : Nat × Rat => .tup [LT p.1, nm p.2]) (fun p => !decide (p.2 = 0) && !decide (p.1 ∈ midL (2 ^ m) s)) (fun _ => D.int 1) (ys := (List.range (2 ^ m)).zip d)
    (by simp only [ev_var, ev_cst, ev_glb, ev_tup, ev_lst, ev_dic, ev_bin, ev_cmp, ev_chn, ev_neg, ev_not, ev_and, ev_or, ev_ite, ev_ix, ev_slc, ev_call, ev_blt, ev_mth, evs_nil, evs_cons, evo_none, evo_some, evc_nil, evc_cons, st_set, st_asg, st_seti, st_aug, st_expr, st_ret, st_retN, st_ite, st_brk, st_cont, st_pass, sts_nil, sts_cons, finS_nx, finS_rt, tg_nm, tg_tup, tg_lst, tgs_nil, tgs_cons, wipeE, itOf, itD, rd, res_some, mkO_false, mkO_lst, mkO_dct, bltD, toInt?, ckI, List.getElem?_cons_zero, List.getElem?_cons_succ, List.set_cons_zero, List.set_cons_succ, r_bind, r_bindN, r_st, seq_nx, seq_rt, seq_bk, seq_ct, List.length_cons, List.length_nil, if_true, if_false, ite_true, ite_false, reduceIte, Bool.false_eq_true, Option.map_some, Option.bind_some, ix_tb1]) (zip_lots S hd.1) rfl (fun p hp' => ⟨[v0, v1, v2, v3, v4, v5, v6, v7, v8, some (tb d), v10, v11, some (.lst (LTs (2 ^ m))), some (.tup ((midL (2 ^ m) s).map LT)), v14, v15, v16, some (LT p.1), some (nm p.2), v19, v20], by simp only [ev_var, ev_cst, ev_glb, ev_tup, ev_lst, ev_dic, ev_bin, ev_cmp, ev_chn, ev_neg, ev_not, ev_and, ev_or, ev_ite, ev_ix, ev_slc, ev_call, ev_blt, ev_mth, evs_nil, evs_cons, evo_none, evo_some, evc_nil, evc_cons, st_set, st_asg, st_seti, st_aug, st_expr, st_ret, st_retN, st_ite, st_brk, st_cont, st_pass, sts_nil, sts_cons, finS_nx, finS_rt, tg_nm, tg_tup, tg_lst, tgs_nil, tgs_cons, wipeE, itOf, itD, rd, res_some, mkO_false, mkO_lst, mkO_dct, bltD, toInt?, ckI, List.getElem?_cons_zero, List.getElem?_cons_succ, List.set_cons_zero, List.set_cons_succ, r_bind, r_bindN, r_st, seq_nx, seq_rt, seq_bk, seq_ct, List.length_cons, List.length_nil, if_true, if_false, ite_true, ite_false, reduceIte, Bool.false_eq_true, Option.map_some, Option.bind_some], by
      have h1 := List.mem_range.mp (List.of_mem_zip hp').1
      have e1 := num_ne S p.2
      have e2 := notin_LTs S (lot_lt hs.2.1 h1) (l := midL (2 ^ m) s) (fun x hx => lot_lt hs.2.1 (midL_lt hs.2.1 hx))
      simp only [ev_var, ev_cst, ev_glb, ev_tup, ev_lst, ev_dic, ev_bin, ev_cmp, ev_chn, ev_neg, ev_not, ev_and, ev_or, ev_ite, ev_ix, ev_slc, ev_call, ev_blt, ev_mth, evs_nil, evs_cons, evo_none, evo_some, evc_nil, evc_cons, st_set, st_asg, st_seti, st_aug, st_expr, st_ret, st_retN, st_ite, st_brk, st_cont, st_pass, sts_nil, sts_cons, finS_nx, finS_rt, tg_nm, tg_tup, tg_lst, tgs_nil, tgs_cons, wipeE, itOf, itD, rd, res_some, mkO_false, mkO_lst, mkO_dct, bltD, toInt?, ckI, List.getElem?_cons_zero, List.getElem?_cons_succ, List.set_cons_zero, List.set_cons_succ, r_bind, r_bindN, r_st, seq_nx, seq_rt, seq_bk, seq_ct, List.length_cons, List.length_nil, if_true, if_false, ite_true, ite_false, reduceIte, Bool.false_eq_true, Option.map_some, Option.bind_some, ix0, e1, e2]
      cases decide (p.2 = 0) <;> cases decide (p.1 ∈ midL (2 ^ m) s) <;> rfl, fun _ => by simp only [ev_var, ev_cst, ev_glb, ev_tup, ev_lst, ev_dic, ev_bin, ev_cmp, ev_chn, ev_neg, ev_not, ev_and, ev_or, ev_ite, ev_ix, ev_slc, ev_call, ev_blt, ev_mth, evs_nil, evs_cons, evo_none, evo_some, evc_nil, evc_cons, st_set, st_asg, st_seti, st_aug, st_expr, st_ret, st_retN, st_ite, st_brk, st_cont, st_pass, sts_nil, sts_cons, finS_nx, finS_rt, tg_nm, tg_tup, tg_lst, tgs_nil, tgs_cons, wipeE, itOf, itD, rd, res_some, mkO_false, mkO_lst, mkO_dct, bltD, toInt?, ckI, List.getElem?_cons_zero, List.getElem?_cons_succ, List.set_cons_zero, List.set_cons_succ, r_bind, r_bindN, r_st, seq_nx, seq_rt, seq_bk, seq_ct, List.length_cons, List.length_nil, if_true, if_false, ite_true, ite_false, reduceIte, Bool.false_eq_true, Option.map_some, Option.bind_some]⟩) (by rw [List.length_zip, List.length_range, lim_eq]; omega)
  simp only [ev_cmp, ev_lst, evs_nil, k, r_bind, mkO_false, eq_nil, Option.map_some, res_some]
  rfl
theorem onMid_iff {m : Nat} {s d : List Rat} (hd : d.length = 2 ^ m) : onMid (2 ^ m) s d = true ↔ ∀ i < 2 ^ m, d.getD i 0 ≠ 0 → i ∈ midL (2 ^ m) s := by
  unfold onMid
  rw [decide_eq_true_eq, List.filter_eq_nil_iff]
  constructor
  · intro h i hi h0
    have hmem : (i, d.getD i 0) ∈ (List.range (2 ^ m)).zip d := by
      rw [List.mem_iff_getElem?]
      refine ⟨i, ?_⟩
      rw [List.getElem?_zip_eq_some]
      refine ⟨List.getElem?_range hi, ?_⟩
      rw [List.getD_eq_getElem?_getD, List.getElem?_eq_getElem (by omega)]
      rfl
    have := h _ hmem
    by_cases c : i ∈ midL (2 ^ m) s
    · exact c
    · simp [c] at this
      exact absurd (by simpa [List.getD_eq_getElem?_getD] using this) h0
  · rintro h ⟨i, q⟩ hm
    rw [List.mem_iff_getElem?] at hm
    obtain ⟨j, hj⟩ := hm
    rw [List.getElem?_zip_eq_some] at hj
    obtain ⟨h1, h2⟩ := hj
    have hjl : j < 2 ^ m := by
      have := (List.getElem?_eq_some_iff.mp h1).1
      simpa using this
    have hij : i = j := by
      rw [List.getElem?_range hjl] at h1
      exact (Option.some.inj h1).symm
    subst hij
    have hq : d.getD i 0 = q := by rw [List.getD_eq_getElem?_getD, h2]; rfl
    by_cases c : q = 0
    · simp [c]
    · have := h i hjl (by rw [hq]; exact c)
      simp [this]
theorem mid_iff {m : Nat} {s : List Rat} {i : Nat} (hi : i < 2 ^ m) : i ∈ midL (2 ^ m) s ↔ ∀ j < 2 ^ m, wt s i j = wt s j i := by
  unfold midL
  rw [List.mem_filter, List.all_eq_true]
  constructor
  · intro h j hj
    exact of_decide_eq_true (h.2 j (List.mem_range.mpr hj))
  · intro h
    exact ⟨List.mem_range.mpr hi, fun j hj => decide_eq_true (h j (List.mem_range.mp hj))⟩
/-- s14: the law's question -/
theorem k68_ask {m : Nat} {s d : List Rat} (hd : LnOk m d) : decide ((((List.range (2 ^ m)).map fun j => exL (2 ^ m) s d (oneL m j)).filter fun x => !decide (x = zeroL (2 ^ m))) = []) = onMid (2 ^ m) s d := by
  rw [Bool.eq_iff_iff, decide_eq_true_eq, onMid_iff hd.1, List.filter_eq_nil_iff]
  constructor
  · intro h i hi h0
    rw [mid_iff hi]
    intro j hj
    by_cases c : wt s i j = wt s j i
    · exact c
    · have := h _ (List.mem_map.mpr ⟨j, List.mem_range.mpr hj, rfl⟩)
      simp only [Bool.not_eq_true', decide_eq_false_iff_not, Classical.not_not] at this
      exact absurd this (exL_one hi hj h0 c)
  · rintro h x hx
    obtain ⟨j, _, rfl⟩ := List.mem_map.mp hx
    have : exL (2 ^ m) s d (oneL m j) = zeroL (2 ^ m) := exL_zero fun i hi h0 j hj => (mid_iff hi).mp (h i hi h0) j hj
    simp [this]
theorem k68_all {S : Ob} {m : Nat} {s d : List Rat} (hm : m ≤ 4) (hd : LnOk m d) (v0 v1 v2 v3 v4 v5 v6 v7 v8 v9 v10 v11 v12 v13 v14 v15 v16 v17 v18 v19 v20 : Option D) :
    evE (PU L68) cf (.cmp .ne (.cmp .eq (.lc false (.nm 19) .val [.var 10] [.cmp .ne (.var 19) (.var 15)] (.cst (.int (1))) [19]) (.lst false [])) (.var 11)) [v0, v1, v2, v3, v4, v5, v6, v7, v8, v9, some (.lst ((List.range (2 ^ m)).map fun j => tb (exL (2 ^ m) s d (oneL m j)))), some (.bl (onMid (2 ^ m) s d)), v12, v13, v14, some (tb (zeroL (2 ^ m))), v16, v17, v18, v19, v20] S = .ok (.bl false) S := by
  have hp : 2 ^ m ≤ 2 ^ 4 := Nat.pow_le_pow_right (by decide) hm
  have k := ev_lcF (P := PU L68) (cf := cf) (tg := .nm 19) (w := .val) (it := [.var 10]) (ifs := [.cmp .ne (.var 19) (.var 15)]) (e := .cst (.int 1)) (own := [19])
    (ρ := [v0, v1, v2, v3, v4, v5, v6, v7, v8, v9, some (.lst ((List.range (2 ^ m)).map fun j => tb (exL (2 ^ m) s d (oneL m j)))), some (.bl (onMid (2 ^ m) s d)), v12, v13, v14, some (tb (zeroL (2 ^ m))), v16, v17, v18, v19, v20]) (S := S) (xs := [.lst ((List.range (2 ^ m)).map fun j => tb (exL (2 ^ m) s d (oneL m j)))]) tb (fun x => !decide (x = zeroL (2 ^ m))) (fun _ => D.int 1) (ys := (List.range (2 ^ m)).map fun j => exL (2 ^ m) s d (oneL m j))
    (by simp only [ev_var, ev_cst, ev_glb, ev_tup, ev_lst, ev_dic, ev_bin, ev_cmp, ev_chn, ev_neg, ev_not, ev_and, ev_or, ev_ite, ev_ix, ev_slc, ev_call, ev_blt, ev_mth, evs_nil, evs_cons, evo_none, evo_some, evc_nil, evc_cons, st_set, st_asg, st_seti, st_aug, st_expr, st_ret, st_retN, st_ite, st_brk, st_cont, st_pass, sts_nil, sts_cons, finS_nx, finS_rt, tg_nm, tg_tup, tg_lst, tgs_nil, tgs_cons, wipeE, itOf, itD, rd, res_some, mkO_false, mkO_lst, mkO_dct, bltD, toInt?, ckI, List.getElem?_cons_zero, List.getElem?_cons_succ, List.set_cons_zero, List.set_cons_succ, r_bind, r_bindN, r_st, seq_nx, seq_rt, seq_bk, seq_ct, List.length_cons, List.length_nil, if_true, if_false, ite_true, ite_false, reduceIte, Bool.false_eq_true, Option.map_some, Option.bind_some]) (by rw [List.map_map]; rfl) rfl (fun x hx => ⟨[v0, v1, v2, v3, v4, v5, v6, v7, v8, v9, some (.lst ((List.range (2 ^ m)).map fun j => tb (exL (2 ^ m) s d (oneL m j)))), some (.bl (onMid (2 ^ m) s d)), v12, v13, v14, some (tb (zeroL (2 ^ m))), v16, v17, v18, some (tb x), v20], by simp only [ev_var, ev_cst, ev_glb, ev_tup, ev_lst, ev_dic, ev_bin, ev_cmp, ev_chn, ev_neg, ev_not, ev_and, ev_or, ev_ite, ev_ix, ev_slc, ev_call, ev_blt, ev_mth, evs_nil, evs_cons, evo_none, evo_some, evc_nil, evc_cons, st_set, st_asg, st_seti, st_aug, st_expr, st_ret, st_retN, st_ite, st_brk, st_cont, st_pass, sts_nil, sts_cons, finS_nx, finS_rt, tg_nm, tg_tup, tg_lst, tgs_nil, tgs_cons, wipeE, itOf, itD, rd, res_some, mkO_false, mkO_lst, mkO_dct, bltD, toInt?, ckI, List.getElem?_cons_zero, List.getElem?_cons_succ, List.set_cons_zero, List.set_cons_succ, r_bind, r_bindN, r_st, seq_nx, seq_rt, seq_bk, seq_ct, List.length_cons, List.length_nil, if_true, if_false, ite_true, ite_false, reduceIte, Bool.false_eq_true, Option.map_some, Option.bind_some], by
      simp only [ev_var, ev_cst, ev_glb, ev_tup, ev_lst, ev_dic, ev_bin, ev_cmp, ev_chn, ev_neg, ev_not, ev_and, ev_or, ev_ite, ev_ix, ev_slc, ev_call, ev_blt, ev_mth, evs_nil, evs_cons, evo_none, evo_some, evc_nil, evc_cons, st_set, st_asg, st_seti, st_aug, st_expr, st_ret, st_retN, st_ite, st_brk, st_cont, st_pass, sts_nil, sts_cons, finS_nx, finS_rt, tg_nm, tg_tup, tg_lst, tgs_nil, tgs_cons, wipeE, itOf, itD, rd, res_some, mkO_false, mkO_lst, mkO_dct, bltD, toInt?, ckI, List.getElem?_cons_zero, List.getElem?_cons_succ, List.set_cons_zero, List.set_cons_succ, r_bind, r_bindN, r_st, seq_nx, seq_rt, seq_bk, seq_ct, List.length_cons, List.length_nil, if_true, if_false, ite_true, ite_false, reduceIte, Bool.false_eq_true, Option.map_some, Option.bind_some, ne_tb]
      cases decide (x = zeroL (2 ^ m)) <;> rfl, fun _ => by simp only [ev_var, ev_cst, ev_glb, ev_tup, ev_lst, ev_dic, ev_bin, ev_cmp, ev_chn, ev_neg, ev_not, ev_and, ev_or, ev_ite, ev_ix, ev_slc, ev_call, ev_blt, ev_mth, evs_nil, evs_cons, evo_none, evo_some, evc_nil, evc_cons, st_set, st_asg, st_seti, st_aug, st_expr, st_ret, st_retN, st_ite, st_brk, st_cont, st_pass, sts_nil, sts_cons, finS_nx, finS_rt, tg_nm, tg_tup, tg_lst, tgs_nil, tgs_cons, wipeE, itOf, itD, rd, res_some, mkO_false, mkO_lst, mkO_dct, bltD, toInt?, ckI, List.getElem?_cons_zero, List.getElem?_cons_succ, List.set_cons_zero, List.set_cons_succ, r_bind, r_bindN, r_st, seq_nx, seq_rt, seq_bk, seq_ct, List.length_cons, List.length_nil, if_true, if_false, ite_true, ite_false, reduceIte, Bool.false_eq_true, Option.map_some, Option.bind_some]⟩) (by rw [List.length_map, List.length_range, lim_eq]; omega)
  have q : ∀ a : Bool, cmpD S .ne (.bl a) (.bl a) = some false := fun a => by cases a <;> rfl
  simp only [ev_cmp, ev_lst, ev_var, evs_nil, List.getElem?_cons_zero, List.getElem?_cons_succ, k, r_bind, mkO_false, eq_nil, Option.map_some, res_some, k68_ask hd, q]
end QL
set_option Elab.async false
set_option linter.all false
set_option maxRecDepth 100000
set_option maxHeartbeats 4000000
set_option exponentiation.threshold 20000
/-! K68b: a turn, the law. -/
namespace QL
open PySem
abbrev lapB : List LS := [.set 4 (.call 271 [.var 1, .cst (.int (4))] []), .set 5 (.call 319 [.var 1, .lst false [.call 168 [.var 1, .var 4] [], .call 168 [.var 1, .var 4] [], .bin .mul (.tup [.tup [.cst (.int (0)), .cst (.int (1))]]) (.var 4)]] []), .asg (.tp [.nm 12, .nm 13]) (.tup [.call 266 [.var 4] [], .call 685 [.var 5] []]), .set 6 (.ite (.cmp .lt (.var 4) (.cst (.int (2)))) (.var 12) (.bin .add (.lst false [.tup []]) (.bin .mul (.lst false [.ix (.var 12) (.neg (.cst (.int (1))))]) (.blt false .int [.cmp .eq (.lc false (.nm 20) .val [.var 5] [.cmp .ne (.ix (.var 20) (.cst (.int (0)))) (.cst (.int (0)))] (.var 20) [20]) (.lst false [])])))), .ite (.not (.call 213 [.var 13, .blt false .tuple [.var 6]] [])) [.ret (.cst (.bl false))] [], .set 7 (.blt false .tuple [.lc false (.nm 16) .val [.var 12] [.cmp .eq (.lc false (.nm 14) .val [.var 12] [.cmp .ne (.call 141 [.var 5, .var 16, .var 14] []) (.call 141 [.var 5, .var 14, .var 16] [])] (.cst (.int (1))) [14]) (.lst false [])] (.var 16) [16]]), .ite (.cmp .ne (.var 7) (.var 13)) [.ret (.cst (.bl false))] [], .set 8 (.call 119 [.var 4, .lc false (.nm 17) .val [.var 13] [] (.tup [.var 17, .call 381 [.var 1, .cst (.int (3))] []]) [17]] []), .asg (.tp [.nm 14, .nm 15]) (.tup [.tup [.cst (.str [116, 97, 98, 108, 101]), .call 379 [.var 1, .var 4] []], .tup [.cst (.str [116, 97, 98, 108, 101]), .bin .mul (.tup [.tup [.cst (.int (0)), .cst (.int (1))]]) (.blt false .len [.var 12])]]), .ite (.cmp .ne (.call 540 [.var 5, .tup [.cst (.str [116, 97, 98, 108, 101]), .var 8], .var 14] []) (.var 15)) [.ret (.cst (.bl false))] [], .set 9 (.tup [.cst (.str [116, 97, 98, 108, 101]), .call 379 [.var 1, .var 4] []]), .set 10 (.lc false (.nm 16) .val [.call 302 [.var 4] []] [] (.call 540 [.var 5, .var 9, .tup [.cst (.str [116, 97, 98, 108, 101]), .var 16]] []) [16]), .set 11 (.cmp .eq (.lc false (.tp [.nm 17, .nm 18]) .zip [.var 12, .ix (.var 9) (.cst (.int (1)))] [.and (.cmp .ne (.ix (.var 18) (.cst (.int (0)))) (.cst (.int (0)))) (.cmp .notin (.var 17) (.var 13))] (.cst (.int (1))) [17, 18]) (.lst false [])), .ite (.cmp .ne (.cmp .eq (.lc false (.nm 19) .val [.var 10] [.cmp .ne (.var 19) (.var 15)] (.cst (.int (1))) [19]) (.lst false [])) (.var 11)) [.ret (.cst (.bl false))] []]
theorem k68_lap {b : Nat} {S : Ob} (h : WS b [] S) (hb : b + 300 < 2 ^ 40) (v0 v1 v2 v3 v4 v5 v6 v7 v8 v9 v10 v11 v12 v13 v14 v15 v16 v17 v18 v19 v20 : Option D) :
    (evSs (PU L68) cf lapB [v0, some (.ref 1), v2, v3, v4, v5, v6, v7, v8, v9, v10, v11, v12, v13, v14, v15, v16, v17, v18, v19, v20] S).To (fun ρ S' => (∃ tl : List (Option D), tl.length = 19 ∧ ρ = v0 :: some (.ref 1) :: tl) ∧ WS (b + 200) [] S') (fun _ _ => False) (fun _ _ => False) (fun _ _ => False) := by
  unfold lapB
  obtain ⟨d1, S1, e1, ⟨m, rfl, hm, _⟩, w1⟩ := (law_many_ok L68 55 h (by omega) 4).eq
  have e1' : callN (PU L68) 59 271 [.ref 1, .int 4] [] S = .ok (.int (m : Int)) S1 := e1
  have q1 : evE (PU L68) cf (.call 271 [.var 1, .cst (.int (4))] []) [v0, some (.ref 1), v2, v3, v4, v5, v6, v7, v8, v9, v10, v11, v12, v13, v14, v15, v16, v17, v18, v19, v20] S = .ok (.int (m : Int)) S1 := by simp only [ev_var, ev_cst, ev_glb, ev_tup, ev_lst, ev_dic, ev_bin, ev_cmp, ev_chn, ev_neg, ev_not, ev_and, ev_or, ev_ite, ev_ix, ev_slc, ev_call, ev_blt, ev_mth, evs_nil, evs_cons, evo_none, evo_some, evc_nil, evc_cons, st_set, st_asg, st_seti, st_aug, st_expr, st_ret, st_retN, st_ite, st_brk, st_cont, st_pass, sts_nil, sts_cons, finS_nx, finS_rt, tg_nm, tg_tup, tg_lst, tgs_nil, tgs_cons, wipeE, itOf, itD, rd, res_some, mkO_false, mkO_lst, mkO_dct, bltD, toInt?, ckI, List.getElem?_cons_zero, List.getElem?_cons_succ, List.set_cons_zero, List.set_cons_succ, r_bind, r_bindN, r_st, seq_nx, seq_rt, seq_bk, seq_ct, List.length_cons, List.length_nil, if_true, if_false, ite_true, ite_false, reduceIte, Bool.false_eq_true, Option.map_some, Option.bind_some, e1']
  rw [sts_cons, st_set, q1, r_st, seq_nx]; simp only [List.set_cons_zero, List.set_cons_succ]
  obtain ⟨d2, S2, e2, ⟨s, rfl, hs⟩, w2⟩ := (k68_steps w1 (by omega) hm v0 (some (.ref 1)) v2 v3 (some (.int (m : Int))) v5 v6 v7 v8 v9 v10 v11 v12 v13 v14 v15 v16 v17 v18 v19 v20).eq
  rw [sts_cons, st_set, e2, r_st, seq_nx]; simp only [List.set_cons_zero, List.set_cons_succ]
  have e3a := law_lots_ok L68 58 hm S2
  have e3b := middle_lots_ok L68 54 hs S2
  have e3a' : callN (PU L68) 59 266 [.int (m : Int)] [] S2 = .ok (.lst (LTs (2 ^ m))) S2 := e3a
  have e3b' : callN (PU L68) 59 685 [stp s] [] S2 = .ok (.tup ((midL (2 ^ m) s).map LT)) S2 := e3b
  have q3 : evE (PU L68) cf (.tup [.call 266 [.var 4] [], .call 685 [.var 5] []]) [v0, some (.ref 1), v2, v3, some (.int (m : Int)), some (stp s), v6, v7, v8, v9, v10, v11, v12, v13, v14, v15, v16, v17, v18, v19, v20] S2 = .ok (.tup [.lst (LTs (2 ^ m)), .tup ((midL (2 ^ m) s).map LT)]) S2 := by simp only [ev_var, ev_cst, ev_glb, ev_tup, ev_lst, ev_dic, ev_bin, ev_cmp, ev_chn, ev_neg, ev_not, ev_and, ev_or, ev_ite, ev_ix, ev_slc, ev_call, ev_blt, ev_mth, evs_nil, evs_cons, evo_none, evo_some, evc_nil, evc_cons, st_set, st_asg, st_seti, st_aug, st_expr, st_ret, st_retN, st_ite, st_brk, st_cont, st_pass, sts_nil, sts_cons, finS_nx, finS_rt, tg_nm, tg_tup, tg_lst, tgs_nil, tgs_cons, wipeE, itOf, itD, rd, res_some, mkO_false, mkO_lst, mkO_dct, bltD, toInt?, ckI, List.getElem?_cons_zero, List.getElem?_cons_succ, List.set_cons_zero, List.set_cons_succ, r_bind, r_bindN, r_st, seq_nx, seq_rt, seq_bk, seq_ct, List.length_cons, List.length_nil, if_true, if_false, ite_true, ite_false, reduceIte, Bool.false_eq_true, Option.map_some, Option.bind_some, e3a', e3b']
  rw [sts_cons, st_asg, q3, r_st]; simp only [tg_tup, tgs_cons, tgs_nil, tg_nm, Option.bind_some, List.set_cons_zero, List.set_cons_succ, seq_nx]
  have q4 := k68_due (S := S2) hs v0 (some (.ref 1)) v2 v3 (some (.int (m : Int))) (some (stp s)) v6 v7 v8 v9 v10 v11 (some (.lst (LTs (2 ^ m)))) (some (.tup ((midL (2 ^ m) s).map LT))) v14 v15 v16 v17 v18 v19 v20
  rw [sts_cons, st_set, q4, r_st, seq_nx]; simp only [List.set_cons_zero, List.set_cons_succ]
  have e5 := is_ans L68 55 (midL_ans hs) S2
  have e5' : callN (PU L68) 59 213 [.tup ((midL (2 ^ m) s).map LT), .tup ((midL (2 ^ m) s).map LT)] [] S2 = .ok (.bl true) S2 := e5
  have q5 : evE (PU L68) cf (.not (.call 213 [.var 13, .blt false .tuple [.var 6]] [])) [v0, some (.ref 1), v2, v3, some (.int (m : Int)), some (stp s), some (.lst ((midL (2 ^ m) s).map LT)), v7, v8, v9, v10, v11, some (.lst (LTs (2 ^ m))), some (.tup ((midL (2 ^ m) s).map LT)), v14, v15, v16, v17, v18, v19, v20] S2 = .ok (.bl false) S2 := by simp only [ev_var, ev_cst, ev_glb, ev_tup, ev_lst, ev_dic, ev_bin, ev_cmp, ev_chn, ev_neg, ev_not, ev_and, ev_or, ev_ite, ev_ix, ev_slc, ev_call, ev_blt, ev_mth, evs_nil, evs_cons, evo_none, evo_some, evc_nil, evc_cons, st_set, st_asg, st_seti, st_aug, st_expr, st_ret, st_retN, st_ite, st_brk, st_cont, st_pass, sts_nil, sts_cons, finS_nx, finS_rt, tg_nm, tg_tup, tg_lst, tgs_nil, tgs_cons, wipeE, itOf, itD, rd, res_some, mkO_false, mkO_lst, mkO_dct, toInt?, ckI, List.getElem?_cons_zero, List.getElem?_cons_succ, List.set_cons_zero, List.set_cons_succ, r_bind, r_bindN, r_st, seq_nx, seq_rt, seq_bk, seq_ct, List.length_cons, List.length_nil, if_true, if_false, ite_true, ite_false, reduceIte, Bool.false_eq_true, Option.map_some, Option.bind_some, tuple_lst, e5', Bool.not_true]
  rw [sts_cons, st_ite, q5, r_st]; simp only [sts_nil, seq_nx]
  have q6 := k68_own (S := S2) hs v0 (some (.ref 1)) v2 v3 (some (.int (m : Int))) (some (stp s)) (some (.lst ((midL (2 ^ m) s).map LT))) v7 v8 v9 v10 v11 (some (.lst (LTs (2 ^ m)))) (some (.tup ((midL (2 ^ m) s).map LT))) v14 v15 v16 v17 v18 v19 v20
  rw [sts_cons, st_set, q6, r_st, seq_nx]; simp only [List.set_cons_zero, List.set_cons_succ]
  have e7 := ne_LTs S2 (a := midL (2 ^ m) s) (b := midL (2 ^ m) s) (fun x hx => lot_lt hm (midL_lt hm hx)) (fun x hx => lot_lt hm (midL_lt hm hx))
  simp only [decide_true, Bool.not_true] at e7
  have q7 : evE (PU L68) cf (.cmp .ne (.var 7) (.var 13)) [v0, some (.ref 1), v2, v3, some (.int (m : Int)), some (stp s), some (.lst ((midL (2 ^ m) s).map LT)), some (.tup ((midL (2 ^ m) s).map LT)), v8, v9, v10, v11, some (.lst (LTs (2 ^ m))), some (.tup ((midL (2 ^ m) s).map LT)), v14, v15, v16, v17, v18, v19, v20] S2 = .ok (.bl false) S2 := by simp only [ev_var, ev_cst, ev_glb, ev_tup, ev_lst, ev_dic, ev_bin, ev_cmp, ev_chn, ev_neg, ev_not, ev_and, ev_or, ev_ite, ev_ix, ev_slc, ev_call, ev_blt, ev_mth, evs_nil, evs_cons, evo_none, evo_some, evc_nil, evc_cons, st_set, st_asg, st_seti, st_aug, st_expr, st_ret, st_retN, st_ite, st_brk, st_cont, st_pass, sts_nil, sts_cons, finS_nx, finS_rt, tg_nm, tg_tup, tg_lst, tgs_nil, tgs_cons, wipeE, itOf, itD, rd, res_some, mkO_false, mkO_lst, mkO_dct, bltD, toInt?, ckI, List.getElem?_cons_zero, List.getElem?_cons_succ, List.set_cons_zero, List.set_cons_succ, r_bind, r_bindN, r_st, seq_nx, seq_rt, seq_bk, seq_ct, List.length_cons, List.length_nil, if_true, if_false, ite_true, ite_false, reduceIte, Bool.false_eq_true, Option.map_some, Option.bind_some, e7]
  rw [sts_cons, st_ite, q7, r_st]; simp only [sts_nil, seq_nx]
  obtain ⟨d8, S8, e8, ⟨l, rfl, hll, hlf, hlo⟩, w8⟩ := (k68_line w2 (by omega) hs v0 (some (.ref 1)) v2 v3 (some (.int (m : Int))) (some (stp s)) (some (.lst ((midL (2 ^ m) s).map LT))) (some (.tup ((midL (2 ^ m) s).map LT))) v8 v9 v10 v11 (some (.lst (LTs (2 ^ m)))) (some (.tup ((midL (2 ^ m) s).map LT))) v14 v15 v16 v17 v18 v19 v20).eq
  rw [sts_cons, st_set, e8, r_st, seq_nx]; simp only [List.set_cons_zero, List.set_cons_succ]
  obtain ⟨d9, S9, e9, ⟨x, rfl, hx⟩, w9⟩ := (law_some_line_ok L68 54 w8 hm (by omega)).eq
  have e9' : callN (PU L68) 59 379 [.ref 1, .int (m : Int)] [] S8 = .ok (stp x) S9 := e9
  have hp : 2 ^ m ≤ 2 ^ 4 := Nat.pow_le_pow_right (by decide) hm
  have z9 := rep_zero S9 (k := 2 ^ m) (by omega)
  have n9 : bltD S9 .len [.lst (LTs (2 ^ m))] = some (.int ((2 ^ m : Nat) : Int)) := by
    show some (D.int ((LTs (2 ^ m)).length : Int)) = _
    unfold LTs
    rw [List.length_map, List.length_range]
  rw [zeroL_rep] at z9
  have q9 : evE (PU L68) cf (.tup [.tup [.cst (.str [116, 97, 98, 108, 101]), .call 379 [.var 1, .var 4] []], .tup [.cst (.str [116, 97, 98, 108, 101]), .bin .mul (.tup [.tup [.cst (.int (0)), .cst (.int (1))]]) (.blt false .len [.var 12])]]) [v0, some (.ref 1), v2, v3, some (.int (m : Int)), some (stp s), some (.lst ((midL (2 ^ m) s).map LT)), some (.tup ((midL (2 ^ m) s).map LT)), some (stp l), v9, v10, v11, some (.lst (LTs (2 ^ m))), some (.tup ((midL (2 ^ m) s).map LT)), v14, v15, v16, v17, v18, v19, v20] S8 = .ok (.tup [tb x, tb (zeroL (2 ^ m))]) S9 := by
    simp only [ev_var, ev_cst, ev_glb, ev_tup, ev_lst, ev_dic, ev_bin, ev_cmp, ev_chn, ev_neg, ev_not, ev_and, ev_or, ev_ite, ev_ix, ev_slc, ev_call, ev_blt, ev_mth, evs_nil, evs_cons, evo_none, evo_some, evc_nil, evc_cons, st_set, st_asg, st_seti, st_aug, st_expr, st_ret, st_retN, st_ite, st_brk, st_cont, st_pass, sts_nil, sts_cons, finS_nx, finS_rt, tg_nm, tg_tup, tg_lst, tgs_nil, tgs_cons, wipeE, itOf, itD, rd, res_some, mkO_false, mkO_lst, mkO_dct, toInt?, ckI, List.getElem?_cons_zero, List.getElem?_cons_succ, List.set_cons_zero, List.set_cons_succ, r_bind, r_bindN, r_st, seq_nx, seq_rt, seq_bk, seq_ct, List.length_cons, List.length_nil, if_true, if_false, ite_true, ite_false, reduceIte, Bool.false_eq_true, Option.map_some, Option.bind_some, e9', n9, z9]
    rfl
  rw [sts_cons, st_asg, q9, r_st]; simp only [tg_tup, tgs_cons, tgs_nil, tg_nm, Option.bind_some, List.set_cons_zero, List.set_cons_succ, seq_nx]
  have e10 := exchange_ok L68 51 hs hlf hx.fr hll hx.1 sm_a sm_b S9
  have z10 : exL (2 ^ m) s l x = zeroL (2 ^ m) := exL_zero fun i hi h0 j hj => (mid_iff hi).mp (Classical.byContradiction fun c => h0 (hlo i hi c)) j hj
  rw [z10] at e10
  have e10' : callN (PU L68) 59 540 [stp s, .tup [kTable, stp l], tb x] [] S9 = .ok (tb (zeroL (2 ^ m))) S9 := e10
  have c10 := ne_tb S9 (zeroL (2 ^ m)) (zeroL (2 ^ m))
  simp only [decide_true, Bool.not_true] at c10
  have q10 : evE (PU L68) cf (.cmp .ne (.call 540 [.var 5, .tup [.cst (.str [116, 97, 98, 108, 101]), .var 8], .var 14] []) (.var 15)) [v0, some (.ref 1), v2, v3, some (.int (m : Int)), some (stp s), some (.lst ((midL (2 ^ m) s).map LT)), some (.tup ((midL (2 ^ m) s).map LT)), some (stp l), v9, v10, v11, some (.lst (LTs (2 ^ m))), some (.tup ((midL (2 ^ m) s).map LT)), some (tb x), some (tb (zeroL (2 ^ m))), v16, v17, v18, v19, v20] S9 = .ok (.bl false) S9 := by simp only [ev_var, ev_cst, ev_glb, ev_tup, ev_lst, ev_dic, ev_bin, ev_cmp, ev_chn, ev_neg, ev_not, ev_and, ev_or, ev_ite, ev_ix, ev_slc, ev_call, ev_blt, ev_mth, evs_nil, evs_cons, evo_none, evo_some, evc_nil, evc_cons, st_set, st_asg, st_seti, st_aug, st_expr, st_ret, st_retN, st_ite, st_brk, st_cont, st_pass, sts_nil, sts_cons, finS_nx, finS_rt, tg_nm, tg_tup, tg_lst, tgs_nil, tgs_cons, wipeE, itOf, itD, rd, res_some, mkO_false, mkO_lst, mkO_dct, bltD, toInt?, ckI, List.getElem?_cons_zero, List.getElem?_cons_succ, List.set_cons_zero, List.set_cons_succ, r_bind, r_bindN, r_st, seq_nx, seq_rt, seq_bk, seq_ct, List.length_cons, List.length_nil, if_true, if_false, ite_true, ite_false, reduceIte, Bool.false_eq_true, Option.map_some, Option.bind_some, e10', c10]
  rw [sts_cons, st_ite, q10, r_st]; simp only [sts_nil, seq_nx]
  obtain ⟨d11, S11, e11, ⟨y, rfl, hy⟩, w11⟩ := (law_some_line_ok L68 54 w9 hm (by omega)).eq
  have e11' : callN (PU L68) 59 379 [.ref 1, .int (m : Int)] [] S9 = .ok (stp y) S11 := e11
  have q11 : evE (PU L68) cf (.tup [.cst (.str [116, 97, 98, 108, 101]), .call 379 [.var 1, .var 4] []]) [v0, some (.ref 1), v2, v3, some (.int (m : Int)), some (stp s), some (.lst ((midL (2 ^ m) s).map LT)), some (.tup ((midL (2 ^ m) s).map LT)), some (stp l), v9, v10, v11, some (.lst (LTs (2 ^ m))), some (.tup ((midL (2 ^ m) s).map LT)), some (tb x), some (tb (zeroL (2 ^ m))), v16, v17, v18, v19, v20] S9 = .ok (tb y) S11 := by
    simp only [ev_var, ev_cst, ev_glb, ev_tup, ev_lst, ev_dic, ev_bin, ev_cmp, ev_chn, ev_neg, ev_not, ev_and, ev_or, ev_ite, ev_ix, ev_slc, ev_call, ev_blt, ev_mth, evs_nil, evs_cons, evo_none, evo_some, evc_nil, evc_cons, st_set, st_asg, st_seti, st_aug, st_expr, st_ret, st_retN, st_ite, st_brk, st_cont, st_pass, sts_nil, sts_cons, finS_nx, finS_rt, tg_nm, tg_tup, tg_lst, tgs_nil, tgs_cons, wipeE, itOf, itD, rd, res_some, mkO_false, mkO_lst, mkO_dct, bltD, toInt?, ckI, List.getElem?_cons_zero, List.getElem?_cons_succ, List.set_cons_zero, List.set_cons_succ, r_bind, r_bindN, r_st, seq_nx, seq_rt, seq_bk, seq_ct, List.length_cons, List.length_nil, if_true, if_false, ite_true, ite_false, reduceIte, Bool.false_eq_true, Option.map_some, Option.bind_some, e11']
    rfl
  rw [sts_cons, st_set, q11, r_st, seq_nx]; simp only [List.set_cons_zero, List.set_cons_succ]
  have q12 := k68_swaps (S := S11) hs hy v0 (some (.ref 1)) v2 v3 (some (.int (m : Int))) (some (stp s)) (some (.lst ((midL (2 ^ m) s).map LT))) (some (.tup ((midL (2 ^ m) s).map LT))) (some (stp l)) (some (tb y)) v10 v11 (some (.lst (LTs (2 ^ m)))) (some (.tup ((midL (2 ^ m) s).map LT))) (some (tb x)) (some (tb (zeroL (2 ^ m)))) v16 v17 v18 v19 v20
  rw [sts_cons, st_set, q12, r_st, seq_nx]; simp only [List.set_cons_zero, List.set_cons_succ]
  have q13 := k68_mid (S := S11) hs hy v0 (some (.ref 1)) v2 v3 (some (.int (m : Int))) (some (stp s)) (some (.lst ((midL (2 ^ m) s).map LT))) (some (.tup ((midL (2 ^ m) s).map LT))) (some (stp l)) (some (tb y)) (some (.lst ((List.range (2 ^ m)).map fun j => tb (exL (2 ^ m) s y (oneL m j))))) v11 (some (.lst (LTs (2 ^ m)))) (some (.tup ((midL (2 ^ m) s).map LT))) (some (tb x)) (some (tb (zeroL (2 ^ m)))) v16 v17 v18 v19 v20
  rw [sts_cons, st_set, q13, r_st, seq_nx]; simp only [List.set_cons_zero, List.set_cons_succ]
  have q14 := k68_all (S := S11) (s := s) hm hy v0 (some (.ref 1)) v2 v3 (some (.int (m : Int))) (some (stp s)) (some (.lst ((midL (2 ^ m) s).map LT))) (some (.tup ((midL (2 ^ m) s).map LT))) (some (stp l)) (some (tb y)) (some (.lst ((List.range (2 ^ m)).map fun j => tb (exL (2 ^ m) s y (oneL m j))))) (some (.bl (onMid (2 ^ m) s y))) (some (.lst (LTs (2 ^ m)))) (some (.tup ((midL (2 ^ m) s).map LT))) (some (tb x)) (some (tb (zeroL (2 ^ m)))) v16 v17 v18 v19 v20
  rw [sts_cons, st_ite, q14, r_st]; simp only [sts_nil, seq_nx]
  exact ⟨⟨_, rfl, rfl⟩, w11.mono (by omega)⟩
theorem list19 {tl : List (Option D)} (h : tl.length = 19) : ∃ x2 x3 x4 x5 x6 x7 x8 x9 x10 x11 x12 x13 x14 x15 x16 x17 x18 x19 x20 : Option D, tl = [x2, x3, x4, x5, x6, x7, x8, x9, x10, x11, x12, x13, x14, x15, x16, x17, x18, x19, x20] := by
  rcases tl with _ | ⟨x2, _ | ⟨x3, _ | ⟨x4, _ | ⟨x5, _ | ⟨x6, _ | ⟨x7, _ | ⟨x8, _ | ⟨x9, _ | ⟨x10, _ | ⟨x11, _ | ⟨x12, _ | ⟨x13, _ | ⟨x14, _ | ⟨x15, _ | ⟨x16, _ | ⟨x17, _ | ⟨x18, _ | ⟨x19, _ | ⟨x20, _ | ⟨z, tl⟩⟩⟩⟩⟩⟩⟩⟩⟩⟩⟩⟩⟩⟩⟩⟩⟩⟩⟩⟩
  all_goals first
    | (simp only [List.length_nil, List.length_cons] at h; omega)
    | exact ⟨x2, x3, x4, x5, x6, x7, x8, x9, x10, x11, x12, x13, x14, x15, x16, x17, x18, x19, x20, rfl⟩
abbrev toldD : D := .lst [.tup ([0].map LT), .tup ([0, 1].map LT), .tup ([0].map LT), .tup ([0, 7].map LT)]
theorem k68_told {S1 : Ob} {zs : List Int} : evE (PU L68) cf (.lst false [.call 685 [.tup []] [], .call 685 [.tup [.tup [.cst (.int (2)), .cst (.int (1))]]] [], .call 685 [.bin .mul (.tup [.tup [.neg (.cst (.int (1))), .cst (.int (1))]]) (.cst (.int (2)))] [], .call 685 [.bin .mul (.tup [.tup [.cst (.int (0)), .cst (.int (1))]]) (.cst (.int (3)))] [0]]) [some (.lst (zs.map .int)), some (.ref 1), none, none, none, none, none, none, none, none, none, none, none, none, none, none, none, none, none, none, none] S1 = .ok toldD S1 := by
  have o0 : StpOk 0 ([] : List Rat) := ⟨rfl, by decide, fun q hq => nomatch hq⟩
  have a0 : callN (PU L68) 59 685 [stp []] [] S1 = .ok (.tup ((midL (2 ^ 0) []).map LT)) S1 := middle_lots_ok L68 54 o0 S1
  rw [show midL (2 ^ 0) ([] : List Rat) = [0] by decide +kernel] at a0
  have o1 : StpOk 1 ([2] : List Rat) := ⟨rfl, by decide, fun q hq => by
    simp only [List.mem_cons, List.not_mem_nil, or_false] at hq
    first
      | exact hq.elim
      | (rcases hq with rfl | rfl | rfl <;> exact fr_of 4 (by decide) (by decide +kernel) (by decide))
      | (rcases hq with rfl | rfl <;> exact fr_of 4 (by decide) (by decide +kernel) (by decide))
      | (subst hq; exact fr_of 4 (by decide) (by decide +kernel) (by decide))⟩
  have a1 : callN (PU L68) 59 685 [stp [2]] [] S1 = .ok (.tup ((midL (2 ^ 1) [2]).map LT)) S1 := middle_lots_ok L68 54 o1 S1
  rw [show midL (2 ^ 1) ([2] : List Rat) = [0, 1] by decide +kernel] at a1
  have o2 : StpOk 2 ([-1, -1] : List Rat) := ⟨rfl, by decide, fun q hq => by
    simp only [List.mem_cons, List.not_mem_nil, or_false] at hq
    first
      | exact hq.elim
      | (rcases hq with rfl | rfl | rfl <;> exact fr_of (-2) (by decide) (by decide +kernel) (by decide))
      | (rcases hq with rfl | rfl <;> exact fr_of (-2) (by decide) (by decide +kernel) (by decide))
      | (subst hq; exact fr_of (-2) (by decide) (by decide +kernel) (by decide))⟩
  have a2 : callN (PU L68) 59 685 [stp [-1, -1]] [] S1 = .ok (.tup ((midL (2 ^ 2) [-1, -1]).map LT)) S1 := middle_lots_ok L68 54 o2 S1
  rw [show midL (2 ^ 2) ([-1, -1] : List Rat) = [0] by decide +kernel] at a2
  have o3 : StpOk 3 ([0, 0, 0] : List Rat) := ⟨rfl, by decide, fun q hq => by
    simp only [List.mem_cons, List.not_mem_nil, or_false] at hq
    first
      | exact hq.elim
      | (rcases hq with rfl | rfl | rfl <;> exact fr_of 0 (by decide) (by decide +kernel) (by decide))
      | (rcases hq with rfl | rfl <;> exact fr_of 0 (by decide) (by decide +kernel) (by decide))
      | (subst hq; exact fr_of 0 (by decide) (by decide +kernel) (by decide))⟩
  have a3 : callN (PU L68) 59 685 [stp [0, 0, 0]] [] S1 = .ok (.tup ((midL (2 ^ 3) [0, 0, 0]).map LT)) S1 := middle_lots_ok L68 54 o3 S1
  rw [show midL (2 ^ 3) ([0, 0, 0] : List Rat) = [0, 7] by decide +kernel] at a3
  have r2 : binD S1 .mul (.tup [.tup [.int (-1), .int 1]]) (.int 2) = some (stp [-1, -1]) := by kernel_rfl
  have r3 : binD S1 .mul (.tup [.tup [.int 0, .int 1]]) (.int 3) = some (stp [0, 0, 0]) := by kernel_rfl
  have b0 : callN (PU L68) 59 685 [.tup []] [] S1 = .ok (.tup ([0].map LT)) S1 := a0
  have b1 : callN (PU L68) 59 685 [.tup [.tup [.int 2, .int 1]]] [] S1 = .ok (.tup ([0, 1].map LT)) S1 := a1
  have b3 : callN (PU L68) 59 685 [stp [0, 0, 0]] [0] S1 = .ok (.tup ([0, 7].map LT)) S1 := (show callN (PU L68) 59 685 [stp [0, 0, 0]] [0] S1 = callN (PU L68) 59 685 [stp [0, 0, 0]] [] S1 by kernel_rfl).trans a3
  simp only [ev_var, ev_cst, ev_glb, ev_tup, ev_lst, ev_dic, ev_bin, ev_cmp, ev_chn, ev_neg, ev_not, ev_and, ev_or, ev_ite, ev_ix, ev_slc, ev_call, ev_blt, ev_mth, evs_nil, evs_cons, evo_none, evo_some, evc_nil, evc_cons, st_set, st_asg, st_seti, st_aug, st_expr, st_ret, st_retN, st_ite, st_brk, st_cont, st_pass, sts_nil, sts_cons, finS_nx, finS_rt, tg_nm, tg_tup, tg_lst, tgs_nil, tgs_cons, wipeE, itOf, itD, rd, res_some, mkO_false, mkO_lst, mkO_dct, toInt?, ckI, List.getElem?_cons_zero, List.getElem?_cons_succ, List.set_cons_zero, List.set_cons_succ, r_bind, r_bindN, r_st, seq_nx, seq_rt, seq_bk, seq_ct, List.length_cons, List.length_nil, if_true, if_false, ite_true, ite_false, reduceIte, Bool.false_eq_true, Option.map_some, Option.bind_some, Int.reduceNeg, r2, r3, b0, b1, a2, b3]
theorem k68_toldIs {S1 : Ob} {zs : List Int} : evE (PU L68) cf (.not (.call 213 [.var 2, .lst false [.tup [.tup []], .tup [.tup [], .tup [.cst (.int (1))]], .tup [.tup []], .tup [.tup [], .tup [.cst (.int (1)), .cst (.int (2)), .cst (.int (3))]]]] [])) [some (.lst (zs.map .int)), some (.ref 1), some toldD, none, none, none, none, none, none, none, none, none, none, none, none, none, none, none, none, none, none] S1 = .ok (.bl false) S1 := by
  have e : callN (PU L68) 59 213 [toldD, toldD] [] S1 = .ok (.bl true) S1 := by kernel_rfl
  have t : D.lst [.tup [.tup []], .tup [.tup [], .tup [.int 1]], .tup [.tup []], .tup [.tup [], .tup [.int 1, .int 2, .int 3]]] = toldD := by decide +kernel
  simp only [ev_var, ev_cst, ev_glb, ev_tup, ev_lst, ev_dic, ev_bin, ev_cmp, ev_chn, ev_neg, ev_not, ev_and, ev_or, ev_ite, ev_ix, ev_slc, ev_call, ev_blt, ev_mth, evs_nil, evs_cons, evo_none, evo_some, evc_nil, evc_cons, st_set, st_asg, st_seti, st_aug, st_expr, st_ret, st_retN, st_ite, st_brk, st_cont, st_pass, sts_nil, sts_cons, finS_nx, finS_rt, tg_nm, tg_tup, tg_lst, tgs_nil, tgs_cons, wipeE, itOf, itD, rd, res_some, mkO_false, mkO_lst, mkO_dct, toInt?, ckI, List.getElem?_cons_zero, List.getElem?_cons_succ, List.set_cons_zero, List.set_cons_succ, r_bind, r_bindN, r_st, seq_nx, seq_rt, seq_bk, seq_ct, List.length_cons, List.length_nil, if_true, if_false, ite_true, ite_false, reduceIte, Bool.false_eq_true, Option.map_some, Option.bind_some, t, e, Bool.not_true]
theorem k68_law {zs : List Int} (hz : zs.length ≤ 63) : ∃ S, callN (PU L68) 60 f_law [.lst (zs.map .int)] [] [] = .ok (.bl true) S := by
  have c0 : callN (PU L68) 60 f_law [.lst (zs.map .int)] [] [] = finS false [] (evSs (PU L68) cf b_law [some (.lst (zs.map .int)), none, none, none, none, none, none, none, none, none, none, none, none, none, none, none, none, none, none, none, none] []) := by kernel_rfl
  rw [c0]
  have key : (finS false [] (evSs (PU L68) cf b_law [some (.lst (zs.map .int)), none, none, none, none, none, none, none, none, none, none, none, none, none, none, none, none, none, none, none, none] [])).To fun d _ => d = .bl true := by
    refine SR.To.fin ?_
    unfold b_law
    obtain ⟨d1, S1, e1, rfl, w1⟩ := (law_begun_ok L68 58 zs hz).eq
    have e1' : callN (PU L68) 59 126 [.lst (zs.map .int)] [] [] = .ok (.ref 1) S1 := e1
    have q1 : evE (PU L68) cf (.call 126 [.var 0] []) [some (.lst (zs.map .int)), none, none, none, none, none, none, none, none, none, none, none, none, none, none, none, none, none, none, none, none] [] = .ok (.ref 1) S1 := by simp only [ev_var, ev_cst, ev_glb, ev_tup, ev_lst, ev_dic, ev_bin, ev_cmp, ev_chn, ev_neg, ev_not, ev_and, ev_or, ev_ite, ev_ix, ev_slc, ev_call, ev_blt, ev_mth, evs_nil, evs_cons, evo_none, evo_some, evc_nil, evc_cons, st_set, st_asg, st_seti, st_aug, st_expr, st_ret, st_retN, st_ite, st_brk, st_cont, st_pass, sts_nil, sts_cons, finS_nx, finS_rt, tg_nm, tg_tup, tg_lst, tgs_nil, tgs_cons, wipeE, itOf, itD, rd, res_some, mkO_false, mkO_lst, mkO_dct, bltD, toInt?, ckI, List.getElem?_cons_zero, List.getElem?_cons_succ, List.set_cons_zero, List.set_cons_succ, r_bind, r_bindN, r_st, seq_nx, seq_rt, seq_bk, seq_ct, List.length_cons, List.length_nil, if_true, if_false, ite_true, ite_false, reduceIte, Bool.false_eq_true, Option.map_some, Option.bind_some, e1']
    rw [sts_cons, st_set, q1, r_st, seq_nx]; simp only [List.set_cons_zero, List.set_cons_succ]
    rw [sts_cons, st_set, k68_told, r_st, seq_nx]; simp only [List.set_cons_zero, List.set_cons_succ]
    rw [sts_cons, st_ite, k68_toldIs, r_st]; simp only [sts_nil, seq_nx]
    rw [sts_cons]
    refine SR.To.seq ?_
    have hn : bltD S1 .len [.lst (zs.map .int)] = some (.int ((zs.length : Nat) : Int)) := by
      show some (D.int ((zs.map D.int).length : Int)) = _
      rw [List.length_map]
    have hmin : bltD S1 .min [.int ((zs.length : Nat) : Int), .int 8] = some (.int ((min zs.length 8 : Nat) : Int)) := by
      show some (D.int (if (8 : Int) < (zs.length : Int) then _ else _)) = _
      congr 2
      split <;> omega
    have hadd : binD S1 .add (.int 6) (.int ((min zs.length 8 : Nat) : Int)) = some (.int ((6 + min zs.length 8 : Nat) : Int)) := rfl
    have h1 : evEs (PU L68) cf [.bin .add (.cst (.int (6))) (.blt false .min [.blt false .len [.var 0], .cst (.int (8))])] [some (.lst (zs.map .int)), some (.ref 1), some toldD, none, none, none, none, none, none, none, none, none, none, none, none, none, none, none, none, none, none] S1 = .ok [.int ((6 + min zs.length 8 : Nat) : Int)] S1 := by
      simp only [ev_var, ev_cst, ev_glb, ev_tup, ev_lst, ev_dic, ev_bin, ev_cmp, ev_chn, ev_neg, ev_not, ev_and, ev_or, ev_ite, ev_ix, ev_slc, ev_call, ev_blt, ev_mth, evs_nil, evs_cons, evo_none, evo_some, evc_nil, evc_cons, st_set, st_asg, st_seti, st_aug, st_expr, st_ret, st_retN, st_ite, st_brk, st_cont, st_pass, sts_nil, sts_cons, finS_nx, finS_rt, tg_nm, tg_tup, tg_lst, tgs_nil, tgs_cons, wipeE, itOf, itD, rd, res_some, mkO_false, mkO_lst, mkO_dct, toInt?, ckI, List.getElem?_cons_zero, List.getElem?_cons_succ, List.set_cons_zero, List.set_cons_succ, r_bind, r_bindN, r_st, seq_nx, seq_rt, seq_bk, seq_ct, List.length_cons, List.length_nil, if_true, if_false, ite_true, ite_false, reduceIte, Bool.false_eq_true, Option.map_some, Option.bind_some, hn, hmin, hadd]
    have lp := st_for (P := PU L68) (cf := cf) (tg := .nm 3) (w := .range) (b := lapB) (ρ := [some (.lst (zs.map .int)), some (.ref 1), some toldD, none, none, none, none, none, none, none, none, none, none, none, none, none, none, none, none, none, none]) (S := S1)
      (fun k ρ S' => (∃ tl : List (Option D), tl.length = 19 ∧ ρ = some (.lst (zs.map .int)) :: some (.ref 1) :: tl) ∧ WS (200 * k) [] S') (bk := fun _ _ => False) (c := fun _ _ => False) (t := fun d _ => d = .bl true) h1 (range_it S1 (by omega)) rfl ?_ ⟨⟨_, rfl, rfl⟩, w1.mono (by omega)⟩
    · refine lp.mono ?_ (fun _ _ h => h) (fun _ _ h => h) (fun _ _ h => h)
      rintro ρ S' ⟨⟨tl, _, rfl⟩, _⟩
      simp only [ev_var, ev_cst, ev_glb, ev_tup, ev_lst, ev_dic, ev_bin, ev_cmp, ev_chn, ev_neg, ev_not, ev_and, ev_or, ev_ite, ev_ix, ev_slc, ev_call, ev_blt, ev_mth, evs_nil, evs_cons, evo_none, evo_some, evc_nil, evc_cons, st_set, st_asg, st_seti, st_aug, st_expr, st_ret, st_retN, st_ite, st_brk, st_cont, st_pass, sts_nil, sts_cons, finS_nx, finS_rt, tg_nm, tg_tup, tg_lst, tgs_nil, tgs_cons, wipeE, itOf, itD, rd, res_some, mkO_false, mkO_lst, mkO_dct, bltD, toInt?, ckI, List.getElem?_cons_zero, List.getElem?_cons_succ, List.set_cons_zero, List.set_cons_succ, r_bind, r_bindN, r_st, seq_nx, seq_rt, seq_bk, seq_ct, List.length_cons, List.length_nil, if_true, if_false, ite_true, ite_false, reduceIte, Bool.false_eq_true, Option.map_some, Option.bind_some]
      exact rfl
    · intro k y ρ S' hy hI
      obtain ⟨⟨tl, hl, rfl⟩, w⟩ := hI
      obtain ⟨x2, x3, x4, x5, x6, x7, x8, x9, x10, x11, x12, x13, x14, x15, x16, x17, x18, x19, x20, rfl⟩ := list19 hl
      have hk : k < 6 + min zs.length 8 := by
        have := (List.getElem?_eq_some_iff.mp hy).1
        simpa using this
      refine ⟨[some (.lst (zs.map .int)), some (.ref 1), x2, some y, x4, x5, x6, x7, x8, x9, x10, x11, x12, x13, x14, x15, x16, x17, x18, x19, x20], by simp only [ev_var, ev_cst, ev_glb, ev_tup, ev_lst, ev_dic, ev_bin, ev_cmp, ev_chn, ev_neg, ev_not, ev_and, ev_or, ev_ite, ev_ix, ev_slc, ev_call, ev_blt, ev_mth, evs_nil, evs_cons, evo_none, evo_some, evc_nil, evc_cons, st_set, st_asg, st_seti, st_aug, st_expr, st_ret, st_retN, st_ite, st_brk, st_cont, st_pass, sts_nil, sts_cons, finS_nx, finS_rt, tg_nm, tg_tup, tg_lst, tgs_nil, tgs_cons, wipeE, itOf, itD, rd, res_some, mkO_false, mkO_lst, mkO_dct, bltD, toInt?, ckI, List.getElem?_cons_zero, List.getElem?_cons_succ, List.set_cons_zero, List.set_cons_succ, r_bind, r_bindN, r_st, seq_nx, seq_rt, seq_bk, seq_ct, List.length_cons, List.length_nil, if_true, if_false, ite_true, ite_false, reduceIte, Bool.false_eq_true, Option.map_some, Option.bind_some], ?_⟩
      refine (k68_lap w (by omega) (some (.lst (zs.map .int))) none x2 (some y) x4 x5 x6 x7 x8 x9 x10 x11 x12 x13 x14 x15 x16 x17 x18 x19 x20).mono ?_ (fun _ _ h => h.elim) (fun _ _ h => h.elim) (fun _ _ h => h.elim)
      rintro ρ' S'' ⟨⟨tl, hl2, rfl⟩, w2⟩
      exact ⟨⟨tl, hl2, rfl⟩, w2.mono (by omega)⟩
  obtain ⟨d, S, e, rfl⟩ := key.eq
  exact ⟨S, e⟩
end QL
set_option maxHeartbeats 0
namespace QL
open PySem PySem.Spec L2
open PyProof.Rows hiding St
def prog : LProg := PU d_law
def i_is_whole : DI := ⟨617, "is_whole", [("thing" : Str)], 8, [("thing" : Str)]⟩
def i_is_below : DI := ⟨571, "is_below", [("thing" : Str), ("many" : Str)], 9, [("thing" : Str), ("many" : Str)]⟩
def i_are_rising : DI := ⟨487, "are_rising", [("things" : Str)], 10, [("things" : Str), ("one" : Str), ("other" : Str)]⟩
def i_number : DI := ⟨738, "number", [("upper" : Str), ("lower" : Str)], 14, [("upper" : Str), ("lower" : Str), ("by" : Str)]⟩
def i_is_number : DI := ⟨598, "is_number", [("thing" : Str)], 15, [("thing" : Str), ("one" : Str)]⟩
def i_plus : DI := ⟨768, "plus", [("one" : Str), ("other" : Str)], 16, [("one" : Str), ("other" : Str)]⟩
def i_minus : DI := ⟨686, "minus", [("one" : Str)], 17, [("one" : Str)]⟩
def i_times : DI := ⟨832, "times", [("one" : Str), ("other" : Str)], 18, [("one" : Str), ("other" : Str)]⟩
def i_need_many : DI := ⟨711, "need_many", [("many" : Str)], 21, [("many" : Str)]⟩
def i_is_of : DI := ⟨600, "is_of", [("many" : Str), ("thing" : Str)], 22, [("many" : Str), ("thing" : Str), ("one" : Str)]⟩
def i_lots_of : DI := ⟨679, "lots_of", [("many" : Str)], 23, [("many" : Str), ("found" : Str), ("number" : Str), ("lot" : Str)]⟩
def i_lots : DI := ⟨677, "lots", [("many" : Str)], 24, [("many" : Str)]⟩
def i_need_lots : DI := ⟨710, "need_lots", [("many" : Str), ("one" : Str), ("other" : Str)], 25, [("many" : Str), ("one" : Str), ("other" : Str)]⟩
def i_parted : DI := ⟨754, "parted", [("one" : Str), ("other" : Str)], 26, [("one" : Str), ("other" : Str), ("here" : Str)]⟩
def i_below : DI := ⟨501, "below", [("lot" : Str), ("number" : Str)], 27, [("lot" : Str), ("number" : Str), ("one" : Str)]⟩
def i_sign_of : DI := ⟨803, "sign_of", [("one" : Str), ("other" : Str)], 28, [("one" : Str), ("other" : Str), ("number" : Str), ("found" : Str), ("here" : Str), ("there" : Str), ("is_here" : Str), ("is_there" : Str)]⟩
def i_worth_of : DI := ⟨892, "worth_of", [("steps" : Str), ("one" : Str), ("other" : Str)], 29, [("steps" : Str), ("one" : Str), ("other" : Str), ("found" : Str), ("number" : Str)]⟩
def i_need_steps : DI := ⟨729, "need_steps", [("steps" : Str)], 30, [("steps" : Str), ("one" : Str)]⟩
def i_worth : DI := ⟨891, "worth", [("steps" : Str), ("one" : Str), ("other" : Str)], 31, [("steps" : Str), ("one" : Str), ("other" : Str)]⟩
def i_middle_lots : DI := ⟨685, "middle_lots", [("steps" : Str)], 33, [("steps" : Str), ("some" : Str), ("one" : Str), ("other" : Str)]⟩
def i_is_any_table : DI := ⟨569, "is_any_table", [("thing" : Str)], 36, [("thing" : Str), ("one" : Str)]⟩
def i_need_any : DI := ⟨696, "need_any", [("table" : Str)], 37, [("table" : Str)]⟩
def i_count_of : DI := ⟨527, "count_of", [("table" : Str)], 38, [("table" : Str)]⟩
def i_is_table : DI := ⟨608, "is_table", [("many" : Str), ("thing" : Str)], 39, [("many" : Str), ("thing" : Str)]⟩
def i_need_table : DI := ⟨730, "need_table", [("many" : Str), ("table" : Str)], 40, [("many" : Str), ("table" : Str)]⟩
def i_need_alike : DI := ⟨695, "need_alike", [("one" : Str), ("other" : Str)], 41, [("one" : Str), ("other" : Str)]⟩
def i_made : DI := ⟨680, "made", [("numbers" : Str)], 42, [("numbers" : Str)]⟩
def i_lines : DI := ⟨667, "lines", [("table" : Str)], 43, [("table" : Str)]⟩
def i_summed : DI := ⟨818, "summed", [("one" : Str), ("other" : Str)], 44, [("one" : Str), ("other" : Str), ("here" : Str), ("there" : Str)]⟩
def i_scaled : DI := ⟨794, "scaled", [("by" : Str), ("table" : Str)], 45, [("by" : Str), ("table" : Str), ("here" : Str)]⟩
def i_fold_of : DI := ⟨551, "fold_of", [("steps" : Str), ("one" : Str), ("other" : Str)], 46, [("steps" : Str), ("one" : Str), ("other" : Str), ("found" : Str), ("first" : Str), ("here" : Str), ("there" : Str), ("second" : Str), ("lot" : Str), ("by" : Str)]⟩
def i_plus_tables : DI := ⟨769, "plus_tables", [("one" : Str), ("other" : Str)], 47, [("one" : Str), ("other" : Str)]⟩
def i_fold_tables : DI := ⟨553, "fold_tables", [("steps" : Str), ("one" : Str), ("other" : Str)], 48, [("steps" : Str), ("one" : Str), ("other" : Str)]⟩
def i_scaled_table : DI := ⟨797, "scaled_table", [("by" : Str), ("table" : Str)], 49, [("by" : Str), ("table" : Str)]⟩
def i_need_own : DI := ⟨719, "need_own", [("steps" : Str), ("table" : Str)], 51, [("steps" : Str), ("table" : Str)]⟩
def i_less : DI := ⟨655, "less", [("one" : Str), ("other" : Str)], 53, [("one" : Str), ("other" : Str)]⟩
def i_exchange : DI := ⟨540, "exchange", [("steps" : Str), ("one" : Str), ("other" : Str)], 54, [("steps" : Str), ("one" : Str), ("other" : Str)]⟩
def i_law_begun : DI := ⟨126, "_law_begun", [("script" : Str)], 56, [("script" : Str), ("great" : Str), ("cell" : Str)]⟩
def i_law_mixed : DI := ⟨278, "_law_mixed", [("state" : Str)], 57, [("state" : Str), ("prime" : Str), ("turn" : Str), ("found" : Str), ("blend" : Str), ("cell" : Str)]⟩
def i_law_draw : DI := ⟨166, "_law_draw", [("state" : Str), ("room" : Str)], 58, [("state" : Str), ("room" : Str), ("found" : Str)]⟩
def i_law_pick : DI := ⟨319, "_law_pick", [("state" : Str), ("some" : Str)], 59, [("state" : Str), ("some" : Str)]⟩
def i_law_plain : DI := ⟨322, "_law_plain", [("value" : Str)], 60, [("value" : Str), ("one" : Str)]⟩
def i_law_is : DI := ⟨213, "_law_is", [("found" : Str), ("due" : Str)], 61, [("found" : Str), ("due" : Str)]⟩
def i_law_common : DI := ⟨151, "_law_common", [("one" : Str), ("other" : Str)], 62, [("one" : Str), ("other" : Str)]⟩
def i_law_no : DI := ⟨288, "_law_no", [("upper" : Str), ("lower" : Str)], 63, [("upper" : Str), ("lower" : Str), ("by" : Str)]⟩
def i_law_times : DI := ⟨429, "_law_times", [("one" : Str), ("other" : Str)], 64, [("one" : Str), ("other" : Str)]⟩
def i_law_some_number : DI := ⟨381, "_law_some_number", [("state" : Str), ("wide" : Str)], 65, [("state" : Str), ("wide" : Str), ("upper" : Str)]⟩
def i_law_lots : DI := ⟨266, "_law_lots", [("many" : Str)], 66, [("many" : Str), ("found" : Str), ("at" : Str), ("lot" : Str)]⟩
def i_law_sign : DI := ⟨358, "_law_sign", [("one" : Str), ("other" : Str)], 67, [("one" : Str), ("other" : Str), ("top" : Str), ("turned" : Str), ("here" : Str), ("there" : Str), ("lot" : Str)]⟩
def i_law_by : DI := ⟨141, "_law_by", [("steps" : Str), ("one" : Str), ("other" : Str)], 68, [("steps" : Str), ("one" : Str), ("other" : Str), ("found" : Str), ("at" : Str)]⟩
def i_law_ones : DI := ⟨302, "_law_ones", [("many" : Str)], 69, [("many" : Str), ("wide" : Str), ("own" : Str), ("at" : Str)]⟩
def i_law_at_lots : DI := ⟨119, "_law_at_lots", [("many" : Str), ("some" : Str)], 70, [("many" : Str), ("some" : Str), ("known" : Str), ("lot" : Str)]⟩
def i_law_drawn_steps : DI := ⟨168, "_law_drawn_steps", [("state" : Str), ("many" : Str)], 71, [("state" : Str), ("many" : Str), ("lap" : Str)]⟩
def i_law_many : DI := ⟨271, "_law_many", [("state" : Str), ("most" : Str)], 72, [("state" : Str), ("most" : Str)]⟩
def i_law_some_line : DI := ⟨379, "_law_some_line", [("state" : Str), ("many" : Str)], 73, [("state" : Str), ("many" : Str), ("lot" : Str)]⟩
def i_law : DI := ⟨635, "law", [("script" : Str)], 74, [("script" : Str), ("state" : Str), ("told" : Str), ("lap" : Str), ("many" : Str), ("steps" : Str), ("due" : Str), ("own" : Str), ("line" : Str), ("drawn" : Str), ("swaps" : Str), ("is_middle" : Str), ("places" : Str), ("found" : Str), ("other" : Str), ("zero" : Str), ("one" : Str), ("lot" : Str), ("number_v" : Str), ("swap" : Str), ("step" : Str)]⟩
def infos : List DI := [i_is_whole, i_is_below, i_are_rising, i_number, i_is_number, i_plus, i_minus, i_times, i_need_many, i_is_of, i_lots_of, i_lots, i_need_lots, i_parted, i_below, i_sign_of, i_worth_of, i_need_steps, i_worth, i_middle_lots, i_is_any_table, i_need_any, i_count_of, i_is_table, i_need_table, i_need_alike, i_made, i_lines, i_summed, i_scaled, i_fold_of, i_plus_tables, i_fold_tables, i_scaled_table, i_need_own, i_less, i_exchange, i_law_begun, i_law_mixed, i_law_draw, i_law_pick, i_law_plain, i_law_is, i_law_common, i_law_no, i_law_times, i_law_some_number, i_law_lots, i_law_sign, i_law_by, i_law_ones, i_law_at_lots, i_law_drawn_steps, i_law_many, i_law_some_line, i_law]
def tab : Tab := { fn := infos.map DI.ent, con := [(103, ("ZERO" : Str)), (93, ("ONE" : Str)), (37, ("MOST_DOUBLINGS" : Str)), (101, ("WIDTHS" : Str))], tups := [103, 93, 101], gcd := true }
abbrev R : PySem.W.OpenRow := PySem.W.OpenLaw.row PySem.Challenge.rw_doublingbook_k68_whole_lots_exchanged_wi
def top (i : Nat) : Stmt := R.prog.main.body.getD i (.Pass ⟨0, 0, 0, 0⟩)
theorem st_is_whole : i_is_whole.st top prog tab = true := by kernel_rfl
theorem st_is_below : i_is_below.st top prog tab = true := by kernel_rfl
theorem st_are_rising : i_are_rising.st top prog tab = true := by kernel_rfl
theorem st_number : i_number.st top prog tab = true := by kernel_rfl
theorem st_is_number : i_is_number.st top prog tab = true := by kernel_rfl
theorem st_plus : i_plus.st top prog tab = true := by kernel_rfl
theorem st_minus : i_minus.st top prog tab = true := by kernel_rfl
theorem st_times : i_times.st top prog tab = true := by kernel_rfl
theorem st_need_many : i_need_many.st top prog tab = true := by kernel_rfl
theorem st_is_of : i_is_of.st top prog tab = true := by kernel_rfl
theorem st_lots_of : i_lots_of.st top prog tab = true := by kernel_rfl
theorem st_lots : i_lots.st top prog tab = true := by kernel_rfl
theorem st_need_lots : i_need_lots.st top prog tab = true := by kernel_rfl
theorem st_parted : i_parted.st top prog tab = true := by kernel_rfl
theorem st_below : i_below.st top prog tab = true := by kernel_rfl
theorem st_sign_of : i_sign_of.st top prog tab = true := by kernel_rfl
theorem st_worth_of : i_worth_of.st top prog tab = true := by kernel_rfl
theorem st_need_steps : i_need_steps.st top prog tab = true := by kernel_rfl
theorem st_worth : i_worth.st top prog tab = true := by kernel_rfl
theorem st_middle_lots : i_middle_lots.st top prog tab = true := by kernel_rfl
theorem st_is_any_table : i_is_any_table.st top prog tab = true := by kernel_rfl
theorem st_need_any : i_need_any.st top prog tab = true := by kernel_rfl
theorem st_count_of : i_count_of.st top prog tab = true := by kernel_rfl
theorem st_is_table : i_is_table.st top prog tab = true := by kernel_rfl
theorem st_need_table : i_need_table.st top prog tab = true := by kernel_rfl
theorem st_need_alike : i_need_alike.st top prog tab = true := by kernel_rfl
theorem st_made : i_made.st top prog tab = true := by kernel_rfl
theorem st_lines : i_lines.st top prog tab = true := by kernel_rfl
theorem st_summed : i_summed.st top prog tab = true := by kernel_rfl
theorem st_scaled : i_scaled.st top prog tab = true := by kernel_rfl
theorem st_fold_of : i_fold_of.st top prog tab = true := by kernel_rfl
theorem st_plus_tables : i_plus_tables.st top prog tab = true := by kernel_rfl
theorem st_fold_tables : i_fold_tables.st top prog tab = true := by kernel_rfl
theorem st_scaled_table : i_scaled_table.st top prog tab = true := by kernel_rfl
theorem st_need_own : i_need_own.st top prog tab = true := by kernel_rfl
theorem st_less : i_less.st top prog tab = true := by kernel_rfl
theorem st_exchange : i_exchange.st top prog tab = true := by kernel_rfl
theorem st_law_begun : i_law_begun.st top prog tab = true := by kernel_rfl
theorem st_law_mixed : i_law_mixed.st top prog tab = true := by kernel_rfl
theorem st_law_draw : i_law_draw.st top prog tab = true := by kernel_rfl
theorem st_law_pick : i_law_pick.st top prog tab = true := by kernel_rfl
theorem st_law_plain : i_law_plain.st top prog tab = true := by kernel_rfl
theorem st_law_is : i_law_is.st top prog tab = true := by kernel_rfl
theorem st_law_common : i_law_common.st top prog tab = true := by kernel_rfl
theorem st_law_no : i_law_no.st top prog tab = true := by kernel_rfl
theorem st_law_times : i_law_times.st top prog tab = true := by kernel_rfl
theorem st_law_some_number : i_law_some_number.st top prog tab = true := by kernel_rfl
theorem st_law_lots : i_law_lots.st top prog tab = true := by kernel_rfl
theorem st_law_sign : i_law_sign.st top prog tab = true := by kernel_rfl
theorem st_law_by : i_law_by.st top prog tab = true := by kernel_rfl
theorem st_law_ones : i_law_ones.st top prog tab = true := by kernel_rfl
theorem st_law_at_lots : i_law_at_lots.st top prog tab = true := by kernel_rfl
theorem st_law_drawn_steps : i_law_drawn_steps.st top prog tab = true := by kernel_rfl
theorem st_law_many : i_law_many.st top prog tab = true := by kernel_rfl
theorem st_law_some_line : i_law_some_line.st top prog tab = true := by kernel_rfl
theorem st_law : i_law.st top prog tab = true := by kernel_rfl
theorem st_all : ∀ e ∈ infos, e.st top prog tab = true := by
  intro e he
  simp only [infos, List.mem_cons, List.not_mem_nil, or_false] at he
  rcases he with rfl | rfl | rfl | rfl | rfl | rfl | rfl | rfl | rfl | rfl | rfl | rfl | rfl | rfl | rfl | rfl | rfl | rfl | rfl | rfl | rfl | rfl | rfl | rfl | rfl | rfl | rfl | rfl | rfl | rfl | rfl | rfl | rfl | rfl | rfl | rfl | rfl | rfl | rfl | rfl | rfl | rfl | rfl | rfl | rfl | rfl | rfl | rfl | rfl | rfl | rfl | rfl | rfl | rfl | rfl | rfl
  · exact st_is_whole
  · exact st_is_below
  · exact st_are_rising
  · exact st_number
  · exact st_is_number
  · exact st_plus
  · exact st_minus
  · exact st_times
  · exact st_need_many
  · exact st_is_of
  · exact st_lots_of
  · exact st_lots
  · exact st_need_lots
  · exact st_parted
  · exact st_below
  · exact st_sign_of
  · exact st_worth_of
  · exact st_need_steps
  · exact st_worth
  · exact st_middle_lots
  · exact st_is_any_table
  · exact st_need_any
  · exact st_count_of
  · exact st_is_table
  · exact st_need_table
  · exact st_need_alike
  · exact st_made
  · exact st_lines
  · exact st_summed
  · exact st_scaled
  · exact st_fold_of
  · exact st_plus_tables
  · exact st_fold_tables
  · exact st_scaled_table
  · exact st_need_own
  · exact st_less
  · exact st_exchange
  · exact st_law_begun
  · exact st_law_mixed
  · exact st_law_draw
  · exact st_law_pick
  · exact st_law_plain
  · exact st_law_is
  · exact st_law_common
  · exact st_law_no
  · exact st_law_times
  · exact st_law_some_number
  · exact st_law_lots
  · exact st_law_sign
  · exact st_law_by
  · exact st_law_ones
  · exact st_law_at_lots
  · exact st_law_drawn_steps
  · exact st_law_many
  · exact st_law_some_line
  · exact st_law
def loose0 : List Str := [("DoublingError" : Str), ("NoNumber" : Str), ("NoSteps" : Str), ("NoLot" : Str), ("NoTable" : Str), ("is_whole" : Str), ("is_below" : Str), ("are_rising" : Str), ("ZERO" : Str), ("ONE" : Str), ("number" : Str), ("is_number" : Str), ("plus" : Str), ("minus" : Str), ("times" : Str), ("MOST_DOUBLINGS" : Str), ("need_many" : Str), ("is_of" : Str), ("lots_of" : Str), ("lots" : Str), ("need_lots" : Str), ("parted" : Str), ("below" : Str), ("sign_of" : Str), ("worth_of" : Str), ("need_steps" : Str), ("worth" : Str), ("middle_lots" : Str), ("WIDTHS" : Str), ("is_any_table" : Str), ("need_any" : Str), ("count_of" : Str), ("is_table" : Str), ("need_table" : Str), ("need_alike" : Str), ("made" : Str), ("lines" : Str), ("summed" : Str), ("scaled" : Str), ("fold_of" : Str)]
def loose1 : List Str := [("plus_tables" : Str), ("fold_tables" : Str), ("scaled_table" : Str), ("need_own" : Str), ("less" : Str), ("exchange" : Str), ("_law_begun" : Str), ("_law_mixed" : Str), ("_law_draw" : Str), ("_law_pick" : Str), ("_law_plain" : Str), ("_law_is" : Str), ("_law_common" : Str), ("_law_no" : Str), ("_law_times" : Str), ("_law_some_number" : Str), ("_law_lots" : Str), ("_law_sign" : Str), ("_law_by" : Str), ("_law_ones" : Str), ("_law_at_lots" : Str), ("_law_drawn_steps" : Str), ("_law_many" : Str), ("_law_some_line" : Str)]
def loose : List Str := loose0 ++ loose1
def dds : List He.DefD := infos.map (DI.dd top prog)
abbrev hk : PySem.W.Hook := hookQ 3 dds (exB infos prog tab)
theorem run (w : World) : HandSHeadRun.RunEqI R (PySem.W.view R.prog [0, 74]) hk (fun s => obsQ 3 dds (exB infos prog tab) (HandSHeadRun.getT s)) 6000 loose w := by
  unfold HandSHeadRun.RunEqI
  kernel_rfl
theorem law_says : ∀ zs : List Int, zs.length ≤ 63 → (∀ z ∈ zs, Builtin.Int.intBits z ≤ 1048576) → ∃ S, callN prog 60 635 [.lst (zs.map .int)] [] [] = .ok (.bl true) S := fun zs h _ => k68_law h
end QL
open PySem PySem.W PySem.Calls PyProof.Rows
set_option maxRecDepth 100000 in
set_option maxHeartbeats 8000000 in
theorem PySem.Challenge.cw_doublingbook_k68_whole_lots_exchanged_wi_holds : PySem.Challenge.rw_doublingbook_k68_whole_lots_exchanged_wi.Holds := by
  w_on; o_law
  refine HandSHeadRun.head_imp (r := OpenLaw.row PySem.Challenge.rw_doublingbook_k68_whole_lots_exchanged_wi) (q := view (OpenLaw.row PySem.Challenge.rw_doublingbook_k68_whole_lots_exchanged_wi).prog [0, 74]) (H := QL.hk) (ob := fun s => QL.obsQ 3 QL.dds (QL.exB QL.infos QL.prog QL.tab) (HandSHeadRun.getT s)) (M := 6000) (loose := QL.loose) (d := HandSHeadRun.topDef (OpenLaw.row PySem.Challenge.rw_doublingbook_k68_whole_lots_exchanged_wi).prog 74) (kwd := []) (fun s => QL.obsQ_eq s)
    QL.run (by kernel_rfl) (by kernel_rfl) (by kernel_rfl) (by rfl) (by first | assumption | decide +kernel) (by decide +kernel) ⟨rfl, rfl, rfl, rfl, rfl, by decide +kernel⟩ ?hw ?hc
  case hw => w_witness2
  case hc =>
    refine QL.walk_G (l := PySem.Challenge.rw_doublingbook_k68_whole_lots_exchanged_wi) (n := 63) (k := 60) (LP := QL.prog) (T := QL.tab) (lf := 635) rfl (by decide) (by kernel_rfl) ⟨rfl, by decide, by decide⟩ ?F (by kernel_rfl) QL.law_says
    intro w mg h Y G
    obtain ⟨K, inK, c, ex⟩ := Y
    exact ⟨K, fun _ => none, inK, QL.topOk_of rfl QL.st_all inK G (QL.says_defs c) ex⟩

